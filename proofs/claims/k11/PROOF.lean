import PyProof.Rows.All
import PySem.PyData
import HandS.ForMost
import HandS.ForExc
import HandS.Deep
import HandS.Flow
import HandS.Conv
import HandS.Codes
import HandS.NoneIn
import HandS.Lambda
import HandS.TupAny
import HandS.IsInst
import HandS.Star
import HandS.Style
import HandS.RevTup
import HandS.ListItems
import HandS.More
import HandS.SortRule
import KE.LtData
import PyProof.DefCall
import HandS.ExcOwn
import KE.GoesEnum
import KE.GoesZip
import KE.GoesMore
import HandS.Zip
import PyProof.EnumMake
import HandS.TryMany
import HandS.HeadHook4
import HandS.HeadWalk
import HandS.HeadEnd
import KE.KStateDown
import Lean
import HandS.Head0
import HandS.Head1
import HandS.Head2
import PySem.Challenge.RW_usuallyso_k11_whole_books_and_ranks_that
section
set_option linter.all false
set_option maxRecDepth 100000
/-! Us.Ex: a small language of defs over plain data, and its executor. -/
namespace Us
open PySem (Str)

/-- a dict's key -/
abbrev Ky := Sum Int Str
/-- plain data: what is told and handed about. stm: the law's stream -/
inductive D where
  | non | bl (b : Bool) | int (i : Int) | str (x : Str)
  | tup (xs : List D) | lst (xs : List D) | dic (kvs : List (Ky × D))
  | fn (f : Nat) | stm | scr (cs : List Int)
  deriving Inhabited

inductive BinO where | add | sub | mul | fdiv | mod | pow
  deriving DecidableEq
inductive CmpO where | eq | ne | lt | le | gt | ge | is | isnot | mem | notmem
  deriving DecidableEq
inductive Ty where | int | str | bool | list | tuple | dict
  deriving DecidableEq
/-- built-in functions of one argument -/
inductive Bi where | len | list | tuple | sorted | all | any | min | max | sum | abs | int | str | dict
  deriving DecidableEq
/-- methods that read -/
inductive Mt where | get | index | join | split
  deriving DecidableEq
/-- methods that write -/
inductive Mu where | append | extend | pop | insert | update | clear
  deriving DecidableEq

inductive Tg where
  | nm (i : Nat) | tp (ts : List Tg)

mutual
inductive E where
  | var (i : Nat) | fn (f : Nat) | int (i : Int) | str (x : Str) | bl (b : Bool) | non
  | bin (o : BinO) (a b : E)
  | cmp (o : CmpO) (a b : E)
  | chain (o p : CmpO) (a b c : E)
  | and (a r : E) | or (a r : E) | one (a : E)
  | not (a : E) | neg (a : E)
  | ite (c a b : E)
  | tup (es : Es) | lst (es : Es)
  | star (a : E) (es : Es)
  | dct (kvs : Es)
  | call (f : Nat) (es : Es)
  | callk (f : Nat) (p : List Nat) (es : Es)
  | callv (i : Nat) (es : Es)
  | callL (f : Nat) (b : E)
  | bi (f : Bi) (a : E)
  | min2 (a b : E) | max2 (a b : E)
  | listr (n : E) | litems (a : E)
  | isa (a : E) (ts : List Ty)
  | idx (a i : E)
  | from_ (a i : E) | upto (a i : E) | part (a i j : E) | back (a : E)
  | mt (m : Mt) (o : E) (es : Es)
  | mut (m : Mu) (i : Nat) (es : Es)
  | comp (w : List Nat) (elt : E) (t : Tg) (it : It)
  | compIf (w : List Nat) (elt : E) (t : Tg) (it : It) (c : E)
  | draw (st n : E)
  | stream (a : E)
  | fld (k i : Nat)
inductive Es where
  | nil | cons (e : E) (es : Es)
inductive It where
  | e (a : E) | rng (n : E) | rng2 (a b : E) | enum (a : E) | zip (a b : E) | items (a : E)
end

inductive St where
  | asg (t : Tg) (e : E)
  | new (i : Nat) (e : E)
  | par2 (i j : Nat) (p q : Bool) (a b : E)
  | par3 (i j k : Nat) (p q r : Bool) (a b c : E)
  | setix (i : Nat) (k e : E)
  | expr (e : E)
  | ite (c : E) (a b : List St)
  | for_ (t : Tg) (it : It) (body : List St)
  | while_ (c : E) (body : List St)
  | ret (e : E) | retN
  | pass | cont
  | raise (c : Nat) (e : E)
  | tri (body : List St) (hs : List (List Nat × Nat × E))

structure Fn where
  params : Nat
  slots : Nat
  refs : List Bool := []
  body : List St

/-- what a slot holds: data; a cell of this frame; a lambda with what it captured; a caught error of the class c with the one thing it keeps -/
inductive W where
  | d (x : D) | ref (n : Nat) | lam (b : E) (env : List (Option W)) | exc (c : Nat) (x : D)
abbrev Env := List (Option W)

/-- the law's stream -/
structure Stm where
  cs : List Int
  dg : Int
  ct : Int
  mx : Int
structure S where
  stm : Stm
  cells : List (Bool × D)

inductive R (α : Type) where
  | ok (a : α) (s : S) | exc (c : Nat) (x : D) (s : S) | bad
/-- the type of what goes on with k: it names k, so that simp leaves k alone -/
abbrev KR {α β : Type} (_ : α → S → R β) : Type := R β
def R.bind {α β : Type} (r : R α) (k : α → S → R β) : KR k := match r with
  | .ok a s => k a s
  | .exc c x s => .exc c x s
  | .bad => .bad
inductive RS where
  | nx (env : Env) (s : S) | rt (x : D) (s : S) | ct (env : Env) (s : S) | exc (c : Nat) (x : D) (s : S) | bad
abbrev KS {α : Type} (_ : α → S → RS) : Type := RS
def R.st {α : Type} (r : R α) (k : α → S → RS) : KS k := match r with
  | .ok a s => k a s
  | .exc c x s => .exc c x s
  | .bad => .bad
@[simp] theorem bnd_ok {α β : Type} (a : α) (s : S) (k : α → S → R β) : (R.ok a s).bind k = k a s := rfl
@[simp] theorem bind_exc {α β : Type} (c x) (s : S) (k : α → S → R β) : (R.exc c x s : R α).bind k = .exc c x s := rfl
@[simp] theorem st_ok {α : Type} (a : α) (s : S) (k : α → S → RS) : (R.ok a s).st k = k a s := rfl
@[simp] theorem st_exc {α : Type} (c x) (s : S) (k : α → S → RS) : (R.exc c x s : R α).st k = .exc c x s := rfl
@[simp] theorem bind_bad {α β : Type} (k : α → S → R β) : (R.bad : R α).bind k = .bad := rfl
@[simp] theorem st_bad {α : Type} (k : α → S → RS) : (R.bad : R α).st k = .bad := rfl
def opt {α : Type} (o : Option α) (s : S) : R α := match o with
  | some a => .ok a s
  | none => .bad

def sx (l : List Nat) : Str := ⟨l.toArray⟩
/-! ### data -/
def lim : Nat := 16777216
mutual
def D.eqv : D → D → Bool
  | .non, .non => true
  | .bl a, .bl b => a == b
  | .bl a, .int j => (if a then 1 else 0) == j
  | .int i, .bl b => i == (if b then 1 else 0)
  | .int i, .int j => i == j
  | .str x, .str y => x == y
  | .lst xs, .lst ys => eqvs xs ys
  | .tup xs, .tup ys => eqvs xs ys
  | _, _ => false
def D.eqvs : List D → List D → Bool
  | [], [] => true
  | x :: xs, y :: ys => D.eqv x y && D.eqvs xs ys
  | _, _ => false
end
mutual
/-- nothing but None, bools, ints, texts, lists, tuples -/
def D.flatK : D → Bool
  | .non => true | .bl _ => true | .int _ => true | .str _ => true
  | .lst xs => flatKs xs
  | .tup xs => flatKs xs
  | _ => false
def D.flatKs : List D → Bool
  | [] => true
  | x :: xs => x.flatK && flatKs xs
end
mutual
def D.depth : D → Nat
  | .lst xs => depths xs + 1
  | .tup xs => depths xs + 1
  | .dic _ => 1
  | _ => 0
def D.depths : List D → Nat
  | [] => 0
  | x :: xs => max x.depth (depths xs)
end
def D.atom : D → Bool
  | .non => true | .bl _ => true | .int _ => true | .str _ => true
  | _ => false
mutual
/-- no list, no dict within -/
def D.still : D → Bool
  | .non => true | .bl _ => true | .int _ => true | .str _ => true | .fn _ => true | .stm => true
  | .tup xs => stills xs
  | .lst _ => false | .dic _ => false | .scr _ => false
def D.stills : List D → Bool
  | [] => true
  | x :: xs => x.still && stills xs
end

/-- a dict's entries -/
def keyK : D → Option Ky
  | .int i => some (.inl i)
  | .str x => some (.inr x)
  | _ => none
def kyD : Ky → D
  | .inl i => .int i
  | .inr x => .str x
def dget (kvs : List (Ky × D)) (k : Ky) : Option D := (kvs.find? fun kv => decide (kv.1 = k)).map (·.2)
def dput (kvs : List (Ky × D)) (k : Ky) (v : D) : List (Ky × D) :=
  if (kvs.any fun kv => decide (kv.1 = k)) = true then kvs.map fun kv => if kv.1 = k then (kv.1, v) else kv else kvs ++ [(k, v)]
def dmerge (kvs more : List (Ky × D)) : List (Ky × D) := more.foldl (fun acc kv => dput acc kv.1 kv.2) kvs
/-- == -/
def eqD (a b : D) : Option Bool :=
  if a.atom || b.atom then (if a.flatK && b.flatK then some (a.eqv b) else none)
  else if a.flatK && b.flatK && decide (min a.depth b.depth ≤ 64) then some (a.eqv b) else none
def D.isDic : D → Bool
  | .dic _ => true
  | _ => false
def D.isC : D → Bool
  | .dic _ => true
  | .lst _ => true
  | _ => false
def D.isI : D → Bool
  | .int _ => true
  | _ => false
def D.isNon : D → Bool
  | .non => true
  | _ => false
def isD (a b : D) : Option Bool := match b with
  | .non => some a.isNon
  | _ => none
def strLt : List Nat → List Nat → Bool
  | [], [] => false
  | [], _ :: _ => true
  | _ :: _, [] => false
  | a :: x, b :: y => a < b || (a == b && strLt x y)
def occ (x y : Str) : Bool := List.isPrefixOf x.cps.toList y.cps.toList || (match y.cps.toList with
  | [] => false
  | _ => (List.range (y.cps.size + 1)).any fun k => List.isPrefixOf x.cps.toList (y.cps.toList.drop k))
def memD (x y : D) : Option Bool := match y with
  | .lst ys => if x.flatK && D.flatKs ys && decide (x.depth ≤ 64) then some (ys.any fun z => z.eqv x) else none
  | .tup ys => if x.atom && ys.all D.atom then some (ys.any fun z => z.eqv x) else none
  | .dic kvs => (keyK x).map fun k => (dget kvs k).isSome
  | .str t => (match x with
    | .str z => (match z.cps.toList with
      | [c] => some (t.cps.toList.contains c)
      | _ => none)
    | _ => none)
  | _ => none
def cmpI (f : Int → Int → Bool) (g : List Nat → List Nat → Bool) (a b : D) : Option Bool := match a, b with
  | .int i, .int j => some (f i j)
  | .str x, .str y => some (g x.cps.toList y.cps.toList)
  | _, _ => none
def cmpD (o : CmpO) (a b : D) : Option Bool := match o with
  | .eq => eqD a b
  | .ne => (eqD a b).map (!·)
  | .is => isD a b
  | .isnot => (isD a b).map (!·)
  | .mem => memD a b
  | .notmem => (memD a b).map (!·)
  | .lt => cmpI (fun i j => decide (i < j)) strLt a b
  | .le => cmpI (fun i j => decide (i ≤ j)) (fun x y => !strLt y x) a b
  | .gt => cmpI (fun i j => decide (j < i)) (fun x y => strLt y x) a b
  | .ge => cmpI (fun i j => decide (j ≤ i)) (fun x y => !strLt x y) a b

def binD (o : BinO) (a b : D) : Option D := match o, a, b with
  | .add, .int i, .int j => some (.int (i + j))
  | .add, .str x, .str y => if x.cps.size + y.cps.size ≤ lim then some (.str ⟨x.cps ++ y.cps⟩) else none
  | .add, .lst xs, .lst ys => if xs.length + ys.length ≤ lim then some (.lst (xs ++ ys)) else none
  | .add, .tup xs, .tup ys => if xs.length + ys.length ≤ lim && !xs.isEmpty && !ys.isEmpty then some (.tup (xs ++ ys)) else none
  | .sub, .int i, .int j => some (.int (i - j))
  | .mul, .int i, .int j => if i.natAbs < 2 ^ 64 then some (.int (i * j)) else none
  | .mul, .lst xs, .int j => if xs.length * j.toNat ≤ lim && decide (j.natAbs < 2 ^ 62) then some (.lst (List.replicate j.toNat xs).flatten) else none
  | .fdiv, .int i, .int j => if j ≠ 0 ∧ j.natAbs < 1073741824 then some (.int (i.fdiv j)) else none
  | .mod, .int i, .int j => if j ≠ 0 then some (.int (i.fmod j)) else none
  | .pow, .int i, .int j => if 0 ≤ j ∧ j ≤ 1000000 ∧ i.natAbs < 2 ^ 64 then some (.int (i ^ j.toNat)) else none
  | _, _, _ => none

def isTy : Ty → D → Bool
  | .int, .int _ => true
  | .int, .bl _ => true
  | .bool, .bl _ => true
  | .str, .str _ => true
  | .list, .lst _ => true
  | .tuple, .tup _ => true
  | .dict, .dic _ => true
  | _, _ => false
def D.kinded : D → Bool
  | .fn _ => false | .stm => false | .scr _ => false
  | _ => true
/-- what a for walks -/
def walkD (d : Bool) : D → Option (List D)
  | .lst xs => some xs
  | .tup xs => some xs
  | .str x => some (x.cps.toList.map fun c => .str ⟨#[c]⟩)
  | .dic kvs => if d = true then some (kvs.map fun p => kyD p.1) else none
  | _ => none
def seqD : D → Option (List D)
  | .lst xs => some xs
  | .tup xs => some xs
  | _ => none
def allBl : List D → Option Bool
  | [] => some true
  | .bl b :: r => (allBl r).map (b && ·)
  | _ => none
def anyBl : List D → Option Bool
  | [] => some false
  | .bl b :: r => (anyBl r).map (b || ·)
  | _ => none
def intsD : List D → Option (List Int)
  | [] => some []
  | .int i :: r => (intsD r).map (i :: ·)
  | _ => none
def minI : Int → List Int → Int
  | a, [] => a
  | a, b :: r => minI (if b < a then b else a) r
def maxI : Int → List Int → Int
  | a, [] => a
  | a, b :: r => maxI (if b > a then b else a) r
/-- texts and lists of texts by their codes, for sorted -/
def strsD : List D → Option (List (List Nat))
  | [] => some []
  | .str x :: r => (strsD r).map (x.cps.toList :: ·)
  | _ => none
def listLt : List (List Nat) → List (List Nat) → Bool
  | [], [] => false
  | [], _ :: _ => true
  | _ :: _, [] => false
  | a :: x, b :: y => if a == b then listLt x y else strLt a b
/-- the order that sorted leans on, where it is told: ints, texts, lists of texts -/
inductive SKey where | i (x : Int) | s (x : List Nat) | l (x : List (List Nat))
def keyOf : D → Option SKey
  | .int i => some (.i i)
  | .str x => some (.s x.cps.toList)
  | .lst xs => (strsD xs).map .l
  | _ => none
def SKey.lt : SKey → SKey → Option Bool
  | .i a, .i b => some (decide (a < b))
  | .s a, .s b => some (strLt a b)
  | .l a, .l b => some (listLt a b)
  | _, _ => none
def keysD : List D → Option (List (SKey × D))
  | [] => some []
  | x :: r => match keyOf x, keysD r with
    | some k, some ks => some ((k, x) :: ks)
    | _, _ => none
def insK (p : SKey × D) : List (SKey × D) → Option (List (SKey × D))
  | [] => some [p]
  | q :: r => match q.1.lt p.1 with
    | some true => (insK p r).map (q :: ·)
    | some false => some (p :: q :: r)
    | none => none
def sortK : List (SKey × D) → Option (List (SKey × D))
  | [] => some []
  | p :: r => (sortK r).bind (insK p)
def sortD (xs : List D) : Option (List D) := ((keysD xs).bind sortK).map (·.map (·.2))
def pairsOf : List D → Option (List (Ky × D))
  | [] => some []
  | .tup [k, v] :: r => (match keyK k, pairsOf r with
    | some k, some ps => some ((k, v) :: ps)
    | _, _ => none)
  | _ => none
def digits : List Nat → Option Nat
  | [] => none
  | cs => cs.foldl (fun acc c => acc.bind fun n => if 48 ≤ c ∧ c ≤ 57 then some (n * 10 + (c - 48)) else none) (some 0)
def biD (f : Bi) (a : D) : Option D := match f with
  | .len => (match a with
    | .lst xs => some (.int xs.length)
    | .tup xs => some (.int xs.length)
    | .str x => some (.int x.cps.size)
    | .dic kvs => some (.int kvs.length)
    | _ => none)
  | .list => (match a with
    | .lst xs => some (.lst xs)
    | .tup xs => some (.lst xs)
    | .dic kvs => some (.lst (kvs.map fun p => kyD p.1))
    | _ => none)
  | .tuple => (match a with
    | .lst xs => some (.tup xs)
    | .tup xs => some (.tup xs)
    | _ => none)
  | .sorted => (match a with
    | .lst xs => (sortD xs).map .lst
    | _ => none)
  | .all => (match a with
    | .lst xs => (allBl xs).map .bl
    | _ => none)
  | .any => (match a with
    | .lst xs => (anyBl xs).map .bl
    | _ => none)
  | .min => (match a with
    | .lst xs => (match intsD xs with
      | some (n :: r) => some (.int (minI n r))
      | _ => none)
    | _ => none)
  | .max => (match a with
    | .lst xs => (match intsD xs with
      | some (n :: r) => some (.int (maxI n r))
      | _ => none)
    | _ => none)
  | .sum => (match a with
    | .lst xs => (intsD xs).map fun ns => .int ns.sum
    | _ => none)
  | .abs => (match a with
    | .int i => some (.int i.natAbs)
    | _ => none)
  | .int => (match a with
    | .int i => some (.int i)
    | _ => none)
  | .str => none
  | .dict => (match a with
    | .lst xs => (pairsOf xs).map fun ps => .dic (dmerge [] ps)
    | .dic kvs => some (.dic kvs)
    | _ => none)
/-- the place that an index names -/
def place (n : Nat) (i : Int) : Option Nat := if 0 ≤ i then (if i < n then some i.toNat else none) else if 0 ≤ i + n then some (i + n).toNat else none
def idxD (a i : D) : Option D := match a, i with
  | .lst xs, .int k => (place xs.length k).bind fun n => xs[n]?
  | .tup xs, .int k => (place xs.length k).bind fun n => xs[n]?
  | .str x, .int k => (place x.cps.size k).bind fun n => (x.cps[n]?).map fun c => .str ⟨#[c]⟩
  | .dic kvs, k => (keyK k).bind (dget kvs)
  | _, _ => none
/-- a slice's bound, brought into 0 .. n -/
def bound (n : Nat) (i : Int) : Nat := if 0 ≤ i then min i.toNat n else (i + n).toNat
def cutL {α : Type} (xs : List α) (lo hi : Nat) : List α := (xs.take hi).drop lo
def sliD (a : D) (lo hi : Option D) : Option D :=
  let f := fun (n : Nat) => (match lo, hi with
    | none, none => some (0, n)
    | some (.int i), none => some (bound n i, n)
    | none, some (.int j) => some (0, bound n j)
    | some (.int i), some (.int j) => some (bound n i, bound n j)
    | _, _ => none)
  match a with
  | .lst xs => (f xs.length).map fun p => .lst (cutL xs p.1 p.2)
  | .tup xs => (f xs.length).map fun p => .tup (cutL xs p.1 p.2)
  | .str x => (f x.cps.size).map fun p => .str ⟨(cutL x.cps.toList p.1 p.2).toArray⟩
  | _ => none
def mtD (m : Mt) (o : D) (as : List D) : Option D := match m, o, as with
  | .get, .dic kvs, [k, x] => (keyK k).map fun k => (dget kvs k).getD x
  | .get, .dic kvs, [k] => (keyK k).map fun k => (dget kvs k).getD .non
  | _, _, _ => none
/-- a list, a dict changed: (what it is then, the method's value) -/
def muD (m : Mu) (o : D) (as : List D) : Option (D × D) := match m, o, as with
  | .append, .lst xs, [x] => if xs.length < lim then some (.lst (xs ++ [x]), .non) else none
  | .extend, .lst xs, [.lst ys] => if xs.length + ys.length ≤ lim then some (.lst (xs ++ ys), .non) else none
  | .pop, .lst xs, [] => (match xs.getLast? with
    | some x => some (.lst xs.dropLast, x)
    | none => none)
  | .pop, .lst xs, [.int k] => if k.natAbs < 16777216 then (place xs.length k).bind fun n => (xs[n]?).map fun x => (.lst (xs.eraseIdx n), x) else none
  | .insert, .lst xs, [.int k, x] => if xs.length < lim ∧ 0 ≤ k ∧ k < 16777216 then some (.lst (xs.take k.toNat ++ [x] ++ xs.drop k.toNat), .non) else none
  | .clear, .lst _, [] => some (.lst [], .non)
  | .update, .dic kvs, [.dic ks] => some (.dic (dmerge kvs ks), .non)
  | _, _, _ => none

/-- the kind of thing that a method changes -/
def muK (m : Mu) : D → Bool
  | .lst _ => (match m with | .update => false | _ => true)
  | .dic _ => (match m with | .update => true | _ => false)
  | _ => false

/-! ### the stream -/
/-- cells are taken until one is great -/
def feed : List Int → Int → Int → List Int × Int × Int
  | [], mx, dg => ([], mx, dg)
  | c :: cs, mx, dg => if dg = 0 then feed cs ((mx * 6151 + (c.natAbs : Int) + 7).fmod 2147483629) (if (c.natAbs : Int) ≥ 1000000000000000000 then c.natAbs else 0) else (c :: cs, mx, dg)
def Stm.draw (t : Stm) (many : Int) : Int × Stm :=
  let ct := t.ct + 1
  let (cs, mx, dg) := feed t.cs t.mx t.dg
  if dg > 0 then (dg.fmod many, ⟨cs, dg.fdiv many, ct, mx⟩)
  else
    let mixed := ((mx + 8191 * ct + 50021) ^ 5).fmod 2147483587
    (((((mixed * 40009 + 20011 * ct + 31) ^ 3).fmod 1000000009).fmod many), ⟨cs, dg, ct, mx⟩)

/-! ### slots, cells -/
def view (s : S) : W → Option D
  | .d x => some x
  | .ref n => (s.cells[n]?).map (·.2)
  | _ => none
/-- what goes into data, or out: a cell is no cell of ours any more -/
def esc (w : W) (s : S) : R D := match w with
  | .d x => .ok x s
  | .ref n => (match s.cells[n]? with
    | some (_, x) => .ok x { s with cells := s.cells.set n (false, x) }
    | none => .bad)
  | _ => .bad
def bindT : Tg → D → Env → Option Env
  | .nm i, x, env => some (env.set i (some (.d x)))
  | .tp ts, x, env => (match x with
    | .tup xs => bindTs ts xs env
    | .lst xs => bindTs ts xs env
    | _ => none)
where bindTs : List Tg → List D → Env → Option Env
  | [], [], env => some env
  | t :: ts, x :: xs, env => (bindT t x env).bind fun env => bindTs ts xs env
  | _, _, _ => none
def wipe (env : Env) : List Nat → Env
  | [] => env
  | v :: vs => (wipe env vs).set v none
/-- what a lambda keeps of its frame: data alone -/
def captured (env : Env) : Env := env.map fun
  | some (.d x) => some (.d x)
  | _ => none

/-- what stands around an expression: the defs one level down, lambdas likewise, the field that a class of errors keeps -/
structure G where
  call : Nat → List W → S → R D
  clo : E → Env → S → R D
  fld : Nat → Nat → Bool
  cap : Int → Bool
  ar : Nat → Option Nat

def Es.len : Es → Nat
  | .nil => 0
  | .cons _ es => es.len + 1
def E.isDat (env : Env) : E → Bool
  | .var i => (match env[i]? with
    | some (some (.d _)) => true
    | _ => false)
  | _ => false
def W.data (r : R D) : R W := r.bind fun x s => .ok (.d x) s
abbrev KV (_ : D → R W) : Type := R W
def vw (w : W) (s : S) (k : D → R W) : KV k := match view s w with
  | some x => k x
  | none => .bad
def tell (o : Option D) (s : S) : R W := match o with
  | some x => .ok (.d x) s
  | none => .bad
def rangeD (lo : Int) (n : Nat) : List D := (List.range n).map fun (k : Nat) => .int (lo + k)
def enumD (xs : List D) : List D := xs.zipIdx.map fun p => .tup [.int p.2, p.1]
def zipD (xs ys : List D) : List D := List.zipWith (fun x y => .tup [x, y]) xs ys
abbrev KC (_ : D → S → R (Option D)) : Type := R D
def compL (g : D → S → R (Option D)) : List D → List D → S → KC g
  | [], acc, s => .ok (.lst acc.reverse) s
  | x :: xs, acc, s => (g x s).bind fun o s => (match o with
    | some y => if acc.length < lim then compL g xs (y :: acc) s else .bad
    | none => compL g xs acc s)
/-- no error leaves a comprehension here -/
def R.calm {α : Type} : R α → R α
  | .exc _ _ _ => .bad
  | r => r

/-- a display's pairs -/
def pairs : List D → Option (List (Ky × D))
  | [] => some []
  | k :: v :: r => (match keyK k, pairs r with
    | some k, some ps => some ((k, v) :: ps)
    | _, _ => none)
  | _ => none
mutual
def ev (g : G) : E → Env → S → R W
  | .var i, env, s => (match env[i]? with
    | some (some (.d x)) => .ok (.d x) s
    | some (some (.ref n)) => .ok (.ref n) s
    | _ => .bad)
  | .fn f, _, s => .ok (.d (.fn f)) s
  | .int i, _, s => .ok (.d (.int i)) s
  | .str x, _, s => .ok (.d (.str x)) s
  | .bl b, _, s => .ok (.d (.bl b)) s
  | .non, _, s => .ok (.d .non) s
  | .bin o a b, env, s => (ev g a env s).bind fun x s => (ev g b env s).bind fun y s => vw x s fun x => vw y s fun y => tell (binD o x y) s
  | .cmp o a b, env, s => (ev g a env s).bind fun x s => (ev g b env s).bind fun y s => vw x s fun x => vw y s fun y => tell ((cmpD o x y).map .bl) s
  | .chain o p a b c, env, s => (ev g a env s).bind fun x s => (ev g b env s).bind fun y s => vw x s fun dx => vw y s fun dy => (match cmpD o dx dy with
    | some true => (ev g c env s).bind fun z s => vw y s fun dy => vw z s fun z => tell ((cmpD p dy z).map .bl) s
    | some false => .ok (.d (.bl false)) s
    | none => .bad)
  | .and a r, env, s => (ev g a env s).bind fun x s => vw x s fun x => (match x with
    | .bl true => ev g r env s
    | .bl false => .ok (.d (.bl false)) s
    | _ => .bad)
  | .or a r, env, s => (ev g a env s).bind fun x s => vw x s fun x => (match x with
    | .bl true => .ok (.d (.bl true)) s
    | .bl false => ev g r env s
    | _ => .bad)
  | .one a, env, s => ev g a env s
  | .not a, env, s => (ev g a env s).bind fun x s => vw x s fun x => (match x with
    | .bl b => .ok (.d (.bl (!b))) s
    | _ => .bad)
  | .neg a, env, s => (ev g a env s).bind fun x s => vw x s fun x => (match x with
    | .int i => .ok (.d (.int (-i))) s
    | _ => .bad)
  | .ite c a b, env, s => (ev g c env s).bind fun x s => vw x s fun x => (match x with
    | .bl true => ev g a env s
    | .bl false => ev g b env s
    | _ => .bad)
  | .tup es, env, s => (evX g es env s).bind fun xs s => .ok (.d (.tup xs)) s
  | .lst es, env, s => (evX g es env s).bind fun xs s => .ok (.d (.lst xs)) s
  | .star a es, env, s => (ev g a env s).bind fun x s => vw x s fun x => (match seqD x with
    | some xs => (evX g es env s).bind fun ys s => if xs.length + ys.length ≤ lim then .ok (.d (.lst (xs ++ ys))) s else .bad
    | none => .bad)
  | .dct kvs, env, s => (evX g kvs env s).bind fun xs s => tell ((pairs xs).map fun ps => .dic (dmerge [] ps)) s
  | .call f es, env, s => (evs g es env s).bind fun ws s => W.data (g.call f ws s)
  | .callk f p es, env, s => (evs g es env s).bind fun ws s => (match p.mapM fun k => ws[k]? with
    | some ws => W.data (g.call f ws s)
    | none => .bad)
  | .callv i es, env, s => (match env[i]? with
    | some (some (.d (.fn f))) => if g.ar f = some es.len ∧ es.len ≠ 0 then (evs g es env s).bind fun ws s => W.data (g.call f ws s) else .bad
    | some (some (.lam b env')) => (match es with
      | .nil => W.data (g.clo b env' s)
      | _ => .bad)
    | _ => .bad)
  | .callL f b, env, s => W.data (g.call f [.lam b (captured env)] s)
  | .bi f a, env, s => (ev g a env s).bind fun x s => vw x s fun x => tell (biD f x) s
  | .min2 a b, env, s => (ev g a env s).bind fun x s => (ev g b env s).bind fun y s => vw x s fun x => vw y s fun y => (match x, y with
    | .int i, .int j => .ok (.d (.int (if j < i then j else i))) s
    | _, _ => .bad)
  | .max2 a b, env, s => (ev g a env s).bind fun x s => (ev g b env s).bind fun y s => vw x s fun x => vw y s fun y => (match x, y with
    | .int i, .int j => .ok (.d (.int (if j > i then j else i))) s
    | _, _ => .bad)
  | .listr n, env, s => (ev g n env s).bind fun x s => vw x s fun x => (match x with
    | .int k => if k.natAbs < 16777216 then .ok (.d (.lst (rangeD 0 k.toNat))) s else .bad
    | _ => .bad)
  | .litems a, env, s => (ev g a env s).bind fun x s => vw x s fun x => (match x with
    | .dic kvs => .ok (.d (.lst (kvs.map fun p => .tup [kyD p.1, p.2]))) s
    | _ => .bad)
  | .isa a ts, env, s => (ev g a env s).bind fun x s => vw x s fun x => if x.kinded then .ok (.d (.bl (ts.any fun t => isTy t x))) s else .bad
  | .idx a i, env, s => (ev g a env s).bind fun x s => (ev g i env s).bind fun y s => vw x s fun x => vw y s fun y => tell (idxD x y) s
  | .from_ a i, env, s => (ev g a env s).bind fun x s => (ev g i env s).bind fun y s => vw x s fun x => vw y s fun y => tell (sliD x (some y) none) s
  | .upto a i, env, s => (ev g a env s).bind fun x s => (ev g i env s).bind fun y s => vw x s fun x => vw y s fun y => tell (sliD x none (some y)) s
  | .part a i j, env, s => (ev g a env s).bind fun x s => (ev g i env s).bind fun y s => vw y s fun y => if y.isI = true then (ev g j env s).bind fun z s => vw x s fun x => vw z s fun z => tell (sliD x (some y) (some z)) s else .bad
  | .back a, env, s => (ev g a env s).bind fun x s => vw x s fun x => (match x with
    | .lst xs => .ok (.d (.lst xs.reverse)) s
    | _ => .bad)
  | .mt m o es, env, s => (ev g o env s).bind fun x s => vw x s fun x0 => if x0.isDic = true then (evX g es env s).bind fun ys s => vw x s fun x => tell (mtD m x ys) s else .bad
  | .mut m i es, env, s => (match env[i]? with
    | some (some (.ref n)) => (match s.cells[n]? with
      | some (true, x0) => if muK m x0 = true then (evX g es env s).bind fun xs s => (match s.cells[n]? with
        | some (true, x) => (match muD m x xs with
          | some (x', y) => .ok (.d y) { s with cells := s.cells.set n (true, x') }
          | none => .bad)
        | _ => .bad) else .bad
      | _ => .bad)
    | _ => .bad)
  | .comp w elt t it, env, s => (evIt g it env s).bind fun xs s => W.data (compL (fun x s => (match bindT t x (wipe env w) with
    | some env' => ((ev g elt env' s).calm.bind esc).bind fun y s => .ok (some y) s
    | none => .bad)) xs [] s)
  | .compIf w elt t it c, env, s => (evIt g it env s).bind fun xs s => W.data (compL (fun x s => (match bindT t x (wipe env w) with
    | some env' => (ev g c env' s).calm.bind fun b s => (match view s b with
      | some (.bl true) => ((ev g elt env' s).calm.bind esc).bind fun y s => .ok (some y) s
      | some (.bl false) => .ok none s
      | _ => .bad)
    | none => .bad)) xs [] s)
  | .draw st n, env, s => (ev g st env s).bind fun x s => (ev g n env s).bind fun y s => vw x s fun x => vw y s fun y => (match x, y with
    | .stm, .int many => if 0 < many ∧ many < 1073741824 ∧ g.cap s.stm.ct = true then .ok (.d (.int (s.stm.draw many).1)) { s with stm := (s.stm.draw many).2 } else .bad
    | _, _ => .bad)
  | .stream a, env, s => (ev g a env s).bind fun x s => vw x s fun x => (match x with
    | .scr cs => if s.stm.ct < 0 ∧ cs.length ≤ lim then .ok (.d .stm) { s with stm := ⟨cs, 0, 0, 19⟩ } else .bad
    | _ => .bad)
  | .fld k i, env, s => (match env[i]? with
    | some (some (.exc c y)) => if g.fld c k then .ok (.d y) s else .bad
    | _ => .bad)
/-- arguments -/
def evs (g : G) : Es → Env → S → R (List W)
  | .nil, _, s => .ok [] s
  | .cons e es, env, s => (ev g e env s).bind fun w s => (evs g es env s).bind fun ws s => .ok (w :: ws) s
/-- what goes into data -/
def evX (g : G) : Es → Env → S → R (List D)
  | .nil, _, s => .ok [] s
  | .cons e es, env, s => ((ev g e env s).bind esc).bind fun x s => (evX g es env s).bind fun xs s => .ok (x :: xs) s
def evIt (g : G) : It → Env → S → R (List D)
  | .e a, env, s => ((ev g a env s).bind esc).bind fun x s => (match walkD (a.isDat env) x with
    | some xs => .ok xs s
    | none => .bad)
  | .rng n, env, s => (ev g n env s).bind fun x s => (match view s x with
    | some (.int k) => if k.natAbs < 16777216 then .ok (rangeD 0 k.toNat) s else .bad
    | _ => .bad)
  | .rng2 a b, env, s => (ev g a env s).bind fun x s => (ev g b env s).bind fun y s => (match view s x, view s y with
    | some (.int i), some (.int j) => if i.natAbs < 16777216 ∧ j.natAbs < 16777216 then .ok (rangeD i (j - i).toNat) s else .bad
    | _, _ => .bad)
  | .enum a, env, s => ((ev g a env s).bind esc).bind fun x s => (match seqD x with
    | some xs => .ok (enumD xs) s
    | none => .bad)
  | .zip a b, env, s => ((ev g a env s).bind esc).bind fun x s => ((ev g b env s).bind esc).bind fun y s => (match seqD x, seqD y with
    | some xs, some ys => .ok (zipD xs ys) s
    | _, _ => .bad)
  | .items a, env, s => ((ev g a env s).bind esc).bind fun x s => (match x with
    | .dic kvs => if a.isDat env = true then .ok (kvs.map fun p => .tup [kyD p.1, p.2]) s else .bad
    | _ => .bad)
end

def whileFuel : Nat := 1000000
def whileL (c : Env → S → R W) (b : Env → S → RS) : Nat → Env → S → RS
  | 0, _, _ => .bad
  | n + 1, env, s => (c env s).st fun w s => (match view s w with
    | some (.bl true) => (match b env s with
      | .nx env s => whileL c b n env s
      | .ct env s => whileL c b n env s
      | r => r)
    | some (.bl false) => .nx env s
    | _ => .bad)
def forL (t : Tg) (b : Env → S → RS) : List D → Env → S → RS
  | [], env, s => .nx env s
  | x :: xs, env, s => (match bindT t x env with
    | some env => (match b env s with
      | .nx env s => forL t b xs env s
      | .ct env s => forL t b xs env s
      | r => r)
    | none => .bad)
/-- a slot's new value: a cell of its own, or data -/
def slot (own : Bool) (w : W) (s : S) : R W := match own, w with
  | true, .d x => if x.isC = true then .ok (.ref s.cells.length) { s with cells := s.cells ++ [(true, x)] } else .bad
  | false, w => W.data (esc w s)
  | _, _ => .bad
def caught (c : Nat) : List (List Nat × Nat × E) → Option (Nat × E)
  | [] => none
  | (cs, i, e) :: r => if cs.contains c then some (i, e) else caught c r

mutual
def ex (g : G) : St → Env → S → RS
  | .asg t e, env, s => ((ev g e env s).bind esc).st fun x s => (match bindT t x env with
    | some env => .nx env s
    | none => .bad)
  | .new i e, env, s => ((ev g e env s).bind (slot true)).st fun w s => .nx (env.set i (some w)) s
  | .par2 i j p q a b, env, s => (ev g a env s).st fun x s => (ev g b env s).st fun y s => (slot p x s).st fun x s => (slot q y s).st fun y s => .nx ((env.set i (some x)).set j (some y)) s
  | .par3 i j k p q r a b c, env, s => (ev g a env s).st fun x s => (ev g b env s).st fun y s => (ev g c env s).st fun z s => (slot p x s).st fun x s => (slot q y s).st fun y s => (slot r z s).st fun z s =>
      .nx (((env.set i (some x)).set j (some y)).set k (some z)) s
  | .setix i k e, env, s => ((ev g e env s).bind esc).st fun x s => (match env[i]? with
    | some (some (.ref n)) => (ev g k env s).st fun kw s => (match view s kw, s.cells[n]? with
      | some (.int j), some (true, .lst xs) => (match place xs.length j with
        | some m => .nx env { s with cells := s.cells.set n (true, .lst (xs.set m x)) }
        | none => .bad)
      | some kd, some (true, .dic kvs) => (match keyK kd with
        | some k => if kvs.length < lim then .nx env { s with cells := s.cells.set n (true, .dic (dput kvs k x)) } else .bad
        | none => .bad)
      | _, _ => .bad)
    | _ => .bad)
  | .expr e, env, s => (ev g e env s).st fun _ s => .nx env s
  | .ite c a b, env, s => (ev g c env s).st fun w s => (match view s w with
    | some (.bl true) => exs g a env s
    | some (.bl false) => exs g b env s
    | _ => .bad)
  | .for_ t it body, env, s => (evIt g it env s).st fun xs s => forL t (exs g body) xs env s
  | .while_ c body, env, s => whileL (ev g c) (exs g body) whileFuel env s
  | .ret e, env, s => ((ev g e env s).bind esc).st fun x s => .rt x s
  | .retN, _, s => .rt .non s
  | .pass, env, s => .nx env s
  | .cont, env, s => .ct env s
  | .raise c e, env, s => ((ev g e env s).bind esc).st fun x s => .exc c x s
  | .tri body hs, env, s => (match exs g body env s with
    | .exc c x s => (match caught c hs with
      | some (i, e) => ((ev g e (env.set i (some (.exc c x))) s).calm.bind esc).st fun y s => .rt y s
      | none => .exc c x s)
    | r => r)
def exs (g : G) : List St → Env → S → RS
  | [], env, s => .nx env s
  | st :: r, env, s => (match ex g st env s with
    | .nx env s => exs g r env s
    | q => q)
end

/-- the program: defs by number, the field of a class of errors by number -/
structure Prg where
  fn : Nat → Option Fn
  fld : Nat → Nat → Bool

/-- how arguments come to a frame: slots, the frame's cells; which cells of the caller are lent, which are looked at -/
def lend (refs : List Bool) : List W → List (Bool × D) → List (Option W) → List (Bool × D) → List Nat → List Nat → Option (List (Option W) × List (Bool × D) × List Nat × List Nat)
  | [], _, acc, cs, back, seen => some (acc.reverse, cs, back.reverse, seen)
  | .d x :: ws, cells, acc, cs, back, seen => lend refs.tail ws cells (some (.d x) :: acc) cs back seen
  | .lam b e :: ws, cells, acc, cs, back, seen => lend refs.tail ws cells (some (.lam b e) :: acc) cs back seen
  | .ref n :: ws, cells, acc, cs, back, seen => (match refs.headD false, cells[n]? with
    | true, some (true, x) => lend refs.tail ws cells (some (.ref cs.length) :: acc) (cs ++ [(true, x)]) (n :: back) seen
    | false, some (_, x) => lend refs.tail ws cells (some (.d x) :: acc) cs back (n :: seen)
    | _, _ => none)
  | .exc _ _ :: _, _, _, _, _, _ => none
def stop1 (cells : List (Bool × D)) (n : Nat) : List (Bool × D) := match cells[n]? with
  | some (_, x) => cells.set n (false, x)
  | none => cells
/-- a dict that was looked at is no cell any more, whatever comes back -/
def stopD (cells : List (Bool × D)) (n : Nat) : List (Bool × D) := match cells[n]? with
  | some (_, .dic kvs) => cells.set n (false, .dic kvs)
  | _ => cells
/-- the caller's cells behind a call -/
def after (cells cs : List (Bool × D)) (back : List Nat) : List (Bool × D) := (back.zip cs).foldl (fun acc p => acc.set p.1 p.2) cells

/-- at most one cell is lent, and it is not looked at beside -/
def okLend (back seen : List Nat) : Bool := match back with
  | [] => true
  | [n] => !seen.contains n
  | _ => false
def Fn.run (g : G) (f : Fn) (ws : List W) (s : S) : R D :=
  if ws.length = f.params then
    match lend f.refs ws s.cells [] [] [] [] with
    | some (ents, cs, back, seen) => if okLend back seen = true then (match exs g f.body (ents ++ List.replicate (f.slots - f.params) none) ⟨s.stm, cs⟩ with
      | .rt x s' => .ok x ⟨s'.stm, if x.still && back.isEmpty then seen.foldl stopD s.cells else seen.foldl stop1 (after s.cells s'.cells back)⟩
      | .nx _ s' => .ok .non ⟨s'.stm, if back.isEmpty then seen.foldl stopD s.cells else seen.foldl stop1 (after s.cells s'.cells back)⟩
      | .exc c x s' => .exc c x ⟨s'.stm, seen.foldl stop1 (after s.cells s'.cells back)⟩
      | _ => .bad) else .bad
    | none => .bad
  else .bad
def gAt (P : Prg) (cap : Int → Bool) : Nat → G
  | 0 => ⟨fun _ _ _ => .bad, fun _ _ _ => .bad, P.fld, cap, fun _ => none⟩
  | d + 1 => ⟨fun f ws s => (match P.fn f with
      | some fn => fn.run (gAt P cap d) ws s
      | none => .bad),
    fun b env s => (match (ev (gAt P cap d) b env ⟨s.stm, []⟩).bind esc with
      | .ok x s' => .ok x ⟨s'.stm, s.cells⟩
      | .exc c x s' => .exc c x ⟨s'.stm, s.cells⟩
      | .bad => .bad), P.fld, cap, fun f => (P.fn f).map (·.params)⟩
def callAt (P : Prg) (cap : Int → Bool) (d f : Nat) (ws : List W) (s : S) : R D := (gAt P cap d).call f ws s
end Us
end

section
set_option Elab.async false
set_option linter.all false
set_option maxRecDepth 100000
set_option maxHeartbeats 1000000
/-! Us.Rel: how the executor's data, slots, cells stand for the layer's values and abstract heap. -/
namespace Us
open PySem PySem.Spec PyProof.Rows L2

abbrev Pin := Addr → Option (Bool × HO)
/-- what changes: the addresses that data may not name (live cells, the stream), the heap, the stream's two lists -/
structure Wd where
  C : Addr → Prop
  H : Hp
  st : Option (Addr × Addr)

/-- nothing there, or a table of code objects -/
def Gone (H : Hp) (a : Addr) : Prop := H a = none ∨ ∃ ps, H a = some (.tbl ps)
theorem ng_of {H : Hp} {a : Addr} {u : HO} (h : H a = some u) (n : ∀ ps, u ≠ .tbl ps) : ¬ Gone H a := fun z => by
  rcases z with z | ⟨ps, z⟩
  · rw [h] at z; cases z
  · rw [h] at z; exact n ps (Option.some.inj z)
theorem ng_get {H : Hp} {a : Addr} (h : ¬ Gone H a) : ∃ u, H a = some u ∧ ∀ ps, u ≠ .tbl ps := by
  cases e : H a with
  | none => exact absurd (.inl e) h
  | some u => exact ⟨u, rfl, fun ps z => h (.inr ⟨ps, by rw [e, z]⟩)⟩
theorem ng_keep {H H' : Hp} {a : Addr} (k : ∀ a u, H a = some u → H' a = some u) (h : ¬ Gone H a) : ¬ Gone H' a := by
  obtain ⟨u, e, n⟩ := ng_get h
  exact ng_of (k a u e) n
/-- what came before still stands -/
structure Ext (w w' : Wd) : Prop where
  ls : ∀ a vs, w.H a = some (.lst vs) → ¬ w.C a → w'.H a = some (.lst vs)
  dk : ∀ a ks, Rd w.H a (.dK ks) → ¬ w.C a → Rd w'.H a (.dK ks)
  fz : ∀ a o ks, w.H a = some (.frz o (.lst ks)) → w'.H a = some (.frz o (.lst ks))
  tup : ∀ a vs, Rd w.H a (.tup vs) → Rd w'.H a (.tup vs)
  xd : ∀ a fs, w.H a = some (.xd fs) → w'.H a = some (.xd fs)
  fr : ∀ a, w'.C a → w.C a ∨ Gone w.H a
  live : ∀ a, ¬ Gone w.H a → ¬ Gone w'.H a
  st : w.st = none ∨ w'.st = w.st
  co : ∀ a q, w.H a = some (LamX.CodeO a q) → w'.H a = some (LamX.CodeO a q)
theorem Rd.ne {H : Hp} {a : Addr} {u : HO} (h : Rd H a u) : H a ≠ none := by
  rcases h with h | ⟨o, h⟩ <;> rw [h] <;> simp
theorem Ext.refl (w : Wd) : Ext w w := ⟨fun _ _ h _ => h, fun _ _ h _ => h, fun _ _ _ h => h, fun _ _ h => h, fun _ _ h => h, fun _ h => .inl h, fun _ h => h, .inr rfl, fun _ _ h => h⟩
theorem Ext.nC {w w' : Wd} (e : Ext w w') {a : Addr} (n : ¬ w.C a) (h : ¬ Gone w.H a) : ¬ w'.C a := fun z => (e.fr a z).elim n h
theorem lst_ng {H : Hp} {a : Addr} {vs : List V} (h : H a = some (.lst vs)) : ¬ Gone H a := ng_of h fun _ z => by cases z
theorem rd_ng {H : Hp} {a : Addr} {ks : List (Key × V)} (h : Rd H a (.dK ks)) : ¬ Gone H a := by
  rcases h with h | ⟨o, h⟩
  · exact ng_of h fun _ z => by cases z
  · exact ng_of h fun _ z => by cases z
theorem some_ne {H : Hp} {a : Addr} {u : HO} (h : H a = some u) : H a ≠ none := by rw [h]; simp
theorem Ext.trans {w1 w2 w3 : Wd} (a : Ext w1 w2) (b : Ext w2 w3) : Ext w1 w3 := by
  refine ⟨fun x u h n => b.ls x u (a.ls x u h n) (a.nC n (lst_ng h)), fun x u h n => b.dk x u (a.dk x u h n) (a.nC n (rd_ng h)), fun x o u h => b.fz x o u (a.fz x o u h), fun x vs h => b.tup x vs (a.tup x vs h), fun x fs h => b.xd x fs (a.xd x fs h), fun x h => ?_, fun x h => b.live x (a.live x h), ?_, fun x q h => b.co x q (a.co x q h)⟩
  · rcases b.fr x h with h | h
    · exact a.fr x h
    · by_cases q : Gone w1.H x
      · exact .inr q
      · exact absurd h (a.live x q)
  · rcases a.st with h | h
    · exact .inl h
    · rcases b.st with h' | h'
      · left; rw [← h]; exact h'
      · right; rw [h', h]
/-- what stands through a whole frame: the written part, the defs' addresses, the field of each class of errors, its class object; tables of code objects; the error at hand in an except suite (its address, its own dict, its class), what a lambda in a slot is -/
structure Gp where
  K : PySem.W.Frag
  fa : Nat → Addr
  fld : Nat → Str
  ca : Nat → Addr
  kc : Nat → Bool
  T : List (Addr × Str)
  ea : Option (Addr × Addr × Nat)
  cl : Wd → E → Env → V → Prop
  clX : ∀ w w' b env v, Ext w w' → cl w b env v → cl w' b env v

/-- the script's list: frozen, or written by nobody, or a literal -/
def ScrAt (K : PySem.W.Frag) (w : Wd) (a : Addr) (xs : List V) : Prop := (∃ o, w.H a = some (.frz o (.lst xs))) ∨ (¬ w.C a ∧ w.H a = some (.lst xs)) ∨ SqL K (fun _ => none) a xs
/-- a key that may be data -/
def KyOk : Ky → Prop
  | .inl _ => True
  | .inr x => x.cps.size ≤ lim ∧ PyData.strOk x = true
mutual
def RelD (g : Gp) (w : Wd) : D → V → Prop
  | .non, v => v = .non
  | .bl b, v => v = .bl b
  | .int i, v => v = .int i
  | .str x, v => v = .str x ∧ x.cps.size ≤ lim ∧ PyData.strOk x = true
  | .tup xs, v => ∃ a vs, v = .ref a ∧ SqT g.K w.H a vs ∧ RelDs g w xs vs
  | .lst xs, v => ∃ a vs, v = .ref a ∧ ¬ w.C a ∧ w.H a = some (.lst vs) ∧ RelDs g w xs vs
  | .dic kvs, v => ∃ a ks, v = .ref a ∧ ¬ w.C a ∧ Rd w.H a (.dK ks) ∧ RelKs g w kvs ks
  | .fn f, v => v = .ref (g.fa f)
  | .stm, v => ∃ a b, w.st = some (a, b) ∧ v = .ref a
  | .scr cs, v => ∃ a, v = .ref a ∧ ScrAt g.K w a (cs.map V.int)
def RelDs (g : Gp) (w : Wd) : List D → List V → Prop
  | [], vs => vs = []
  | x :: xs, vs => ∃ v r, vs = v :: r ∧ RelD g w x v ∧ RelDs g w xs r
def RelKs (g : Gp) (w : Wd) : List (Ky × D) → List (Key × V) → Prop
  | [], ks => ks = []
  | (k, x) :: r, ks => ∃ v q, ks = (k, v) :: q ∧ KyOk k ∧ RelD g w x v ∧ RelKs g w r q
end

theorem Ext.sqT {w w' : Wd} (e : Ext w w') {K : PySem.W.Frag} {a : Addr} {vs : List V} (h : SqT K w.H a vs) : SqT K w'.H a vs := by
  rcases h with h | h
  · exact .inl (e.tup a vs h)
  · exact .inr h
mutual
theorem RelD.ext {g : Gp} {w w' : Wd} (e : Ext w w') : ∀ (x : D) (v : V), RelD g w x v → RelD g w' x v
  | .non, v, h => by simpa [RelD] using h
  | .bl b, v, h => by simpa [RelD] using h
  | .int i, v, h => by simpa [RelD] using h
  | .str x, v, h => by simpa [RelD] using h
  | .tup xs, v, h => by
    simp only [RelD] at h ⊢
    obtain ⟨a, vs, e1, e2, e3⟩ := h
    exact ⟨a, vs, e1, e.sqT e2, RelDs.ext e xs vs e3⟩
  | .lst xs, v, h => by
    simp only [RelD] at h ⊢
    obtain ⟨a, vs, e1, n, e2, e3⟩ := h
    exact ⟨a, vs, e1, e.nC n (lst_ng e2), e.ls _ _ e2 n, RelDs.ext e xs vs e3⟩
  | .dic kvs, v, h => by
    simp only [RelD] at h ⊢
    obtain ⟨a, vs, e1, n, e2, e3⟩ := h
    exact ⟨a, vs, e1, e.nC n (rd_ng e2), e.dk _ _ e2 n, RelKs.ext e kvs vs e3⟩
  | .fn f, v, h => by simpa [RelD] using h
  | .stm, v, h => by
    simp only [RelD] at h ⊢
    obtain ⟨a, b, e1, e2⟩ := h
    rcases e.st with z | z
    · rw [z] at e1; cases e1
    · exact ⟨a, b, z.trans e1, e2⟩
  | .scr cs, v, h => by
    simp only [RelD] at h ⊢
    obtain ⟨a, e1, e2⟩ := h
    refine ⟨a, e1, ?_⟩
    rcases e2 with ⟨o, e2⟩ | ⟨n, e2⟩ | e2
    · exact .inl ⟨o, e.fz _ _ _ e2⟩
    · exact .inr (.inl ⟨e.nC n (lst_ng e2), e.ls _ _ e2 n⟩)
    · exact .inr (.inr e2)
theorem RelDs.ext {g : Gp} {w w' : Wd} (e : Ext w w') : ∀ (xs : List D) (vs : List V), RelDs g w xs vs → RelDs g w' xs vs
  | [], vs, h => by simpa [RelDs] using h
  | x :: xs, vs, h => by
    simp only [RelDs] at h ⊢
    obtain ⟨v, r, e1, e2, e3⟩ := h
    exact ⟨v, r, e1, RelD.ext e x v e2, RelDs.ext e xs r e3⟩
theorem RelKs.ext {g : Gp} {w w' : Wd} (e : Ext w w') : ∀ (xs : List (Ky × D)) (vs : List (Key × V)), RelKs g w xs vs → RelKs g w' xs vs
  | [], vs, h => by simpa [RelKs] using h
  | (k, x) :: xs, vs, h => by
    simp only [RelKs] at h ⊢
    obtain ⟨v, r, e1, ek, e2, e3⟩ := h
    exact ⟨v, r, e1, ek, RelD.ext e x v e2, RelKs.ext e xs r e3⟩
end
theorem RelDs.nil {g : Gp} {w : Wd} : RelDs g w [] [] := by simp [RelDs]
theorem RelDs.cons {g : Gp} {w : Wd} {x : D} {xs : List D} {v : V} {vs : List V} (h : RelD g w x v) (r : RelDs g w xs vs) : RelDs g w (x :: xs) (v :: vs) := by
  simp only [RelDs]; exact ⟨v, vs, rfl, h, r⟩
theorem RelDs.length {g : Gp} {w : Wd} : ∀ {xs : List D} {vs : List V}, RelDs g w xs vs → vs.length = xs.length
  | [], vs, h => by simp only [RelDs] at h; subst h; rfl
  | x :: xs, vs, h => by
    simp only [RelDs] at h
    obtain ⟨v, r, rfl, _, h⟩ := h
    simp [RelDs.length h]
theorem RelDs.append {g : Gp} {w : Wd} : ∀ {xs ys : List D} {vs us : List V}, RelDs g w xs vs → RelDs g w ys us → RelDs g w (xs ++ ys) (vs ++ us)
  | [], ys, vs, us, h, k => by simp only [RelDs] at h; subst h; exact k
  | x :: xs, ys, vs, us, h, k => by
    simp only [RelDs] at h
    obtain ⟨v, r, rfl, h1, h⟩ := h
    exact .cons h1 (RelDs.append h k)
theorem RelDs.get {g : Gp} {w : Wd} : ∀ {xs : List D} {vs : List V} {i : Nat} {x : D}, RelDs g w xs vs → xs[i]? = some x → ∃ v, vs[i]? = some v ∧ RelD g w x v
  | [], vs, i, x, h, e => by simp at e
  | y :: xs, vs, 0, x, h, e => by
    simp only [RelDs] at h
    obtain ⟨v, r, rfl, h1, h⟩ := h
    simp at e; subst e
    exact ⟨v, rfl, h1⟩
  | y :: xs, vs, i + 1, x, h, e => by
    simp only [RelDs] at h
    obtain ⟨v, r, rfl, h1, h⟩ := h
    obtain ⟨u, e1, e2⟩ := RelDs.get (i := i) h (by simpa using e)
    exact ⟨u, by simpa using e1, e2⟩
theorem RelDs.get' {g : Gp} {w : Wd} : ∀ {xs : List D} {vs : List V} {i : Nat} {v : V}, RelDs g w xs vs → vs[i]? = some v → ∃ x, xs[i]? = some x ∧ RelD g w x v
  | [], vs, i, x, h, e => by simp only [RelDs] at h; subst h; simp at e
  | y :: xs, vs, 0, x, h, e => by
    simp only [RelDs] at h
    obtain ⟨v, r, rfl, h1, h⟩ := h
    simp at e; subst e
    exact ⟨y, rfl, h1⟩
  | y :: xs, vs, i + 1, x, h, e => by
    simp only [RelDs] at h
    obtain ⟨v, r, rfl, h1, h⟩ := h
    obtain ⟨u, e1, e2⟩ := RelDs.get' (i := i) h (by simpa using e)
    exact ⟨u, by simpa using e1, e2⟩
theorem RelDs.set {g : Gp} {w : Wd} {y : D} {u : V} (hu : RelD g w y u) : ∀ {xs : List D} {vs : List V} (i : Nat), RelDs g w xs vs → RelDs g w (xs.set i y) (vs.set i u)
  | [], vs, i, h => by simp only [RelDs] at h; subst h; simpa using RelDs.nil
  | x :: xs, vs, 0, h => by
    simp only [RelDs] at h
    obtain ⟨v, r, rfl, h1, h⟩ := h
    exact .cons hu h
  | x :: xs, vs, i + 1, h => by
    simp only [RelDs] at h
    obtain ⟨v, r, rfl, h1, h⟩ := h
    exact .cons h1 (RelDs.set hu i h)
theorem RelDs.take {g : Gp} {w : Wd} : ∀ {xs : List D} {vs : List V} (n : Nat), RelDs g w xs vs → RelDs g w (xs.take n) (vs.take n)
  | xs, vs, 0, h => by simpa using RelDs.nil
  | [], vs, n + 1, h => by simp only [RelDs] at h; subst h; simpa using RelDs.nil
  | x :: xs, vs, n + 1, h => by
    simp only [RelDs] at h
    obtain ⟨v, r, rfl, h1, h⟩ := h
    exact .cons h1 (RelDs.take n h)
theorem RelDs.drop {g : Gp} {w : Wd} : ∀ {xs : List D} {vs : List V} (n : Nat), RelDs g w xs vs → RelDs g w (xs.drop n) (vs.drop n)
  | xs, vs, 0, h => h
  | [], vs, n + 1, h => by simp only [RelDs] at h; subst h; simpa using RelDs.nil
  | x :: xs, vs, n + 1, h => by
    simp only [RelDs] at h
    obtain ⟨v, r, rfl, h1, h⟩ := h
    exact RelDs.drop n h
theorem RelDs.reverse {g : Gp} {w : Wd} : ∀ {xs : List D} {vs : List V}, RelDs g w xs vs → RelDs g w xs.reverse vs.reverse
  | [], vs, h => by simp only [RelDs] at h; subst h; simpa using RelDs.nil
  | x :: xs, vs, h => by
    simp only [RelDs] at h
    obtain ⟨v, r, rfl, h1, h⟩ := h
    rw [List.reverse_cons, List.reverse_cons]
    exact .append (RelDs.reverse h) (.cons h1 .nil)
theorem RelDs.eraseIdx {g : Gp} {w : Wd} : ∀ {xs : List D} {vs : List V} (n : Nat), RelDs g w xs vs → RelDs g w (xs.eraseIdx n) (vs.eraseIdx n)
  | [], vs, n, h => by simp only [RelDs] at h; subst h; simpa using RelDs.nil
  | x :: xs, vs, 0, h => by
    simp only [RelDs] at h
    obtain ⟨v, r, rfl, h1, h⟩ := h
    exact h
  | x :: xs, vs, n + 1, h => by
    simp only [RelDs] at h
    obtain ⟨v, r, rfl, h1, h⟩ := h
    exact .cons h1 (RelDs.eraseIdx n h)

/-! ### slots and cells -/
/-- what a slot holds -/
def RelW (g : Gp) (am : List Addr) (w : Wd) : W → V → Prop
  | .d x, v => RelD g w x v
  | .ref n, v => ∃ a, am[n]? = some a ∧ v = .ref a
  | _, _ => False
theorem RelW.ext {g : Gp} {am : List Addr} {w w' : Wd} (e : Ext w w') {x : W} {v : V} (h : RelW g am w x v) : RelW g am w' x v := by
  cases x with
  | d x => exact RelD.ext e x v h
  | ref n => exact h
  | _ => exact h.elim
theorem RelW.more {g : Gp} {am : List Addr} {w : Wd} {x : W} {v : V} (h : RelW g am w x v) (bs : List Addr) : RelW g (am ++ bs) w x v := by
  cases x with
  | d x => exact h
  | ref n =>
    obtain ⟨a, e1, e2⟩ := h
    exact ⟨a, by rw [List.getElem?_append_left (List.getElem?_eq_some_iff.mp e1).1]; exact e1, e2⟩
  | _ => exact h.elim
/-- what a slot holds: a value, a lambda, a caught error -/
def RelV (g : Gp) (am : List Addr) (w : Wd) : W → V → Prop
  | .lam b env, v => g.cl w b env v
  | .exc c x, v => ∃ a dx u, g.ea = some (a, dx, c) ∧ v = .ref a ∧ w.H dx = some (.xd [(g.fld c, u)]) ∧ RelD g w x u
  | x, v => RelW g am w x v
theorem RelW.toV {g : Gp} {am : List Addr} {w : Wd} {x : W} {v : V} (h : RelW g am w x v) : RelV g am w x v := by
  cases x with
  | d x => exact h
  | ref n => exact h
  | _ => exact h.elim
theorem RelV.ext {g : Gp} {am : List Addr} {w w' : Wd} (e : Ext w w') {x : W} {v : V} (h : RelV g am w x v) : RelV g am w' x v := by
  cases x with
  | d x => exact RelD.ext e x v h
  | ref n => exact h
  | lam b env => exact g.clX _ _ _ _ _ e h
  | exc c x =>
    obtain ⟨a, dx, u, e1, e2, e3, e4⟩ := h
    exact ⟨a, dx, u, e1, e2, e.xd _ _ e3, RelD.ext e x u e4⟩
theorem RelV.more {g : Gp} {am : List Addr} {w : Wd} {x : W} {v : V} (h : RelV g am w x v) (bs : List Addr) : RelV g (am ++ bs) w x v := by
  cases x with
  | d x => exact h
  | ref n => exact RelW.more (g := g) (w := w) (x := .ref n) h bs
  | lam b env => exact h
  | exc c x => exact h
/-- a live cell's content -/
def RelC (g : Gp) (w : Wd) : D → HO → Prop
  | .lst xs, o => ∃ vs, o = .lst vs ∧ RelDs g w xs vs
  | .dic kvs, o => ∃ ks, o = .dK ks ∧ RelKs g w kvs ks
  | _, _ => False
theorem RelC.ext {g : Gp} {w w' : Wd} (e : Ext w w') {x : D} {o : HO} (h : RelC g w x o) : RelC g w' x o := by
  cases x with
  | lst xs =>
    obtain ⟨vs, e1, e2⟩ := h
    exact ⟨vs, e1, RelDs.ext e xs vs e2⟩
  | dic kvs =>
    obtain ⟨vs, e1, e2⟩ := h
    exact ⟨vs, e1, RelKs.ext e kvs vs e2⟩
  | _ => exact h
/-- C0: what lies at addresses that this frame leaves alone; true: data may not name it -/
def Nm (C0 : Pin) (a : Addr) : Prop := ∃ o, C0 a = some (true, o)
/-- the addresses that data may not name -/
def Cs (C0 : Pin) (am : List Addr) (cs : List (Bool × D)) (st : Option (Addr × Addr)) (a : Addr) : Prop :=
  Nm C0 a ∨ (∃ (n : Nat) (x : D), cs[n]? = some (true, x) ∧ am[n]? = some a) ∨ (∃ p q, st = some (p, q) ∧ (a = p ∨ a = q))
/-- the stream as it lies -/
structure StOk (t : Stm) (p q : Addr) (H : Hp) : Prop where
  ne : p ≠ q
  hp : H p = some (.lst [.ref q, .int t.dg, .int t.ct, .int t.mx])
  hq : H q = some (.lst (t.cs.map V.int))
  dg : 0 ≤ t.dg
  ct : 0 ≤ t.ct
  mx : 0 ≤ t.mx ∧ t.mx < 2147483629
/-- the state: cells, stream -/
structure RelS (g : Gp) (C0 : Pin) (am : List Addr) (st : Option (Addr × Addr)) (H : Hp) (s : S) : Prop where
  len : am.length = s.cells.length
  c0 : ∀ a b o, C0 a = some (b, o) → H a = some o
  live : ∀ (n : Nat) (x : D) (a : Addr), s.cells[n]? = some (true, x) → am[n]? = some a → ∃ o, H a = some o ∧ RelC g ⟨Cs C0 am s.cells st, H, st⟩ x o
  dead : ∀ (n : Nat) (x : D) (a : Addr), s.cells[n]? = some (false, x) → am[n]? = some a → RelD g ⟨Cs C0 am s.cells st, H, st⟩ x (.ref a)
  apart : ∀ (n m : Nat) (x y : D) (a : Addr), s.cells[n]? = some (true, x) → s.cells[m]? = some (true, y) → am[n]? = some a → am[m]? = some a → n = m
  out : ∀ (n : Nat) (x : D) (a : Addr), s.cells[n]? = some (true, x) → am[n]? = some a → C0 a = none ∧ ∀ p q, st = some (p, q) → a ≠ p ∧ a ≠ q
  stm : ∀ p q, st = some (p, q) → StOk s.stm p q H ∧ C0 p = none ∧ C0 q = none
  tb : LamX.Tabs g.T H
theorem RelS.c0n {g : Gp} {C0 : Pin} {am : List Addr} {st : Option (Addr × Addr)} {H : Hp} {s : S} (h : RelS g C0 am st H s) (a : Addr) (q : Nm C0 a) : H a ≠ none := by
  obtain ⟨o, e⟩ := q
  rw [h.c0 a true o e]; simp
theorem nm_of_none {C0 : Pin} {a : Addr} (h : C0 a = none) : ¬ Nm C0 a := fun ⟨o, e⟩ => by rw [h] at e; cases e
abbrev wdOf (C0 : Pin) (am : List Addr) (st : Option (Addr × Addr)) (H : Hp) (s : S) : Wd := ⟨Cs C0 am s.cells st, H, st⟩
/-- what data may name and this frame leaves alone is frozen; no table of code objects is left alone -/
def PinF (C0 : Pin) : Prop := ∀ a b o, C0 a = some (b, o) → (b = false → ∃ od u, o = .frz od u) ∧ ∀ ps, o ≠ .tbl ps
/-- the frame's slots -/
structure RelE (g : Gp) (am : List Addr) (w : Wd) (env : Env) (σ : L2.St) : Prop where
  len : σ.length = env.length
  at_ : ∀ (i : Nat) (x : W), env[i]? = some (some x) → ∃ v, σ[i]? = some (some v) ∧ RelV g am w x v
theorem RelE.ext {g : Gp} {am : List Addr} {w w' : Wd} {env : Env} {σ : L2.St} (e : Ext w w') (h : RelE g am w env σ) : RelE g am w' env σ :=
  ⟨h.len, fun i x q => let ⟨v, a, b⟩ := h.at_ i x q; ⟨v, a, b.ext e⟩⟩
theorem RelE.more {g : Gp} {am : List Addr} {w : Wd} {env : Env} {σ : L2.St} (h : RelE g am w env σ) (bs : List Addr) : RelE g (am ++ bs) w env σ :=
  ⟨h.len, fun i x q => let ⟨v, a, b⟩ := h.at_ i x q; ⟨v, a, b.more bs⟩⟩
theorem RelE.set {g : Gp} {am : List Addr} {w : Wd} {env : Env} {σ : L2.St} {x : W} {v : V} (h : RelE g am w env σ) (i : Nat) (q : RelV g am w x v) : RelE g am w (env.set i (some x)) (σ.set i (some v)) := by
  refine ⟨by simpa using h.len, fun j y e => ?_⟩
  by_cases hj : i = j
  · subst hj
    by_cases hl : i < env.length
    · rw [List.getElem?_set_self hl] at e
      cases e
      exact ⟨v, by rw [List.getElem?_set_self (by rw [h.len]; exact hl)], q⟩
    · rw [List.getElem?_eq_none (by simpa using hl)] at e
      cases e
  · rw [List.getElem?_set_ne hj] at e ⊢
    exact h.at_ j y e
theorem RelE.unset {g : Gp} {am : List Addr} {w : Wd} {env : Env} {σ : L2.St} (h : RelE g am w env σ) (i : Nat) (o : Option V) : RelE g am w (env.set i none) (σ.set i o) := by
  refine ⟨by simpa using h.len, fun j y e => ?_⟩
  by_cases hj : i = j
  · subst hj
    by_cases hl : i < env.length
    · rw [List.getElem?_set_self hl] at e
      cases e
    · rw [List.getElem?_eq_none (by simpa using hl)] at e
      cases e
  · rw [List.getElem?_set_ne hj] at e ⊢
    exact h.at_ j y e
end Us
end

section
set_option Elab.async false
set_option linter.all false
set_option maxRecDepth 100000
set_option maxHeartbeats 1000000
/-! Us.Snd0: what is wanted of a result; new objects, cells that end. -/
namespace Us
open PySem PySem.Spec PyProof.Rows L2

structure Rel (g : Gp) (C0 : Pin) (am : List Addr) (st : Option (Addr × Addr)) (env : Env) (s : S) (σ : L2.St) (H : Hp) : Prop where
  cells : RelS g C0 am st H s
  slots : RelE g am (wdOf C0 am st H s) env σ
  pf : PinF C0
/-- an error on its way: its class, its own dict -/
def RelX (g : Gp) (w : Wd) (c : Nat) (x : D) (cls : Value) (d : Option Addr) : Prop := cls = .ref (g.ca c) ∧ g.kc c = true ∧ ∃ dx u, d = some dx ∧ w.H dx = some (.xd [(g.fld c, u)]) ∧ RelD g w x u
theorem RelX.ext {g : Gp} {w w' : Wd} (e : Ext w w') {c : Nat} {x : D} {cls : Value} {d : Option Addr} (h : RelX g w c x cls d) : RelX g w' c x cls d := by
  obtain ⟨h1, hk, dx, u, h2, h3, h4⟩ := h
  exact ⟨h1, hk, dx, u, h2, e.xd _ _ h3, RelD.ext e x u h4⟩
/-- what is wanted behind a result -/
def Fin {α β : Type} (g : Gp) (C0 : Pin) (am : List Addr) (rel : Wd → α → β → Prop) (Wx : WX) (σ : L2.St) (w0 : Wd) (r : R α) (Q : β → Hp → Prop) : Prop := match r with
  | .ok a s' => ∀ b H' st', RelS g C0 am st' H' s' → Ext w0 (wdOf C0 am st' H' s') → rel (wdOf C0 am st' H' s') a b → Q b H'
  | .exc c x s' => ∀ cls d H' st', RelS g C0 am st' H' s' → Ext w0 (wdOf C0 am st' H' s') → RelX g (wdOf C0 am st' H' s') c x cls d → Wx cls d σ H'
  | .bad => False
section
variable {α β γ δ : Type} {g : Gp} {C0 : Pin} {am : List Addr} {Wx : WX} {σ : L2.St} {w0 w1 : Wd}
theorem Fin.ext {rel : Wd → α → β → Prop} {r : R α} {Q : β → Hp → Prop} (h : Fin g C0 am rel Wx σ w0 r Q) (e : Ext w0 w1) : Fin g C0 am rel Wx σ w1 r Q := by
  cases r with
  | ok a s' => exact fun b H' st' h1 h2 h3 => h b H' st' h1 (e.trans h2) h3
  | exc c x s' => exact fun cls d H' st' h1 h2 h3 => h cls d H' st' h1 (e.trans h2) h3
  | bad => exact h
theorem Fin.bind {rel : Wd → α → β → Prop} {rel2 : Wd → γ → δ → Prop} {r : R α} {k : α → S → R γ} {Q : δ → Hp → Prop} {Q1 : β → Hp → Prop} (h : Fin g C0 am rel2 Wx σ w0 (r.bind k) Q)
    (hk : ∀ a s', r = .ok a s' → ∀ b H' st', RelS g C0 am st' H' s' → Ext w0 (wdOf C0 am st' H' s') → rel (wdOf C0 am st' H' s') a b → Fin g C0 am rel2 Wx σ (wdOf C0 am st' H' s') (k a s') Q → Q1 b H') : Fin g C0 am rel Wx σ w0 r Q1 := by
  cases r with
  | ok a s' => exact fun b H' st' h1 h2 h3 => hk a s' rfl b H' st' h1 h2 h3 (Fin.ext (r := k a s') h h2)
  | exc c x s' => exact h
  | bad => exact h
theorem Fin.data {r : R D} {Q : V → Hp → Prop} (h : Fin g C0 am (RelW g am) Wx σ w0 (W.data r) Q) : Fin g C0 am (RelD g) Wx σ w0 r Q := by
  cases r with
  | ok a s' => exact h
  | exc c x s' => exact h
  | bad => exact h
end

/-! ### a new object -/
theorem ne_of_new {H : Hp} {a p : Addr} (h : H a ≠ none) (hp : H p = none) : a ≠ p := fun e => h (e ▸ hp)
theorem ext_grow {C : Addr → Prop} {st : Option (Addr × Addr)} {H H' : Hp} (k : ∀ a u, H a = some u → H' a = some u) : Ext ⟨C, H, st⟩ ⟨C, H', st⟩ := by
  refine ⟨fun a u h _ => k a _ h, fun a u h _ => ?_, fun a o u h => k a _ h, fun a vs h => ?_, fun a fs h => k a _ h, fun a h => .inl h, fun a h => ?_, .inr rfl, fun a q h => k a _ h⟩
  · rcases h with h | ⟨ob, h⟩
    · exact .inl (k a _ h)
    · exact .inr ⟨ob, k a _ h⟩
  · rcases h with h | ⟨ob, h⟩
    · exact .inl (k a _ h)
    · exact .inr ⟨ob, k a _ h⟩
  · exact ng_keep k h
theorem upd_keep {H : Hp} {p : Addr} {o : HO} (hp : H p = none) : ∀ a u, H a = some u → upd H p o a = some u := fun a u h => by rw [upd_ne (ne_of_new (some_ne h) hp)]; exact h
theorem ext_new {C : Addr → Prop} {st : Option (Addr × Addr)} {H : Hp} {p : Addr} {o : HO} (hp : H p = none) : Ext ⟨C, H, st⟩ ⟨C, upd H p o, st⟩ := ext_grow (upd_keep hp)
theorem RelS.grow {g : Gp} {C0 : Pin} {am : List Addr} {st : Option (Addr × Addr)} {H H' : Hp} {s : S} (h : RelS g C0 am st H s) (k : ∀ a u, H a = some u → H' a = some u) : RelS g C0 am st H' s := by
  have e : Ext (wdOf C0 am st H s) (wdOf C0 am st H' s) := ext_grow k
  refine ⟨h.len, fun a b o q => k _ _ (h.c0 a b o q), fun n x a h1 h2 => ?_, fun n x a h1 h2 => RelD.ext e _ _ (h.dead n x a h1 h2), h.apart, h.out, fun a b q => ?_, h.tb.ext k⟩
  · obtain ⟨o', h3, h4⟩ := h.live n x a h1 h2
    exact ⟨o', k _ _ h3, h4.ext e⟩
  · obtain ⟨q1, q2, q3⟩ := h.stm a b q
    exact ⟨⟨q1.ne, k _ _ q1.hp, k _ _ q1.hq, q1.dg, q1.ct, q1.mx⟩, q2, q3⟩
theorem RelS.new {g : Gp} {C0 : Pin} {am : List Addr} {st : Option (Addr × Addr)} {H : Hp} {s : S} {p : Addr} {o : HO} (h : RelS g C0 am st H s) (hp : H p = none) : RelS g C0 am st (upd H p o) s := h.grow (upd_keep hp)

/-! ### looking at what a slot holds -/
/-- data, or a live cell's content -/
def RelB (g : Gp) (w : Wd) (x : D) (v : V) : Prop := RelD g w x v ∨ ∃ a o, v = .ref a ∧ w.H a = some o ∧ RelC g w x o
theorem view_rel {g : Gp} {C0 : Pin} {am : List Addr} {st : Option (Addr × Addr)} {H : Hp} {s : S} (hS : RelS g C0 am st H s) {x : W} {v : V} {d : D} (hr : RelW g am (wdOf C0 am st H s) x v) (e : view s x = some d) :
    RelB g (wdOf C0 am st H s) d v := by
  cases x with
  | d y =>
    have e1 : y = d := Option.some.inj e
    subst e1
    exact .inl hr
  | ref n =>
    obtain ⟨a, e1, e2⟩ := hr
    have e3 : (s.cells[n]?).map (·.2) = some d := e
    cases hc : s.cells[n]? with
    | none => rw [hc] at e3; cases e3
    | some p =>
      obtain ⟨b, y⟩ := p
      rw [hc] at e3
      have e4 : y = d := Option.some.inj e3
      subst e4
      cases b with
      | true =>
        obtain ⟨o, h1, h2⟩ := hS.live n y a hc e1
        exact .inr ⟨a, o, e2, h1, h2⟩
      | false =>
        rw [e2]
        exact .inl (hS.dead n y a hc e1)
  | _ => cases e
/-- a cell ends: what it held is data -/
theorem esc_rel {g : Gp} {C0 : Pin} {am : List Addr} {st : Option (Addr × Addr)} {H : Hp} {s s' : S} (hS : RelS g C0 am st H s) {x : W} {v : V} {d : D} (hr : RelW g am (wdOf C0 am st H s) x v) (e : esc x s = .ok d s') :
    RelS g C0 am st H s' ∧ Ext (wdOf C0 am st H s) (wdOf C0 am st H s') ∧ RelD g (wdOf C0 am st H s') d v := by
  cases x with
  | d y =>
    have e1 : R.ok y s = R.ok d s' := e
    injection e1 with e1 e2
    subst e1; subst e2
    exact ⟨hS, Ext.refl _, hr⟩
  | lam b env => cases e
  | exc c x => cases e
  | ref n =>
    obtain ⟨a, ha, e2⟩ := hr
    cases hc : s.cells[n]? with
    | none => simp only [esc, hc] at e; cases e
    | some p =>
      obtain ⟨b, y⟩ := p
      simp only [esc, hc] at e
      have e1 : R.ok y { s with cells := s.cells.set n (false, y) } = R.ok d s' := e
      injection e1 with e1 e3
      subst e1; subst e3; subst e2
      have hn : n < s.cells.length := (List.getElem?_eq_some_iff.mp hc).1
      have sub : ∀ m z, (s.cells.set n (false, y))[m]? = some (true, z) → s.cells[m]? = some (true, z) ∧ m ≠ n := fun m z q => by
        by_cases hm : n = m
        · subst hm
          rw [List.getElem?_set_self hn] at q
          cases q
        · rw [List.getElem?_set_ne hm] at q
          exact ⟨q, fun z => hm z.symm⟩
      have cc : ∀ b, Cs C0 am (s.cells.set n (false, y)) st b → Cs C0 am s.cells st b := fun b q => by
        rcases q with q | ⟨m, z, q1, q2⟩ | q
        · exact .inl q
        · exact .inr (.inl ⟨m, z, (sub m z q1).1, q2⟩)
        · exact .inr (.inr q)
      have hx : Ext (wdOf C0 am st H s) (wdOf C0 am st H { s with cells := s.cells.set n (false, y) }) :=
        ⟨fun _ _ h _ => h, fun _ _ h _ => h, fun _ _ _ h => h, fun _ _ h => h, fun _ _ h => h, fun b q => .inl (cc b q), fun _ h => h, .inr rfl, fun _ _ h => h⟩
      have key : RelD g (wdOf C0 am st H { s with cells := s.cells.set n (false, y) }) y (.ref a) := by
        cases b with
        | false => exact RelD.ext hx _ _ (hS.dead n y a hc ha)
        | true =>
          obtain ⟨o, h1, h2⟩ := hS.live n y a hc ha
          have h2 := h2.ext hx
          have nC : ¬ Cs C0 am (s.cells.set n (false, y)) st a := fun q => by
            obtain ⟨o1, o2⟩ := hS.out n y a hc ha
            rcases q with q | ⟨m, z, q1, q2⟩ | ⟨p, q', q, z⟩
            · exact nm_of_none o1 q
            · obtain ⟨q3, q4⟩ := sub m z q1
              exact q4 (hS.apart m n z y a q3 hc q2 ha)
            · obtain ⟨n1, n2⟩ := o2 p q' q
              exact z.elim n1 n2
          cases y with
          | lst xs =>
            obtain ⟨vs, rfl, h3⟩ := h2
            simp only [RelD]
            exact ⟨a, vs, rfl, nC, h1, h3⟩
          | dic kvs =>
            obtain ⟨ks, rfl, h3⟩ := h2
            simp only [RelD]
            exact ⟨a, ks, rfl, nC, .inl h1, h3⟩
          | _ => exact h2.elim
      refine ⟨⟨by simpa using hS.len, hS.c0, fun m z b q1 q2 => ?_, fun m z b q1 q2 => ?_, fun m k z z' b q1 q2 q3 q4 => hS.apart m k z z' b (sub m z q1).1 (sub k z' q2).1 q3 q4, fun m z b q1 q2 => hS.out m z b (sub m z q1).1 q2, hS.stm, hS.tb⟩, hx, key⟩
      · obtain ⟨o, h1, h2⟩ := hS.live m z b (sub m z q1).1 q2
        exact ⟨o, h1, h2.ext hx⟩
      · by_cases hm : n = m
        · subst hm
          have q1' : (s.cells.set n (false, y))[n]? = some (false, z) := q1
          rw [List.getElem?_set_self hn] at q1'
          cases q1'
          rw [ha] at q2
          cases q2
          exact key
        · have q1' : (s.cells.set n (false, y))[m]? = some (false, z) := q1
          rw [List.getElem?_set_ne hm] at q1'
          exact RelD.ext hx _ _ (hS.dead m z b q1' q2)
/-! ### what a tell asks -/
section
variable {g : Gp} {C0 : Pin} {am : List Addr} {Wx : WX} {σ : L2.St} {st : Option (Addr × Addr)} {H : Hp} {s : S} {d : D} {v : V} {Q : V → Hp → Prop}
/-- a value that is there already -/
theorem tell_val (hS : RelS g C0 am st H s) (hF : Fin g C0 am (RelW g am) Wx σ (wdOf C0 am st H s) (.ok (.d d) s) Q) (h : RelD g (wdOf C0 am st H s) d v) : Q v H := hF v H st hS (Ext.refl _) h
/-- a new list, tuple, dict -/
theorem tell_new {p : Addr} {o : HO} (hS : RelS g C0 am st H s) (hF : Fin g C0 am (RelW g am) Wx σ (wdOf C0 am st H s) (.ok (.d d) s) Q) (hp : H p = none) (h : RelD g (wdOf C0 am st (upd H p o) s) d v) : Q v (upd H p o) :=
  hF v _ st (hS.new hp) (ext_new hp) h
theorem nC_new (hS : RelS g C0 am st H s) {p : Addr} (hp : H p = none) : ¬ Cs C0 am s.cells st p := fun q => by
  rcases q with q | ⟨n, x, q1, q2⟩ | ⟨a, b, q, z⟩
  · exact hS.c0n p q hp
  · obtain ⟨o, h1, _⟩ := hS.live n x p q1 q2
    rw [hp] at h1; cases h1
  · obtain ⟨q1, _, _⟩ := hS.stm a b q
    rcases z with rfl | rfl
    · rw [q1.hp] at hp; cases hp
    · rw [q1.hq] at hp; cases hp
end
end Us
end

section
set_option Elab.async false
set_option linter.all false
set_option maxRecDepth 100000
set_option maxHeartbeats 1000000
/-! Us.Snd1: operators and comparisons. -/
namespace Us
open PySem PySem.Spec PyProof.Rows L2

/-! ### what data of a kind stands for -/
section
variable {g : Gp} {w : Wd} {v : V}
theorem RelB.non (h : RelB g w .non v) : v = .non := by
  rcases h with h | ⟨_, _, _, _, h⟩
  · simpa [RelD] using h
  · exact h.elim
theorem RelB.bl {b : Bool} (h : RelB g w (.bl b) v) : v = .bl b := by
  rcases h with h | ⟨_, _, _, _, h⟩
  · simpa [RelD] using h
  · exact h.elim
theorem RelB.int {i : Int} (h : RelB g w (.int i) v) : v = .int i := by
  rcases h with h | ⟨_, _, _, _, h⟩
  · simpa [RelD] using h
  · exact h.elim
theorem RelB.str {x : Str} (h : RelB g w (.str x) v) : v = .str x ∧ x.cps.size ≤ lim ∧ PyData.strOk x = true := by
  rcases h with h | ⟨_, _, _, _, h⟩
  · simpa [RelD] using h
  · exact h.elim
theorem RelB.tup {xs : List D} (h : RelB g w (.tup xs) v) : ∃ a vs, v = .ref a ∧ SqT g.K w.H a vs ∧ RelDs g w xs vs := by
  rcases h with h | ⟨_, _, _, _, h⟩
  · simpa [RelD] using h
  · exact h.elim
theorem RelB.lst {xs : List D} (h : RelB g w (.lst xs) v) : ∃ a vs, v = .ref a ∧ w.H a = some (.lst vs) ∧ RelDs g w xs vs := by
  rcases h with h | ⟨a, o, e, e2, vs, e3, h⟩
  · simp only [RelD] at h
    obtain ⟨a, vs, e, _, h1, h2⟩ := h
    exact ⟨a, vs, e, h1, h2⟩
  · subst e3
    exact ⟨a, vs, e, e2, h⟩
theorem RelB.dic {xs : List (Ky × D)} (h : RelB g w (.dic xs) v) : ∃ a ks, v = .ref a ∧ Rd w.H a (.dK ks) ∧ RelKs g w xs ks := by
  rcases h with h | ⟨a, o, e, e2, vs, e3, h⟩
  · simp only [RelD] at h
    obtain ⟨a, vs, e, _, h1, h2⟩ := h
    exact ⟨a, vs, e, h1, h2⟩
  · subst e3
    exact ⟨a, vs, e, .inl e2, h⟩
theorem RelB.fn {f : Nat} (h : RelB g w (.fn f) v) : v = .ref (g.fa f) := by
  rcases h with h | ⟨_, _, _, _, h⟩
  · simpa [RelD] using h
  · exact h.elim
theorem relD_int {i : Int} : RelD g w (.int i) (.int i) := by simp [RelD]
theorem relD_bl {b : Bool} : RelD g w (.bl b) (.bl b) := by simp [RelD]
theorem relD_non : RelD g w .non .non := by simp [RelD]
theorem relD_str {x : Str} (h : x.cps.size ≤ lim) (k : PyData.strOk x = true) : RelD g w (.str x) (.str x) := by simp [RelD, h, k]
end
theorem limL : lim = sizeLine := by decide

/-! ### data as the library has it -/
mutual
def py : D → PyData
  | .non => .none | .bl b => .bool b | .int i => .int i | .str x => .str x
  | .lst xs => .list (pys xs)
  | .tup xs => .tuple (pys xs)
  | _ => .dict []
def pys : List D → List PyData
  | [] => []
  | x :: xs => py x :: pys xs
end
mutual
theorem eqv_py : ∀ a b : D, a.flatK = true → b.flatK = true → PyData.eqv (py a) (py b) = a.eqv b
  | .non, b, _, h => by cases b <;> first | rfl | (simp [D.flatK] at h)
  | .bl x, b, _, h => by cases b <;> first | rfl | (simp [D.flatK] at h)
  | .int x, b, _, h => by cases b <;> first | rfl | (simp [D.flatK] at h)
  | .str x, b, _, h => by cases b <;> first | rfl | (simp [D.flatK] at h)
  | .lst xs, b, h', h => by
    cases b with
    | lst ys => simpa [py, PyData.eqv, D.eqv] using eqvs_py xs ys (by simpa [D.flatK] using h') (by simpa [D.flatK] using h)
    | _ => first | rfl | (simp [D.flatK] at h)
  | .tup xs, b, h', h => by
    cases b with
    | tup ys => simpa [py, PyData.eqv, D.eqv] using eqvs_py xs ys (by simpa [D.flatK] using h') (by simpa [D.flatK] using h)
    | _ => first | rfl | (simp [D.flatK] at h)
  | .dic _, _, h, _ => by simp [D.flatK] at h
  | .fn _, _, h, _ => by simp [D.flatK] at h
  | .stm, _, h, _ => by simp [D.flatK] at h
  | .scr _, _, h, _ => by simp [D.flatK] at h
theorem eqvs_py : ∀ a b : List D, D.flatKs a = true → D.flatKs b = true → PyData.eqvAll (pys a) (pys b) = D.eqvs a b
  | [], [], _, _ => rfl
  | [], _ :: _, _, _ => rfl
  | _ :: _, [], _, _ => rfl
  | x :: xs, y :: ys, h, k => by
    simp only [D.flatKs, Bool.and_eq_true] at h k
    simp only [pys, PyData.eqvAll, D.eqvs, eqv_py x y h.1 k.1, eqvs_py xs ys h.2 k.2]
end
mutual
theorem depth_py : ∀ a : D, a.flatK = true → (py a).depth = a.depth
  | .non, _ => rfl
  | .bl _, _ => rfl
  | .int _, _ => rfl
  | .str _, _ => rfl
  | .lst xs, h => by simp [py, PyData.depth, D.depth, depths_py xs (by simpa [D.flatK] using h)]
  | .tup xs, h => by simp [py, PyData.depth, D.depth, depths_py xs (by simpa [D.flatK] using h)]
  | .dic _, h => by simp [D.flatK] at h
  | .fn _, h => by simp [D.flatK] at h
  | .stm, h => by simp [D.flatK] at h
  | .scr _, h => by simp [D.flatK] at h
theorem depths_py : ∀ a : List D, D.flatKs a = true → PyData.depthAll (pys a) = D.depths a
  | [], _ => rfl
  | x :: xs, h => by
    simp only [D.flatKs, Bool.and_eq_true] at h
    simp [pys, PyData.depthAll, D.depths, depth_py x h.1, depths_py xs h.2]
end
mutual
theorem lay_py {g : Gp} {w : Wd} : ∀ (a : D) (v : V), RelD g w a v → a.flatK = true → (py a).canLay0 = true ∧ Dp g.K w.H v (py a)
  | .non, v, h, _ => by simp only [RelD] at h; subst h; exact ⟨rfl, .non⟩
  | .bl _, v, h, _ => by simp only [RelD] at h; subst h; exact ⟨rfl, .bl _⟩
  | .int _, v, h, _ => by simp only [RelD] at h; subst h; exact ⟨rfl, .int _⟩
  | .str x, v, h, _ => by
    simp only [RelD] at h
    obtain ⟨rfl, h1, h2⟩ := h
    exact ⟨by simpa [py, PyData.canLay0] using h2, .str _⟩
  | .lst xs, v, h, k => by
    simp only [RelD] at h
    obtain ⟨a, vs, rfl, _, h1, h2⟩ := h
    obtain ⟨h3, h4⟩ := lays_py xs vs h2 (by simpa [D.flatK] using k)
    exact ⟨by simpa [py, PyData.canLay0] using h3, .lst (.inl (.inl h1)) h4⟩
  | .tup xs, v, h, k => by
    simp only [RelD] at h
    obtain ⟨a, vs, rfl, h1, h2⟩ := h
    obtain ⟨h3, h4⟩ := lays_py xs vs h2 (by simpa [D.flatK] using k)
    exact ⟨by simpa [py, PyData.canLay0] using h3, .tup h1 h4⟩
  | .dic _, _, _, h => by simp [D.flatK] at h
  | .fn _, _, _, h => by simp [D.flatK] at h
  | .stm, _, _, h => by simp [D.flatK] at h
  | .scr _, _, _, h => by simp [D.flatK] at h
theorem lays_py {g : Gp} {w : Wd} : ∀ (a : List D) (v : List V), RelDs g w a v → D.flatKs a = true → PyData.canLayAll0 (pys a) = true ∧ DpAll g.K w.H v (pys a)
  | [], v, h, _ => by simp only [RelDs] at h; subst h; exact ⟨rfl, .nil⟩
  | x :: xs, v, h, k => by
    simp only [RelDs] at h
    obtain ⟨u, r, rfl, h1, h2⟩ := h
    simp only [D.flatKs, Bool.and_eq_true] at k
    obtain ⟨a1, a2⟩ := lay_py x u h1 k.1
    obtain ⟨b1, b2⟩ := lays_py xs r h2 k.2
    exact ⟨by simp [pys, PyData.canLayAll0, a1, b1], .cons a2 b2⟩
end
theorem layB {g : Gp} {w : Wd} {a : D} {v : V} (h : RelB g w a v) (k : a.flatK = true) : (py a).canLay0 = true ∧ Dp g.K w.H v (py a) := by
  rcases h with h | ⟨p, o, e, e2, h⟩
  · exact lay_py a v h k
  · cases a with
    | lst xs =>
      obtain ⟨vs, rfl, h2⟩ := h
      subst e
      obtain ⟨h3, h4⟩ := lays_py xs vs h2 (by simpa [D.flatK] using k)
      exact ⟨by simpa [py, PyData.canLay0] using h3, .lst (.inl (.inl e2)) h4⟩
    | dic kvs => simp [D.flatK] at k
    | _ => exact h.elim

/-! ### the readings -/
/-- what a told datum asks -/
def Tell (g : Gp) (C0 : Pin) (am : List Addr) (st : Option (Addr × Addr)) (H : Hp) (s : S) (d : D) (Q : VK) : Prop :=
  ∀ b H' st', RelS g C0 am st' H' s → Ext (wdOf C0 am st H s) (wdOf C0 am st' H' s) → RelD g (wdOf C0 am st' H' s) d b → Q b H'
section
variable {g : Gp} {C0 : Pin} {am : List Addr} {st : Option (Addr × Addr)} {H : Hp} {s : S} {d : D} {v : V} {Q : V → Hp → Prop}
theorem Tell.val (hS : RelS g C0 am st H s) (hF : Tell g C0 am st H s d Q) (h : RelD g (wdOf C0 am st H s) d v) : Q v H := hF v H st hS (Ext.refl _) h
theorem Tell.new {p : Addr} {o : HO} (hS : RelS g C0 am st H s) (hF : Tell g C0 am st H s d Q) (hp : H p = none) (h : RelD g (wdOf C0 am st (upd H p o) s) d v) : Q v (upd H p o) := hF v _ st (hS.new hp) (ext_new hp) h
theorem Tell.lst {p : Addr} {xs : List D} {vs : List V} (hS : RelS g C0 am st H s) (hF : Tell g C0 am st H s (.lst xs) Q) (hp : H p = none) (h : RelDs g (wdOf C0 am st H s) xs vs) : Q (.ref p) (upd H p (.lst vs)) :=
  hF.new hS hp (by
    simp only [RelD]
    exact ⟨p, vs, rfl, nC_new hS hp, upd_same, RelDs.ext (ext_new hp) _ _ h⟩)
theorem Tell.tup {p : Addr} {xs : List D} {vs : List V} (hS : RelS g C0 am st H s) (hF : Tell g C0 am st H s (.tup xs) Q) (hp : H p = none) (h : RelDs g (wdOf C0 am st H s) xs vs) : Q (.ref p) (upd H p (.tup vs)) :=
  hF.new hS hp (by
    simp only [RelD]
    exact ⟨p, vs, rfl, .inl (.inl upd_same), RelDs.ext (ext_new hp) _ _ h⟩)
theorem Tell.dic {p : Addr} {xs : List (Ky × D)} {vs : List (Key × V)} (hS : RelS g C0 am st H s) (hF : Tell g C0 am st H s (.dic xs) Q) (hp : H p = none) (h : RelKs g (wdOf C0 am st H s) xs vs) : Q (.ref p) (upd H p (.dK vs)) :=
  hF.new hS hp (by
    simp only [RelD]
    exact ⟨p, vs, rfl, nC_new hS hp, .inl upd_same, RelKs.ext (ext_new hp) _ _ h⟩)
end
/-- a function of one, two data, read off values -/
def rF1 (g : Gp) (F : D → Option D) : V → Hp → VK → Prop := fun x H Q => ∃ C0 am st s dx d, RelS g C0 am st H s ∧ RelB g (wdOf C0 am st H s) dx x ∧ F dx = some d ∧ Tell g C0 am st H s d Q
def rF2 (g : Gp) (F : D → D → Option D) : R2 := fun x y H Q => ∃ C0 am st s dx dy d, RelS g C0 am st H s ∧ RelB g (wdOf C0 am st H s) dx x ∧ RelB g (wdOf C0 am st H s) dy y ∧ F dx dy = some d ∧ Tell g C0 am st H s d Q

def opOf : BinO → Operator
  | .add => .Add | .sub => .Sub | .mul => .Mult | .fdiv => .FloorDiv | .mod => .Mod | .pow => .Pow
section
variable {X : Cx} {g : Gp}
theorem strOk_append {x y : Str} (hx : PyData.strOk x = true) (hy : PyData.strOk y = true) : PyData.strOk ⟨x.cps ++ y.cps⟩ = true := by
  simp only [PyData.strOk, Array.all_append, Bool.and_eq_true] at *
  exact ⟨hx, hy⟩
theorem or_bin (hK : X.K = g.K) (o : BinO) : OpR X (binaryOp (opOf o)) (rF2 g (binD o)) := by
  intro pins s σ H x y v u Q I rx ry h
  obtain ⟨C0, am, st, s', dx, dy, d, hS, hx, hy, e, hT⟩ := h
  unfold binD at e
  split at e
  · cases e
    exact op_add pins s σ H x y v u Q I rx ry ⟨_, _, hx.int, hy.int, hT.val hS relD_int⟩
  · split at e
    · rename_i hz
      cases e
      obtain ⟨e1, h1, h2⟩ := hx.str
      obtain ⟨e2, h3, h4⟩ := hy.str
      exact op_add_str pins s σ H x y v u Q I rx ry ⟨_, _, e1, e2, by rw [← limL]; exact hz, hT.val hS (relD_str (by simpa using hz) (strOk_append h2 h4))⟩
    · cases e
  · split at e
    · rename_i hz
      cases e
      obtain ⟨a, vs, e1, h1, h2⟩ := hx.lst
      obtain ⟨b, us, e2, h3, h4⟩ := hy.lst
      refine op_cat pins s σ H x y v u Q I rx ry ⟨a, b, vs, us, e1, e2, h1, h3, by rw [← limL, h2.length, h4.length]; exact hz, fun p hp => hT.lst hS hp (h2.append h4)⟩
    · cases e
  · split at e
    · rename_i hz
      cases e
      simp only [Bool.and_eq_true, decide_eq_true_eq, Bool.not_eq_true', List.isEmpty_eq_false_iff] at hz
      obtain ⟨⟨z1, z2⟩, z3⟩ := hz
      obtain ⟨a, vs, e1, h1, h2⟩ := hx.tup
      obtain ⟨b, us, e2, h3, h4⟩ := hy.tup
      have nv : ∀ {xs : List D} {vs : List V}, RelDs g (wdOf C0 am st H s') xs vs → xs ≠ [] → vs ≠ [] := fun {xs vs} r n z => by
        subst z
        have := r.length
        cases xs with
        | nil => exact n rfl
        | cons _ _ => simp at this
      refine op_catT pins s σ H x y v u Q I rx ry ⟨a, b, vs, us, e1, e2, by rw [hK]; exact h1, by rw [hK]; exact h3, nv h2 z2, by rw [← limL, h2.length, h4.length]; exact z1, fun z => absurd z (nv h4 z3), fun _ p hp => hT.tup hS hp (h2.append h4)⟩
    · cases e
  · cases e
    exact op_sub pins s σ H x y v u Q I rx ry ⟨_, _, hx.int, hy.int, hT.val hS relD_int⟩
  · split at e
    · rename_i hz
      cases e
      exact op_mul pins s σ H x y v u Q I rx ry ⟨_, _, hx.int, hy.int, .inl (by omega), hT.val hS relD_int⟩
    · cases e
  · split at e
    · rename_i hz
      cases e
      simp only [Bool.and_eq_true, decide_eq_true_eq] at hz
      obtain ⟨a, vs, e1, h1, h2⟩ := hx.lst
      refine op_rep pins s σ H x y v u Q I rx ry ⟨a, _, vs, e1, hy.int, h1, by omega, by omega, by rw [← limL, h2.length]; exact hz.1, fun p hp => hT.lst hS hp ?_⟩
      generalize (Int.toNat _) = n
      induction n with
      | zero => simpa using RelDs.nil
      | succ n ih => rw [List.replicate_succ, List.replicate_succ, List.flatten_cons, List.flatten_cons]; exact h2.append ih
    · cases e
  · split at e
    · rename_i hz
      cases e
      exact op_fdivN pins s σ H x y v u Q I rx ry ⟨_, _, hx.int, hy.int, hz, hT.val hS relD_int⟩
    · cases e
  · split at e
    · rename_i hz
      cases e
      exact op_modN pins s σ H x y v u Q I rx ry ⟨_, _, hx.int, hy.int, hz, hT.val hS relD_int⟩
    · cases e
  · split at e
    · rename_i hz
      cases e
      exact op_pow pins s σ H x y v u Q I rx ry ⟨_, _, hx.int, hy.int, hz, hT.val hS relD_int⟩
    · cases e
  · cases e

/-! ### comparisons -/
def cmpOf : CmpO → CmpOp
  | .eq => .Eq | .ne => .NotEq | .lt => .Lt | .le => .LtE | .gt => .Gt | .ge => .GtE | .is => .Is | .isnot => .IsNot | .mem => .In | .notmem => .NotIn
theorem depth_atom {a : D} (h : a.atom = true) : a.depth = 0 := by cases a <;> simp [D.atom] at h <;> rfl
theorem eqD_ok {a b : D} {r : Bool} (h : eqD a b = some r) : a.flatK = true ∧ b.flatK = true ∧ min a.depth b.depth ≤ 64 ∧ r = a.eqv b := by
  unfold eqD at h
  split at h
  · rename_i ha
    split at h
    · rename_i hf
      cases h
      rw [Bool.and_eq_true] at hf
      rw [Bool.or_eq_true] at ha
      refine ⟨hf.1, hf.2, ?_, rfl⟩
      rcases ha with ha | ha
      · rw [depth_atom ha]; omega
      · rw [depth_atom ha]; omega
    · cases h
  · split at h
    · rename_i hf
      cases h
      simp only [Bool.and_eq_true, decide_eq_true_eq] at hf
      exact ⟨hf.1.1, hf.1.2, hf.2, rfl⟩
    · cases h
theorem strLt_iff : ∀ a b : List Nat, strLt a b = decide (a < b)
  | [], [] => by simp [strLt]
  | [], _ :: _ => by simp [strLt]
  | _ :: _, [] => by simp [strLt]
  | a :: x, b :: y => by
    simp only [strLt, strLt_iff x y]
    rw [Bool.eq_iff_iff]
    simp [List.cons_lt_cons_iff]
theorem inD_any (x : D) (hx : x.flatK = true) : ∀ ys : List D, D.flatKs ys = true → ((pys ys).any fun z => PyData.eqv z (py x)) = ys.any fun z => z.eqv x
  | [], _ => rfl
  | y :: ys, h => by
    simp only [D.flatKs, Bool.and_eq_true] at h
    simp only [pys, List.any_cons, eqv_py y x h.1 hx, inD_any x hx ys h.2]
theorem atom_flat {w : Wd} {a : D} {v : V} (h : RelD g w a v) (k : a.atom = true) : flatV v = true := by
  cases a <;> simp [D.atom] at k <;> simp only [RelD] at h
  · subst h; rfl
  · subst h; rfl
  · subst h; rfl
  · rw [h.1]; rfl
theorem atom_eqv {w : Wd} {a b : D} {v u : V} (h : RelD g w a v) (h' : RelD g w b u) (k : a.atom = true) (k' : b.atom = true) : eqV v u = a.eqv b := by
  cases a <;> simp [D.atom] at k <;> simp only [RelD] at h <;> cases b <;> simp [D.atom] at k' <;> simp only [RelD] at h'
  all_goals first | (subst h; subst h'; rfl) | (rw [h.1]; subst h'; rfl) | (subst h; rw [h'.1]; rfl) | (rw [h.1, h'.1]; rfl)
theorem atoms_flat {w : Wd} : ∀ {as : List D} {vs : List V}, RelDs g w as vs → as.all D.atom = true → vs.all flatV = true
  | [], vs, h, _ => by simp only [RelDs] at h; subst h; rfl
  | a :: as, vs, h, k => by
    simp only [RelDs] at h
    obtain ⟨v, r, rfl, h1, h2⟩ := h
    rw [List.all_cons, Bool.and_eq_true] at k
    rw [List.all_cons, atom_flat h1 k.1, atoms_flat h2 k.2]; rfl
theorem atoms_in {w : Wd} {x : D} {u : V} (hx : RelD g w x u) (kx : x.atom = true) : ∀ {as : List D} {vs : List V}, RelDs g w as vs → as.all D.atom = true → inV u vs = as.any fun z => z.eqv x
  | [], vs, h, _ => by simp only [RelDs] at h; subst h; rfl
  | a :: as, vs, h, k => by
    simp only [RelDs] at h
    obtain ⟨v, r, rfl, h1, h2⟩ := h
    rw [List.all_cons, Bool.and_eq_true] at k
    have ih := atoms_in hx kx h2 k.2
    unfold inV at ih ⊢
    rw [List.any_cons, List.any_cons, ih, atom_eqv h1 hx k.1 kx]
theorem RelB.atom {w : Wd} {a : D} {v : V} (h : RelB g w a v) (k : a.atom = true) : RelD g w a v := by
  rcases h with h | ⟨_, _, _, _, h⟩
  · exact h
  · cases a <;> simp [D.atom] at k <;> exact h.elim
theorem relKs_get {w : Wd} (k : Key) : ∀ {ds : List (Ky × D)} {ks : List (Key × V)}, RelKs g w ds ks → match dget ds k, valV ks k with
    | some x, some v => RelD g w x v
    | none, none => True
    | _, _ => False
  | [], ks, h => by simp only [RelKs] at h; subst h; simp [dget, valV_nil]
  | (j, x) :: r, ks, h => by
    simp only [RelKs] at h
    obtain ⟨v, q, rfl, _, h1, h2⟩ := h
    by_cases e : j = k
    · have e1 : dget ((j, x) :: r) k = some x := by simp [dget, List.find?_cons, e]
      rw [e1, valV_pos (p := (j, v)) e]
      exact h1
    · have e1 : dget ((j, x) :: r) k = dget r k := by simp [dget, List.find?_cons, e]
      rw [e1, valV_neg (p := (j, v)) e]
      exact relKs_get k h2
theorem keyK_rel {w : Wd} {x : D} {v : V} {k : Ky} (h : RelB g w x v) (e : keyK x = some k) : v = kV k := by
  cases x <;> simp [keyK] at e
  · subst e; exact h.int
  · subst e; exact h.str.1
theorem keyK_ok {w : Wd} {x : D} {v : V} {k : Ky} (h : RelB g w x v) (e : keyK x = some k) : KyOk k := by
  cases x <;> simp [keyK] at e
  · subst e; trivial
  · subst e; exact h.str.2
theorem dget_some {w : Wd} {k : Key} {ds : List (Ky × D)} {ks : List (Key × V)} (h : RelKs g w ds ks) {x : D} (e : dget ds k = some x) : ∃ v, valV ks k = some v ∧ RelD g w x v := by
  have := relKs_get k h
  rw [e] at this
  cases q : valV ks k with
  | none => rw [q] at this; exact this.elim
  | some v => rw [q] at this; exact ⟨v, rfl, this⟩
theorem dget_isSome {w : Wd} {k : Key} {ds : List (Ky × D)} {ks : List (Key × V)} (h : RelKs g w ds ks) : (valV ks k).isSome = (dget ds k).isSome := by
  have := relKs_get k h
  cases e : dget ds k with
  | none =>
    rw [e] at this
    cases q : valV ks k with
    | none => rfl
    | some v => rw [q] at this; exact this.elim
  | some x =>
    rw [e] at this
    cases q : valV ks k with
    | none => rw [q] at this; exact this.elim
    | some v => rfl
theorem DGet.rd {H : Hp} {a : Addr} {kvs : List (Key × V)} {k : Key} (e : Rd H a (.dK kvs)) : DGet H a (kV k) (valV kvs k) := .inl ⟨kvs, k, e, rfl, rfl⟩
end
end Us
end

section
set_option Elab.async false
set_option linter.all false
set_option maxRecDepth 100000
set_option maxHeartbeats 1000000
/-! Us.Snd2: comparisons, built-ins of one datum. -/
namespace Us
open PySem PySem.Spec PyProof.Rows L2
section
variable {X : Cx} {g : Gp}
def rCmp (g : Gp) (o : CmpO) : R2 := rF2 g fun a b => (cmpD o a b).map .bl
theorem map_bl {o : Option Bool} {d : D} (h : o.map D.bl = some d) : ∃ b, o = some b ∧ d = .bl b := by
  cases o with
  | none => cases h
  | some b => cases h; exact ⟨b, rfl, rfl⟩
theorem map_not {o : Option Bool} {b : Bool} (h : o.map (!·) = some b) : ∃ c, o = some c ∧ b = !c := by
  cases o with
  | none => cases h
  | some c => cases h; exact ⟨c, rfl, rfl⟩
theorem lt_codes (i j : Str) : decide (i.cps.toList < j.cps.toList) = strLt i.cps.toList j.cps.toList := (strLt_iff _ _).symm
theorem cmpI_ok {f : Int → Int → Bool} {q : List Nat → List Nat → Bool} {a b : D} {r : Bool} (h : cmpI f q a b = some r) : (∃ i j, a = .int i ∧ b = .int j ∧ r = f i j) ∨ ∃ i j, a = .str i ∧ b = .str j ∧ r = q i.cps.toList j.cps.toList := by
  unfold cmpI at h
  split at h
  · cases h; exact .inl ⟨_, _, rfl, rfl, rfl⟩
  · cases h; exact .inr ⟨_, _, rfl, rfl, rfl⟩
  · cases h
theorem isD_ok {a b : D} {r : Bool} (h : isD a b = some r) : b = .non ∧ r = a.isNon := by
  cases b <;> simp [isD] at h
  exact ⟨rfl, h.symm⟩
theorem isD_dec {w : Wd} {a : D} {v : V} (h : RelB g w a v) : decide (v = .non) = a.isNon := by
  cases a with
  | non => rw [h.non]; rfl
  | bl b => rw [h.bl]; rfl
  | int b => rw [h.int]; rfl
  | str b => rw [h.str.1]; rfl
  | tup b => obtain ⟨a, vs, e, _⟩ := h.tup; rw [e]; rfl
  | lst b => obtain ⟨a, vs, e, _⟩ := h.lst; rw [e]; rfl
  | dic b => obtain ⟨a, vs, e, _⟩ := h.dic; rw [e]; rfl
  | fn f => rw [h.fn]; rfl
  | stm =>
    rcases h with h | ⟨_, _, _, _, h⟩
    · simp only [RelD] at h
      obtain ⟨a, b, _, e⟩ := h
      rw [e]; rfl
    · exact h.elim
  | scr cs =>
    rcases h with h | ⟨_, _, _, _, h⟩
    · simp only [RelD] at h
      obtain ⟨a, e, _⟩ := h
      rw [e]; rfl
    · exact h.elim
/-- == and != as they stand in the data -/
theorem or_eq (hK : X.K = g.K) (hu : X.A.units + 65 < cLine) : OpR X (compareOp .Eq) (rF2 g fun a b => (eqD a b).map .bl) := by
  intro pins s σ H x y v u Q I rx ry h
  obtain ⟨C0, am, st, s', dx, dy, d, hS, hx, hy, e, hT⟩ := h
  obtain ⟨b, e1, rfl⟩ := map_bl e
  obtain ⟨f1, f2, hm, rfl⟩ := eqD_ok e1
  obtain ⟨l1, p1⟩ := layB hx f1
  obtain ⟨l2, p2⟩ := layB hy f2
  rw [← hK] at p1 p2
  obtain ⟨as, r1⟩ := Dp.reads I _ x v p1 rx
  obtain ⟨bs, r2⟩ := Dp.reads I _ y u p2 ry
  refine SeqAt.compareEq_reads r1 r2 l1 l2 (by rw [depth_py _ f1, depth_py _ f2]; omega) ⟨.bl _, H, I, rfl, ?_⟩
  rw [eqv_py _ _ f1 f2]
  exact hT.val hS relD_bl
theorem or_ne (hK : X.K = g.K) (hu : X.A.units + 65 < cLine) : OpR X (compareOp .NotEq) (rF2 g fun a b => ((eqD a b).map (!·)).map .bl) := by
  intro pins s σ H x y v u Q I rx ry h
  obtain ⟨C0, am, st, s', dx, dy, d, hS, hx, hy, e, hT⟩ := h
  obtain ⟨b, e1, rfl⟩ := map_bl e
  obtain ⟨c, e2, rfl⟩ := map_not e1
  obtain ⟨f1, f2, hm, rfl⟩ := eqD_ok e2
  obtain ⟨l1, p1⟩ := layB hx f1
  obtain ⟨l2, p2⟩ := layB hy f2
  rw [← hK] at p1 p2
  obtain ⟨as, r1⟩ := Dp.reads I _ x v p1 rx
  obtain ⟨bs, r2⟩ := Dp.reads I _ y u p2 ry
  refine SeqAt.compareNe_reads r1 r2 l1 l2 (by rw [depth_py _ f1, depth_py _ f2]; omega) ⟨.bl _, H, I, rfl, ?_⟩
  rw [eqv_py _ _ f1 f2]
  exact hT.val hS relD_bl
theorem memD_ok {a b : D} {r : Bool} (h : memD a b = some r) :
    (∃ ys, b = .lst ys ∧ a.flatK = true ∧ D.flatKs ys = true ∧ a.depth ≤ 64 ∧ r = ys.any fun z => z.eqv a) ∨ (∃ ys, b = .tup ys ∧ a.atom = true ∧ ys.all D.atom = true ∧ r = ys.any fun z => z.eqv a) ∨
      (∃ kvs k, b = .dic kvs ∧ keyK a = some k ∧ r = (dget kvs k).isSome) ∨ ∃ c t, a = .str ⟨#[c]⟩ ∧ b = .str t ∧ r = t.cps.toList.contains c := by
  unfold memD at h
  split at h
  · split at h
    · rename_i hz
      cases h
      simp only [Bool.and_eq_true, decide_eq_true_eq] at hz
      exact .inl ⟨_, rfl, hz.1.1, hz.1.2, hz.2, rfl⟩
    · cases h
  · split at h
    · rename_i hz
      cases h
      rw [Bool.and_eq_true] at hz
      exact .inr (.inl ⟨_, rfl, hz.1, hz.2, rfl⟩)
    · cases h
  · rename_i kvs
    cases e : keyK a with
    | none => simp [e] at h
    | some k =>
      simp only [e, Option.map_some, Option.some.injEq] at h
      exact .inr (.inr (.inl ⟨kvs, k, rfl, rfl, h.symm⟩))
  · rename_i t
    split at h
    · rename_i z
      split at h
      · rename_i c hz
        cases h
        have ez : z = ⟨#[c]⟩ := by
          obtain ⟨z⟩ := z
          have : z = #[c] := by rw [← Array.toList_inj]; simpa using hz
          rw [this]
        exact .inr (.inr (.inr ⟨c, t, by rw [ez], rfl, rfl⟩))
      · cases h
    · cases h
  · cases h
theorem or_mem (hK : X.K = g.K) (hu : X.A.units + 66 < cLine) : OpR X (compareOp .In) (rF2 g fun a b => (memD a b).map .bl) := by
  intro pins s σ H x y v u Q I rx ry h
  obtain ⟨C0, am, st, s', dx, dy, d, hS, hx, hy, e, hT⟩ := h
  obtain ⟨b, e1, rfl⟩ := map_bl e
  rcases memD_ok e1 with ⟨ys, rfl, f1, f2, hm, rfl⟩ | ⟨ys, rfl, f1, f2, rfl⟩ | ⟨kvs, k, rfl, hk, rfl⟩ | ⟨c, t, rfl, rfl, rfl⟩
  · obtain ⟨l1, p1⟩ := layB hx f1
    obtain ⟨l2, p2⟩ := layB hy (by simpa [D.flatK] using f2)
    rw [← hK] at p1 p2
    obtain ⟨as, r1⟩ := Dp.reads I _ x v p1 rx
    obtain ⟨bs, r2⟩ := Dp.reads I _ y u p2 ry
    refine SeqAt.in_list_reads r2 r1 (by simpa [py, PyData.canLay0] using l2) l1 (by rw [depth_py _ f1]; omega) ⟨.bl _, H, I, rfl, ?_⟩
    rw [inD_any _ f1 _ f2]
    exact hT.val hS relD_bl
  · obtain ⟨a, vs, e2, h1, h2⟩ := hy.tup
    have hxd := hx.atom f1
    refine op_in_seq pins s σ H x y v u Q I rx ry ⟨a, vs, e2, .inr (by rw [hK]; exact h1), atom_flat hxd f1, atoms_flat h2 f2, ?_⟩
    show Q (.bl (inV x vs)) H
    rw [atoms_in hxd f1 h2 f2]
    exact hT.val hS relD_bl
  · obtain ⟨a, ks, e2, h1, h2⟩ := hy.dic
    have e3 := keyK_rel hx hk
    subst e2; subst e3
    cases ry
    refine d_in (by omega) I (DGet.rd h1) rx fun s1 I1 => ⟨.bl _, H, I1, rfl, ?_⟩
    rw [dget_isSome h2]
    exact hT.val hS relD_bl
  · refine op_in_sign pins s σ H x y v u Q I rx ry ⟨c, t, hx.str.1, hy.str.1, ?_⟩
    have e3 : decide (c ∈ t.cps.toList) = t.cps.toList.contains c := by simp
    rw [e3]
    exact hT.val hS relD_bl
theorem or_notmem (hK : X.K = g.K) (hu : X.A.units + 66 < cLine) : OpR X (compareOp .NotIn) (rF2 g fun a b => ((memD a b).map (!·)).map .bl) := by
  intro pins s σ H x y v u Q I rx ry h
  obtain ⟨C0, am, st, s', dx, dy, d, hS, hx, hy, e, hT⟩ := h
  obtain ⟨b, e1, rfl⟩ := map_bl e
  obtain ⟨b, e2, rfl⟩ := map_not e1
  rcases memD_ok e2 with ⟨ys, rfl, f1, f2, hm, rfl⟩ | ⟨ys, rfl, f1, f2, rfl⟩ | ⟨kvs, k, rfl, hk, rfl⟩ | ⟨c, t, rfl, rfl, rfl⟩
  · obtain ⟨l1, p1⟩ := layB hx f1
    obtain ⟨l2, p2⟩ := layB hy (by simpa [D.flatK] using f2)
    rw [← hK] at p1 p2
    obtain ⟨as, r1⟩ := Dp.reads I _ x v p1 rx
    obtain ⟨bs, r2⟩ := Dp.reads I _ y u p2 ry
    refine SeqAt.notIn_list_reads r2 r1 (by simpa [py, PyData.canLay0] using l2) l1 (by rw [depth_py _ f1]; omega) ⟨.bl _, H, I, rfl, ?_⟩
    rw [inD_any _ f1 _ f2]
    exact hT.val hS relD_bl
  · obtain ⟨a, vs, e2, h1, h2⟩ := hy.tup
    have hxd := hx.atom f1
    refine op_notIn_seq pins s σ H x y v u Q I rx ry ⟨a, vs, e2, .inr (by rw [hK]; exact h1), atom_flat hxd f1, atoms_flat h2 f2, ?_⟩
    show Q (.bl (!inV x vs)) H
    rw [atoms_in hxd f1 h2 f2]
    exact hT.val hS relD_bl
  · obtain ⟨a, ks, e2, h1, h2⟩ := hy.dic
    have e3 := keyK_rel hx hk
    subst e2; subst e3
    cases ry
    refine d_notIn (by omega) I (DGet.rd h1) rx fun s1 I1 => ⟨.bl _, H, I1, rfl, ?_⟩
    rw [dget_isSome h2]
    exact hT.val hS relD_bl
  · refine op_notIn_sign pins s σ H x y v u Q I rx ry ⟨c, t, hx.str.1, hy.str.1, ?_⟩
    have e3 : decide (c ∈ t.cps.toList) = t.cps.toList.contains c := by simp
    rw [e3]
    exact hT.val hS relD_bl
theorem or_cmp (hK : X.K = g.K) (hu : X.A.units + 66 < cLine) (o : CmpO) : OpR X (compareOp (cmpOf o)) (rCmp g o) := by
  cases o with
  | eq => exact or_eq hK (by omega)
  | ne => exact or_ne hK (by omega)
  | mem => exact or_mem hK (by omega)
  | notmem => exact or_notmem hK (by omega)
  | is =>
    intro pins s σ H x y v u Q I rx ry h
    obtain ⟨C0, am, st, s', dx, dy, d, hS, hx, hy, e, hT⟩ := h
    obtain ⟨b, e1, rfl⟩ := map_bl e
    have e1 : isD dx dy = some b := e1
    obtain ⟨rfl, rfl⟩ := isD_ok e1
    refine op_isN pins s σ H x y v u Q I rx ry ⟨hy.non, ?_⟩
    rw [isD_dec hx]
    exact hT.val hS relD_bl
  | isnot =>
    intro pins s σ H x y v u Q I rx ry h
    obtain ⟨C0, am, st, s', dx, dy, d, hS, hx, hy, e, hT⟩ := h
    obtain ⟨b, e1, rfl⟩ := map_bl e
    obtain ⟨c, e2, rfl⟩ := map_not (o := isD dx dy) e1
    obtain ⟨rfl, rfl⟩ := isD_ok e2
    refine op_notN pins s σ H x y v u Q I rx ry ⟨hy.non, ?_⟩
    rw [isD_dec hx]
    exact hT.val hS relD_bl
  | lt =>
    intro pins s σ H x y v u Q I rx ry h
    obtain ⟨C0, am, st, s', dx, dy, d, hS, hx, hy, e, hT⟩ := h
    obtain ⟨b, e1, rfl⟩ := map_bl e
    have e1 : cmpI (fun i j => decide (i < j)) (strLt) dx dy = some b := e1
    rcases cmpI_ok e1 with ⟨i, j, rfl, rfl, rfl⟩ | ⟨i, j, rfl, rfl, rfl⟩
    · exact op_lt pins s σ H x y v u Q I rx ry ⟨i, j, hx.int, hy.int, hT.val hS relD_bl⟩
    · exact op_lt_str pins s σ H x y v u Q I rx ry ⟨i, j, hx.str.1, hy.str.1, by rw [lt_codes]; exact hT.val hS relD_bl⟩
  | le =>
    intro pins s σ H x y v u Q I rx ry h
    obtain ⟨C0, am, st, s', dx, dy, d, hS, hx, hy, e, hT⟩ := h
    obtain ⟨b, e1, rfl⟩ := map_bl e
    have e1 : cmpI (fun i j => decide (i ≤ j)) (fun x y => !strLt y x) dx dy = some b := e1
    rcases cmpI_ok e1 with ⟨i, j, rfl, rfl, rfl⟩ | ⟨i, j, rfl, rfl, rfl⟩
    · exact op_le pins s σ H x y v u Q I rx ry ⟨i, j, hx.int, hy.int, hT.val hS relD_bl⟩
    · exact op_le_str pins s σ H x y v u Q I rx ry ⟨i, j, hx.str.1, hy.str.1, by rw [lt_codes]; exact hT.val hS relD_bl⟩
  | gt =>
    intro pins s σ H x y v u Q I rx ry h
    obtain ⟨C0, am, st, s', dx, dy, d, hS, hx, hy, e, hT⟩ := h
    obtain ⟨b, e1, rfl⟩ := map_bl e
    have e1 : cmpI (fun i j => decide (j < i)) (fun x y => strLt y x) dx dy = some b := e1
    rcases cmpI_ok e1 with ⟨i, j, rfl, rfl, rfl⟩ | ⟨i, j, rfl, rfl, rfl⟩
    · exact op_gt pins s σ H x y v u Q I rx ry ⟨i, j, hx.int, hy.int, hT.val hS relD_bl⟩
    · exact op_gt_str pins s σ H x y v u Q I rx ry ⟨i, j, hx.str.1, hy.str.1, by rw [lt_codes]; exact hT.val hS relD_bl⟩
  | ge =>
    intro pins s σ H x y v u Q I rx ry h
    obtain ⟨C0, am, st, s', dx, dy, d, hS, hx, hy, e, hT⟩ := h
    obtain ⟨b, e1, rfl⟩ := map_bl e
    have e1 : cmpI (fun i j => decide (j ≤ i)) (fun x y => !strLt x y) dx dy = some b := e1
    rcases cmpI_ok e1 with ⟨i, j, rfl, rfl, rfl⟩ | ⟨i, j, rfl, rfl, rfl⟩
    · exact op_ge pins s σ H x y v u Q I rx ry ⟨i, j, hx.int, hy.int, hT.val hS relD_bl⟩
    · exact op_ge_str pins s σ H x y v u Q I rx ry ⟨i, j, hx.str.1, hy.str.1, by rw [lt_codes]; exact hT.val hS relD_bl⟩
end
end Us
end

section
set_option Elab.async false
set_option linter.all false
set_option maxRecDepth 100000
set_option maxHeartbeats 1000000
/-! Us.Snd3: built-ins of one datum, isinstance, subscripts. -/
namespace Us
open PySem PySem.Spec PyProof.Rows L2
def rC1 (g : Gp) (F : D → Option D) : List V → Hp → VK → Prop := fun vs H Q => ∃ x, vs = [x] ∧ rF1 g F x H Q
def rC2 (g : Gp) (F : D → D → Option D) : List V → Hp → VK → Prop := fun vs H Q => ∃ x y, vs = [x, y] ∧ rF2 g F x y H Q
section
variable {X : Cx} {g : Gp}
theorem RelDs.ints {w : Wd} : ∀ {xs : List D} {vs : List V} {ns : List Int}, RelDs g w xs vs → intsD xs = some ns → vs = ns.map V.int
  | [], vs, ns, h, e => by simp only [RelDs] at h; subst h; simp [intsD] at e; subst e; rfl
  | x :: xs, vs, ns, h, e => by
    simp only [RelDs] at h
    obtain ⟨v, r, rfl, h1, h2⟩ := h
    cases x <;> simp [intsD] at e
    obtain ⟨m, e1, rfl⟩ := e
    rw [h2.ints e1]
    simp only [RelD] at h1
    subst h1
    rfl
theorem RelDs.alls {w : Wd} : ∀ {xs : List D} {vs : List V} {b : Bool}, RelDs g w xs vs → allBl xs = some b → ∃ bs : List Bool, vs = bs.map V.bl ∧ b = bs.all id
  | [], vs, b, h, e => by simp only [RelDs] at h; subst h; simp [allBl] at e; subst e; exact ⟨[], rfl, rfl⟩
  | x :: xs, vs, b, h, e => by
    simp only [RelDs] at h
    obtain ⟨v, r, rfl, h1, h2⟩ := h
    cases x <;> simp only [allBl] at e
    case bl c =>
      cases e1 : allBl xs with
      | none => rw [e1] at e; cases e
      | some b' =>
        rw [e1] at e
        cases e
        obtain ⟨bs, e2, e3⟩ := h2.alls e1
        simp only [RelD] at h1
        exact ⟨c :: bs, by rw [h1, e2]; rfl, by rw [e3]; rfl⟩
    all_goals cases e
theorem RelDs.anys {w : Wd} : ∀ {xs : List D} {vs : List V} {b : Bool}, RelDs g w xs vs → anyBl xs = some b → ∃ bs : List Bool, vs = bs.map V.bl ∧ b = bs.any id
  | [], vs, b, h, e => by simp only [RelDs] at h; subst h; simp [anyBl] at e; subst e; exact ⟨[], rfl, rfl⟩
  | x :: xs, vs, b, h, e => by
    simp only [RelDs] at h
    obtain ⟨v, r, rfl, h1, h2⟩ := h
    cases x <;> simp only [anyBl] at e
    case bl c =>
      cases e1 : anyBl xs with
      | none => rw [e1] at e; cases e
      | some b' =>
        rw [e1] at e
        cases e
        obtain ⟨bs, e2, e3⟩ := h2.anys e1
        simp only [RelD] at h1
        exact ⟨c :: bs, by rw [h1, e2]; rfl, by rw [e3]; rfl⟩
    all_goals cases e
theorem minI_mem : ∀ (r : List Int) (a : Int), minI a r ∈ a :: r ∧ ∀ y ∈ a :: r, minI a r ≤ y
  | [], a => by simp [minI]
  | b :: r, a => by
    obtain ⟨h1, h2⟩ := minI_mem r (if b < a then b else a)
    simp only [minI]
    refine ⟨?_, fun y hy => ?_⟩
    · rcases List.mem_cons.mp h1 with e | e
      · rw [e]
        split
        · simp
        · simp
      · simp [e]
    · have h3 := h2 (if b < a then b else a) (by simp)
      rcases List.mem_cons.mp hy with rfl | hy
      · split at h3 <;> split <;> omega
      · rcases List.mem_cons.mp hy with rfl | hy
        · split at h3 <;> split <;> omega
        · exact h2 y (by simp [hy])
theorem maxI_mem : ∀ (r : List Int) (a : Int), maxI a r ∈ a :: r ∧ ∀ y ∈ a :: r, y ≤ maxI a r
  | [], a => by simp [maxI]
  | b :: r, a => by
    obtain ⟨h1, h2⟩ := maxI_mem r (if b > a then b else a)
    simp only [maxI]
    refine ⟨?_, fun y hy => ?_⟩
    · rcases List.mem_cons.mp h1 with e | e
      · rw [e]
        split
        · simp
        · simp
      · simp [e]
    · have h3 := h2 (if b > a then b else a) (by simp)
      rcases List.mem_cons.mp hy with rfl | hy
      · split at h3 <;> split <;> omega
      · rcases List.mem_cons.mp hy with rfl | hy
        · split at h3 <;> split <;> omega
        · exact h2 y (by simp [hy])
theorem relDs_ints {w : Wd} : ∀ {ns : List Int}, RelDs g w (ns.map D.int) (ns.map V.int)
  | [] => .nil
  | n :: ns => .cons relD_int relDs_ints
theorem keys_rel {w : Wd} : ∀ {kvs : List (Ky × D)} {ks : List (Key × V)}, RelKs g w kvs ks → RelDs g w (kvs.map fun p => kyD p.1) (ks.map fun kv => kV kv.1)
  | [], ks, h => by simp only [RelKs] at h; subst h; exact .nil
  | (k, x) :: r, ks, h => by
    simp only [RelKs] at h
    obtain ⟨v, q, rfl, hk, h1, h2⟩ := h
    simp only [List.map_cons]
    refine .cons ?_ (keys_rel h2)
    cases k with
    | inl i => exact relD_int
    | inr z => exact relD_str hk.1 hk.2
theorem RelKs.length {w : Wd} : ∀ {kvs : List (Ky × D)} {ks : List (Key × V)}, RelKs g w kvs ks → ks.length = kvs.length
  | [], ks, h => by simp only [RelKs] at h; subst h; rfl
  | (k, x) :: r, ks, h => by
    simp only [RelKs] at h
    obtain ⟨v, q, rfl, _, h1, h2⟩ := h
    simp [h2.length]
def idOf : Bi → Value
  | .len => .builtin "len" | .list => .type "list" | .tuple => .type "tuple" | .sorted => .builtin "sorted" | .all => .builtin "all" | .any => .builtin "any" | .min => .builtin "min" | .max => .builtin "max"
  | .sum => .builtin "sum" | .abs => .builtin "abs" | .int => .type "int" | .str => .type "str" | .dict => .type "dict"
theorem cr_len (hK : X.K = g.K) : CallR X (.builtin "len") (rC1 g (biD .len)) := by
  intro pins s σ H vs us Q I r h
  obtain ⟨x, rfl, C0, am, st, s', dx, d, hS, hx, e, hT⟩ := h
  simp only [biD] at e
  split at e
  · cases e
    obtain ⟨a, ws, e1, h1, h2⟩ := hx.lst
    refine call_len_seq pins s σ H _ us Q I r ⟨a, ws, by rw [e1], .inl (.inl (.inl h1)), ?_⟩
    rw [h2.length]
    exact hT.val hS relD_int
  · cases e
    obtain ⟨a, ws, e1, h1, h2⟩ := hx.tup
    refine call_len_seq pins s σ H _ us Q I r ⟨a, ws, by rw [e1], .inr (by rw [hK]; exact h1), ?_⟩
    rw [h2.length]
    exact hT.val hS relD_int
  · cases e
    obtain ⟨e1, h1, h2⟩ := hx.str
    exact call_len_str pins s σ H _ us Q I r ⟨_, by rw [e1], by rw [← limL]; exact h1, hT.val hS relD_int⟩
  · cases e
    obtain ⟨a, ks, e1, h1, h2⟩ := hx.dic
    subst e1
    obtain ⟨u, rfl, ru⟩ := vals1 r
    cases ru
    refine d_len I h1 fun t s1 I1 => ⟨.int ks.length, H, I1, ⟨t, rfl⟩, ?_⟩
    rw [h2.length]
    exact hT.val hS relD_int
  · cases e
theorem cr_abs : CallR X (.builtin "abs") (rC1 g (biD .abs)) := by
  intro pins s σ H vs us Q I r h
  obtain ⟨x, rfl, C0, am, st, s', dx, d, hS, hx, e, hT⟩ := h
  simp only [biD] at e
  split at e
  · rename_i i
    cases e
    refine call_abs pins s σ H _ us Q I r ⟨i, by rw [hx.int], ?_⟩
    have e2 : (if i < 0 then -i else i) = (i.natAbs : Int) := by split <;> omega
    rw [e2]
    exact hT.val hS relD_int
  · cases e
theorem cr_int : CallR X (.type "int") (rC1 g (biD .int)) := by
  intro pins s σ H vs us Q I r h
  obtain ⟨x, rfl, C0, am, st, s', dx, d, hS, hx, e, hT⟩ := h
  simp only [biD] at e
  split at e
  · cases e
    exact call_int1 pins s σ H _ us Q I r (.inl ⟨_, by rw [hx.int], hT.val hS relD_int⟩)
  · cases e
theorem cr_allU (hK : X.K = g.K) (hc : X.calm = true) : CallR X (.builtin "all") (rC1 g (biD .all)) := by
  intro pins s σ H vs us Q I r h
  obtain ⟨x, rfl, C0, am, st, s', dx, d, hS, hx, e, hT⟩ := h
  simp only [biD] at e
  split at e
  · obtain ⟨b, e1, rfl⟩ := map_bl e
    obtain ⟨a, ws, e2, h1, h2⟩ := hx.lst
    obtain ⟨bs, e3, e4⟩ := h2.alls e1
    subst e3
    refine cr_all hc pins s σ H _ us Q I r ⟨a, bs, by rw [e2], .inl (.inl h1), ?_⟩
    rw [← e4]
    exact hT.val hS relD_bl
  · cases e
theorem cr_anyU (hK : X.K = g.K) (hc : X.calm = true) : CallR X (.builtin "any") (rC1 g (biD .any)) := by
  intro pins s σ H vs us Q I r h
  obtain ⟨x, rfl, C0, am, st, s', dx, d, hS, hx, e, hT⟩ := h
  simp only [biD] at e
  split at e
  · obtain ⟨b, e1, rfl⟩ := map_bl e
    obtain ⟨a, ws, e2, h1, h2⟩ := hx.lst
    obtain ⟨bs, e3, e4⟩ := h2.anys e1
    subst e3
    refine cr_any hc pins s σ H _ us Q I r ⟨a, bs, by rw [e2], .inl (.inl h1), ?_⟩
    rw [← e4]
    exact hT.val hS relD_bl
  · cases e
theorem cr_minU (hc : X.calm = true) : CallR X (.builtin "min") (rC1 g (biD .min)) := by
  intro pins s σ H vs us Q I r h
  obtain ⟨x, rfl, C0, am, st, s', dx, d, hS, hx, e, hT⟩ := h
  simp only [biD] at e
  split at e
  · split at e
    · rename_i xs n ns e1
      cases e
      obtain ⟨a, ws, e2, h1, h2⟩ := hx.lst
      have e3 := h2.ints e1
      subst e3
      refine cr_min hc pins s σ H _ us Q I r ⟨a, n :: ns, by rw [e2], .inl (.inl h1), by simp, fun m hm hle => ?_⟩
      obtain ⟨m1, m2⟩ := minI_mem ns n
      have : m = minI n ns := by have := hle _ m1; have := m2 _ hm; omega
      rw [this]
      exact hT.val hS relD_int
    · cases e
  · cases e
theorem cr_maxU (hc : X.calm = true) : CallR X (.builtin "max") (rC1 g (biD .max)) := by
  intro pins s σ H vs us Q I r h
  obtain ⟨x, rfl, C0, am, st, s', dx, d, hS, hx, e, hT⟩ := h
  simp only [biD] at e
  split at e
  · split at e
    · rename_i xs n ns e1
      cases e
      obtain ⟨a, ws, e2, h1, h2⟩ := hx.lst
      have e3 := h2.ints e1
      subst e3
      refine cr_max hc pins s σ H _ us Q I r ⟨a, n :: ns, by rw [e2], .inl (.inl h1), by simp, fun m hm hle => ?_⟩
      obtain ⟨m1, m2⟩ := maxI_mem ns n
      have : m = maxI n ns := by have := hle _ m1; have := m2 _ hm; omega
      rw [this]
      exact hT.val hS relD_int
    · cases e
  · cases e
theorem cr_sumU (hc : X.calm = true) : CallR X (.builtin "sum") (rC1 g (biD .sum)) := by
  intro pins s σ H vs us Q I r h
  obtain ⟨x, rfl, C0, am, st, s', dx, d, hS, hx, e, hT⟩ := h
  simp only [biD] at e
  split at e
  · rename_i xs
    cases e1 : intsD xs with
    | none => rw [e1] at e; cases e
    | some ns =>
      rw [e1] at e
      cases e
      obtain ⟨a, ws, e2, h1, h2⟩ := hx.lst
      have e3 := h2.ints e1
      subst e3
      exact cr_sum hc pins s σ H _ us Q I r ⟨a, ns, by rw [e2], .inl (.inl h1), hT.val hS relD_int⟩
  · cases e
theorem cr_tuple (hK : X.K = g.K) : CallR X (.type "tuple") (rC1 g (biD .tuple)) := by
  intro pins s σ H vs us Q I r h
  obtain ⟨x, rfl, C0, am, st, s', dx, d, hS, hx, e, hT⟩ := h
  simp only [biD] at e
  split at e
  · cases e
    obtain ⟨a, ws, e1, h1, h2⟩ := hx.lst
    exact call_tuple_of pins s σ H _ us Q I r ⟨a, ws, by rw [e1], .inl ⟨.inl (.inl h1), fun p hp => hT.tup hS hp h2⟩⟩
  · cases e
    obtain ⟨a, ws, e1, h1, h2⟩ := hx.tup
    refine call_tuple_of pins s σ H _ us Q I r ⟨a, ws, by rw [e1], .inr ⟨by rw [hK]; exact h1, hT.val hS ?_⟩⟩
    simp only [RelD]
    exact ⟨a, ws, rfl, h1, h2⟩
  · cases e
theorem keys_ok {w : Wd} {P : Program} {W : World} {h : Heap} : True := trivial
theorem cr_list (hK : X.K = g.K) (hc : X.calm = true) : CallR X (.type "list") (rC1 g (fun a => match a with | .dic _ => none | a => biD .list a)) := by
  intro pins s σ H vs us Q I r h
  obtain ⟨x, rfl, C0, am, st, s', dx, d, hS, hx, e, hT⟩ := h
  cases dx <;> simp only [biD] at e
  case lst xs =>
    cases e
    obtain ⟨a, ws, e1, h1, h2⟩ := hx.lst
    exact call_list_of pins s σ H _ us Q I r ⟨a, ws, by rw [e1], .inl (.inl (.inl h1)), fun p hp => hT.lst hS hp h2⟩
  case tup xs =>
    cases e
    obtain ⟨a, ws, e1, h1, h2⟩ := hx.tup
    exact call_list_of pins s σ H _ us Q I r ⟨a, ws, by rw [e1], .inr (by rw [hK]; exact h1), fun p hp => hT.lst hS hp h2⟩
  all_goals cases e
theorem pairs_rel {w : Wd} : ∀ {xs : List D} {vs : List V} {ps : List (Ky × D)}, RelDs g w xs vs → pairsOf xs = some ps → ∃ (as : List Addr) (ks : List (Key × V)), vs = as.map V.ref ∧ Paired (fun p kv => SqT g.K w.H p [kV kv.1, kv.2]) as ks ∧ RelKs g w ps ks
  | [], vs, ps, h, e => by
    simp only [RelDs] at h; subst h
    simp [pairsOf] at e; subst e
    exact ⟨[], [], rfl, .nil, by simp [RelKs]⟩
  | x :: xs, vs, ps, h, e => by
    simp only [RelDs] at h
    obtain ⟨v, r, rfl, h1, h2⟩ := h
    unfold pairsOf at e
    split at e
    · rename_i q
      exact absurd q (by simp)
    · rename_i k u r' he
      cases he
      split at e
      · rename_i k' ps' e1 e2
        cases e
        simp only [RelD] at h1
        obtain ⟨a, ws, rfl, h3, h4⟩ := h1
        simp only [RelDs] at h4
        obtain ⟨v1, r1, rfl, h5, v2, r2, rfl, h6, rfl⟩ := h4
        obtain ⟨as, ks, e3, h7, h8⟩ := pairs_rel h2 e2
        have e4 := keyK_rel (.inl h5) e1
        subst e4
        exact ⟨a :: as, (k', v2) :: ks, by rw [e3]; rfl, .cons h3 h7, by simp only [RelKs]; exact ⟨v2, ks, rfl, keyK_ok (.inl h5) e1, h6, h8⟩⟩
      · cases e
    · cases e
theorem any_keys {w : Wd} {k : Key} : ∀ {ds : List (Ky × D)} {ks : List (Key × V)}, RelKs g w ds ks → (ks.any fun kv => decide (kv.1 = k)) = ds.any fun kv => decide (kv.1 = k)
  | [], ks, h => by simp only [RelKs] at h; subst h; rfl
  | (j, x) :: r, ks, h => by
    simp only [RelKs] at h
    obtain ⟨v, q, rfl, _, h1, h2⟩ := h
    simp only [List.any_cons, any_keys h2]
theorem RelKs.map_put {w : Wd} {k : Key} {x : D} {v : V} (hx : RelD g w x v) : ∀ {ds : List (Ky × D)} {ks : List (Key × V)}, RelKs g w ds ks →
    RelKs g w (ds.map fun kv => if kv.1 = k then (kv.1, x) else kv) (ks.map fun kv => if kv.1 = k then (kv.1, v) else kv)
  | [], ks, h => by simp only [RelKs] at h; subst h; simp [RelKs]
  | (j, y) :: r, ks, h => by
    simp only [RelKs] at h
    obtain ⟨u, q, rfl, hk, h1, h2⟩ := h
    simp only [List.map_cons]
    by_cases e : j = k
    · rw [if_pos e, if_pos e]
      simp only [RelKs]
      exact ⟨v, _, rfl, hk, hx, RelKs.map_put hx h2⟩
    · rw [if_neg e, if_neg e]
      simp only [RelKs]
      exact ⟨u, _, rfl, hk, h1, RelKs.map_put hx h2⟩
theorem RelKs.snoc {w : Wd} {k : Key} {x : D} {v : V} (hk' : KyOk k) (hx : RelD g w x v) : ∀ {ds : List (Ky × D)} {ks : List (Key × V)}, RelKs g w ds ks → RelKs g w (ds ++ [(k, x)]) (ks ++ [(k, v)])
  | [], ks, h => by
    simp only [RelKs] at h; subst h
    simp only [List.nil_append, RelKs]
    exact ⟨v, [], rfl, hk', hx, rfl⟩
  | (j, y) :: r, ks, h => by
    simp only [RelKs] at h
    obtain ⟨u, q, rfl, hk, h1, h2⟩ := h
    simp only [List.cons_append, RelKs]
    exact ⟨u, _, rfl, hk, h1, RelKs.snoc hk' hx h2⟩
theorem RelKs.put {w : Wd} {k : Key} {x : D} {v : V} {ds : List (Ky × D)} {ks : List (Key × V)} (h : RelKs g w ds ks) (hk : KyOk k) (hx : RelD g w x v) : RelKs g w (dput ds k x) (putK ks k v) := by
  have e := any_keys (k := k) h
  unfold dput putK
  by_cases c : (ds.any fun kv => decide (kv.1 = k)) = true
  · rw [if_pos c, if_pos (e.trans c)]
    exact RelKs.map_put hx h
  · rw [if_neg c, if_neg (by rw [e]; exact c)]
    exact RelKs.snoc hk hx h
theorem RelKs.merge {w : Wd} : ∀ {ms : List (Ky × D)} {ns : List (Key × V)} {ds : List (Ky × D)} {ks : List (Key × V)}, RelKs g w ms ns → RelKs g w ds ks → RelKs g w (dmerge ds ms) (mergeK ks ns)
  | [], ns, ds, ks, h, k => by simp only [RelKs] at h; subst h; exact k
  | (j, y) :: r, ns, ds, ks, h, k => by
    simp only [RelKs] at h
    obtain ⟨u, q, rfl, hk, h1, h2⟩ := h
    show RelKs g w (dmerge (dput ds j y) r) (mergeK (putK ks j u) q)
    exact RelKs.merge (ms := r) (ns := q) h2 (k.put hk h1)
theorem RelKs.nil {w : Wd} : RelKs g w [] [] := by simp [RelKs]
theorem cr_dict (hK : X.K = g.K) (hc : X.calm = true) : CallR X (.type "dict") (rC1 g (fun a => match a with | .dic _ => none | a => biD .dict a)) := by
  intro pins s σ H vs us Q I r h
  obtain ⟨x, rfl, C0, am, st, s', dx, d, hS, hx, e, hT⟩ := h
  cases dx <;> simp only [biD] at e
  case lst xs =>
    cases e1 : pairsOf xs with
    | none => rw [e1] at e; cases e
    | some ps =>
      rw [e1] at e
      cases e
      obtain ⟨a, ws, e2, h1, h2⟩ := hx.lst
      obtain ⟨as, ks, rfl, h3, h4⟩ := pairs_rel h2 e1
      exact call_dictP hc pins s σ H _ us Q I r ⟨a, as, ks, by rw [e2], .inl (.inl h1), by rw [hK]; exact h3, fun p hp => hT.dic hS hp (RelKs.merge h4 .nil)⟩
  all_goals cases e
end
end Us
end

section
set_option Elab.async false
set_option linter.all false
set_option maxRecDepth 100000
set_option maxHeartbeats 1000000
/-! Us.Snd4: readings of expressions; names, constants, operators, comparisons, tests. -/
namespace Us
open PySem PySem.Spec PyProof.Rows L2

def evT (gx : G) (e : E) (env : Env) (s : S) : R Bool := (ev gx e env s).bind fun w s => match view s w with
  | some (.bl b) => .ok b s
  | _ => .bad
section
variable (g : Gp) (gx : G) (Wx : WX)
def rdE (e : E) : TE := fun σ H Q => ∃ C0 am st env s, Rel g C0 am st env s σ H ∧ Fin g C0 am (RelW g am) Wx σ (wdOf C0 am st H s) (ev gx e env s) Q
def rdT (e : E) : TT := fun σ H Q => ∃ C0 am st env s, Rel g C0 am st env s σ H ∧ Fin g C0 am (fun _ a b => a = b) Wx σ (wdOf C0 am st H s) (evT gx e env s) Q
def rdX (es : Es) : TA := fun σ H Q => ∃ C0 am st env s, Rel g C0 am st env s σ H ∧ Fin g C0 am (RelDs g) Wx σ (wdOf C0 am st H s) (evX gx es env s) Q
end
def RelWs (g : Gp) (am : List Addr) (w : Wd) : List W → List V → Prop
  | [], vs => vs = []
  | x :: xs, vs => ∃ v r, vs = v :: r ∧ RelW g am w x v ∧ RelWs g am w xs r
theorem RelWs.ext {g : Gp} {am : List Addr} {w w' : Wd} (e : Ext w w') : ∀ {xs : List W} {vs : List V}, RelWs g am w xs vs → RelWs g am w' xs vs
  | [], vs, h => h
  | x :: xs, vs, h => by
    obtain ⟨v, r, e1, h1, h2⟩ := h
    exact ⟨v, r, e1, h1.ext e, RelWs.ext e h2⟩
theorem RelWs.length {g : Gp} {am : List Addr} {w : Wd} : ∀ {xs : List W} {vs : List V}, RelWs g am w xs vs → vs.length = xs.length
  | [], vs, h => by simp only [RelWs] at h; subst h; rfl
  | x :: xs, vs, h => by
    obtain ⟨v, r, rfl, h1, h2⟩ := h
    simp [h2.length]
theorem RelWs.get {g : Gp} {am : List Addr} {w : Wd} : ∀ {xs : List W} {vs : List V} {i : Nat} {x : W}, RelWs g am w xs vs → xs[i]? = some x → ∃ v, vs[i]? = some v ∧ RelW g am w x v
  | [], vs, i, x, h, e => by simp at e
  | y :: xs, vs, 0, x, h, e => by
    obtain ⟨v, r, rfl, h1, h⟩ := h
    simp at e; subst e
    exact ⟨v, rfl, h1⟩
  | y :: xs, vs, i + 1, x, h, e => by
    obtain ⟨v, r, rfl, h1, h⟩ := h
    obtain ⟨u, e1, e2⟩ := RelWs.get (i := i) h (by simpa using e)
    exact ⟨u, by simpa using e1, e2⟩
section
variable (g : Gp) (gx : G) (Wx : WX)
def rdA (es : Es) : TA := fun σ H Q => ∃ C0 am st env s, Rel g C0 am st env s σ H ∧ Fin g C0 am (RelWs g am) Wx σ (wdOf C0 am st H s) (evs gx es env s) Q
end

theorem _root_.L2.PE.imp {X : Cx} {e : Expr} {t t' : TE} (h : PE X e t) (i : ∀ σ H Q, t' σ H Q → t σ H Q) : PE X e t' := ⟨fun pins s σ H Q I q => h.run pins s σ H Q I (i σ H Q q)⟩
theorem _root_.L2.PT.imp {X : Cx} {e : Expr} {t t' : TT} (h : PT X e t) (i : ∀ σ H Q, t' σ H Q → t σ H Q) : PT X e t' := ⟨fun pins s σ H Q I q => h.run pins s σ H Q I (i σ H Q q)⟩
theorem _root_.L2.PW.imp {X : Cx} {e : Expr} {t t' : TT} (h : PW X e t) (i : ∀ σ H Q, t' σ H Q → t σ H Q) : PW X e t' := ⟨fun wh pins s σ H Q I q => h.run wh pins s σ H Q I (i σ H Q q)⟩
theorem _root_.L2.PA.imp {X : Cx} {e : List Expr} {t t' : TA} (h : PA X e t) (i : ∀ σ H Q, t' σ H Q → t σ H Q) : PA X e t' := ⟨fun pos pins s σ H Q I q => h.run pos pins s σ H Q I (i σ H Q q)⟩
theorem _root_.L2.PS.imp {X : Cx} {e : Stmt} {t t' : TS} (h : PS X e t) (i : ∀ D σ H, t' D σ H → t D σ H) : PS X e t' := ⟨fun pins s σ H D I q => h.run pins s σ H D I (i D σ H q)⟩
theorem _root_.L2.PSs.imp {X : Cx} {e : List Stmt} {t t' : TS} (h : PSs X e t) (i : ∀ D σ H, t' D σ H → t D σ H) : PSs X e t' := ⟨fun pins s σ H D I q => h.run pins s σ H D I (i D σ H q)⟩

section
variable {X : Cx} {g : Gp} {gx : G} {Wx : WX} {C0 : Pin} {am : List Addr} {σ : L2.St} {st : Option (Addr × Addr)} {H : Hp} {s : S} {env : Env} {w : Wd} {Q : V → Hp → Prop}
theorem vw_fin {α : Type} {x : W} {k : D → R W} {rel : Wd → W → α → Prop} {Q : α → Hp → Prop} (h : Fin g C0 am rel Wx σ w (vw x s k) Q) : ∃ d, view s x = some d ∧ Fin g C0 am rel Wx σ w (k d) Q := by
  unfold vw at h
  cases e : view s x with
  | none => rw [e] at h; exact h.elim
  | some d => rw [e] at h; exact ⟨d, rfl, h⟩
theorem tell_fin {o : Option D} (h : Fin g C0 am (RelW g am) Wx σ w (tell o s) Q) : ∃ d, o = some d ∧ Fin g C0 am (RelW g am) Wx σ w (.ok (.d d) s) Q := by
  cases o with
  | none => exact h.elim
  | some d => exact ⟨d, rfl, h⟩
theorem Rel.at_ {g : Gp} {C0 : Pin} {am : List Addr} {st st1 : Option (Addr × Addr)} {H H1 : Hp} {s s1 : S} {env : Env} {σ : L2.St} (hR : Rel g C0 am st env s σ H) (hS : RelS g C0 am st1 H1 s1) (hX : Ext (wdOf C0 am st H s) (wdOf C0 am st1 H1 s1)) :
    Rel g C0 am st1 env s1 σ H1 := ⟨hS, hR.slots.ext hX, hR.pf⟩
/-- one operand -/
theorem one_op {a : E} {F : D → Option D} (hR : Rel g C0 am st env s σ H) (h : Fin g C0 am (RelW g am) Wx σ (wdOf C0 am st H s) ((ev gx a env s).bind fun x s => vw x s fun x => tell (F x) s) Q) :
    rdE g gx Wx a σ H fun v H1 => rF1 g F v H1 Q := by
  refine ⟨C0, am, st, env, s, hR, h.bind fun x s1 e1 v1 H1 st1 hS1 hX1 hr1 h1 => ?_⟩
  obtain ⟨dx, ex, h1⟩ := vw_fin h1
  obtain ⟨d, ed, h1⟩ := tell_fin h1
  exact ⟨C0, am, st1, s1, dx, d, hS1, view_rel hS1 hr1 ex, ed, h1⟩
/-- two operands -/
theorem two_op {a b : E} {F : D → D → Option D} (hR : Rel g C0 am st env s σ H)
    (h : Fin g C0 am (RelW g am) Wx σ (wdOf C0 am st H s) ((ev gx a env s).bind fun x s => (ev gx b env s).bind fun y s => vw x s fun x => vw y s fun y => tell (F x y) s) Q) :
    tOp (rF2 g F) (rdE g gx Wx a) (rdE g gx Wx b) σ H Q := by
  refine ⟨C0, am, st, env, s, hR, h.bind fun x s1 e1 v1 H1 st1 hS1 hX1 hr1 h1 => ?_⟩
  refine ⟨C0, am, st1, env, s1, hR.at_ hS1 hX1, h1.bind fun y s2 e2 v2 H2 st2 hS2 hX2 hr2 h2 => ?_⟩
  obtain ⟨dx, ex, h2⟩ := vw_fin h2
  obtain ⟨dy, ey, h2⟩ := vw_fin h2
  obtain ⟨d, ed, h2⟩ := tell_fin h2
  exact ⟨C0, am, st2, s2, dx, dy, d, hS2, view_rel hS2 (hr1.ext hX2) ex, view_rel hS2 hr2 ey, ed, h2⟩
/-- a test's answer -/
theorem RelB.data_bl {w : Wd} {b : Bool} {v : V} (h : RelB g w (.bl b) v) : v = .bl b := h.bl
theorem evT_of {a : E} {k : Bool → S → R W} (e : (fun x s => vw x s fun x => match x with
    | .bl true => k true s
    | .bl false => k false s
    | _ => .bad) = fun (x : W) (s : S) => (match view s x with
    | some (.bl b) => (.ok b s : R Bool)
    | _ => .bad).bind k) : (ev gx a env s).bind (fun x s => vw x s fun x => match x with
    | .bl true => k true s
    | .bl false => k false s
    | _ => .bad) = (evT gx a env s).bind k := by
  rw [e]
  unfold evT
  cases ev gx a env s <;> rfl
theorem vw_bool (k : Bool → S → R W) : (fun x s => vw x s fun x => match x with
    | .bl true => k true s
    | .bl false => k false s
    | _ => .bad) = fun (x : W) (s : S) => (match view s x with
    | some (.bl b) => (.ok b s : R Bool)
    | _ => .bad).bind k := by
  funext x s
  unfold vw
  cases view s x with
  | none => rfl
  | some d => cases d <;> first | rfl | (rename_i b; cases b <;> rfl)
theorem test_bind {a : E} (k : Bool → S → R W) : (ev gx a env s).bind (fun x s => vw x s fun x => match x with
    | .bl true => k true s
    | .bl false => k false s
    | _ => .bad) = (evT gx a env s).bind k := evT_of (vw_bool k)
/-- a test by its value -/
theorem sn_val {ex : Expr} {e : E} (h : PE X ex (rdE g gx Wx e)) (he : ∀ whole, isTrue ex X.env whole = (do let v ← whole; standAt ex.pos; holding [v] (truthy v))) : PT X ex (rdT g gx Wx e) := by
  refine (pt_val h he).imp fun σ H Q q => ?_
  obtain ⟨C0, am, st, env, s, hR, hF⟩ := q
  unfold evT at hF
  refine ⟨C0, am, st, env, s, hR, hF.bind fun x s1 e1 v1 H1 st1 hS1 hX1 hr1 h1 => ?_⟩
  cases ev1 : view s1 x with
  | none => rw [ev1] at h1; exact h1.elim
  | some d =>
    rw [ev1] at h1
    have hb := view_rel hS1 hr1 ev1
    cases d with
    | bl b => exact ⟨b, hb.bl, h1 b H1 st1 hS1 (Ext.refl _) rfl⟩
    | _ => exact h1.elim
/-! ### names, constants -/
theorem sn_var {i : Nat} {x : Str} {pos : Pos} (hN : X.N[i]? = some x) (hv : Vis X.env.scope x) (hd : (x == ("__debug__" : Str)) = false) (hcd : (x == ("__classdict__" : Str)) = false) : PE X (.Name x pos) (rdE g gx Wx (.var i)) := by
  refine (pe_var hN hv hd hcd).imp fun σ H Q q => ?_
  obtain ⟨C0, am, st, env, s, hR, hF⟩ := q
  simp only [ev] at hF
  cases e : env[i]? with
  | none => rw [e] at hF; exact hF.elim
  | some o =>
    cases o with
    | none => rw [e] at hF; exact hF.elim
    | some w =>
      rw [e] at hF
      obtain ⟨v, e1, r⟩ := hR.slots.at_ i w e
      cases w with
      | d x => exact ⟨v, e1, hF v H st hR.cells (Ext.refl _) r⟩
      | ref n => exact ⟨v, e1, hF v H st hR.cells (Ext.refl _) r⟩
      | lam b env => exact hF.elim
      | exc c x => exact hF.elim
theorem sn_const {ex : Expr} {e : E} {v : V} {d : D} (h : PE X ex (tC v)) (he : ∀ env s, ev gx e env s = .ok (.d d) s) (hr : ∀ w, RelD g w d v) : PE X ex (rdE g gx Wx e) := by
  refine h.imp fun σ H Q q => ?_
  obtain ⟨C0, am, st, env, s, hR, hF⟩ := q
  rw [he] at hF
  exact hF v H st hR.cells (Ext.refl _) (hr _)
theorem sn_int {i j pos} : PE X (.Constant (.int i) j pos) (rdE g gx Wx (.int i)) := sn_const pe_int (fun _ _ => rfl) fun _ => relD_int
theorem sn_bl {b j pos} : PE X (.Constant (.bool b) j pos) (rdE g gx Wx (.bl b)) := sn_const pe_bl (fun _ _ => rfl) fun _ => relD_bl
theorem sn_non {j pos} : PE X (.Constant .none j pos) (rdE g gx Wx .non) := sn_const pe_non (fun _ _ => rfl) fun _ => relD_non
theorem sn_str {x : Str} {j pos} (h1 : x.cps.size ≤ lim) (h2 : PyData.strOk x = true) : PE X (.Constant (.str x) j pos) (rdE g gx Wx (.str x)) := sn_const pe_str (fun _ _ => rfl) fun _ => relD_str h1 h2
theorem sn_fn {x : Str} {f : Nat} {pos : Pos} (hg : Gl X x) (hm : X.mg x = some (.ref (g.fa f))) (hd : (x == ("__debug__" : Str)) = false) : PE X (.Name x pos) (rdE g gx Wx (.fn f)) :=
  sn_const (d := .fn f) (pe_glob (v := .ref (g.fa f)) hg hm rfl hd) (fun _ _ => rfl) fun _ => by simp [RelD]
/-! ### operators -/
theorem sn_bin {a b : Expr} {ea eb : E} {o : BinO} {pos : Pos} (hK : X.K = g.K) (ha : PE X a (rdE g gx Wx ea)) (hb : PE X b (rdE g gx Wx eb)) : PE X (.BinOp a (opOf o) b pos) (rdE g gx Wx (.bin o ea eb)) := by
  refine (pe_op (or_bin hK o) ha hb).imp fun σ H Q q => ?_
  obtain ⟨C0, am, st, env, s, hR, hF⟩ := q
  simp only [ev] at hF
  exact two_op hR hF
theorem sn_cmp {a b : Expr} {ea eb : E} {o : CmpO} {pos : Pos} (hK : X.K = g.K) (hu : X.A.units + 66 < cLine) (ha : PE X a (rdE g gx Wx ea)) (hb : PE X b (rdE g gx Wx eb)) (hm : behindInMarks (cmpOf o) b = false) :
    PE X (.Compare a [cmpOf o] [b] pos) (rdE g gx Wx (.cmp o ea eb)) ∧ PT X (.Compare a [cmpOf o] [b] pos) (rdT g gx Wx (.cmp o ea eb)) := by
  have hO := or_cmp (g := g) hK hu o
  refine ⟨(pe_cmpR hO ha hb hm).imp fun σ H Q q => ?_, (pt_cmpR hO ha hb hm).imp fun σ H Q q => ?_⟩
  · obtain ⟨C0, am, st, env, s, hR, hF⟩ := q
    simp only [ev] at hF
    exact two_op hR hF
  · obtain ⟨C0, am, st, env, s, hR, hF⟩ := q
    have hF2 : Fin g C0 am (RelW g am) Wx σ (wdOf C0 am st H s) (ev gx (.cmp o ea eb) env s) (fun x H' => ∃ k, x = .bl k ∧ Q k H') := by
      unfold evT at hF
      refine hF.bind fun x s1 e1 v1 H1 st1 hS1 hX1 hr1 h1 => ?_
      cases ev1 : view s1 x with
      | none => rw [ev1] at h1; exact h1.elim
      | some d =>
        rw [ev1] at h1
        have hb := view_rel hS1 hr1 ev1
        cases d with
        | bl b => exact ⟨b, hb.bl, h1 b H1 st1 hS1 (Ext.refl _) rfl⟩
        | _ => exact h1.elim
    simp only [ev] at hF2
    exact two_op hR hF2
/-- a reading as a value is one as a test -/
theorem asTest {e : E} {Q : Bool → Hp → Prop} (hF : Fin g C0 am (fun _ a b => a = b) Wx σ w (evT gx e env s) Q) : Fin g C0 am (RelW g am) Wx σ w (ev gx e env s) (fun x H' => ∃ k, x = .bl k ∧ Q k H') := by
  unfold evT at hF
  refine hF.bind fun x s1 e1 v1 H1 st1 hS1 hX1 hr1 h1 => ?_
  cases ev1 : view s1 x with
  | none => rw [ev1] at h1; exact h1.elim
  | some d =>
    rw [ev1] at h1
    have hb := view_rel hS1 hr1 ev1
    cases d with
    | bl b => exact ⟨b, hb.bl, h1 b H1 st1 hS1 (Ext.refl _) rfl⟩
    | _ => exact h1.elim
theorem chain_op {a b c : E} {o p : CmpO} (hR : Rel g C0 am st env s σ H) (hF : Fin g C0 am (RelW g am) Wx σ (wdOf C0 am st H s) (ev gx (.chain o p a b c) env s) Q) :
    tChain (rCmp g o) (rCmp g p) (rdE g gx Wx a) (rdE g gx Wx b) (rdE g gx Wx c) σ H Q := by
  simp only [ev] at hF
  refine ⟨C0, am, st, env, s, hR, hF.bind fun x s1 e1 v1 H1 st1 hS1 hX1 hr1 h1 => ?_⟩
  refine ⟨C0, am, st1, env, s1, hR.at_ hS1 hX1, h1.bind fun y s2 e2 v2 H2 st2 hS2 hX2 hr2 h2 => ?_⟩
  obtain ⟨dx, ex, h2⟩ := vw_fin h2
  obtain ⟨dy, ey, h2⟩ := vw_fin h2
  cases ec : cmpD o dx dy with
  | none => rw [ec] at h2; exact h2.elim
  | some k =>
    rw [ec] at h2
    refine ⟨C0, am, st2, s2, dx, dy, .bl k, hS2, view_rel hS2 (hr1.ext hX2) ex, view_rel hS2 hr2 ey, by show (cmpD o dx dy).map D.bl = _; rw [ec]; rfl, fun b H3 st3 hS3 hX3 hb => ?_⟩
    have hb : b = .bl k := by simpa [RelD] using hb
    refine ⟨k, hb, ?_⟩
    have h3 := h2.ext hX3
    cases k with
    | false =>
      have h4 : Fin g C0 am (RelW g am) Wx σ (wdOf C0 am st3 H3 s2) (.ok (.d (.bl false)) s2) Q := h3
      exact h4 (.bl false) H3 st3 hS3 (Ext.refl _) (relD_bl (g := g) (w := wdOf C0 am st3 H3 s2))
    | true =>
      rw [if_pos rfl]
      refine ⟨C0, am, st3, env, s2, (hR.at_ hS1 hX1).at_ hS3 (hX2.trans hX3), h3.bind fun z s4 e4 v4 H4 st4 hS4 hX4 hr4 h4 => ?_⟩
      obtain ⟨dy', ey', h4⟩ := vw_fin h4
      obtain ⟨dz, ez, h4⟩ := vw_fin h4
      obtain ⟨d, ed, h4⟩ := tell_fin h4
      exact ⟨C0, am, st4, s4, dy', dz, d, hS4, view_rel hS4 ((hr2.ext hX3).ext hX4) ey', view_rel hS4 hr4 ez, ed, h4⟩
theorem sn_chain {a b c : Expr} {ea eb ec : E} {o p : CmpO} {pos : Pos} (hK : X.K = g.K) (hu : X.A.units + 66 < cLine) (ha : PE X a (rdE g gx Wx ea)) (hb : PE X b (rdE g gx Wx eb)) (hc : PE X c (rdE g gx Wx ec)) (hm : lastMarks [cmpOf o, cmpOf p] [b, c] = false) :
    PE X (.Compare a [cmpOf o, cmpOf p] [b, c] pos) (rdE g gx Wx (.chain o p ea eb ec)) ∧ PT X (.Compare a [cmpOf o, cmpOf p] [b, c] pos) (rdT g gx Wx (.chain o p ea eb ec)) := by
  have hO := or_cmp (g := g) hK hu o
  have hP := or_cmp (g := g) hK hu p
  refine ⟨(pe_chain hO hP ha hb hc hm).imp fun σ H Q q => ?_, (pt_chain hO hP ha hb hc hm).imp fun σ H Q q => ?_⟩
  · obtain ⟨C0, am, st, env, s, hR, hF⟩ := q
    exact chain_op hR hF
  · obtain ⟨C0, am, st, env, s, hR, hF⟩ := q
    exact chain_op hR (asTest hF)
/-! ### and, or, not, if .. else -/
theorem evT_bind {e : E} {r : R Bool} {k : Bool → S → R W} (he : ev gx e env s = r.bind k) : evT gx e env s = r.bind fun b s => (k b s).bind fun w s => match view s w with
    | some (.bl b) => .ok b s
    | _ => .bad := by
  unfold evT
  rw [he]
  cases r <;> rfl
theorem rdT_in {a : E} {Q : Bool → Hp → Prop} {α : Type} {rel : Wd → W → α → Prop} {Q' : α → Hp → Prop} {k : Bool → S → R W} (hR : Rel g C0 am st env s σ H) (hF : Fin g C0 am rel Wx σ (wdOf C0 am st H s) ((evT gx a env s).bind k) Q')
    (hk : ∀ b H1 st1 s1, Rel g C0 am st1 env s1 σ H1 → Fin g C0 am rel Wx σ (wdOf C0 am st1 H1 s1) (k b s1) Q' → Q b H1) : rdT g gx Wx a σ H Q :=
  ⟨C0, am, st, env, s, hR, hF.bind fun b s1 e1 b' H1 st1 hS1 hX1 hr1 h1 => by
    have hr1 : b = b' := hr1
    subst hr1
    exact hk b H1 st1 s1 (hR.at_ hS1 hX1) h1⟩
theorem rdT_in2 {a : E} {Q : Bool → Hp → Prop} {α : Type} {rel : Wd → Bool → α → Prop} {Q' : α → Hp → Prop} {k : Bool → S → R Bool} (hR : Rel g C0 am st env s σ H) (hF : Fin g C0 am rel Wx σ (wdOf C0 am st H s) ((evT gx a env s).bind k) Q')
    (hk : ∀ b H1 st1 s1, Rel g C0 am st1 env s1 σ H1 → Fin g C0 am rel Wx σ (wdOf C0 am st1 H1 s1) (k b s1) Q' → Q b H1) : rdT g gx Wx a σ H Q :=
  ⟨C0, am, st, env, s, hR, hF.bind fun b s1 e1 b' H1 st1 hS1 hX1 hr1 h1 => by
    have hr1 : b = b' := hr1
    subst hr1
    exact hk b H1 st1 s1 (hR.at_ hS1 hX1) h1⟩
theorem ev_and {a r : E} : ev gx (.and a r) env s = (evT gx a env s).bind fun b s => if b = true then ev gx r env s else .ok (.d (.bl false)) s := by
  simp only [ev]
  exact test_bind (fun b s => if b = true then ev gx r env s else .ok (.d (.bl false)) s)
theorem ev_or {a r : E} : ev gx (.or a r) env s = (evT gx a env s).bind fun b s => if b = true then .ok (.d (.bl true)) s else ev gx r env s := by
  simp only [ev]
  exact test_bind (fun b s => if b = true then .ok (.d (.bl true)) s else ev gx r env s)
theorem ev_ite {c a b : E} : ev gx (.ite c a b) env s = (evT gx c env s).bind fun k s => if k = true then ev gx a env s else ev gx b env s := by
  simp only [ev]
  exact test_bind (fun k s => if k = true then ev gx a env s else ev gx b env s)
theorem ev_not {a : E} : ev gx (.not a) env s = (evT gx a env s).bind fun b s => .ok (.d (.bl (!b))) s := by
  simp only [ev]
  rw [← test_bind (fun b s => .ok (.d (.bl (!b))) s)]
  congr 1
  funext x s
  unfold vw
  cases view s x with
  | none => rfl
  | some d => cases d <;> first | rfl | (rename_i b; cases b <;> rfl)
theorem evT_and {a r : E} : evT gx (.and a r) env s = (evT gx a env s).bind fun b s => if b = true then evT gx r env s else .ok false s := by
  rw [evT_bind ev_and]
  congr 1
  funext b s
  cases b <;> rfl
theorem evT_or {a r : E} : evT gx (.or a r) env s = (evT gx a env s).bind fun b s => if b = true then .ok true s else evT gx r env s := by
  rw [evT_bind ev_or]
  congr 1
  funext b s
  cases b <;> rfl
theorem evT_ite {c a b : E} : evT gx (.ite c a b) env s = (evT gx c env s).bind fun k s => if k = true then evT gx a env s else evT gx b env s := by
  rw [evT_bind ev_ite]
  congr 1
  funext b s
  cases b <;> rfl
theorem evT_not {a : E} : evT gx (.not a) env s = (evT gx a env s).bind fun b s => .ok (!b) s := by
  rw [evT_bind ev_not]
  congr 1
theorem evT_one {a : E} : evT gx (.one a) env s = evT gx a env s := by
  unfold evT
  simp only [ev]
theorem sn_one {x : Expr} {e : E} {op : BoolOp} {pos : Pos} (h : PE X x (rdE g gx Wx e)) (ht : PT X x (rdT g gx Wx e)) : PE X (.BoolOp op [x] pos) (rdE g gx Wx (.one e)) ∧ PW X (.BoolOp op [x] pos) (rdT g gx Wx (.one e)) := by
  refine ⟨(pe_one h).imp fun σ H Q q => ?_, ?_⟩
  · obtain ⟨C0, am, st, env, s, hR, hF⟩ := q
    simp only [ev] at hF
    exact ⟨C0, am, st, env, s, hR, hF⟩
  · have i : ∀ σ H Q, rdT g gx Wx (.one e) σ H Q → rdT g gx Wx e σ H Q := fun σ H Q q => by
      obtain ⟨C0, am, st, env, s, hR, hF⟩ := q
      rw [evT_one] at hF
      exact ⟨C0, am, st, env, s, hR, hF⟩
    cases op with
    | And => exact (pw_and1 ht).imp i
    | Or => exact (pw_or1 ht).imp i
theorem val_in {a : E} {Q' : Bool → Hp → Prop} {α : Type} {rel : Wd → W → α → Prop} {Q : α → Hp → Prop} {k : Bool → S → R W} (hR : Rel g C0 am st env s σ H) (hF : Fin g C0 am rel Wx σ (wdOf C0 am st H s) ((evT gx a env s).bind k) Q)
    (hk : ∀ b H1 st1 s1, Rel g C0 am st1 env s1 σ H1 → Fin g C0 am rel Wx σ (wdOf C0 am st1 H1 s1) (k b s1) Q → Q' b H1) : rdE g gx Wx a σ H fun x H1 => ∃ c, x = .bl c ∧ Q' c H1 :=
  ⟨C0, am, st, env, s, hR, asTest (hF.bind fun b s1 e1 b' H1 st1 hS1 hX1 hr1 h1 => by
    have hr1 : b = b' := hr1
    subst hr1
    exact hk b H1 st1 s1 (hR.at_ hS1 hX1) h1)⟩
theorem fin_val {d : D} {v : V} {Q : V → Hp → Prop} (hR : Rel g C0 am st env s σ H) (h : Fin g C0 am (RelW g am) Wx σ (wdOf C0 am st H s) (.ok (.d d) s) Q) (r : RelD g (wdOf C0 am st H s) d v) : Q v H := h v H st hR.cells (Ext.refl _) r
theorem fin_bool {b : Bool} {Q : Bool → Hp → Prop} (hR : Rel g C0 am st env s σ H) (h : Fin g C0 am (fun _ a b => a = b) Wx σ (wdOf C0 am st H s) (.ok b s) Q) : Q b H := h b H st hR.cells (Ext.refl _) rfl
theorem sn_and {x y : Expr} {rest : List Expr} {e r : E} {pos : Pos} (h : PE X x (rdE g gx Wx e)) (ht : PT X x (rdT g gx Wx e)) (hr : PE X (.BoolOp .And (y :: rest) pos) (rdE g gx Wx r)) (hrt : PW X (.BoolOp .And (y :: rest) pos) (rdT g gx Wx r)) :
    PE X (.BoolOp .And (x :: y :: rest) pos) (rdE g gx Wx (.and e r)) ∧ PW X (.BoolOp .And (x :: y :: rest) pos) (rdT g gx Wx (.and e r)) := by
  refine ⟨(pe_and h hr).imp fun σ H Q q => ?_, (pw_and ht hrt).imp fun σ H Q q => ?_⟩
  · obtain ⟨C0, am, st, env, s, hR, hF⟩ := q
    rw [ev_and] at hF
    refine val_in hR hF fun b H1 st1 s1 hR1 h1 => ?_
    cases b with
    | true =>
      rw [if_pos rfl] at h1 ⊢
      exact ⟨C0, am, st1, env, s1, hR1, h1⟩
    | false =>
      rw [if_neg Bool.false_ne_true] at h1 ⊢
      exact fin_val hR1 h1 relD_bl
  · obtain ⟨C0, am, st, env, s, hR, hF⟩ := q
    rw [evT_and] at hF
    refine rdT_in2 hR hF fun b H1 st1 s1 hR1 h1 => ?_
    cases b with
    | true =>
      rw [if_pos rfl] at h1 ⊢
      exact ⟨C0, am, st1, env, s1, hR1, h1⟩
    | false =>
      rw [if_neg Bool.false_ne_true] at h1 ⊢
      exact fin_bool hR1 h1
theorem sn_or {x y : Expr} {rest : List Expr} {e r : E} {pos : Pos} (h : PE X x (rdE g gx Wx e)) (ht : PT X x (rdT g gx Wx e)) (hr : PE X (.BoolOp .Or (y :: rest) pos) (rdE g gx Wx r)) (hrt : PW X (.BoolOp .Or (y :: rest) pos) (rdT g gx Wx r)) :
    PE X (.BoolOp .Or (x :: y :: rest) pos) (rdE g gx Wx (.or e r)) ∧ PW X (.BoolOp .Or (x :: y :: rest) pos) (rdT g gx Wx (.or e r)) := by
  refine ⟨(pe_or h hr).imp fun σ H Q q => ?_, (pw_or ht hrt).imp fun σ H Q q => ?_⟩
  · obtain ⟨C0, am, st, env, s, hR, hF⟩ := q
    rw [ev_or] at hF
    refine val_in hR hF fun b H1 st1 s1 hR1 h1 => ?_
    cases b with
    | true =>
      rw [if_pos rfl] at h1 ⊢
      exact fin_val hR1 h1 relD_bl
    | false =>
      rw [if_neg Bool.false_ne_true] at h1 ⊢
      exact ⟨C0, am, st1, env, s1, hR1, h1⟩
  · obtain ⟨C0, am, st, env, s, hR, hF⟩ := q
    rw [evT_or] at hF
    refine rdT_in2 hR hF fun b H1 st1 s1 hR1 h1 => ?_
    cases b with
    | true =>
      rw [if_pos rfl] at h1 ⊢
      exact fin_bool hR1 h1
    | false =>
      rw [if_neg Bool.false_ne_true] at h1 ⊢
      exact ⟨C0, am, st1, env, s1, hR1, h1⟩
theorem sn_not {x : Expr} {e : E} {pos : Pos} (h : PE X x (rdE g gx Wx e)) (ht : PT X x (rdT g gx Wx e)) : PE X (.UnaryOp .Not x pos) (rdE g gx Wx (.not e)) ∧ PT X (.UnaryOp .Not x pos) (rdT g gx Wx (.not e)) := by
  refine ⟨(pe_not h).imp fun σ H Q q => ?_, (pt_not ht).imp fun σ H Q q => ?_⟩
  · obtain ⟨C0, am, st, env, s, hR, hF⟩ := q
    rw [ev_not] at hF
    exact val_in hR hF fun b H1 st1 s1 hR1 h1 => fin_val hR1 h1 relD_bl
  · obtain ⟨C0, am, st, env, s, hR, hF⟩ := q
    rw [evT_not] at hF
    exact rdT_in2 hR hF fun b H1 st1 s1 hR1 h1 => fin_bool hR1 h1
theorem isTrue_ifExp {c a b : Expr} {pos : Pos} {whole : Sem Value} {env : PySem.Env} : isTrue (.IfExp c a b pos) env whole = (do if ← isTrue c env (eval c env) then isTrue a env (eval a env) else isTrue b env (eval b env)) := by
  first | rfl | simp [isTrue]
theorem pt_ifExp {c a b : Expr} {tc ta tb : TT} {pos : Pos} (hc : PT X c tc) (ha : PT X a ta) (hb : PT X b tb) : PT X (.IfExp c a b pos) (fun σ H Q => tc σ H fun k H1 => if k = true then ta σ H1 Q else tb σ H1 Q) := by
  refine ⟨fun pins s σ H Q I h => ?_⟩
  rw [isTrue_ifExp]
  refine wpAny_bind (thn (hc.run pins s σ H _ I h) fun d s1 ⟨H1, I1, q1⟩ => ?_)
  cases d with
  | true =>
    rw [if_pos rfl] at q1 ⊢
    exact ha.run pins s1 σ H1 Q I1 q1
  | false =>
    rw [if_neg Bool.false_ne_true] at q1 ⊢
    exact hb.run pins s1 σ H1 Q I1 q1
theorem sn_ite {c a b : Expr} {ec ea eb : E} {pos : Pos} (hc : PT X c (rdT g gx Wx ec)) (ha : PE X a (rdE g gx Wx ea)) (ta : PT X a (rdT g gx Wx ea)) (hb : PE X b (rdE g gx Wx eb)) (tb : PT X b (rdT g gx Wx eb)) :
    PE X (.IfExp c a b pos) (rdE g gx Wx (.ite ec ea eb)) ∧ PT X (.IfExp c a b pos) (rdT g gx Wx (.ite ec ea eb)) := by
  refine ⟨(pe_ifExp hc ha hb).imp fun σ H Q q => ?_, (pt_ifExp hc ta tb).imp fun σ H Q q => ?_⟩
  · obtain ⟨C0, am, st, env, s, hR, hF⟩ := q
    rw [ev_ite] at hF
    refine rdT_in hR hF fun b H1 st1 s1 hR1 h1 => ?_
    cases b with
    | true =>
      rw [if_pos rfl] at h1 ⊢
      exact ⟨C0, am, st1, env, s1, hR1, h1⟩
    | false =>
      rw [if_neg Bool.false_ne_true] at h1 ⊢
      exact ⟨C0, am, st1, env, s1, hR1, h1⟩
  · obtain ⟨C0, am, st, env, s, hR, hF⟩ := q
    rw [evT_ite] at hF
    refine rdT_in2 hR hF fun b H1 st1 s1 hR1 h1 => ?_
    cases b with
    | true =>
      rw [if_pos rfl] at h1 ⊢
      exact ⟨C0, am, st1, env, s1, hR1, h1⟩
    | false =>
      rw [if_neg Bool.false_ne_true] at h1 ⊢
      exact ⟨C0, am, st1, env, s1, hR1, h1⟩
theorem neg_op : UnR X (unaryOp .USub) (rF1 g fun x => match x with | .int i => some (.int (-i)) | _ => none) := by
  intro pins s σ H x v Q I rx h
  obtain ⟨C0, am, st, s', dx, d, hS, hx, e, hT⟩ := h
  cases dx <;> simp only at e
  case int i =>
    cases e
    exact un_neg pins s σ H x v Q I rx ⟨i, hx.int, hT.val hS relD_int⟩
  all_goals cases e
theorem sn_neg {x : Expr} {e : E} {pos : Pos} (h : PE X x (rdE g gx Wx e)) : PE X (.UnaryOp .USub x pos) (rdE g gx Wx (.neg e)) := by
  refine (pe_un (neg_op (g := g)) h).imp fun σ H Q q => ?_
  obtain ⟨C0, am, st, env, s, hR, hF⟩ := q
  refine one_op (F := fun x => match x with | .int i => some (.int (-i)) | _ => none) hR ?_
  have e : ev gx (.neg e) env s = (ev gx e env s).bind fun x s => vw x s fun x => tell (match x with | .int i => some (.int (-i)) | _ => none) s := by
    simp only [ev]
    congr 1
    funext x s
    unfold vw
    cases view s x with
    | none => rfl
    | some d => cases d <;> rfl
  rw [← e]
  exact hF
end
end Us
end

section
set_option Elab.async false
set_option linter.all false
set_option maxRecDepth 100000
set_option maxHeartbeats 1000000
/-! Us.Snd5: displays, built-ins by name, isinstance, subscripts, slices. -/
namespace Us
open PySem PySem.Spec PyProof.Rows L2
section
variable {X : Cx} {g : Gp} {gx : G} {Wx : WX} {C0 : Pin} {am : List Addr} {σ : L2.St} {st : Option (Addr × Addr)} {H : Hp} {s : S} {env : Env} {w : Wd} {Q : V → Hp → Prop}
/-! ### what goes into data -/
theorem Fin.esc {r : R W} {α γ : Type} {rel2 : Wd → α → γ → Prop} {k : D → S → R α} {Q : γ → Hp → Prop} {Q1 : V → Hp → Prop} (h : Fin g C0 am rel2 Wx σ w ((r.bind esc).bind k) Q)
    (hk : ∀ d v H' st' s', RelS g C0 am st' H' s' → Ext w (wdOf C0 am st' H' s') → RelD g (wdOf C0 am st' H' s') d v → Fin g C0 am rel2 Wx σ (wdOf C0 am st' H' s') (k d s') Q → Q1 v H') : Fin g C0 am (RelW g am) Wx σ w r Q1 := by
  have e : (r.bind Us.esc).bind k = r.bind fun x s => (Us.esc x s).bind k := by cases r <;> rfl
  rw [e] at h
  refine h.bind fun x s1 e1 v1 H1 st1 hS1 hX1 hr1 h1 => ?_
  cases e2 : Us.esc x s1 with
  | bad => rw [e2] at h1; exact h1.elim
  | exc c y s2 => cases x <;> simp only [Us.esc] at e2 <;> first | cases e2 | (split at e2 <;> cases e2)
  | ok d s2 =>
    rw [e2] at h1
    obtain ⟨a1, a2, a3⟩ := esc_rel hS1 hr1 e2
    exact hk d v1 H1 st1 s2 a1 (hX1.trans a2) a3 (h1.ext a2)
def NoStar (e : Expr) : Prop := ∀ es env, starEach (e :: es) env = (false, eval e env) :: starEach es env
theorem sx_nil : PA X [] (rdX g gx Wx .nil) := by
  refine pa_nil.imp fun σ H Q q => ?_
  obtain ⟨C0, am, st, env, s, hR, hF⟩ := q
  simp only [evX] at hF
  exact hF [] H st hR.cells (Ext.refl _) .nil
theorem sx_cons {e : Expr} {es : List Expr} {i : E} {is : Es} (ha : PE X e (rdE g gx Wx i)) (hr : PA X es (rdX g gx Wx is)) (hs : NoStar e) : PA X (e :: es) (rdX g gx Wx (.cons i is)) := by
  refine (pa_cons ha hr (hs _ _)).imp fun σ H Q q => ?_
  obtain ⟨C0, am, st, env, s, hR, hF⟩ := q
  simp only [evX] at hF
  refine ⟨C0, am, st, env, s, hR, hF.esc fun d v H1 st1 s1 hS1 hX1 hd h1 => ?_⟩
  refine ⟨C0, am, st1, env, s1, hR.at_ hS1 hX1, h1.bind fun xs s2 e2 vs H2 st2 hS2 hX2 hr2 h2 => ?_⟩
  exact h2 (v :: vs) H2 st2 hS2 (Ext.refl _) (.cons (RelD.ext hX2 _ _ hd) hr2)
theorem evX_len : ∀ (es : Es) (env : Env) (s : S) (xs : List D) (s' : S), evX gx es env s = .ok xs s' → xs.length = es.len
  | .nil, env, s, xs, s', h => by
    simp only [evX] at h
    cases h
    rfl
  | .cons e es, env, s, xs, s', h => by
    simp only [evX] at h
    cases e1 : (ev gx e env s).bind esc with
    | ok d s1 =>
      rw [e1] at h
      simp only [R.bind] at h
      cases e2 : evX gx es env s1 with
      | ok ys s2 =>
        rw [e2] at h
        simp only at h
        cases h
        simp [Es.len, evX_len es env s1 ys _ e2]
      | exc c x s2 => rw [e2] at h; cases h
      | bad => rw [e2] at h; cases h
    | exc c x s1 => rw [e1] at h; cases h
    | bad => rw [e1] at h; cases h
theorem rdX_in {es : Es} {α γ : Type} {rel2 : Wd → α → γ → Prop} {k : List D → S → R α} {Q : γ → Hp → Prop} {Q1 : List V → Hp → Prop} (hR : Rel g C0 am st env s σ H) (h : Fin g C0 am rel2 Wx σ (wdOf C0 am st H s) ((evX gx es env s).bind k) Q)
    (hk : ∀ xs vs H' st' s', xs.length = es.len → Rel g C0 am st' env s' σ H' → Ext (wdOf C0 am st H s) (wdOf C0 am st' H' s') → RelDs g (wdOf C0 am st' H' s') xs vs → Fin g C0 am rel2 Wx σ (wdOf C0 am st' H' s') (k xs s') Q → Q1 vs H') : rdX g gx Wx es σ H Q1 :=
  ⟨C0, am, st, env, s, hR, h.bind fun xs s1 e1 vs H1 st1 hS1 hX1 hr1 h1 => hk xs vs H1 st1 s1 (evX_len es env s xs s1 e1) (hR.at_ hS1 hX1) hX1 hr1 h1⟩
theorem Tell.of (h : Fin g C0 am (RelW g am) Wx σ (wdOf C0 am st H s) (.ok (.d d) s) Q) : Tell g C0 am st H s d Q := h
theorem sn_tup {es : List Expr} {is : Es} {k : Nat} {pos : Pos} (h : PA X es (rdX g gx Wx is)) (hl : is.len ≤ 1000) : PE X (.Tuple es k pos) (rdE g gx Wx (.tup is)) := by
  refine (pe_tup h).imp fun σ H Q q => ?_
  obtain ⟨C0, am, st, env, s, hR, hF⟩ := q
  simp only [ev] at hF
  refine rdX_in hR hF fun xs vs H1 st1 s1 hlen hR1 hX1 hr1 h1 => ⟨by rw [hr1.length, hlen, ← limL]; unfold lim; omega, fun p hp => ?_⟩
  exact (Tell.of h1).tup hR1.cells hp hr1
theorem sn_lst {es : List Expr} {is : Es} {pos : Pos} (h : PA X es (rdX g gx Wx is)) (hl : is.len ≤ 1000) : PE X (.List es pos) (rdE g gx Wx (.lst is)) := by
  refine (pe_lst h).imp fun σ H Q q => ?_
  obtain ⟨C0, am, st, env, s, hR, hF⟩ := q
  simp only [ev] at hF
  refine rdX_in hR hF fun xs vs H1 st1 s1 hlen hR1 hX1 hr1 h1 => ⟨by rw [hr1.length, hlen, ← limL]; unfold lim; omega, fun p hp => ?_⟩
  exact (Tell.of h1).lst hR1.cells hp hr1
theorem sn_star {a : Expr} {es : List Expr} {i : E} {is : Es} {p pos : Pos} (hK : X.K = g.K) (ha : PE X a (rdE g gx Wx i)) (h : PA X es (rdX g gx Wx is)) : PE X (.List (.Starred a p :: es) pos) (rdE g gx Wx (.star i is)) := by
  refine (pe_lst (StX.pa_star ha h)).imp fun σ H Q q => ?_
  obtain ⟨C0, am, st, env, s, hR, hF⟩ := q
  simp only [ev] at hF
  refine ⟨C0, am, st, env, s, hR, hF.bind fun x s1 e1 v1 H1 st1 hS1 hX1 hr1 h1 => ?_⟩
  obtain ⟨d, ed, h1⟩ := vw_fin h1
  have hb := view_rel hS1 hr1 ed
  have key : ∀ xs vs, seqD d = some xs → RelDs g (wdOf C0 am st1 H1 s1) xs vs → rdX g gx Wx is σ H1 fun ys H2 => (vs ++ ys).length ≤ sizeLine ∧ ∀ p, H2 p = none → Q (.ref p) (upd H2 p (.lst (vs ++ ys))) := fun xs vs e2 hxs => by
    rw [e2] at h1
    refine rdX_in (hR.at_ hS1 hX1) h1 fun ys us H2 st2 s2 hlen hR2 hX2 hr2 h2 => ?_
    split at h2
    · rename_i hz
      refine ⟨by rw [List.length_append, hxs.length, hr2.length, ← limL]; exact hz, fun p hp => ?_⟩
      exact (Tell.of h2).lst hR2.cells hp ((RelDs.ext hX2 _ _ hxs).append hr2)
    · exact h2.elim
  cases d with
  | lst xs =>
    obtain ⟨a, vs, e2, h2, h3⟩ := hb.lst
    exact ⟨a, vs, e2, .inr (.inl (.inl h2)), key xs vs rfl h3⟩
  | tup xs =>
    obtain ⟨a, vs, e2, h2, h3⟩ := hb.tup
    exact ⟨a, vs, e2, .inl (by rw [hK]; exact h2), key xs vs rfl h3⟩
  | _ => exact h1.elim
/-! ### built-ins of one datum by name -/
theorem one_arg' {a : E} {F : D → Option D} (hR : Rel g C0 am st env s σ H) (h : Fin g C0 am (RelW g am) Wx σ (wdOf C0 am st H s) ((ev gx a env s).bind fun x s => vw x s fun x => tell (F x) s) Q) :
    tCB (rC1 g F) (tCons (rdE g gx Wx a) tNil) σ H Q := by
  obtain ⟨C0', am', st', env', s', hR', hF'⟩ := one_op (Q := Q) hR h
  exact ⟨C0', am', st', env', s', hR', by
    revert hF'
    cases ev gx a env' s' with
    | ok x s1 => exact fun h b H1 st1 h1 h2 h3 => ⟨b, rfl, h b H1 st1 h1 h2 h3⟩
    | exc c x s1 => exact fun h => h
    | bad => exact fun h => h⟩
theorem sn_callB {x : Str} {id : String} {a : Expr} {i : E} {f : Bi} {F : D → Option D} {p pos : Pos} (hc : CallR X (.builtin id) (rC1 g F)) (hF : ∀ d r, biD f d = some r → F d = some r) (hg : Gl X x) (hm : X.mg x = none) (hv : bootBuiltins x = some (.builtin id))
    (hn : x ≠ "__name__") (hdb : (x == ("__debug__" : Str)) = false) (ha : PE X a (rdE g gx Wx i)) (hs : NoStar a) : PE X (.Call (.Name x p) [a] [] pos) (rdE g gx Wx (.bi f i)) := by
  refine (pe_callB hc hg hm hv (pa_cons ha pa_nil (hs _ _)) hn hdb (hs _ _) (by rfl)).imp fun σ H Q q => ?_
  obtain ⟨C0, am, st, env, s, hR, hQ⟩ := q
  simp only [ev] at hQ
  refine one_arg' hR ?_
  revert hQ
  cases ev gx i env s with
  | ok y s1 =>
    intro h
    show Fin g C0 am (RelW g am) Wx σ _ (vw y s1 fun x => tell (F x) s1) Q
    obtain ⟨d, ed, h⟩ := vw_fin (k := fun x => tell (biD f x) s1) h
    obtain ⟨r, er, h⟩ := tell_fin h
    unfold vw
    rw [ed]
    show Fin g C0 am (RelW g am) Wx σ _ (tell (F d) s1) Q
    rw [hF d r er]
    exact h
  | exc c y s1 => exact fun h => h
  | bad => exact fun h => h
theorem sn_callTy {x : Str} {T : String} {a : Expr} {i : E} {f : Bi} {F : D → Option D} {p pos : Pos} (hc : CallR X (.type T) (rC1 g F)) (hF : ∀ d r, biD f d = some r → F d = some r) (hg : Gl X x) (hm : X.mg x = none) (hv : bootBuiltins x = some (.type T))
    (hn : x ≠ "__name__") (hdb : (x == ("__debug__" : Str)) = false) (ha : PE X a (rdE g gx Wx i)) (hs : NoStar a) : PE X (.Call (.Name x p) [a] [] pos) (rdE g gx Wx (.bi f i)) := by
  refine (pe_callTy hc hg hm hv (pa_cons ha pa_nil (hs _ _)) hn hdb (hs _ _) (by rfl)).imp fun σ H Q q => ?_
  obtain ⟨C0, am, st, env, s, hR, hQ⟩ := q
  simp only [ev] at hQ
  refine one_arg' hR ?_
  revert hQ
  cases ev gx i env s with
  | ok y s1 =>
    intro h
    show Fin g C0 am (RelW g am) Wx σ _ (vw y s1 fun x => tell (F x) s1) Q
    obtain ⟨d, ed, h⟩ := vw_fin (k := fun x => tell (biD f x) s1) h
    obtain ⟨r, er, h⟩ := tell_fin h
    unfold vw
    rw [ed]
    show Fin g C0 am (RelW g am) Wx σ _ (tell (F d) s1) Q
    rw [hF d r er]
    exact h
  | exc c y s1 => exact fun h => h
  | bad => exact fun h => h
/-! ### min, max of two -/
theorem sn_min2 {x : Str} {a b : Expr} {i j : E} {p pos : Pos} (hc : X.calm = true) (hg : Gl X x) (hm : X.mg x = none) (hv : bootBuiltins x = some (.builtin "min")) (hn : x ≠ "__name__") (hdb : (x == ("__debug__" : Str)) = false)
    (ha : PE X a (rdE g gx Wx i)) (hb : PE X b (rdE g gx Wx j)) (hs : NoStar a) (hs2 : NoStar b) : PE X (.Call (.Name x p) [a, b] [] pos) (rdE g gx Wx (.min2 i j)) := by
  refine (pe_callB (call_min2 hc) hg hm hv (pa_cons ha (pa_cons hb pa_nil (hs2 _ _)) (hs _ _)) hn hdb (hs _ _) (by rw [hs2]; rfl)).imp fun σ H Q q => ?_
  obtain ⟨C0, am, st, env, s, hR, hF⟩ := q
  simp only [ev] at hF
  refine ⟨C0, am, st, env, s, hR, hF.bind fun x s1 e1 v1 H1 st1 hS1 hX1 hr1 h1 => ?_⟩
  refine ⟨C0, am, st1, env, s1, hR.at_ hS1 hX1, h1.bind fun y s2 e2 v2 H2 st2 hS2 hX2 hr2 h2 => ?_⟩
  obtain ⟨dx, ex, h2⟩ := vw_fin h2
  obtain ⟨dy, ey, h2⟩ := vw_fin h2
  have b1 := view_rel hS2 (hr1.ext hX2) ex
  have b2 := view_rel hS2 hr2 ey
  split at h2
  · exact ⟨_, _, by rw [b1.int, b2.int], (Tell.of h2).val hS2 relD_int⟩
  · exact h2.elim
theorem sn_max2 {x : Str} {a b : Expr} {i j : E} {p pos : Pos} (hc : X.calm = true) (hg : Gl X x) (hm : X.mg x = none) (hv : bootBuiltins x = some (.builtin "max")) (hn : x ≠ "__name__") (hdb : (x == ("__debug__" : Str)) = false)
    (ha : PE X a (rdE g gx Wx i)) (hb : PE X b (rdE g gx Wx j)) (hs : NoStar a) (hs2 : NoStar b) : PE X (.Call (.Name x p) [a, b] [] pos) (rdE g gx Wx (.max2 i j)) := by
  refine (pe_callB (call_max2 hc) hg hm hv (pa_cons ha (pa_cons hb pa_nil (hs2 _ _)) (hs _ _)) hn hdb (hs _ _) (by rw [hs2]; rfl)).imp fun σ H Q q => ?_
  obtain ⟨C0, am, st, env, s, hR, hF⟩ := q
  simp only [ev] at hF
  refine ⟨C0, am, st, env, s, hR, hF.bind fun x s1 e1 v1 H1 st1 hS1 hX1 hr1 h1 => ?_⟩
  refine ⟨C0, am, st1, env, s1, hR.at_ hS1 hX1, h1.bind fun y s2 e2 v2 H2 st2 hS2 hX2 hr2 h2 => ?_⟩
  obtain ⟨dx, ex, h2⟩ := vw_fin h2
  obtain ⟨dy, ey, h2⟩ := vw_fin h2
  have b1 := view_rel hS2 (hr1.ext hX2) ex
  have b2 := view_rel hS2 hr2 ey
  split at h2
  · exact ⟨_, _, by rw [b1.int, b2.int], (Tell.of h2).val hS2 relD_int⟩
  · exact h2.elim
/-! ### list(range(n)) -/
theorem rangeD_rel {w : Wd} (n : Nat) : RelDs g w (rangeD 0 n) (rgV 0 (n : Int)) := by
  unfold rangeD rgV
  have e : ((n : Int) - 0).toNat = n := by omega
  rw [e]
  generalize List.range n = l
  induction l with
  | nil => exact .nil
  | cons k l ih => exact .cons relD_int ih
theorem sn_listr {a : Expr} {i : E} {p1 p2 pos pos2 : Pos} (hc : X.calm = true) (hg1 : Gl X "list") (hm1 : X.mg "list" = none) (hg2 : Gl X "range") (hm2 : X.mg "range" = none) (ha : PE X a (rdE g gx Wx i)) (hs : NoStar a) :
    PE X (.Call (.Name "list" p1) [.Call (.Name "range" p2) [a] [] pos] [] pos2) (rdE g gx Wx (.listr i)) := by
  refine (pe_listRg hc hg1 hm1 (prg_1 hg2 hm2 ha (hs _ _)) (by rfl)).imp fun σ H Q q => ?_
  obtain ⟨C0, am, st, env, s, hR, hF⟩ := q
  simp only [ev] at hF
  refine ⟨C0, am, st, env, s, hR, hF.bind fun x s1 e1 v1 H1 st1 hS1 hX1 hr1 h1 => ?_⟩
  obtain ⟨dx, ex, h1⟩ := vw_fin h1
  have b1 := view_rel hS1 hr1 ex
  split at h1
  · rename_i k
    split at h1
    · rename_i hk
      refine ⟨k, b1.int, by unfold RgOk; omega, fun p hp => ?_⟩
      have e2 : rgV 0 k = rgV 0 ((k.toNat : Nat) : Int) := by
        unfold rgV
        have : (k - 0).toNat = (((k.toNat : Nat) : Int) - 0).toNat := by omega
        rw [this]
      rw [e2]
      exact (Tell.of h1).lst hS1 hp (rangeD_rel _)
    · exact h1.elim
  · exact h1.elim
/-! ### isinstance -/
def tyS : Ty → String
  | .int => "int" | .str => "str" | .bool => "bool" | .list => "list" | .tuple => "tuple" | .dict => "dict"
def tyN : D → String
  | .non => "NoneType" | .bl _ => "bool" | .int _ => "int" | .str _ => "str" | .tup _ => "tuple" | .lst _ => "list" | _ => "dict"
theorem kit_is (t : Ty) : ∀ d : D, d.kinded = true → kitB (tyN d) (tyS t) = some (isTy t d) := by
  intro d h
  cases d <;> simp [D.kinded] at h <;> cases t <;> simp only [tyN, tyS, isTy] <;> decide +kernel
theorem tyx_of {w : Wd} {d : D} {v : V} (h : RelB g w d v) (k : d.kinded = true) : TyX g.K w.H v (.type (tyN d)) := by
  cases d with
  | non => rw [h.non]; exact .base .non
  | bl b => rw [h.bl]; exact .base (.bl b)
  | int b => rw [h.int]; exact .base (.int b)
  | str b => rw [h.str.1]; exact .base (.str b)
  | tup b =>
    obtain ⟨a, vs, e, h1, _⟩ := h.tup
    rw [e]
    rcases h1 with (h1 | ⟨o, h1⟩) | ⟨o, its, n, h1, h2, _⟩
    · exact .base (.tup h1)
    · exact .fTuple h1
    · exact .kTuple h1 h2
  | lst b =>
    obtain ⟨a, vs, e, h1, _⟩ := h.lst
    rw [e]
    exact .base (.lst h1)
  | dic b =>
    obtain ⟨a, vs, e, h1, _⟩ := h.dic
    rw [e]
    rcases h1 with h1 | ⟨o, h1⟩
    · exact .base (.dK h1)
    · exact .fDict h1
  | _ => simp [D.kinded] at k
theorem kitAny_is (K : PySem.W.Frag) {d : D} (k : d.kinded = true) : ∀ ts : List Ty, PySem.W.kitAny K (.type (tyN d)) (ts.map fun t => .type (tyS t)) = some (ts.any fun t => isTy t d)
  | [] => rfl
  | t :: ts => by
    rw [List.map_cons, List.any_cons]
    refine kitAny_cons (kit_ty (kit_is t d k)) (fun h => ?_) (fun h => ?_)
    · rw [h, Bool.false_or]; exact kitAny_is K k ts
    · rw [h, Bool.true_or]
theorem isa_fin {a : E} {ts : List Ty} {F : V → Hp → Prop} (hR : Rel g C0 am st env s σ H) (hF : Fin g C0 am (RelW g am) Wx σ (wdOf C0 am st H s) (ev gx (.isa a ts) env s) Q)
    (hk : ∀ d v H1 st1 s1, RelS g C0 am st1 H1 s1 → RelB g (wdOf C0 am st1 H1 s1) d v → d.kinded = true → Tell g C0 am st1 H1 s1 (.bl (ts.any fun t => isTy t d)) Q → F v H1) : rdE g gx Wx a σ H F := by
  simp only [ev] at hF
  refine ⟨C0, am, st, env, s, hR, hF.bind fun x s1 e1 v1 H1 st1 hS1 hX1 hr1 h1 => ?_⟩
  obtain ⟨dx, ex, h1⟩ := vw_fin h1
  split at h1
  · rename_i k
    exact hk dx v1 H1 st1 s1 hS1 (view_rel hS1 hr1 ex) k h1
  · exact h1.elim
/-- a built-in class by its name -/
def TyName (X : Cx) (x : Str) (t : Ty) : Prop := Gl X x ∧ X.mg x = none ∧ bootBuiltins x = some (.type (tyS t)) ∧ x ≠ "__name__" ∧ (x == ("__debug__" : Str)) = false
theorem TyName.pe {x : Str} {t : Ty} {pos : Pos} (h : TyName X x t) : PE X (.Name x pos) (tC (.ty (tyS t))) := pe_bltn (v := .ty (tyS t)) h.1 h.2.1 h.2.2.1 rfl h.2.2.2.1 h.2.2.2.2
theorem sn_isa1 {a : Expr} {x : Str} {i : E} {t : Ty} {p q pos : Pos} (hK : X.K = g.K) (hg : Gl X "isinstance") (hm : X.mg "isinstance" = none) (ha : PE X a (rdE g gx Wx i)) (hs : NoStar a) (ht : TyName X x t) :
    PE X (.Call (.Name "isinstance" p) [a, .Name x q] [] pos) (rdE g gx Wx (.isa i [t])) := by
  refine (pe_callB call_isi hg hm (by decide +kernel) (pa_cons ha (pa_cons ht.pe pa_nil (by rfl)) (hs _ _)) (by decide) (by decide) (hs _ _) (by rfl)).imp fun σ H Q r => ?_
  obtain ⟨C0, am, st, env, s, hR, hF⟩ := r
  refine isa_fin hR hF fun d v H1 st1 s1 hS1 hb k h1 => ?_
  refine ⟨v, .ty (tyS t), _, _, _, rfl, .ty _, by rw [hK]; exact tyx_of hb k, kit_ty (kit_is t d k), ?_⟩
  have e : ([t].any fun t => isTy t d) = isTy t d := by simp
  rw [e] at h1
  exact h1.val hS1 relD_bl
theorem pa_types : ∀ {es : List Expr} {ts : List Ty}, Paired (fun e t => ∃ x q, e = .Name x q ∧ TyName X x t) es ts → PA X es (fun _ H Q => Q (ts.map fun t => .ty (tyS t)) H)
  | _, _, .nil => pa_nil
  | _, _, .cons h r => by
    obtain ⟨x, q, rfl, ht⟩ := h
    exact (pa_cons ht.pe (pa_types r) (by rfl)).imp fun _ _ _ z => z
theorem cls_types : ∀ ts : List Ty, Paired ClsV (ts.map fun t => V.ty (tyS t)) (ts.map fun t => Value.type (tyS t))
  | [] => .nil
  | t :: ts => .cons (.ty _) (cls_types ts)
theorem sn_isaT {a : Expr} {es : List Expr} {i : E} {ts : List Ty} {k : Nat} {p q pos : Pos} (hK : X.K = g.K) (hg : Gl X "isinstance") (hm : X.mg "isinstance" = none) (ha : PE X a (rdE g gx Wx i)) (hs : NoStar a) (hl : ts.length ≤ 1000)
    (ht : Paired (fun e t => ∃ x q, e = .Name x q ∧ TyName X x t) es ts) : PE X (.Call (.Name "isinstance" p) [a, .Tuple es k q] [] pos) (rdE g gx Wx (.isa i ts)) := by
  refine (pe_callB call_isiT hg hm (by decide +kernel) (pa_cons ha (pa_cons (pe_tup (pa_types ht)) pa_nil (by rfl)) (hs _ _)) (by decide) (by decide) (hs _ _) (by rfl)).imp fun σ H Q r => ?_
  obtain ⟨C0, am, st, env, s, hR, hF⟩ := r
  refine isa_fin hR hF fun d v H1 st1 s1 hS1 hb kd h1 => ?_
  refine ⟨by rw [List.length_map, ← limL]; unfold lim; omega, fun p hp => ?_⟩
  have hx : Ext (wdOf C0 am st1 H1 s1) (wdOf C0 am st1 (upd H1 p (.tup (ts.map fun t => V.ty (tyS t)))) s1) := ext_new hp
  have hb' : RelB g (wdOf C0 am st1 (upd H1 p (.tup (ts.map fun t => V.ty (tyS t)))) s1) d v := by
    rcases hb with hb | ⟨a, o, e1, e2, e3⟩
    · exact .inl (RelD.ext hx _ _ hb)
    · exact .inr ⟨a, o, e1, by show upd H1 p _ a = some o; rw [upd_ne (ne_of_new (some_ne e2) hp)]; exact e2, e3.ext hx⟩
  exact ⟨v, p, _, _, _, _, rfl, upd_same, cls_types ts, by rw [hK]; exact tyx_of hb' kd, kitAny_is _ kd ts, h1 _ _ st1 (hS1.new hp) hx relD_bl⟩
/-! ### subscripts -/
theorem place_ix {n : Nat} {i : Int} {k : Nat} (h : place n i = some k) : ixN n i = some k := by
  unfold place at h
  unfold ixN
  by_cases h0 : 0 ≤ i
  · rw [if_pos h0] at h ⊢
    exact h
  · rw [if_neg h0] at h ⊢
    by_cases h1 : 0 ≤ i + n
    · rw [if_pos h1] at h
      rw [if_pos (by omega)]
      exact h
    · rw [if_neg h1] at h; cases h
theorem or_idx (hK : X.K = g.K) (hu : X.A.units + 1 < cLine) : IxR X (rF2 g idxD) := by
  intro value slice pins s σ H x y v u Q I rx ry h hs
  obtain ⟨C0, am, st, s', dx, dy, d, hS, hx, hy, e, hT⟩ := h
  unfold idxD at e
  split at e
  · rename_i xs k
    cases e1 : place xs.length k with
    | none => rw [e1] at e; cases e
    | some n =>
      rw [e1] at e
      obtain ⟨a, vs, e2, h1, h2⟩ := hx.lst
      obtain ⟨r, e3, h3⟩ := h2.get e
      refine ix_list value slice pins s σ H x y v u Q I rx ry ⟨a, vs, k, r, e2, hy.int, .inl (.inl h1), ?_, hT.val hS h3⟩ hs
      unfold atI
      rw [h2.length, place_ix e1]
      exact e3
  · rename_i xs k
    cases e1 : place xs.length k with
    | none => rw [e1] at e; cases e
    | some n =>
      rw [e1] at e
      obtain ⟨a, vs, e2, h1, h2⟩ := hx.tup
      obtain ⟨r, e3, h3⟩ := h2.get e
      refine ix_tup value slice pins s σ H x y v u Q I rx ry ⟨a, vs, k, r, e2, hy.int, by rw [hK]; exact h1, ?_, hT.val hS h3⟩ hs
      unfold atI
      rw [h2.length, place_ix e1]
      exact e3
  · rename_i z k
    cases e1 : place z.cps.size k with
    | none => rw [e1] at e; cases e
    | some n =>
      rw [e1] at e
      simp only [Option.bind_some] at e
      cases e2 : z.cps[n]? with
      | none => rw [e2] at e; cases e
      | some c =>
        rw [e2] at e
        cases e
        obtain ⟨e3, h1, h2⟩ := hx.str
        have hc : c < 1114112 := by
          unfold PyData.strOk at h2
          rw [Array.all_eq_true] at h2
          obtain ⟨hn, e4⟩ := Array.getElem?_eq_some_iff.mp e2
          have := h2 n hn
          rw [e4] at this
          simpa using this
        refine ix_str value slice pins s σ H x y v u Q I rx ry ⟨z, k, c, e3, hy.int, by rw [← limL]; exact h1, ?_, hT.val hS (relD_str (by simp [lim]) (by simp [PyData.strOk, hc]))⟩ hs
        unfold atI
        rw [Array.length_toList, place_ix e1]
        simpa using e2
  · rename_i kvs
    cases e1 : keyK dy with
    | none => rw [e1] at e; cases e
    | some j =>
      rw [e1] at e
      obtain ⟨a, ks, e2, h1, h2⟩ := hx.dic
      obtain ⟨r, e3, h3⟩ := dget_some h2 e
      have e4 := keyK_rel hy e1
      subst e2; subst e4
      cases rx
      have gd : DGet H a (kV j) (some r) := by rw [← e3]; exact DGet.rd h1
      exact tail_any (dict_typeIs I gd) PySem.F.slot_dict_getitem.lookup (d_getItem hu I gd ry fun w' s3 I3 rw' => ⟨r, H, I3, rw', hT.val hS h3⟩) hs
  · cases e
theorem sn_idx {a b : Expr} {i j : E} {pos : Pos} (hK : X.K = g.K) (hu : X.A.units + 1 < cLine) (ha : PE X a (rdE g gx Wx i)) (hb : PE X b (rdE g gx Wx j)) (hp : PlainIx b) : PE X (.Subscript a b pos) (rdE g gx Wx (.idx i j)) := by
  refine (pe_ix (or_idx (g := g) hK hu) ha hb hp).imp fun σ H Q q => ?_
  obtain ⟨C0, am, st, env, s, hR, hF⟩ := q
  simp only [ev] at hF
  exact two_op hR hF
/-! ### slices -/
theorem sIx_bound (n d : Nat) (i : Int) : HT.sIx n d (some i) = bound n i := by
  show (if i < 0 then (i + (n : Int)).toNat else min i.toNat n) = bound n i
  unfold bound
  by_cases h : 0 ≤ i
  · rw [if_neg (by omega), if_pos h]
  · rw [if_pos (by omega), if_neg h]
/-- the ends of a slice -/
def lo' (n : Nat) : Option Int → Nat
  | none => 0
  | some i => bound n i
def hi' (n : Nat) : Option Int → Nat
  | none => n
  | some i => bound n i
theorem cutV_eq (vs : List V) (lo hi : Option Int) : cutV vs lo hi = cutL vs (lo' vs.length lo) (hi' vs.length hi) := by
  have e1 : HT.sIx vs.length 0 lo = lo' vs.length lo := by cases lo with | none => rfl | some i => exact sIx_bound _ _ _
  have e2 : HT.sIx vs.length vs.length hi = hi' vs.length hi := by cases hi with | none => rfl | some i => exact sIx_bound _ _ _
  unfold cutV cutL
  rw [e1, e2, List.drop_take]
theorem RelDs.cut {w : Wd} {xs : List D} {vs : List V} (h : RelDs g w xs vs) (a b : Nat) : RelDs g w (cutL xs a b) (cutL vs a b) := (h.take b).drop a
def sliP (a : D) (lo hi : Option Int) : Option D := match a with
  | .lst xs => some (.lst (cutL xs (lo' xs.length lo) (hi' xs.length hi)))
  | .tup xs => some (.tup (cutL xs (lo' xs.length lo) (hi' xs.length hi)))
  | .str x => some (.str ⟨(cutL x.cps.toList (lo' x.cps.size lo) (hi' x.cps.size hi)).toArray⟩)
  | _ => none
theorem strOk_cut {x : Str} (h : PyData.strOk x = true) (a b : Nat) : PyData.strOk ⟨(cutL x.cps.toList a b).toArray⟩ = true := by
  unfold PyData.strOk at *
  rw [Array.all_eq_true'] at *
  intro c hc
  have hm : c ∈ cutL x.cps.toList a b := by simpa using hc
  exact h c (by simpa using List.mem_of_mem_take (List.mem_of_mem_drop hm))
def rSl (g : Gp) : V → Option Int → Option Int → Hp → VK → Prop := fun x lo hi H Q => ∃ C0 am st s dx d, RelS g C0 am st H s ∧ RelB g (wdOf C0 am st H s) dx x ∧ sliP dx lo hi = some d ∧ Tell g C0 am st H s d Q
theorem or_sli (hK : X.K = g.K) : SlR X (rSl g) := by
  intro pins s σ H x v vl vu lo hi sl Q I rx hs pl pu h
  obtain ⟨C0, am, st, s', dx, d, hS, hx, e, hT⟩ := h
  cases dx <;> simp only [sliP] at e
  case lst xs =>
    cases e
    obtain ⟨a, vs, e2, h1, h2⟩ := hx.lst
    refine sl_list pins s σ H x v vl vu lo hi sl Q I rx hs pl pu ⟨a, vs, e2, .inl (.inl h1), fun p hp => ?_⟩
    rw [cutV_eq, h2.length]
    exact hT.lst hS hp (h2.cut _ _)
  case tup xs =>
    cases e
    obtain ⟨a, vs, e2, h1, h2⟩ := hx.tup
    refine sl_tupA pins s σ H x v vl vu lo hi sl Q I rx hs pl pu ⟨a, vs, e2, by rw [hK]; exact h1, fun hw => ?_, fun hw p hp => ?_⟩
    · have e1 : HT.sIx vs.length 0 lo = lo' vs.length lo := by cases lo with | none => rfl | some i => exact sIx_bound _ _ _
      have e3 : HT.sIx vs.length vs.length hi = hi' vs.length hi := by cases hi with | none => rfl | some i => exact sIx_bound _ _ _
      refine hT.val hS ?_
      rw [e1, e3, h2.length] at hw
      have e4 : cutL xs (lo' xs.length lo) (hi' xs.length hi) = xs := by
        unfold cutL
        rw [hw.1, hw.2]; simp
      rw [e4]
      simp only [RelD]
      exact ⟨a, vs, rfl, h1, h2⟩
    · rw [cutV_eq, h2.length]
      exact hT.tup hS hp (h2.cut _ _)
  case str z =>
    cases e
    obtain ⟨e2, h1, h2⟩ := hx.str
    refine sl_str pins s σ H x v vl vu lo hi sl Q I rx hs pl pu ⟨z, e2, by rw [← limL]; exact h1, ?_⟩
    have e3 : cutS z lo hi = ⟨(cutL z.cps.toList (lo' z.cps.size lo) (hi' z.cps.size hi)).toArray⟩ := by
      have e1 : HT.sIx z.length 0 lo = lo' z.cps.size lo := by cases lo with | none => rfl | some i => exact sIx_bound _ _ _
      have e3 : HT.sIx z.length z.length hi = hi' z.cps.size hi := by cases hi with | none => rfl | some i => exact sIx_bound _ _ _
      unfold cutS cutL
      rw [e1, e3, List.drop_take]
    rw [e3]
    refine hT.val hS (relD_str ?_ (strOk_cut h2 _ _))
    simp only [List.size_toArray]
    have : (cutL z.cps.toList (lo' z.cps.size lo) (hi' z.cps.size hi)).length ≤ z.cps.size := by
      unfold cutL
      rw [List.length_drop, List.length_take, Array.length_toList]
      omega
    omega
  all_goals cases e
end
end Us
end

section
set_option Elab.async false
set_option linter.all false
set_option maxRecDepth 100000
set_option maxHeartbeats 1000000
/-! Us.Snd6: lists and dicts that nobody else names; slices, get, dicts, fields of caught errors. -/
namespace Us
open PySem PySem.Spec PyProof.Rows L2
/-- C0 and one more address -/
def addP (C0 : Pin) (p : Addr) (b : Bool) (o : HO) (a : Addr) : Option (Bool × HO) := if a = p then some (b, o) else C0 a
abbrev addC (C0 : Pin) (p : Addr) (o : HO) : Pin := addP C0 p true o
theorem addP_same {C0 : Pin} {p : Addr} {b : Bool} {o : HO} : addP C0 p b o p = some (b, o) := by unfold addP; rw [if_pos rfl]
theorem addP_ne {C0 : Pin} {p a : Addr} {b : Bool} {o : HO} (h : a ≠ p) : addP C0 p b o a = C0 a := by unfold addP; rw [if_neg h]
theorem addC_same {C0 : Pin} {p : Addr} {o : HO} : addC C0 p o p = some (true, o) := addP_same
theorem addC_ne {C0 : Pin} {p a : Addr} {o : HO} (h : a ≠ p) : addC C0 p o a = C0 a := addP_ne h
theorem addC_nm {C0 : Pin} {p a : Addr} {o : HO} : Nm (addC C0 p o) a ↔ (Nm C0 a ∧ a ≠ p) ∨ a = p := by
  unfold Nm
  by_cases h : a = p
  · subst h
    rw [addC_same]
    exact ⟨fun _ => .inr rfl, fun _ => ⟨o, rfl⟩⟩
  · rw [addC_ne h]
    exact ⟨fun q => .inl ⟨q, h⟩, fun q => q.elim (·.1) fun z => absurd z h⟩
theorem pf_addC {C0 : Pin} {p : Addr} {o : HO} (h : PinF C0) (ho : ∀ ps, o ≠ .tbl ps := by intro _ z; cases z) : PinF (addC C0 p o) := fun a b o' e => by
  by_cases z : a = p
  · rw [z, addC_same] at e
    cases e
    exact ⟨fun z => absurd z (by decide), ho⟩
  · rw [addC_ne z] at e; exact h a b o' e
theorem relC_tbl {g : Gp} {w : Wd} {d : D} {o : HO} (h : RelC g w d o) : ∀ ps, o ≠ .tbl ps := by
  intro ps z
  subst z
  cases d with
  | lst xs => obtain ⟨vs, e, _⟩ := h; cases e
  | dic xs => obtain ⟨vs, e, _⟩ := h; cases e
  | _ => exact h.elim
theorem addP_none {C0 : Pin} {p a : Addr} {b : Bool} {o : HO} : addP C0 p b o a = none ↔ C0 a = none ∧ a ≠ p := by
  by_cases h : a = p
  · subst h
    rw [addP_same]
    exact ⟨fun z => (by cases z), fun z => absurd rfl z.2⟩
  · rw [addP_ne h]
    exact ⟨fun z => ⟨z, h⟩, fun z => z.1⟩
section
variable {X : Cx} {g : Gp} {gx : G} {Wx : WX} {C0 : Pin} {am : List Addr} {σ : L2.St} {st : Option (Addr × Addr)} {H : Hp} {s : S} {env : Env} {w w1 : Wd} {Q : V → Hp → Prop}
/-- what is wanted behind a result, where a list or a dict is nobody else's -/
def FinN (g : Gp) (C0 : Pin) (am : List Addr) (Wx : WX) (σ : L2.St) (w0 : Wd) (r : R W) (Q : V → Hp → Prop) : Prop := match r with
  | .ok (.d d) s' => ∀ p o H' st', C0 p = none → RelS g (addC C0 p o) am st' H' s' → Ext w0 (wdOf (addC C0 p o) am st' H' s') → RelC g (wdOf (addC C0 p o) am st' H' s') d o → Q (.ref p) H'
  | .ok _ _ => False
  | .exc c x s' => ∀ cls d H' st', RelS g C0 am st' H' s' → Ext w0 (wdOf C0 am st' H' s') → RelX g (wdOf C0 am st' H' s') c x cls d → Wx cls d σ H'
  | .bad => False
theorem FinN.ext {r : R W} (h : FinN g C0 am Wx σ w r Q) (e : Ext w w1) : FinN g C0 am Wx σ w1 r Q := by
  cases r with
  | ok a s' =>
    cases a with
    | d d => exact fun p o H' st' n h1 h2 h3 => h p o H' st' n h1 (e.trans h2) h3
    | _ => exact h
  | exc c x s' => exact fun cls d H' st' h1 h2 h3 => h cls d H' st' h1 (e.trans h2) h3
  | bad => exact h
theorem FinN.bind {α β : Type} {rel : Wd → α → β → Prop} {r : R α} {k : α → S → R W} {Q1 : β → Hp → Prop} (h : FinN g C0 am Wx σ w (r.bind k) Q)
    (hk : ∀ a s', r = .ok a s' → ∀ b H' st', RelS g C0 am st' H' s' → Ext w (wdOf C0 am st' H' s') → rel (wdOf C0 am st' H' s') a b → FinN g C0 am Wx σ (wdOf C0 am st' H' s') (k a s') Q → Q1 b H') : Fin g C0 am rel Wx σ w r Q1 := by
  cases r with
  | ok a s' => exact fun b H' st' h1 h2 h3 => hk a s' rfl b H' st' h1 h2 h3 (FinN.ext (r := k a s') h h2)
  | exc c x s' => exact h
  | bad => exact h
theorem _root_.Us.RelS.none0 {p : Addr} (h : RelS g C0 am st H s) (hp : H p = none) : C0 p = none := by
  cases e : C0 p with
  | none => rfl
  | some q =>
    obtain ⟨b, o⟩ := q
    rw [h.c0 p b o e] at hp; cases hp
theorem ext_newC {p : Addr} {o : HO} (hp : H p = none) : Ext (wdOf C0 am st H s) (wdOf (addC C0 p o) am st (upd H p o) s) := by
  have e : Ext (wdOf C0 am st H s) (wdOf C0 am st (upd H p o) s) := ext_new hp
  refine ⟨e.ls, e.dk, e.fz, e.tup, e.xd, fun a h => ?_, e.live, e.st, e.co⟩
  rcases h with h | h | h
  · rcases addC_nm.mp h with h | h
    · exact .inl (.inl h.1)
    · exact .inr (.inl (h ▸ hp))
  · exact .inl (.inr (.inl h))
  · exact .inl (.inr (.inr h))
theorem RelS.newC {p : Addr} {o : HO} (h : RelS g C0 am st H s) (hp : H p = none) : RelS g (addC C0 p o) am st (upd H p o) s := by
  have e : Ext (wdOf C0 am st H s) (wdOf (addC C0 p o) am st (upd H p o) s) := ext_newC hp
  have h' := h.new (o := o) hp
  refine ⟨h'.len, fun a b u q => ?_, fun n x a h1 h2 => ?_, fun n x a h1 h2 => RelD.ext e _ _ (h.dead n x a h1 h2), h'.apart, fun n x a h1 h2 => ?_, fun a b q => ?_, h'.tb⟩
  · by_cases z : a = p
    · rw [z, addC_same] at q
      cases q
      rw [z, upd_same]
    · rw [addC_ne z] at q
      exact h'.c0 a b u q
  · obtain ⟨o', h3, h4⟩ := h.live n x a h1 h2
    exact ⟨o', by rw [upd_ne (ne_of_new (some_ne h3) hp)]; exact h3, h4.ext e⟩
  · obtain ⟨h3, h4⟩ := h.out n x a h1 h2
    obtain ⟨o', h5, _⟩ := h.live n x a h1 h2
    exact ⟨addP_none.mpr ⟨h3, ne_of_new (some_ne h5) hp⟩, h4⟩
  · obtain ⟨q1, q2, q3⟩ := h'.stm a b q
    obtain ⟨r1, _, _⟩ := h.stm a b q
    exact ⟨q1, addP_none.mpr ⟨q2, ne_of_new (some_ne r1.hp) hp⟩, addP_none.mpr ⟨q3, ne_of_new (some_ne r1.hq) hp⟩⟩
theorem cs_drop {p a : Addr} {o : HO} (n : C0 p = none) (q : Cs C0 am s.cells st a) : Cs (addC C0 p o) am s.cells st a := by
  rcases q with q | q | q
  · exact .inl (addC_nm.mpr (.inl ⟨q, fun z => nm_of_none n (z ▸ q)⟩))
  · exact .inr (.inl q)
  · exact .inr (.inr q)
/-- the address is let go -/
theorem RelS.drop {p : Addr} {o : HO} (n : C0 p = none) (h : RelS g (addC C0 p o) am st H s) : RelS g C0 am st H s ∧ Ext (wdOf (addC C0 p o) am st H s) (wdOf C0 am st H s) := by
  have hx : Ext (wdOf (addC C0 p o) am st H s) (wdOf C0 am st H s) := ⟨fun _ _ h _ => h, fun _ _ h _ => h, fun _ _ _ h => h, fun _ _ h => h, fun _ _ h => h, fun a q => .inl (cs_drop n q), fun _ h => h, .inr rfl, fun _ _ h => h⟩
  refine ⟨⟨h.len, fun a b u q => h.c0 a b u ?_, fun n x a h1 h2 => ?_, fun n x a h1 h2 => RelD.ext hx _ _ (h.dead n x a h1 h2), h.apart, fun n x a h1 h2 => ?_, fun a b q => ?_, h.tb⟩, hx⟩
  · rw [addC_ne (fun z => by rw [z, n] at q; cases q)]
    exact q
  · obtain ⟨o, h3, h4⟩ := h.live n x a h1 h2
    exact ⟨o, h3, h4.ext hx⟩
  · obtain ⟨h3, h4⟩ := h.out n x a h1 h2
    exact ⟨(addP_none.mp h3).1, h4⟩
  · obtain ⟨q1, q2, q3⟩ := h.stm a b q
    exact ⟨q1, (addP_none.mp q2).1, (addP_none.mp q3).1⟩
theorem nC_drop {p : Addr} {o : HO} (n : C0 p = none) (h : RelS g (addC C0 p o) am st H s) : ¬ Cs C0 am s.cells st p := fun q => by
  rcases q with q | ⟨m, x, q1, q2⟩ | ⟨a, b, q, z⟩
  · exact nm_of_none n q
  · exact (addP_none.mp (h.out m x p q1 q2).1).2 rfl
  · obtain ⟨_, q2, q3⟩ := h.stm a b q
    rcases z with z | z
    · exact (addP_none.mp q2).2 z.symm
    · exact (addP_none.mp q3).2 z.symm
theorem relC_data {p : Addr} {w : Wd} {d : D} {o : HO} (n : ¬ w.C p) (h1 : w.H p = some o) (h2 : RelC g w d o) : RelD g w d (.ref p) := by
  cases d with
  | lst xs =>
    obtain ⟨vs, rfl, h3⟩ := h2
    simp only [RelD]
    exact ⟨p, vs, rfl, n, h1, h3⟩
  | dic kvs =>
    obtain ⟨ks, rfl, h3⟩ := h2
    simp only [RelD]
    exact ⟨p, ks, rfl, n, .inl h1, h3⟩
  | _ => exact h2.elim
def rdN (g : Gp) (gx : G) (Wx : WX) (e : E) : TE := fun σ H Q => ∃ C0 am st env s, Rel g C0 am st env s σ H ∧ FinN g C0 am Wx σ (wdOf C0 am st H s) (ev gx e env s) Q
/-- is the value a new list or dict, whatever the world? -/
def mint : E → Bool
  | .lst _ => true | .dct _ => true | .comp .. => true | .compIf .. => true | .bi .list _ => true | .bi .sorted _ => true
  | _ => false
theorem Fin.toN {r : R W} (hr : ∀ s', ∀ w, r = .ok w s' → ∃ d, w = .d d) (h : Fin g C0 am (RelW g am) Wx σ w r Q) : FinN g C0 am Wx σ w r Q := by
  cases r with
  | bad => exact h
  | exc c x s' => exact h
  | ok a s' =>
    obtain ⟨d, rfl⟩ := hr s' a rfl
    intro p o H' st' n h1 h2 h3
    obtain ⟨a1, a2⟩ := h1.drop n
    exact h (.ref p) H' st' a1 (h2.trans a2) (relC_data (nC_drop n h1) (h1.c0 p true o addC_same) (h3.ext a2))
theorem data_d {r : R D} {s' : S} {w : W} (h : W.data r = .ok w s') : ∃ d, w = .d d := by
  cases r with
  | ok d s => cases h; exact ⟨d, rfl⟩
  | exc c x s => cases h
  | bad => cases h
theorem bind_ok {α β : Type} {r : R α} {k : α → S → R β} {b : β} {s' : S} (h : r.bind k = .ok b s') : ∃ a s, r = .ok a s ∧ k a s = .ok b s' := by
  cases r with
  | ok a s => exact ⟨a, s, rfl, h⟩
  | exc c x s => cases h
  | bad => cases h
theorem vw_ok {x : W} {s : S} {k : D → R W} {b : W} {s' : S} (h : vw x s k = .ok b s') : ∃ d, view s x = some d ∧ k d = .ok b s' := by
  unfold vw at h
  cases e : view s x with
  | none => rw [e] at h; cases h
  | some d => rw [e] at h; exact ⟨d, rfl, h⟩
theorem tell_d {o : Option D} {s s' : S} {b : W} (h : tell o s = .ok b s') : ∃ d, b = .d d := by
  cases o with
  | none => cases h
  | some d => cases h; exact ⟨d, rfl⟩
theorem mint_d {e : E} (h : mint e = true) {env : Env} {s s' : S} {w : W} (he : ev gx e env s = .ok w s') : ∃ d, w = .d d := by
  unfold mint at h
  split at h
  all_goals first
    | cases h; done
    | skip
  all_goals simp only [ev] at he
  · obtain ⟨xs, s1, _, he⟩ := bind_ok he; cases he; exact ⟨_, rfl⟩
  · obtain ⟨xs, s1, _, he⟩ := bind_ok he; exact tell_d he
  · obtain ⟨xs, s1, _, he⟩ := bind_ok he; exact data_d he
  · obtain ⟨xs, s1, _, he⟩ := bind_ok he; exact data_d he
  · obtain ⟨xs, s1, _, he⟩ := bind_ok he; obtain ⟨d, _, he⟩ := vw_ok he; exact tell_d he
  · obtain ⟨xs, s1, _, he⟩ := bind_ok he; obtain ⟨d, _, he⟩ := vw_ok he; exact tell_d he
theorem PE.ofN {x : Expr} {e : E} (hm : mint e = true) (h : PE X x (rdN g gx Wx e)) : PE X x (rdE g gx Wx e) := h.imp fun σ H Q q => by
  obtain ⟨C0, am, st, env, s, hR, hF⟩ := q
  exact ⟨C0, am, st, env, s, hR, hF.toN fun s' w he => mint_d hm he⟩
/-! ### a new list, a new dict told -/
abbrev TellN (g : Gp) (C0 : Pin) (am : List Addr) (st : Option (Addr × Addr)) (H : Hp) (s : S) (d : D) (Q : V → Hp → Prop) : Prop := ∃ (Wx : WX) (σ : L2.St), FinN g C0 am Wx σ (wdOf C0 am st H s) (.ok (.d d) s) Q
theorem TellN.of {d : D} (h : FinN g C0 am Wx σ (wdOf C0 am st H s) (.ok (.d d) s) Q) : TellN g C0 am st H s d Q := ⟨Wx, σ, h⟩
theorem TellN.lst {xs : List D} {vs : List V} {p : Addr} (h : TellN g C0 am st H s (.lst xs) Q) (hS : RelS g C0 am st H s) (hp : H p = none) (r : RelDs g (wdOf C0 am st H s) xs vs) : Q (.ref p) (upd H p (.lst vs)) := by
  obtain ⟨Wx, σ, h⟩ := h
  exact h p (.lst vs) _ st (hS.none0 hp) (hS.newC hp) (ext_newC hp) ⟨vs, rfl, RelDs.ext (ext_newC hp) _ _ r⟩
theorem TellN.dic {xs : List (Ky × D)} {vs : List (Key × V)} {p : Addr} (h : TellN g C0 am st H s (.dic xs) Q) (hS : RelS g C0 am st H s) (hp : H p = none) (r : RelKs g (wdOf C0 am st H s) xs vs) : Q (.ref p) (upd H p (.dK vs)) := by
  obtain ⟨Wx, σ, h⟩ := h
  exact h p (.dK vs) _ st (hS.none0 hp) (hS.newC hp) (ext_newC hp) ⟨vs, rfl, RelKs.ext (ext_newC hp) _ _ r⟩
theorem rdX_inN {es : Es} {k : List D → S → R W} {Q1 : List V → Hp → Prop} (hR : Rel g C0 am st env s σ H) (h : FinN g C0 am Wx σ (wdOf C0 am st H s) ((evX gx es env s).bind k) Q)
    (hk : ∀ xs vs H' st' s', xs.length = es.len → Rel g C0 am st' env s' σ H' → Ext (wdOf C0 am st H s) (wdOf C0 am st' H' s') → RelDs g (wdOf C0 am st' H' s') xs vs → FinN g C0 am Wx σ (wdOf C0 am st' H' s') (k xs s') Q → Q1 vs H') : rdX g gx Wx es σ H Q1 :=
  ⟨C0, am, st, env, s, hR, h.bind fun xs s1 e1 vs H1 st1 hS1 hX1 hr1 h1 => hk xs vs H1 st1 s1 (evX_len es env s xs s1 e1) (hR.at_ hS1 hX1) hX1 hr1 h1⟩
theorem nn_lst {es : List Expr} {is : Es} {pos : Pos} (h : PA X es (rdX g gx Wx is)) (hl : is.len ≤ 1000) : PE X (.List es pos) (rdN g gx Wx (.lst is)) := by
  refine (pe_lst h).imp fun σ H Q q => ?_
  obtain ⟨C0, am, st, env, s, hR, hF⟩ := q
  simp only [ev] at hF
  refine rdX_inN hR hF fun xs vs H1 st1 s1 hlen hR1 hX1 hr1 h1 => ⟨by rw [hr1.length, hlen, ← limL]; unfold lim; omega, fun p hp => ?_⟩
  exact (TellN.of h1).lst hR1.cells hp hr1
theorem vw_finN {x : W} {k : D → R W} (h : FinN g C0 am Wx σ w (vw x s k) Q) : ∃ d, view s x = some d ∧ FinN g C0 am Wx σ w (k d) Q := by
  unfold vw at h
  cases e : view s x with
  | none => rw [e] at h; exact h.elim
  | some d => rw [e] at h; exact ⟨d, rfl, h⟩
theorem tell_finN {o : Option D} (h : FinN g C0 am Wx σ w (tell o s) Q) : ∃ d, o = some d ∧ FinN g C0 am Wx σ w (.ok (.d d) s) Q := by
  cases o with
  | none => exact h.elim
  | some d => exact ⟨d, rfl, h⟩
end
end Us
end

section
set_option Elab.async false
set_option linter.all false
set_option maxRecDepth 100000
set_option maxHeartbeats 1000000
/-! Us.Snd7: list(..), dict(..), displays of dicts, slices, get, items. -/
namespace Us
open PySem PySem.Spec PyProof.Rows L2
section
variable {X : Cx} {g : Gp} {gx : G} {Wx : WX} {C0 : Pin} {am : List Addr} {σ : L2.St} {st : Option (Addr × Addr)} {H : Hp} {s : S} {env : Env} {w w1 : Wd} {Q : V → Hp → Prop}
/-! ### list(x) -/
def rC1N (g : Gp) (F : D → Option D) : List V → Hp → VK → Prop := fun vs H Q => ∃ x, vs = [x] ∧ ∃ C0 am st s dx d, RelS g C0 am st H s ∧ RelB g (wdOf C0 am st H s) dx x ∧ F dx = some d ∧ TellN g C0 am st H s d Q
theorem cr_listN (hK : X.K = g.K) (hc : X.calm = true) : CallR X (.type "list") (rC1N g (biD .list)) := by
  intro pins s σ H vs us Q I r h
  obtain ⟨x, rfl, C0, am, st, s', dx, d, hS, hx, e, hT⟩ := h
  cases dx <;> simp only [biD] at e
  case lst xs =>
    cases e
    obtain ⟨a, ws, e1, h1, h2⟩ := hx.lst
    exact call_list_of pins s σ H _ us Q I r ⟨a, ws, by rw [e1], .inl (.inl (.inl h1)), fun p hp => hT.lst hS hp h2⟩
  case tup xs =>
    cases e
    obtain ⟨a, ws, e1, h1, h2⟩ := hx.tup
    exact call_list_of pins s σ H _ us Q I r ⟨a, ws, by rw [e1], .inr (by rw [hK]; exact h1), fun p hp => hT.lst hS hp h2⟩
  case dic kvs =>
    cases e
    obtain ⟨a, ks, e1, h1, h2⟩ := hx.dic
    exact call_listD hc pins s σ H _ us Q I r ⟨a, ks, by rw [e1], h1, fun p hp => hT.lst hS hp (keys_rel h2)⟩
  all_goals cases e
theorem one_argN {a : E} {F : D → Option D} (hR : Rel g C0 am st env s σ H) (h : FinN g C0 am Wx σ (wdOf C0 am st H s) ((ev gx a env s).bind fun x s => vw x s fun x => tell (F x) s) Q) :
    tCB (rC1N g F) (tCons (rdE g gx Wx a) tNil) σ H Q := by
  refine ⟨C0, am, st, env, s, hR, h.bind fun x s1 e1 v1 H1 st1 hS1 hX1 hr1 h1 => ?_⟩
  obtain ⟨dx, ex, h1⟩ := vw_finN h1
  obtain ⟨d, ed, h1⟩ := tell_finN h1
  exact ⟨v1, rfl, C0, am, st1, s1, dx, d, hS1, view_rel hS1 hr1 ex, ed, TellN.of h1⟩
theorem nn_list {a : Expr} {i : E} {p pos : Pos} (hK : X.K = g.K) (hc : X.calm = true) (hg : Gl X "list") (hm : X.mg "list" = none) (ha : PE X a (rdE g gx Wx i)) (hs : NoStar a) : PE X (.Call (.Name "list" p) [a] [] pos) (rdN g gx Wx (.bi .list i)) := by
  refine (pe_callTy (cr_listN hK hc) hg hm (by decide +kernel) (pa_cons ha pa_nil (hs _ _)) (by decide) (by decide) (hs _ _) (by rfl)).imp fun σ H Q q => ?_
  obtain ⟨C0, am, st, env, s, hR, hQ⟩ := q
  simp only [ev] at hQ
  exact one_argN hR hQ
/-! ### dict(x) -/
theorem cr_dict2 (hK : X.K = g.K) (hc : X.calm = true) : CallR X (.type "dict") (rC1 g (biD .dict)) := by
  intro pins s σ H vs us Q I r h
  obtain ⟨x, rfl, C0, am, st, s', dx, d, hS, hx, e, hT⟩ := h
  cases dx <;> simp only [biD] at e
  case dic kvs =>
    cases e
    obtain ⟨a, ks, e2, h1, h2⟩ := hx.dic
    exact call_dictD pins s σ H _ us Q I r ⟨a, ks, by rw [e2], h1, fun p hp => hT.dic hS hp h2⟩
  case lst xs =>
    cases e1 : pairsOf xs with
    | none => rw [e1] at e; cases e
    | some ps =>
      rw [e1] at e
      cases e
      obtain ⟨a, ws, e2, h1, h2⟩ := hx.lst
      obtain ⟨as, ks, rfl, h3, h4⟩ := pairs_rel h2 e1
      exact call_dictP hc pins s σ H _ us Q I r ⟨a, as, ks, by rw [e2], .inl (.inl h1), by rw [hK]; exact h3, fun p hp => hT.dic hS hp (RelKs.merge h4 .nil)⟩
  all_goals cases e
/-! ### {k: v, ..} -/
def Es.prs : Es → List (E × E)
  | .cons a (.cons b r) => (a, b) :: r.prs
  | _ => []
def Es.even : Es → Bool
  | .nil => true
  | .cons _ (.cons _ r) => r.even
  | _ => false
def flatP : List (V × V) → List V
  | [] => []
  | (x, y) :: r => x :: y :: flatP r
theorem r_assoc {α β γ : Type} {r : R α} {k : α → S → R β} {m : β → S → R γ} : (r.bind k).bind m = r.bind fun a s => (k a s).bind m := by cases r <;> rfl
theorem Fin.ret {α β : Type} {rel : Wd → α → β → Prop} {r : R α} {Q : β → Hp → Prop} (h : Fin g C0 am rel Wx σ w r Q) : Fin g C0 am rel Wx σ w (r.bind .ok) Q := by cases r <;> exact h
theorem tPairs_in : ∀ (es : Es), es.even = true → ∀ {C0 : Pin} {st : Option (Addr × Addr)} {H : Hp} {s : S} {Q : List (V × V) → Hp → Prop} {Q' : List V → Hp → Prop}, Rel g C0 am st env s σ H → Fin g C0 am (RelDs g) Wx σ (wdOf C0 am st H s) (evX gx es env s) Q' →
    (∀ ps H', Q' (flatP ps) H' → Q ps H') → tPairs (es.prs.map fun p => (rdE g gx Wx p.1, rdE g gx Wx p.2)) σ H Q
  | .nil, _, C0, st, H, s, Q, Q', hR, hF, hk => by
    simp only [evX] at hF
    exact hk [] H (hF [] H st hR.cells (Ext.refl _) .nil)
  | .cons a .nil, h, _, _, _, _, _, _, _, _, _ => by simp [Es.even] at h
  | .cons a (.cons b r), h, C0, st, H, s, Q, Q', hR, hF, hk => by
    simp only [evX] at hF
    show rdE g gx Wx a σ H fun x H1 => rdE g gx Wx b σ H1 fun y H2 => tPairs (r.prs.map fun p => (rdE g gx Wx p.1, rdE g gx Wx p.2)) σ H2 fun ps H3 => Q ((x, y) :: ps) H3
    refine ⟨C0, am, st, env, s, hR, hF.esc fun d1 v1 H1 st1 s1 hS1 hX1 hd1 h1 => ?_⟩
    rw [r_assoc] at h1
    refine ⟨C0, am, st1, env, s1, hR.at_ hS1 hX1, Fin.esc (w := wdOf C0 am st1 H1 s1) (r := ev gx b env s1) (k := fun y s2 => (evX gx r env s2).bind fun ys s3 => .ok (d1 :: y :: ys) s3) (rel2 := RelDs g) (Q := Q') ?_ fun d2 v2 H2 st2 s2 hS2 hX2 hd2 h2 => ?_⟩
    · rw [r_assoc]
      have e : (fun (a : W) (s : S) => (esc a s).bind fun y s2 => (evX gx r env s2).bind fun ys s3 => R.ok (d1 :: y :: ys) s3) = fun a s => ((esc a s).bind fun x s => (evX gx r env s).bind fun xs s => R.ok (x :: xs) s).bind fun xs s => R.ok (d1 :: xs) s := by
        funext a s
        rw [r_assoc]
        congr 1
        funext y s2
        rw [r_assoc]
        rfl
      rw [e, ← r_assoc, ← r_assoc]
      rw [r_assoc] at h1 ⊢
      rw [r_assoc]
      exact h1
    · refine tPairs_in r h (Q' := fun vs H3 => Q' (v1 :: v2 :: vs) H3) ((hR.at_ hS1 hX1).at_ hS2 hX2) ?_ fun ps H3 q => hk ((v1, v2) :: ps) H3 q
      refine h2.bind fun ys s3 e3 us H3 st3 hS3 hX3 hr3 h3 => ?_
      exact h3 _ H3 st3 hS3 (Ext.refl _) (.cons (RelD.ext (hX2.trans hX3) _ _ hd1) (.cons (RelD.ext hX3 _ _ hd2) hr3))
/-! ### a thing of this frame is written -/
def Mut (o : Option HO) : Prop := (∃ vs, o = some (.lst vs)) ∨ ∃ ks, o = some (.dK ks)
theorem Mut.no {o : Option HO} (h : Mut o) {u : HO} (e : o = some u) (n1 : ∀ vs, u ≠ .lst vs) (n2 : ∀ ks, u ≠ .dK ks) : False := by
  rcases h with ⟨vs, h⟩ | ⟨ks, h⟩
  · rw [h] at e; exact n1 vs (Option.some.inj e).symm
  · rw [h] at e; exact n2 ks (Option.some.inj e).symm
theorem codeO_lst {c : Addr} {q : Str} (vs : List V) : LamX.CodeO c q ≠ .lst vs := fun z => by unfold LamX.CodeO at z; cases z
theorem codeO_dK {c : Addr} {q : Str} (vs : List (Key × V)) : LamX.CodeO c q ≠ .dK vs := fun z => by unfold LamX.CodeO at z; cases z
theorem ext_upd {C C' : Addr → Prop} {st : Option (Addr × Addr)} {H : Hp} {p : Addr} {o : HO} (hC : ∀ a, C' a → C a) (hp : C p) (hm : Mut (H p)) (ho : ∀ ps, o ≠ .tbl ps := by intro _ z; cases z) : Ext ⟨C, H, st⟩ ⟨C', upd H p o, st⟩ := by
  have ne : ∀ a, ¬ C a → a ≠ p := fun a n z => n (z ▸ hp)
  have nm : ∀ {a : Addr} {u : HO}, H a = some u → (∀ vs, u ≠ .lst vs) → (∀ ks, u ≠ .dK ks) → a ≠ p := fun {a u} e n1 n2 z => hm.no (z ▸ e) n1 n2
  refine ⟨fun a u h n => ?_, fun a u h n => ?_, fun a o u h => ?_, fun a vs h => ?_, fun a fs h => ?_, fun a h => .inl (hC a h), fun a h => ?_, .inr rfl, fun a q h => ?_⟩
  · show upd H p _ a = _
    rw [upd_ne (ne a n)]; exact h
  · rcases h with h | ⟨ob, h⟩
    · exact .inl (by show upd H p _ a = _; rw [upd_ne (ne a n)]; exact h)
    · exact .inr ⟨ob, by show upd H p _ a = _; rw [upd_ne (ne a n)]; exact h⟩
  · show upd H p _ a = _
    rw [upd_ne (nm h (fun _ => by simp) (fun _ => by simp))]; exact h
  · rcases h with h | ⟨ob, h⟩
    · exact .inl (by show upd H p _ a = _; rw [upd_ne (nm h (fun _ => by simp) (fun _ => by simp))]; exact h)
    · exact .inr ⟨ob, by show upd H p _ a = _; rw [upd_ne (nm h (fun _ => by simp) (fun _ => by simp))]; exact h⟩
  · show upd H p _ a = _
    rw [upd_ne (nm h (fun _ => by simp) (fun _ => by simp))]; exact h
  · show ¬ Gone (upd H p o) a
    by_cases z : a = p
    · exact ng_of (by rw [z, upd_same]) ho
    · obtain ⟨u, e1, e2⟩ := ng_get h
      exact ng_of (by rw [upd_ne z]; exact e1) e2
  · show upd H p _ a = _
    rw [upd_ne (nm h codeO_lst codeO_dK)]; exact h
theorem tabs_upd {T : List (Addr × Str)} {H : Hp} {p : Addr} {o : HO} (h : LamX.Tabs T H) (hm : Mut (H p)) : LamX.Tabs T (upd H p o) := fun q hq => by
  obtain ⟨ps, h1, h2, h3⟩ := h q hq
  refine ⟨ps, by rw [upd_ne (fun z => hm.no (z ▸ h1) (fun _ => by simp) (fun _ => by simp))]; exact h1, h2, fun pos cv hc => ?_⟩
  obtain ⟨c, e1, e2⟩ := h3 pos cv hc
  exact ⟨c, e1, by rw [upd_ne (fun z => hm.no (z ▸ e2) codeO_lst codeO_dK)]; exact e2⟩
theorem ext_swapC {p : Addr} {o o' : HO} (hm : Mut (H p)) (ho : ∀ ps, o' ≠ .tbl ps := by intro _ z; cases z) : Ext (wdOf (addC C0 p o) am st H s) (wdOf (addC C0 p o') am st (upd H p o') s) := by
  refine ext_upd (fun a h => ?_) (.inl (addC_nm.mpr (.inr rfl))) hm ho
  rcases h with h | h | h
  · exact .inl (addC_nm.mpr (addC_nm.mp h))
  · exact .inr (.inl h)
  · exact .inr (.inr h)
theorem RelS.swapC {p : Addr} {o o' : HO} (h : RelS g (addC C0 p o) am st H s) (hm : Mut (H p)) (ho : ∀ ps, o' ≠ .tbl ps := by intro _ z; cases z) : RelS g (addC C0 p o') am st (upd H p o') s := by
  have e : Ext (wdOf (addC C0 p o) am st H s) (wdOf (addC C0 p o') am st (upd H p o') s) := ext_swapC hm ho
  refine ⟨h.len, fun a b u q => ?_, fun n x a h1 h2 => ?_, fun n x a h1 h2 => RelD.ext e _ _ (h.dead n x a h1 h2), h.apart, fun n x a h1 h2 => ?_, fun a b q => ?_, tabs_upd h.tb hm⟩
  · by_cases z : a = p
    · rw [z, addC_same] at q
      cases q
      rw [z, upd_same]
    · rw [addC_ne z] at q
      rw [upd_ne z]
      exact h.c0 a b u (by rw [addC_ne z]; exact q)
  · obtain ⟨o', h3, h4⟩ := h.live n x a h1 h2
    have z : a ≠ p := (addP_none.mp (h.out n x a h1 h2).1).2
    exact ⟨o', by rw [upd_ne z]; exact h3, h4.ext e⟩
  · obtain ⟨h3, h4⟩ := h.out n x a h1 h2
    exact ⟨addP_none.mpr (addP_none.mp h3), h4⟩
  · obtain ⟨q1, q2, q3⟩ := h.stm a b q
    have z1 : a ≠ p := (addP_none.mp q2).2
    have z2 : b ≠ p := (addP_none.mp q3).2
    exact ⟨⟨q1.ne, by rw [upd_ne z1]; exact q1.hp, by rw [upd_ne z2]; exact q1.hq, q1.dg, q1.ct, q1.mx⟩, addP_none.mpr (addP_none.mp q2), addP_none.mpr (addP_none.mp q3)⟩
theorem FinN.inC {α β : Type} {rel : Wd → α → β → Prop} {r : R α} {k : α → S → R W} {Q1 : β → Hp → Prop} {p : Addr} {o : HO} (n : C0 p = none) (e : Ext w w1) (h : FinN g C0 am Wx σ w (r.bind k) Q)
    (hk : ∀ a s', r = .ok a s' → ∀ b H' st', RelS g (addC C0 p o) am st' H' s' → Ext w1 (wdOf (addC C0 p o) am st' H' s') → rel (wdOf (addC C0 p o) am st' H' s') a b → FinN g C0 am Wx σ w (k a s') Q → Q1 b H') : Fin g (addC C0 p o) am rel Wx σ w1 r Q1 := by
  cases r with
  | ok a s' => exact fun b H' st' h1 h2 h3 => hk a s' rfl b H' st' h1 h2 h3 h
  | exc c x s' =>
    intro cls d H' st' h1 h2 h3
    obtain ⟨a1, a2⟩ := h1.drop n
    exact h cls d H' st' a1 ((e.trans h2).trans a2) (h3.ext a2)
  | bad => exact h
theorem pairs_kvs {w : Wd} : ∀ {ps : List (V × V)} {xs : List D} {kvs : List (Ky × D)}, RelDs g w xs (flatP ps) → pairs xs = some kvs → ∃ ks : List (Key × V), ps = ks.map (fun kv => (kV kv.1, kv.2)) ∧ RelKs g w kvs ks
  | [], xs, kvs, h, e => by
    have hl := h.length
    cases xs with
    | nil => simp [pairs] at e; subst e; exact ⟨[], rfl, .nil⟩
    | cons x xs => simp [flatP] at hl
  | (x, y) :: r, xs, kvs, h, e => by
    cases xs with
    | nil => have hl := h.length; simp [flatP] at hl
    | cons a xs =>
      simp only [flatP, RelDs] at h
      obtain ⟨v, t, e1, h1, h⟩ := h
      cases e1
      cases xs with
      | nil => simp only [RelDs] at h; cases h
      | cons b xs =>
        simp only [RelDs] at h
        obtain ⟨v, t, e1, h2, h⟩ := h
        cases e1
        simp only [pairs] at e
        split at e
        · rename_i k ps' ek ep
          cases e
          obtain ⟨ks, e3, h3⟩ := pairs_kvs h ep
          have e4 := keyK_rel (.inl h1) ek
          subst e4
          exact ⟨(k, y) :: ks, by rw [e3]; rfl, by simp only [RelKs]; exact ⟨y, ks, rfl, keyK_ok (.inl h1) ek, h2, h3⟩⟩
        · cases e
theorem Es.prs_len : ∀ (es : Es), es.even = true → es.len = 2 * es.prs.length
  | .nil, _ => rfl
  | .cons _ .nil, h => by simp [Es.even] at h
  | .cons _ (.cons _ r), h => by simp only [Es.len, Es.prs, List.length_cons]; rw [Es.prs_len r h]; omega
theorem flatP_len : ∀ ps : List (V × V), (flatP ps).length = 2 * ps.length
  | [] => rfl
  | (_, _) :: r => by simp only [flatP, List.length_cons]; rw [flatP_len r]; omega
theorem nn_dct {keys : List (Option Expr)} {values : List Expr} {is : Es} {pos : Pos} (h : PPs X pos keys values (is.prs.map fun p => (rdE g gx Wx p.1, rdE g gx Wx p.2))) (he : is.even = true) (hall : keys.all (·.isSome) = true) (hl : keys.length = values.length) (h0 : keys ≠ [])
    (h15 : keys.length ≤ 15) (h15' : is.prs.length ≤ 15) : PE X (.Dict keys values pos) (rdN g gx Wx (.dct is)) := by
  refine (pe_disp h hall hl h0 h15).imp fun σ H Q q => ?_
  obtain ⟨C0, am, st, env, s, hR, hF⟩ := q
  simp only [ev] at hF
  intro p hp
  have np : C0 p = none := hR.cells.none0 hp
  refine tPairs_in is he (C0 := addC C0 p (.dK [])) (Q' := fun vs H2 => ∀ ps, vs = flatP ps → H2 p = some (.dK []) ∧ ∃ kvs : List (Key × V), ps = kvs.map (fun kv => (kV kv.1, kv.2)) ∧ kvs.length ≤ 15 ∧ Q (.ref p) (upd H2 p (.dK (mergeK [] kvs))))
    ⟨hR.cells.newC hp, hR.slots.ext (ext_newC hp), pf_addC hR.pf⟩ (hF.inC np (ext_newC hp) fun xs s1 e1 vs H1 st1 hS1 hX1 hr1 h1 ps ep => ?_) fun ps H' q => q ps rfl
  obtain ⟨d, ed, h1⟩ := tell_finN h1
  cases e2 : pairs xs with
  | none => rw [e2] at ed; cases ed
  | some kvs =>
    rw [e2] at ed
    cases ed
    subst ep
    obtain ⟨ks, e3, h3⟩ := pairs_kvs hr1 e2
    have hH : H1 p = some (.dK []) := hS1.c0 p _ _ addC_same
    have hm : Mut (H1 p) := .inr ⟨_, hH⟩
    refine ⟨hH, ks, e3, ?_, ?_⟩
    · have l1 := hr1.length
      rw [flatP_len, evX_len is env s xs s1 e1, Es.prs_len is he] at l1
      have : ps.length = ks.length := by rw [e3, List.length_map]
      omega
    · exact h1 p (.dK (mergeK [] ks)) _ st1 np (hS1.swapC hm) (((ext_newC hp).trans hX1).trans (ext_swapC hm)) ⟨_, rfl, RelKs.ext (ext_swapC hm) _ _ (RelKs.merge h3 .nil)⟩
theorem nn_dct0 {pos : Pos} : PE X (.Dict [] [] pos) (rdN g gx Wx (.dct .nil)) := by
  refine pe_dnewK.imp fun σ H Q q => ?_
  obtain ⟨C0, am, st, env, s, hR, hF⟩ := q
  simp only [ev, evX, R.bind, pairs, Option.map_some] at hF
  intro p hp
  exact (TellN.of (d := .dic []) hF).dic hR.cells hp .nil
end
end Us
end

section
set_option Elab.async false
set_option linter.all false
set_option maxRecDepth 100000
set_option maxHeartbeats 1000000
/-! Us.Srt: sorted(..) of ints, of texts, of lists of texts. -/
namespace Us
open PySem PySem.Spec PyProof.Rows L2 SrtO
/-! ### a stable sort -/
section
variable {α β : Type}
def insL (lt : α → α → Bool) (p : α) : List α → List α
  | [] => [p]
  | q :: r => if lt q p = true then q :: insL lt p r else p :: q :: r
def srtL (lt : α → α → Bool) : List α → List α
  | [] => []
  | p :: r => insL lt p (srtL lt r)
theorem insL_perm (lt : α → α → Bool) (p : α) : ∀ l, (insL lt p l).Perm (p :: l)
  | [] => List.Perm.refl _
  | q :: r => by
    unfold insL
    by_cases h : lt q p = true
    · rw [if_pos h]
      exact ((insL_perm lt p r).cons q).trans (List.Perm.swap p q r)
    · rw [if_neg h]
theorem insL_srtd {lt : α → α → Bool} (O : Swo lt) (p : α) : ∀ l, Srtd lt l → Srtd lt (insL lt p l)
  | [], _ => List.pairwise_singleton _ _
  | q :: r, h => by
    obtain ⟨h1, h2⟩ := List.pairwise_cons.mp h
    unfold insL
    by_cases hq : lt q p = true
    · rw [if_pos hq]
      refine List.pairwise_cons.mpr ⟨fun y hy => ?_, insL_srtd O p r h2⟩
      rcases List.mem_cons.mp ((insL_perm lt p r).mem_iff.mp hy) with e | hy
      · rw [e]; exact O.asym _ _ hq
      · exact h1 y hy
    · rw [if_neg hq]
      have hq : lt q p = false := by simpa using hq
      refine List.pairwise_cons.mpr ⟨fun y hy => ?_, h⟩
      rcases List.mem_cons.mp hy with e | hy
      · rw [e]; exact hq
      · exact O.tr p q y hq (h1 y hy)
theorem insL_cls {lt : α → α → Bool} (O : Swo lt) (p x : α) : ∀ l, (insL lt p l).filter (eqv lt x) = (p :: l).filter (eqv lt x)
  | [] => rfl
  | q :: r => by
    unfold insL
    by_cases hq : lt q p = true
    · rw [if_pos hq, List.filter_cons, insL_cls O p x r, List.filter_cons, List.filter_cons, List.filter_cons]
      by_cases e1 : eqv lt x q = true
      · by_cases e2 : eqv lt x p = true
        · obtain ⟨a1, a2⟩ := eqv_iff.mp e1
          obtain ⟨b1, b2⟩ := eqv_iff.mp e2
          have := O.ltle hq b1
          rw [a2] at this
          cases this
        · rw [if_pos e1, if_neg e2, if_neg e2, if_pos e1]
      · rw [if_neg e1, if_neg e1]
    · rw [if_neg hq]
theorem srtL_srtd {lt : α → α → Bool} (O : Swo lt) : ∀ l, Srtd lt (srtL lt l)
  | [] => List.Pairwise.nil
  | p :: r => insL_srtd O p _ (srtL_srtd O r)
theorem srtL_stb {lt : α → α → Bool} (O : Swo lt) : ∀ l, Stb lt (srtL lt l) l
  | [] => Stb.refl _
  | p :: r => by
    have h1 : Stb lt (insL lt p (srtL lt r)) (p :: srtL lt r) := ⟨insL_perm lt p _, fun x => insL_cls O p x _⟩
    exact h1.trans ((Stb.refl [p]).app (srtL_stb O r))
theorem insL_map {lt : α → α → Bool} {lt' : β → β → Bool} (f : α → β) (h : ∀ x y, lt x y = lt' (f x) (f y)) (p : α) : ∀ l, (insL lt p l).map f = insL lt' (f p) (l.map f)
  | [] => rfl
  | q :: r => by
    simp only [insL, List.map_cons, ← h]
    by_cases hq : lt q p = true
    · rw [if_pos hq, if_pos hq, List.map_cons, insL_map f h p r]
    · rw [if_neg hq, if_neg hq]; rfl
theorem srtL_map {lt : α → α → Bool} {lt' : β → β → Bool} (f : α → β) (h : ∀ x y, lt x y = lt' (f x) (f y)) : ∀ l, (srtL lt l).map f = srtL lt' (l.map f)
  | [] => rfl
  | p :: r => by simp only [List.map_cons, srtL]; rw [insL_map f h, srtL_map f h r]
theorem insL_congr {lt lt' : α → α → Bool} (p : α) : ∀ l, (∀ q ∈ l, lt q p = lt' q p) → insL lt p l = insL lt' p l
  | [], _ => rfl
  | q :: r, h => by
    unfold insL
    rw [h q List.mem_cons_self, insL_congr p r fun z hz => h z (List.mem_cons_of_mem _ hz)]
theorem srtL_perm (lt : α → α → Bool) : ∀ l, (srtL lt l).Perm l
  | [] => List.Perm.refl _
  | p :: r => (insL_perm lt p _).trans ((srtL_perm lt r).cons p)
theorem srtL_congr {lt lt' : α → α → Bool} : ∀ l, (∀ p ∈ l, ∀ q ∈ l, lt q p = lt' q p) → srtL lt l = srtL lt' l
  | [], _ => rfl
  | p :: r, h => by
    unfold srtL
    rw [srtL_congr r fun x hx y hy => h x (List.mem_cons_of_mem _ hx) y (List.mem_cons_of_mem _ hy)]
    exact insL_congr p _ fun q hq => h p List.mem_cons_self q (List.mem_cons_of_mem _ ((srtL_perm lt' r).mem_iff.mp hq))
end
/-! ### keys -/
/-- one after the other, as data -/
def dLt (a b : D) : Bool := PySem.W.dataLt (py a) (py b)
def SKey.kind : SKey → Nat
  | .i _ => 0
  | .s _ => 1
  | .l _ => 2
theorem lt_kind {a b : SKey} {r : Bool} (h : a.lt b = some r) : a.kind = b.kind := by
  cases a <;> cases b <;> first | rfl | (simp [SKey.lt] at h)
/-- what a key of that kind is -/
theorem keyOf_ok {x : D} {k : SKey} (h : keyOf x = some k) : (∃ i, x = .int i ∧ k = .i i) ∨ (∃ s, x = .str s ∧ k = .s s.cps.toList) ∨ ∃ xs l, x = .lst xs ∧ strsD xs = some l ∧ k = .l l := by
  cases x <;> simp only [keyOf] at h
  case int i => cases h; exact .inl ⟨i, rfl, rfl⟩
  case str s => cases h; exact .inr (.inl ⟨s, rfl, rfl⟩)
  case lst xs =>
    cases e : strsD xs with
    | none => rw [e] at h; cases h
    | some l => rw [e] at h; cases h; exact .inr (.inr ⟨xs, l, rfl, e, rfl⟩)
  all_goals cases h
theorem strsD_ok : ∀ {xs : List D} {l : List (List Nat)}, strsD xs = some l → ∃ ss : List Str, xs = ss.map D.str ∧ l = ss.map fun s => s.cps.toList
  | [], l, h => by simp only [strsD] at h; cases h; exact ⟨[], rfl, rfl⟩
  | x :: r, l, h => by
    cases x <;> simp only [strsD] at h
    case str s =>
      cases e : strsD r with
      | none => rw [e] at h; cases h
      | some q =>
        rw [e] at h
        cases h
        obtain ⟨ss, rfl, rfl⟩ := strsD_ok e
        exact ⟨s :: ss, rfl, rfl⟩
    all_goals cases h
theorem pys_strs : ∀ ss : List Str, pys (ss.map D.str) = ss.map PyData.str
  | [] => rfl
  | s :: ss => by rw [List.map_cons, pys, pys_strs ss]; rfl
theorem strLt_dec (a b : List Nat) : strLt a b = decide (a < b) := strLt_iff a b
theorem item_str (a b : List Nat) : itemLt (.inr a) (.inr b) = strLt a b := by
  have := PySem.W.dataLt_str ⟨a.toArray⟩ ⟨b.toArray⟩
  rw [PySem.W.dataLt, PySem.W.keyToks, PySem.W.keyToks, PySem.W.lex_one] at this
  rw [strLt_dec]
  simpa using this
theorem listLt_toks : ∀ xs ys : List Str, lexLt itemOrd (PySem.W.keyToksAll (xs.map PyData.str)) (PySem.W.keyToksAll (ys.map PyData.str)) = listLt (xs.map fun s => s.cps.toList) (ys.map fun s => s.cps.toList)
  | [], [] => by
    simp only [List.map_nil, PySem.W.keyToksAll, listLt]
    exact lex_irrefl _
  | [], y :: ys => by
    simp only [List.map_nil, List.map_cons, PySem.W.keyToksAll, listLt]
    exact (lex_diff (O := itemOrd) (by intro h; cases h)).trans rfl
  | x :: xs, [] => by
    simp only [List.map_nil, List.map_cons, PySem.W.keyToksAll, listLt]
    exact (lex_diff (O := itemOrd) (by intro h; cases h)).trans rfl
  | x :: xs, y :: ys => by
    simp only [List.map_cons, PySem.W.keyToksAll, PySem.W.keyToks, listLt]
    refine (lex_self (O := itemOrd) _ _ _).trans ?_
    by_cases e : x.cps.toList = y.cps.toList
    · rw [e, if_pos (by simp)]
      exact (lex_self (O := itemOrd) _ _ _).trans (listLt_toks xs ys)
    · rw [if_neg (by simpa using e)]
      refine (lex_diff (O := itemOrd) (fun h => e (Sum.inr.inj h))).trans (item_str _ _)
theorem key_lt {x y : D} {a b : SKey} {r : Bool} (hx : keyOf x = some a) (hy : keyOf y = some b) (h : a.lt b = some r) : r = dLt x y := by
  unfold dLt
  rcases keyOf_ok hx with ⟨i, rfl, rfl⟩ | ⟨s, rfl, rfl⟩ | ⟨xs, l, rfl, hl, rfl⟩ <;> rcases keyOf_ok hy with ⟨j, rfl, rfl⟩ | ⟨t, rfl, rfl⟩ | ⟨ys, m, rfl, hm, rfl⟩ <;> simp only [SKey.lt] at h <;> try (cases h; done)
  · cases h; exact (PySem.W.dataLt_int i j).symm
  · cases h
    rw [strLt_dec]
    exact (PySem.W.dataLt_str s t).symm
  · cases h
    obtain ⟨ss, rfl, rfl⟩ := strsD_ok hl
    obtain ⟨ts, rfl, rfl⟩ := strsD_ok hm
    simp only [py, pys_strs]
    rw [PySem.W.dataLt_list, listLt_toks]
theorem alike_strs : ∀ xs ys : List Str, PySem.W.alikeAll (xs.map PyData.str) (ys.map PyData.str) = true
  | [], ys => by simp [PySem.W.alikeAll]
  | x :: xs, [] => by simp [PySem.W.alikeAll]
  | x :: xs, y :: ys => by simp [PySem.W.alikeAll, PySem.W.alike, alike_strs xs ys]
theorem depth_strs : ∀ xs : List Str, PyData.depthAll (xs.map PyData.str) = 0
  | [] => by simp [PyData.depthAll]
  | x :: xs => by simp [PyData.depthAll, PyData.depth, depth_strs xs]
/-- two keys of one kind -/
theorem key_alike {x y : D} {a b : SKey} (hx : keyOf x = some a) (hy : keyOf y = some b) (h : a.kind = b.kind) : PySem.W.alike (py x) (py y) = true ∧ py x ≠ .none ∧ (∀ xs, py x ≠ .tuple xs) ∧ (py x).depth ≤ 1 := by
  rcases keyOf_ok hx with ⟨i, rfl, rfl⟩ | ⟨s, rfl, rfl⟩ | ⟨xs, l, rfl, hl, rfl⟩ <;> rcases keyOf_ok hy with ⟨j, rfl, rfl⟩ | ⟨t, rfl, rfl⟩ | ⟨ys, m, rfl, hm, rfl⟩ <;> simp only [SKey.kind] at h <;> try (exact absurd h (by decide))
  · simp [py, PySem.W.alike, PyData.depth]
  · simp [py, PySem.W.alike, PyData.depth]
  · obtain ⟨ss, rfl, rfl⟩ := strsD_ok hl
    obtain ⟨ts, rfl, rfl⟩ := strsD_ok hm
    simp [py, pys_strs, PySem.W.alike, PyData.depth, alike_strs, depth_strs]
theorem key_flat {x : D} {a : SKey} (hx : keyOf x = some a) : x.flatK = true := by
  rcases keyOf_ok hx with ⟨i, rfl, rfl⟩ | ⟨s, rfl, rfl⟩ | ⟨xs, l, rfl, hl, rfl⟩
  · rfl
  · rfl
  · obtain ⟨ss, rfl, rfl⟩ := strsD_ok hl
    have : ∀ ss : List Str, D.flatKs (ss.map D.str) = true := fun ss => by
      induction ss with
      | nil => rfl
      | cons s ss ih => simp [D.flatKs, D.flatK, ih]
    simpa [D.flatK] using this ss
/-! ### the executor's sort -/
theorem keysD_ok : ∀ {xs : List D} {ks : List (SKey × D)}, keysD xs = some ks → ks.map (·.2) = xs ∧ ∀ p ∈ ks, keyOf p.2 = some p.1
  | [], ks, h => by simp only [keysD] at h; cases h; exact ⟨rfl, fun p hp => by cases hp⟩
  | x :: r, ks, h => by
    simp only [keysD] at h
    cases e1 : keyOf x with
    | none => rw [e1] at h; simp at h
    | some k =>
      cases e2 : keysD r with
      | none => rw [e1, e2] at h; simp at h
      | some q =>
        rw [e1, e2] at h
        simp only [Option.some.injEq] at h
        subst h
        obtain ⟨h1, h2⟩ := keysD_ok e2
        refine ⟨by rw [List.map_cons, h1], fun p hp => ?_⟩
        rcases List.mem_cons.mp hp with rfl | hp
        · exact e1
        · exact h2 p hp
def kLt (p q : SKey × D) : Bool := dLt p.2 q.2
theorem insK_ok {p : SKey × D} (hp : keyOf p.2 = some p.1) : ∀ {l l' : List (SKey × D)}, (∀ q ∈ l, keyOf q.2 = some q.1) → insK p l = some l' → l' = insL kLt p l ∧ (∀ q r, l = q :: r → q.1.kind = p.1.kind)
  | [], l', _, h => by
    simp only [insK] at h
    cases h
    exact ⟨rfl, fun q r e => by cases e⟩
  | q :: r, l', hq, h => by
    simp only [insK] at h
    have h0 := hq q List.mem_cons_self
    cases e : q.1.lt p.1 with
    | none => rw [e] at h; cases h
    | some b =>
      have e1 := key_lt h0 hp e
      rw [e] at h
      unfold insL
      have e2 : kLt q p = b := e1.symm
      rw [e2]
      refine ⟨?_, fun q' r' z => by cases z; exact lt_kind e⟩
      cases b with
      | false =>
        simp only [Option.some.injEq] at h
        rw [if_neg (by decide)]
        exact h.symm
      | true =>
        simp only at h
        cases e3 : insK p r with
        | none => rw [e3] at h; cases h
        | some l2 =>
          rw [e3] at h
          simp only [Option.map_some, Option.some.injEq] at h
          rw [if_pos rfl, ← (insK_ok hp (fun z hz => hq z (List.mem_cons_of_mem _ hz)) e3).1]
          exact h.symm
theorem sortK_ok : ∀ {l l' : List (SKey × D)}, (∀ q ∈ l, keyOf q.2 = some q.1) → sortK l = some l' → l' = srtL kLt l ∧ ∀ p ∈ l, ∀ q ∈ l, p.1.kind = q.1.kind
  | [], l', _, h => by
    simp only [sortK] at h
    cases h
    exact ⟨rfl, fun p hp => by cases hp⟩
  | p :: r, l', hq, h => by
    simp only [sortK] at h
    cases e : sortK r with
    | none => rw [e] at h; cases h
    | some m =>
      rw [e] at h
      simp only [Option.bind_some] at h
      have hr := fun z (hz : z ∈ r) => hq z (List.mem_cons_of_mem _ hz)
      obtain ⟨rfl, h2⟩ := sortK_ok hr e
      have pm := srtL_perm kLt r
      obtain ⟨h3, h4⟩ := insK_ok (hq p List.mem_cons_self) (fun z hz => hr z (pm.mem_iff.mp hz)) h
      refine ⟨h3, ?_⟩
      have hall : ∀ z ∈ r, z.1.kind = p.1.kind := fun z hz => by
        cases es : srtL kLt r with
        | nil => rw [es] at pm; rw [List.Perm.eq_nil pm.symm] at hz; cases hz
        | cons y ys =>
          have hy : y ∈ r := pm.mem_iff.mp (by rw [es]; exact List.mem_cons_self)
          rw [← h4 y ys es]
          exact h2 z hz y hy
      intro a ha b hb
      rcases List.mem_cons.mp ha with e1 | ha1 <;> rcases List.mem_cons.mp hb with e2 | hb1
      · rw [e1, e2]
      · rw [e1]; exact (hall b hb1).symm
      · rw [e2]; exact hall a ha1
      · exact h2 a ha1 b hb1
theorem sortD_ok {xs ys : List D} (h : sortD xs = some ys) : ys = srtL dLt xs ∧ ∃ κ : Nat, ∀ x ∈ xs, ∃ k, keyOf x = some k ∧ k.kind = κ := by
  unfold sortD at h
  cases e : keysD xs with
  | none => rw [e] at h; cases h
  | some ks =>
    rw [e] at h
    simp only [Option.bind_some] at h
    obtain ⟨h1, h2⟩ := keysD_ok e
    cases e2 : sortK ks with
    | none => rw [e2] at h; cases h
    | some m =>
      rw [e2] at h
      simp only [Option.map_some, Option.some.injEq] at h
      obtain ⟨h3, h4⟩ := sortK_ok h2 e2
      subst h3
      refine ⟨?_, ?_⟩
      · rw [← h, ← h1]
        exact srtL_map (lt := kLt) (lt' := dLt) (·.2) (fun _ _ => rfl) ks
      · cases ks with
        | nil =>
          refine ⟨0, fun x hx => ?_⟩
          rw [← h1] at hx
          cases hx
        | cons p r =>
          refine ⟨p.1.kind, fun x hx => ?_⟩
          rw [← h1] at hx
          obtain ⟨q, hq, rfl⟩ := List.mem_map.mp hx
          exact ⟨q.1, h2 q hq, h4 q hq p List.mem_cons_self⟩
end Us
end

section
set_option Elab.async false
set_option linter.all false
set_option maxRecDepth 100000
set_option maxHeartbeats 1000000
/-! Us.Snd24: sorted(..), the rule. -/
namespace Us
open PySem PySem.Spec PyProof.Rows L2 SrtO
theorem swo_py : Swo fun a b : PyData => PySem.W.dataLt a b := by
  refine ⟨fun x y h => ?_, fun x y z h1 h2 => ?_⟩
  · rcases bcase (PySem.W.dataLt y x) with q | q
    · have := lex_trans (O := itemOrd) _ _ _ h q
      rw [lex_irrefl] at this
      cases this
    · exact q
  · rcases bcase (PySem.W.dataLt z x) with q | q
    · rcases lex_negTrans (O := itemOrd) (PySem.W.keyToks z) (PySem.W.keyToks y) (PySem.W.keyToks x) q with p | p
      · exact absurd (h2.symm.trans p) (by decide)
      · exact absurd (h1.symm.trans p) (by decide)
    · exact q
theorem Stb.symm {α : Type} {lt : α → α → Bool} {l m : List α} (h : Stb lt l m) : Stb lt m l := ⟨h.perm.symm, fun x => (h.cls x).symm⟩
abbrev Tri := D × V × Value
theorem tris {g : Gp} {w : Wd} : ∀ {xs : List D} {vs : List V} {us : List Value}, RelDs g w xs vs → Vals vs us → ∃ zs : List Tri, zs.map (·.1) = xs ∧ zs.map (·.2.1) = vs ∧ zs.map (·.2.2) = us ∧ ∀ z ∈ zs, RelD g w z.1 z.2.1 ∧ L2.RelV z.2.1 z.2.2
  | [], vs, us, h, r => by
    simp only [RelDs] at h
    subst h
    cases r
    exact ⟨[], rfl, rfl, rfl, fun z hz => by cases hz⟩
  | x :: xs, vs, us, h, r => by
    simp only [RelDs] at h
    obtain ⟨v, q, rfl, h1, h2⟩ := h
    cases r with
    | cons r1 r2 =>
      obtain ⟨zs, e1, e2, e3, hz⟩ := tris h2 r2
      refine ⟨(x, v, _) :: zs, by rw [List.map_cons, e1], by rw [List.map_cons, e2], by rw [List.map_cons, e3], fun z m => ?_⟩
      rcases List.mem_cons.mp m with rfl | m
      · exact ⟨h1, r1⟩
      · exact hz z m
theorem tris_rel {g : Gp} {w : Wd} : ∀ {zs : List Tri}, (∀ z ∈ zs, RelD g w z.1 z.2.1 ∧ L2.RelV z.2.1 z.2.2) → RelDs g w (zs.map (·.1)) (zs.map (·.2.1)) ∧ Vals (zs.map (·.2.1)) (zs.map (·.2.2))
  | [], _ => ⟨.nil, .nil⟩
  | z :: zs, h => by
    obtain ⟨h1, h2⟩ := h z List.mem_cons_self
    obtain ⟨h3, h4⟩ := tris_rel fun y hy => h y (List.mem_cons_of_mem _ hy)
    exact ⟨.cons h1 h3, .cons h2 h4⟩
def tyOf : Nat → Value
  | 0 => .type "int"
  | 1 => .type "str"
  | _ => .type "list"
theorem looks_key {M : Model} {h : Heap} {x : D} {k : SKey} {v : Value} {as : List Addr} (hk : keyOf x = some k) (r : Reads h v (py x) as) : PySem.W.Looks M h (typeOf v) (tyOf k.kind) := by
  rcases keyOf_ok hk with ⟨i, rfl, rfl⟩ | ⟨s, rfl, rfl⟩ | ⟨xs, l, rfl, hl, rfl⟩
  · simp only [py] at r
    cases r
    exact .now
  · simp only [py] at r
    cases r
    exact .now
  · simp only [py] at r
    cases r with
    | @list a o vs n xs as ho hc hd hr =>
      show PySem.W.Looks M h (typeOf (.ref a)) (.type "list")
      rw [← hc]
      exact (PySem.W.Looks.ld ho).andThen .now
section
variable {X : Cx} {g : Gp} {gx : G} {Wx : WX} {C0 : Pin} {am : List Addr} {σ : L2.St} {st : Option (Addr × Addr)} {H : Hp} {s : S} {env : Env} {w w1 : Wd} {Q : V → Hp → Prop}
open Classical in
theorem cr_sortedN (hK : X.K = g.K) (hu : X.A.units + 66 < cLine) : CallR X (.builtin "sorted") (rC1N g (biD .sorted)) := by
  intro pins s σ H vs us Q I r h
  obtain ⟨x, rfl, C0, am, st, s', dx, d, hS, hx, e, hT⟩ := h
  cases dx <;> simp only [biD] at e
  case lst xs =>
    cases e1 : sortD xs with
    | none => rw [e1] at e; cases e
    | some ys =>
      rw [e1] at e
      cases e
      obtain ⟨a, ws, e2, h1, h2⟩ := hx.lst
      subst e2
      obtain ⟨hy, κ, hk⟩ := sortD_ok e1
      obtain ⟨its, rv, hl, hz⟩ := I.list (.inl (.inl h1))
      rw [Vals.ref1 r]
      obtain ⟨zs, z1, z2, z3, hzs⟩ := tris h2 rv
      have key : ∀ z ∈ zs, ∃ k, keyOf z.1 = some k ∧ k.kind = κ := fun z m => hk z.1 (by rw [← z1]; exact List.mem_map.mpr ⟨z, m, rfl⟩)
      have rd : ∀ z ∈ zs, ∃ as, Reads s.heap z.2.2 (py z.1) as := fun z m => by
        obtain ⟨k, k1, _⟩ := key z m
        obtain ⟨q1, q2⟩ := hzs z m
        have := (lay_py z.1 z.2.1 q1 (key_flat k1)).2
        rw [← hK] at this
        exact Dp.reads I _ _ _ this q2
      have alk : ∀ z ∈ zs, ∀ y ∈ zs, PySem.W.alike (py z.1) (py y.1) = true ∧ py z.1 ≠ .none ∧ (∀ xs, py z.1 ≠ .tuple xs) ∧ (py z.1).depth ≤ 1 := fun z m y m' => by
        obtain ⟨k, k1, k2⟩ := key z m
        obtain ⟨j, j1, j2⟩ := key y m'
        exact key_alike k1 j1 (k2.trans j2.symm)
      let dv : Value → PyData := fun v => if h : ∃ z ∈ zs, z.2.2 = v then py (choose h).1 else .none
      have hdv : ∀ z ∈ zs, dv z.2.2 = py z.1 := fun z m => by
        have hex : ∃ y ∈ zs, y.2.2 = z.2.2 := ⟨z, m, rfl⟩
        show (if h : ∃ y ∈ zs, y.2.2 = z.2.2 then py (choose h).1 else .none) = _
        rw [dif_pos hex]
        obtain ⟨c1, c2⟩ := choose_spec hex
        obtain ⟨as, r1⟩ := rd _ c1
        obtain ⟨bs, r2⟩ := rd z m
        rw [c2] at r1
        exact PySem.W.alike_unique _ _ _ _ _ (alk _ c1 z m).1 r1 r2
      let ltv : Value → Value → Bool := fun v u => PySem.W.dataLt (dv v) (dv u)
      have O : Swo ltv := ⟨fun x y h => swo_py.asym _ _ h, fun x y z h1 h2 => swo_py.tr _ _ _ h1 h2⟩
      have mem : ∀ v ∈ its, ∃ z ∈ zs, z.2.2 = v := fun v m => by
        rw [← z3] at m
        obtain ⟨z, hz, e⟩ := List.mem_map.mp m
        exact ⟨z, hz, e⟩
      refine sorted_ord O hl.isList (by rw [← rv.length]; exact hz) (fun n2 h₁ a' ha kk => ?_) fun out hs hb => ?_
      · intro h' keep
        have keep2 : ∀ b o, s.heap.get? b = some o → h'.get? b = some o := fun b o q => keep b o (kk b o q).1 (kk b o q).2
        refine ⟨oneType', fun Q E hq => PySem.W.kas_kind (T := tyOf κ) n2 (fun v hv => ?_) (by match κ with | 0 => rfl | 1 => rfl | _ + 2 => rfl) (by match κ with | 0 => rfl | 1 => rfl | _ + 2 => rfl) hq, ?_⟩
        · obtain ⟨z, m, rfl⟩ := mem v hv
          obtain ⟨k, k1, k2⟩ := key z m
          obtain ⟨as, r1⟩ := rd z m
          rw [← k2]
          exact looks_key k1 (PyProof.Rows.Reads.keeps keep2 r1)
        · intro p q hm hm'
          obtain ⟨z, m, e3⟩ := mem _ hm
          obtain ⟨y, m', e4⟩ := mem _ hm'
          obtain ⟨as, r1⟩ := rd z m
          obtain ⟨bs, r2⟩ := rd y m'
          obtain ⟨a1, a2, a3, a4⟩ := alk z m y m'
          show wpAny (model X.prog X.w) X.A.in1.in1 (keyLt' oneType' p.1 q.1) (fun r s' => s' = _ ∧ r = ltv p.1 q.1) (fun _ _ => False) _
          rw [keyLt'_oneType, ← e3, ← e4]
          refine PySem.W.oneLt_alike (f := true) (fun _ => a3) (PyProof.Rows.Reads.keeps keep2 r1) (PyProof.Rows.Reads.keeps keep2 r2) a1 a2 ?_ ⟨rfl, ?_⟩
          · show X.A.units + 1 + 1 + _ < cLine
            have := Nat.min_le_left (py z.1).depth (py y.1).depth
            omega
          · show PySem.W.dataLt (py z.1) (py y.1) = PySem.W.dataLt (dv z.2.2) (dv y.2.2)
            rw [hdv z m, hdv y m']
      · let lt3 : Tri → Tri → Bool := fun p q => ltv p.2.2 q.2.2
        have O3 : Swo lt3 := ⟨fun x y h => O.asym _ _ h, fun x y z h1 h2 => O.tr _ _ _ h1 h2⟩
        have pm := srtL_perm lt3 zs
        have eo : out = (srtL lt3 zs).map (·.2.2) := by
          refine stb_uniq O hs (srtd_map (f := fun z : Tri => z.2.2) (srtL_srtd O3 zs)) ?_
          refine hb.trans ?_
          rw [← z3]
          exact Us.Stb.symm (Stb.map O (fun z : Tri => z.2.2) (srtL_stb O3 zs))
        have ey : ys = (srtL lt3 zs).map (·.1) := by
          rw [hy, ← z1, ← srtL_map (lt := fun p q : Tri => dLt p.1 q.1) (lt' := dLt) (·.1) (fun _ _ => rfl) zs]
          refine congrArg _ (srtL_congr zs fun p hp q hq => ?_)
          show PySem.W.dataLt (py q.1) (py p.1) = PySem.W.dataLt (dv q.2.2) (dv p.2.2)
          rw [hdv p hp, hdv q hq]
        obtain ⟨k1, k2⟩ := tris_rel (zs := srtL lt3 zs) fun z m => hzs z (pm.mem_iff.mp m)
        rw [← ey] at k1
        rw [← eo] at k2
        obtain ⟨ep, he'⟩ := PyProof.Rows.sortedAll_at s.heap its out.toArray
        have hlen : ((srtL lt3 zs).map (·.2.1)).length ≤ sizeLine := by
          rw [List.length_map, pm.length_eq, ← List.length_map (f := fun z : Tri => z.2.1), z2]
          exact hz
        exact ⟨.ref _, upd H (s.heap.objs.size + 1) (.lst ((srtL lt3 zs).map (·.2.1))), I.laid (t' := s.toks) (fun _ _ => PyProof.Rows.sortedAll_old) (Nat.le_succ _) ⟨hlen, out, ep, k2, he'⟩, rfl, hT.lst hS (I.hok.fresh (Nat.le_succ _)) k1⟩
  all_goals cases e
theorem nn_sorted {a : Expr} {i : E} {p pos : Pos} (hK : X.K = g.K) (hu : X.A.units + 66 < cLine) (hg : Gl X "sorted") (hm : X.mg "sorted" = none) (ha : PE X a (rdE g gx Wx i)) (hs : NoStar a) : PE X (.Call (.Name "sorted" p) [a] [] pos) (rdN g gx Wx (.bi .sorted i)) := by
  refine (pe_callB (cr_sortedN hK hu) hg hm (by decide +kernel) (pa_cons ha pa_nil (hs _ _)) (by decide) (by decide) (hs _ _) (by rfl)).imp fun σ H Q q => ?_
  obtain ⟨C0, am, st, env, s, hR, hQ⟩ := q
  simp only [ev] at hQ
  exact one_argN hR hQ
end
end Us
end

section
set_option Elab.async false
set_option linter.all false
set_option maxRecDepth 100000
set_option maxHeartbeats 1000000
/-! Us.Snd8: slices, xs[::-1], get, list(d.items()), fields of caught errors, calls of defs. -/
namespace Us
open PySem PySem.Spec PyProof.Rows L2
section
variable {X : Cx} {g : Gp} {gx : G} {Wx : WX} {C0 : Pin} {am : List Addr} {σ : L2.St} {st : Option (Addr × Addr)} {H : Hp} {s : S} {env : Env} {w w1 : Wd} {Q : V → Hp → Prop}
/-! ### slices -/
theorem sli_P {a d : D} {lo hi : Option Int} (e : sliD a (lo.map .int) (hi.map .int) = some d) : sliP a lo hi = some d := by
  cases a <;> cases lo <;> cases hi <;> simp [sliD, sliP, lo', hi'] at e ⊢ <;> exact e
theorem sli_intL {a d x : D} {hi : Option D} (e : sliD a (some x) hi = some d) : ∃ i, x = .int i := by
  cases x with
  | int i => exact ⟨i, rfl⟩
  | _ => cases a <;> rcases hi with _ | y <;> simp [sliD] at e
theorem sli_intH {a d x : D} {lo : Option D} (e : sliD a lo (some x) = some d) : ∃ i, x = .int i := by
  cases x with
  | int i => exact ⟨i, rfl⟩
  | _ => cases a <;> rcases lo with _ | y <;> first | (simp [sliD] at e; done) | (cases y <;> simp [sliD] at e)
theorem sn_from {a b : Expr} {i j : E} {p2 pos : Pos} (hK : X.K = g.K) (ha : PE X a (rdE g gx Wx i)) (hb : PE X b (rdE g gx Wx j)) : PE X (.Subscript a (.Slice (some b) none none p2) pos) (rdE g gx Wx (.from_ i j)) := by
  refine (pe_slice (or_sli (g := g) hK) ha (po_some hb) po_none).imp fun σ H Q q => ?_
  obtain ⟨C0, am, st, env, s, hR, hF⟩ := q
  simp only [ev] at hF
  refine ⟨C0, am, st, env, s, hR, hF.bind fun x s1 e1 v1 H1 st1 hS1 hX1 hr1 h1 => ?_⟩
  refine ⟨C0, am, st1, env, s1, hR.at_ hS1 hX1, h1.bind fun y s2 e2 v2 H2 st2 hS2 hX2 hr2 h2 => ?_⟩
  obtain ⟨dx, ex, h2⟩ := vw_fin h2
  obtain ⟨dy, ey, h2⟩ := vw_fin h2
  obtain ⟨d, ed, h3⟩ := tell_fin h2
  obtain ⟨k, rfl⟩ := sli_intL ed
  exact ⟨k, (view_rel hS2 hr2 ey).int, C0, am, st2, s2, dx, d, hS2, view_rel hS2 (hr1.ext hX2) ex, sli_P (lo := some k) (hi := none) ed, Tell.of h3⟩
theorem sn_upto {a b : Expr} {i j : E} {p2 pos : Pos} (hK : X.K = g.K) (ha : PE X a (rdE g gx Wx i)) (hb : PE X b (rdE g gx Wx j)) : PE X (.Subscript a (.Slice none (some b) none p2) pos) (rdE g gx Wx (.upto i j)) := by
  refine (pe_slice (or_sli (g := g) hK) ha po_none (po_some hb)).imp fun σ H Q q => ?_
  obtain ⟨C0, am, st, env, s, hR, hF⟩ := q
  simp only [ev] at hF
  refine ⟨C0, am, st, env, s, hR, hF.bind fun x s1 e1 v1 H1 st1 hS1 hX1 hr1 h1 => ?_⟩
  refine ⟨C0, am, st1, env, s1, hR.at_ hS1 hX1, h1.bind fun y s2 e2 v2 H2 st2 hS2 hX2 hr2 h2 => ?_⟩
  obtain ⟨dx, ex, h2⟩ := vw_fin h2
  obtain ⟨dy, ey, h2⟩ := vw_fin h2
  obtain ⟨d, ed, h3⟩ := tell_fin h2
  obtain ⟨k, rfl⟩ := sli_intH ed
  exact ⟨k, (view_rel hS2 hr2 ey).int, C0, am, st2, s2, dx, d, hS2, view_rel hS2 (hr1.ext hX2) ex, sli_P (lo := none) (hi := some k) ed, Tell.of h3⟩
theorem sn_part {a b c : Expr} {i j k : E} {p2 pos : Pos} (hK : X.K = g.K) (ha : PE X a (rdE g gx Wx i)) (hb : PE X b (rdE g gx Wx j)) (hc : PE X c (rdE g gx Wx k)) : PE X (.Subscript a (.Slice (some b) (some c) none p2) pos) (rdE g gx Wx (.part i j k)) := by
  refine (pe_slice (or_sli (g := g) hK) ha (po_some hb) (po_some hc)).imp fun σ H Q q => ?_
  obtain ⟨C0, am, st, env, s, hR, hF⟩ := q
  simp only [ev] at hF
  refine ⟨C0, am, st, env, s, hR, hF.bind fun x s1 e1 v1 H1 st1 hS1 hX1 hr1 h1 => ?_⟩
  refine ⟨C0, am, st1, env, s1, hR.at_ hS1 hX1, h1.bind fun y s2 e2 v2 H2 st2 hS2 hX2 hr2 h2 => ?_⟩
  obtain ⟨dy, ey, h2⟩ := vw_fin h2
  split at h2
  · rename_i hi
    cases dy <;> simp [D.isI] at hi
    rename_i k1
    refine ⟨k1, (view_rel hS2 hr2 ey).int, C0, am, st2, env, s2, (hR.at_ hS1 hX1).at_ hS2 hX2, h2.bind fun z s3 e3 v3 H3 st3 hS3 hX3 hr3 h3 => ?_⟩
    obtain ⟨dx, ex, h3⟩ := vw_fin h3
    obtain ⟨dz, ez, h3⟩ := vw_fin h3
    obtain ⟨d, ed, h4⟩ := tell_fin h3
    obtain ⟨k2, rfl⟩ := sli_intH ed
    exact ⟨k2, (view_rel hS3 hr3 ez).int, C0, am, st3, s3, dx, d, hS3, view_rel hS3 ((hr1.ext hX2).ext hX3) ex, sli_P (lo := some k1) (hi := some k2) ed, Tell.of h4⟩
  · exact h2.elim
/-! ### xs[::-1] -/
theorem sn_back {a : Expr} {i : E} {k : Nat} {p1 p2 p3 pos : Pos} (hK : X.K = g.K) (ha : PE X a (rdE g gx Wx i)) : PE X (.Subscript a (.Slice none none (some (.UnaryOp .USub (.Constant (.int 1) k p1) p2)) p3) pos) (rdE g gx Wx (.back i)) := by
  refine (pe_revL ha).imp fun σ H Q q => ?_
  obtain ⟨C0, am, st, env, s, hR, hF⟩ := q
  simp only [ev] at hF
  refine ⟨C0, am, st, env, s, hR, hF.bind fun x s1 e1 v1 H1 st1 hS1 hX1 hr1 h1 => ?_⟩
  obtain ⟨dx, ex, h1⟩ := vw_fin h1
  have hb := view_rel hS1 hr1 ex
  split at h1
  · obtain ⟨b, vs, e2, h2, h3⟩ := hb.lst
    exact ⟨b, vs, e2, .inl (.inl h2), fun p hp => (Tell.of h1).lst hS1 hp h3.reverse⟩
  · exact h1.elim
/-! ### list(d.items()) -/
theorem items_rel {w : Wd} {H' : Hp} : ∀ {kvs : List (Ky × D)} {ks : List (Key × V)} {ts : List Addr}, RelKs g w kvs ks → Paired (fun (t : Addr) (q : Key × V) => w.H t = some (.tup [kV q.1, q.2])) ts ks → RelDs g w (kvs.map fun p => .tup [kyD p.1, p.2]) (ts.map V.ref)
  | [], ks, ts, h, p => by simp only [RelKs] at h; subst h; cases p; exact .nil
  | (k, x) :: r, ks, ts, h, p => by
    simp only [RelKs] at h
    obtain ⟨v, q, rfl, hk, h1, h2⟩ := h
    cases p with
    | @cons t _ ts' _ e pr =>
      simp only [List.map_cons]
      refine .cons ?_ (items_rel (H' := H') h2 pr)
      simp only [RelD]
      refine ⟨t, _, rfl, .inl (.inl e), .cons ?_ (.cons h1 .nil)⟩
      cases k with
      | inl i => exact relD_int
      | inr z => exact relD_str hk.1 hk.2
theorem pe_listItemsR {e : Expr} {te : TE} {p apos cpos pos : Pos} (hc : X.calm = true) (he : PE X e te) (hg : Gl X "list") (hm : X.mg "list" = none) (hbase : attributeBase e "items" X.env (eval e X.env) = eval e X.env) (hline : (apos.endLine == cpos.line) = true)
    (hs : starEach [.Call (.Attribute e "items" apos) [] [] cpos] X.env = (false, eval (.Call (.Attribute e "items" apos) [] [] cpos) X.env) :: starEach [] X.env := by rfl) :
    PE X (.Call (.Name "list" p) [.Call (.Attribute e "items" apos) [] [] cpos] [] pos) (fun σ H Q => te σ H fun x H1 => ∃ (d : Addr) (kvs : List (Key × V)), x = .ref d ∧ Rd H1 d (.dK kvs) ∧
      ∀ (H' : Hp) (p : Addr) (ts : List Addr), (∀ b o, H1 b = some o → H' b = some o) → H1 p = none → (∀ t ∈ ts, H1 t = none) → p ∉ ts → H' p = some (.lst (ts.map V.ref)) → Paired (fun (t : Addr) (q : Key × V) => H' t = some (.tup [kV q.1, q.2])) ts kvs → Q (.ref p) H') := by
  refine ⟨fun pins s σ H Q I hq => ?_⟩
  refine wpAny_Call_Name_kw (ld_blt I hg hm (by decide +kernel : bootBuiltins "list" = some (.type "list")) ?_)
  refine PyProof.Rows.callWith_type1 ?_ hs rfl
  rw [hs]
  show wpAny _ _ (spliced ((false, eval (.Call (.Attribute e "items" apos) [] [] cpos) X.env) :: backTo pos (starEach [] X.env))) _ _ s
  refine Calls.spliced_cons ?_
  refine wpAny_Call_method (T := "dict") (id := "dict.items") hbase rfl hline F.plainAttrs_dict F.slot_dict_items F.type_dict_items (thn (he.run pins s σ H _ I hq) fun u s1 ⟨x, H1, I1, rx, d, kvs, ex, hd, q⟩ => ?_)
  subst ex
  obtain rfl : u = Value.ref d := rx
  obtain ⟨hz, hs0, vs, kv, hdo⟩ := dk_rd I1.hok hd
  obtain ⟨ep, hat⟩ := hdo.dictAt
  have lk : kvs.length = vs.length := Paired.length kv
  have I2 : Inv X pins σ H1 { s1 with heap := s1.heap.push { cls := .type "dict_items", data := .fields #[.ref d] } } := I1.kept (t' := s1.toks) fun b ob q => Heap.get?_push_of_some _ q
  refine ⟨hdo.typeIs, hdo.mapOf.noDict, ?_⟩
  show wpAny _ _ (callWith cpos (.builtin "dict.items") [.ref d] [] []) _ X.xe s1
  refine method_meetsIn F.slot_dict_items F.entry_dict_items rfl (PySem.evalArgs_none ⟨rfl, hdo.typeIs, F.args_dict_items_1 _, _, meets_dict_items (mixKind X.prog X.w) d hs0, ⟨vs, hdo⟩, ?_⟩)
  refine Calls.spliced_nil ?_
  refine PySem.W.kdx_call (knd := mixKind X.prog X.w) (kvs := vs) (ep := ep) (I1.ok.hd hc) ⟨_, Heap.get?_push_size _ rfl, rfl, rfl⟩ (hat.push _) (by omega) fun h' tk acc c as hk hS hl hG hacc => ?_
  obtain ⟨H', k1, k2, k3, k4, k5, k6, J⟩ := LiI.items_laid (tk := tk) I2 hz kv hk hS hl hG hacc
  exact ⟨.ref _, H', J, rfl, q H' _ as k1 k2 k3 k4 k5 k6⟩
theorem sn_litems {a : Expr} {i : E} {p apos cpos pos : Pos} (hc : X.calm = true) (ha : PE X a (rdE g gx Wx i)) (hg : Gl X "list") (hm : X.mg "list" = none) (hbase : attributeBase a "items" X.env (eval a X.env) = eval a X.env) (hline : (apos.endLine == cpos.line) = true) :
    PE X (.Call (.Name "list" p) [.Call (.Attribute a "items" apos) [] [] cpos] [] pos) (rdE g gx Wx (.litems i)) := by
  refine (pe_listItemsR hc ha hg hm hbase hline).imp fun σ H Q q => ?_
  obtain ⟨C0, am, st, env, s, hR, hF⟩ := q
  simp only [ev] at hF
  refine ⟨C0, am, st, env, s, hR, hF.bind fun x s1 e1 v1 H1 st1 hS1 hX1 hr1 h1 => ?_⟩
  obtain ⟨dx, ex, h1⟩ := vw_fin h1
  have hb := view_rel hS1 hr1 ex
  split at h1
  · rename_i kvs
    obtain ⟨b, ks, e2, h2, h3⟩ := hb.dic
    refine ⟨b, ks, e2, h2, fun H' q ts hk hq hts hn hl hp => ?_⟩
    refine h1 (.ref q) H' st1 (hS1.grow hk) (ext_grow hk) ?_
    show RelD g (wdOf C0 am st1 H' s1) (.lst _) (.ref q)
    simp only [RelD]
    exact ⟨q, _, rfl, nC_new hS1 hq, hl, items_rel (H' := H') (RelKs.ext (ext_grow hk) _ _ h3) hp⟩
  · exact h1.elim
/-! ### d.get -/
theorem isDic_rel {w : Wd} {x : D} {v : V} (h : RelB g w x v) (k : x.isDic = true) : ∃ a kvs ks, x = .dic kvs ∧ v = .ref a ∧ Rd w.H a (.dK ks) ∧ RelKs g w kvs ks := by
  cases x <;> simp [D.isDic] at k
  rename_i kvs
  obtain ⟨a, ks, e1, e2, e3⟩ := h.dic
  exact ⟨a, kvs, ks, rfl, e1, e2, e3⟩
theorem getD_rel {w : Wd} {kvs : List (Ky × D)} {ks : List (Key × V)} {k : Ky} {x : D} {v : V} (h : RelKs g w kvs ks) (hx : RelD g w x v) : RelD g w ((dget kvs k).getD x) ((valV ks k).getD v) := by
  have := relKs_get k h
  cases e1 : dget kvs k with
  | none =>
    cases e2 : valV ks k with
    | none => exact hx
    | some u => rw [e1, e2] at this; exact this.elim
  | some y =>
    cases e2 : valV ks k with
    | none => rw [e1, e2] at this; exact this.elim
    | some u => rw [e1, e2] at this; exact this
theorem sn_get1 {o e : Expr} {i j : E} {apos cpos : Pos} (hu : X.A.units + 1 < cLine) (ho : PE X o (rdE g gx Wx i)) (he : PE X e (rdE g gx Wx j)) (m : M1 X o "get" apos e cpos) : PE X (.Call (.Attribute o "get" apos) [e] [] cpos) (rdE g gx Wx (.mt .get i (.cons j .nil))) := by
  refine (pe_dget1 hu ho he m).imp fun σ H Q q => ?_
  obtain ⟨C0, am, st, env, s, hR, hF⟩ := q
  simp only [ev, evX] at hF
  refine ⟨C0, am, st, env, s, hR, hF.bind fun x s1 e1 v1 H1 st1 hS1 hX1 hr1 h1 => ?_⟩
  obtain ⟨dx, ex, h1⟩ := vw_fin h1
  split at h1
  · rename_i hd
    obtain ⟨a, kvs0, ks0, -, ea, hk0, -⟩ := isDic_rel (view_rel hS1 hr1 ex) hd
    refine ⟨a, ea, .inl ⟨ks0, hk0⟩, C0, am, st1, env, s1, hR.at_ hS1 hX1, ?_⟩
    rw [r_assoc] at h1
    refine h1.esc fun d2 v2 H2 st2 s2 hS2 hX2 hd2 h2 => ?_
    obtain ⟨dy, ey, h2⟩ := vw_fin (k := fun x => tell (mtD .get x [d2]) s2) h2
    obtain ⟨d, ed, h2⟩ := tell_fin h2
    have hb := view_rel hS2 (hr1.ext hX2) ey
    cases dy with
    | dic kvs =>
      simp only [mtD] at ed
      cases ek : keyK d2 with
      | none => rw [ek] at ed; cases ed
      | some k =>
        rw [ek] at ed
        cases ed
        obtain ⟨b, ks, e3, h3, h4⟩ := hb.dic
        rw [ea] at e3
        cases e3
        have e4 := keyK_rel (.inl hd2) ek
        subst e4
        exact ⟨valV ks k, .inl ⟨ks, k, h3, rfl, rfl⟩, (Tell.of h2).val hS2 (getD_rel h4 relD_non)⟩
    | _ => simp [mtD] at ed
  · exact h1.elim
theorem sn_get2 {o e f : Expr} {i j k : E} {apos cpos : Pos} (hu : X.A.units + 1 < cLine) (ho : PE X o (rdE g gx Wx i)) (he : PE X e (rdE g gx Wx j)) (hf : PE X f (rdE g gx Wx k)) (m : M2 X o "get" apos e f cpos) :
    PE X (.Call (.Attribute o "get" apos) [e, f] [] cpos) (rdE g gx Wx (.mt .get i (.cons j (.cons k .nil)))) := by
  refine (pe_dget2 hu ho he hf m).imp fun σ H Q q => ?_
  obtain ⟨C0, am, st, env, s, hR, hF⟩ := q
  simp only [ev, evX] at hF
  refine ⟨C0, am, st, env, s, hR, hF.bind fun x s1 e1 v1 H1 st1 hS1 hX1 hr1 h1 => ?_⟩
  obtain ⟨dx, ex, h1⟩ := vw_fin h1
  split at h1
  · rename_i hd
    obtain ⟨a, kvs0, ks0, -, ea, hk0, -⟩ := isDic_rel (view_rel hS1 hr1 ex) hd
    refine ⟨a, ea, .inl ⟨ks0, hk0⟩, C0, am, st1, env, s1, hR.at_ hS1 hX1, ?_⟩
    rw [r_assoc] at h1
    refine h1.esc fun d2 v2 H2 st2 s2 hS2 hX2 hd2 h2 => ?_
    rw [r_assoc, r_assoc] at h2
    refine ⟨C0, am, st2, env, s2, (hR.at_ hS1 hX1).at_ hS2 hX2, h2.esc fun d3 v3 H3 st3 s3 hS3 hX3 hd3 h3 => ?_⟩
    obtain ⟨dy, ey, h3⟩ := vw_fin (k := fun x => tell (mtD .get x [d2, d3]) s3) h3
    obtain ⟨d, ed, h3⟩ := tell_fin h3
    have hb := view_rel hS3 ((hr1.ext hX2).ext hX3) ey
    cases dy with
    | dic kvs =>
      simp only [mtD] at ed
      cases ek : keyK d2 with
      | none => rw [ek] at ed; cases ed
      | some k =>
        rw [ek] at ed
        cases ed
        obtain ⟨b, ks, e3, h4, h5⟩ := hb.dic
        rw [ea] at e3
        cases e3
        have e4 := keyK_rel (.inl hd2) ek
        subst e4
        exact ⟨valV ks k, .inl ⟨ks, k, h4, rfl, rfl⟩, (Tell.of h3).val hS3 (getD_rel h5 hd3)⟩
    | _ => simp [mtD] at ed
  · exact h1.elim
end
end Us
end

section
set_option Elab.async false
set_option linter.all false
set_option maxRecDepth 100000
set_option maxHeartbeats 1000000
/-! Us.Bnd: how positional and keyword arguments come to plain parameters. -/
namespace Us
open PySem
/-- plain parameters, no defaults -/
structure Plain (fd : FuncData) (ns : List Str) : Prop where
  po : fd.params.posonlyargs = []
  ar : fd.params.args.map (·.arg) = ns
  va : fd.params.vararg = none
  ko : fd.params.kwonlyargs = []
  kw : fd.params.kwarg = none
  df : fd.defaults = .none
def goodKw (ns : List Str) : List (Str × Value) → List (Str × Value) → Prop
  | _, [] => True
  | sl, (k, v) :: r => ns.contains k = true ∧ (sl.lookup k).isSome = false ∧ goodKw ns (sl ++ [(k, v)]) r
theorem loop_good {ns : List Str} {α : Type} {F : Str × Value → List (Str × Value) × α → Sem (ForInStep (List (Str × Value) × α))}
    (hF : ∀ k v e sl, ns.contains k = true → (sl.lookup k).isSome = false → F (k, v) (sl, e) = pure (.yield (sl ++ [(k, v)], e))) :
    ∀ (kw sl : List (Str × Value)) (e : α), goodKw ns sl kw → forIn kw (sl, e) F = pure (sl ++ kw, e)
  | [], sl, e, _ => by simp
  | (k, v) :: r, sl, e, h => by
    rw [List.forIn_cons, hF k v e sl h.1 h.2.1]
    simp only [pure_bind]
    rw [loop_good hF r (sl ++ [(k, v)]) e h.2.2, List.append_assoc]
    rfl
theorem bind_plain {fd : FuncData} {ns : List Str} (P : Plain fd ns) (us : List Value) (kw : List (Str × Value)) (hl : us.length ≤ ns.length) (hk : goodKw ns (ns.zip us) kw) (hall : ∀ n ∈ ns, ((ns.zip us ++ kw).lookup n).isSome = true) :
    bindArgs fd ⟨us, kw⟩ = pure (ns.filterMap fun n => ((ns.zip us ++ kw).lookup n).map (n, ·)) := by
  unfold bindArgs
  simp only [P.po, P.ar, P.va, P.ko, P.kw, P.df, List.map_nil, List.nil_append]
  rw [loop_good (ns := ns) (fun k v e sl h1 h2 => ?_) kw (ns.zip us) [] hk]
  · simp only [pure_bind]
    have e1 : seqItems? Value.none = pure none := rfl
    rw [e1]
    simp only [pure_bind]
    have e2 : (decide (us.length > ns.length) && (none : Option Arg).isNone) = false := by
      rw [Bool.and_eq_false_iff]
      exact .inl (decide_eq_false (by omega))
    have e3 : ∀ l : List Str, (∀ n ∈ l, n ∈ ns) → l.filter (fun n => (List.lookup n (ns.zip us ++ kw)).isNone) = [] := fun l hl' => by
      rw [List.filter_eq_nil_iff]
      intro n hn
      have := hall n (hl' n hn)
      cases e : List.lookup n (ns.zip us ++ kw) with
      | none => rw [e] at this; cases this
      | some v => simp
    have e4 : ((none : Option (Array Value)).getD #[]).toList = [] := rfl
    rw [e2]
    simp only [e4, Bool.false_eq_true, if_false, List.drop_nil, List.length_nil, Nat.sub_zero, List.take_length, e3 ns (fun _ h => h), List.isEmpty_nil, Bool.not_true, List.drop_length, List.zip_nil_left, List.forIn_nil, pure_bind, List.append_nil]
  · simp only [h1, h2, Bool.true_or, if_true, Bool.false_eq_true, if_false]
theorem lookup_none {ns : List Str} {us : List Value} {n : Str} (h : n ∉ ns) : (ns.zip us).lookup n = none := by
  induction ns generalizing us with
  | nil => rfl
  | cons m ns ih =>
    cases us with
    | nil => rfl
    | cons u us =>
      rw [List.mem_cons, not_or] at h
      rw [List.zip_cons_cons, List.lookup_cons]
      have : (n == m) = false := by simpa using h.1
      rw [this]
      exact ih h.2
theorem lookup_at {ns : List Str} {us : List Value} (hn : ns.Nodup) {j : Nat} {n : Str} {v : Value} (h1 : ns[j]? = some n) (h2 : us[j]? = some v) : (ns.zip us).lookup n = some v := by
  induction ns generalizing us j with
  | nil => simp at h1
  | cons m ns ih =>
    cases us with
    | nil => simp at h2
    | cons u us =>
      obtain ⟨a, b⟩ := List.nodup_cons.mp hn
      rw [List.zip_cons_cons, List.lookup_cons]
      cases j with
      | zero =>
        simp only [List.getElem?_cons_zero, Option.some.injEq] at h1 h2
        subst h1
        subst h2
        simp
      | succ j =>
        simp only [List.getElem?_cons_succ] at h1 h2
        have hne : (n == m) = false := by
          have : n ≠ m := fun e => a (e ▸ List.mem_of_getElem? h1)
          simpa using this
        rw [hne]
        exact ih b h1 h2
theorem zip_of {f : Str → Option Value} : ∀ {ns : List Str} {us : List Value}, us.length = ns.length → (∀ (j : Nat) n v, ns[j]? = some n → us[j]? = some v → f n = some v) → (ns.filterMap fun n => (f n).map (n, ·)) = ns.zip us
  | [], us, _, _ => rfl
  | n :: ns, [], h, _ => by simp at h
  | n :: ns, u :: us, h, k => by
    have e := k 0 n u rfl rfl
    rw [List.filterMap_cons, e]
    simp only [Option.map_some, List.zip_cons_cons]
    rw [zip_of (by simpa using h) fun j m v h1 h2 => k (j + 1) m v (by simpa using h1) (by simpa using h2)]
/-- all by position -/
theorem bind_pos {fd : FuncData} {ns : List Str} (P : Plain fd ns) (hn : ns.Nodup) (us : List Value) (hl : us.length = ns.length) : bindArgs fd ⟨us, []⟩ = pure (ns.zip us) := by
  have at_ : ∀ (j : Nat) n v, ns[j]? = some n → us[j]? = some v → (ns.zip us ++ []).lookup n = some v := fun j n v h1 h2 => by
    rw [List.append_nil]
    exact lookup_at hn h1 h2
  rw [bind_plain P us [] (by omega) trivial fun n h => ?_, zip_of hl at_]
  obtain ⟨j, hj, e⟩ := List.mem_iff_getElem.mp h
  rw [at_ j n (us[j]'(by omega)) (by rw [List.getElem?_eq_getElem hj, e]) (List.getElem?_eq_getElem _)]
  rfl
theorem good_zip {ns : List Str} : ∀ {ks : List Str} {ws : List Value} {sl : List (Str × Value)}, ks.Nodup → (∀ k ∈ ks, k ∈ ns) → (∀ k ∈ ks, sl.lookup k = none) → goodKw ns sl (ks.zip ws)
  | [], ws, sl, _, _, _ => trivial
  | k :: ks, [], sl, _, _, _ => trivial
  | k :: ks, w :: ws, sl, h1, h2, h3 => by
    obtain ⟨a, b⟩ := List.nodup_cons.mp h1
    refine ⟨by simpa using h2 k List.mem_cons_self, by rw [h3 k List.mem_cons_self]; rfl, good_zip b (fun z hz => h2 z (List.mem_cons_of_mem _ hz)) fun z hz => ?_⟩
    rw [List.lookup_append, h3 z (List.mem_cons_of_mem _ hz)]
    have : (z == k) = false := by
      have : z ≠ k := fun e => a (e ▸ hz)
      simpa using this
    simp [List.lookup_cons, this]
/-- all by name: the j-th parameter is the p[j]-th keyword -/
theorem bind_kws {fd : FuncData} {ns ks : List Str} {p : List Nat} (P : Plain fd ns) (hk : ks.Nodup) (hp : p.length = ns.length) (hks : ∀ k ∈ ks, k ∈ ns) (hj : ∀ (j m : Nat) n, ns[j]? = some n → p[j]? = some m → ks[m]? = some n) (ws us : List Value) (hw : ws.length = ks.length)
    (hu : us.length = ns.length) (hus : ∀ (j m : Nat), p[j]? = some m → us[j]? = ws[m]?) : bindArgs fd ⟨[], ks.zip ws⟩ = pure (ns.zip us) := by
  have at_ : ∀ (j : Nat) n v, ns[j]? = some n → us[j]? = some v → (ns.zip [] ++ ks.zip ws).lookup n = some v := fun j n v h1 h2 => by
    have hjl : j < p.length := by rw [hp]; exact (List.getElem?_eq_some_iff.mp h1).1
    have e := List.getElem?_eq_getElem hjl
    rw [List.zip_nil_right, List.nil_append]
    refine lookup_at hk (hj j _ n h1 e) ?_
    rw [← hus j _ e]
    exact h2
  rw [bind_plain P [] _ (Nat.zero_le _) (good_zip hk hks fun k _ => by rw [List.zip_nil_right]; rfl) fun n h => ?_, zip_of hu at_]
  obtain ⟨j, hj, e⟩ := List.mem_iff_getElem.mp h
  rw [at_ j n (us[j]'(by omega)) (by rw [List.getElem?_eq_getElem hj, e]) (List.getElem?_eq_getElem _)]
  rfl
end Us
end

section
set_option Elab.async false
set_option linter.all false
set_option maxRecDepth 100000
set_option maxHeartbeats 1000000
/-! Us.Snd9: calls of defs. -/
namespace Us
open PySem PySem.Spec PyProof.Rows L2
/-! ### the same but for what a slot may hold -/
structure Same (g g' : Gp) : Prop where
  K : g.K = g'.K
  fa : g.fa = g'.fa
  fld : g.fld = g'.fld
  ca : g.ca = g'.ca
  kc : g.kc = g'.kc
  T : g.T = g'.T
theorem Same.symm {g g' : Gp} (h : Same g g') : Same g' g := ⟨h.K.symm, h.fa.symm, h.fld.symm, h.ca.symm, h.kc.symm, h.T.symm⟩
section
variable {g g' : Gp} {w : Wd}
mutual
theorem Same.relD (h : Same g g') : ∀ (x : D) (v : V), RelD g w x v → RelD g' w x v
  | .non, v, r => by simpa [RelD] using r
  | .bl b, v, r => by simpa [RelD] using r
  | .int i, v, r => by simpa [RelD] using r
  | .str x, v, r => by simpa [RelD] using r
  | .tup xs, v, r => by
    simp only [RelD] at r ⊢
    obtain ⟨a, vs, e1, e2, e3⟩ := r
    exact ⟨a, vs, e1, by rw [← h.K]; exact e2, Same.relDs h xs vs e3⟩
  | .lst xs, v, r => by
    simp only [RelD] at r ⊢
    obtain ⟨a, vs, e1, n, e2, e3⟩ := r
    exact ⟨a, vs, e1, n, e2, Same.relDs h xs vs e3⟩
  | .dic kvs, v, r => by
    simp only [RelD] at r ⊢
    obtain ⟨a, vs, e1, n, e2, e3⟩ := r
    exact ⟨a, vs, e1, n, e2, Same.relKs h kvs vs e3⟩
  | .fn f, v, r => by
    simp only [RelD] at r ⊢
    rw [← h.fa]; exact r
  | .stm, v, r => by simpa [RelD] using r
  | .scr cs, v, r => by
    simp only [RelD] at r ⊢
    rw [← h.K]; exact r
theorem Same.relDs (h : Same g g') : ∀ (xs : List D) (vs : List V), RelDs g w xs vs → RelDs g' w xs vs
  | [], vs, r => by simpa [RelDs] using r
  | x :: xs, vs, r => by
    simp only [RelDs] at r ⊢
    obtain ⟨v, q, e1, e2, e3⟩ := r
    exact ⟨v, q, e1, Same.relD h x v e2, Same.relDs h xs q e3⟩
theorem Same.relKs (h : Same g g') : ∀ (xs : List (Ky × D)) (vs : List (Key × V)), RelKs g w xs vs → RelKs g' w xs vs
  | [], vs, r => by simpa [RelKs] using r
  | (k, x) :: xs, vs, r => by
    simp only [RelKs] at r ⊢
    obtain ⟨v, q, e1, ek, e2, e3⟩ := r
    exact ⟨v, q, e1, ek, Same.relD h x v e2, Same.relKs h xs q e3⟩
end
theorem Same.relC (h : Same g g') {x : D} {o : HO} (r : RelC g w x o) : RelC g' w x o := by
  cases x with
  | lst xs =>
    obtain ⟨vs, e1, e2⟩ := r
    exact ⟨vs, e1, h.relDs xs vs e2⟩
  | dic kvs =>
    obtain ⟨vs, e1, e2⟩ := r
    exact ⟨vs, e1, h.relKs kvs vs e2⟩
  | _ => exact r
theorem Same.relW (h : Same g g') {am : List Addr} {x : W} {v : V} (r : RelW g am w x v) : RelW g' am w x v := by
  cases x with
  | d x => exact h.relD x v r
  | ref n => exact r
  | _ => exact r
theorem Same.relWs (h : Same g g') {am : List Addr} : ∀ {xs : List W} {vs : List V}, RelWs g am w xs vs → RelWs g' am w xs vs
  | [], vs, r => r
  | x :: xs, vs, r => by
    obtain ⟨v, q, e1, e2, e3⟩ := r
    exact ⟨v, q, e1, h.relW e2, h.relWs e3⟩
theorem Same.relS (h : Same g g') {C0 : Pin} {am : List Addr} {st : Option (Addr × Addr)} {H : Hp} {s : S} (r : RelS g C0 am st H s) : RelS g' C0 am st H s :=
  ⟨r.len, r.c0, fun n x a h1 h2 => let ⟨o, h3, h4⟩ := r.live n x a h1 h2; ⟨o, h3, h.relC h4⟩, fun n x a h1 h2 => h.relD _ _ (r.dead n x a h1 h2), r.apart, r.out, r.stm, by rw [← h.T]; exact r.tb⟩
theorem Same.relX (h : Same g g') {c : Nat} {x : D} {cls : Value} {d : Option Addr} (r : RelX g w c x cls d) : RelX g' w c x cls d := by
  obtain ⟨h1, hk, dx, u, h2, h3, h4⟩ := r
  exact ⟨by rw [← h.ca]; exact h1, by rw [← h.kc]; exact hk, dx, u, h2, by rw [← h.fld]; exact h3, h.relD _ _ h4⟩
theorem Same.finD (h : Same g g') {C0 : Pin} {am : List Addr} {Wx : WX} {σ : L2.St} {r : R D} {Q : V → Hp → Prop} (q : Fin g C0 am (RelD g) Wx σ w r Q) : Fin g' C0 am (RelD g') Wx σ w r Q := by
  cases r with
  | ok a s' => exact fun b H' st' h1 h2 h3 => q b H' st' (h.symm.relS h1) h2 (h.symm.relD _ _ h3)
  | exc c x s' => exact fun cls d H' st' h1 h2 h3 => q cls d H' st' (h.symm.relS h1) h2 (h.symm.relX h3)
  | bad => exact q
end
/-- a def's promise: what the executor's call tells -/
def spOf (g : Gp) (gx : G) (f n : Nat) : Sp := fun vs H Q E => ∃ C0 am st ws s, ws.length = n ∧ PinF C0 ∧ RelS g C0 am st H s ∧ RelWs g am (wdOf C0 am st H s) ws vs ∧ Fin g C0 am (RelD g) (fun cls d _ H => E cls d H) [] (wdOf C0 am st H s) (gx.call f ws s) Q
theorem spOf_len {g : Gp} {gx : G} {f n : Nat} : ∀ vs H Q E, spOf g gx f n vs H Q E → vs.length = n := fun vs H Q E h => by
  obtain ⟨C0, am, st, ws, s, e, _, _, h2, _⟩ := h
  rw [h2.length, e]
/-- the def f with the parameters ps is at hand, one level down -/
structure Callee (X : Cx) (g0 : Gp) (gx : G) (k f : Nat) (ps : List Str) : Prop where
  ex : ∃ fd : FuncData, FnOk X.prog X.w X.K X.mg X.base (L2.CX X.prog X.w) k (g0.fa f) fd ps (spOf g0 gx f ps.length) ∧ Plain fd ps
  nd : ps.Nodup
  keep : PySem.W.keepIn X.K (.ref (g0.fa f)) = true
theorem Plain.binds {fd : FuncData} {ps : List Str} {K : PySem.W.Frag} (P : Plain fd ps) (hn : ps.Nodup) : Binds K fd ps [] := .all fun us hl => bind_pos P hn us hl
section
variable {X : Cx} {g g0 : Gp} {gx : G} {Wx : WX} {C0 : Pin} {am : List Addr} {σ : L2.St} {st : Option (Addr × Addr)} {H : Hp} {s : S} {env : Us.Env} {w w1 : Wd} {Q : V → Hp → Prop}
theorem sa_nil : PA X [] (rdA g gx Wx .nil) := by
  refine pa_nil.imp fun σ H Q q => ?_
  obtain ⟨C0, am, st, env, s, hR, hF⟩ := q
  simp only [evs] at hF
  exact hF [] H st hR.cells (Ext.refl _) rfl
theorem sa_cons {e : Expr} {es : List Expr} {i : E} {is : Es} (ha : PE X e (rdE g gx Wx i)) (hr : PA X es (rdA g gx Wx is)) (hs : NoStar e) : PA X (e :: es) (rdA g gx Wx (.cons i is)) := by
  refine (pa_cons ha hr (hs _ _)).imp fun σ H Q q => ?_
  obtain ⟨C0, am, st, env, s, hR, hF⟩ := q
  simp only [evs] at hF
  refine ⟨C0, am, st, env, s, hR, hF.bind fun x s1 e1 v H1 st1 hS1 hX1 hr1 h1 => ?_⟩
  refine ⟨C0, am, st1, env, s1, hR.at_ hS1 hX1, h1.bind fun xs s2 e2 vs H2 st2 hS2 hX2 hr2 h2 => ?_⟩
  exact h2 (v :: vs) H2 st2 hS2 (Ext.refl _) ⟨v, vs, rfl, hr1.ext hX2, hr2⟩
theorem evs_len : ∀ (es : Es) (env : Us.Env) (s : S) (xs : List W) (s' : S), evs gx es env s = .ok xs s' → xs.length = es.len
  | .nil, env, s, xs, s', h => by
    simp only [evs] at h
    cases h
    rfl
  | .cons e es, env, s, xs, s', h => by
    simp only [evs] at h
    obtain ⟨d, s1, e1, h⟩ := bind_ok h
    obtain ⟨ys, s2, e2, h⟩ := bind_ok h
    cases h
    simp [Es.len, evs_len es env s1 ys _ e2]
theorem Callee.run {k f : Nat} {ps : List Str} (F : Callee X g0 gx k f ps) (hr : Room k X.A) (tk : Takes X Wx) {pins : List (Addr × Obj)} {s' : Shared} {us : List Value} {vs : List V} (I : Inv X pins σ H s') (r : Vals vs us) (h : spOf g0 gx f ps.length vs H Q (WE Wx σ)) :
    wpAny (model X.prog X.w) X.A (call (.ref (g0.fa f)) us) (EP X pins σ Q) X.xe s' := by
  obtain ⟨fd, ok, hb⟩ := F.ex
  exact run_fnS ok hr (hb.binds F.nd) (passAt tk σ) I r h
theorem call_in {f n : Nat} {is : Es} (hg : Same g g0) (hl : is.len = n) (hR : Rel g C0 am st env s σ H) (hF : Fin g C0 am (RelW g am) Wx σ (wdOf C0 am st H s) ((evs gx is env s).bind fun ws s => W.data (gx.call f ws s)) Q) :
    rdA g gx Wx is σ H fun vs H1 => spOf g0 gx f n vs H1 Q (WE Wx σ) := by
  refine ⟨C0, am, st, env, s, hR, hF.bind fun ws s1 e1 vs H1 st1 hS1 hX1 hr1 h1 => ?_⟩
  exact ⟨C0, am, st1, ws, s1, (evs_len is env s ws s1 e1).trans hl, hR.pf, hg.relS hS1, hg.relWs hr1, hg.finD h1.data⟩
theorem sn_call {k f : Nat} {ps : List Str} {x : Str} {e : Expr} {es : List Expr} {is : Es} {p pos : Pos} (F : Callee X g0 gx k f ps) (hg0 : Same g g0) (hr : Room k X.A) (tk : Takes X Wx) (hg : Gl X x) (hm : X.mg x = some (.ref (g0.fa f))) (hdb : (x == ("__debug__" : Str)) = false)
    (ha : PA X (e :: es) (rdA g gx Wx is)) (hl : is.len = ps.length) (hs : NoStar e) (hpl : (backTo pos (starEach es X.env)).any (·.1) = false) : PE X (.Call (.Name x p) (e :: es) [] pos) (rdE g gx Wx (.call f is)) := by
  refine ⟨fun pins s' σ H Q I q => ?_⟩
  obtain ⟨C0, am, st, env, s, hR, hF⟩ := q
  simp only [ev] at hF
  refine wpAny_Call_Name_kw (ld_glob I hg hm ?_ hdb)
  refine PySem.W.callWith_K (h₀ := X.base) I.ok.mod.kin F.keep (thn (ha.run pos pins s' σ H _ I (call_in hg0 hl hR hF)) fun us s1 ⟨vs, H1, I1, r, q⟩ => ⟨I1.kIn, ?_⟩) (hs _ _) hpl
  exact F.run hr tk I1 r q
theorem sn_call0 {k f : Nat} {x : Str} {p pos : Pos} (F : Callee X g0 gx k f []) (hg0 : Same g g0) (hr : Room k X.A) (tk : Takes X Wx) (hg : Gl X x) (hm : X.mg x = some (.ref (g0.fa f))) (hdb : (x == ("__debug__" : Str)) = false) :
    PE X (.Call (.Name x p) [] [] pos) (rdE g gx Wx (.call f .nil)) := by
  refine ⟨fun pins s' σ H Q I q => ?_⟩
  obtain ⟨C0, am, st, env, s, hR, hF⟩ := q
  simp only [ev] at hF
  refine wpAny_Call_Name_kw (ld_glob I hg hm ?_ hdb)
  simp only [evs, R.bind] at hF
  exact PySem.W.callWith_K0 I.kIn F.keep (F.run hr tk (us := []) (vs := []) I .nil ⟨C0, am, st, [], s, rfl, hR.pf, hg0.relS hR.cells, rfl, hg0.finD (Fin.data (r := gx.call f [] s) hF)⟩)
/-- the slot i's def is called -/
theorem sn_callv {k i : Nat} {x : Str} {e : Expr} {es : List Expr} {is : Es} {p pos : Pos} (F : ∀ f n, gx.ar f = some n → ∃ ps : List Str, ps.length = n ∧ Callee X g0 gx k f ps) (hg0 : Same g g0) (hr : Room k X.A) (tk : Takes X Wx)
    (hN : X.N[i]? = some x) (hv : Vis X.env.scope x) (hdb : (x == ("__debug__" : Str)) = false) (hcd : (x == ("__classdict__" : Str)) = false)
    (ha : PA X (e :: es) (rdA g gx Wx is)) (hs : NoStar e) (hpl : (backTo pos (starEach es X.env)).any (·.1) = false) (hc : is ≠ .nil) : PE X (.Call (.Name x p) (e :: es) [] pos) (rdE g gx Wx (.callv i is)) := by
  refine ⟨fun pins s' σ H Q I q => ?_⟩
  obtain ⟨C0, am, st, env, s, hR, hF⟩ := q
  simp only [ev] at hF
  cases e0 : env[i]? with
  | none => rw [e0] at hF; exact hF.elim
  | some o =>
    rw [e0] at hF
    cases o with
    | none => exact hF.elim
    | some w =>
      cases w with
      | ref m => exact hF.elim
      | exc c y => exact hF.elim
      | lam b env' =>
        cases is with
        | nil => exact (hc rfl).elim
        | cons _ _ => exact hF.elim
      | d x' =>
        cases x' with
        | fn f =>
          obtain ⟨v, e1, r1⟩ := hR.slots.at_ i _ e0
          have ev : v = .ref (g.fa f) := by
            have : RelD g (wdOf C0 am st H s) (.fn f) v := r1
            simpa [RelD] using this
          subst ev
          rw [hg0.fa] at e1
          have hF0 : Fin g C0 am (RelW g am) Wx σ (wdOf C0 am st H s) (if gx.ar f = some is.len ∧ is.len ≠ 0 then (evs gx is env s).bind fun ws s => W.data (gx.call f ws s) else .bad) Q := hF
          by_cases ea : gx.ar f = some is.len ∧ is.len ≠ 0
          · rw [if_pos ea] at hF0
            obtain ⟨ps, epl, F1⟩ := F f _ ea.1
            refine wpAny_Call_Name_kw (thn ((pe_var (pos := p) hN hv hdb hcd).run pins s' σ H (fun v H1 => v = .ref (g0.fa f) ∧ H1 = H) I ⟨_, e1, rfl, rfl⟩) fun u s1 ⟨v, H1, I1, rr, q1⟩ => ?_)
            obtain ⟨rfl, rfl⟩ := q1
            obtain rfl : u = Value.ref (g0.fa f) := rr
            refine PySem.W.callWith_K (h₀ := X.base) I1.ok.mod.kin F1.keep (thn (ha.run pos pins s1 σ _ _ I1 (call_in hg0 epl.symm hR hF0)) fun us s2 ⟨vs, H2, I2, r, q⟩ => ⟨I2.kIn, ?_⟩) (hs _ _) hpl
            exact F1.run hr tk I2 r q
          · rw [if_neg ea] at hF0
            exact hF0.elim
        | _ => exact hF.elim
end
end Us
end

section
set_option Elab.async false
set_option linter.all false
set_option maxRecDepth 100000
set_option maxHeartbeats 1000000
/-! Us.Snd10: what a for walks. -/
namespace Us
open PySem PySem.Spec PyProof.Rows L2
/-- more is pinned -/
def PinLe (C0 C1 : Pin) : Prop := ∀ a b o, C0 a = some (b, o) → C1 a = some (b, o)
theorem PinLe.refl (C0 : Pin) : PinLe C0 C0 := fun _ _ _ h => h
theorem PinLe.add {C0 : Pin} {p : Addr} {b : Bool} {o : HO} (h : C0 p = none) : PinLe C0 (addP C0 p b o) := fun a b' o' e => by
  rw [addP_ne (fun z => by rw [z, h] at e; cases e)]
  exact e
/-- the iterator J walks the data xs, at every later state of this frame -/
structure Walk (g : Gp) (C0 : Pin) (w : Wd) (J : L2.It) (xs : List D) : Prop where
  go : ∀ C1 am st H s i, PinLe C0 C1 → RelS g C1 am st H s → Ext w (wdOf C1 am st H s) → i < xs.length → J.go i H
  yld : ∀ C1 am st H s i x H', PinLe C0 C1 → RelS g C1 am st H s → Ext w (wdOf C1 am st H s) → i < xs.length → J.yld i H x H' → (∀ b u, H b = some u → H' b = some u) ∧ ∃ d, xs[i]? = some d ∧ RelD g (wdOf C1 am st H' s) d x
  stop : ∀ C1 am st H s i, PinLe C0 C1 → RelS g C1 am st H s → Ext w (wdOf C1 am st H s) → i = xs.length → J.stop i H
theorem Walk.ext {g : Gp} {C0 : Pin} {w w' : Wd} {J : L2.It} {xs : List D} (h : Walk g C0 w J xs) (e : Ext w w') : Walk g C0 w' J xs :=
  ⟨fun C1 am st H s i l h1 h2 => h.go C1 am st H s i l h1 (e.trans h2), fun C1 am st H s i x H' l h1 h2 => h.yld C1 am st H s i x H' l h1 (e.trans h2), fun C1 am st H s i l h1 h2 => h.stop C1 am st H s i l h1 (e.trans h2)⟩
/-- a dict that is walked by its name stands still -/
def Still (C0 : Pin) (env : Us.Env) (s : S) (σ : L2.St) (i : Nat) : Prop :=
  ∀ kvs, env[i]? = some (some (.d (.dic kvs))) → ∃ a b o ks, σ[i]? = some (some (.ref a)) ∧ C0 a = some (b, .frz o (.dK ks))
def stillIt (C0 : Pin) (env : Us.Env) (s : S) (σ : L2.St) : Us.It → Prop
  | .e (.var i) => Still C0 env s σ i
  | .items (.var i) => Still C0 env s σ i
  | _ => True
def rdI (g : Gp) (gx : G) (Wx : WX) (it : Us.It) : TI := fun σ H R => ∃ C0 am st env s, Rel g C0 am st env s σ H ∧ stillIt C0 env s σ it ∧ Fin g C0 am (fun w xs J => Walk g C0 w J xs) Wx σ (wdOf C0 am st H s) (evIt gx it env s) R
section
variable {X : Cx} {g g0 : Gp} {gx : G} {Wx : WX} {C0 : Pin} {am : List Addr} {σ : L2.St} {st : Option (Addr × Addr)} {H : Hp} {s : S} {env : Us.Env} {w w1 : Wd}
theorem esc_ok {r : R W} {d : D} {s' : S} (h : r.bind esc = .ok d s') : ∃ x s1, r = .ok x s1 ∧ esc x s1 = .ok d s' := bind_ok h
theorem Fin.escE {r : R W} {α γ : Type} {rel2 : Wd → α → γ → Prop} {k : D → S → R α} {Q : γ → Hp → Prop} {Q1 : V → Hp → Prop} (h : Fin g C0 am rel2 Wx σ w ((r.bind Us.esc).bind k) Q)
    (hk : ∀ d v H' st' s', r.bind Us.esc = .ok d s' → RelS g C0 am st' H' s' → Ext w (wdOf C0 am st' H' s') → RelD g (wdOf C0 am st' H' s') d v → Fin g C0 am rel2 Wx σ (wdOf C0 am st' H' s') (k d s') Q → Q1 v H') : Fin g C0 am (RelW g am) Wx σ w r Q1 := by
  have e : (r.bind Us.esc).bind k = r.bind fun x s => (Us.esc x s).bind k := by cases r <;> rfl
  rw [e] at h
  refine h.bind fun x s1 e1 v1 H1 st1 hS1 hX1 hr1 h1 => ?_
  cases e2 : Us.esc x s1 with
  | bad => rw [e2] at h1; exact h1.elim
  | exc c y s2 => cases x <;> simp only [Us.esc] at e2 <;> first | cases e2 | (split at e2 <;> cases e2)
  | ok d s2 =>
    rw [e2] at h1
    obtain ⟨a1, a2, a3⟩ := esc_rel hS1 hr1 e2
    exact hk d v1 H1 st1 s2 (by rw [e1]; exact e2) a1 (hX1.trans a2) a3 (h1.ext a2)
/-! ### lists, tuples, texts -/
theorem walk_list {a : Addr} {xs : List D} (hK : X.K = g.K) (h : RelD g w (.lst xs) (.ref a)) : Walk g C0 w (Itl X.K a) xs := by
  simp only [RelD] at h
  obtain ⟨b, vs, e, n, h1, h2⟩ := h
  cases e
  have at_ : ∀ {C1 : Pin} am st H s, Ext w (wdOf C1 am st H s) → H a = some (.lst vs) := fun {C1} am st H s e => e.ls a vs h1 n
  refine ⟨fun C1 am st H s i _ _ e hi => ?_, fun C1 am st H s i x H' _ _ e hi hy => ?_, fun C1 am st H s i _ _ e hi => ?_⟩
  · have hi' : i < vs.length := by rw [h2.length]; exact hi
    exact ⟨vs, vs[i], .inl (.inl (at_ am st H s e)), List.getElem?_eq_getElem hi'⟩
  · obtain ⟨eH, hx⟩ := hy
    subst eH
    have hx := hx vs (.inl (.inl (at_ am st _ s e)))
    obtain ⟨d, e1, e2⟩ := (RelDs.ext e _ _ h2).get' hx
    exact ⟨fun b u q => q, d, e1, e2⟩
  · exact ⟨vs, .inl (.inl (at_ am st H s e)), by rw [h2.length]; exact Nat.le_of_eq hi.symm⟩
theorem walk_tup {v : V} {xs : List D} (hK : X.K = g.K) (h : RelD g w (.tup xs) v) : ∃ a, v = .ref a ∧ (∃ vs, SqT X.K w.H a vs) ∧ Walk g C0 w (Itt X.K a) xs := by
  simp only [RelD] at h
  obtain ⟨a, vs, e, h1, h2⟩ := h
  subst e
  have at_ : ∀ {C1 : Pin} am st H s, Ext w (wdOf C1 am st H s) → SqT X.K H a vs := fun {C1} am st H s e => by rw [hK]; exact e.sqT h1
  refine ⟨a, rfl, ⟨vs, by rw [hK]; exact h1⟩, fun C1 am st H s i _ _ e hi => ?_, fun C1 am st H s i x H' _ _ e hi hy => ?_, fun C1 am st H s i _ _ e hi => ?_⟩
  · have hi' : i < vs.length := by rw [h2.length]; exact hi
    exact ⟨vs, vs[i], at_ am st H s e, List.getElem?_eq_getElem hi'⟩
  · obtain ⟨eH, hx⟩ := hy
    subst eH
    have hx := hx vs (at_ am st _ s e)
    obtain ⟨d, e1, e2⟩ := (RelDs.ext e _ _ h2).get' hx
    exact ⟨fun b u q => q, d, e1, e2⟩
  · exact ⟨vs, at_ am st H s e, by rw [h2.length]; exact Nat.le_of_eq hi.symm⟩
theorem walk_str {x : Str} (h : PyData.strOk x = true) : Walk g C0 w (Its x) (x.cps.toList.map fun c => .str ⟨#[c]⟩) := by
  refine ⟨fun C1 am st H s i _ _ e hi => ?_, fun C1 am st H s i v H' _ _ e hi hy => ?_, fun C1 am st H s i _ _ e hi => ?_⟩
  · show i < x.cps.size
    simpa using hi
  · obtain ⟨rfl, c, hc, rfl⟩ := hy
    refine ⟨fun b u q => q, .str ⟨#[c]⟩, ?_, ?_⟩
    · rw [List.getElem?_map, Array.getElem?_toList, hc]; rfl
    · have hc' : c < 1114112 := by
        unfold PyData.strOk at h
        rw [Array.all_eq_true] at h
        obtain ⟨hn, e4⟩ := Array.getElem?_eq_some_iff.mp hc
        have := h i hn
        rw [e4] at this
        simpa using this
      exact relD_str (by simp [lim]) (by simp [PyData.strOk, hc'])
  · show x.cps.size ≤ i
    simpa using Nat.le_of_eq hi.symm
theorem walk_rng (lo : Int) (n : Nat) : Walk g C0 w (Itr lo n) (rangeD lo n) := by
  have hl : (rangeD lo n).length = n := by simp [rangeD]
  refine ⟨fun C1 am st H s i _ _ e hi => by rw [hl] at hi; exact hi, fun C1 am st H s i v H' _ _ e hi hy => ?_, fun C1 am st H s i _ _ e hi => by rw [hl] at hi; exact Nat.le_of_eq hi.symm⟩
  obtain ⟨rfl, rfl⟩ := hy
  rw [hl] at hi
  exact ⟨fun b u q => q, .int (lo + i), by simp [rangeD, hi], relD_int⟩
/-- a dict's keys, its pairs -/
theorem walk_keys {a : Addr} {b : Bool} {o : Obj} {kvs : List (Ky × D)} {ks : List (Key × V)} (hp : C0 a = some (b, .frz o (.dK ks))) (h : RelKs g w kvs ks) : Walk g C0 w (Itk a o ks) (kvs.map fun p => kyD p.1) := by
  have hl : ks.length = kvs.length := h.length
  refine ⟨fun C1 am st H s i l hS e hi => ⟨hS.c0 a b _ (l _ _ _ hp), by rw [hl]; simpa using hi⟩, fun C1 am st H s i v H' l hS e hi hy => ?_, fun C1 am st H s i l hS e hi => ⟨hS.c0 a b _ (l _ _ _ hp), by rw [hl]; simpa using Nat.le_of_eq hi.symm⟩⟩
  obtain ⟨rfl, k, u, hk, rfl⟩ := hy
  have h' := keys_rel (RelKs.ext e _ _ h)
  have e1 : (ks.map fun kv => kV kv.1)[i]? = some (kV k) := by rw [List.getElem?_map, hk]; rfl
  obtain ⟨d, e2, e3⟩ := h'.get' e1
  exact ⟨fun b u q => q, d, e2, e3⟩
theorem RelKs.get' {w : Wd} : ∀ {kvs : List (Ky × D)} {ks : List (Key × V)} {i : Nat} {k : Key} {v : V}, RelKs g w kvs ks → ks[i]? = some (k, v) → ∃ x, kvs[i]? = some (k, x) ∧ KyOk k ∧ RelD g w x v
  | [], ks, i, k, v, h, e => by simp only [RelKs] at h; subst h; simp at e
  | (k0, y) :: r, ks, 0, k, v, h, e => by
    simp only [RelKs] at h
    obtain ⟨u, q, rfl, hk, h1, h2⟩ := h
    simp at e
    obtain ⟨rfl, rfl⟩ := e
    exact ⟨y, rfl, hk, h1⟩
  | (k0, y) :: r, ks, i + 1, k, v, h, e => by
    simp only [RelKs] at h
    obtain ⟨u, q, rfl, hk, h1, h2⟩ := h
    obtain ⟨x, e1, e2⟩ := RelKs.get' (i := i) h2 (by simpa using e)
    exact ⟨x, by simpa using e1, e2⟩
theorem walk_items {a : Addr} {b : Bool} {o : Obj} {kvs : List (Ky × D)} {ks : List (Key × V)} (hp : C0 a = some (b, .frz o (.dK ks))) (h : RelKs g w kvs ks) : Walk g C0 w (Iti a o ks) (kvs.map fun p => .tup [kyD p.1, p.2]) := by
  have hl : ks.length = kvs.length := h.length
  refine ⟨fun C1 am st H s i l hS e hi => ⟨hS.c0 a b _ (l _ _ _ hp), by rw [hl]; simpa using hi⟩, fun C1 am st H s i v H' l hS e hi hy => ?_, fun C1 am st H s i l hS e hi => ⟨hS.c0 a b _ (l _ _ _ hp), by rw [hl]; simpa using Nat.le_of_eq hi.symm⟩⟩
  obtain ⟨T, k, u, hk, rfl, hT, rfl⟩ := hy
  obtain ⟨x, e1, hko, e2⟩ := (RelKs.ext e _ _ h).get' hk
  refine ⟨upd_keep hT, .tup [kyD k, x], by rw [List.getElem?_map, e1]; rfl, ?_⟩
  simp only [RelD]
  refine ⟨T, _, rfl, .inl (.inl upd_same), .cons ?_ (.cons (RelD.ext (ext_new hT) _ _ e2) .nil)⟩
  cases k with
  | inl i => exact relD_int
  | inr z => exact relD_str hko.1 hko.2
end
end Us
end

section
set_option Elab.async false
set_option linter.all false
set_option maxRecDepth 100000
set_option maxHeartbeats 1000000
/-! Us.Snd11: iterables. -/
namespace Us
open PySem PySem.Spec PyProof.Rows L2
section
variable {X : Cx} {g g0 : Gp} {gx : G} {Wx : WX} {C0 : Pin} {am : List Addr} {σ : L2.St} {st : Option (Addr × Addr)} {H : Hp} {s : S} {env : Us.Env} {w w1 : Wd} {tg : Expr}
theorem Fin.bad' {α β : Type} {rel : Wd → α → β → Prop} {Q : β → Hp → Prop} (h : Fin g C0 am rel Wx σ w (.bad) Q) : False := h
/-- where the executor tells no value, any reading stands -/
theorem escRet {r : R W} {k : D → S → R (List D)} {R1 : L2.It → Hp → Prop} {Q1 : V → Hp → Prop} (h : Fin g C0 am (fun w xs J => Walk g C0 w J xs) Wx σ w ((r.bind esc).bind k) R1) (hn : ∀ d s', r.bind esc = .ok d s' → False) : Fin g C0 am (RelW g am) Wx σ w r Q1 :=
  h.escE fun d v H' st' s' e _ _ _ _ => (hn d s' e).elim
theorem var_esc {n : Nat} {d : D} {s2 : S} (hR : Rel g C0 am st env s σ H) (hr : (ev gx (.var n) env s).bind esc = .ok d s2) : ∃ v w, env[n]? = some (some w) ∧ view s w = some d ∧ σ[n]? = some (some v) ∧ RelS g C0 am st H s2 ∧ Ext (wdOf C0 am st H s) (wdOf C0 am st H s2) ∧ RelD g (wdOf C0 am st H s2) d v := by
  obtain ⟨x, s1, ex, ee⟩ := bind_ok hr
  simp only [ev] at ex
  cases e0 : env[n]? with
  | none => rw [e0] at ex; cases ex
  | some o =>
    rw [e0] at ex
    cases o with
    | none => cases ex
    | some w =>
      obtain ⟨v, e3, r0⟩ := hR.slots.at_ n w e0
      cases w with
      | d y =>
        cases ex
        obtain ⟨a1, a2, a3⟩ := esc_rel hR.cells (x := .d y) r0 ee
        cases ee
        exact ⟨v, _, rfl, rfl, e3, a1, a2, a3⟩
      | ref m =>
        cases ex
        obtain ⟨a1, a2, a3⟩ := esc_rel hR.cells (x := .ref m) r0 ee
        refine ⟨v, _, rfl, ?_, e3, a1, a2, a3⟩
        simp only [esc] at ee
        simp only [view]
        split at ee
        · rename_i b y e2
          cases ee
          rw [e2]; rfl
        · cases ee
      | _ => cases ex
theorem var_dic {n : Nat} {kvs : List (Ky × D)} {s2 : S} (hd : (E.var n).isDat env = true) (hr : (ev gx (.var n) env s).bind esc = .ok (.dic kvs) s2) : env[n]? = some (some (.d (.dic kvs))) := by
  unfold E.isDat at hd
  simp only at hd
  split at hd
  · rename_i y e0
    obtain ⟨x, s1, ex, ee⟩ := bind_ok hr
    simp only [ev] at ex
    rw [e0] at ex
    cases ex
    cases ee
    exact e0
  · cases hd
theorem rd_frz {H : Hp} {a : Addr} {o : Obj} {u v : HO} (h : Rd H a u) (e : H a = some (.frz o v)) (n : ∀ o' u', u ≠ .frz o' u') : u = v := by
  rcases h with h | ⟨o', h⟩
  · rw [e] at h
    cases h
    exact absurd rfl (n _ _)
  · rw [e] at h
    cases h
    rfl
theorem sn_itE {a : Expr} {i : E} (hK : X.K = g.K) (ha : PE X a (rdE g gx Wx i)) (hv : ∀ n, i = .var n → PE X a (tVar n)) : PI X tg a (rdI g gx Wx (.e i)) := by
  refine ⟨fun pins s' σ H R1 I h => ?_⟩
  obtain ⟨C0, am, st, env, s, hR, hst, hF⟩ := h
  simp only [evIt] at hF
  cases hr : (ev gx i env s).bind esc with
  | bad => rw [hr] at hF; exact hF.elim
  | exc c x s2 => exact (pi_list (tg := tg) ha).run pins s' σ H R1 I ⟨C0, am, st, env, s, hR, escRet hF fun d s' e => by rw [hr] at e; cases e⟩
  | ok d s2 =>
    have use : ∀ {Q1 : V → Hp → Prop}, (∀ v H' st', RelS g C0 am st' H' s2 → Ext (wdOf C0 am st H s) (wdOf C0 am st' H' s2) → RelD g (wdOf C0 am st' H' s2) d v → (∀ xs, walkD (i.isDat env) d = some xs → ∀ J, Walk g C0 (wdOf C0 am st' H' s2) J xs → R1 J H') → Q1 v H') → rdE g gx Wx i σ H Q1 := fun {Q1} q =>
      ⟨C0, am, st, env, s, hR, hF.escE fun d' v H' st' s3 e hS hX hd h1 => by
        rw [hr] at e
        cases e
        refine q v H' st' hS hX hd fun xs ew J hJ => ?_
        rw [ew] at h1
        exact h1 J H' st' hS (Ext.refl _) hJ⟩
    cases d with
    | lst xs =>
      refine (pi_list (tg := tg) ha).run pins s' σ H R1 I (use fun v H' st' hS hX hd q => ?_)
      have hd' := hd
      simp only [RelD] at hd'
      obtain ⟨a, vs, e, n, h1, h2⟩ := hd'
      subst e
      exact ⟨a, rfl, ⟨vs, .inl (.inl h1)⟩, q xs rfl _ (walk_list hK hd)⟩
    | tup xs =>
      refine (pi_tup (tg := tg) ha).run pins s' σ H R1 I (use fun v H' st' hS hX hd q => ?_)
      obtain ⟨a, e, hv, hw⟩ := walk_tup (C0 := C0) hK hd
      exact ⟨a, e, hv, q xs rfl _ hw⟩
    | str x =>
      refine (pi_str (tg := tg) ha).run pins s' σ H R1 I (use fun v H' st' hS hX hd q => ?_)
      simp only [RelD] at hd
      exact ⟨x, hd.1, q _ rfl _ (walk_str hd.2.2)⟩
    | dic kvs =>
      rw [hr] at hF
      cases i with
      | var n =>
        refine (pi_keys (tg := tg) (hv n rfl)).run pins s' σ H R1 I ?_
        obtain ⟨v, w, e0, ev, e1, hS, hX, hd⟩ := var_esc hR hr
        have hF : Fin g C0 am (fun w xs J => Walk g C0 w J xs) Wx σ (wdOf C0 am st H s) (match (if (E.var n).isDat env = true then some (kvs.map fun p => kyD p.1) else none) with | some xs => .ok xs s2 | none => .bad) R1 := hF
        by_cases hdat : (E.var n).isDat env = true
        case neg => rw [if_neg hdat] at hF; exact hF.elim
        rw [if_pos hdat] at hF
        obtain ⟨a, b, o, ks, e2, e3⟩ := (hst : Still C0 env s σ n) kvs (var_dic hdat hr)
        rw [e1] at e2
        cases e2
        have hf := hS.c0 a b _ e3
        simp only [RelD] at hd
        obtain ⟨a', ks', e4, _, h1, h2⟩ := hd
        cases e4
        have e5 : HO.dK ks' = HO.dK ks := rd_frz h1 hf (fun _ _ => by simp)
        cases e5
        exact ⟨_, e1, a, o, rfl, .inl ⟨ks, hf, hF (Itk a o ks) H st hS hX (walk_keys e3 h2)⟩⟩
      | _ => exact hF.elim
    | _ =>
      rw [hr] at hF
      exact hF.elim
theorem sn_itItems {a : Expr} {n : Nat} {elts : List Expr} {kk : Nat} {tpos apos cpos : Pos} (hv : PE X a (tVar n)) (hbase : attributeBase a "items" X.env (eval a X.env) = eval a X.env) (hline : (apos.endLine == cpos.line) = true) :
    PI X (.Tuple elts kk tpos) (.Call (.Attribute a "items" apos) [] [] cpos) (rdI g gx Wx (.items (.var n))) := by
  refine ⟨fun pins s' σ H R1 I h => ?_⟩
  obtain ⟨C0, am, st, env, s, hR, hst, hF⟩ := h
  simp only [evIt] at hF
  cases hr : (ev gx (.var n) env s).bind esc with
  | bad => rw [hr] at hF; exact hF.elim
  | exc c x s2 =>
    exfalso
    obtain ⟨x, s1, ex, ee⟩ : ∃ x s1, ev gx (.var n) env s = .ok x s1 ∧ esc x s1 = .exc c ‹_› s2 := by
      cases e : ev gx (.var n) env s with
      | ok x s1 => rw [e] at hr; exact ⟨x, s1, rfl, hr⟩
      | exc c' x' s' => simp only [ev] at e; split at e <;> cases e
      | bad => rw [e] at hr; cases hr
    cases x <;> simp only [esc] at ee <;> first | cases ee | (split at ee <;> cases ee)
  | ok d s2 =>
    rw [hr] at hF
    cases d with
    | dic kvs =>
      refine (pi_items hv hbase hline).run pins s' σ H R1 I ?_
      obtain ⟨v, w, e0, ev, e1, hS, hX, hd⟩ := var_esc hR hr
      by_cases hdat : (E.var n).isDat env = true
      case neg => rw [R.bind] at hF; simp only [if_neg hdat] at hF; exact hF.elim
      rw [R.bind] at hF
      simp only [if_pos hdat] at hF
      obtain ⟨a, b, o, ks, e2, e3⟩ := (hst : Still C0 env s σ n) kvs (var_dic hdat hr)
      rw [e1] at e2
      cases e2
      have hf := hS.c0 a b _ e3
      simp only [RelD] at hd
      obtain ⟨a', ks', e4, _, h1, h2⟩ := hd
      cases e4
      have e5 : HO.dK ks' = HO.dK ks := rd_frz h1 hf (fun _ _ => by simp)
      cases e5
      exact ⟨_, e1, a, o, ks, rfl, hf, hF (Iti a o ks) H st hS hX (walk_items e3 h2)⟩
    | _ => exact hF.elim
/-! ### ranges -/
theorem sn_rng {a : Expr} {i : E} {p pos : Pos} (hg : Gl X "range") (hm : X.mg "range" = none) (ha : PE X a (rdE g gx Wx i)) (hs : NoStar a) : PI X tg (.Call (.Name "range" p) [a] [] pos) (rdI g gx Wx (.rng i)) := by
  refine ⟨fun pins s' σ H R1 I h => (pi_range1 hg hm (pa_cons ha pa_nil (hs _ _)) (by rw [hs]; rfl)).run pins s' σ H R1 I ?_⟩
  obtain ⟨C0, am, st, env, s, hR, _, hF⟩ := h
  simp only [evIt] at hF
  refine ⟨C0, am, st, env, s, hR, hF.bind fun x s1 e1 v1 H1 st1 hS1 hX1 hr1 h1 => ?_⟩
  split at h1
  · rename_i k ek
    split at h1
    · rename_i hk
      exact ⟨k, by rw [(view_rel hS1 hr1 ek).int], by omega, by omega, h1 _ H1 st1 hS1 (Ext.refl _) (walk_rng 0 k.toNat)⟩
    · exact h1.elim
  · exact h1.elim
theorem sn_rng2 {a b : Expr} {i j : E} {p pos : Pos} (hg : Gl X "range") (hm : X.mg "range" = none) (ha : PE X a (rdE g gx Wx i)) (hb : PE X b (rdE g gx Wx j)) (hs : NoStar a) (hs2 : NoStar b) : PI X tg (.Call (.Name "range" p) [a, b] [] pos) (rdI g gx Wx (.rng2 i j)) := by
  refine ⟨fun pins s' σ H R1 I h => (pi_range2 hg hm (pa_cons ha (pa_cons hb pa_nil (hs2 _ _)) (hs _ _)) (by rw [hs, hs2]; rfl) (by rw [hs2]; rfl)).run pins s' σ H R1 I ?_⟩
  obtain ⟨C0, am, st, env, s, hR, _, hF⟩ := h
  simp only [evIt] at hF
  refine ⟨C0, am, st, env, s, hR, hF.bind fun x s1 e1 v1 H1 st1 hS1 hX1 hr1 h1 => ?_⟩
  refine ⟨C0, am, st1, env, s1, hR.at_ hS1 hX1, h1.bind fun y s2 e2 v2 H2 st2 hS2 hX2 hr2 h2 => ?_⟩
  split at h2
  · rename_i k l ek el
    split at h2
    · rename_i hk
      exact ⟨k, l, by rw [(view_rel hS2 (hr1.ext hX2) ek).int, (view_rel hS2 hr2 el).int], ⟨by omega, by omega, by omega, by omega⟩, h2 _ H2 st2 hS2 (Ext.refl _) (walk_rng k (l - k).toNat)⟩
    · exact h2.elim
  · exact h2.elim
end
end Us
end

section
set_option Elab.async false
set_option linter.all false
set_option maxRecDepth 100000
set_option maxHeartbeats 1000000
/-! Us.Snd12: targets; comprehensions. -/
namespace Us
open PySem PySem.Spec PyProof.Rows L2
/-! ### targets -/
mutual
def tgG (K : PySem.W.Frag) : Tg → TG
  | .nm i => gName i
  | .tp ts => fun v σ H Q => ∃ a xs, v = .ref a ∧ (SqT K H a xs ∨ SqL K H a xs) ∧ xs.length = ts.length ∧ tgGs K ts xs σ H Q
def tgGs (K : PySem.W.Frag) : List Tg → TGs
  | [] => gNil
  | t :: ts => gCons (tgG K t) (tgGs K ts)
end
section
variable {X : Cx} {g g0 : Gp} {gx : G} {Wx : WX} {C0 : Pin} {am : List Addr} {σ : L2.St} {st : Option (Addr × Addr)} {H : Hp} {s : S} {env : Us.Env} {w w1 : Wd} {tg : Expr}
def PlainT (es : List Expr) : Prop := ∀ env, (assignEach es env).length = es.length ∧ (assignEach es env).findIdx? (·.1) = none
theorem pg_any {es : List Expr} {ts : List Tg} {k : Nat} {pos : Pos} (hc : X.calm = true) (h : PGs X es (tgGs X.K ts)) (hl : es.length = ts.length) (hp : PlainT es) : PG X (.Tuple es k pos) (tgG X.K (.tp ts)) := by
  refine ⟨fun pins s σ H v u Q I r hw => ?_⟩
  simp only [tgG] at hw
  obtain ⟨a, xs, e, hq, hn, hw⟩ := hw
  have e1 : (assignEach es X.env).length = ts.length := by rw [(hp _).1, hl]
  rcases hq with hq | hq
  · exact (pg_tup hc h e1 (hp _).2).run pins s σ H v u Q I r ⟨a, xs, e, hq, hn, hw⟩
  · exact (pg_unl hc h e1 (hp _).2).run pins s σ H v u Q I r ⟨a, xs, e, hq, hn, hw⟩
mutual
def Tg.slots : Tg → List Nat
  | .nm i => [i]
  | .tp ts => slotsL ts
def Tg.slotsL : List Tg → List Nat
  | [] => []
  | t :: ts => t.slots ++ slotsL ts
end
theorem bindTs_len : ∀ (ts : List Tg) (xs : List D) (env env' : Us.Env), bindT.bindTs ts xs env = some env' → xs.length = ts.length
  | [], [], _, _, _ => rfl
  | [], _ :: _, _, _, e => by simp [bindT.bindTs] at e
  | _ :: _, [], _, _, e => by simp [bindT.bindTs] at e
  | t :: ts, x :: xs, env, env', e => by
    simp only [bindT.bindTs] at e
    cases e1 : bindT t x env with
    | none => rw [e1] at e; cases e
    | some env1 =>
      rw [e1] at e
      simp only [Option.bind_some] at e
      rw [List.length_cons, List.length_cons, bindTs_len ts xs env1 env' e]
mutual
theorem tgG_in (hK : X.K = g.K) {P : L2.St → Prop} : ∀ (t : Tg) (x : D) (v : V) (env env' : Us.Env) (σ : L2.St) (Q : L2.St → Hp → Prop), bindT t x env = some env' → RelD g w x v → RelE g am w env σ → (∀ i ∈ t.slots, ∀ σ v, P σ → P (σ.set i v)) → P σ → (∀ σ', RelE g am w env' σ' → P σ' → Q σ' w.H) → tgG X.K t v σ w.H Q
  | .nm i, x, v, env, env', σ, Q, e, hx, hE, hs, hP, hQ => by
    simp only [bindT] at e
    cases e
    exact hQ _ (hE.set i (x := .d x) hx) (hs i (by simp [Tg.slots]) σ _ hP)
  | .tp ts, x, v, env, env', σ, Q, e, hx, hE, hs, hP, hQ => by
    simp only [tgG]
    have hs' : ∀ i ∈ Tg.slotsL ts, ∀ σ v, P σ → P (σ.set i v) := fun i hi => hs i (by simpa [Tg.slots] using hi)
    cases x with
    | tup xs =>
      simp only [bindT] at e
      simp only [RelD] at hx
      obtain ⟨a, vs, e1, h1, h2⟩ := hx
      exact ⟨a, vs, e1, .inl (by rw [hK]; exact h1), h2.length.trans (bindTs_len ts xs env env' e), tgGs_in hK ts xs vs env env' σ Q e h2 hE hs' hP hQ⟩
    | lst xs =>
      simp only [bindT] at e
      simp only [RelD] at hx
      obtain ⟨a, vs, e1, _, h1, h2⟩ := hx
      exact ⟨a, vs, e1, .inr (.inl (.inl h1)), h2.length.trans (bindTs_len ts xs env env' e), tgGs_in hK ts xs vs env env' σ Q e h2 hE hs' hP hQ⟩
    | _ => simp [bindT] at e
theorem tgGs_in (hK : X.K = g.K) {P : L2.St → Prop} : ∀ (ts : List Tg) (xs : List D) (vs : List V) (env env' : Us.Env) (σ : L2.St) (Q : L2.St → Hp → Prop), bindT.bindTs ts xs env = some env' → RelDs g w xs vs → RelE g am w env σ → (∀ i ∈ Tg.slotsL ts, ∀ σ v, P σ → P (σ.set i v)) → P σ → (∀ σ', RelE g am w env' σ' → P σ' → Q σ' w.H) → tgGs X.K ts vs σ w.H Q
  | [], xs, vs, env, env', σ, Q, e, hx, hE, hs, hP, hQ => by
    cases xs with
    | nil =>
      simp only [bindT.bindTs] at e
      cases e
      simp only [RelDs] at hx
      subst hx
      exact ⟨rfl, hQ _ hE hP⟩
    | cons x xs => simp [bindT.bindTs] at e
  | t :: ts, xs, vs, env, env', σ, Q, e, hx, hE, hs, hP, hQ => by
    cases xs with
    | nil => simp [bindT.bindTs] at e
    | cons x xs =>
      simp only [bindT.bindTs] at e
      cases e1 : bindT t x env with
      | none => rw [e1] at e; cases e
      | some env1 =>
        rw [e1] at e
        simp only [Option.bind_some] at e
        simp only [RelDs] at hx
        obtain ⟨v, r, rfl, h1, h2⟩ := hx
        exact ⟨v, r, rfl, tgG_in hK t x v env env1 σ _ e1 h1 hE (fun i hi => hs i (by simp [Tg.slotsL, hi])) hP fun σ' hE' hP' => tgGs_in hK ts xs r env1 env' σ' Q e h2 hE' (fun i hi => hs i (by simp [Tg.slotsL, hi])) hP' hQ⟩
end
theorem RelE.wipe {g : Gp} {am : List Addr} {w : Wd} {env : Us.Env} {σ : L2.St} (h : RelE g am w env σ) : ∀ vs : List Nat, RelE g am w (Us.wipe env vs) (L2.wipe σ vs)
  | [] => h
  | v :: vs => (RelE.wipe h vs).unset v none
theorem wipe_in {σ : L2.St} {j : Nat} : ∀ {vs : List Nat}, j ∈ vs → (L2.wipe σ vs)[j]? = if j < σ.length then some none else none
  | [], h => by simp at h
  | v :: vs, h => by
    show ((L2.wipe σ vs).set v none)[j]? = _
    by_cases e : v = j
    · subst e
      by_cases hl : v < σ.length
      · rw [if_pos hl, List.getElem?_set_self (by rw [L2.wipe_length]; exact hl)]
      · rw [if_neg hl, List.getElem?_eq_none (by rw [List.length_set, L2.wipe_length]; omega)]
    · rw [List.getElem?_set_ne e]
      exact wipe_in (by rcases List.mem_cons.mp h with h | h; exact absurd h.symm e; exact h)
theorem wipe_ext {σ σ' : L2.St} {vs : List Nat} (hl : σ.length = σ'.length) (h : ∀ j, j ∉ vs → σ[j]? = σ'[j]?) : L2.wipe σ vs = L2.wipe σ' vs := by
  apply List.ext_getElem?
  intro j
  by_cases hj : j ∈ vs
  · rw [wipe_in hj, wipe_in hj, hl]
  · rw [L2.wipe_out hj, L2.wipe_out hj, h j hj]
theorem wipe_set {i : Nat} {v : Option V} {vs : List Nat} {σ : L2.St} (hi : i ∈ vs) : L2.wipe (σ.set i v) vs = L2.wipe σ vs :=
  wipe_ext (by simp) fun j hj => by rw [List.getElem?_set_ne (fun (e : i = j) => hj (by rw [← e]; exact hi))]
theorem wipe_wipe {σ : L2.St} {vs : List Nat} : L2.wipe (L2.wipe σ vs) vs = L2.wipe σ vs := wipe_ext (L2.wipe_length _ _) fun j hj => L2.wipe_out hj
/-! ### comprehensions -/
abbrev W0 : WX := fun _ _ _ _ => False
theorem calm_in {r : R W} {C1 : Pin} {σ2 : L2.St} {k : D → S → R D} {Q : V → Hp → Prop} {Q1 : V → Hp → Prop} (h : FinN g C0 am Wx σ w (W.data ((r.calm.bind esc).bind k)) Q)
    (hk : ∀ d v H' st' s', RelS g C1 am st' H' s' → Ext w1 (wdOf C1 am st' H' s') → RelD g (wdOf C1 am st' H' s') d v → FinN g C0 am Wx σ w (W.data (k d s')) Q → Q1 v H') : Fin g C1 am (RelW g am) W0 σ2 w1 r Q1 := by
  cases r with
  | bad => exact h
  | exc c x s => exact (show False from h).elim
  | ok x s1 =>
    intro v1 H1 st1 hS1 hX1 hr1
    cases e2 : Us.esc x s1 with
    | bad =>
      have h : FinN g C0 am Wx σ w (W.data ((Us.esc x s1).bind k)) Q := h
      rw [e2] at h; exact h.elim
    | exc c y s2 => cases x <;> simp only [Us.esc] at e2 <;> first | cases e2 | (split at e2 <;> cases e2)
    | ok d s2 =>
      have h : FinN g C0 am Wx σ w (W.data ((Us.esc x s1).bind k)) Q := h
      rw [e2] at h
      obtain ⟨a1, a2, a3⟩ := esc_rel hS1 hr1 e2
      exact hk d v1 H1 st1 s2 a1 (hX1.trans a2) a3 h
def compF (gx : G) (elt : E) (t : Tg) (w : List Nat) (env : Us.Env) (x : D) (s : S) : R (Option D) := match bindT t x (Us.wipe env w) with
  | some env' => ((ev gx elt env' s).calm.bind esc).bind fun y s => .ok (some y) s
  | none => .bad
def rdNS (g : Gp) (gx : G) (Wx : WX) (it : Us.It) (e : E) : TE := fun σ H Q => ∃ C0 am st env s, Rel g C0 am st env s σ H ∧ stillIt C0 env s σ it ∧ FinN g C0 am Wx σ (wdOf C0 am st H s) (ev gx e env s) Q
theorem comp_in {own : List (Str × Nat)} {it : Us.It} {t : Tg} {el : E} {Q : V → Hp → Prop} (hK : X.K = g.K) (hsl : ∀ i ∈ t.slots, i ∈ own.map (·.2)) (q : rdNS g gx Wx it (.comp (own.map (·.2)) el t it) σ H Q) : tLc (rdI g gx Wx it) (tgG X.K t) tYes (rdE g gx W0 el) (own.map (·.2)) σ H Q := by
  obtain ⟨C0, am, st, env, s, hR, hst, hF⟩ := q
  simp only [ev] at hF
  refine ⟨C0, am, st, env, s, hR, hst, hF.bind fun xs s1 e1 J H1 st1 hS1 hX1 hW h1 => ?_⟩
  intro Dd hD
  have n0 : C0 Dd = none := hS1.none0 hD
  have h1 : FinN g C0 am Wx σ (wdOf C0 am st1 H1 s1) (W.data (compL (compF gx el t (own.map (·.2)) env) xs [] s1)) Q := h1
  refine ⟨fun i m H' => m = xs.length - i ∧ i ≤ xs.length ∧ ∃ st' s' acc vs, RelS g (addC C0 Dd (.lst vs)) am st' H' s' ∧ Ext (wdOf C0 am st1 H1 s1) (wdOf (addC C0 Dd (.lst vs)) am st' H' s') ∧ RelDs g (wdOf (addC C0 Dd (.lst vs)) am st' H' s') acc.reverse vs ∧
    FinN g C0 am Wx σ (wdOf C0 am st1 H1 s1) (W.data (compL (compF gx el t (own.map (·.2)) env) (xs.drop i) acc s')) Q, ⟨_, rfl, Nat.zero_le _, st1, s1, [], [], hS1.newC hD, ext_newC hD, .nil, by simpa using h1⟩, ?_⟩
  rintro i m H' ⟨rfl, hle, st', s', acc, vs, hS', hX', hA, hF'⟩
  by_cases hlt : i < xs.length
  · refine .inr ⟨hW.go _ am st' H' s' i (.add n0) hS' hX' hlt, _, fun H2 h2 => ⟨xs.length - (i + 1), by omega, h2⟩, fun x H2 hy => ?_⟩
    obtain ⟨kp, d, ed, hd⟩ := hW.yld _ am st' H' s' i x H2 (.add n0) hS' hX' hlt hy
    have hS2 : RelS g (addC C0 Dd (.lst vs)) am st' H2 s' := hS'.grow kp
    have hX2 : Ext (wdOf (addC C0 Dd (.lst vs)) am st' H' s') (wdOf (addC C0 Dd (.lst vs)) am st' H2 s') := ext_grow kp
    have ex : xs.drop i = d :: xs.drop (i + 1) := by
      obtain ⟨h3, h4⟩ := List.getElem?_eq_some_iff.mp ed
      rw [List.drop_eq_getElem_cons h3, h4]
    rw [ex] at hF'
    have hF' : FinN g C0 am Wx σ (wdOf C0 am st1 H1 s1) (W.data ((compF gx el t (own.map (·.2)) env d s').bind fun o s => match o with | some y => if acc.length < lim then compL (compF gx el t (own.map (·.2)) env) (xs.drop (i + 1)) (y :: acc) s else .bad | none => compL (compF gx el t (own.map (·.2)) env) (xs.drop (i + 1)) acc s)) Q := hF'
    unfold compF at hF'
    cases eb : bindT t d (Us.wipe env (own.map (·.2))) with
    | none => rw [eb] at hF'; exact hF'.elim
    | some env' =>
      rw [eb] at hF'
      have hF' : FinN g C0 am Wx σ (wdOf C0 am st1 H1 s1) (W.data ((((ev gx el env' s').calm.bind esc).bind fun y s => R.ok (some y) s).bind fun o s => match o with | some y => if acc.length < lim then compL (compF gx el t (own.map (·.2)) env) (xs.drop (i + 1)) (y :: acc) s else .bad | none => compL (compF gx el t (own.map (·.2)) env) (xs.drop (i + 1)) acc s)) Q := hF'
      rw [r_assoc] at hF'
      have hE0 : RelE g am (wdOf (addC C0 Dd (.lst vs)) am st' H2 s') (Us.wipe env (own.map (·.2))) (L2.wipe σ (own.map (·.2))) := (hR.slots.ext (hX1.trans (hX'.trans hX2))).wipe _
      have hs' : ∀ i ∈ t.slots, ∀ (σ2 : L2.St) (v : Option V), L2.wipe σ2 (own.map (·.2)) = L2.wipe σ (own.map (·.2)) → L2.wipe (σ2.set i v) (own.map (·.2)) = L2.wipe σ (own.map (·.2)) := fun i hi σ2 v h => by rw [wipe_set (hsl i hi)]; exact h
      refine tgG_in (X := X) (g := g) (am := am) (w := wdOf (addC C0 Dd (.lst vs)) am st' H2 s') (P := fun (σ2 : L2.St) => L2.wipe σ2 (own.map (·.2)) = L2.wipe σ (own.map (·.2))) hK t d x (Us.wipe env (own.map (·.2))) env' (L2.wipe σ (own.map (·.2))) _ eb hd hE0 (fun i hi σ2 v => hs' i hi σ2 v) wipe_wipe (fun σ2 hE hP => ?_)
      refine ⟨hP, ?_⟩
      · show rdE g gx W0 el σ2 H2 _
        refine ⟨addC C0 Dd (.lst vs), am, st', env', s', ⟨hS2, hE, pf_addC hR.pf⟩, calm_in (w1 := wdOf (addC C0 Dd (.lst vs)) am st' H2 s') hF' fun d2 v2 H4 st4 s4 hS4 hX4 hd4 h4 => ?_⟩
        have hH4 : H4 Dd = some (.lst vs) := hS4.c0 Dd true _ addC_same
        have hA4 := RelDs.ext (hX2.trans hX4) _ _ hA
        have h4 : FinN g C0 am Wx σ (wdOf C0 am st1 H1 s1) (W.data (if acc.length < lim then compL (compF gx el t (own.map (·.2)) env) (xs.drop (i + 1)) (d2 :: acc) s4 else .bad)) Q := h4
        by_cases hl : acc.length < lim
        · rw [if_pos hl] at h4
          have hm : Mut (H4 Dd) := .inl ⟨_, hH4⟩
          refine ⟨vs, hH4, ?_, rfl, by omega, st4, s4, d2 :: acc, vs ++ [v2], hS4.swapC hm, ((hX'.trans hX2).trans hX4).trans (ext_swapC hm), ?_, h4⟩
          · have := hA4.length
            rw [List.length_reverse] at this
            rw [this, ← limL]; exact hl
          · rw [List.reverse_cons]
            exact RelDs.ext (ext_swapC hm) _ _ (hA4.append (.cons hd4 .nil))
        · rw [if_neg hl] at h4
          exact h4.elim
  · have hi : i = xs.length := by omega
    subst hi
    refine .inl ⟨hW.stop _ am st' H' s' _ (.add n0) hS' hX' rfl, ?_⟩
    rw [List.drop_length] at hF'
    exact hF' Dd (.lst vs) H' st' n0 hS' hX' ⟨vs, rfl, hA⟩
theorem nn_comp {elt iter : Expr} {scope : Scope} {own : List (Str × Nat)} {pos : Pos} {it : Us.It} {t : Tg} {el : E} (hK : X.K = g.K) (hc : X.calm = true) (hN : X.N.Nodup) (hi : PI X tg iter (rdI g gx Wx it)) (ok : BlkOk X.N X.env.scope scope own) (hsl : ∀ i ∈ t.slots, i ∈ own.map (·.2))
    (hg : ∀ (s : Shared) (H : Hp) (C : Addr) (cl : List (Str × Addr)) (fp : List Addr), PG (X.blk s H scope (compEnvC scope cl C X.env) fp) tg (tgG X.K t)) (he : ∀ (s : Shared) (H : Hp) (C : Addr) (cl : List (Str × Addr)) (fp : List Addr), PE (X.blk s H scope (compEnvC scope cl C X.env) fp) elt (rdE g gx W0 el))
    (hs : ∀ x, foldedSetIterable iter X.env x = pure x) : PE X (.ListComp elt [⟨tg, iter, [], 0⟩] scope pos) (rdNS g gx Wx it (.comp (own.map (·.2)) el t it)) := (pe_lc hc hN hi ok hg (fun _ _ _ _ _ => pts_nil) he hs).imp fun σ H Q q => comp_in hK hsl q
theorem calmT_in {c : E} {env' : Us.Env} {s0 : S} {C1 : Pin} {σ2 : L2.St} {k : Bool → S → R D} {Q : V → Hp → Prop} {Q1 : Bool → Hp → Prop} (h : FinN g C0 am Wx σ w (W.data ((ev gx c env' s0).calm.bind fun b s => match view s b with | some (.bl true) => k true s | some (.bl false) => k false s | _ => .bad)) Q)
    (hk : ∀ b H' st' s', RelS g C1 am st' H' s' → Ext w1 (wdOf C1 am st' H' s') → FinN g C0 am Wx σ w (W.data (k b s')) Q → Q1 b H') : Fin g C1 am (fun _ a b => a = b) W0 σ2 w1 (evT gx c env' s0) Q1 := by
  unfold evT
  cases hr : ev gx c env' s0 with
  | bad => rw [hr] at h; exact (show False from h).elim
  | exc c x s => rw [hr] at h; exact (show False from h).elim
  | ok x s1 =>
    rw [hr] at h
    have h : FinN g C0 am Wx σ w (W.data (match view s1 x with | some (.bl true) => k true s1 | some (.bl false) => k false s1 | _ => .bad)) Q := h
    show Fin g C1 am (fun _ a b => a = b) W0 σ2 w1 (match view s1 x with | some (.bl b) => .ok b s1 | _ => .bad) Q1
    cases hv : view s1 x with
    | none => rw [hv] at h; exact (show False from h).elim
    | some d =>
      rw [hv] at h
      cases d with
      | bl b =>
        intro b' H1 st1 hS1 hX1 e
        have e : b = b' := e
        subst e
        refine hk b H1 st1 s1 hS1 hX1 ?_
        cases b <;> exact h
      | _ => exact (show False from h).elim
def compG (gx : G) (elt c : E) (t : Tg) (w : List Nat) (env : Us.Env) (x : D) (s : S) : R (Option D) := match bindT t x (Us.wipe env w) with
  | some env' => (ev gx c env' s).calm.bind fun b s => (match view s b with
      | some (.bl true) => ((ev gx elt env' s).calm.bind esc).bind fun y s => .ok (some y) s
      | some (.bl false) => .ok none s
      | _ => .bad)
  | none => .bad
theorem match_bind {α β : Type} {o : Option D} {a b : R α} {k : α → S → R β} : (match o with | some (.bl true) => a | some (.bl false) => b | _ => R.bad).bind k = match o with | some (.bl true) => a.bind k | some (.bl false) => b.bind k | _ => .bad := by
  cases o with
  | none => rfl
  | some d => cases d <;> first | rfl | (rename_i x; cases x <;> rfl)
theorem compIf_in {own : List (Str × Nat)} {it : Us.It} {t : Tg} {el ce : E} {Q : V → Hp → Prop} (hK : X.K = g.K) (hsl : ∀ i ∈ t.slots, i ∈ own.map (·.2)) (q : rdNS g gx Wx it (.compIf (own.map (·.2)) el t it ce) σ H Q) : tLc (rdI g gx Wx it) (tgG X.K t) (rdT g gx W0 ce) (rdE g gx W0 el) (own.map (·.2)) σ H Q := by
  obtain ⟨C0, am, st, env, s, hR, hst, hF⟩ := q
  simp only [ev] at hF
  refine ⟨C0, am, st, env, s, hR, hst, hF.bind fun xs s1 e1 J H1 st1 hS1 hX1 hW h1 => ?_⟩
  intro Dd hD
  have n0 : C0 Dd = none := hS1.none0 hD
  have h1 : FinN g C0 am Wx σ (wdOf C0 am st1 H1 s1) (W.data (compL (compG gx el ce t (own.map (·.2)) env) xs [] s1)) Q := h1
  refine ⟨fun i m H' => m = xs.length - i ∧ i ≤ xs.length ∧ ∃ st' s' acc vs, RelS g (addC C0 Dd (.lst vs)) am st' H' s' ∧ Ext (wdOf C0 am st1 H1 s1) (wdOf (addC C0 Dd (.lst vs)) am st' H' s') ∧ RelDs g (wdOf (addC C0 Dd (.lst vs)) am st' H' s') acc.reverse vs ∧
    FinN g C0 am Wx σ (wdOf C0 am st1 H1 s1) (W.data (compL (compG gx el ce t (own.map (·.2)) env) (xs.drop i) acc s')) Q, ⟨_, rfl, Nat.zero_le _, st1, s1, [], [], hS1.newC hD, ext_newC hD, .nil, by simpa using h1⟩, ?_⟩
  rintro i m H' ⟨rfl, hle, st', s', acc, vs, hS', hX', hA, hF'⟩
  by_cases hlt : i < xs.length
  · refine .inr ⟨hW.go _ am st' H' s' i (.add n0) hS' hX' hlt, _, fun H2 h2 => ⟨xs.length - (i + 1), by omega, h2⟩, fun x H2 hy => ?_⟩
    obtain ⟨kp, d, ed, hd⟩ := hW.yld _ am st' H' s' i x H2 (.add n0) hS' hX' hlt hy
    have hS2 : RelS g (addC C0 Dd (.lst vs)) am st' H2 s' := hS'.grow kp
    have hX2 : Ext (wdOf (addC C0 Dd (.lst vs)) am st' H' s') (wdOf (addC C0 Dd (.lst vs)) am st' H2 s') := ext_grow kp
    have ex : xs.drop i = d :: xs.drop (i + 1) := by
      obtain ⟨h3, h4⟩ := List.getElem?_eq_some_iff.mp ed
      rw [List.drop_eq_getElem_cons h3, h4]
    rw [ex] at hF'
    have hF' : FinN g C0 am Wx σ (wdOf C0 am st1 H1 s1) (W.data ((compG gx el ce t (own.map (·.2)) env d s').bind fun o s => match o with | some y => if acc.length < lim then compL (compG gx el ce t (own.map (·.2)) env) (xs.drop (i + 1)) (y :: acc) s else .bad | none => compL (compG gx el ce t (own.map (·.2)) env) (xs.drop (i + 1)) acc s)) Q := hF'
    unfold compG at hF'
    cases eb : bindT t d (Us.wipe env (own.map (·.2))) with
    | none => rw [eb] at hF'; exact hF'.elim
    | some env' =>
      rw [eb] at hF'
      have hF' : FinN g C0 am Wx σ (wdOf C0 am st1 H1 s1) (W.data (((ev gx ce env' s').calm.bind fun b s => (match view s b with
      | some (.bl true) => ((ev gx el env' s).calm.bind esc).bind fun y s => .ok (some y) s
      | some (.bl false) => .ok none s
      | _ => .bad)).bind fun o s => match o with | some y => if acc.length < lim then compL (compG gx el ce t (own.map (·.2)) env) (xs.drop (i + 1)) (y :: acc) s else .bad | none => compL (compG gx el ce t (own.map (·.2)) env) (xs.drop (i + 1)) acc s)) Q := hF'
      have hF' : FinN g C0 am Wx σ (wdOf C0 am st1 H1 s1) (W.data ((ev gx ce env' s').calm.bind fun b s => match view s b with
        | some (.bl true) => (fun b s => if b = true then ((ev gx el env' s).calm.bind esc).bind (fun y s => if acc.length < lim then compL (compG gx el ce t (own.map (·.2)) env) (xs.drop (i + 1)) (y :: acc) s else .bad) else compL (compG gx el ce t (own.map (·.2)) env) (xs.drop (i + 1)) acc s) true s
        | some (.bl false) => (fun b s => if b = true then ((ev gx el env' s).calm.bind esc).bind (fun y s => if acc.length < lim then compL (compG gx el ce t (own.map (·.2)) env) (xs.drop (i + 1)) (y :: acc) s else .bad) else compL (compG gx el ce t (own.map (·.2)) env) (xs.drop (i + 1)) acc s) false s
        | _ => .bad)) Q := by
        cases hr : (ev gx ce env' s').calm with
        | bad => rw [hr] at hF'; exact hF'
        | exc c x s5 => rw [hr] at hF'; exact hF'
        | ok b s5 =>
          rw [hr] at hF'
          simp only [bnd_ok] at hF' ⊢
          split at hF'
          · rename_i hv
            rw [r_assoc] at hF'
            rw [if_pos trivial]
            exact hF'
          · rename_i hv
            rw [if_neg Bool.false_ne_true]
            exact hF'
          · exact hF'.elim
      have hE0 : RelE g am (wdOf (addC C0 Dd (.lst vs)) am st' H2 s') (Us.wipe env (own.map (·.2))) (L2.wipe σ (own.map (·.2))) := (hR.slots.ext (hX1.trans (hX'.trans hX2))).wipe _
      have hs' : ∀ i ∈ t.slots, ∀ (σ2 : L2.St) (v : Option V), L2.wipe σ2 (own.map (·.2)) = L2.wipe σ (own.map (·.2)) → L2.wipe (σ2.set i v) (own.map (·.2)) = L2.wipe σ (own.map (·.2)) := fun i hi σ2 v h => by rw [wipe_set (hsl i hi)]; exact h
      refine tgG_in (X := X) (g := g) (am := am) (w := wdOf (addC C0 Dd (.lst vs)) am st' H2 s') (P := fun (σ2 : L2.St) => L2.wipe σ2 (own.map (·.2)) = L2.wipe σ (own.map (·.2))) hK t d x (Us.wipe env (own.map (·.2))) env' (L2.wipe σ (own.map (·.2))) _ eb hd hE0 (fun i hi σ2 v => hs' i hi σ2 v) wipe_wipe (fun σ2 hE hP => ?_)
      refine ⟨hP, ?_⟩
      · show rdT g gx W0 ce σ2 H2 _
        refine ⟨addC C0 Dd (.lst vs), am, st', env', s', ⟨hS2, hE, pf_addC hR.pf⟩, calmT_in (w1 := wdOf (addC C0 Dd (.lst vs)) am st' H2 s') (k := fun b s => if b = true then ((ev gx el env' s).calm.bind esc).bind (fun y s => if acc.length < lim then compL (compG gx el ce t (own.map (·.2)) env) (xs.drop (i + 1)) (y :: acc) s else .bad) else compL (compG gx el ce t (own.map (·.2)) env) (xs.drop (i + 1)) acc s) hF' fun b H3 st3 s3 hS3 hX3 h3 => ?_⟩
        cases b with
        | false =>
          rw [if_neg Bool.false_ne_true] at h3 ⊢
          exact ⟨rfl, by omega, st3, s3, acc, vs, hS3, (hX'.trans hX2).trans hX3, RelDs.ext (hX2.trans hX3) _ _ hA, h3⟩
        | true =>
          rw [if_pos rfl] at h3 ⊢
          show rdE g gx W0 el σ2 H3 _
          refine ⟨addC C0 Dd (.lst vs), am, st3, env', s3, ⟨hS3, hE.ext hX3, pf_addC hR.pf⟩, calm_in (w1 := wdOf (addC C0 Dd (.lst vs)) am st3 H3 s3) h3 fun d2 v2 H4 st4 s4 hS4 hX4 hd4 h4 => ?_⟩
          have hH4 : H4 Dd = some (.lst vs) := hS4.c0 Dd true _ addC_same
          have hA4 := RelDs.ext ((hX2.trans hX3).trans hX4) _ _ hA
          have h4 : FinN g C0 am Wx σ (wdOf C0 am st1 H1 s1) (W.data (if acc.length < lim then compL (compG gx el ce t (own.map (·.2)) env) (xs.drop (i + 1)) (d2 :: acc) s4 else .bad)) Q := h4
          by_cases hl : acc.length < lim
          · rw [if_pos hl] at h4
            have hm : Mut (H4 Dd) := .inl ⟨_, hH4⟩
            refine ⟨vs, hH4, ?_, rfl, by omega, st4, s4, d2 :: acc, vs ++ [v2], hS4.swapC hm, (((hX'.trans hX2).trans hX3).trans hX4).trans (ext_swapC hm), ?_, h4⟩
            · have := hA4.length
              rw [List.length_reverse] at this
              rw [this, ← limL]; exact hl
            · rw [List.reverse_cons]
              exact RelDs.ext (ext_swapC hm) _ _ (hA4.append (.cons hd4 .nil))
          · rw [if_neg hl] at h4
            exact h4.elim
  · have hi : i = xs.length := by omega
    subst hi
    refine .inl ⟨hW.stop _ am st' H' s' _ (.add n0) hS' hX' rfl, ?_⟩
    rw [List.drop_length] at hF'
    exact hF' Dd (.lst vs) H' st' n0 hS' hX' ⟨vs, rfl, hA⟩
theorem nn_compIf {elt iter c : Expr} {scope : Scope} {own : List (Str × Nat)} {pos : Pos} {it : Us.It} {t : Tg} {el ce : E} (hK : X.K = g.K) (hc : X.calm = true) (hN : X.N.Nodup) (hi : PI X tg iter (rdI g gx Wx it)) (ok : BlkOk X.N X.env.scope scope own) (hsl : ∀ i ∈ t.slots, i ∈ own.map (·.2))
    (hg : ∀ (s : Shared) (H : Hp) (C : Addr) (cl : List (Str × Addr)) (fp : List Addr), PG (X.blk s H scope (compEnvC scope cl C X.env) fp) tg (tgG X.K t)) (he : ∀ (s : Shared) (H : Hp) (C : Addr) (cl : List (Str × Addr)) (fp : List Addr), PE (X.blk s H scope (compEnvC scope cl C X.env) fp) elt (rdE g gx W0 el))
    (hce : ∀ (s : Shared) (H : Hp) (C : Addr) (cl : List (Str × Addr)) (fp : List Addr), PT (X.blk s H scope (compEnvC scope cl C X.env) fp) c (rdT g gx W0 ce))
    (hs : ∀ x, foldedSetIterable iter X.env x = pure x) : PE X (.ListComp elt [⟨tg, iter, [c], 0⟩] scope pos) (rdNS g gx Wx it (.compIf (own.map (·.2)) el t it ce)) := (pe_lc hc hN hi ok hg (fun s H C cl fp => pts_one (hce s H C cl fp)) he hs).imp fun σ H Q q => compIf_in hK hsl q
end
end Us
end

section
set_option Elab.async false
set_option linter.all false
set_option maxRecDepth 100000
set_option maxHeartbeats 1000000
/-! Us.Snd13: statements. -/
namespace Us
open PySem PySem.Spec PyProof.Rows L2
def Pre (a b : List Addr) : Prop := ∃ c, b = a ++ c
theorem Pre.refl (a : List Addr) : Pre a a := ⟨[], by simp⟩
theorem Pre.trans {a b c : List Addr} (h : Pre a b) (k : Pre b c) : Pre a c := by
  obtain ⟨x, rfl⟩ := h
  obtain ⟨y, rfl⟩ := k
  exact ⟨x ++ y, by simp⟩
/-- what is wanted behind a statement -/
def FinS (g : Gp) (C0 : Pin) (am : List Addr) (Wx : WX) (w0 : Wd) (r : RS) (D : Ends) : Prop := match r with
  | .nx env' s' => ∀ am' σ' H' st', Pre am am' → RelS g C0 am' st' H' s' → Ext w0 (wdOf C0 am' st' H' s') → RelE g am' (wdOf C0 am' st' H' s') env' σ' → D.nx σ' H'
  | .ct env' s' => ∀ am' σ' H' st', Pre am am' → RelS g C0 am' st' H' s' → Ext w0 (wdOf C0 am' st' H' s') → RelE g am' (wdOf C0 am' st' H' s') env' σ' → D.ct σ' H'
  | .rt x s' => ∀ am' v H' st', Pre am am' → RelS g C0 am' st' H' s' → Ext w0 (wdOf C0 am' st' H' s') → RelD g (wdOf C0 am' st' H' s') x v → D.rt v H'
  | .exc c x s' => ∀ am' cls d σ' H' st', Pre am am' → RelS g C0 am' st' H' s' → Ext w0 (wdOf C0 am' st' H' s') → RelX g (wdOf C0 am' st' H' s') c x cls d → Wx cls d σ' H'
  | .bad => False
def rdS (g : Gp) (gx : G) (Wx : WX) (st : St) : TS := fun D σ H => ∃ C0 am sq env s, Rel g C0 am sq env s σ H ∧ FinS g C0 am Wx (wdOf C0 am sq H s) (ex gx st env s) D
def rdSs (g : Gp) (gx : G) (Wx : WX) (sts : List St) : TS := fun D σ H => ∃ C0 am sq env s, Rel g C0 am sq env s σ H ∧ FinS g C0 am Wx (wdOf C0 am sq H s) (exs gx sts env s) D
section
variable {X : Cx} {g g0 : Gp} {gx : G} {Wx : WX} {C0 : Pin} {am am1 : List Addr} {σ : L2.St} {st : Option (Addr × Addr)} {H : Hp} {s : S} {env : Us.Env} {w w1 : Wd} {D D' : Ends}
theorem FinS.ext {r : RS} (h : FinS g C0 am Wx w r D) (e : Ext w w1) (p : Pre am am1) : FinS g C0 am1 Wx w1 r D := by
  cases r with
  | nx env' s' => exact fun am' σ' H' st' h0 h1 h2 h3 => h am' σ' H' st' (p.trans h0) h1 (e.trans h2) h3
  | ct env' s' => exact fun am' σ' H' st' h0 h1 h2 h3 => h am' σ' H' st' (p.trans h0) h1 (e.trans h2) h3
  | rt x s' => exact fun am' v H' st' h0 h1 h2 h3 => h am' v H' st' (p.trans h0) h1 (e.trans h2) h3
  | exc c x s' => exact fun am' cls d σ' H' st' h0 h1 h2 h3 => h am' cls d σ' H' st' (p.trans h0) h1 (e.trans h2) h3
  | bad => exact h
theorem FinS.bindS {α β : Type} {rel : Wd → α → β → Prop} {r : R α} {k : α → S → RS} {Q1 : β → Hp → Prop} (h : FinS g C0 am Wx w (r.st k) D)
    (hk : ∀ a s', r = .ok a s' → ∀ b H' st', RelS g C0 am st' H' s' → Ext w (wdOf C0 am st' H' s') → rel (wdOf C0 am st' H' s') a b → FinS g C0 am Wx (wdOf C0 am st' H' s') (k a s') D → Q1 b H') : Fin g C0 am rel Wx σ w r Q1 := by
  cases r with
  | ok a s' => exact fun b H' st' h1 h2 h3 => hk a s' rfl b H' st' h1 h2 h3 (FinS.ext (r := k a s') h h2 (.refl _))
  | exc c x s' => exact fun cls d H' st' h1 h2 h3 => h am cls d σ H' st' (.refl _) h1 h2 h3
  | bad => exact h
theorem FinS.stN {r : R W} {k : W → S → RS} {Q1 : V → Hp → Prop} (hr : ∀ s' w, r = .ok w s' → ∃ d, w = .d d) (h : FinS g C0 am Wx w (r.st k) D)
    (hk : ∀ d s', r = .ok (.d d) s' → ∀ p o H' st', C0 p = none → RelS g (addC C0 p o) am st' H' s' → Ext w (wdOf (addC C0 p o) am st' H' s') → RelC g (wdOf (addC C0 p o) am st' H' s') d o → FinS g C0 am Wx w (k (.d d) s') D → Q1 (.ref p) H') : FinN g C0 am Wx σ w r Q1 := by
  cases r with
  | ok a s' =>
    obtain ⟨d, rfl⟩ := hr s' a rfl
    exact fun p o H' st' n h1 h2 h3 => hk d s' rfl p o H' st' n h1 h2 h3 h
  | exc c x s' => exact fun cls d H' st' h1 h2 h3 => h am cls d σ H' st' (.refl _) h1 h2 h3
  | bad => exact h
theorem st_assoc {α β : Type} {r : R α} {k : α → S → R β} {m : β → S → RS} : (r.bind k).st m = r.st fun a s => (k a s).st m := by cases r <;> rfl
theorem FinS.esc {r : R W} {k : Us.D → S → RS} {Q1 : V → Hp → Prop} (h : FinS g C0 am Wx w ((r.bind Us.esc).st k) D)
    (hk : ∀ d v H' st' s', RelS g C0 am st' H' s' → Ext w (wdOf C0 am st' H' s') → RelD g (wdOf C0 am st' H' s') d v → FinS g C0 am Wx (wdOf C0 am st' H' s') (k d s') D → Q1 v H') : Fin g C0 am (RelW g am) Wx σ w r Q1 := by
  rw [st_assoc] at h
  refine h.bindS fun x s1 e1 v1 H1 st1 hS1 hX1 hr1 h1 => ?_
  cases e2 : Us.esc x s1 with
  | bad => rw [e2] at h1; exact h1.elim
  | exc c y s2 => cases x <;> simp only [Us.esc] at e2 <;> first | cases e2 | (split at e2 <;> cases e2)
  | ok d s2 =>
    rw [e2] at h1
    obtain ⟨a1, a2, a3⟩ := esc_rel hS1 hr1 e2
    exact hk d v1 H1 st1 s2 a1 (hX1.trans a2) a3 (FinS.ext (r := k d s2) h1 a2 (.refl _))
/-! ### the plain ones -/
theorem ss_nil : PSs X [] (rdSs g gx Wx []) := by
  refine pss_nil.imp fun D σ H q => ?_
  obtain ⟨C0, am, sq, env, s, hR, hF⟩ := q
  simp only [exs] at hF
  exact hF am σ H sq (.refl _) hR.cells (Ext.refl _) hR.slots
theorem ss_cons {x : Stmt} {xs : List Stmt} {i : St} {is : List St} (h : PS X x (rdS g gx Wx i)) (hr : PSs X xs (rdSs g gx Wx is)) : PSs X (x :: xs) (rdSs g gx Wx (i :: is)) := by
  refine (pss_cons h hr).imp fun D σ H q => ?_
  obtain ⟨C0, am, sq, env, s, hR, hF⟩ := q
  simp only [exs] at hF
  refine ⟨C0, am, sq, env, s, hR, ?_⟩
  cases e : ex gx i env s with
  | nx env' s' =>
    rw [e] at hF
    exact fun am' σ' H' st' h0 h1 h2 h3 => ⟨C0, am', st', env', s', ⟨h1, h3, hR.pf⟩, FinS.ext (r := exs gx is env' s') hF h2 h0⟩
  | ct env' s' => rw [e] at hF; exact hF
  | rt x s' => rw [e] at hF; exact hF
  | exc c x s' => rw [e] at hF; exact hF
  | bad => rw [e] at hF; exact hF
theorem ss_pass {pos : Pos} : PS X (.Pass pos) (rdS g gx Wx .pass) := by
  refine ps_pass.imp fun D σ H q => ?_
  obtain ⟨C0, am, sq, env, s, hR, hF⟩ := q
  simp only [ex] at hF
  exact hF am σ H sq (.refl _) hR.cells (Ext.refl _) hR.slots
theorem ss_cont {pos : Pos} : PS X (.Continue pos) (rdS g gx Wx .cont) := by
  refine ps_continue.imp fun D σ H q => ?_
  obtain ⟨C0, am, sq, env, s, hR, hF⟩ := q
  simp only [ex] at hF
  exact hF am σ H sq (.refl _) hR.cells (Ext.refl _) hR.slots
theorem ss_retN {pos : Pos} : PS X (.Return none pos) (rdS g gx Wx .retN) := by
  refine ps_retN.imp fun D σ H q => ?_
  obtain ⟨C0, am, sq, env, s, hR, hF⟩ := q
  simp only [ex] at hF
  exact hF am .non H sq (.refl _) hR.cells (Ext.refl _) relD_non
theorem ss_ret {e : Expr} {i : E} {pos : Pos} (h : PE X e (rdE g gx Wx i)) : PS X (.Return (some e) pos) (rdS g gx Wx (.ret i)) := by
  refine (ps_ret h).imp fun D σ H q => ?_
  obtain ⟨C0, am, sq, env, s, hR, hF⟩ := q
  simp only [ex] at hF
  exact ⟨C0, am, sq, env, s, hR, hF.esc fun d v H' st' s' hS hX hd h1 => h1 am v H' st' (.refl _) hS (Ext.refl _) hd⟩
theorem ss_expr {e : Expr} {i : E} {pos : Pos} (h : PE X e (rdE g gx Wx i)) (hs : swapsWith e none pos.line X.env = pure false) : PS X (.Expr e pos) (rdS g gx Wx (.expr i)) := by
  refine (ps_expr h hs).imp fun D σ H q => ?_
  obtain ⟨C0, am, sq, env, s, hR, hF⟩ := q
  simp only [ex] at hF
  exact ⟨C0, am, sq, env, s, hR, hF.bindS fun a s' e v H' st' hS hX hr h1 => h1 am σ H' st' (.refl _) hS (Ext.refl _) (hR.slots.ext hX)⟩
theorem test_st {a : E} {k k' : S → RS} : ((ev gx a env s).st fun w s => match view s w with | some (.bl true) => k s | some (.bl false) => k' s | _ => .bad) = (evT gx a env s).st fun b s => if b = true then k s else k' s := by
  unfold evT
  cases ev gx a env s with
  | ok x s1 =>
    show (match view s1 x with | some (.bl true) => k s1 | some (.bl false) => k' s1 | _ => .bad) = (match view s1 x with | some (.bl b) => R.ok b s1 | _ => R.bad).st _
    cases view s1 x with
    | none => rfl
    | some d => cases d <;> first | rfl | (rename_i b; cases b <;> rfl)
  | exc c x s1 => rfl
  | bad => rfl
theorem ss_if {c : Expr} {a b : List Stmt} {ic : E} {ia ib : List St} {pos : Pos} (hc : PT X c (rdT g gx Wx ic)) (ha : PSs X a (rdSs g gx Wx ia)) (hb : PSs X b (rdSs g gx Wx ib)) : PS X (.If c a b pos) (rdS g gx Wx (.ite ic ia ib)) := by
  refine (ps_if hc ha hb).imp fun D σ H q => ?_
  obtain ⟨C0, am, sq, env, s, hR, hF⟩ := q
  simp only [ex] at hF
  have hF : FinS g C0 am Wx (wdOf C0 am sq H s) ((evT gx ic env s).st fun b s => if b = true then exs gx ia env s else exs gx ib env s) D := Eq.mp (congrArg (fun r => FinS g C0 am Wx (wdOf C0 am sq H s) r D) (test_st (k := fun s => exs gx ia env s) (k' := fun s => exs gx ib env s))) hF
  refine ⟨C0, am, sq, env, s, hR, hF.bindS fun b s1 e1 b' H1 st1 hS1 hX1 hr1 h1 => ?_⟩
  have hr1 : b = b' := hr1
  subst hr1
  cases b with
  | true =>
    rw [if_pos rfl] at h1 ⊢
    exact ⟨C0, am, st1, env, s1, hR.at_ hS1 hX1, h1⟩
  | false =>
    rw [if_neg Bool.false_ne_true] at h1 ⊢
    exact ⟨C0, am, st1, env, s1, hR.at_ hS1 hX1, h1⟩
/-! ### stores -/
theorem asg_in {t : Tg} {i : E} (hK : X.K = g.K) (hR : Rel g C0 am st env s σ H) (hF : FinS g C0 am Wx (wdOf C0 am st H s) (ex gx (.asg t i) env s) D) : tAsg (rdE g gx Wx i) (tgG X.K t) D σ H := by
  simp only [ex] at hF
  refine ⟨C0, am, st, env, s, hR, hF.esc fun d v H1 st1 s1 hS1 hX1 hd h1 => ?_⟩
  cases e : bindT t d env with
  | none => rw [e] at h1; exact h1.elim
  | some env' =>
    rw [e] at h1
    exact tgG_in (X := X) (g := g) (am := am) (w := wdOf C0 am st1 H1 s1) (P := fun _ => True) hK t d v env env' σ _ e hd (hR.slots.ext hX1) (fun _ _ _ _ _ => trivial) trivial fun σ' hE _ => h1 am σ' H1 st1 (.refl _) hS1 (Ext.refl _) hE
theorem ss_asg {tg e : Expr} {t : Tg} {i : E} {pos : Pos} (hK : X.K = g.K) (h : PE X e (rdE g gx Wx i)) (hg : PG X tg (tgG X.K t)) (hs : swapsWithSole [tg] e pos.line X.env = pure false) (hw : swappedStores [tg] e X.env = pure none) (h1 : (assignEach [tg] X.env).map (·.2) = [assign tg X.env]) :
    PS X (.Assign [tg] e pos) (rdS g gx Wx (.asg t i)) := by
  refine (ps_asg h hg hs hw h1).imp fun D σ H q => ?_
  obtain ⟨C0, am, sq, env, s, hR, hF⟩ := q
  exact asg_in hK hR hF
/-! ### a new cell -/
theorem RelS.newCell {p : Addr} {o : HO} {d : Us.D} (n : C0 p = none) (h : RelS g (addC C0 p o) am st H s) (hc : RelC g (wdOf (addC C0 p o) am st H s) d o) :
    RelS g C0 (am ++ [p]) st H { s with cells := s.cells ++ [(true, d)] } ∧ Ext (wdOf (addC C0 p o) am st H s) (wdOf C0 (am ++ [p]) st H { s with cells := s.cells ++ [(true, d)] }) := by
  have hl := h.len
  have get : ∀ {m : Nat} {b : Bool} {x : D} {a : Addr}, (s.cells ++ [(true, d)])[m]? = some (b, x) → (am ++ [p])[m]? = some a → (m < s.cells.length ∧ s.cells[m]? = some (b, x) ∧ am[m]? = some a) ∨ (m = s.cells.length ∧ b = true ∧ x = d ∧ a = p) := fun {m b x a} e1 e2 => by
    by_cases hm : m < s.cells.length
    · rw [List.getElem?_append_left hm] at e1
      rw [List.getElem?_append_left (by rw [hl]; exact hm)] at e2
      exact .inl ⟨hm, e1, e2⟩
    · have hm2 : m = s.cells.length := by
        have := (List.getElem?_eq_some_iff.mp e1).1
        rw [List.length_append] at this
        simp at this
        omega
      subst hm2
      rw [List.getElem?_append_right (Nat.le_refl _)] at e1
      rw [List.getElem?_append_right (by omega)] at e2
      simp at e1
      rw [← hl] at e2
      simp at e2
      exact .inr ⟨rfl, e1.1, e1.2.symm, e2.symm⟩
  have cc : ∀ a, Cs C0 (am ++ [p]) (s.cells ++ [(true, d)]) st a → Cs (addC C0 p o) am s.cells st a := fun a q => by
    rcases q with q | ⟨m, x, q1, q2⟩ | q
    · exact .inl (addC_nm.mpr (.inl ⟨q, fun z => nm_of_none n (z ▸ q)⟩))
    · rcases get q1 q2 with ⟨_, e1, e2⟩ | ⟨_, _, _, e2⟩
      · exact .inr (.inl ⟨m, x, e1, e2⟩)
      · exact .inl (addC_nm.mpr (.inr e2))
    · exact .inr (.inr q)
  have hx : Ext (wdOf (addC C0 p o) am st H s) (wdOf C0 (am ++ [p]) st H { s with cells := s.cells ++ [(true, d)] }) :=
    ⟨fun _ _ h _ => h, fun _ _ h _ => h, fun _ _ _ h => h, fun _ _ h => h, fun _ _ h => h, fun a q => .inl (cc a q), fun _ h => h, .inr rfl, fun _ _ h => h⟩
  refine ⟨⟨by simp [hl], fun a b u q => h.c0 a b u (by rw [addC_ne (fun z => by rw [z, n] at q; cases q)]; exact q), fun m x a e1 e2 => ?_, fun m x a e1 e2 => ?_, fun m k x y a e1 e2 e3 e4 => ?_, fun m x a e1 e2 => ?_, fun a b q => ?_, h.tb⟩, hx⟩
  · rcases get e1 e2 with ⟨_, q1, q2⟩ | ⟨_, _, q1, q2⟩
    · obtain ⟨u, h3, h4⟩ := h.live m x a q1 q2
      exact ⟨u, h3, h4.ext hx⟩
    · subst q1; subst q2
      exact ⟨o, h.c0 _ _ _ addC_same, hc.ext hx⟩
  · rcases get e1 e2 with ⟨_, q1, q2⟩ | ⟨_, q1, _⟩
    · exact RelD.ext hx _ _ (h.dead m x a q1 q2)
    · cases q1
  · rcases get e1 e3 with ⟨_, q1, q2⟩ | ⟨r1, _, _, r2⟩ <;> rcases get e2 e4 with ⟨_, q3, q4⟩ | ⟨r3, _, _, r4⟩
    · exact h.apart m k x y a q1 q3 q2 q4
    · exact absurd r4 (addP_none.mp (h.out m x a q1 q2).1).2
    · exact absurd r2 (addP_none.mp (h.out k y a q3 q4).1).2
    · rw [r1, r3]
  · rcases get e1 e2 with ⟨_, q1, q2⟩ | ⟨_, _, q1, q2⟩
    · obtain ⟨h3, h4⟩ := h.out m x a q1 q2
      exact ⟨(addP_none.mp h3).1, h4⟩
    · subst q2
      refine ⟨n, fun p' q' e => ?_⟩
      obtain ⟨_, h5, h6⟩ := h.stm p' q' e
      exact ⟨fun z => (addP_none.mp h5).2 z.symm, fun z => (addP_none.mp h6).2 z.symm⟩
  · obtain ⟨q1, q2, q3⟩ := h.stm a b q
    exact ⟨q1, (addP_none.mp q2).1, (addP_none.mp q3).1⟩
theorem relC_isC {w : Wd} {d : Us.D} {o : HO} (h : RelC g w d o) : d.isC = true := by
  cases d with
  | lst _ => rfl
  | dic _ => rfl
  | _ => exact h.elim
theorem new_in {n : Nat} {i : E} (hm : mint i = true) (hR : Rel g C0 am st env s σ H) (hF : FinS g C0 am Wx (wdOf C0 am st H s) (ex gx (.new n i) env s) D) : rdN g gx Wx i σ H fun v H1 => D.nx (σ.set n (some v)) H1 := by
  simp only [ex] at hF
  rw [st_assoc] at hF
  refine ⟨C0, am, st, env, s, hR, hF.stN (fun s' w e => mint_d hm e) fun d s1 e1 p o H1 st1 np hS1 hX1 hc h1 => ?_⟩
  have hd := relC_isC hc
  have h2 : FinS g C0 am Wx (wdOf C0 am st H s) ((slot true (.d d) s1).st fun w s => .nx (env.set n (some w)) s) D := h1
  have es : slot true (.d d) s1 = .ok (.ref s1.cells.length) { s1 with cells := s1.cells ++ [(true, d)] } := by
    show (if d.isC = true then R.ok (W.ref s1.cells.length) { s1 with cells := s1.cells ++ [(true, d)] } else .bad) = _
    rw [if_pos hd]
  rw [es] at h2
  obtain ⟨a1, a2⟩ := hS1.newCell np hc
  refine h2 (am ++ [p]) (σ.set n (some (.ref p))) H1 st1 ⟨[p], rfl⟩ a1 (hX1.trans a2) ?_
  exact (((hR.slots.ext hX1).ext a2).more [p]).set n (x := .ref s1.cells.length) ⟨p, by rw [← hS1.len]; simp, rfl⟩
theorem ss_new {n : Nat} {x : Str} {e : Expr} {i : E} {pos pos' : Pos} (hm : mint i = true) (hN : X.N.Nodup) (hi : X.N[n]? = some x) (hx : Loc X.env.scope x) (h : PE X e (rdN g gx Wx i)) (hs : swapsWith e (some (.Name x pos')) pos.line X.env = pure false)
    (hf : X.fn x = true ∨ X.env.scope.names.lookup x = some .local) : PS X (.Assign [.Name x pos'] e pos) (rdS g gx Wx (.new n i)) := by
  refine (ps_set hN hi hx h hs hf).imp fun D σ H q => ?_
  obtain ⟨C0, am, sq, env, s, hR, hF⟩ := q
  exact new_in hm hR hF
end
end Us
end

section
set_option Elab.async false
set_option linter.all false
set_option maxRecDepth 100000
set_option maxHeartbeats 1000000
/-! Us.Snd14: loops. -/
namespace Us
open PySem PySem.Spec PyProof.Rows L2
def rdSi (g : Gp) (gx : G) (Wx : WX) (it : Us.It) (st : Us.St) : TS := fun D σ H => ∃ C0 am sq env s, Rel g C0 am sq env s σ H ∧ stillIt C0 env s σ it ∧ FinS g C0 am Wx (wdOf C0 am sq H s) (ex gx st env s) D
section
variable {X : Cx} {g g0 : Gp} {gx : G} {Wx : WX} {C0 : Pin} {am am1 : List Addr} {σ : L2.St} {sq : Option (Addr × Addr)} {H : Hp} {s : S} {env : Us.Env} {w w1 : Wd} {De : Ends}
theorem loop_body {t : Tg} {body : List Us.St} {r : Us.Env → S → RS} {N : L2.St → Hp → Prop} (hF : FinS g C0 am Wx w (match exs gx body env s with | .nx env s => r env s | .ct env s => r env s | q => q) De)
    (hN : ∀ env' s' am' σ' H' st', Pre am am' → RelS g C0 am' st' H' s' → Ext w (wdOf C0 am' st' H' s') → RelE g am' (wdOf C0 am' st' H' s') env' σ' → FinS g C0 am' Wx (wdOf C0 am' st' H' s') (r env' s') De → N σ' H') :
    FinS g C0 am Wx w (exs gx body env s) { De with nx := N, ct := N, bk := De.nx } := by
  cases e : exs gx body env s with
  | nx env' s' =>
    rw [e] at hF
    exact fun am' σ' H' st' h0 h1 h2 h3 => hN env' s' am' σ' H' st' h0 h1 h2 h3 (FinS.ext (r := r env' s') hF h2 h0)
  | ct env' s' =>
    rw [e] at hF
    exact fun am' σ' H' st' h0 h1 h2 h3 => hN env' s' am' σ' H' st' h0 h1 h2 h3 (FinS.ext (r := r env' s') hF h2 h0)
  | rt x s' => rw [e] at hF; exact hF
  | exc c x s' => rw [e] at hF; exact hF
  | bad => rw [e] at hF; exact hF
theorem ss_for {tg iter : Expr} {body : List Stmt} {t : Tg} {it : Us.It} {ib : List Us.St} {pos : Pos} (hK : X.K = g.K) (hp : PassesOwn (model X.prog X.w) X.A X.env X.xe) (hc : X.calm = true) (hi : PI X tg iter (rdI g gx Wx it)) (hg : PG X tg (tgG X.K t)) (hb : PSs X body (rdSs g gx Wx ib))
    (hs : ∀ x, foldedSetIterable iter X.env x = pure x) : PS X (.For tg iter body [] pos) (rdSi g gx Wx it (.for_ t it ib)) := by
  refine (ps_for hp hc hi hg hb hs).imp fun De σ H q => ?_
  obtain ⟨C0, am, sq, env, s, hR, hst, hF⟩ := q
  simp only [ex] at hF
  refine ⟨C0, am, sq, env, s, hR, hst, hF.bindS fun xs s1 e1 J H1 st1 hS1 hX1 hW h1 => ?_⟩
  refine ⟨fun i m σ H => m = xs.length - i ∧ i ≤ xs.length ∧ ∃ am' st' env' s', Pre am am' ∧ RelS g C0 am' st' H s' ∧ Ext (wdOf C0 am st1 H1 s1) (wdOf C0 am' st' H s') ∧ RelE g am' (wdOf C0 am' st' H s') env' σ ∧ FinS g C0 am' Wx (wdOf C0 am' st' H s') (forL t (exs gx ib) (xs.drop i) env' s') De,
    ⟨_, rfl, Nat.zero_le _, am, st1, env, s1, .refl _, hS1, Ext.refl _, hR.slots.ext hX1, by simpa using h1⟩, ?_⟩
  rintro i m σ2 H2 ⟨rfl, hle, am', st', env', s', hp', hS', hX', hE', hF'⟩
  by_cases hlt : i < xs.length
  · refine .inr ⟨hW.go _ am' st' H2 s' i (.refl _) hS' hX' hlt, fun σ' H' => ∃ am'' st'' env'' s'', Pre am am'' ∧ RelS g C0 am'' st'' H' s'' ∧ Ext (wdOf C0 am st1 H1 s1) (wdOf C0 am'' st'' H' s'') ∧ RelE g am'' (wdOf C0 am'' st'' H' s'') env'' σ' ∧ FinS g C0 am'' Wx (wdOf C0 am'' st'' H' s'') (forL t (exs gx ib) (xs.drop (i + 1)) env'' s'') De,
      fun σ' H' h => ⟨xs.length - (i + 1), by omega, rfl, by omega, h⟩, fun x H3 hy => ?_⟩
    obtain ⟨kp, d, ed, hd⟩ := hW.yld _ am' st' H2 s' i x H3 (.refl _) hS' hX' hlt hy
    have hS3 : RelS g C0 am' st' H3 s' := hS'.grow kp
    have hX3 : Ext (wdOf C0 am' st' H2 s') (wdOf C0 am' st' H3 s') := ext_grow kp
    have exd : xs.drop i = d :: xs.drop (i + 1) := by
      obtain ⟨h3, h4⟩ := List.getElem?_eq_some_iff.mp ed
      rw [List.drop_eq_getElem_cons h3, h4]
    rw [exd] at hF'
    simp only [forL] at hF'
    cases eb : bindT t d env' with
    | none => rw [eb] at hF'; exact hF'.elim
    | some env2 =>
      rw [eb] at hF'
      refine tgG_in (X := X) (g := g) (am := am') (w := wdOf C0 am' st' H3 s') (P := fun _ => True) hK t d x env' env2 σ2 _ eb hd (hE'.ext hX3) (fun _ _ _ _ _ => trivial) trivial fun σ3 hE3 _ => ?_
      refine ⟨C0, am', st', env2, s', ⟨hS3, hE3, hR.pf⟩, loop_body (t := t) (r := fun env s => forL t (exs gx ib) (xs.drop (i + 1)) env s) (FinS.ext hF' hX3 (.refl _)) fun env4 s4 am4 σ4 H4 st4 h0 h1 h2 h3 h4 => ?_⟩
      exact ⟨am4, st4, env4, s4, hp'.trans h0, h1, (hX'.trans hX3).trans h2, h3, h4⟩
  · have hi : i = xs.length := by omega
    subst hi
    rw [List.drop_length] at hF'
    exact .inl ⟨hW.stop _ am' st' H2 s' _ (.refl _) hS' hX' rfl, hF' am' σ2 H2 st' (.refl _) hS' (Ext.refl _) hE'⟩
theorem test_st2 {a : E} {k k' : S → RS} : ((ev gx a env s).st fun w s => match view s w with | some (.bl true) => k s | some (.bl false) => k' s | _ => .bad) = (evT gx a env s).st fun b s => if b = true then k s else k' s := test_st
theorem ss_while {c : Expr} {body : List Stmt} {ic : E} {ib : List Us.St} {pos : Pos} (hp : PassesOwn (model X.prog X.w) X.A X.env X.xe) (hc : PT X c (rdT g gx Wx ic)) (hb : PSs X body (rdSs g gx Wx ib)) : PS X (.While c body [] pos) (rdS g gx Wx (.while_ ic ib)) := by
  refine (ps_while hp hc hb).imp fun De σ H q => ?_
  obtain ⟨C0, am, sq, env, s, hR, hF⟩ := q
  simp only [ex] at hF
  refine ⟨fun m σ H => ∃ am' st' env' s', Pre am am' ∧ RelS g C0 am' st' H s' ∧ RelE g am' (wdOf C0 am' st' H s') env' σ ∧ FinS g C0 am' Wx (wdOf C0 am' st' H s') (whileL (ev gx ic) (exs gx ib) m env' s') De, ⟨whileFuel, am, sq, env, s, .refl _, hR.cells, hR.slots, hF⟩, ?_⟩
  rintro m σ2 H2 ⟨am', st', env', s', hp', hS', hE', hF'⟩
  cases m with
  | zero => exact (show False from hF').elim
  | succ m =>
    simp only [whileL] at hF'
    have hF' : FinS g C0 am' Wx (wdOf C0 am' st' H2 s') ((evT gx ic env' s').st fun b s => if b = true then (match exs gx ib env' s with | .nx env s => whileL (ev gx ic) (exs gx ib) m env s | .ct env s => whileL (ev gx ic) (exs gx ib) m env s | q => q) else .nx env' s) De :=
      Eq.mp (congrArg (fun r => FinS g C0 am' Wx (wdOf C0 am' st' H2 s') r De) (test_st (k := fun s => match exs gx ib env' s with | .nx env s => whileL (ev gx ic) (exs gx ib) m env s | .ct env s => whileL (ev gx ic) (exs gx ib) m env s | q => q) (k' := fun s => .nx env' s))) hF'
    refine ⟨C0, am', st', env', s', ⟨hS', hE', hR.pf⟩, hF'.bindS fun b s3 e3 b' H3 st3 hS3 hX3 hr3 h3 => ?_⟩
    have hr3 : b = b' := hr3
    subst hr3
    cases b with
    | false =>
      rw [if_neg Bool.false_ne_true] at h3 ⊢
      exact h3 am' σ2 H3 st3 (.refl _) hS3 (Ext.refl _) (hE'.ext hX3)
    | true =>
      rw [if_pos rfl] at h3 ⊢
      refine ⟨fun σ' H' => ∃ am'' st'' env'' s'', Pre am am'' ∧ RelS g C0 am'' st'' H' s'' ∧ RelE g am'' (wdOf C0 am'' st'' H' s'') env'' σ' ∧ FinS g C0 am'' Wx (wdOf C0 am'' st'' H' s'') (whileL (ev gx ic) (exs gx ib) m env'' s'') De, fun σ' H' h => ⟨m, Nat.lt_succ_self _, h⟩,
        C0, am', st3, env', s3, ⟨hS3, hE'.ext hX3, hR.pf⟩, loop_body (t := .nm 0) (r := fun env s => whileL (ev gx ic) (exs gx ib) m env s) h3 fun env4 s4 am4 σ4 H4 st4 h0 h1 h2 h3 h4 => ⟨am4, st4, env4, s4, hp'.trans h0, h1, h3, h4⟩⟩
end
end Us
end

section
set_option Elab.async false
set_option linter.all false
set_option maxRecDepth 100000
set_option maxHeartbeats 1000000
/-! Us.Snd15: methods that write. -/
namespace Us
open PySem PySem.Spec PyProof.Rows L2
section
variable {X : Cx} {g g0 : Gp} {gx : G} {Wx : WX} {C0 : Pin} {am am1 : List Addr} {σ : L2.St} {st : Option (Addr × Addr)} {H : Hp} {s : S} {env : Us.Env} {w w1 : Wd} {Q : V → Hp → Prop}
theorem RelS.live' (h : RelS g C0 am st H s) {n : Nat} {x : Us.D} {a : Addr} (e : s.cells[n]? = some (true, x)) (ea : am[n]? = some a) : Mut (H a) := by
  obtain ⟨o, h1, h2⟩ := h.live n x a e ea
  cases x with
  | lst xs =>
    obtain ⟨vs, rfl, _⟩ := h2
    exact .inl ⟨vs, h1⟩
  | dic kvs =>
    obtain ⟨ks, rfl, _⟩ := h2
    exact .inr ⟨ks, h1⟩
  | _ => exact h2.elim
/-- a live cell's content is written -/
theorem RelS.setCell {n : Nat} {x x' : Us.D} {a : Addr} {o' : HO} (h : RelS g C0 am st H s) (e : s.cells[n]? = some (true, x)) (ea : am[n]? = some a) (hc : RelC g (wdOf C0 am st H s) x' o') :
    RelS g C0 am st (upd H a o') { s with cells := s.cells.set n (true, x') } ∧ Ext (wdOf C0 am st H s) (wdOf C0 am st (upd H a o') { s with cells := s.cells.set n (true, x') }) := by
  have hn : n < s.cells.length := (List.getElem?_eq_some_iff.mp e).1
  have hm := h.live' e ea
  have get : ∀ {m : Nat} {b : Bool} {y : Us.D}, (s.cells.set n (true, x'))[m]? = some (b, y) → (m = n ∧ b = true ∧ y = x') ∨ (m ≠ n ∧ s.cells[m]? = some (b, y)) := fun {m b y} q => by
    by_cases hmn : n = m
    · subst hmn
      rw [List.getElem?_set_self hn] at q
      simp at q
      exact .inl ⟨rfl, q.1, q.2.symm⟩
    · rw [List.getElem?_set_ne hmn] at q
      exact .inr ⟨fun z => hmn z.symm, q⟩
  have cc : ∀ b, Cs C0 am (s.cells.set n (true, x')) st b → Cs C0 am s.cells st b := fun b q => by
    rcases q with q | ⟨m, y, q1, q2⟩ | q
    · exact .inl q
    · rcases get q1 with ⟨e1, _, _⟩ | ⟨_, e1⟩
      · subst e1
        exact .inr (.inl ⟨m, x, e, q2⟩)
      · exact .inr (.inl ⟨m, y, e1, q2⟩)
    · exact .inr (.inr q)
  have hx : Ext (wdOf C0 am st H s) (wdOf C0 am st (upd H a o') { s with cells := s.cells.set n (true, x') }) := ext_upd cc (.inr (.inl ⟨n, x, e, ea⟩)) hm (relC_tbl hc)
  obtain ⟨o1, o2⟩ := h.out n x a e ea
  refine ⟨⟨by simpa using h.len, fun b bb u q => ?_, fun m y b q1 q2 => ?_, fun m y b q1 q2 => ?_, fun m k y z b q1 q2 q3 q4 => ?_, fun m y b q1 q2 => ?_, fun p q e' => ?_, tabs_upd h.tb hm⟩, hx⟩
  · rw [upd_ne (fun z => by rw [z, o1] at q; cases q)]
    exact h.c0 b bb u q
  · rcases get q1 with ⟨e1, _, e3⟩ | ⟨e1, e2⟩
    · subst e1; subst e3
      rw [ea] at q2
      cases q2
      exact ⟨o', upd_same, hc.ext hx⟩
    · obtain ⟨u, h3, h4⟩ := h.live m y b e2 q2
      have hne : b ≠ a := fun z => e1 (h.apart m n y x b e2 e q2 (by rw [z]; exact ea))
      exact ⟨u, by rw [upd_ne hne]; exact h3, h4.ext hx⟩
  · rcases get q1 with ⟨_, e2, _⟩ | ⟨_, e2⟩
    · cases e2
    · exact RelD.ext hx _ _ (h.dead m y b e2 q2)
  · have f1 : ∃ y', s.cells[m]? = some (true, y') := by
      rcases get q1 with ⟨e1, _, _⟩ | ⟨_, e1⟩
      · subst e1; exact ⟨x, e⟩
      · exact ⟨y, e1⟩
    have f2 : ∃ y', s.cells[k]? = some (true, y') := by
      rcases get q2 with ⟨e1, _, _⟩ | ⟨_, e1⟩
      · subst e1; exact ⟨x, e⟩
      · exact ⟨z, e1⟩
    obtain ⟨y1, f1⟩ := f1
    obtain ⟨y2, f2⟩ := f2
    exact h.apart m k y1 y2 b f1 f2 q3 q4
  · rcases get q1 with ⟨e1, _, _⟩ | ⟨_, e1⟩
    · subst e1
      rw [ea] at q2
      cases q2
      exact ⟨o1, o2⟩
    · exact h.out m y b e1 q2
  · obtain ⟨q1, q2, q3⟩ := h.stm p q e'
    obtain ⟨n1, n2⟩ := o2 p q e'
    exact ⟨⟨q1.ne, by rw [upd_ne (Ne.symm n1)]; exact q1.hp, by rw [upd_ne (Ne.symm n2)]; exact q1.hq, q1.dg, q1.ct, q1.mx⟩, q2, q3⟩
/-- what a method on the slot i's list asks -/
theorem mut_in {m : Mu} {i : Nat} {is : Es} {r : V → List V → Hp → VK → Prop} (hu : m ≠ .update) (hR : Rel g C0 am st env s σ H) (hF : Fin g C0 am (RelW g am) Wx σ (wdOf C0 am st H s) (ev gx (.mut m i is) env s) Q)
    (hr : ∀ (n : Nat) (a : Addr) (xs ws : List Us.D) (vs us : List V) (x' d : Us.D) (H1 : Hp) (st1 : Option (Addr × Addr)) (s1 : S), ws.length = is.len → s1.cells[n]? = some (true, .lst xs) → am[n]? = some a → H1 a = some (.lst vs) → RelS g C0 am st1 H1 s1 → RelDs g (wdOf C0 am st1 H1 s1) xs vs → RelDs g (wdOf C0 am st1 H1 s1) ws us → muD m (.lst xs) ws = some (x', d) →
      (∀ (vs' : List V) (v : V), (∃ xs', x' = Us.D.lst xs' ∧ RelDs g (wdOf C0 am st1 H1 s1) xs' vs') → RelD g (wdOf C0 am st1 H1 s1) d v → Q v (upd H1 a (.lst vs'))) → r (.ref a) us H1 Q) :
    tBM X.K "list" r (tVar i) (rdX g gx Wx is) σ H Q := by
  simp only [ev] at hF
  cases e0 : env[i]? with
  | none => rw [e0] at hF; exact hF.elim
  | some o =>
    rw [e0] at hF
    cases o with
    | none => exact hF.elim
    | some w =>
      cases w with
      | d y => exact hF.elim
      | lam b e => exact hF.elim
      | exc c y => exact hF.elim
      | ref n =>
        obtain ⟨v, e1, a, ea, rfl⟩ := hR.slots.at_ i _ e0
        cases ec : s.cells[n]? with
        | none => simp only [ec] at hF; exact hF.elim
        | some p =>
          obtain ⟨b, x0⟩ := p
          cases b with
          | false => simp only [ec] at hF; exact hF.elim
          | true =>
            simp only [ec] at hF
            by_cases hk : muK m x0 = true
            case neg => rw [if_neg hk] at hF; exact hF.elim
            rw [if_pos hk] at hF
            refine ⟨.ref a, e1, ?_, ?_⟩
            · obtain ⟨o, h1, h2⟩ := hR.cells.live n x0 a ec ea
              cases x0 with
              | lst xs =>
                obtain ⟨vs, rfl, _⟩ := h2
                exact Or.inl ⟨rfl, _, Or.inl (Or.inl h1)⟩
              | dic kvs => cases m <;> simp [muK] at hk hu
              | _ => simp [muK] at hk
            · refine rdX_in hR hF fun ws us H1 st1 s1 hlen hR1 hX1 hr1 h1 => ?_
              split at h1
              · rename_i x ec1
                split at h1
                · rename_i x' d em
                  have hS1 := hR1.cells
                  obtain ⟨o, h3, h4⟩ := hS1.live n x a ec1 ea
                  have hxl : ∃ xs, x = .lst xs := by
                    cases x with
                    | lst xs => exact ⟨xs, rfl⟩
                    | dic kvs =>
                      exfalso
                      cases m <;> first | exact hu rfl | (simp [muD] at em)
                    | _ => exact h4.elim
                  obtain ⟨xs, rfl⟩ := hxl
                  obtain ⟨vs, rfl, h5⟩ := h4
                  refine hr n a xs ws vs us x' d H1 st1 s1 hlen ec1 ea h3 hS1 h5 hr1 em fun vs' v hx' hd => ?_
                  obtain ⟨xs', rfl, h6⟩ := hx'
                  obtain ⟨a1, a2⟩ := hS1.setCell (x' := .lst xs') (o' := .lst vs') ec1 ea ⟨vs', rfl, h6⟩
                  exact h1 v _ st1 a1 a2 (RelD.ext a2 _ _ hd)
                · exact h1.elim
              · exact h1.elim
theorem few_of {e : Expr} {cpos : Pos} (hs : NoStar e) : ((backTo cpos (starEach [e] X.env)).all (fun x => !x.1) && (backToKw cpos (keywordEach [] X.env)).all (fun x => x.1.isSome) && decide (([e] : List Expr).length + ([] : List Keyword).length + (if ([] : List Keyword).isEmpty then 0 else 1) < 30)) = true := by
  rw [hs]
  rfl
theorem sn_append {e : Expr} {x : Str} {i : Nat} {j : E} {p apos cpos : Pos} (ho : PE X (.Name x p) (tVar i)) (ha : PE X e (rdE g gx Wx j)) (hs : NoStar e) (hbase : attributeBase (.Name x p) "append" X.env (eval (.Name x p) X.env) = eval (.Name x p) X.env) (hline : (apos.endLine == cpos.line) = true) :
    PE X (.Call (.Attribute (.Name x p) "append" apos) [e] [] cpos) (rdE g gx Wx (.mut .append i (.cons j .nil))) := by
  refine (pe_bm PySem.F.plainAttrs_list PySem.F.slot_list_append PySem.F.type_list_append mt_append ho (sx_cons ha sx_nil hs) hbase (few_of hs) hline (hs _ _) (by rfl)).imp fun σ H Q q => ?_
  obtain ⟨C0, am, st, env, s, hR, hF⟩ := q
  refine mut_in (by simp) hR hF fun n a xs ws vs us x' d H1 st1 s1 hlen hc ea hH hS hx hw em hQ => ?_
  cases ws with
  | nil => simp [muD] at em
  | cons w ws =>
    cases ws with
    | cons _ _ => simp [muD] at em
    | nil =>
      simp only [RelDs] at hw
      obtain ⟨v, r, rfl, h1, rfl⟩ := hw
      simp only [muD] at em
      split at em
      · rename_i hl
        cases em
        refine ⟨a, vs, v, rfl, rfl, hH, by rw [← limL, hx.length]; exact hl, hQ _ _ ⟨_, rfl, hx.append (.cons h1 .nil)⟩ relD_non⟩
      · cases em
theorem sn_extend {e : Expr} {x : Str} {i : Nat} {j : E} {p apos cpos : Pos} (ho : PE X (.Name x p) (tVar i)) (ha : PE X e (rdE g gx Wx j)) (hs : NoStar e) (hbase : attributeBase (.Name x p) "extend" X.env (eval (.Name x p) X.env) = eval (.Name x p) X.env) (hline : (apos.endLine == cpos.line) = true) :
    PE X (.Call (.Attribute (.Name x p) "extend" apos) [e] [] cpos) (rdE g gx Wx (.mut .extend i (.cons j .nil))) := by
  refine (pe_bm PySem.F.plainAttrs_list PySem.F.slot_list_extend PySem.F.type_list_extend mt_extend ho (sx_cons ha sx_nil hs) hbase (few_of hs) hline (hs _ _) (by rfl)).imp fun σ H Q q => ?_
  obtain ⟨C0, am, st, env, s, hR, hF⟩ := q
  refine mut_in (by simp) hR hF fun n a xs ws vs us x' d H1 st1 s1 hlen hc ea hH hS hx hw em hQ => ?_
  cases ws with
  | nil => simp [muD] at em
  | cons w ws =>
    cases ws with
    | cons _ _ => cases w <;> simp [muD] at em
    | nil =>
      simp only [RelDs] at hw
      obtain ⟨v, r, rfl, h1, rfl⟩ := hw
      cases w with
      | lst ys =>
        simp only [muD] at em
        simp only [RelD] at h1
        obtain ⟨b, zs, rfl, nC, h2, h3⟩ := h1
        split at em
        · rename_i hl
          cases em
          refine ⟨a, b, vs, zs, rfl, rfl, hH, h2, by rw [← limL, hx.length, h3.length]; exact hl, hQ _ _ ⟨_, rfl, hx.append h3⟩ relD_non⟩
        · cases em
      | _ => simp [muD] at em
theorem sn_popAt {e : Expr} {x : Str} {i : Nat} {j : E} {p apos cpos : Pos} (ho : PE X (.Name x p) (tVar i)) (ha : PE X e (rdE g gx Wx j)) (hs : NoStar e) (hbase : attributeBase (.Name x p) "pop" X.env (eval (.Name x p) X.env) = eval (.Name x p) X.env) (hline : (apos.endLine == cpos.line) = true) :
    PE X (.Call (.Attribute (.Name x p) "pop" apos) [e] [] cpos) (rdE g gx Wx (.mut .pop i (.cons j .nil))) := by
  refine (pe_bm PySem.F.plainAttrs_list PySem.F.slot_list_pop PySem.F.type_list_pop mt_popAt ho (sx_cons ha sx_nil hs) hbase (few_of hs) hline (hs _ _) (by rfl)).imp fun σ H Q q => ?_
  obtain ⟨C0, am, st, env, s, hR, hF⟩ := q
  refine mut_in (by simp) hR hF fun n a xs ws vs us x' d H1 st1 s1 hlen hc ea hH hS hx hw em hQ => ?_
  cases ws with
  | nil =>
    simp [Es.len] at hlen
  | cons w ws =>
    cases ws with
    | cons _ _ => cases w <;> simp [muD] at em
    | nil =>
      simp only [RelDs] at hw
      obtain ⟨v, r, rfl, h1, rfl⟩ := hw
      cases w with
      | int k =>
        simp only [muD] at em
        simp only [RelD] at h1
        subst h1
        split at em
        · rename_i hk
          cases ep : place xs.length k with
          | none => rw [ep] at em; cases em
          | some m =>
            rw [ep] at em
            simp only [Option.bind_some] at em
            cases ey : xs[m]? with
            | none => rw [ey] at em; cases em
            | some y =>
              rw [ey] at em
              cases em
              obtain ⟨u, e2, e3⟩ := hx.get ey
              have e4 := place_ix ep
              refine ⟨a, vs, k, m, u, rfl, rfl, hH, by omega, by omega, ?_, e2, hQ _ _ ⟨_, rfl, hx.eraseIdx m⟩ e3⟩
              rw [hx.length]
              exact (ixN_seq e4).1
        · cases em
      | _ => simp [muD] at em
theorem sn_pop {x : Str} {i : Nat} {p apos cpos : Pos} (ho : PE X (.Name x p) (tVar i)) (hbase : attributeBase (.Name x p) "pop" X.env (eval (.Name x p) X.env) = eval (.Name x p) X.env) (hline : (apos.endLine == cpos.line) = true) :
    PE X (.Call (.Attribute (.Name x p) "pop" apos) [] [] cpos) (rdE g gx Wx (.mut .pop i .nil)) := by
  refine (pe_bm0 PySem.F.plainAttrs_list PySem.F.slot_list_pop PySem.F.type_list_pop mt_pop ho hbase hline).imp fun σ H Q q => ?_
  obtain ⟨C0, am, st, env, s, hR, hF⟩ := q
  have key : tBM X.K "list" (fun x vs H Q => vs = [] ∧ rPop x vs H Q) (tVar i) (rdX g gx Wx .nil) σ H Q := by
    refine mut_in (by simp) hR hF fun n a xs ws vs us x' d H1 st1 s1 hlen hc ea hH hS hx hw em hQ => ?_
    cases ws with
    | cons _ _ => simp [Es.len] at hlen
    | nil =>
      simp only [RelDs] at hw
      subst hw
      simp only [muD] at em
      split at em
      · rename_i y ey
        cases em
        rw [List.getLast?_eq_getElem?] at ey
        obtain ⟨u, e2, e3⟩ := hx.get ey
        refine ⟨rfl, a, vs, u, rfl, rfl, hH, by rw [hx.length]; exact e2, ?_⟩
        have e4 : vs.dropLast = vs.take (xs.length - 1) := by rw [List.dropLast_eq_take, hx.length]
        rw [e4]
        exact hQ _ _ ⟨_, rfl, by rw [List.dropLast_eq_take]; exact hx.take _⟩ e3
      · cases em
  obtain ⟨v, e1, hty, h2⟩ := key
  refine ⟨v, e1, hty, ?_⟩
  obtain ⟨C0', am', st', env', s', hR', hF'⟩ := h2
  have hF'' : Fin g C0' am' (RelDs g) Wx σ (wdOf C0' am' st' H s') (.ok [] s') (fun us H2 => us = [] ∧ rPop v us H2 Q) := by simpa only [evX] using hF'
  exact (hF'' [] H st' hR'.cells (Ext.refl _) .nil).2
end
end Us
end

section
set_option Elab.async false
set_option linter.all false
set_option maxRecDepth 100000
set_option maxHeartbeats 1000000
/-! Us.Snd16: what an expression's form tells, whatever the context. -/
namespace Us
open PySem PySem.Spec PyProof.Rows L2
def starred : Expr → Bool
  | .Starred _ _ => true
  | _ => false
theorem noStar_of {e : Expr} (h : starred e = false) : NoStar e := by
  intro es env
  cases e <;> first | rfl | (simp [starred] at h)
theorem plain_any {pos : Pos} {env : PySem.Env} : ∀ {es : List Expr}, (es.all fun e => !starred e) = true → (backTo pos (starEach es env)).any (·.1) = false
  | [], _ => rfl
  | e :: es, h => by
    rw [List.all_cons, Bool.and_eq_true] at h
    rw [noStar_of (by simpa using h.1) es env]
    show (backTo pos ((false, eval e env) :: starEach es env)).any (·.1) = false
    have ih := plain_any (pos := pos) (env := env) h.2
    unfold backTo at ih ⊢
    rw [List.map_cons, List.any_cons, ih]
    rfl
/-- its truth is its value's -/
def byValue : Expr → Bool
  | .Name .. => true | .Constant .. => true | .BinOp .. => true | .Call .. => true | .Subscript .. => true | .Attribute .. => true | .List .. => true | .Tuple .. => true | .Dict .. => true | .ListComp .. => true
  | .UnaryOp .USub _ _ => true
  | _ => false
theorem isTrue_val {e : Expr} (h : byValue e = true) (env : PySem.Env) (whole : Sem Value) : isTrue e env whole = (do let v ← whole; standAt e.pos; holding [v] (truthy v)) := by
  cases e with
  | UnaryOp op a pos => cases op <;> first | rfl | (simp [byValue] at h)
  | _ => first | rfl | (simp [byValue] at h)
def notSlice : Expr → Bool
  | .Slice .. => false
  | .Tuple .. => false
  | .Starred .. => false
  | _ => true
theorem plainIx_of {b : Expr} (h : notSlice b = true) : PlainIx b := by
  intro o i
  cases b <;> first | rfl | (simp [notSlice] at h)
def notSet : Expr → Bool
  | .Set .. => false
  | _ => true
theorem marks_of {o : CmpOp} {e : Expr} (h : notSet e = true) : behindInMarks o e = false := by
  cases e <;> first | rfl | (simp [notSet] at h)
theorem folded_of {e : Expr} {env : PySem.Env} {x : Value} (h : notSet e = true) : foldedSetIterable e env x = pure x := by
  cases e <;> first | rfl | (simp [notSet] at h)
def isComp : Expr → Bool
  | .ListComp .. => true | .SetComp .. => true | .DictComp .. => true
  | _ => false
theorem swaps_of {e : Expr} {t : Option Expr} {l : Nat} {env : PySem.Env} (h : isComp e = false) : swapsWith e t l env = pure false := by
  cases e <;> first | rfl | (simp [isComp] at h)
def isCall0 : Expr → Bool
  | .Call .. => true
  | _ => false
theorem attr_of' {e : Expr} {a : Str} {env : PySem.Env} {whole : Sem Value} (h : isCall0 e = false) : attributeBase e a env whole = whole := by
  cases e <;> first | rfl | (simp [isCall0] at h)
theorem plainT_of : ∀ {es : List Expr}, (es.all fun e => !starred e) = true → PlainT es
  | [], _ => fun env => ⟨rfl, rfl⟩
  | e :: es, h => by
    rw [List.all_cons, Bool.and_eq_true] at h
    intro env
    obtain ⟨h1, h2⟩ := plainT_of h.2 env
    have h3 : starred e = false := by simpa using h.1
    have e1 : ∃ f, assignEach (e :: es) env = (false, f) :: assignEach es env := by
      cases e <;> first | exact ⟨_, rfl⟩ | (simp [starred] at h3)
    obtain ⟨f, e1⟩ := e1
    rw [e1]
    refine ⟨by rw [List.length_cons, List.length_cons, h1], ?_⟩
    rw [List.findIdx?_cons, h2]
    rfl
end Us
end

section
set_option Elab.async false
set_option linter.all false
set_option maxRecDepth 100000
set_option maxHeartbeats 1000000
/-! Us.Snd17: a dict stands still while it is walked. -/
namespace Us
open PySem PySem.Spec PyProof.Rows L2
section
variable {X : Cx} {g g0 : Gp} {gx : G} {Wx : WX} {C0 C1 : Pin} {am am1 : List Addr} {σ : L2.St} {st : Option (Addr × Addr)} {H H' : Hp} {s : S} {env : Us.Env} {w w1 : Wd} {Q : V → Hp → Prop} {a p : Addr}
theorem cs_nm (hn : ∀ x, Nm C1 x → Nm C0 x) {x : Addr} (q : Cs C1 am s.cells st x) : Cs C0 am s.cells st x := by
  rcases q with q | q | q
  · exact .inl (hn x q)
  · exact .inr (.inl q)
  · exact .inr (.inr q)
theorem ext_nm (hn : ∀ x, Nm C1 x → Nm C0 x) : Ext (wdOf C0 am st H s) (wdOf C1 am st H s) :=
  ⟨fun _ _ h _ => h, fun _ _ h _ => h, fun _ _ _ h => h, fun _ _ h => h, fun _ _ h => h, fun x q => .inl (cs_nm hn q), fun _ h => h, .inr rfl, fun _ _ h => h⟩
theorem RelS.move (h : RelS g C0 am st H s) (e : Ext (wdOf C0 am st H s) (wdOf C1 am st H' s)) (hk : ∀ b, b ≠ a → H' b = H b) (hc : ∀ b bb o, C1 b = some (bb, o) → H' b = some o) (hC : ∀ b, b ≠ a → C0 b = none → C1 b = none)
    (hna : ¬ Cs C0 am s.cells st a) (hta : ∀ u, H a = some u → (∀ ps, u ≠ .tbl ps) ∧ ∀ q, u ≠ LamX.CodeO a q) : RelS g C1 am st H' s := by
  have live : ∀ {n x b}, s.cells[n]? = some (true, x) → am[n]? = some b → b ≠ a := fun {n x b} h1 h2 z => hna (.inr (.inl ⟨n, x, h1, z ▸ h2⟩))
  have stn : ∀ {p q}, st = some (p, q) → p ≠ a ∧ q ≠ a := fun {p q} h1 => ⟨fun z => hna (.inr (.inr ⟨p, q, h1, .inl z.symm⟩)), fun z => hna (.inr (.inr ⟨p, q, h1, .inr z.symm⟩))⟩
  refine ⟨h.len, hc, fun n x b h1 h2 => ?_, fun n x b h1 h2 => RelD.ext e _ _ (h.dead n x b h1 h2), h.apart, fun n x b h1 h2 => ?_, fun p q h1 => ?_, fun q hq => ?_⟩
  · obtain ⟨o, h3, h4⟩ := h.live n x b h1 h2
    exact ⟨o, by rw [hk b (live h1 h2)]; exact h3, h4.ext e⟩
  · obtain ⟨h3, h4⟩ := h.out n x b h1 h2
    exact ⟨hC b (live h1 h2) h3, h4⟩
  · obtain ⟨q1, q2, q3⟩ := h.stm p q h1
    obtain ⟨n1, n2⟩ := stn h1
    exact ⟨⟨q1.ne, by rw [hk p n1]; exact q1.hp, by rw [hk q n2]; exact q1.hq, q1.dg, q1.ct, q1.mx⟩, hC p n1 q2, hC q n2 q3⟩
  · obtain ⟨ps, h1, h2, h3⟩ := h.tb q hq
    refine ⟨ps, by rw [hk q.1 (fun z => (hta _ (z ▸ h1)).1 ps rfl)]; exact h1, h2, fun pos cv hcv => ?_⟩
    obtain ⟨c, e1, e2⟩ := h3 pos cv hcv
    refine ⟨c, e1, ?_⟩
    by_cases z : c = a
    · subst z
      exact absurd rfl ((hta _ e2).2 q.2)
    · rw [hk c z]; exact e2
/-- fewer pins -/
theorem RelS.less (h : RelS g C1 am st H s) (hle : PinLe C0 C1) (hn : ∀ x, Nm C0 x → Nm C1 x) : RelS g C0 am st H s ∧ Ext (wdOf C1 am st H s) (wdOf C0 am st H s) := by
  have hx : Ext (wdOf C1 am st H s) (wdOf C0 am st H s) := ext_nm hn
  have none_ : ∀ b, C1 b = none → C0 b = none := fun b e => by
    cases e0 : C0 b with
    | none => rfl
    | some q =>
      obtain ⟨bb, o⟩ := q
      rw [hle b bb o e0] at e; cases e
  refine ⟨⟨h.len, fun b bb o q => h.c0 b bb o (hle b bb o q), fun n x b h1 h2 => ?_, fun n x b h1 h2 => RelD.ext hx _ _ (h.dead n x b h1 h2), h.apart, fun n x b h1 h2 => ?_, fun p q h1 => ?_, h.tb⟩, hx⟩
  · obtain ⟨o, h3, h4⟩ := h.live n x b h1 h2
    exact ⟨o, h3, h4.ext hx⟩
  · obtain ⟨h3, h4⟩ := h.out n x b h1 h2
    exact ⟨none_ b h3, h4⟩
  · obtain ⟨q1, q2, q3⟩ := h.stm p q h1
    exact ⟨q1, none_ p q2, none_ q q3⟩
theorem nm_addF {o : HO} (ha : ¬ Nm C0 a) (x : Addr) : Nm (addP C0 a false o) x ↔ Nm C0 x := by
  unfold Nm
  by_cases z : x = a
  · subst z
    rw [addP_same]
    exact ⟨fun ⟨o', e⟩ => (by cases e), fun q => absurd q ha⟩
  · rw [addP_ne z]
theorem nm_addC {o : HO} (hn : ∀ x, Nm C1 x ↔ Nm C0 x) (x : Addr) : Nm (addC C1 p o) x ↔ Nm (addC C0 p o) x := by
  rw [addC_nm, addC_nm, hn x]
theorem pf_addF {od : Obj} {u : HO} (h : PinF C0) : PinF (addP C0 a false (.frz od u)) := fun b bb o' e => by
  by_cases z : b = a
  · rw [z, addP_same] at e
    cases e
    exact ⟨fun _ => ⟨_, _, rfl⟩, fun ps => by intro z; cases z⟩
  · rw [addP_ne z] at e; exact h b bb o' e
theorem le_addF {u o : HO} (hS : RelS g C0 am st H s) (ha : ¬ Nm C0 a) (e : H a = some o) : PinLe C0 (addP C0 a false o) := fun b bb o' q => by
  by_cases z : b = a
  · subst z
    rw [addP_same]
    have := hS.c0 b bb o' q
    rw [e] at this
    cases this
    cases bb with
    | true => exact absurd ⟨_, q⟩ ha
    | false => rfl
  · rw [addP_ne z]; exact q
theorem le_addC {o : HO} (hle : PinLe C0 C1) : PinLe (addC C0 p o) (addC C1 p o) := fun b bb o' q => by
  by_cases z : b = p
  · subst z
    rw [addC_same] at q ⊢
    exact q
  · rw [addC_ne z] at q ⊢
    exact hle b bb o' q
theorem ext_lock {od : Obj} {ks : List (Key × V)} (e : H a = some (.dK ks)) (hn : ∀ x, Nm C1 x → Nm C0 x) : Ext (wdOf C0 am st H s) (wdOf C1 am st (upd H a (.frz od (.dK ks))) s) := by
  have ne : ∀ {b : Addr} {u : HO}, H b = some u → u ≠ .dK ks → b ≠ a := fun {b u} h n z => by
    rw [z, e] at h
    exact n (Option.some.inj h).symm
  have up : ∀ {b : Addr} {u : HO}, H b = some u → u ≠ .dK ks → upd H a (.frz od (.dK ks)) b = some u := fun {b u} h n => by rw [upd_ne (ne h n)]; exact h
  refine ⟨fun b u h _ => up h (by simp), fun b u h _ => ?_, fun b o u h => up h (by simp), fun b vs h => ?_, fun b fs h => up h (by simp), fun b q => .inl (cs_nm hn q), fun b h => ?_, .inr rfl, fun b q h => up h (codeO_dK ks)⟩
  · have h : Rd H b (.dK u) := h
    by_cases z : b = a
    · subst z
      rcases h with h | ⟨ob, h⟩
      · rw [e] at h
        cases h
        exact .inr ⟨od, upd_same⟩
      · rw [e] at h; cases h
    · rcases h with h | ⟨ob, h⟩
      · exact .inl (by show upd H a _ b = _; rw [upd_ne z]; exact h)
      · exact .inr ⟨ob, by show upd H a _ b = _; rw [upd_ne z]; exact h⟩
  · rcases h with h | ⟨ob, h⟩
    · exact .inl (up h (by simp))
    · exact .inr ⟨ob, up h (by simp)⟩
  · show ¬ Gone (upd H a _) b
    by_cases z : b = a
    · exact ng_of (by rw [z, upd_same]) (fun _ z => by cases z)
    · obtain ⟨u, e1, e2⟩ := ng_get h
      exact ng_of (by rw [upd_ne z]; exact e1) e2
theorem ext_unlock {od : Obj} {ks : List (Key × V)} (e : H a = some (.frz od (.dK ks))) (hn : ∀ x, Nm C1 x → Nm C0 x) : Ext (wdOf C0 am st H s) (wdOf C1 am st (upd H a (.dK ks)) s) := by
  have up : ∀ {b : Addr} {u : HO}, H b = some u → u ≠ .frz od (.dK ks) → upd H a (.dK ks) b = some u := fun {b u} h n => by
    rw [upd_ne (fun z => by rw [z, e] at h; exact n (Option.some.inj h).symm)]
    exact h
  have cf : ∀ {c : Addr} {q : Str}, LamX.CodeO c q ≠ .frz od (.dK ks) := fun {c q} z => by unfold LamX.CodeO at z; cases z
  refine ⟨fun b u h _ => up h (by simp), fun b u h _ => ?_, fun b o u h => up h (by simp), fun b vs h => ?_, fun b fs h => up h (by simp), fun b q => .inl (cs_nm hn q), fun b h => ?_, .inr rfl, fun b q h => up h cf⟩
  · have h : Rd H b (.dK u) := h
    by_cases z : b = a
    · subst z
      rcases h with h | ⟨ob, h⟩
      · rw [e] at h; cases h
      · rw [e] at h
        cases h
        exact .inl upd_same
    · rcases h with h | ⟨ob, h⟩
      · exact .inl (by show upd H a _ b = _; rw [upd_ne z]; exact h)
      · exact .inr ⟨ob, by show upd H a _ b = _; rw [upd_ne z]; exact h⟩
  · rcases h with h | ⟨ob, h⟩
    · exact .inl (up h (by simp))
    · refine .inr ⟨ob, up h ?_⟩
      intro z
      cases z
  · show ¬ Gone (upd H a _) b
    by_cases z : b = a
    · exact ng_of (by rw [z, upd_same]) (fun _ z => by cases z)
    · obtain ⟨u, e1, e2⟩ := ng_get h
      exact ng_of (by rw [upd_ne z]; exact e1) e2
def itVar : Us.It → Option Nat
  | .e (.var i) => some i
  | .items (.var i) => some i
  | _ => none
theorem still_of {it : Us.It} (h : ∀ i, itVar it = some i → Still C0 env s σ i) : stillIt C0 env s σ it := by
  unfold stillIt
  split
  · exact h _ rfl
  · exact h _ rfl
  · trivial
/-- whatever is walked: the lock is set if it is wanted -/
theorem PE.lockN {x : Expr} {it : Us.It} {e : E} (h : PE X x (rdNS g gx Wx it e)) : PE X x (rdN g gx Wx e) := by
  refine ⟨fun pins s' σ H Q I q => ?_⟩
  obtain ⟨C0, am, st, env, s, hR, hF⟩ := q
  by_cases hst : stillIt C0 env s σ it
  · exact h.run pins s' σ H Q I ⟨C0, am, st, env, s, hR, hst, hF⟩
  · have : ∃ i, itVar it = some i ∧ ¬ Still C0 env s σ i := Classical.byContradiction fun z => hst (still_of fun i hi => Classical.byContradiction fun y => z ⟨i, hi, y⟩)
    obtain ⟨i, hi, hns⟩ := this
    have : ∃ kvs, env[i]? = some (some (.d (.dic kvs))) := Classical.byContradiction fun z => hns fun kvs hk => (z ⟨kvs, hk⟩).elim
    obtain ⟨kvs, hk⟩ := this
    obtain ⟨v, hv, hr⟩ := hR.slots.at_ i _ hk
    have hr : RelD g (wdOf C0 am st H s) (.dic kvs) v := hr
    simp only [RelD] at hr
    obtain ⟨a, ks, rfl, nC, hd, hks⟩ := hr
    have hS := hR.cells
    have na : ¬ Nm C0 a := fun z => nC (.inl z)
    rcases hd with hd | ⟨o, hd⟩
    · -- the lock
      refine (pe_lock h).run pins s' σ H Q I ⟨a, .dK ks, hd, trivial, fun od => ?_⟩
      have hn := nm_addF (C0 := C0) (a := a) (o := .frz od (.dK ks)) na
      have e1 : Ext (wdOf C0 am st H s) (wdOf (addP C0 a false (.frz od (.dK ks))) am st (upd H a (.frz od (.dK ks))) s) := ext_lock hd fun x => (hn x).mp
      have hS1 : RelS g (addP C0 a false (.frz od (.dK ks))) am st (upd H a (.frz od (.dK ks))) s := by
        refine hS.move (a := a) e1 (fun b hb => upd_ne hb) (fun b bb o q => ?_) (fun b hb q => by rw [addP_ne hb]; exact q) nC fun u hu => ?_
        · by_cases z : b = a
          · subst z
            rw [addP_same] at q
            cases q
            exact upd_same
          · rw [addP_ne z] at q
            rw [upd_ne z]
            exact hS.c0 b bb o q
        · rw [hd] at hu
          cases hu
          exact ⟨fun ps => by simp, fun q z => codeO_dK ks z.symm⟩
      refine ⟨_, am, st, env, s, ⟨hS1, hR.slots.ext e1, pf_addF hR.pf⟩, still_of fun j hj => ?_, ?_⟩
      · rw [hi] at hj
        cases hj
        exact fun kvs' hk' => ⟨a, false, od, ks, hv, addP_same⟩
      · revert hF
        cases hev : ev gx e env s with
        | bad => exact fun h => h
        | exc c y s2 =>
          intro hF cls d H' st' h1 h2 h3
          have l0 : PinLe C0 (addP C0 a false (.frz od (.dK ks))) := fun b bb o q => by
            by_cases z : b = a
            · exfalso
              subst z
              have h4 := hS.c0 b bb o q
              rw [hd] at h4
              cases h4
              cases bb with
              | true => exact na ⟨_, q⟩
              | false =>
                obtain ⟨od', u, e'⟩ := (hR.pf b _ _ q).1 rfl
                cases e'
            · rw [addP_ne z]; exact q
          obtain ⟨a1, a2⟩ := h1.less l0 (fun x => (hn x).mpr)
          exact hF cls d H' st' a1 ((e1.trans h2).trans a2) (h3.ext a2)
        | ok y s2 =>
          cases y with
          | d d =>
            intro hF p o H' st' np h1 h2 h3
            obtain ⟨np0, npa⟩ := addP_none.mp np
            have hH' : H' a = some (.frz od (.dK ks)) := h1.c0 a _ _ (by rw [addC_ne (Ne.symm npa)]; exact addP_same)
            refine ⟨hH', ?_⟩
            have e3 : Ext (wdOf (addC (addP C0 a false (.frz od (.dK ks))) p o) am st' H' s2) (wdOf (addC C0 p o) am st' (upd H' a (.dK ks)) s2) := ext_unlock hH' fun x => (nm_addC hn x).mpr
            refine hF p o (upd H' a (.dK ks)) st' np0 ?_ ((e1.trans h2).trans e3) (h3.ext e3)
            refine h1.move (a := a) e3 (fun b hb => upd_ne hb) (fun b bb o' q => ?_) (fun b hb q => ?_) ?_ fun u hu => ?_
            · by_cases z : b = a
              · subst z
                rw [addC_ne (Ne.symm npa)] at q
                rw [upd_same]
                have := hS.c0 b bb o' q
                rw [hd] at this
                exact this
              · rw [upd_ne z]
                refine h1.c0 b bb o' ?_
                by_cases y : b = p
                · subst y
                  rw [addC_same] at q ⊢
                  exact q
                · rw [addC_ne y] at q ⊢
                  rw [addP_ne z]
                  exact q
            · obtain ⟨q1, q2⟩ := addP_none.mp q
              rw [addP_ne hb] at q1
              exact addP_none.mpr ⟨q1, q2⟩
            · intro q
              rcases q with q | ⟨n, x, q1, q2⟩ | ⟨p', q', q, z⟩
              · rcases addC_nm.mp q with ⟨q, _⟩ | q
                · exact na ((hn a).mp q)
                · exact npa q.symm
              · obtain ⟨u, h4, h5⟩ := h1.live n x a q1 q2
                rw [hH'] at h4
                cases h4
                cases x with
                | lst _ => obtain ⟨_, z, _⟩ := h5; cases z
                | dic _ => obtain ⟨_, z, _⟩ := h5; cases z
                | _ => exact h5.elim
              · obtain ⟨z1, z2, z3⟩ := h1.stm p' q' q
                rcases z with z | z
                · subst z; rw [z1.hp] at hH'; cases hH'
                · subst z; rw [z1.hq] at hH'; cases hH'
            · rw [hH'] at hu
              cases hu
              exact ⟨fun ps => by simp, fun q z => by unfold LamX.CodeO at z; cases z⟩
          | _ => exact fun h => h
    · -- it is frozen: a pin
      have hle : PinLe C0 (addP C0 a false (.frz o (.dK ks))) := le_addF (u := .dK ks) hS na hd
      have hn := nm_addF (C0 := C0) (a := a) (o := .frz o (.dK ks)) na
      have e1 : Ext (wdOf C0 am st H s) (wdOf (addP C0 a false (.frz o (.dK ks))) am st H s) := ext_nm fun x => (hn x).mp
      have hS1 : RelS g (addP C0 a false (.frz o (.dK ks))) am st H s := by
        refine hS.move (a := a) e1 (fun b hb => rfl) (fun b bb o' q => ?_) (fun b hb q => by rw [addP_ne hb]; exact q) nC fun u hu => ?_
        · by_cases z : b = a
          · subst z
            rw [addP_same] at q
            cases q
            exact hd
          · rw [addP_ne z] at q
            exact hS.c0 b bb o' q
        · rw [hd] at hu
          cases hu
          exact ⟨fun ps => by simp, fun q z => by unfold LamX.CodeO at z; cases z⟩
      refine h.run pins s' σ H Q I ⟨_, am, st, env, s, ⟨hS1, hR.slots.ext e1, pf_addF hR.pf⟩, still_of fun j hj => ?_, ?_⟩
      · rw [hi] at hj
        cases hj
        exact fun kvs' hk' => ⟨a, false, o, ks, hv, addP_same⟩
      · revert hF
        cases ev gx e env s with
        | bad => exact fun h => h
        | exc c y s2 =>
          intro hF cls d H' st' h1 h2 h3
          obtain ⟨a1, a2⟩ := h1.less hle (fun x => (hn x).mpr)
          exact hF cls d H' st' a1 ((e1.trans h2).trans a2) (h3.ext a2)
        | ok y s2 =>
          cases y with
          | d d =>
            intro hF p o' H' st' np h1 h2 h3
            obtain ⟨np0, npa⟩ := addP_none.mp np
            obtain ⟨a1, a2⟩ := h1.less (le_addC hle) (fun x => (nm_addC hn x).mpr)
            exact hF p o' H' st' np0 a1 ((e1.trans h2).trans a2) (h3.ext a2)
          | _ => exact fun h => h
end
end Us
end

section
set_option Elab.async false
set_option linter.all false
set_option maxRecDepth 100000
set_option maxHeartbeats 1000000
/-! Us.Itr: enumerate over a tuple, zip over a list and a tuple. -/
namespace Us
open PySem PySem.Spec PyProof.Rows L2
/-- a list or a tuple -/
def SqA (k : Bool) (K : PySem.W.Frag) (H : Hp) (a : Addr) (xs : List V) : Prop := if k = true then SqL K H a xs else SqT K H a xs
def IterA (k : Bool) (h : Heap) (it a : Addr) (i : Nat) : Prop := if k = true then h.IsListIter it a i else h.IsTupleIter it a i
def IsA (k : Bool) (h : Heap) (a : Addr) (its : Array Value) : Prop := if k = true then h.IsList a its else h.IsTuple a its
theorem IterA.at {k : Bool} {h h' : Heap} {it a : Addr} {i : Nat} (x : IterA k h it a i) (e : ∀ o, h.get? it = some o → h'.get? it = some o) : IterA k h' it a i := by
  cases k with
  | true => exact Heap.IsListIter.at (h := h) x e
  | false => exact Heap.IsTupleIter.at (h := h) x e
theorem IterA.obj {k : Bool} {h : Heap} {it a : Addr} {i : Nat} (x : IterA k h it a i) : ∃ o, h.get? it = some o ∧ ∀ v, o.data ≠ .cell v := by
  cases k with
  | true =>
    obtain ⟨o, e, _, d⟩ := (show h.IsListIter it a i from x)
    exact ⟨o, e, fun v z => by rw [d] at z; cases z⟩
  | false =>
    obtain ⟨o, e, _, d⟩ := (show h.IsTupleIter it a i from x)
    exact ⟨o, e, fun v z => by rw [d] at z; cases z⟩
theorem IterA.lt {k : Bool} {h : Heap} {it a : Addr} {i : Nat} (x : IterA k h it a i) : it < h.objs.size := by
  obtain ⟨o, e, _⟩ := x.obj
  exact Heap.lt_size e
section
variable {X : Cx} {pins : List (Addr × Obj)} {σ : L2.St} {H : Hp} {s : Shared}
theorem sqA_at {k : Bool} {a : Addr} {xs : List V} (I : Inv X pins σ H s) (h : SqA k X.K H a xs) : ∃ its : List Value, Vals xs its ∧ IsA k s.heap a its.toArray := by
  cases k with
  | true =>
    obtain ⟨its, rv, p, _⟩ := I.list h
    exact ⟨its, rv, p.isList⟩
  | false =>
    obtain ⟨its, rv, p, _⟩ := I.tuple h
    exact ⟨its, rv, show s.heap.IsTuple a its.toArray from p⟩
theorem sqA_inj {k : Bool} {a : Addr} {xs ys : List V} (I : Inv X pins σ H s) (h : SqA k X.K H a xs) (h' : SqA k X.K H a ys) : xs = ys := by
  cases k with
  | true => exact I.list_inj h h'
  | false => exact I.tuple_inj h h'
theorem iterA_ne {k : Bool} {h : Heap} {it a : Addr} {i : Nat} {its : Array Value} (x : IterA k h it a i) (y : IsA k h a its) : a ≠ it := by
  cases k with
  | true =>
    obtain ⟨o, e, c, _⟩ := (show h.IsListIter it a i from x)
    obtain ⟨o', e', c', _⟩ := (show h.IsList a its from y)
    intro z
    subst z
    rw [e] at e'
    cases e'
    rw [c] at c'
    exact absurd c' (by decide)
  | false =>
    obtain ⟨o, e, c, _⟩ := (show h.IsTupleIter it a i from x)
    obtain ⟨o', e', c', _⟩ := (show h.IsTuple a its from y)
    intro z
    subst z
    rw [e] at e'
    cases e'
    rw [c] at c'
    exact absurd c' (by decide)
theorem drawsA {prog : Program} {w : World} {A : Around} {k : Bool} {it a : Addr} {its : Array Value} (hh : A.handled = none) (hne : a ≠ it) :
    Draws prog w A it [it, a] its.size (fun i v => its[i]? = some v) (fun i h => IterA k h it a i ∧ IsA k h a its) := by
  cases k with
  | true => exact Draws.list hh it a hne its
  | false => exact Draws.tuple hh it a hne its
theorem beginsA {k : Bool} {a : Addr} {its : Array Value} : ∃ o, Begins (.ref a) o (fun h => IsA k h a its) ∧ ∀ (h : Heap) (it : Addr), h.get? it = some o → IterA k h it a 0 := by
  cases k with
  | true => exact ⟨_, begins_list a its, fun h it e => ⟨_, e, rfl, rfl⟩⟩
  | false => exact ⟨_, begins_tuple a its, fun h it e => ⟨_, e, rfl, rfl⟩⟩
end
/-! ### zip -/
def ItzA (k1 k2 : Bool) (K : PySem.W.Frag) (a b : Addr) : L2.It :=
  ⟨fun i H => ∃ (xs ys : List V) (x y : V), SqA k1 K H a xs ∧ SqA k2 K H b ys ∧ xs[i]? = some x ∧ ys[i]? = some y,
    fun i H v H' => ∃ T x y, v = .ref T ∧ H T = none ∧ H' = upd H T (.tup [x, y]) ∧ (∀ xs, SqA k1 K H a xs → xs[i]? = some x) ∧ ∀ ys, SqA k2 K H b ys → ys[i]? = some y,
    fun i H => ∃ xs ys : List V, SqA k1 K H a xs ∧ SqA k2 K H b ys ∧ i ≤ xs.length ∧ i ≤ ys.length ∧ (i = xs.length ∨ i = ys.length)⟩
theorem turn_zipA {P : Program} {w : World} {K : PySem.W.Frag} {elts : List Expr} {kk : Nat} {tpos : Pos} {k1 k2 : Bool} {a b z TI TO i1 i2 : Addr} (S : ZipSep2 z TI TO i1 i2 [i1, a] [i2, b]) :
    Turn P w K (.Tuple elts kk tpos) (ItzA k1 k2 K a b) [z, TI, TO, i1, i2] z (fun i h => IsZip h z TI TO .none ∧ IsTupOf2 h TI (.ref i1) (.ref i2) ∧ (∃ x y, IsTupOf2 h TO x y) ∧ IterA k1 h i1 a i ∧ IterA k2 h i2 b i) where
  mem := by simp
  obj := fun i h st c hc => by
    obtain ⟨hz, hTI, ⟨x, y, hTO⟩, h1, h2⟩ := st
    have e' : c = z ∨ c = TI ∨ c = TO ∨ c = i1 ∨ c = i2 := by simpa using hc
    rcases e' with q | q | q | q | q
    · rw [q]; exact ⟨_, hz, fun v q => nomatch q⟩
    · rw [q]; exact ⟨_, hTI, fun v q => nomatch q⟩
    · rw [q]; exact ⟨_, hTO, fun v q => nomatch q⟩
    · rw [q]; exact h1.obj
    · rw [q]; exact h2.obj
  keep := fun i h h' st k => by
    obtain ⟨hz, hTI, ⟨x, y, hTO⟩, h1, h2⟩ := st
    exact ⟨k z (by simp) _ hz, k TI (by simp) _ hTI, ⟨x, y, k TO (by simp) _ hTO⟩, h1.at fun o q => k i1 (by simp) o q, h2.at fun o q => k i2 (by simp) o q⟩
  item := by
    intro X hP hw hK hc i pins s σ H E I hf st hg
    subst hP hw hK
    obtain ⟨hz, hTI, ⟨x0, y0, hTO⟩, h1, h2⟩ := st
    obtain ⟨xs, ys, x, y, hqx, hqy, hx, hy⟩ := hg
    obtain ⟨its, rv, p1⟩ := sqA_at I hqx
    obtain ⟨its2, rv2, p2⟩ := sqA_at I hqy
    obtain ⟨u, hu, ru⟩ := rv.get hx
    obtain ⟨u2, hu2, ru2⟩ := rv2.get hy
    have hzl : z < s.heap.objs.size := Heap.lt_size hz
    have hh : X.A.in1.handled = none := I.ok.hd hc
    have D1 := drawsA (prog := X.prog) (w := X.w) (A := X.A.in1) (k := k1) (its := its.toArray) hh (iterA_ne h1 p1)
    have D2 := drawsA (prog := X.prog) (w := X.w) (A := X.A.in1) (k := k2) (its := its2.toArray) hh (iterA_ne h2 p2)
    have l1 : i < its.toArray.size := by
      have := (List.getElem?_eq_some_iff.mp hu).1
      simpa using this
    have l2 : i < its2.toArray.size := by
      have := (List.getElem?_eq_some_iff.mp hu2).1
      simpa using this
    refine wpAny_pyNext_zipD2_item S D1 D2 hz hTI hTO ⟨h1, p1⟩ ⟨h2, p2⟩ l1 l2 fun v1 v2 h' tk e1 e2 z' TO' st1 st2 hT hsz hk => ?_
    have ev1 : v1 = u := by
      have e1 : its.toArray[i]? = some v1 := e1
      rw [List.getElem?_toArray, hu] at e1
      exact (Option.some.inj e1).symm
    have ev2 : v2 = u2 := by
      have e2 : its2.toArray[i]? = some v2 := e2
      rw [List.getElem?_toArray, hu2] at e2
      exact (Option.some.inj e2).symm
    subst ev1 ev2
    refine ⟨_, rfl, wpAny_letOwnedTupleGo_zip (s := { s with heap := h', toks := tk }) z' fun h'' z'' sb => ?_⟩
    have hT2 : h''.get? s.heap.objs.size = some { cls := .type "tuple", data := .seq #[v1, v2] } := (sb.2 _ (Nat.ne_of_gt hzl)).trans hT
    have new : ObjOk X.prog X.w (upd H s.heap.objs.size (.tup [x, y])) h'' s.heap.objs.size (.tup [x, y]) :=
      ⟨by show 2 ≤ sizeLine; decide, [v1, v2], .cons ru (.cons ru2 .nil), ⟨_, hT2, rfl, _, rfl⟩⟩
    have I1 : Inv X pins σ (upd H s.heap.objs.size (.tup [x, y])) { s with heap := h'', toks := tk } :=
      I.turnedNew (t' := tk) (ch := [z, TI, TO, i1, i2]) (fun c o hb q => (sb.2 c (fun q' => hb (by simp [q']))).trans (hk c o (fun q' => hb (by simp [q'])) (fun q' => hb (by simp [q'])) (fun q' => hb (by simp [q'])) (fun q' => hb (by simp [q'])) q)) hf (Nat.le_refl _) new
    refine ⟨.ref s.heap.objs.size, _, I1, rfl, ⟨_, x, y, rfl, I.hok.fresh (Nat.le_refl _), rfl, fun l hl => by rw [sqA_inj I hl hqx]; exact hx, fun l hl => by rw [sqA_inj I hl hqy]; exact hy⟩, ⟨z'', ?_, ⟨v1, v2, ?_⟩, ?_, ?_⟩, fun c hcm => ?_⟩
    · exact (sb.2 _ S.TIz).trans (hk _ _ S.TIz S.TITO S.TIi1 S.TIi2 hTI)
    · exact (sb.2 _ S.TOz).trans TO'
    · exact st1.1.at fun o q => (sb.2 _ (Ne.symm S.zi1)).trans q
    · exact st2.1.at fun o q => (sb.2 _ (Ne.symm S.zi2)).trans q
    · have hlt : c < s.heap.objs.size := by
        have e' : c = z ∨ c = TI ∨ c = TO ∨ c = i1 ∨ c = i2 := by simpa using hcm
        rcases e' with q | q | q | q | q
        · rw [q]; exact hzl
        · rw [q]; exact Heap.lt_size hTI
        · rw [q]; exact Heap.lt_size hTO
        · rw [q]; exact h1.lt
        · rw [q]; exact h2.lt
      rw [upd_ne (Nat.ne_of_lt hlt)]
      exact (hf c hcm).1
  done := by
    intro X hP hw hK hc i pins s σ H E I hf st hg
    subst hP hw hK
    obtain ⟨hz, hTI, ⟨x0, y0, hTO⟩, h1, h2⟩ := st
    obtain ⟨xs, ys, hqx, hqy, hle1, hle2, hend⟩ := hg
    obtain ⟨its, rv, p1⟩ := sqA_at I hqx
    obtain ⟨its2, rv2, p2⟩ := sqA_at I hqy
    have l1 := rv.length
    have l2 := rv2.length
    have hh : X.A.in1.handled = none := I.ok.hd hc
    have D1 := drawsA (prog := X.prog) (w := X.w) (A := X.A.in1) (k := k1) (its := its.toArray) hh (iterA_ne h1 p1)
    have D2 := drawsA (prog := X.prog) (w := X.w) (A := X.A.in1) (k := k2) (its := its2.toArray) hh (iterA_ne h2 p2)
    exact wpAny_pyNext_zipD2_end S D1 D2 hz hTI hTO ⟨h1, p1⟩ ⟨h2, p2⟩ (by simp; omega) (by simp; omega) (by simp; omega) fun h' tk hk => ⟨rfl, I.turnedL (t' := tk) (ch := [z, TI, TO, i1, i2]) (fun c o hb q =>
      hk c o (fun q' => hb (by simp [q'])) (fun q' => hb (by simp [q'])) (fun q' => hb (by simp [q'])) (fun q' => hb (by simp [q'])) q) hf⟩
  self := fun A i s Q E st h => wpAny_pyIter_zip st.1 h
theorem pi_zipK {X : Cx} {e e2 : Expr} {ta : TA} {p pos tpos : Pos} {elts : List Expr} {kk : Nat} (hg : Gl X "zip") (hm : X.mg "zip" = none) (ha : PA X [e, e2] ta)
    (hs : starEach [e, e2] X.env = (false, eval e X.env) :: starEach [e2] X.env) (hpl : (backTo pos (starEach [e2] X.env)).any (·.1) = false) :
    PI X (.Tuple elts kk tpos) (.Call (.Name "zip" p) [e, e2] [] pos) (fun σ H R => ta σ H fun vs H1 => ∃ a b xs ys k1 k2, vs = [.ref a, .ref b] ∧ SqA k1 X.K H1 a xs ∧ SqA k2 X.K H1 b ys ∧ R (ItzA k1 k2 X.K a b) H1) := by
  refine ⟨fun pins s σ H R I h => ?_⟩
  refine Call_ (ld_blt I hg hm PyProof.Rows.boot_zip (PyProof.Rows.callWith_type1 (thn (ha.run pos pins s σ H _ I h) fun us s1 ⟨vs, H1, I1, r1, q1⟩ => ?_) hs hpl))
  obtain ⟨a, b, xs, ys, k1, k2, ex, hqx, hqy, q⟩ := q1
  subst ex
  cases r1 with
  | cons r rr =>
    cases rr with
    | cons r' rr =>
      cases rr
      cases r
      cases r'
      have fresh5 : ∀ c, c ∈ [s1.heap.objs.size + 4, s1.heap.objs.size + 2, s1.heap.objs.size + 3, s1.heap.objs.size, s1.heap.objs.size + 1] → FpOk X pins H1 c := fun c hcm => by
        have e' : c = s1.heap.objs.size + 4 ∨ c = s1.heap.objs.size + 2 ∨ c = s1.heap.objs.size + 3 ∨ c = s1.heap.objs.size ∨ c = s1.heap.objs.size + 1 := by simpa using hcm
        have hle : s1.heap.objs.size ≤ c := by omega
        exact I1.fpOk hle (I1.hok.fresh hle)
      obtain ⟨its, rv, p1⟩ := sqA_at I1 hqx
      obtain ⟨its2, rv2, p2⟩ := sqA_at I1 hqy
      obtain ⟨o1, B1, g1⟩ := beginsA (k := k1) (a := a) (its := its.toArray)
      obtain ⟨o2, B2, g2⟩ := beginsA (k := k2) (a := b) (its := its2.toArray)
      have la : a < s1.heap.objs.size := by
        cases k1 with
        | true => obtain ⟨_, e, _⟩ := (show s1.heap.IsList a _ from p1); exact Heap.lt_size e
        | false => obtain ⟨_, e, _⟩ := (show s1.heap.IsTuple a _ from p1); exact Heap.lt_size e
      have lb : b < s1.heap.objs.size := by
        cases k2 with
        | true => obtain ⟨_, e, _⟩ := (show s1.heap.IsList b _ from p2); exact Heap.lt_size e
        | false => obtain ⟨_, e, _⟩ := (show s1.heap.IsTuple b _ from p2); exact Heap.lt_size e
      refine zip_begins2 B1 B2 p1 p2 fun h' hz hTI hTO h1 h2 hsz hk => wpAny_pyIter_zip hz ?_
      have I2 : Inv X pins σ H1 { s1 with heap := h' } := I1.kept (t' := s1.toks) hk
      have S : ZipSep2 (s1.heap.objs.size + 4) (s1.heap.objs.size + 2) (s1.heap.objs.size + 3) s1.heap.objs.size (s1.heap.objs.size + 1) (s1.heap.objs.size :: [a]) ((s1.heap.objs.size + 1) :: [b]) :=
        zip_sep2 (by simpa using la) (by simpa using lb)
      exact ⟨s1.heap.objs.size + 4, [s1.heap.objs.size + 4, s1.heap.objs.size + 2, s1.heap.objs.size + 3, s1.heap.objs.size, s1.heap.objs.size + 1], _, _, H1, rfl, I2, turn_zipA S, ⟨hz, hTI, ⟨_, _, hTO⟩, g1 _ _ h1, g2 _ _ h2⟩, fresh5, q⟩
end Us
end

section
set_option Elab.async false
set_option linter.all false
set_option maxRecDepth 100000
set_option maxHeartbeats 1000000
/-! Us.Itr2: enumerate over a list or a tuple. -/
namespace PySem
open Sem (wp)
open AutoSeq1 (wpAny_loadPart')
set_option maxHeartbeats 1000000 in
theorem us_enumerate_new1 {v : Value} {o : Obj} {H : Heap → Prop} (B : Begins v o H) :
    Meets (Builtin.«enumerate.__new__» ⟨[.type "enumerate", v], []⟩) (fun _ R s => H s.heap ∧
      R (.ok (.ret (.ref (s.heap.push o).objs.size))) { s with heap := (s.heap.push o).push { cls := .type "enumerate", data := .fields #[.none, .bool false, .ref s.heap.objs.size, rawInt 0, .none, .none] } }) :=
  .of_wp fun prog w A R s h => by
    obtain ⟨hp, g, d, tk, os⟩ := s; obtain ⟨h1, h⟩ := h
    have hsub := sub_enumerate
    have q1 : ∀ {A' : Around} {E : Value → Shared → Prop} {Q : Value → Shared → Prop}, Q (.ref hp.objs.size) ⟨hp.push o, g, d, tk, os⟩ → wpAny (model prog w) A' (pyIter v) Q E ⟨hp, g, d, tk, os⟩ :=
      fun q => B.iter prog w _ _ ⟨hp, g, d, tk, os⟩ _ h1 q
    wp_walk using q1
    refine wpAny_stack_any fun st => wpAny_pure ?_
    split
    · rename_i c _ _ _ _ _
      cases (c == Value.type "enumerate")
      · wp_walk using q1
        exact ⟨_, rfl, h⟩
      · wp_walk using q1
        exact ⟨_, rfl, h⟩
    · wp_walk using q1
      exact ⟨_, rfl, h⟩
section
variable {prog : Program} {w : World} {A : Around} {E : Value → Shared → Prop} {s : Shared}
theorem us_enum1 {v : Value} {o : Obj} {H : Heap → Prop} {Q : Value → Shared → Prop} (B : Begins v o H) (h1 : H s.heap)
    (h : ∀ h', IsEnum h' (s.heap.objs.size + 1) s.heap.objs.size 0 .none → h'.get? s.heap.objs.size = some o → h'.objs.size = s.heap.objs.size + 2 →
      (∀ b o, s.heap.get? b = some o → h'.get? b = some o) → Q (.ref (s.heap.objs.size + 1)) { s with heap := h' }) :
    wpAny (model prog w) A (call (.type "enumerate") [v]) Q E s := by
  refine callType_new F.called_enumerate (by decide) (F.typeCall_enumerate_1 _) (F.newCall_enumerate_1 _) (fun obj => F.args_object_init_2 obj _) F.entry_enumerate_new
    (us_enumerate_new1 B) ⟨h1, ?_⟩
  have hz : (s.heap.push o).objs.size = s.heap.objs.size + 1 := Heap.size_push ..
  show _ ∧ _
  rw [hz]
  have he : IsEnum ((s.heap.push o).push { cls := .type "enumerate", data := .fields #[.none, .bool false, .ref s.heap.objs.size, rawInt 0, .none, .none] }) (s.heap.objs.size + 1) s.heap.objs.size 0 .none := by
    have := Heap.get?_push_size (s.heap.push o) (o := { cls := .type "enumerate", data := .fields #[.none, .bool false, .ref s.heap.objs.size, rawInt 0, .none, .none] }) rfl
    rw [hz] at this; exact this
  exact ⟨⟨_, he, rfl⟩, h _ he (Heap.get?_push_of_some _ (Heap.get?_push_size _ B.free)) (by rw [Heap.size_push, hz]) fun b o x => Heap.get?_push_of_some _ (Heap.get?_push_of_some _ x)⟩
end
end PySem
namespace Us
open PySem PySem.Spec PyProof.Rows L2
def IteA (k : Bool) (K : PySem.W.Frag) (a : Addr) : L2.It :=
  ⟨fun i H => ∃ (xs : List V) (x : V), SqA k K H a xs ∧ xs[i]? = some x, fun i H v H' => ∃ T x, v = .ref T ∧ H T = none ∧ H' = upd H T (.tup [.int (i : Nat), x]) ∧ ∀ xs, SqA k K H a xs → xs[i]? = some x, fun i H => ∃ xs : List V, SqA k K H a xs ∧ i = xs.length⟩
theorem turn_enumA {P : Program} {w : World} {K : PySem.W.Frag} {elts : List Expr} {kk : Nat} {tpos : Pos} {k : Bool} (a e it : Addr) (hae : a ≠ e) :
    Turn P w K (.Tuple elts kk tpos) (IteA k K a) [e, it] e (fun i h => (∃ old, IsEnum h e it ((i : Nat) : Int) old) ∧ IterA k h it a i ∧ e ≠ it) where
  mem := by simp
  obj := fun i h st b hb => by
    obtain ⟨⟨old, he⟩, hi, _⟩ := st
    have e' : b = e ∨ b = it := by simpa using hb
    rcases e' with z | z
    · rw [z]; exact ⟨_, he, fun v q => nomatch q⟩
    · rw [z]; exact hi.obj
  keep := fun i h h' st k => let ⟨⟨old, he⟩, hi, hne⟩ := st; ⟨⟨old, k e (by simp) _ he⟩, hi.at fun o q => k it (by simp) o q, hne⟩
  item := by
    intro X hP hw hK hc i pins s σ H E I hf st hg
    subst hP hw hK
    obtain ⟨⟨old, he⟩, hit, hne⟩ := st
    obtain ⟨xs, x, hq, hx⟩ := hg
    obtain ⟨its, rv, p⟩ := sqA_at I hq
    obtain ⟨u, hu, ru⟩ := rv.get hx
    have hel : e < s.heap.objs.size := Heap.lt_size he
    have hil : it < s.heap.objs.size := hit.lt
    have hh : X.A.in1.handled = none := I.ok.hd hc
    have D := drawsA (prog := X.prog) (w := X.w) (A := X.A.in1) (k := k) (its := its.toArray) hh (iterA_ne hit p)
    have l1 : i < its.toArray.size := by
      have := (List.getElem?_eq_some_iff.mp hu).1
      simpa using this
    refine wpAny_pyNext_enum_itemD D he ⟨hit, p⟩ l1 hne (by simp [hne, Ne.symm hae]) fun v h' tk e1 ho st' hT hsz hk => ?_
    have ev : v = u := by
      have e1 : its.toArray[i]? = some v := e1
      rw [List.getElem?_toArray, hu] at e1
      exact (Option.some.inj e1).symm
    subst ev
    refine ⟨_, rfl, wpAny_letOwnedTupleGo_enum (s := { s with heap := h', toks := tk + 1 }) ho fun h'' he' sb => ?_⟩
    have hT2 : h''.get? s.heap.objs.size = some { cls := .type "tuple", data := .seq #[.int i tk, v] } := (sb.2 _ (Nat.ne_of_gt hel)).trans hT
    have new : ObjOk X.prog X.w (upd H s.heap.objs.size (.tup [.int (i : Nat), x])) h'' s.heap.objs.size (.tup [.int (i : Nat), x]) :=
      ⟨by show 2 ≤ sizeLine; decide, [.int i tk, v], .cons ⟨_, rfl⟩ (.cons ru .nil), ⟨_, hT2, rfl, _, rfl⟩⟩
    have I1 : Inv X pins σ (upd H s.heap.objs.size (.tup [.int (i : Nat), x])) { s with heap := h'', toks := tk + 1 } :=
      I.turnedNew (ch := [e, it]) (fun b ob hb q => (sb.2 b (fun z => hb (by simp [z]))).trans (hk b ob (fun z => hb (by simp [z])) (fun z => hb (by simp [z])) q)) hf (Nat.le_refl _) new
    refine ⟨.ref s.heap.objs.size, _, I1, rfl, ⟨_, x, rfl, I.hok.fresh (Nat.le_refl _), rfl, fun ys hy => by rw [sqA_inj I hy hq]; exact hx⟩, ⟨⟨v, ?_⟩, st'.1.at fun o q => (sb.2 it (Ne.symm hne)).trans q, hne⟩, fun b hb => ?_⟩
    · have e1 : ((i + 1 : Nat) : Int) = (i : Int) + 1 := by omega
      rw [e1]; exact he'
    · have hb' : b < s.heap.objs.size := by
        have e' : b = e ∨ b = it := by simpa using hb
        rcases e' with z | z
        · rw [z]; exact hel
        · rw [z]; exact hil
      rw [upd_ne (Nat.ne_of_lt hb')]
      exact (hf b hb).1
  done := by
    intro X hP hw hK hc i pins s σ H E I hf st hg
    subst hP hw hK
    obtain ⟨⟨old, he⟩, hit, hne⟩ := st
    obtain ⟨xs, hq, hx⟩ := hg
    obtain ⟨its, rv, p⟩ := sqA_at I hq
    obtain ⟨f0, f1, f2, f3, f4, f5⟩ := hf it (by simp)
    have hl := rv.length
    have hh : X.A.in1.handled = none := I.ok.hd hc
    have D := drawsA (prog := X.prog) (w := X.w) (A := X.A.in1) (k := k) (its := its.toArray) hh (iterA_ne hit p)
    have hi : i = its.toArray.size := by simp; omega
    subst hi
    exact wpAny_pyNext_enum_endD D he ⟨hit, p⟩ fun h' eb => ⟨rfl, I.turned (t' := s.toks) (fun b o hb q => eb b o hb q) f0 f1 f3 f4 f5⟩
  self := fun A i s Q E st h => let ⟨⟨_, he⟩, _⟩ := st; wpAny_pyIter_enum he h
theorem pi_enumK {X : Cx} {e : Expr} {ta : TA} {p pos tpos : Pos} {elts : List Expr} {kk : Nat} (hg : Gl X "enumerate") (hm : X.mg "enumerate" = none) (ha : PA X [e] ta) (hs : starEach [e] X.env = [(false, eval e X.env)]) :
    PI X (.Tuple elts kk tpos) (.Call (.Name "enumerate" p) [e] [] pos) (fun σ H R => ta σ H fun vs H1 => ∃ a xs k, vs = [.ref a] ∧ SqA k X.K H1 a xs ∧ R (IteA k X.K a) H1) := by
  refine ⟨fun pins s σ H R I h => ?_⟩
  refine Call_ (ld_blt I hg hm boot_enumerate (PyProof.Rows.callWith_type1 (thn (ha.run pos pins s σ H _ I h) fun us s1 ⟨vs, H1, I1, r1, q1⟩ => ?_) hs rfl))
  obtain ⟨a, xs, k, ex, hq, q⟩ := q1
  subst ex
  cases r1 with
  | cons r rr =>
    cases rr
    cases r
    obtain ⟨its, rv, p'⟩ := sqA_at I1 hq
    obtain ⟨o1, B1, g1⟩ := beginsA (k := k) (a := a) (its := its.toArray)
    have la : a < s1.heap.objs.size := by
      cases k with
      | true => obtain ⟨_, e, _⟩ := (show s1.heap.IsList a _ from p'); exact Heap.lt_size e
      | false => obtain ⟨_, e, _⟩ := (show s1.heap.IsTuple a _ from p'); exact Heap.lt_size e
    refine us_enum1 B1 p' fun h' he hit hsz hk => wpAny_pyIter_enum he ?_
    have I2 : Inv X pins σ H1 { s1 with heap := h' } := I1.kept (t' := s1.toks) hk
    refine ⟨s1.heap.objs.size + 1, [s1.heap.objs.size + 1, s1.heap.objs.size], _, _, H1, rfl, I2, turn_enumA a (s1.heap.objs.size + 1) s1.heap.objs.size (Nat.ne_of_lt (Nat.lt_succ_of_lt la)), ⟨⟨.none, he⟩, g1 _ _ hit, Nat.succ_ne_self _⟩, fun b hb => ?_, q⟩
    have e' : b = s1.heap.objs.size + 1 ∨ b = s1.heap.objs.size := by simpa using hb
    have hle : s1.heap.objs.size ≤ b := by
      rcases e' with z | z
      · rw [z]; exact Nat.le_add_right _ _
      · rw [z]; exact Nat.le_refl _
    exact I1.fpOk hle (I1.hok.fresh hle)
/-! ### the readings -/
section
variable {X : Cx} {g g0 : Gp} {gx : G} {Wx : WX} {C0 : Pin} {am : List Addr} {σ : L2.St} {st : Option (Addr × Addr)} {H : Hp} {s : S} {env : Us.Env} {w w1 : Wd} {tg : Expr}
theorem seq_rel (hK : X.K = g.K) {d : Us.D} {xs : List Us.D} {v : V} (hd : RelD g w d v) (e : seqD d = some xs) : ∃ a k vs, v = .ref a ∧ RelDs g w xs vs ∧ ∀ {C1 : Pin} am st H s, Ext w (wdOf C1 am st H s) → SqA k X.K H a vs := by
  cases d with
  | lst ys =>
    cases e
    simp only [RelD] at hd
    obtain ⟨a, vs, rfl, n, h1, h2⟩ := hd
    exact ⟨a, true, vs, rfl, h2, fun am st H s e => .inl (.inl (e.ls a vs h1 n))⟩
  | tup ys =>
    cases e
    simp only [RelD] at hd
    obtain ⟨a, vs, rfl, h1, h2⟩ := hd
    exact ⟨a, false, vs, rfl, h2, fun {C1} am st H s e => by show SqT X.K H a vs; rw [hK]; exact e.sqT h1⟩
  | _ => cases e
theorem walk_enum {a : Addr} {k : Bool} {xs : List Us.D} {vs : List V} (hr : RelDs g w xs vs) (hat : ∀ {C1 : Pin} am st H s, Ext w (wdOf C1 am st H s) → SqA k X.K H a vs) : Walk g C0 w (IteA k X.K a) (enumD xs) := by
  have hl : (enumD xs).length = xs.length := by simp [enumD]
  have hl2 := hr.length
  refine ⟨fun C1 am st H s i _ _ e hi => ?_, fun C1 am st H s i v H' _ _ e hi hy => ?_, fun C1 am st H s i _ _ e hi => ?_⟩
  · have hi' : i < vs.length := by omega
    exact ⟨vs, vs[i], hat am st H s e, List.getElem?_eq_getElem hi'⟩
  · obtain ⟨T, x, rfl, hT, rfl, hx⟩ := hy
    have hx := hx vs (hat am st H s e)
    obtain ⟨d, e1, e2⟩ := (RelDs.ext e _ _ hr).get' hx
    refine ⟨upd_keep hT, .tup [.int i, d], by simp [enumD, e1], ?_⟩
    simp only [RelD]
    exact ⟨T, _, rfl, .inl (.inl upd_same), .cons relD_int (.cons (RelD.ext (ext_new hT) _ _ e2) .nil)⟩
  · exact ⟨vs, hat am st H s e, by omega⟩
theorem walk_zip {a b : Addr} {k1 k2 : Bool} {xs ys : List Us.D} {vs us : List V} (hr : RelDs g w xs vs) (hr2 : RelDs g w ys us) (hat : ∀ {C1 : Pin} am st H s, Ext w (wdOf C1 am st H s) → SqA k1 X.K H a vs) (hat2 : ∀ {C1 : Pin} am st H s, Ext w (wdOf C1 am st H s) → SqA k2 X.K H b us) :
    Walk g C0 w (ItzA k1 k2 X.K a b) (zipD xs ys) := by
  have hl : (zipD xs ys).length = min xs.length ys.length := by simp [zipD]
  have hl2 := hr.length
  have hl3 := hr2.length
  refine ⟨fun C1 am st H s i _ _ e hi => ?_, fun C1 am st H s i v H' _ _ e hi hy => ?_, fun C1 am st H s i _ _ e hi => ?_⟩
  · have h1 : i < vs.length := by omega
    have h2 : i < us.length := by omega
    exact ⟨vs, us, vs[i], us[i], hat am st H s e, hat2 am st H s e, List.getElem?_eq_getElem h1, List.getElem?_eq_getElem h2⟩
  · obtain ⟨T, x, y, rfl, hT, rfl, hx, hy⟩ := hy
    have hx := hx vs (hat am st H s e)
    have hy := hy us (hat2 am st H s e)
    obtain ⟨d, e1, e2⟩ := (RelDs.ext e _ _ hr).get' hx
    obtain ⟨d2, e3, e4⟩ := (RelDs.ext e _ _ hr2).get' hy
    refine ⟨upd_keep hT, .tup [d, d2], by simp [zipD, List.getElem?_zipWith, e1, e3], ?_⟩
    simp only [RelD]
    exact ⟨T, _, rfl, .inl (.inl upd_same), .cons (RelD.ext (ext_new hT) _ _ e2) (.cons (RelD.ext (ext_new hT) _ _ e4) .nil)⟩
  · exact ⟨vs, us, hat am st H s e, hat2 am st H s e, by omega, by omega, by omega⟩
theorem seq_none {α : Type} {rel : Wd → List Us.D → α → Prop} {Q : α → Hp → Prop} {d : Us.D} {s' : S} (h : Fin g C0 am rel Wx σ w (match seqD d with | some xs => .ok (enumD xs) s' | none => .bad) Q) : ∃ xs, seqD d = some xs := by
  cases e : seqD d with
  | none => rw [e] at h; exact h.elim
  | some xs => exact ⟨xs, rfl⟩
theorem sn_enum {elts : List Expr} {kk : Nat} {tpos p pos : Pos} {a : Expr} {i : E} (hK : X.K = g.K) (hg : Gl X "enumerate") (hm : X.mg "enumerate" = none) (ha : PE X a (rdE g gx Wx i)) (hs : NoStar a) :
    PI X (.Tuple elts kk tpos) (.Call (.Name "enumerate" p) [a] [] pos) (rdI g gx Wx (.enum i)) := by
  refine ⟨fun pins s' σ H R1 I h => (pi_enumK hg hm (pa_cons ha pa_nil (hs _ _)) (by rw [hs]; rfl)).run pins s' σ H R1 I ?_⟩
  obtain ⟨C0, am, st, env, s, hR, _, hF⟩ := h
  simp only [evIt] at hF
  refine ⟨C0, am, st, env, s, hR, hF.escE fun d v H1 st1 s1 er hS hX hd h1 => ?_⟩
  obtain ⟨xs, e⟩ := seq_none h1
  rw [e] at h1
  obtain ⟨b, k, vs, rfl, h2, h3⟩ := seq_rel (X := X) hK hd e
  exact ⟨b, vs, k, rfl, h3 (C1 := C0) am st1 H1 s1 (Ext.refl _), h1 _ H1 st1 hS (Ext.refl _) (walk_enum h2 h3)⟩
theorem sn_zip {elts : List Expr} {kk : Nat} {tpos p pos : Pos} {a b : Expr} {i j : E} (hK : X.K = g.K) (hg : Gl X "zip") (hm : X.mg "zip" = none) (ha : PE X a (rdE g gx Wx i)) (hb : PE X b (rdE g gx Wx j)) (hs : NoStar a) (hs2 : NoStar b) :
    PI X (.Tuple elts kk tpos) (.Call (.Name "zip" p) [a, b] [] pos) (rdI g gx Wx (.zip i j)) := by
  refine ⟨fun pins s' σ H R1 I h => (pi_zipK hg hm (pa_cons ha (pa_cons hb pa_nil (hs2 _ _)) (hs _ _)) (hs _ _) (by rw [hs2]; rfl)).run pins s' σ H R1 I ?_⟩
  obtain ⟨C0, am, st, env, s, hR, _, hF⟩ := h
  simp only [evIt] at hF
  refine ⟨C0, am, st, env, s, hR, hF.escE fun d v H1 st1 s1 er hS hX hd h1 => ?_⟩
  refine ⟨C0, am, st1, env, s1, hR.at_ hS hX, h1.escE fun d2 v2 H2 st2 s2 er2 hS2 hX2 hd2 h2 => ?_⟩
  cases e : seqD d with
  | none => rw [e] at h2; exact h2.elim
  | some xs =>
    cases e2 : seqD d2 with
    | none => rw [e, e2] at h2; exact h2.elim
    | some ys =>
      rw [e, e2] at h2
      obtain ⟨b, k, vs, rfl, h3, h4⟩ := seq_rel (X := X) hK (RelD.ext hX2 _ _ hd) e
      obtain ⟨b2, k2, us, rfl, h5, h6⟩ := seq_rel (X := X) hK hd2 e2
      exact ⟨b, b2, vs, us, k, k2, rfl, h4 (C1 := C0) am st2 H2 s2 (Ext.refl _), h6 (C1 := C0) am st2 H2 s2 (Ext.refl _), h2 _ H2 st2 hS2 (Ext.refl _) (walk_zip h3 h5 h4 h6)⟩
end
end Us
end

section
set_option Elab.async false
set_option linter.all false
set_option maxRecDepth 100000
set_option maxHeartbeats 1000000
/-! Us.Snd18: a dict stands still under a statement; comprehensions stored on one line; parallel stores. -/
namespace Us
open PySem PySem.Spec PyProof.Rows L2
section
variable {X : Cx} {g g0 : Gp} {gx : G} {Wx : WX} {C0 C1 : Pin} {am am1 : List Addr} {σ : L2.St} {st : Option (Addr × Addr)} {H H' : Hp} {s : S} {env : Us.Env} {w w1 : Wd} {Q : V → Hp → Prop} {a p : Addr} {De : Ends}
theorem RelS.unlock {od : Obj} {ks : List (Key × V)} (h : RelS g C1 am st H s) (e : H a = some (.frz od (.dK ks))) (hC : ∀ b, b ≠ a → C1 b = C0 b) (hCa : ∀ bb o, C0 a = some (bb, o) → o = .dK ks) (hn : ∀ x, Nm C1 x ↔ Nm C0 x) (na : ¬ Nm C1 a) :
    RelS g C0 am st (upd H a (.dK ks)) s ∧ Ext (wdOf C1 am st H s) (wdOf C0 am st (upd H a (.dK ks)) s) := by
  have e3 : Ext (wdOf C1 am st H s) (wdOf C0 am st (upd H a (.dK ks)) s) := ext_unlock e fun x => (hn x).mpr
  refine ⟨h.move (a := a) e3 (fun b hb => upd_ne hb) (fun b bb o' q => ?_) (fun b hb q => by rw [← hC b hb]; exact q) ?_ fun u hu => ?_, e3⟩
  · by_cases z : b = a
    · subst z
      rw [upd_same, hCa bb o' q]
    · rw [upd_ne z]
      exact h.c0 b bb o' (by rw [hC b z]; exact q)
  · intro q
    rcases q with q | ⟨n, x, q1, q2⟩ | ⟨p', q', q, z⟩
    · exact na q
    · obtain ⟨u, h4, h5⟩ := h.live n x a q1 q2
      rw [e] at h4
      cases h4
      cases x with
      | lst _ => obtain ⟨_, z, _⟩ := h5; cases z
      | dic _ => obtain ⟨_, z, _⟩ := h5; cases z
      | _ => exact h5.elim
    · obtain ⟨z1, z2, z3⟩ := h.stm p' q' q
      rcases z with z | z
      · subst z; rw [z1.hp] at e; cases e
      · subst z; rw [z1.hq] at e; cases e
  · rw [e] at hu
    cases hu
    exact ⟨fun ps => by simp, fun q z => by unfold LamX.CodeO at z; cases z⟩
/-- under a statement -/
theorem PS.lockS {x : Stmt} {it : Us.It} {ist : Us.St} (h : PS X x (rdSi g gx Wx it ist)) : PS X x (rdS g gx Wx ist) := by
  refine ⟨fun pins s' σ H De I q => ?_⟩
  obtain ⟨C0, am, st, env, s, hR, hF⟩ := q
  by_cases hst : stillIt C0 env s σ it
  · exact h.run pins s' σ H De I ⟨C0, am, st, env, s, hR, hst, hF⟩
  · have : ∃ i, itVar it = some i ∧ ¬ Still C0 env s σ i := Classical.byContradiction fun z => hst (still_of fun i hi => Classical.byContradiction fun y => z ⟨i, hi, y⟩)
    obtain ⟨i, hi, hns⟩ := this
    have : ∃ kvs, env[i]? = some (some (.d (.dic kvs))) := Classical.byContradiction fun z => hns fun kvs hk => (z ⟨kvs, hk⟩).elim
    obtain ⟨kvs, hk⟩ := this
    obtain ⟨v, hv, hr⟩ := hR.slots.at_ i _ hk
    have hr : RelD g (wdOf C0 am st H s) (.dic kvs) v := hr
    simp only [RelD] at hr
    obtain ⟨a, ks, rfl, nC, hd, hks⟩ := hr
    have hS := hR.cells
    have na : ¬ Nm C0 a := fun z => nC (.inl z)
    rcases hd with hd | ⟨o, hd⟩
    · have hn := nm_addF (C0 := C0) (a := a) (o := .frz default (.dK ks)) na
      refine (ps_lock h).run pins s' σ H De I ⟨a, .dK ks, hd, trivial, fun od => ?_⟩
      have hn := nm_addF (C0 := C0) (a := a) (o := .frz od (.dK ks)) na
      have e1 : Ext (wdOf C0 am st H s) (wdOf (addP C0 a false (.frz od (.dK ks))) am st (upd H a (.frz od (.dK ks))) s) := ext_lock hd fun x => (hn x).mp
      have hS1 : RelS g (addP C0 a false (.frz od (.dK ks))) am st (upd H a (.frz od (.dK ks))) s := by
        refine hS.move (a := a) e1 (fun b hb => upd_ne hb) (fun b bb o q => ?_) (fun b hb q => by rw [addP_ne hb]; exact q) nC fun u hu => ?_
        · by_cases z : b = a
          · subst z
            rw [addP_same] at q
            cases q
            exact upd_same
          · rw [addP_ne z] at q
            rw [upd_ne z]
            exact hS.c0 b bb o q
        · rw [hd] at hu
          cases hu
          exact ⟨fun ps => by simp, fun q z => codeO_dK ks z.symm⟩
      have un : ∀ {am' H' st' s2}, RelS g (addP C0 a false (.frz od (.dK ks))) am' st' H' s2 → H' a = some (.frz od (.dK ks)) ∧ RelS g C0 am' st' (upd H' a (.dK ks)) s2 ∧ Ext (wdOf (addP C0 a false (.frz od (.dK ks))) am' st' H' s2) (wdOf C0 am' st' (upd H' a (.dK ks)) s2) := fun {am' H' st' s2} h1 => by
        have hH' : H' a = some (.frz od (.dK ks)) := h1.c0 a _ _ addP_same
        exact ⟨hH', h1.unlock hH' (fun b hb => addP_ne hb) (fun bb o q => by
          have := hS.c0 a bb o q
          rw [hd] at this
          exact (Option.some.inj this).symm) hn fun z => na ((hn a).mp z)⟩
      have l0 : PinLe C0 (addP C0 a false (.frz od (.dK ks))) := fun b bb o q => by
        by_cases z : b = a
        · exfalso
          subst z
          have h4 := hS.c0 b bb o q
          rw [hd] at h4
          cases h4
          cases bb with
          | true => exact na ⟨_, q⟩
          | false =>
            obtain ⟨od', u, e'⟩ := (hR.pf b _ _ q).1 rfl
            cases e'
        · rw [addP_ne z]; exact q
      refine ⟨_, am, st, env, s, ⟨hS1, hR.slots.ext e1, pf_addF hR.pf⟩, still_of fun j hj => ?_, ?_⟩
      · rw [hi] at hj
        cases hj
        exact fun kvs' hk' => ⟨a, false, od, ks, hv, addP_same⟩
      · revert hF
        cases ex gx ist env s with
        | bad => exact fun h => h
        | exc c y s2 =>
          intro hF am' cls d σ' H' st' h0 h1 h2 h3
          obtain ⟨a1, a2⟩ := h1.less l0 (fun x => (hn x).mpr)
          exact hF am' cls d σ' H' st' h0 a1 ((e1.trans h2).trans a2) (h3.ext a2)
        | nx env2 s2 =>
          intro hF am' σ' H' st' h0 h1 h2 h3
          obtain ⟨hH', a1, a2⟩ := un h1
          exact ⟨hH', hF am' σ' _ st' h0 a1 ((e1.trans h2).trans a2) (h3.ext a2)⟩
        | ct env2 s2 =>
          intro hF am' σ' H' st' h0 h1 h2 h3
          obtain ⟨hH', a1, a2⟩ := un h1
          exact ⟨hH', hF am' σ' _ st' h0 a1 ((e1.trans h2).trans a2) (h3.ext a2)⟩
        | rt y s2 =>
          intro hF am' v H' st' h0 h1 h2 h3
          obtain ⟨hH', a1, a2⟩ := un h1
          exact ⟨hH', hF am' v _ st' h0 a1 ((e1.trans h2).trans a2) (RelD.ext a2 _ _ h3)⟩
    · have hle : PinLe C0 (addP C0 a false (.frz o (.dK ks))) := le_addF (u := .dK ks) hS na hd
      have hn := nm_addF (C0 := C0) (a := a) (o := .frz o (.dK ks)) na
      have e1 : Ext (wdOf C0 am st H s) (wdOf (addP C0 a false (.frz o (.dK ks))) am st H s) := ext_nm fun x => (hn x).mp
      have hS1 : RelS g (addP C0 a false (.frz o (.dK ks))) am st H s := by
        refine hS.move (a := a) e1 (fun b hb => rfl) (fun b bb o' q => ?_) (fun b hb q => by rw [addP_ne hb]; exact q) nC fun u hu => ?_
        · by_cases z : b = a
          · subst z
            rw [addP_same] at q
            cases q
            exact hd
          · rw [addP_ne z] at q
            exact hS.c0 b bb o' q
        · rw [hd] at hu
          cases hu
          exact ⟨fun ps => by simp, fun q z => by unfold LamX.CodeO at z; cases z⟩
      have un : ∀ {am' H' st' s2}, RelS g (addP C0 a false (.frz o (.dK ks))) am' st' H' s2 → RelS g C0 am' st' H' s2 ∧ Ext (wdOf (addP C0 a false (.frz o (.dK ks))) am' st' H' s2) (wdOf C0 am' st' H' s2) := fun h1 => h1.less hle (fun x => (hn x).mpr)
      refine h.run pins s' σ H De I ⟨_, am, st, env, s, ⟨hS1, hR.slots.ext e1, pf_addF hR.pf⟩, still_of fun j hj => ?_, ?_⟩
      · rw [hi] at hj
        cases hj
        exact fun kvs' hk' => ⟨a, false, o, ks, hv, addP_same⟩
      · revert hF
        cases ex gx ist env s with
        | bad => exact fun h => h
        | exc c y s2 =>
          intro hF am' cls d σ' H' st' h0 h1 h2 h3
          obtain ⟨a1, a2⟩ := un h1
          exact hF am' cls d σ' H' st' h0 a1 ((e1.trans h2).trans a2) (h3.ext a2)
        | nx env2 s2 =>
          intro hF am' σ' H' st' h0 h1 h2 h3
          obtain ⟨a1, a2⟩ := un h1
          exact hF am' σ' _ st' h0 a1 ((e1.trans h2).trans a2) (h3.ext a2)
        | ct env2 s2 =>
          intro hF am' σ' H' st' h0 h1 h2 h3
          obtain ⟨a1, a2⟩ := un h1
          exact hF am' σ' _ st' h0 a1 ((e1.trans h2).trans a2) (h3.ext a2)
        | rt y s2 =>
          intro hF am' v H' st' h0 h1 h2 h3
          obtain ⟨a1, a2⟩ := un h1
          exact hF am' v _ st' h0 a1 ((e1.trans h2).trans a2) (RelD.ext a2 _ _ h3)
end
end Us
end

section
set_option Elab.async false
set_option linter.all false
set_option maxRecDepth 100000
set_option maxHeartbeats 1000000
/-! Us.Snd19: comprehensions stored on one line; parallel stores. -/
namespace Us
open PySem PySem.Spec PyProof.Rows L2
section
variable {X : Cx} {g g0 : Gp} {gx : G} {Wx : WX} {C0 C1 : Pin} {am am1 : List Addr} {σ : L2.St} {sq : Option (Addr × Addr)} {H H' : Hp} {s : S} {env : Us.Env} {w w1 : Wd} {Q : V → Hp → Prop} {a p : Addr} {De : Ends}
theorem asg_N {n : Nat} {i : E} (hm : mint i = true) (hE : RelE g am w env σ) (hF : FinS g C0 am Wx w (ex gx (.asg (.nm n) i) env s) De) : FinN g C0 am Wx σ w (ev gx i env s) (fun v H1 => De.nx (σ.set n (some v)) H1) := by
  simp only [ex] at hF
  rw [st_assoc] at hF
  refine hF.stN (fun s' w e => mint_d hm e) fun d s1 e1 p o H1 st1 np hS1 hX1 hc h1 => ?_
  obtain ⟨a1, a2⟩ := hS1.drop np
  have h1 : FinS g C0 am Wx w (.nx (env.set n (some (.d d))) s1) De := h1
  exact h1 am (σ.set n (some (.ref p))) H1 st1 (.refl _) a1 (hX1.trans a2) ((hE.ext (hX1.trans a2)).set n (x := .d d) (relC_data (nC_drop np hS1) (hS1.c0 p true o addC_same) (hc.ext a2)))
theorem new_N {n : Nat} {i : E} (hm : mint i = true) (hE : RelE g am w env σ) (hF : FinS g C0 am Wx w (ex gx (.new n i) env s) De) : FinN g C0 am Wx σ w (ev gx i env s) (fun v H1 => De.nx (σ.set n (some v)) H1) := by
  simp only [ex] at hF
  rw [st_assoc] at hF
  refine hF.stN (fun s' w e => mint_d hm e) fun d s1 e1 p o H1 st1 np hS1 hX1 hc h1 => ?_
  have hd := relC_isC hc
  have h2 : FinS g C0 am Wx w ((slot true (.d d) s1).st fun w s => .nx (env.set n (some w)) s) De := h1
  have es : slot true (.d d) s1 = .ok (.ref s1.cells.length) { s1 with cells := s1.cells ++ [(true, d)] } := by
    show (if d.isC = true then R.ok (W.ref s1.cells.length) { s1 with cells := s1.cells ++ [(true, d)] } else .bad) = _
    rw [if_pos hd]
  rw [es] at h2
  obtain ⟨a1, a2⟩ := hS1.newCell np hc
  refine h2 (am ++ [p]) (σ.set n (some (.ref p))) H1 st1 ⟨[p], rfl⟩ a1 (hX1.trans a2) ?_
  exact (((hE.ext hX1).ext a2).more [p]).set n (x := .ref s1.cells.length) ⟨p, by rw [← hS1.len]; simp, rfl⟩
/-- a store of the slot n's new thing: as data, or as a cell -/
def stoS (own : Bool) (n : Nat) (i : E) : Us.St := if own = true then .new n i else .asg (.nm n) i
theorem sto_N {own : Bool} {n : Nat} {i : E} (hm : mint i = true) (hE : RelE g am w env σ) (hF : FinS g C0 am Wx w (ex gx (stoS own n i) env s) De) : FinN g C0 am Wx σ w (ev gx i env s) (fun v H1 => De.nx (σ.set n (some v)) H1) := by
  cases own with
  | true => exact new_N hm hE hF
  | false => exact asg_N hm hE hF
/-- name = e, e new -/
theorem ss_sto {own : Bool} {n : Nat} {x : Str} {e : Expr} {i : E} {pos pos' : Pos} (hm : mint i = true) (hN : X.N.Nodup) (hi : X.N[n]? = some x) (hx : Loc X.env.scope x) (h : PE X e (rdN g gx Wx i)) (hs : swapsWith e (some (.Name x pos')) pos.line X.env = pure false)
    (hf : X.fn x = true ∨ X.env.scope.names.lookup x = some .local) : PS X (.Assign [.Name x pos'] e pos) (rdS g gx Wx (stoS own n i)) := by
  refine (ps_set hN hi hx h hs hf).imp fun De σ H q => ?_
  obtain ⟨C0, am, sq, env, s, hR, hF⟩ := q
  exact ⟨C0, am, sq, env, s, hR, sto_N hm hR.slots hF⟩
/-- name = [.. for ..] on one line -/
theorem ss_setLc {own' : Bool} {n : Nat} {y : Str} {py : Pos} {elt tg iter : Expr} {scope : Scope} {own : List (Str × Nat)} {pos spos : Pos} {it : Us.It} {t : Tg} {el : E} (hK : X.K = g.K) (hc : X.calm = true) (hN : X.N.Nodup) (hy : X.N[n]? = some y) (hyl : X.env.scope.names.lookup y = some .local)
    (hsw : swapsWith (.ListComp elt [⟨tg, iter, [], 0⟩] scope pos) (some (.Name y py)) spos.line X.env = pure true) (hi : PI X tg iter (rdI g gx Wx it)) (ok : BlkOk X.N X.env.scope scope own) (hsl : ∀ i ∈ t.slots, i ∈ own.map (·.2))
    (hg : ∀ (s : Shared) (H : Hp) (C : Addr) (cl : List (Str × Addr)) (fp : List Addr), PG (X.blk s H scope (compEnvC scope cl C X.env) fp) tg (tgG X.K t)) (he : ∀ (s : Shared) (H : Hp) (C : Addr) (cl : List (Str × Addr)) (fp : List Addr), PE (X.blk s H scope (compEnvC scope cl C X.env) fp) elt (rdE g gx W0 el))
    (hs : ∀ x, foldedSetIterable iter X.env x = pure x) : PS X (.Assign [.Name y py] (.ListComp elt [⟨tg, iter, [], 0⟩] scope pos) spos) (rdS g gx Wx (stoS own' n (.comp (own.map (·.2)) el t it))) := by
  refine PS.lockS (it := it) ((ps_setLc hc hN hy hyl hsw hi ok hg (fun _ _ _ _ _ => pts_nil) he hs).imp fun De σ H q => ?_)
  obtain ⟨C0, am, sq, env, s, hR, hst, hF⟩ := q
  exact comp_in hK hsl ⟨C0, am, sq, env, s, hR, hst, sto_N rfl hR.slots hF⟩
theorem ss_setLcIf {own' : Bool} {n : Nat} {y : Str} {py : Pos} {elt c tg iter : Expr} {scope : Scope} {own : List (Str × Nat)} {pos spos : Pos} {it : Us.It} {t : Tg} {el ce : E} (hK : X.K = g.K) (hc : X.calm = true) (hN : X.N.Nodup) (hy : X.N[n]? = some y) (hyl : X.env.scope.names.lookup y = some .local)
    (hsw : swapsWith (.ListComp elt [⟨tg, iter, [c], 0⟩] scope pos) (some (.Name y py)) spos.line X.env = pure true) (hi : PI X tg iter (rdI g gx Wx it)) (ok : BlkOk X.N X.env.scope scope own) (hsl : ∀ i ∈ t.slots, i ∈ own.map (·.2))
    (hg : ∀ (s : Shared) (H : Hp) (C : Addr) (cl : List (Str × Addr)) (fp : List Addr), PG (X.blk s H scope (compEnvC scope cl C X.env) fp) tg (tgG X.K t)) (he : ∀ (s : Shared) (H : Hp) (C : Addr) (cl : List (Str × Addr)) (fp : List Addr), PE (X.blk s H scope (compEnvC scope cl C X.env) fp) elt (rdE g gx W0 el))
    (hce : ∀ (s : Shared) (H : Hp) (C : Addr) (cl : List (Str × Addr)) (fp : List Addr), PT (X.blk s H scope (compEnvC scope cl C X.env) fp) c (rdT g gx W0 ce))
    (hs : ∀ x, foldedSetIterable iter X.env x = pure x) : PS X (.Assign [.Name y py] (.ListComp elt [⟨tg, iter, [c], 0⟩] scope pos) spos) (rdS g gx Wx (stoS own' n (.compIf (own.map (·.2)) el t it ce))) := by
  refine PS.lockS (it := it) ((ps_setLc hc hN hy hyl hsw hi ok hg (fun s H C cl fp => pts_one (hce s H C cl fp)) he hs).imp fun De σ H q => ?_)
  obtain ⟨C0, am, sq, env, s, hR, hst, hF⟩ := q
  exact compIf_in hK hsl ⟨C0, am, sq, env, s, hR, hst, sto_N rfl hR.slots hF⟩
/-! ### x, y = a, b -/
theorem FinS.in1 {α β : Type} {rel : Wd → α → β → Prop} {r : R α} {k : α → S → RS} {Q1 : β → Hp → Prop} (h : FinS g C0 am Wx w (r.st k) De) (hd : ∀ st' H' s', RelS g C1 am st' H' s' → RelS g C0 am st' H' s' ∧ Ext (wdOf C1 am st' H' s') (wdOf C0 am st' H' s')) (e : Ext w w1)
    (hk : ∀ a s', r = .ok a s' → ∀ b H' st', RelS g C1 am st' H' s' → Ext w1 (wdOf C1 am st' H' s') → rel (wdOf C1 am st' H' s') a b → FinS g C0 am Wx w (k a s') De → Q1 b H') : Fin g C1 am rel Wx σ w1 r Q1 := by
  cases r with
  | ok a s' => exact fun b H' st' h1 h2 h3 => hk a s' rfl b H' st' h1 h2 h3 h
  | exc c x s' =>
    intro cls d H' st' h1 h2 h3
    obtain ⟨a1, a2⟩ := hd st' H' s' h1
    exact h am cls d σ H' st' (.refl _) a1 ((e.trans h2).trans a2) (h3.ext a2)
  | bad => exact h
theorem FinS.in1N {r : R W} {k : W → S → RS} {Q1 : V → Hp → Prop} (hr : ∀ s' w, r = .ok w s' → ∃ d, w = .d d) (h : FinS g C0 am Wx w (r.st k) De) (hd : ∀ st' H' s', RelS g C1 am st' H' s' → RelS g C0 am st' H' s' ∧ Ext (wdOf C1 am st' H' s') (wdOf C0 am st' H' s')) (e : Ext w w1)
    (hk : ∀ d s', ∀ p o H' st', C1 p = none → RelS g (addC C1 p o) am st' H' s' → Ext w1 (wdOf (addC C1 p o) am st' H' s') → RelC g (wdOf (addC C1 p o) am st' H' s') d o → FinS g C0 am Wx w (k (.d d) s') De → Q1 (.ref p) H') : FinN g C1 am Wx σ w1 r Q1 := by
  cases r with
  | ok a s' =>
    obtain ⟨d, rfl⟩ := hr s' a rfl
    exact fun p o H' st' n h1 h2 h3 => hk d s' p o H' st' n h1 h2 h3 h
  | exc c x s' =>
    intro cls d H' st' h1 h2 h3
    obtain ⟨a1, a2⟩ := hd st' H' s' h1
    exact h am cls d σ H' st' (.refl _) a1 ((e.trans h2).trans a2) (h3.ext a2)
  | bad => exact h
theorem slot_own {d : Us.D} {s1 : S} (hd : d.isC = true) : slot true (.d d) s1 = .ok (.ref s1.cells.length) { s1 with cells := s1.cells ++ [(true, d)] } := by
  show (if d.isC = true then R.ok (W.ref s1.cells.length) { s1 with cells := s1.cells ++ [(true, d)] } else .bad) = _
  rw [if_pos hd]
theorem addC_swap {p q : Addr} {o u : HO} (h : p ≠ q) : addC (addC C0 p o) q u = addC (addC C0 q u) p o := by
  funext b
  by_cases h1 : b = q
  · subst h1
    rw [addC_same, addC_ne (Ne.symm h), addC_same]
  · by_cases h2 : b = p
    · subst h2
      rw [addC_ne h1, addC_same, addC_same]
    · rw [addC_ne h1, addC_ne h2, addC_ne h2, addC_ne h1]
/-- both plain -/
theorem par_FF {m n : Nat} {a b : E} (hR : Rel g C0 am sq env s σ H) (hF : FinS g C0 am Wx (wdOf C0 am sq H s) (ex gx (.par2 m n false false a b) env s) De) : tPar m n (tCons (rdE g gx Wx a) (tCons (rdE g gx Wx b) tNil)) De σ H := by
  simp only [ex] at hF
  refine ⟨C0, am, sq, env, s, hR, hF.bindS fun x s1 e1 v1 H1 st1 hS1 hX1 hr1 h1 => ?_⟩
  refine ⟨C0, am, st1, env, s1, hR.at_ hS1 hX1, h1.bindS fun y s2 e2 v2 H2 st2 hS2 hX2 hr2 h2 => ?_⟩
  refine ⟨v1, v2, rfl, ?_⟩
  cases e3 : Us.esc x s2 with
  | bad => simp only [slot, e3, W.data, R.bind, R.st] at h2; exact h2.elim
  | exc c z s3 => exfalso; cases x <;> simp only [Us.esc] at e3 <;> first | cases e3 | (split at e3 <;> cases e3)
  | ok dx s3 =>
    obtain ⟨a1, a2, a3⟩ := esc_rel hS2 (hr1.ext hX2) e3
    cases e4 : Us.esc y s3 with
    | bad => simp only [slot, e3, e4, W.data, R.bind, R.st] at h2; exact h2.elim
    | exc c z s4 => exfalso; cases y <;> simp only [Us.esc] at e4 <;> first | cases e4 | (split at e4 <;> cases e4)
    | ok dy s4 =>
      obtain ⟨b1, b2, b3⟩ := esc_rel a1 (hr2.ext a2) e4
      simp only [slot, e3, e4, W.data, R.bind, R.st] at h2
      have hx := (hX1.trans hX2).trans (a2.trans b2)
      exact h2 am _ H2 st2 (.refl _) b1 (a2.trans b2) (((hR.slots.ext hx).set m (x := .d dx) (RelD.ext b2 _ _ a3)).set n (x := .d dy) b3)
/-- both new -/
theorem par_TT {m n : Nat} {a b : E} (hma : mint a = true) (hmb : mint b = true) (hR : Rel g C0 am sq env s σ H) (hF : FinS g C0 am Wx (wdOf C0 am sq H s) (ex gx (.par2 m n true true a b) env s) De) : tPar m n (tCons (rdN g gx Wx a) (tCons (rdN g gx Wx b) tNil)) De σ H := by
  simp only [ex] at hF
  refine ⟨C0, am, sq, env, s, hR, hF.stN (fun s' w e => mint_d hma e) fun d s1 e1 p o H1 st1 np hS1 hX1 hc h1 => ?_⟩
  refine ⟨addC C0 p o, am, st1, env, s1, ⟨hS1, hR.slots.ext hX1, pf_addC hR.pf (relC_tbl hc)⟩, FinS.in1N (w1 := wdOf (addC C0 p o) am st1 H1 s1) (fun s' w e => mint_d hmb e) h1 (fun st' H' s' h => h.drop np) hX1 fun d2 s2 p2 o2 H2 st2 np2 hS2 hX2 hc2 h2 => ?_⟩
  refine ⟨.ref p, .ref p2, rfl, ?_⟩
  obtain ⟨n1, n2⟩ := addP_none.mp np2
  have h2 : FinS g C0 am Wx (wdOf C0 am sq H s) ((slot true (.d d) s2).st fun x s => (slot true (.d d2) s).st fun y s => .nx ((env.set m (some x)).set n (some y)) s) De := h2
  have hc1 := hc.ext hX2
  rw [slot_own (relC_isC hc)] at h2
  rw [addC_swap (Ne.symm n2)] at hS2 hX2 hc2 hc1
  obtain ⟨a1, a2⟩ := hS2.newCell (addP_none.mpr ⟨np, Ne.symm n2⟩) hc1
  have h2 : FinS g C0 am Wx (wdOf C0 am sq H s) ((slot true (.d d2) { s2 with cells := s2.cells ++ [(true, d)] }).st fun y s => .nx ((env.set m (some (.ref s2.cells.length))).set n (some y)) s) De := h2
  rw [slot_own (relC_isC hc2)] at h2
  obtain ⟨b1, b2⟩ := a1.newCell n1 (hc2.ext a2)
  have hx := ((hX1.trans hX2).trans a2).trans b2
  refine h2 ((am ++ [p]) ++ [p2]) _ H2 st2 ⟨[p, p2], by simp⟩ b1 hx ?_
  have hE := ((hR.slots.ext hx).more [p]).more [p2]
  refine (hE.set m (x := .ref s2.cells.length) ⟨p, ?_, rfl⟩).set n (x := .ref (s2.cells ++ [(true, d)]).length) ⟨p2, ?_, rfl⟩
  · rw [← hS2.len]; simp
  · have := hS2.len
    simp [← this]
end
end Us
end

section
set_option Elab.async false
set_option linter.all false
set_option maxRecDepth 100000
set_option maxHeartbeats 2000000
/-! Us.Err: a class of errors whose __init__ keeps one thing (turned from skel 42_own_error_by_import). -/
namespace PySem
namespace UsErr
open PySem.W PySem.Calls PyProof.Rows PySem.HandSPX
/-! ### the text of __init__ -/
def iA (f : Str) (p1 p2 : Pos) : Arguments := { posonlyargs := [], args := [{ arg := "self", annotation := none, pos := p1 }, { arg := f, annotation := none, pos := p2 }], vararg := none, kwonlyargs := [], kw_defaults := [], kwarg := none, defaults := [] }
def iB (f : Str) (q1 q2 q3 q4 : Pos) : List Stmt := [.Assign [.Attribute (.Name "self" q1) f q2] (.Name f q3) q4]
def iS (f : Str) : Scope := { kind := .function, names := [(PySem.Str.ofString "self", .local), (f, .local)], isGenerator := false, isCoroutine := false, more := [] }
theorem kS_self {f : Str} : (iS f).names.lookup ("self" : Str) = some .local := by
  simp [iS, List.lookup]
theorem kS_f {f : Str} (h : (f == ("self" : Str)) = false) : (iS f).names.lookup f = some .local := by
  have h' : (f == PySem.Str.ofString "self") = false := h
  simp [iS, List.lookup, h']
/-- what the written part says of the class of errors at C, its name c, its one field f, and of its __init__, at fI -/
structure ErrT (K : Frag) (mg : Str → Option Value) (c f : Str) (C fI : Addr) : Prop where
  nf : (f == ("self" : Str)) = false
  bd : ∀ (doc pm : Value) (an : Option Addr) (cdv ct : Value) (p1 p2 q1 q2 q3 q4 : Pos) (x v : Value), bindArgs (fnOf "__init__" (c ++ ".__init__") (iA f p1 p2) (iB f q1 q2 q3 q4) (iS f) .none .none doc pm an cdv ct) ⟨[x, v], []⟩ = pure [(("self" : Str), x), (f, v)]
  df : (f == ("__debug__" : Str)) = false
  gC : mg c = some (.ref C)
  cls : ∃ nm q N bs bm sn sub ab col dd k0 k1 k2 k3 k5, K.lookup C = some (excClassObj nm q C N bs bm true sn sub ab col dd k0 k1 k2 k3 k5 "ValueError.__new__") ∧ refsVE bm = true
  sa : findIn K (.ref C) "__setattr__" = some (some (.builtin "object.__setattr__"))
  ga : findIn K (.ref C) "__getattribute__" = some (some (.builtin "BaseException.__getattribute__"))
  gg : findIn K (.ref C) "__getattr__" = some none
  noN : findIn K (.ref C) f = some none
  iC : findIn K (.ref C) "__init__" = some (some (.ref fI))
  tC : typeIn K (.ref fI) = some (.type "function")
  kC : keepIn K (.ref C) = true
  exC : subIn K (.ref C) (.type "BaseException") = some true
  tyC : typeIn K (.ref C) = some (.type "type")
  hdC : hasDictIn K C = true
  te : exmOne K (.ref C) (.ref C) = some true
  fn : ∃ (oc : Value) (od : Option Addr) (doc pm : Value) (an : Option Addr) (cdv ct : Value) (osl : Array (Option Value)) (p1 p2 q1 q2 q3 q4 : Pos),
    K.lookup fI = some ⟨oc, od, .func (fnOf "__init__" (c ++ ".__init__") (iA f p1 p2) (iB f q1 q2 q3 q4) (iS f) .none .none doc pm an cdv ct), osl⟩ ∧ codeIn K cdv (c ++ ".__init__") = true
theorem one_size (v : Value) : [v].length ≤ sizeLine := by
  rw [sizeLine_eq]
  exact (by decide : 1 ≤ 16777216)
theorem kept_but {K : Frag} {h h' : Heap} {x : Addr} (X : K.In h) (hx : K.lookup x = none) (k : ∀ b o, b ≠ x → h.get? b = some o → h'.get? b = some o) : K.In h' := fun a o e =>
  k a o (fun z => by rw [z, hx] at e; cases e) (X a o e)
theorem ldC {M : Model} {s : Shared} {name : Str} {scope : Scope} {L a : Addr} {cd : Value} {m : Str → Option Value} {x : Str} {pos : Pos} {v : Value} {Q : Value → Shared → Prop} {A : Around} {E : Value → Shared → Prop} (hn : s.heap.Ns L m) (hv : m x = some v) (h : Q v s)
    (hk : scope.kind = .function := by rfl) (hl : (envOfC name scope L a cd).kindOf x = some .local := by rfl) (hd : (x == ("__debug__" : Str)) = false := by decide) :
    wpAny M A (eval (.Name x pos) (envOfC name scope L a cd)) Q E s := wpAny_Name (wpAny_loadName_local hk hl hn hv h) hd
/-- what __init__ leaves of a fresh exception at x -/
structure InitEnd (f : Str) (h h' : Heap) (x C dx t1 : Addr) (v : Value) : Prop where
  keep : ∀ b o, b ≠ x → h.get? b = some o → h'.get? b = some o
  obj : h'.get? x = some { cls := .ref C, dict := some dx, data := .fields #[.ref t1, .none, .none, .none, .bool false, .none] }
  dbig : h.objs.size ≤ dx
  dne : dx ≠ x
  ns : h'.Ns1 dx (fun y => if y = f then some v else none)
/-- a made Low -/
structure OwnMade (f : Str) (h h' : Heap) (e C d : Addr) (v : Value) : Prop where
  keep : ∀ b o, h.get? b = some o → h'.get? b = some o
  new : h.objs.size ≤ e
  obj : ∃ oe vs, h'.get? e = some oe ∧ oe.cls = .ref C ∧ oe.dict = some d ∧ oe.data = .fields vs ∧ vs[1]? = some .none
  dbig : h.objs.size ≤ d
  dne : d ≠ e
  ns : h'.Ns1 d (fun y => if y = f then some v else none)
section
variable {prog : Program} {w : World} {A : Around} {E : Value → Shared → Prop} {R : Result → Shared → Prop} {s : Shared} {K : Frag} {mg : Str → Option Value} {c f : Str} {C fI : Addr}
theorem low_init (T : ErrT K mg c f C fI) {x t0 : Addr} {v : Value} (X : K.In s.heap) (hlim : s.heap.NoLimit) (hx : s.heap.get? x = some (excO C t0)) (hnx : K.lookup x = none) (hroom : A.depth < recursionLimit)
    (hq : ∀ h' tk dx, InitEnd f s.heap h' x C dx t0 v → R (.ok (.ret .none)) { s with heap := h', toks := tk }) :
    codeAny (model prog w) A (.call (.ref fI) ⟨[.ref x, v], []⟩) R s := by
  obtain ⟨oc, od, doc, pm, an, cdv, ct, osl, p1, p2, q1, q2, q3, q4, ho, hcd⟩ := T.fn
  obtain ⟨nm, q, N, bs, bm, sn, sub, ab, col, dd, k0, k1, k2, k3, k5, hC, hbm⟩ := T.cls
  have hcl : clsIn K C = some { name := nm, bases := bs, mro := .ref C :: bm, ns := N, qualname := q, hasDict := true, slotNames := sn, subclasses := sub, abstract := ab, collection := col, hasDel := false } := by unfold clsIn; rw [hC] <;> rfl
  refine Att.call_fn (binds := [("self", .ref x), (f, v)]) X hlim ho hcd hroom (BindsTo.of_eq (T.bd doc pm an cdv ct p1 p2 q1 q2 q3 q4 (.ref x) v)) (by simp [kS_self, kS_f T.nf]) (fun s₁ IC => ?_) rfl rfl rfl
  obtain ⟨h₁, tk₁, rfl⟩ := IC.toInCall.same
  have k : ∀ b o, s.heap.get? b = some o → h₁.get? b = some o := IC.toInCall.keep
  have hn := IC.toInCall.ns
  have hxL : s.heap.objs.size ≠ x := Nat.ne_of_gt (Heap.lt_size hx)
  have X₁ : K.In h₁ := X.keeps k
  have hx₁ := k _ _ hx
  -- self.by = by
  show wpAny _ _ (execs _ _) _ _ _
  refine wpAny_execs_cons (plainObj_wpAny_Assign_Attribute ?_)
  have k1 : (envOfC (c ++ ".__init__") (iS f) s.heap.objs.size fI cdv).kindOf ("self" : Str) = some .local := kS_self
  have k2 : (envOfC (c ++ ".__init__") (iS f) s.heap.objs.size fI cdv).kindOf f = some .local := kS_f T.nf
  have sf : (("self" : Str) = f) = False := by
    have := T.nf
    simp only [beq_eq_false_iff_ne, ne_eq] at this
    exact eq_false fun z => this z.symm
  refine ldC (v := v) hn (by simp only [bindL, k1, k2, if_true]) (ldC (v := .ref x) hn (by simp only [bindL, k1, k2, if_true, sf, if_false]) ?_ rfl k1) rfl k2 T.df
  refine set_plain X₁ (ox := excO C t0) (od := none) ⟨hx₁, rfl, rfl, trivial⟩ T.sa ?_
  refine exc_osa X₁ hx₁ hcl (show refsVE (.ref C :: bm) = true from hbm) rfl T.noN (fun h₃ tk₃ dx k₃ dn dne hx₃ hn₃ => ?_)
  show wpAny _ _ (execs _ _) _ _ _
  have z : s.heap.objs.size < h₁.objs.size := hn.lt
  exact wpAny_execs_nil (hq h₃ tk₃ dx ⟨fun b o hb e => k₃ b o hb (k b o e), hx₃, Nat.le_of_lt (Nat.lt_of_lt_of_le z dn), dne, hn₃⟩)
theorem low_made (T : ErrT K mg c f C fI) {v : Value} (X : K.In s.heap) (hlim : s.heap.NoLimit) (hroom : A.depth + 1 < recursionLimit)
    (hq : ∀ h' tk e d, OwnMade f s.heap h' e C d v → R (.ok (.ret (.ref e))) { s with heap := h', toks := tk }) :
    codeAny (model prog w) A (.call (.ref C) ⟨[v], []⟩) R s := by
  obtain ⟨nm, q, N, bs, bm, sn, sub, ab, col, dd, k0, k1, k2, k3, k5, hC, hbm⟩ := T.cls
  obtain ⟨hp, g, dr, tk, os⟩ := s
  have k : ∀ b o, hp.get? b = some o → ((hp.push (kdv_tup [v])).push (excO C hp.objs.size)).get? b = some o := fun b o e => Heap.get?_push_of_some _ (Heap.get?_push_of_some _ e)
  have hget : ((hp.push (kdv_tup [v])).push (excO C hp.objs.size)).get? (hp.objs.size + 1) = some (excO C hp.objs.size) := by heap_get
  have hnx : K.lookup (hp.objs.size + 1) = none := by
    cases e : K.lookup (hp.objs.size + 1) with
    | none => rfl
    | some o =>
      have z : hp.get? (hp.objs.size + 1) = some o := X _ _ e
      exact absurd (Nat.lt_of_succ_lt (Heap.lt_size z)) (Nat.lt_irrefl _)
  refine call_own F.excBase_ValueError (fun X => refsVE_contains X bm hbm) (X _ _ hC) (looks_findIn X T.iC) (fun self => bind_fn X self T.tC) (one_size v) ?_
  refine low_init (s := ⟨(hp.push (kdv_tup [v])).push (excO C hp.objs.size), g, dr, tk, os⟩) T (X.keeps k) (hlim.keeps k) hget hnx ?_ fun h' tk' dx ⟨k', hx, dn, dne, hns⟩ => ?_
  · show A.depth + 1 < recursionLimit
    exact hroom
  · have old : ∀ b o, hp.get? b = some o → h'.get? b = some o := fun b o e => k' b o (Nat.ne_of_lt (Nat.lt_succ_of_lt (Heap.lt_size e))) (k b o e)
    have z : hp.objs.size + 1 + 1 ≤ dx := by
      first
        | (simpa only [Heap.size_push] using dn)
        | exact dn
        | (have q := dn; rw [Heap.size_push, Heap.size_push] at q; exact q)
    exact ⟨rfl, hq h' tk' (hp.objs.size + 1) dx ⟨old, Nat.le_succ _, ⟨_, _, hx, rfl, rfl, rfl, rfl⟩, Nat.le_trans (Nat.le_trans (Nat.le_succ _) (Nat.le_succ _)) z, dne, hns⟩⟩
end
end UsErr
end PySem
namespace L2
open PySem PySem.Spec PyProof.Rows
theorem relO_err {f : Str} {v : V} {v' : Value} (r : RelV v v') (y : Str) : RelO (List.lookup y [(f, v)]) (if y = f then some v' else none) := by
  by_cases hw : y = f
  · subst hw
    rw [if_pos rfl]
    have q : List.lookup y [(y, v)] = some v := by simp [List.lookup]
    rw [q]
    exact r
  · rw [if_neg hw]
    have qw : (y == f) = false := by simpa using hw
    have q2 : List.lookup y [(f, v)] = none := by simp [List.lookup, qw]
    rw [q2]
    trivial
section
variable {X : Cx} {c f : Str} {C fI : Addr}
/-- X(e) -/
def tMkErr (f : Str) (C : Addr) (ta : TA) : St → Hp → XK → Prop := fun σ H Q => ta σ H fun vs H1 => ∃ v, vs = [v] ∧ ∀ d, H1 d = none → Q (.ref C) (some d) (upd H1 d (.xd [(f, v)]))
theorem pmk_err {a : Expr} {ta : TA} {p pos : Pos} {k : Nat} (T : PySem.UsErr.ErrT X.K X.mg c f C fI) (hr : Room k X.A) (ha : PA X [a] ta) (hg : Gl X c) (hdb : (c == ("__debug__" : Str)) = false)
    (he : starEach (a :: []) X.env = (false, eval a X.env) :: starEach [] X.env := by rfl) (hpl : (backTo pos (starEach [] X.env)).any (·.1) = false := by rfl) :
    PMk X (.Call (.Name c p) [a] [] pos) (tMkErr f C ta) := by
  intro pins s σ H Q I h
  refine wpAny_Call_Name_kw (ld_glob I hg T.gC ?_ hdb)
  refine PySem.W.callWith_K (h₀ := X.base) I.ok.mod.kin T.kC (thn (ha.run pos pins s σ H _ I h) fun us s1 hh => ?_) he hpl
  obtain ⟨vs, H1, I1, r1, v, ev, q1⟩ := hh
  subst ev
  refine ⟨I1.kIn, ?_⟩
  cases r1 with
  | cons rv rn =>
    rename_i v' us'
    cases rn
    show wpAny _ _ (call (.ref C) [v']) _ _ _
    have hlim := I1.nolimit
    obtain ⟨hp, g, dr, tk, os⟩ := s1
    refine wpAny_call (PySem.UsErr.low_made T I1.kIn hlim (by have := hr.dp; omega) fun h' tk' e d M => ?_)
    show MkP X pins σ Q (.ref e) ⟨h', g, dr, tk', os⟩
    obtain ⟨oe, fv, hoe, hc, hd, hdat, h1⟩ := M.obj
    have hns := M.ns
    obtain ⟨G', g1, g2⟩ := restrict h' fun b => decide (b ≠ e)
    have gk : ∀ b, b ≠ e → G'.get? b = h'.get? b := fun b hb => g1 b (decide_eq_true hb)
    have ge : G'.get? e = none := g2 e (by simp)
    have old : ∀ b o, hp.get? b = some o → G'.get? b = some o := fun b o q => (gk b (Nat.ne_of_lt (Nat.lt_of_lt_of_le (Heap.lt_size q) M.new))).trans (M.keep b o q)
    have ob : ObjOk X.prog X.w (upd H1 d (.xd [(f, v)])) G' d (.xd [(f, v)]) :=
      ⟨_, hns.at (fun o q => (gk d M.dne).trans q), fun y => relO_err rv y⟩
    have J : Inv X pins σ (upd H1 d (.xd [(f, v)])) ⟨G', g, dr, tk', os⟩ := I1.laid (t' := tk') old M.dbig ob
    refine ⟨e, oe, fv, ⟨G', g, dr, tk', os⟩, _, .ref C, some d, rfl, J, fun b o q => ?_, ge, hoe, ⟨hc, hd⟩, hdat, h1, ?_, rfl, I1.bare, raises_own T.exC T.tyC, q1 d (I1.hok.fresh M.dbig)⟩
    · by_cases hb : b = e
      · have q' : G'.get? b = some o := q
        rw [hb, ge] at q'; cases q'
      · exact (gk b hb).symm.trans q
    · rw [upd_ne (Ne.symm M.dne)]
      exact I1.hok.fresh M.new
/-- raise Low(e) -/
def tRaiseErr (f : Str) (C : Addr) (W : WX) (ta : TA) : TS := fun _ σ H => tMkErr f C ta σ H fun cls d H' => W cls d σ H'
theorem ps_raiseErr {a : Expr} {ta : TA} {W : WX} {p pos pos2 : Pos} {k : Nat} (hc : X.calm = true) (T : PySem.UsErr.ErrT X.K X.mg c f C fI) (hr : Room k X.A) (tk : Takes X W) (ha : PA X [a] ta) (hg : Gl X c) (hdb : (c == ("__debug__" : Str)) = false)
    (he : starEach (a :: []) X.env = (false, eval a X.env) :: starEach [] X.env := by rfl) (hpl : (backTo pos (starEach [] X.env)).any (·.1) = false := by rfl) :
    PS X (.Raise (some (.Call (.Name c p) [a] [] pos)) none pos2) (tRaiseErr f C W ta) := ps_raise hc tk (pmk_err T hr ha hg hdb he hpl)
/-- low.by, low the exception that the suite holds (at a; its class cls, its dict d) -/
def tByErr (f : Str) (C : Addr) (a : Addr) (cls : Value) (d : Option Addr) (te : TE) : TE := fun σ H Q => te σ H fun x H1 => x = .ref a ∧ cls = .ref C ∧ ∃ (dd : Addr) (v : V), d = some dd ∧ H1 dd = some (.xd [(f, v)]) ∧ Q v H1
theorem pe_byErr {a : Addr} {oe : Obj} {cls : Value} {d : Option Addr} {pn : List (Addr × Obj)} {e : Expr} {te : TE} {pos : Pos} (T : PySem.UsErr.ErrT X.K X.mg c f C fI) (hz : Zc cls d oe) (hf : ∃ vs, oe.data = .fields vs) (he : PE (X.suite a ((a, oe) :: pn)) e te)
    (hb : attributeBase e f X.env (eval e X.env) = eval e X.env := by rfl) :
    PE (X.suite a ((a, oe) :: pn)) (.Attribute e f pos) (tByErr f C a cls d te) := by
  refine ⟨fun pins s σ H Q I h => ?_⟩
  refine attr_of hb (thn (he.run pins s σ H _ I h) fun u s1 hh => ?_)
  obtain ⟨x, H1, I1, rx, ex, ec, dd, v, ed, ea, q⟩ := hh
  subst ex
  obtain rfl : u = Value.ref a := rx
  subst ec
  subst ed
  obtain ⟨ha, _⟩ := I1.pin (a, oe) (List.mem_append_left _ List.mem_cons_self)
  obtain ⟨vs, hd⟩ := hf
  have hx : ObjOk X.prog X.w H1 s1.heap dd (.xd [(f, v)]) := I1.hok dd _ ea
  obtain ⟨mA, hns, hr⟩ := hx
  obtain ⟨od, ho, hl⟩ := lookIn_ns hns
  have l : List.lookup f [(f, v)] = some v := by simp [List.lookup]
  obtain ⟨u, hu, ru⟩ := RelO.some_of (v := v) (o := mA f) (by rw [← l]; exact hr f)
  have J : PySem.W.InstAt s1.heap a oe C (some od) := ⟨ha, hz.1, by unfold PySem.W.notCls; rw [hd] <;> rfl, by rw [hz.2]; exact ho⟩
  exact HandSPX.exc_get I1.kIn J T.ga T.gg T.exC (PySem.W.findObj_own T.hdC T.noN rfl (by rw [hl, hu])) (handed_of ru) ⟨v, H1, I1.tok _, ru, q⟩
end
end L2
end

section
set_option Elab.async false
set_option linter.all false
set_option maxRecDepth 100000
set_option maxHeartbeats 1000000
/-! Us.Snd20: errors raised, their field read. -/
namespace Us
open PySem PySem.Spec PyProof.Rows L2
section
variable {X : Cx} {g g0 : Gp} {gx : G} {Wx : WX} {C0 C1 : Pin} {am am1 : List Addr} {σ : L2.St} {sq : Option (Addr × Addr)} {H H' : Hp} {s : S} {env : Us.Env} {w w1 : Wd} {Q : V → Hp → Prop} {a p : Addr} {De : Ends}
theorem ss_raise {c k : Nat} {x : Str} {fI : Addr} {e : Expr} {i : E} {p pos pos2 : Pos} (hkc : g.kc c = true) (hc : X.calm = true) (T : PySem.UsErr.ErrT X.K X.mg x (g.fld c) (g.ca c) fI) (hr : Room k X.A) (tk : Takes X Wx) (ha : PE X e (rdE g gx Wx i)) (hs : NoStar e) (hg : Gl X x) (hdb : (x == ("__debug__" : Str)) = false) :
    PS X (.Raise (some (.Call (.Name x p) [e] [] pos)) none pos2) (rdS g gx Wx (.raise c i)) := by
  refine (ps_raiseErr hc T hr tk (sx_cons ha sx_nil hs) hg hdb (hs _ _) (by rfl)).imp fun De σ H q => ?_
  obtain ⟨C0, am, sq, env, s, hR, hF⟩ := q
  simp only [ex] at hF
  have hF : FinS g C0 am Wx (wdOf C0 am sq H s) ((evX gx (.cons i .nil) env s).st fun xs s => match xs with | [x] => .exc c x s | _ => .bad) De := by
    simp only [evX]
    revert hF
    cases (ev gx i env s).bind Us.esc with
    | ok d s1 => exact fun h => h
    | exc c' y s1 => exact fun h => h
    | bad => exact fun h => h
  refine ⟨C0, am, sq, env, s, hR, hF.bindS fun xs s1 e1 vs H1 st1 hS1 hX1 hr1 h1 => ?_⟩
  cases xs with
  | nil => exact h1.elim
  | cons y ys =>
    cases ys with
    | cons _ _ => exact h1.elim
    | nil =>
      simp only [RelDs] at hr1
      obtain ⟨v, r, rfl, hv, rfl⟩ := hr1
      refine ⟨v, rfl, fun dd hd => ?_⟩
      exact h1 am (.ref (g.ca c)) (some dd) σ (upd H1 dd (.xd [(g.fld c, v)])) st1 (.refl _) (hS1.new hd) (ext_new hd) ⟨rfl, hkc, dd, v, rfl, upd_same, RelD.ext (ext_new hd) _ _ hv⟩
/-- e.f in the suite of an except clause -/
theorem sn_fld {a : Addr} {oe : Obj} {dd : Addr} {c0 k i : Nat} {x f cn : Str} {fI : Addr} {pn : List (Addr × Obj)} {p pos : Pos} (T : PySem.UsErr.ErrT X.K X.mg cn (g.fld c0) (g.ca c0) fI) (hz : Zc (.ref (g.ca c0)) (some dd) oe) (hf : ∃ vs, oe.data = .fields vs) (hea : g.ea = some (a, dd, c0)) (hfk : gx.fld c0 k = true → g.fld c0 = f)
    (he : PE (X.suite a ((a, oe) :: pn)) (.Name x p) (tVar i)) (hb : ∀ f', attributeBase (.Name x p) f' X.env (eval (.Name x p) X.env) = eval (.Name x p) X.env) : PE (X.suite a ((a, oe) :: pn)) (.Attribute (.Name x p) f pos) (rdE g gx Wx (.fld k i)) := by
  refine ⟨fun pins s' σ H Q I q => ?_⟩
  obtain ⟨C0, am, st, env, s, hR, hF⟩ := q
  simp only [ev] at hF
  cases e0 : env[i]? with
  | none => rw [e0] at hF; exact hF.elim
  | some o =>
    rw [e0] at hF
    cases o with
    | none => exact hF.elim
    | some w =>
      cases w with
      | exc c y =>
        obtain ⟨v, e1, a', dx, u, e2, rfl, e3, e4⟩ := hR.slots.at_ i _ e0
        rw [hea] at e2
        cases e2
        have hF : Fin g C0 am (RelW g am) Wx σ (wdOf C0 am st H s) (if gx.fld c0 k = true then .ok (.d y) s else .bad) Q := hF
        by_cases hk : gx.fld c0 k = true
        · rw [if_pos hk] at hF
          have ef := hfk hk
          subst ef
          exact (pe_byErr T hz hf he (hb _)).run pins s' σ H Q I ⟨_, e1, rfl, rfl, dd, u, rfl, e3, hF u H st hR.cells (Ext.refl _) e4⟩
        · rw [if_neg hk] at hF
          exact hF.elim
      | d y => exact hF.elim
      | ref n => exact hF.elim
      | lam b e => exact hF.elim
end
end Us
end

section
set_option Elab.async false
set_option linter.all false
set_option maxRecDepth 100000
set_option maxHeartbeats 1000000
/-! Us.Snd21: x, y = a, b. -/
namespace Us
open PySem PySem.Spec PyProof.Rows L2
section
variable {X : Cx} {g g0 : Gp} {gx : G} {Wx : WX} {C0 C1 : Pin} {am am1 : List Addr} {σ : L2.St} {sq : Option (Addr × Addr)} {H H' : Hp} {s : S} {env : Us.Env} {w w1 : Wd} {Q : V → Hp → Prop} {a p : Addr} {De : Ends}
theorem esc_cases {x : W} {s : S} : (∃ d s', Us.esc x s = .ok d s') ∨ Us.esc x s = .bad := by
  cases e : Us.esc x s with
  | ok d s' => exact .inl ⟨d, s', rfl⟩
  | bad => exact .inr rfl
  | exc c z s3 => exfalso; cases x <;> simp only [Us.esc] at e <;> first | cases e | (split at e <;> cases e)
/-- the first new, the second plain -/
theorem par_TF {m n : Nat} {a b : E} (hma : mint a = true) (hR : Rel g C0 am sq env s σ H) (hF : FinS g C0 am Wx (wdOf C0 am sq H s) (ex gx (.par2 m n true false a b) env s) De) : tPar m n (tCons (rdN g gx Wx a) (tCons (rdE g gx Wx b) tNil)) De σ H := by
  simp only [ex] at hF
  refine ⟨C0, am, sq, env, s, hR, hF.stN (fun s' w e => mint_d hma e) fun d s1 e1 p o H1 st1 np hS1 hX1 hc h1 => ?_⟩
  refine ⟨addC C0 p o, am, st1, env, s1, ⟨hS1, hR.slots.ext hX1, pf_addC hR.pf (relC_tbl hc)⟩, FinS.in1 (w1 := wdOf (addC C0 p o) am st1 H1 s1) h1 (fun st' H' s' h => h.drop np) hX1 fun y s2 e2 v2 H2 st2 hS2 hX2 hr2 h2 => ?_⟩
  refine ⟨.ref p, v2, rfl, ?_⟩
  have h2 : FinS g C0 am Wx (wdOf C0 am sq H s) ((slot true (.d d) s2).st fun x s => (slot false y s).st fun y s => .nx ((env.set m (some x)).set n (some y)) s) De := h2
  have hc1 := hc.ext hX2
  rw [slot_own (relC_isC hc)] at h2
  obtain ⟨a1, a2⟩ := hS2.newCell np hc1
  have h2 : FinS g C0 am Wx (wdOf C0 am sq H s) ((W.data (Us.esc y { s2 with cells := s2.cells ++ [(true, d)] })).st fun y s => .nx ((env.set m (some (.ref s2.cells.length))).set n (some y)) s) De := h2
  have hr3 : RelW g (am ++ [p]) (wdOf C0 (am ++ [p]) st2 H2 { s2 with cells := s2.cells ++ [(true, d)] }) y v2 := (hr2.ext a2).more [p]
  rcases esc_cases (x := y) (s := { s2 with cells := s2.cells ++ [(true, d)] }) with ⟨dy, s3, e3⟩ | e3
  · rw [e3] at h2
    obtain ⟨b1, b2, b3⟩ := esc_rel a1 hr3 e3
    have hx := ((hX1.trans hX2).trans a2).trans b2
    refine h2 (am ++ [p]) _ H2 st2 ⟨[p], rfl⟩ b1 hx ?_
    refine (((hR.slots.ext hx).more [p]).set m (x := .ref s2.cells.length) ⟨p, ?_, rfl⟩).set n (x := .d dy) b3
    rw [← hS2.len]; simp
  · rw [e3] at h2
    exact h2.elim
/-- the first plain, the second new -/
theorem par_FT {m n : Nat} {a b : E} (hmb : mint b = true) (hR : Rel g C0 am sq env s σ H) (hF : FinS g C0 am Wx (wdOf C0 am sq H s) (ex gx (.par2 m n false true a b) env s) De) : tPar m n (tCons (rdE g gx Wx a) (tCons (rdN g gx Wx b) tNil)) De σ H := by
  simp only [ex] at hF
  refine ⟨C0, am, sq, env, s, hR, hF.bindS fun x s1 e1 v1 H1 st1 hS1 hX1 hr1 h1 => ?_⟩
  refine ⟨C0, am, st1, env, s1, hR.at_ hS1 hX1, h1.stN (fun s' w e => mint_d hmb e) fun d s2 e2 p o H2 st2 np hS2 hX2 hc h2 => ?_⟩
  refine ⟨v1, .ref p, rfl, ?_⟩
  have h2 : FinS g C0 am Wx (wdOf C0 am st1 H1 s1) ((W.data (Us.esc x s2)).st fun x s => (slot true (.d d) s).st fun y s => .nx ((env.set m (some x)).set n (some y)) s) De := h2
  rcases esc_cases (x := x) (s := s2) with ⟨dx, s3, e3⟩ | e3
  · rw [e3] at h2
    obtain ⟨b1, b2, b3⟩ := esc_rel hS2 (hr1.ext hX2) e3
    have h2 : FinS g C0 am Wx (wdOf C0 am st1 H1 s1) ((slot true (.d d) s3).st fun y s => .nx ((env.set m (some (.d dx))).set n (some y)) s) De := h2
    have hc1 := hc.ext b2
    rw [slot_own (relC_isC hc)] at h2
    obtain ⟨a1, a2⟩ := b1.newCell np hc1
    have hx := (hX2.trans b2).trans a2
    refine h2 (am ++ [p]) _ H2 st2 ⟨[p], rfl⟩ a1 hx ?_
    refine (((hR.slots.ext (hX1.trans hx)).more [p]).set m (x := .d dx) (RelD.ext a2 _ _ b3)).set n (x := .ref s3.cells.length) ⟨p, ?_, rfl⟩
    rw [← b1.len]; simp
  · rw [e3] at h2
    exact h2.elim
/-- x, y = a, b; which of them are new cells -/
def rdO (g : Gp) (gx : G) (Wx : WX) (own : Bool) (e : E) : TE := if own = true then rdN g gx Wx e else rdE g gx Wx e
theorem ss_par2 {own1 own2 : Bool} {m n : Nat} {x y : Str} {a b : Expr} {i j : E} {px py pt pt2 pos : Pos} {kt k2 : Nat} (hc : X.calm = true) (hN : X.N.Nodup) (hi : X.N[m]? = some x) (hj : X.N[n]? = some y) (hij : m ≠ n)
    (hx : X.env.scope.names.lookup x = some .local) (hy : X.env.scope.names.lookup y = some .local) (ha : PE X a (rdO g gx Wx own1 i)) (hb : PE X b (rdO g gx Wx own2 j)) (h1 : own1 = true → mint i = true) (h2 : own2 = true → mint j = true) (hs : NoStar a) (hs2 : NoStar b)
    (hw : swappedStores [.Tuple [.Name x px, .Name y py] kt pt] (.Tuple [a, b] k2 pt2) X.env = pure (some [x, y])) :
    PS X (.Assign [.Tuple [.Name x px, .Name y py] kt pt] (.Tuple [a, b] k2 pt2) pos) (rdS g gx Wx (.par2 m n own1 own2 i j)) := by
  refine (ps_par hc hN hi hj hij hx hy (pa_cons ha (pa_cons hb pa_nil (hs2 _ _)) (hs _ _)) hw (by rfl)).imp fun De σ H q => ?_
  obtain ⟨C0, am, sq, env, s, hR, hF⟩ := q
  cases own1 <;> cases own2
  · exact par_FF hR hF
  · exact par_FT (h2 rfl) hR hF
  · exact par_TF (h1 rfl) hR hF
  · exact par_TT (h1 rfl) (h2 rfl) hR hF
end
end Us
end

section
set_option Elab.async false
set_option linter.all false
set_option maxRecDepth 100000
set_option maxHeartbeats 1000000
/-! Us.Try2: try: .. except X as n: .. except Y as n: .. (several clauses, each with a name; turned from HandS.TryMany's proof). -/
namespace Us
open PySem PySem.Spec PyProof.Rows L2
/-- what the clauses wish of an exception of the body, one after the other; a clause's own slot -/
def wManyAs (K : PySem.W.Frag) (Wout : WX) (De : Ends) : List (Value × Nat × (Addr → Value → Option Addr → TS)) → WX
  | [] => Wout
  | (c, i, ts) :: r => fun cls d σ H => ∃ b, PySem.W.exmOne K cls c = some b ∧ (b = true → ∀ a, H a = none → ts a cls d { nx := fun σ' H' => De.nx (σ'.set i none) H', rt := De.rt, bk := fun σ' H' => De.bk (σ'.set i none) H', ct := fun σ' H' => De.ct (σ'.set i none) H' } (σ.set i (some (.ref a))) H) ∧ (b = false → wManyAs K Wout De r cls d σ H)
inductive HdsAs (X : Cx) : List ExceptHandler → List (Value × Nat × (Addr → Value → Option Addr → TS)) → Prop
  | nil : HdsAs X [] []
  | cons {x n : Str} {i : Nat} {c : Value} {ts : Addr → Value → Option Addr → TS} {b₀ : Stmt} {suite : List Stmt} {np pos' : Pos} {hds : List ExceptHandler} {l : List (Value × Nat × (Addr → Value → Option Addr → TS))} (hc : Names X x c) (hi : X.N[i]? = some n) (hln : X.env.kindOf n = some .local)
      (hsu : ∀ (a : Addr) (oe : Obj) (cls : Value) (d : Option Addr) (pn : List (Addr × Obj)), Zc cls d oe → (∃ vs, oe.data = .fields vs) → PSs (X.suite a ((a, oe) :: pn)) (b₀ :: suite) (ts a cls d)) (r : HdsAs X hds l) :
      HdsAs X (.ExceptHandler (some (.Name x np)) (some n) (b₀ :: suite) pos' :: hds) ((c, i, ts) :: l)
section
variable {X : Cx} {body : List Stmt} {h₀ : ExceptHandler} {hds : List ExceptHandler} {l : List (Value × Nat × (Addr → Value → Option Addr → TS))} {pos : Pos} {tb : WX → TS} {Wout : WX}
theorem ps_try_manyAs (hs : X.stack = X.env :: X.outer) (hf : X.env.frame = some X.env.locals) (hN : X.N.Nodup) (tk : Takes X Wout)
    (hb : ∀ (W : WX) (pn : List (Addr × Obj)) (xe : Value → Shared → Prop), Takes (X.tr pn xe) W → PassesOwn (model X.prog X.w) X.A X.env xe → PSs (X.tr pn xe) body (tb W))
    (hh : HdsAs X (h₀ :: hds) l) : PS X (.Try body (h₀ :: hds) [] [] pos) (fun D σ H => tb (wManyAs X.K Wout D l) D σ H) := by
  refine ⟨fun pins s σ H D I h => ?_⟩
  have ok := I.ok
  have hfr : X.A.frames = some (X.env :: X.outer) := by rw [ok.frames, hs]
  refine wpAny_Try_except ?_
  refine wpAny_mono ((hb (wManyAs X.K Wout D l) (X.pn ++ pins) (fun e s₁ => wpAny (model X.prog X.w) X.A (noteFrame e X.env) (fun _ s₂ => wpAny (model X.prog X.w) X.A (setFlight e none) (fun _ s₃ =>
    wpAny (model X.prog X.w) X.A (handleBy e X.env (h₀ :: hds)) (SP X pins D) X.xe s₃) X.xe s₂) X.xe s₁) (fun u s' xx => ?_) PassesOwn.looking).run [] s σ H D (I.toTry _) h) (fun f s1 hsp => ?_) (fun e s1 he => he)
  · obtain ⟨a, B, sI, pins', σ', H', cls, d, rfl, J', nb, up, sky, na, os, ag, w⟩ := xx
    have J : Inv X pins σ' H' sI := J'.ofTry ok
    have sky' : Sky B (X.env :: X.outer) a (Zc cls d) X.env.locals s'.heap := by rw [← hs]; exact sky
    show wpAny (model X.prog X.w) X.A (noteFrame (.ref a) X.env) _ _ _
    refine Sky.land Zc.steady hfr hf sky' fun h3 fl3 up3 => ?_
    have J3 : Inv X pins σ' H' { s' with heap := h3 } := J.landed nb fl3.1 (up.trans up3) os ag
    obtain ⟨oe3, vs3, he3, hz3, hd3⟩ := fl3.there
    have notFr : ∀ {h : Heap} {o : Obj} {vs : Array Value}, h.FunFrames B (X.env :: X.outer) → h.get? a = some o → o.data = .fields vs → a ∉ frs (X.env :: X.outer) := fun {h o vs} ff e dd hm => by
      obtain ⟨_, o', e', hnf⟩ := ff.mem hm
      rw [e] at e'; cases e'
      exact hnf _ dd
    have nfr := notFr fl3.2.2.1 he3 hd3
    have nL : a ≠ X.env.locals := fun z => nfr (List.mem_filterMap.mpr ⟨X.env, List.mem_cons_self, by rw [hf, z]⟩)
    have nF : a ∉ X.fs := fun hm => by
      obtain ⟨e, he, q⟩ := List.mem_filterMap.mp hm
      exact nfr (List.mem_filterMap.mpr ⟨e, List.mem_cons_of_mem _ he, q⟩)
    have S3 := J3.suite he3 hd3 na nL nF
    have go : ∀ {hds' : List ExceptHandler} {l' : List (Value × Nat × (Addr → Value → Option Addr → TS))}, HdsAs X hds' l' → wManyAs X.K Wout D l' cls d σ' H' →
        wpAny (model X.prog X.w) X.A (handleBy (.ref a) X.env hds') (SP X pins D) X.xe { s' with heap := h3 } := by
      intro hds' l' hk
      induction hk with
      | nil =>
        intro w
        refine wpAny_handleBy_nil ?_
        obtain ⟨k1, k2, k3, oe, vs, T, oT, ts', he, hz, hd, h1, hr⟩ := id fl3
        unfold PySem.passOn
        refine wpAny_bind (wpAny_field he hd h1 ?_)
        rw [if_neg (show ¬ ((Value.ref T == Value.none) = true) from by simp)]
        have fin : wpAny (model X.prog X.w) X.A (setFlight (.ref a) X.env.frame) (fun _ s4 => wpAny (model X.prog X.w) X.A (throw (.ref a) : Sem Flow) (SP X pins D) X.xe s4) X.xe { s' with heap := h3 } := by
          rw [hf]
          refine HandSPX.setFlight_upZ fl3 fun h4 hh4 up4 => wpAny_throw (tk _ _ ?_)
          exact ⟨a, B, sI, pins, σ', H', cls, d, rfl, J, nb, (up.trans up3).trans up4, .inr (.inr (by rw [hs]; exact hh4)), na, os, ag, w⟩
        first
          | exact wpAny_bind (wpAny_pure (wpAny_bind fin))
          | exact wpAny_bind fin
      | @cons x n i c ts b₀ suite np pos' hds2 l2 hc hi hln hsu r ih =>
        intro w
        obtain ⟨b, hb1, hyes, hno⟩ := w
        have hloc : Loc X.env.scope n := .inl hln
        refine wpAny_handleBy_cons (codeAny_handlers_test ?_) (by intro q; cases q)
        have LT : PySem.W.Looks (model X.prog X.w) h3 (typeOf (.ref a)) cls := fun A Q E s k q => wpAny_typeOf_ref (k _ _ he3) (by rw [hz3.1]; exact q)
        have LM := PySem.W.exm_one (M := model X.prog X.w) (J3.kIn) LT hb1
        have test : ∀ {Q : Value → Shared → Prop} {E : Value → Shared → Prop}, Q c { s' with heap := h3 } → wpAny (model X.prog X.w) (X.A.mark (some (.ref a))) (eval (.Name x np) X.env) Q E { s' with heap := h3 } := fun {Q E} q => by
          obtain ⟨hg, hdbg, hm | ⟨hm, hv, hnn⟩⟩ := hc
          · exact ld_glob (X := X.suite a ((a, oe3) :: (X.pn ++ pins))) S3 hg hm q hdbg
          · exact ld_blt (X := X.suite a ((a, oe3) :: (X.pn ++ pins))) S3 hg hm hv q hnn hdbg
        refine test (LM.here ?_)
        cases b with
        | true =>
          refine codeAny_handlers_suite_as ?_
          refine HandSPX.lands_againZ fl3 fun h4 fl4 up4 => ?_
          have J4 : Inv X pins σ' H' { s' with heap := h4 } := J.landed nb fl4.1 ((up.trans up3).trans up4) os ag
          obtain ⟨oe4, vs4, he4, hz4, hd4⟩ := fl4.there
          have S4 := J4.suite he4 hd4 na nL nF
          refine store_ok (X := X.suite a ((a, oe4) :: (X.pn ++ pins))) (v := .ref a) S4 hN hi hloc rfl (fun s5 S5 => ?_) (.inr hln)
          refine wpAny_mono ((hsu a oe4 cls d (X.pn ++ pins) hz4 ⟨_, hd4⟩).run [] s5 _ H' _ S5 (hyes rfl a na)) (fun f s6 hsp => ?_) (fun _ _ z => False.elim z)
          have end_ : ∀ {σ6 : L2.St} {H6 : Hp} {Q : Shared → Prop}, Inv (X.suite a ((a, oe4) :: (X.pn ++ pins))) [] σ6 H6 s6 → (∀ s7, Inv X pins (σ6.set i none) H6 s7 → Q s7) →
              wpAny (model X.prog X.w) X.A (do bindName X.env n .none; unbindBehindTheSuite X.env n pos') (fun _ s7 => Q s7) X.xe s6 := fun {σ6 H6 Q} S6 hq => gone_ok (S6.unsuite ok) hN hi hln hq
          cases f with
          | next =>
            obtain ⟨σ6, H6, S6, q6⟩ := hsp
            exact end_ S6 fun s7 J7 => ⟨_, _, J7, q6⟩
          | brk =>
            obtain ⟨σ6, H6, S6, q6⟩ := hsp
            exact end_ S6 fun s7 J7 => ⟨_, _, J7, q6⟩
          | cont =>
            obtain ⟨σ6, H6, S6, q6⟩ := hsp
            exact end_ S6 fun s7 J7 => ⟨_, _, J7, q6⟩
          | ret u =>
            obtain ⟨v6, σ6, H6, S6, r6, q6⟩ := hsp
            exact end_ S6 fun s7 J7 => ⟨_, _, _, J7, r6, q6⟩
        | false =>
          show wpAny _ X.A (handleBy (.ref a) X.env hds2) _ _ _
          exact ih (hno rfl)
    exact go hh w
  · cases f with
    | next =>
      obtain ⟨σ', H', J', q⟩ := hsp
      exact wpAny_execs_nil ⟨σ', H', J'.ofTry ok, q⟩
    | brk =>
      obtain ⟨σ', H', J', q⟩ := hsp
      exact ⟨σ', H', J'.ofTry ok, q⟩
    | cont =>
      obtain ⟨σ', H', J', q⟩ := hsp
      exact ⟨σ', H', J'.ofTry ok, q⟩
    | ret u =>
      obtain ⟨v, σ', H', J', r, q⟩ := hsp
      exact ⟨v, σ', H', J'.ofTry ok, r, q⟩
end
end Us
end

section
set_option Elab.async false
set_option linter.all false
set_option maxRecDepth 100000
set_option maxHeartbeats 1000000
/-! Us.Snd22: try: return .. except X as n: return .. -/
namespace Us
open PySem PySem.Spec PyProof.Rows L2
/-- in the suite of an except clause: the error at hand -/
def Gp.at (g : Gp) (a dd : Addr) (c : Nat) : Gp := { g with ea := some (a, dd, c) }
theorem same_at {g : Gp} {a dd : Addr} {c : Nat} : Same g (g.at a dd c) := ⟨rfl, rfl, rfl, rfl, rfl, rfl⟩
def tsOf (g : Gp) (gx : G) (e : E) (a : Addr) (cls : Value) (d : Option Addr) : TS := fun D σ H => ∃ c dd, cls = .ref (g.ca c) ∧ d = some dd ∧ g.kc c = true ∧ rdE (g.at a dd c) gx W0 e σ H D.rt
/-- a clause and what the executor keeps of it -/
inductive HsOk (X : Cx) (g : Gp) (gx : G) : List ExceptHandler → List (List Nat × Nat × E) → List (Value × Nat × (Addr → Value → Option Addr → TS)) → Prop
  | nil : HsOk X g gx [] [] []
  | cons {x n : Str} {i : Nat} {Ch : Addr} {cs : List Nat} {e : Expr} {ie : E} {np rp pos' : Pos} {hds : List ExceptHandler} {hs : List (List Nat × Nat × E)} {l : List (Value × Nat × (Addr → Value → Option Addr → TS))} (hc : Names X x (.ref Ch)) (hi : X.N[i]? = some n) (hln : X.env.kindOf n = some .local)
      (hex : ∀ c, g.kc c = true → PySem.W.exmOne X.K (.ref (g.ca c)) (.ref Ch) = some (cs.contains c))
      (hsu : ∀ (c : Nat) (a dd : Addr) (oe : Obj) (pn : List (Addr × Obj)), g.kc c = true → Zc (.ref (g.ca c)) (some dd) oe → (∃ vs, oe.data = .fields vs) → PE (X.suite a ((a, oe) :: pn)) e (rdE (g.at a dd c) gx W0 ie)) (r : HsOk X g gx hds hs l) :
      HsOk X g gx (.ExceptHandler (some (.Name x np)) (some n) [.Return (some e) rp] pos' :: hds) ((cs, i, ie) :: hs) ((.ref Ch, i, tsOf g gx ie) :: l)
section
variable {X : Cx} {g g0 : Gp} {gx : G} {Wx : WX} {C0 C1 : Pin} {am am1 : List Addr} {σ : L2.St} {sq : Option (Addr × Addr)} {H H' : Hp} {s : S} {env : Us.Env} {w w1 : Wd} {Q : V → Hp → Prop} {a p : Addr} {De : Ends}
theorem HsOk.as {hds : List ExceptHandler} {hs : List (List Nat × Nat × E)} {l : List (Value × Nat × (Addr → Value → Option Addr → TS))} (h : HsOk X g gx hds hs l) : HdsAs X hds l := by
  induction h with
  | nil => exact .nil
  | cons hc hi hln hex hsu r ih =>
    refine .cons hc hi hln (fun a oe cls d pn hz hf => ?_) ih
    refine ⟨fun pins s' σ H D I q => ?_⟩
    obtain ⟨c, dd, e1, e2, hk, q⟩ := q
    subst e1
    subst e2
    exact (pss_one (ps_ret (hsu c a dd oe pn hk hz hf))).run pins s' σ H D I q
theorem RelE.toAt {c : Nat} {a dd : Addr} (hn : g.ea = none) (h : RelE g am w env σ) : RelE (g.at a dd c) am w env σ := by
  refine ⟨h.len, fun i x e => ?_⟩
  obtain ⟨v, h1, h2⟩ := h.at_ i x e
  refine ⟨v, h1, ?_⟩
  cases x with
  | d x => exact same_at.relD _ _ h2
  | ref n => exact h2
  | lam b e => exact h2
  | exc c y =>
    obtain ⟨a', dx, u, e1, _⟩ := h2
    rw [hn] at e1; cases e1
theorem calm_rt {g' : Gp} {σ2 : L2.St} {r : R W} (hg : Same g g') (h : FinS g C0 am Wx w ((r.calm.bind Us.esc).st fun y s => .rt y s) De) : Fin g' C0 am (RelW g' am) W0 σ2 w r De.rt := by
  cases r with
  | bad => exact (show False from h).elim
  | exc c x s => exact (show False from h).elim
  | ok x s1 =>
    intro b H' st' h1 h2 h3
    have h : FinS g C0 am Wx w ((Us.esc x s1).st fun y s => .rt y s) De := h
    rcases esc_cases (x := x) (s := s1) with ⟨d, s2, e⟩ | e
    · rw [e] at h
      obtain ⟨a1, a2, a3⟩ := esc_rel (hg.symm.relS h1) (hg.symm.relW h3) e
      exact h am b H' st' (.refl _) a1 (h2.trans a2) a3
    · rw [e] at h
      exact (show False from h).elim
theorem many_in {c : Nat} {y : Us.D} {cls : Value} {d : Option Addr} (hn : g.ea = none) (hS : RelS g C0 am sq H s) (hE : RelE g am (wdOf C0 am sq H s) env σ) (hpf : PinF C0) (hX : RelX g (wdOf C0 am sq H s) c y cls d) {hds : List ExceptHandler} {hs : List (List Nat × Nat × E)} {l : List (Value × Nat × (Addr → Value → Option Addr → TS))} (h : HsOk X g gx hds hs l)
    (hF : FinS g C0 am Wx (wdOf C0 am sq H s) (match caught c hs with | some (i, e) => ((ev gx e (env.set i (some (.exc c y))) s).calm.bind Us.esc).st fun y s => .rt y s | none => .exc c y s) De) : wManyAs X.K Wx De l cls d σ H := by
  obtain ⟨rfl, hk, dx, u, rfl, hx, hu⟩ := hX
  induction h with
  | nil => exact hF am _ _ σ H sq (.refl _) hS (Ext.refl _) ⟨rfl, hk, dx, u, rfl, hx, hu⟩
  | @cons x n i Ch cs e ie np rp pos' hds hs l hc hi hln hex hsu r ih =>
    simp only [caught] at hF
    refine ⟨cs.contains c, hex c hk, fun hb a ha => ?_, fun hb => ih ?_⟩
    · rw [if_pos hb] at hF
      refine ⟨c, dx, rfl, rfl, hk, C0, am, sq, env.set i (some (.exc c y)), s, ⟨same_at.relS hS, (RelE.toAt hn hE).set i (x := .exc c y) ⟨a, dx, u, rfl, rfl, hx, same_at.relD _ _ hu⟩, hpf⟩, ?_⟩
      have hF : FinS g C0 am Wx (wdOf C0 am sq H s) (((ev gx ie (env.set i (some (.exc c y))) s).calm.bind Us.esc).st fun y s => .rt y s) De := hF
      exact (calm_rt same_at hF).ext (Ext.refl _)
    · rw [if_neg (by rw [hb]; exact Bool.false_ne_true)] at hF
      exact hF
/-- try: return e, its clauses each: except X as n: return .. -/
theorem ss_try {e : Expr} {ie : E} {rp pos : Pos} {h₀ : ExceptHandler} {hds : List ExceptHandler} {hs : List (List Nat × Nat × E)} {l : List (Value × Nat × (Addr → Value → Option Addr → TS))} (hn : g.ea = none) (hstk : X.stack = X.env :: X.outer) (hfr : X.env.frame = some X.env.locals) (hN : X.N.Nodup) (tk : Takes X Wx)
    (hb : ∀ (W : WX) (pn : List (Addr × Obj)) (xe : Value → Shared → Prop), Takes (X.tr pn xe) W → PassesOwn (model X.prog X.w) X.A X.env xe → PE (X.tr pn xe) e (rdE g gx W ie)) (hh : HsOk X g gx (h₀ :: hds) hs l) :
    PS X (.Try [.Return (some e) rp] (h₀ :: hds) [] [] pos) (rdS g gx Wx (.tri [.ret ie] hs)) := by
  refine (ps_try_manyAs (tb := fun W D σ H => rdE g gx W ie σ H D.rt) hstk hfr hN tk (fun W pn xe t1 t2 => pss_one (ps_ret (hb W pn xe t1 t2))) hh.as).imp fun De σ H q => ?_
  obtain ⟨C0, am, sq, env, s, hR, hF⟩ := q
  simp only [ex, exs] at hF
  refine ⟨C0, am, sq, env, s, hR, ?_⟩
  cases er : ev gx ie env s with
  | bad => rw [er] at hF; exact (show False from hF).elim
  | exc c y s1 =>
    rw [er] at hF
    intro cls d H' st' h1 h2 h3
    exact many_in hn h1 (hR.slots.ext h2) hR.pf h3 hh (FinS.ext hF h2 (.refl _))
  | ok x s1 =>
    rw [er] at hF
    intro b H' st' h1 h2 h3
    rcases esc_cases (x := x) (s := s1) with ⟨d, s2, e2⟩ | e2
    · simp only [R.bind, e2, R.st] at hF
      obtain ⟨a1, a2, a3⟩ := esc_rel h1 h3 e2
      exact hF am b H' st' (.refl _) a1 (h2.trans a2) a3
    · simp only [R.bind, e2, R.st] at hF
      exact hF.elim
end
end Us
end

section
set_option Elab.async false
set_option linter.all false
set_option maxRecDepth 100000
set_option maxHeartbeats 1000000
/-! Us.Snd23: x, y, z = a, b, c. -/
namespace Us
open PySem PySem.Spec PyProof.Rows L2
section
variable {X : Cx} {g g0 : Gp} {gx : G} {Wx : WX} {C0 C1 : Pin} {am am1 : List Addr} {σ : L2.St} {sq : Option (Addr × Addr)} {H H' : Hp} {s : S} {env : Us.Env} {w w1 : Wd} {Q : V → Hp → Prop} {a p : Addr} {De : Ends}
theorem par_FFF {m n l : Nat} {a b c : E} (hR : Rel g C0 am sq env s σ H) (hF : FinS g C0 am Wx (wdOf C0 am sq H s) (ex gx (.par3 m n l false false false a b c) env s) De) : tPar3 m n l (tCons (rdE g gx Wx a) (tCons (rdE g gx Wx b) (tCons (rdE g gx Wx c) tNil))) De σ H := by
  simp only [ex] at hF
  refine ⟨C0, am, sq, env, s, hR, hF.bindS fun x s1 e1 v1 H1 st1 hS1 hX1 hr1 h1 => ?_⟩
  refine ⟨C0, am, st1, env, s1, hR.at_ hS1 hX1, h1.bindS fun y s2 e2 v2 H2 st2 hS2 hX2 hr2 h2 => ?_⟩
  refine ⟨C0, am, st2, env, s2, (hR.at_ hS1 hX1).at_ hS2 hX2, h2.bindS fun z s3 e3 v3 H3 st3 hS3 hX3 hr3 h3 => ?_⟩
  refine ⟨v1, v2, v3, rfl, ?_⟩
  have h3 : FinS g C0 am Wx (wdOf C0 am st3 H3 s3) ((W.data (Us.esc x s3)).st fun x s => (slot false y s).st fun y s => (slot false z s).st fun z s => .nx (((env.set m (some x)).set n (some y)).set l (some z)) s) De := h3
  rcases esc_cases (x := x) (s := s3) with ⟨dx, t1, f1⟩ | f1
  · rw [f1] at h3
    obtain ⟨a1, a2, a3⟩ := esc_rel hS3 ((hr1.ext hX2).ext hX3) f1
    have h3 : FinS g C0 am Wx (wdOf C0 am st3 H3 s3) ((W.data (Us.esc y t1)).st fun y s => (slot false z s).st fun z s => .nx (((env.set m (some (.d dx))).set n (some y)).set l (some z)) s) De := h3
    rcases esc_cases (x := y) (s := t1) with ⟨dy, t2, f2⟩ | f2
    · rw [f2] at h3
      obtain ⟨b1, b2, b3⟩ := esc_rel a1 ((hr2.ext hX3).ext a2) f2
      have h3 : FinS g C0 am Wx (wdOf C0 am st3 H3 s3) ((W.data (Us.esc z t2)).st fun z s => .nx (((env.set m (some (.d dx))).set n (some (.d dy))).set l (some z)) s) De := h3
      rcases esc_cases (x := z) (s := t2) with ⟨dz, t3, f3⟩ | f3
      · rw [f3] at h3
        obtain ⟨c1, c2, c3⟩ := esc_rel b1 ((hr3.ext a2).ext b2) f3
        have hx := (a2.trans b2).trans c2
        exact h3 am _ H3 st3 (.refl _) c1 hx ((((hR.slots.ext (((hX1.trans hX2).trans hX3).trans hx)).set m (x := .d dx) (RelD.ext (b2.trans c2) _ _ a3)).set n (x := .d dy) (RelD.ext c2 _ _ b3)).set l (x := .d dz) c3)
      · rw [f3] at h3; exact h3.elim
    · rw [f2] at h3; exact h3.elim
  · rw [f1] at h3; exact h3.elim
theorem ss_par3 {m n l : Nat} {x y z : Str} {a b c : Expr} {i j k : E} {px py pz pt pt2 pos : Pos} {kt k2 : Nat} (hc : X.calm = true) (hN : X.N.Nodup) (hi : X.N[m]? = some x) (hj : X.N[n]? = some y) (hl : X.N[l]? = some z) (hij : m ≠ n) (hil : m ≠ l) (hjl : n ≠ l)
    (hx : X.env.scope.names.lookup x = some .local) (hy : X.env.scope.names.lookup y = some .local) (hz : X.env.scope.names.lookup z = some .local) (ha : PE X a (rdE g gx Wx i)) (hb : PE X b (rdE g gx Wx j)) (hcc : PE X c (rdE g gx Wx k)) (hs : NoStar a) (hs2 : NoStar b) (hs3 : NoStar c)
    (hw : swappedStores [.Tuple [.Name x px, .Name y py, .Name z pz] kt pt] (.Tuple [a, b, c] k2 pt2) X.env = pure (some [x, y, z])) :
    PS X (.Assign [.Tuple [.Name x px, .Name y py, .Name z pz] kt pt] (.Tuple [a, b, c] k2 pt2) pos) (rdS g gx Wx (.par3 m n l false false false i j k)) := by
  refine (ps_par3 hc hN hi hj hl hij hil hjl hx hy hz (pa_cons ha (pa_cons hb (pa_cons hcc pa_nil (hs3 _ _)) (hs2 _ _)) (hs _ _)) hw (by rfl)).imp fun De σ H q => ?_
  obtain ⟨C0, am, sq, env, s, hR, hF⟩ := q
  exact par_FFF hR hF
end
end Us
end

section
set_option Elab.async false
set_option linter.all false
set_option maxRecDepth 100000
set_option maxHeartbeats 1000000
/-! Us.Snd25: calls by keywords alone. -/
namespace Us
open PySem PySem.Spec PyProof.Rows L2
theorem _root_.L2.PK.imp {X : Cx} {e : List Keyword} {t t' : TA} (h : PK X e t) (i : ∀ σ H Q, t' σ H Q → t σ H Q) : PK X e t' := ⟨fun pos pins s σ H Q I q => h.run pos pins s σ H Q I (i σ H Q q)⟩
section
variable {X : Cx} {g g0 : Gp} {gx : G} {Wx : WX} {C0 : Pin} {am : List Addr} {σ : L2.St} {st : Option (Addr × Addr)} {H : Hp} {s : S} {env : Us.Env} {w w1 : Wd} {Q : V → Hp → Prop}
theorem sk_nil : PK X [] (rdA g gx Wx .nil) := by
  refine pk_nil.imp fun σ H Q q => ?_
  obtain ⟨C0, am, st, env, s, hR, hF⟩ := q
  simp only [evs] at hF
  exact hF [] H st hR.cells (Ext.refl _) rfl
theorem sk_cons {nm : Option Str} {e : Expr} {kpos : Pos} {kws : List Keyword} {i : E} {is : Es} (ha : PE X e (rdE g gx Wx i)) (hr : PK X kws (rdA g gx Wx is)) : PK X (⟨nm, e, kpos⟩ :: kws) (rdA g gx Wx (.cons i is)) := by
  refine (pk_cons ha hr).imp fun σ H Q q => ?_
  obtain ⟨C0, am, st, env, s, hR, hF⟩ := q
  simp only [evs] at hF
  refine ⟨C0, am, st, env, s, hR, hF.bind fun x s1 e1 v H1 st1 hS1 hX1 hr1 h1 => ?_⟩
  refine ⟨C0, am, st1, env, s1, hR.at_ hS1 hX1, h1.bind fun xs s2 e2 vs H2 st2 hS2 hX2 hr2 h2 => ?_⟩
  exact h2 (v :: vs) H2 st2 hS2 (Ext.refl _) ⟨v, vs, rfl, hr1.ext hX2, hr2⟩
/-- arguments in the parameters' order -/
theorem perm_in : ∀ {p : List Nat} {ws ws' : List W} {vs : List V} {us : List Value}, (p.mapM fun k => ws[k]?) = some ws' → RelWs g am w ws vs → Vals vs us →
    ∃ vs' us', RelWs g am w ws' vs' ∧ Vals vs' us' ∧ us'.length = p.length ∧ ws'.length = p.length ∧ ∀ (j m : Nat), p[j]? = some m → us'[j]? = us[m]?
  | [], ws, ws', vs, us, h, r, rv => by
    simp at h
    subst h
    exact ⟨[], [], rfl, .nil, rfl, rfl, fun j m e => by simp at e⟩
  | k :: p, ws, ws', vs, us, h, r, rv => by
    rw [List.mapM_cons] at h
    cases e1 : ws[k]? with
    | none => rw [e1] at h; simp at h
    | some x =>
      cases e2 : p.mapM fun k => ws[k]? with
      | none => rw [e1, e2] at h; simp at h
      | some q =>
        rw [e1, e2] at h
        simp at h
        subst h
        obtain ⟨vs', us', r1, r2, l1, l2, r3⟩ := perm_in e2 r rv
        obtain ⟨v, e3, r4⟩ := r.get e1
        obtain ⟨u, e4, r5⟩ := rv.get e3
        refine ⟨v :: vs', u :: us', ⟨v, vs', rfl, r4, r1⟩, .cons r5 r2, by simp [l1], by simp [l2], fun j m e => ?_⟩
        cases j with
        | zero =>
          simp at e
          subst e
          simp [e4]
        | succ j => simpa using r3 j m (by simpa using e)
theorem Callee.runK {k f : Nat} {ps ks : List Str} {p : List Nat} (F : Callee X g0 gx k f ps) (hr : Room k X.A) (tk : Takes X Wx) (hk : ks.Nodup) (hp : p.length = ps.length) (hks : ∀ k ∈ ks, k ∈ ps) (hj : ∀ (j m : Nat) n, ps[j]? = some n → p[j]? = some m → ks[m]? = some n)
    {pins : List (Addr × Obj)} {s' : Shared} {ws us : List Value} {vs : List V} (I : Inv X pins σ H s') (r : Vals vs us) (hw : ws.length = ks.length) (hu : us.length = ps.length) (hus : ∀ (j m : Nat), p[j]? = some m → us[j]? = ws[m]?) (h : spOf g0 gx f ps.length vs H Q (WE Wx σ)) :
    wpAny (model X.prog X.w) X.A (call (.ref (g0.fa f)) [] (ks.zip ws)) (EP X pins σ Q) X.xe s' := by
  obtain ⟨fd, ok, hb⟩ := F.ex
  have b : BindsTo s' fd ⟨[], ks.zip ws⟩ (ps.zip us) := .of_eq (bind_kws hb hk hp hks hj ws us hw hu hus)
  have hx := passAt tk σ
  refine wpAny_call (codeAny_mono (ok.run X.A X.stack s' H ⟨[], ks.zip ws⟩ us vs Q _ hr I.env0 b r h) fun r s2 hq => ?_)
  cases r with
  | error e => exact hx pins H s' e s2 I hq
  | ok fl =>
    cases fl with
    | ret u => exact I.after hq
    | next => exact False.elim hq
    | brk => exact False.elim hq
    | cont => exact False.elim hq
def kwNames : List Keyword → Option (List Str)
  | [] => some []
  | k :: r => match k.arg, kwNames r with
    | some n, some ns => some (n :: ns)
    | _, _ => none
theorem kw_names {env : PySem.Env} {pos : Pos} : ∀ {kws : List Keyword} {ks : List Str}, kwNames kws = some ks → (backToKw pos (keywordEach kws env)).all (·.1.isSome) = true ∧ (backToKw pos (keywordEach kws env)).filterMap (·.1) = ks ∧ (backToKw pos (keywordEach kws env)).any (·.1.isNone) = false ∧ kws.length = ks.length
  | [], ks, h => by
    simp only [kwNames] at h
    cases h
    exact ⟨rfl, rfl, rfl, rfl⟩
  | ⟨nm, e, kp⟩ :: r, ks, h => by
    simp only [kwNames] at h
    cases nm with
    | none => simp at h
    | some n =>
      cases e2 : kwNames r with
      | none => rw [e2] at h; simp at h
      | some ns =>
        rw [e2] at h
        simp at h
        subst h
        obtain ⟨h1, h2, h3, h4⟩ := kw_names (env := env) (pos := pos) e2
        refine ⟨?_, ?_, ?_, by simp [h4]⟩
        · exact h1
        · show n :: (backToKw pos (keywordEach r env)).filterMap (·.1) = _
          rw [h2]
        · exact h3
theorem sn_callk {k f : Nat} {ps ks : List Str} {pm : List Nat} {x : Str} {kws : List Keyword} {is : Es} {p pos : Pos} (F : Callee X g0 gx k f ps) (hg0 : Same g g0) (hr : Room k X.A) (tk : Takes X Wx) (hg : Gl X x) (hm : X.mg x = some (.ref (g0.fa f))) (hdb : (x == ("__debug__" : Str)) = false)
    (hkw : kwNames kws = some ks) (ha : PK X kws (rdA g gx Wx is)) (hl : is.len = kws.length) (hk : ks.Nodup) (hp : pm.length = ps.length) (hks : ∀ k ∈ ks, k ∈ ps) (hj : ∀ (j m : Nat) n, ps[j]? = some n → pm[j]? = some m → ks[m]? = some n) :
    PE X (.Call (.Name x p) [] kws pos) (rdE g gx Wx (.callk f pm is)) := by
  refine ⟨fun pins s' σ H Q I q => ?_⟩
  obtain ⟨C0, am, st, env, s, hR, hF⟩ := q
  simp only [ev] at hF
  obtain ⟨k1, k2, k3, k4⟩ := kw_names (env := X.env) (pos := pos) hkw
  refine wpAny_Call_Name_kw (ld_glob I hg hm ?_ hdb)
  have hQ : rdA g gx Wx is σ H fun vs H1 => ∃ ws', RelWs g am (wdOf C0 am st H s) [] [] ∧ vs.length = is.len ∧ ∃ C0 am st s ws, PinF C0 ∧ RelS g C0 am st H1 s ∧ RelWs g am (wdOf C0 am st H1 s) ws vs ∧ (pm.mapM fun k => ws[k]?) = some ws' ∧ Fin g C0 am (RelD g) Wx σ (wdOf C0 am st H1 s) (gx.call f ws' s) Q := by
    refine ⟨C0, am, st, env, s, hR, hF.bind fun ws s1 e1 vs H1 st1 hS1 hX1 hr1 h1 => ?_⟩
    cases e2 : pm.mapM fun k => ws[k]? with
    | none => rw [e2] at h1; exact h1.elim
    | some ws' =>
      rw [e2] at h1
      exact ⟨ws', rfl, by rw [hr1.length]; exact evs_len is env s ws s1 e1, C0, am, st1, s1, ws, hR.pf, hS1, hr1, e2, Fin.data (r := gx.call f ws' s1) h1⟩
  refine PySem.W.callWith_KW0 (h₀ := X.base) I.ok.mod.kin F.keep k1 (thn (ha.run pos pins s' σ H _ I hQ) fun us s1 ⟨vs, H1, I1, r, ws', _, hvl, C1, am1, st1, t1, ws, hpf, hS1, hr1, e2, h1⟩ => ⟨I1.kIn, ?_⟩) (by rw [k3]; rfl)
  rw [k2]
  obtain ⟨vs', us', r1, r2, l1, l2, r3⟩ := perm_in e2 hr1 r
  exact F.runK hr tk hk hp hks hj I1 r2 (by rw [← r.length, hvl, hl, k4]) (l1.trans hp) r3 ⟨C1, am1, st1, ws', t1, l2.trans hp, hpf, hg0.relS hS1, hg0.relWs r1, hg0.finD h1⟩
end
end Us
end

section
set_option Elab.async false
set_option linter.all false
set_option maxRecDepth 100000
set_option maxHeartbeats 1000000
/-! Us.Fr: into a def's frame and out again. -/
namespace Us
open PySem PySem.Spec PyProof.Rows L2
/-! ### how arguments come in -/
inductive Lent (cells : List (Bool × D)) : Nat → List Bool → List W → List (Option W) → List (Bool × D) → List Nat → List Nat → Prop
  | nil {c refs} : Lent cells c refs [] [] [] [] []
  | d {c refs x ws es cs bk sn} : Lent cells c refs.tail ws es cs bk sn → Lent cells c refs (.d x :: ws) (some (.d x) :: es) cs bk sn
  | lam {c refs b e ws es cs bk sn} : Lent cells c refs.tail ws es cs bk sn → Lent cells c refs (.lam b e :: ws) (some (.lam b e) :: es) cs bk sn
  | own {c refs n x ws es cs bk sn} : cells[n]? = some (true, x) → Lent cells (c + 1) refs.tail ws es cs bk sn → Lent cells c refs (.ref n :: ws) (some (.ref c) :: es) ((true, x) :: cs) (n :: bk) sn
  | see {c refs n b x ws es cs bk sn} : cells[n]? = some (b, x) → Lent cells c refs.tail ws es cs bk sn → Lent cells c refs (.ref n :: ws) (some (.d x) :: es) cs bk (n :: sn)
theorem lend_ok {cells : List (Bool × D)} : ∀ {ws : List W} {refs : List Bool} {acc : List (Option W)} {cs : List (Bool × D)} {back seen : List Nat} {r}, lend refs ws cells acc cs back seen = some r →
    ∃ es cs2 bk sn, Lent cells cs.length refs ws es cs2 bk sn ∧ r.1 = acc.reverse ++ es ∧ r.2.1 = cs ++ cs2 ∧ r.2.2.1 = back.reverse ++ bk ∧ ∀ n, n ∈ r.2.2.2 ↔ n ∈ sn ∨ n ∈ seen
  | [], refs, acc, cs, back, seen, r, h => by
    simp only [lend, Option.some.injEq] at h
    subst h
    exact ⟨[], [], [], [], .nil, by simp, by simp, by simp, fun n => by simp⟩
  | .d x :: ws, refs, acc, cs, back, seen, r, h => by
    simp only [lend] at h
    obtain ⟨es, cs2, bk, sn, h1, h2, h3, h4, h5⟩ := lend_ok h
    exact ⟨_, _, _, _, .d h1, by simp [h2], h3, h4, h5⟩
  | .lam b e :: ws, refs, acc, cs, back, seen, r, h => by
    simp only [lend] at h
    obtain ⟨es, cs2, bk, sn, h1, h2, h3, h4, h5⟩ := lend_ok h
    exact ⟨_, _, _, _, .lam h1, by simp [h2], h3, h4, h5⟩
  | .exc c x :: ws, refs, acc, cs, back, seen, r, h => by
    simp only [lend] at h
    cases h
  | .ref n :: ws, refs, acc, cs, back, seen, r, h => by
    simp only [lend] at h
    split at h
    · rename_i x e1 e2
      obtain ⟨es, cs2, bk, sn, h1, h2, h3, h4, h5⟩ := lend_ok h
      refine ⟨_, _, _, _, .own e2 (by simpa using h1), by simp [h2], by simp [h3], by simp [h4], h5⟩
    · rename_i b x e1 e2
      obtain ⟨es, cs2, bk, sn, h1, h2, h3, h4, h5⟩ := lend_ok h
      refine ⟨_, _, _, _, .see e2 h1, by simp [h2], h3, h4, fun m => ?_⟩
      rw [h5 m, List.mem_cons, List.mem_cons]
      constructor
      · rintro (h | h | h)
        · exact .inl (.inr h)
        · exact .inl (.inl h)
        · exact .inr h
      · rintro ((h | h) | h)
        · exact .inr (.inl h)
        · exact .inl h
        · exact .inr (.inr h)
    · cases h
theorem Lent.cs_at {cells : List (Bool × D)} {c refs ws es cs bk sn} (h : Lent cells c refs ws es cs bk sn) : cs.length = bk.length ∧ ∀ (m : Nat) n, bk[m]? = some n → ∃ x, cs[m]? = some (true, x) ∧ cells[n]? = some (true, x) := by
  induction h with
  | nil => exact ⟨rfl, fun m n e => by simp at e⟩
  | d _ ih => exact ih
  | lam _ ih => exact ih
  | see _ _ ih => exact ih
  | own e _ ih =>
    refine ⟨by simp [ih.1], fun m n q => ?_⟩
    cases m with
    | zero =>
      simp at q
      subst q
      exact ⟨_, rfl, e⟩
    | succ m => simpa using ih.2 m n (by simpa using q)
theorem Lent.len {cells : List (Bool × D)} {c refs ws es cs bk sn} (h : Lent cells c refs ws es cs bk sn) : es.length = ws.length := by
  induction h <;> simp_all
/-- what this frame of the caller's may not be touched by the callee -/
def PinC (am : List Addr) (cells : List (Bool × D)) (out : Nat → Prop) (a : Addr) : Prop := ∃ n x, cells[n]? = some (true, x) ∧ am[n]? = some a ∧ ¬ out n
open Classical in
noncomputable def pinIn (C0 : Pin) (am : List Addr) (H : Hp) (cells : List (Bool × D)) (out : Nat → Prop) : Pin := fun a => match C0 a with
  | some p => some p
  | none => if PinC am cells out a then (H a).map fun o => (true, o) else none
def RelVs (g : Gp) (am : List Addr) (w : Wd) : List W → List V → Prop
  | [], vs => vs = []
  | x :: xs, vs => ∃ v r, vs = v :: r ∧ RelV g am w x v ∧ RelVs g am w xs r
theorem RelWs.toVs {g : Gp} {am : List Addr} {w : Wd} : ∀ {xs : List W} {vs : List V}, RelWs g am w xs vs → RelVs g am w xs vs
  | [], vs, h => h
  | x :: xs, vs, h => by
    obtain ⟨v, r, e, h1, h2⟩ := h
    exact ⟨v, r, e, h1.toV, RelWs.toVs h2⟩
section
variable {g : Gp} {C0 : Pin} {am : List Addr} {st : Option (Addr × Addr)} {H : Hp} {s : S} {out : Nat → Prop}
theorem pinIn_old {a : Addr} {p} (h : C0 a = some p) : pinIn C0 am H s.cells out a = some p := by unfold pinIn; rw [h]
theorem pinIn_none {a : Addr} (h : pinIn C0 am H s.cells out a = none) : C0 a = none := by
  cases e : C0 a with
  | none => rfl
  | some p => rw [pinIn_old e] at h; cases h
theorem pinIn_cell (hS : RelS g C0 am st H s) {n : Nat} {x : D} {a : Addr} (h1 : s.cells[n]? = some (true, x)) (h2 : am[n]? = some a) (h3 : ¬ out n) {o : HO} (h4 : H a = some o) : pinIn C0 am H s.cells out a = some (true, o) := by
  unfold pinIn
  rw [(hS.out n x a h1 h2).1]
  have : PinC am s.cells out a := ⟨n, x, h1, h2, h3⟩
  simp [this, h4]
theorem pinIn_out (hS : RelS g C0 am st H s) {n : Nat} {x : D} {a : Addr} (h1 : s.cells[n]? = some (true, x)) (h2 : am[n]? = some a) (h3 : out n) : pinIn C0 am H s.cells out a = none := by
  unfold pinIn
  rw [(hS.out n x a h1 h2).1]
  have : ¬ PinC am s.cells out a := fun ⟨m, y, q1, q2, q3⟩ => q3 (hS.apart m n y x a q1 h1 q2 h2 ▸ h3)
  simp [this]
theorem pinIn_inv {a : Addr} {p : Bool × HO} (h : pinIn C0 am H s.cells out a = some p) : C0 a = some p ∨ (C0 a = none ∧ p.1 = true ∧ H a = some p.2 ∧ PinC am s.cells out a) := by
  unfold pinIn at h
  cases e : C0 a with
  | some q => rw [e] at h; exact .inl h
  | none =>
    rw [e] at h
    right
    by_cases hp : PinC am s.cells out a
    · simp only [hp, if_true] at h
      cases e2 : H a with
      | none => rw [e2] at h; cases h
      | some o =>
        rw [e2] at h
        cases h
        exact ⟨rfl, rfl, rfl, hp⟩
    · simp only [hp, if_false] at h
      cases h
end
/-- the addresses of what is lent -/
abbrev amIn (am : List Addr) (bk : List Nat) : List Addr := bk.map fun n => am.getD n 0
section
variable {g : Gp} {C0 : Pin} {am : List Addr} {st : Option (Addr × Addr)} {H : Hp} {s : S} {refs : List Bool} {ws : List W} {es : List (Option W)} {cs : List (Bool × D)} {bk sn : List Nat} {vs : List V} {c : Nat}
theorem am_at (hS : RelS g C0 am st H s) {n : Nat} {p : Bool × D} (h : s.cells[n]? = some p) : ∃ a, am[n]? = some a ∧ am.getD n 0 = a := by
  have hl : n < am.length := by rw [hS.len]; exact (List.getElem?_eq_some_iff.mp h).1
  exact ⟨am[n], List.getElem?_eq_getElem hl, by simp [List.getD, List.getElem?_eq_getElem hl]⟩
theorem amIn_at (hS : RelS g C0 am st H s) (hL : Lent s.cells c refs ws es cs bk sn) {m : Nat} {a : Addr} (h : (amIn am bk)[m]? = some a) : ∃ n x, bk[m]? = some n ∧ cs[m]? = some (true, x) ∧ s.cells[n]? = some (true, x) ∧ am[n]? = some a := by
  rw [List.getElem?_map] at h
  cases e : bk[m]? with
  | none => rw [e] at h; cases h
  | some n =>
    rw [e] at h
    obtain ⟨x, e1, e2⟩ := hL.cs_at.2 m n e
    obtain ⟨a', e3, e4⟩ := am_at hS e2
    have e5 : am.getD n 0 = a := by simpa using h
    exact ⟨n, x, rfl, e1, e2, by rw [e3, ← e4, e5]⟩
theorem amIn_of (hS : RelS g C0 am st H s) (hL : Lent s.cells c refs ws es cs bk sn) {m n : Nat} {a : Addr} (h : bk[m]? = some n) (ha : am[n]? = some a) : (amIn am bk)[m]? = some a := by
  rw [List.getElem?_map, h]
  simp [List.getD, ha]
/-- out of the callee's sight or lent -/
abbrev outs (bk sn : List Nat) (n : Nat) : Prop := n ∈ bk ∨ n ∈ sn
noncomputable abbrev C1 (C0 : Pin) (am : List Addr) (H : Hp) (s : S) (bk sn : List Nat) : Pin := pinIn C0 am H s.cells (outs bk sn)
theorem sub10 (hS : RelS g C0 am st H s) (hL : Lent s.cells c refs ws es cs bk sn) {a : Addr} (h : Cs (C1 C0 am H s bk sn) (amIn am bk) cs st a) : Cs C0 am s.cells st a := by
  rcases h with ⟨o, h⟩ | ⟨m, x, h1, h2⟩ | h
  · rcases pinIn_inv h with h | ⟨_, _, _, n, x, h1, h2, _⟩
    · exact .inl ⟨o, h⟩
    · exact .inr (.inl ⟨n, x, h1, h2⟩)
  · obtain ⟨n, y, e1, e2, e3, e4⟩ := amIn_at hS hL h2
    exact .inr (.inl ⟨n, y, e3, e4⟩)
  · exact .inr (.inr h)
theorem ext10 (hS : RelS g C0 am st H s) (hL : Lent s.cells c refs ws es cs bk sn) : Ext (wdOf C0 am st H s) (wdOf (C1 C0 am H s bk sn) (amIn am bk) st H ⟨s.stm, cs⟩) :=
  ⟨fun _ _ h _ => h, fun _ _ h _ => h, fun _ _ _ h => h, fun _ _ h => h, fun _ _ h => h, fun a h => .inl (sub10 hS hL h), fun _ h => h, .inr rfl, fun _ _ h => h⟩
/-- at most one is lent, and that one is not looked at beside -/
def Ok1 (bk sn : List Nat) : Prop := bk = [] ∨ ∃ n, bk = [n] ∧ n ∉ sn
theorem Ok1.one (h : Ok1 bk sn) {m n : Nat} (e : bk[m]? = some n) : m = 0 ∧ bk = [n] ∧ n ∉ sn := by
  rcases h with rfl | ⟨k, rfl, h⟩
  · simp at e
  · cases m with
    | zero => simp at e; subst e; exact ⟨rfl, rfl, h⟩
    | succ m => simp at e
theorem Ok1.mem (h : Ok1 bk sn) {n : Nat} (e : n ∈ bk) : n ∉ sn := by
  obtain ⟨m, e⟩ := List.mem_iff_getElem?.mp e
  exact (h.one e).2.2
/-- data may name what is looked at -/
theorem seen_nC (hS : RelS g C0 am st H s) (hL : Lent s.cells c refs ws es cs bk sn) (hok : Ok1 bk sn) {n : Nat} {x : D} {a : Addr} (h1 : s.cells[n]? = some (true, x)) (h2 : am[n]? = some a) (h3 : n ∈ sn) : ¬ Cs (C1 C0 am H s bk sn) (amIn am bk) cs st a := fun q => by
  rcases q with ⟨o, q⟩ | ⟨m, y, q1, q2⟩ | ⟨p, q', q, z⟩
  · have q0 : C1 C0 am H s bk sn a = none := pinIn_out hS h1 h2 (.inr h3)
    rw [q0] at q
    cases q
  · obtain ⟨k, y, e1, e2, e3, e4⟩ := amIn_at hS hL q2
    have := hS.apart k n y x a e3 h1 e4 h2
    subst this
    exact (hok.one e1).2.2 h3
  · obtain ⟨n1, n2⟩ := (hS.out n x a h1 h2).2 p q' q
    exact z.elim n1 n2
theorem enterE (hS : RelS g C0 am st H s) (hok : Ok1 bk sn) {w1 : Wd} (hx : Ext (wdOf C0 am st H s) w1) (am1 : List Addr) (hsn : ∀ (n : Nat), n ∈ sn → ∀ x a, s.cells[n]? = some (true, x) → am[n]? = some a → ¬ w1.C a) (hH : w1.H = H) :
    ∀ {c refs ws es cs bk sn' vs}, Lent s.cells c refs ws es cs bk sn' → (∀ n ∈ sn', n ∈ sn) → (∀ (m n : Nat) a, bk[m]? = some n → am[n]? = some a → am1[c + m]? = some a) → RelVs g am (wdOf C0 am st H s) ws vs →
      ∀ (i : Nat) (x : W), es[i]? = some (some x) → ∃ v, vs[i]? = some v ∧ RelV g am1 w1 x v := by
  intro c refs ws es cs bk sn' vs hL
  induction hL generalizing vs with
  | nil => intro _ _ _ i x e; simp at e
  | @d c refs y ws es cs bk sn' _ ih =>
    intro h1 h2 hr i x e
    obtain ⟨v, r, rfl, r1, r2⟩ := hr
    cases i with
    | zero =>
      simp at e
      subst e
      exact ⟨v, rfl, RelV.ext (am := am1) hx (x := .d y) r1⟩
    | succ i => simpa using ih h1 h2 r2 i x (by simpa using e)
  | @lam c refs b en ws es cs bk sn' _ ih =>
    intro h1 h2 hr i x e
    obtain ⟨v, r, rfl, r1, r2⟩ := hr
    cases i with
    | zero =>
      simp at e
      subst e
      exact ⟨v, rfl, RelV.ext (am := am1) hx (x := .lam b en) r1⟩
    | succ i => simpa using ih h1 h2 r2 i x (by simpa using e)
  | @own c refs n y ws es cs bk sn' e0 _ ih =>
    intro h1 h2 hr i x e
    obtain ⟨v, r, rfl, r1, r2⟩ := hr
    cases i with
    | zero =>
      simp at e
      subst e
      obtain ⟨a, ea, ev⟩ := r1
      exact ⟨v, rfl, a, by simpa using h2 0 n a rfl ea, ev⟩
    | succ i => simpa using ih h1 (fun m k a q1 q2 => by have := h2 (m + 1) k a (by simpa using q1) q2; rw [← this]; congr 1; omega) r2 i x (by simpa using e)
  | @see c refs n b y ws es cs bk sn' e0 _ ih =>
    intro h1 h2 hr i x e
    obtain ⟨v, r, rfl, r1, r2⟩ := hr
    cases i with
    | zero =>
      simp at e
      subst e
      obtain ⟨a, ea, ev⟩ := r1
      refine ⟨v, rfl, ?_⟩
      subst ev
      show RelD g w1 y (.ref a)
      cases b with
      | false => exact RelD.ext hx _ _ (hS.dead n y a e0 ea)
      | true =>
        obtain ⟨o, q1, q2⟩ := hS.live n y a e0 ea
        exact relC_data (hsn n (h1 n List.mem_cons_self) y a e0 ea) (by rw [hH]; exact q1) (q2.ext hx)
    | succ i => simpa using ih (fun m hm => h1 m (List.mem_cons_of_mem _ hm)) h2 r2 i x (by simpa using e)
/-- into the frame -/
theorem enter (hS : RelS g C0 am st H s) (hP : PinF C0) (hL : Lent s.cells 0 refs ws es cs bk sn) (hok : Ok1 bk sn) : RelS g (C1 C0 am H s bk sn) (amIn am bk) st H ⟨s.stm, cs⟩ ∧ PinF (C1 C0 am H s bk sn) := by
  have hx := ext10 hS hL
  obtain ⟨hcl, hca⟩ := hL.cs_at
  refine ⟨⟨by show (amIn am bk).length = cs.length; rw [List.length_map, hcl], fun a b o h => ?_, fun m x a h1 h2 => ?_, fun m x a h1 h2 => ?_, fun m k x y a h1 h2 h3 h4 => ?_, fun m x a h1 h2 => ?_, fun p q h => ?_, hS.tb⟩, fun a b o h => ?_⟩
  · rcases pinIn_inv h with h | ⟨_, _, h, _⟩
    · exact hS.c0 a b o h
    · exact h
  · obtain ⟨n, y, e1, e2, e3, e4⟩ := amIn_at hS hL h2
    have h1 : cs[m]? = some (true, x) := h1
    rw [e2] at h1
    cases h1
    obtain ⟨o, q1, q2⟩ := hS.live n _ a e3 e4
    exact ⟨o, q1, q2.ext hx⟩
  · obtain ⟨n, y, e1, e2, e3, e4⟩ := amIn_at hS hL h2
    have h1 : cs[m]? = some (false, x) := h1
    rw [e2] at h1
    cases h1
  · obtain ⟨n, y1, e1, _, _, _⟩ := amIn_at hS hL h3
    obtain ⟨n', y2, e1', _, _, _⟩ := amIn_at hS hL h4
    rw [(hok.one e1).1, (hok.one e1').1]
  · obtain ⟨n, y, e1, e2, e3, e4⟩ := amIn_at hS hL h2
    exact ⟨pinIn_out hS e3 e4 (.inl (List.mem_of_getElem? e1)), (hS.out n y a e3 e4).2⟩
  · obtain ⟨q1, q2, q3⟩ := hS.stm p q h
    have no : ∀ a, C0 a = none → (a = p ∨ a = q) → C1 C0 am H s bk sn a = none := fun a n z => by
      cases e : C1 C0 am H s bk sn a with
      | none => rfl
      | some u =>
        rcases pinIn_inv e with e | ⟨_, _, _, k, x, k1, k2, _⟩
        · rw [n] at e; cases e
        · obtain ⟨n1, n2⟩ := (hS.out k x a k1 k2).2 p q h
          exact (z.elim n1 n2).elim
    exact ⟨q1, no p q2 (.inl rfl), no q q3 (.inr rfl)⟩
  · rcases pinIn_inv h with h | ⟨_, h1, h2, n, x, h3, h4, _⟩
    · exact hP a b o h
    · obtain ⟨o', q1, q2⟩ := hS.live n x a h3 h4
      have h2 : H a = some o := h2
      rw [q1] at h2
      cases h2
      refine ⟨fun z => ?_, relC_tbl q2⟩
      have h1 : b = true := h1
      rw [z] at h1
      cases h1
/-- out of the frame: cells2 is what the caller's cells are then -/
theorem leave {am2 : List Addr} {st2 : Option (Addr × Addr)} {H2 : Hp} {s2 : S} {cells2 : List (Bool × D)} (hS : RelS g C0 am st H s) (hL : Lent s.cells 0 refs ws es cs bk sn) (hok : Ok1 bk sn)
    (hp : Pre (amIn am bk) am2) (hS2 : RelS g (C1 C0 am H s bk sn) am2 st2 H2 s2) (hX : Ext (wdOf (C1 C0 am H s bk sn) (amIn am bk) st H ⟨s.stm, cs⟩) (wdOf (C1 C0 am H s bk sn) am2 st2 H2 s2)) (hlen : cells2.length = s.cells.length)
    (hc : ∀ (n : Nat) b x, cells2[n]? = some (b, x) → (∃ m : Nat, bk[m]? = some n ∧ s2.cells[m]? = some (b, x)) ∨ (n ∉ bk ∧ ∃ b0, s.cells[n]? = some (b0, x) ∧ (b = true → b0 = true ∧ (n ∈ sn → ∃ xs, x = .lst xs)) ∧ (b = false → b0 = false ∨ n ∈ sn)))
    (hB : bk ≠ [] → ∀ (n : Nat) x, cells2[n]? = some (true, x) → n ∉ sn) :
    RelS g C0 am st2 H2 ⟨s2.stm, cells2⟩ ∧ Ext (wdOf C0 am st H s) (wdOf C0 am st2 H2 ⟨s2.stm, cells2⟩) ∧ ((∀ (n : Nat) x, cells2[n]? = some (true, x) → n ∉ sn) → Ext (wdOf (C1 C0 am H s bk sn) am2 st2 H2 s2) (wdOf C0 am st2 H2 ⟨s2.stm, cells2⟩)) := by
  -- the lent cell's address
  have lentA : ∀ {m n : Nat} {a : Addr}, bk[m]? = some n → am[n]? = some a → am2[m]? = some a := fun {m n a} e1 e2 => by
    obtain ⟨t, rfl⟩ := hp
    have := amIn_of hS hL e1 e2
    rw [List.getElem?_append_left (List.getElem?_eq_some_iff.mp this).1]
    exact this
  have live0 : ∀ {n : Nat} {x : D}, cells2[n]? = some (true, x) → ∃ y, s.cells[n]? = some (true, y) := fun {n x} e => by
    rcases hc n true x e with ⟨m, e1, _⟩ | ⟨_, b0, e1, e2, _⟩
    · obtain ⟨y, _, e3⟩ := hL.cs_at.2 m n e1
      exact ⟨y, e3⟩
    · exact ⟨x, by rw [e1, (e2 rfl).1]⟩
  have X03 : Ext (wdOf C0 am st H s) (wdOf C0 am st2 H2 ⟨s2.stm, cells2⟩) := by
    refine ⟨fun a u h n => hX.ls a u h fun q => n (sub10 hS hL q), fun a u h n => hX.dk a u h fun q => n (sub10 hS hL q), hX.fz, hX.tup, hX.xd, fun a h => ?_, hX.live, hX.st, hX.co⟩
    rcases h with h | ⟨n, x, h1, h2⟩ | ⟨p, q, h, z⟩
    · exact .inl (.inl h)
    · obtain ⟨y, h3⟩ := live0 h1
      exact .inl (.inr (.inl ⟨n, y, h3, h2⟩))
    · rcases hX.fr a (.inr (.inr ⟨p, q, h, z⟩)) with h | h
      · exact .inl (sub10 hS hL h)
      · exact .inr h
  have X23 : (∀ (n : Nat) x, cells2[n]? = some (true, x) → n ∉ sn) → Ext (wdOf (C1 C0 am H s bk sn) am2 st2 H2 s2) (wdOf C0 am st2 H2 ⟨s2.stm, cells2⟩) := fun nS => by
    refine ⟨fun _ _ h _ => h, fun _ _ h _ => h, fun _ _ _ h => h, fun _ _ h => h, fun _ _ h => h, fun a h => .inl ?_, fun _ h => h, .inr rfl, fun _ _ h => h⟩
    rcases h with ⟨o, h⟩ | ⟨n, x, h1, h2⟩ | h
    · exact .inl ⟨o, pinIn_old h⟩
    · rcases hc n true x h1 with ⟨m, e1, e2⟩ | ⟨nb, b0, e1, e2, _⟩
      · exact .inr (.inl ⟨m, x, e2, lentA e1 h2⟩)
      · have e3 := (e2 rfl).1
        subst e3
        obtain ⟨o, q1, _⟩ := hS.live n x a e1 h2
        exact .inl ⟨o, pinIn_cell hS e1 h2 (fun z => z.elim nb (nS n x h1)) q1⟩
    · exact .inr (.inr h)
  have nil_of : ∀ {m n : Nat}, bk[m]? = some n → bk ≠ [] := fun {m n} e z => by rw [z] at e; simp at e
  -- looked at, live before: its address is no stream's
  have seenS : ∀ {n : Nat} {x : D} {a : Addr}, s.cells[n]? = some (true, x) → am[n]? = some a → n ∈ sn → ∀ p q, st2 = some (p, q) → a ≠ p ∧ a ≠ q := fun {n x a} h1 h2 h3 p q e => by
    have no : (a = p ∨ a = q) → False := fun z => by
      rcases hX.fr a (.inr (.inr ⟨p, q, e, z⟩)) with h | h
      · exact seen_nC hS hL hok h1 h2 h3 h
      · obtain ⟨o, q1, q2⟩ := hS.live n x a h1 h2
        exact ng_of q1 (relC_tbl q2) h
    exact ⟨fun z => no (.inl z), fun z => no (.inr z)⟩
  refine ⟨⟨by show am.length = cells2.length; rw [hlen, hS.len], fun a b o h => hS2.c0 a b o (pinIn_old h), fun n x a h1 h2 => ?_, fun n x a h1 h2 => ?_, fun n k x y a h1 h2 h3 h4 => ?_, fun n x a h1 h2 => ?_, fun p q h => ?_, hS2.tb⟩, X03, X23⟩
  · rcases hc n true x h1 with ⟨m, e1, e2⟩ | ⟨nb, b0, e1, e2, _⟩
    · obtain ⟨o, q1, q2⟩ := hS2.live m x a e2 (lentA e1 h2)
      exact ⟨o, q1, q2.ext (X23 (hB (nil_of e1)))⟩
    · obtain ⟨e3, e4⟩ := e2 rfl
      subst e3
      obtain ⟨o, q1, q2⟩ := hS.live n x a e1 h2
      by_cases hs : n ∈ sn
      · obtain ⟨xs, rfl⟩ := e4 hs
        obtain ⟨vs, rfl, q3⟩ := q2
        exact ⟨.lst vs, hX.ls a vs q1 (seen_nC hS hL hok e1 h2 hs), RelC.ext X03 (x := .lst xs) ⟨vs, rfl, q3⟩⟩
      · exact ⟨o, hS2.c0 a true o (pinIn_cell hS e1 h2 (fun z => z.elim nb hs) q1), q2.ext X03⟩
  · rcases hc n false x h1 with ⟨m, e1, e2⟩ | ⟨nb, b0, e1, _, e2⟩
    · exact RelD.ext (X23 (hB (nil_of e1))) _ _ (hS2.dead m x a e2 (lentA e1 h2))
    · cases b0 with
      | false => exact RelD.ext X03 _ _ (hS.dead n x a e1 h2)
      | true =>
        have hs : n ∈ sn := (e2 rfl).resolve_left (by decide)
        obtain ⟨o, q1, q2⟩ := hS.live n x a e1 h2
        have n1 := seen_nC hS hL hok e1 h2 hs
        have n3 : ¬ Cs C0 am cells2 st2 a := fun q => by
          rcases q with ⟨u, q⟩ | ⟨k, y, k1, k2⟩ | ⟨p, q', q, z⟩
          · rw [(hS.out n x a e1 h2).1] at q
            cases q
          · obtain ⟨y', k3⟩ := live0 k1
            have := hS.apart k n y' x a k3 e1 k2 h2
            subst this
            have h1' : cells2[k]? = some (false, x) := h1
            rw [k1] at h1'
            cases h1'
          · obtain ⟨m1, m2⟩ := seenS e1 h2 hs p q' q
            exact z.elim m1 m2
        have q3 := q2.ext X03
        cases x with
        | lst xs =>
          obtain ⟨vs, rfl, q4⟩ := q3
          simp only [RelD]
          exact ⟨a, vs, rfl, n3, hX.ls a vs q1 n1, q4⟩
        | dic kvs =>
          obtain ⟨ks, rfl, q4⟩ := q3
          simp only [RelD]
          exact ⟨a, ks, rfl, n3, hX.dk a ks (.inl q1) n1, q4⟩
        | _ => exact q3.elim
  · obtain ⟨x', k1⟩ := live0 h1
    obtain ⟨y', k2⟩ := live0 h2
    exact hS.apart n k x' y' a k1 k2 h3 h4
  · obtain ⟨y, k1⟩ := live0 h1
    refine ⟨(hS.out n y a k1 h2).1, fun p q e => ?_⟩
    rcases hc n true x h1 with ⟨m, e1, e2⟩ | ⟨nb, b0, e1, e2, _⟩
    · exact (hS2.out m x a e2 (lentA e1 h2)).2 p q e
    · by_cases hs : n ∈ sn
      · exact seenS k1 h2 hs p q e
      · obtain ⟨o, q1, _⟩ := hS.live n y a k1 h2
        have c1 := pinIn_cell (out := outs bk sn) hS k1 h2 (fun z => z.elim nb hs) q1
        obtain ⟨_, s1, s2⟩ := hS2.stm p q e
        have ne : ∀ b, C1 C0 am H s bk sn b = none → a ≠ b := fun b eb z => by
          rw [← z] at eb
          have := c1.symm.trans eb
          cases this
        exact ⟨ne p s1, ne q s2⟩
  · obtain ⟨q1, q2, q3⟩ := hS2.stm p q h
    exact ⟨q1, pinIn_none q2, pinIn_none q3⟩
/-! ### the caller's cells behind a call -/
theorem fold_stop1 : ∀ (seen : List Nat) (cells : List (Bool × D)), (seen.foldl stop1 cells).length = cells.length ∧ ∀ (n : Nat) b x, (seen.foldl stop1 cells)[n]? = some (b, x) → (n ∈ seen → b = false) ∧ ∃ b0, cells[n]? = some (b0, x) ∧ (b = true → b0 = true) ∧ (b = false → b0 = false ∨ n ∈ seen)
  | [], cells => ⟨rfl, fun n b x e => ⟨fun h => by simp at h, b, e, id, fun h => .inl h⟩⟩
  | k :: seen, cells => by
    obtain ⟨l1, h1⟩ := fold_stop1 seen (stop1 cells k)
    have hl : (stop1 cells k).length = cells.length := by
      unfold stop1
      split <;> simp
    have hs : ∀ (n : Nat) b x, (stop1 cells k)[n]? = some (b, x) → (n = k → b = false) ∧ ∃ b0, cells[n]? = some (b0, x) ∧ (b = true → b0 = true) ∧ (b = false → b0 = false ∨ n = k) := fun n b x e => by
      unfold stop1 at e
      split at e
      · rename_i b1 y ek
        by_cases hk : k = n
        · subst hk
          rw [List.getElem?_set_self (List.getElem?_eq_some_iff.mp ek).1] at e
          simp at e
          obtain ⟨e1, e2⟩ := e
          subst e1; subst e2
          exact ⟨fun _ => rfl, b1, ek, fun h => by simp at h, fun _ => .inr rfl⟩
        · rw [List.getElem?_set_ne hk] at e
          exact ⟨fun z => absurd z.symm hk, b, e, id, fun h => .inl h⟩
      · rename_i ek
        exact ⟨fun z => by subst z; rw [ek] at e; simp at e, b, e, id, fun h => .inl h⟩
    refine ⟨l1.trans hl, fun n b x e => ?_⟩
    obtain ⟨a1, b1, a2, a3, a4⟩ := h1 n b x e
    obtain ⟨c1, b2, c2, c3, c4⟩ := hs n b1 x a2
    refine ⟨fun hm => ?_, b2, c2, fun h => c3 (a3 h), fun h => ?_⟩
    · rcases List.mem_cons.mp hm with z | hm
      · cases b with
        | false => rfl
        | true => rw [a3 rfl] at c1; exact (c1 z).symm ▸ rfl
      · exact a1 hm
    · rcases a4 h with z | z
      · rcases c4 z with z | z
        · exact .inl z
        · exact .inr (z ▸ List.mem_cons_self)
      · exact .inr (List.mem_cons_of_mem _ z)
theorem fold_stopD : ∀ (seen : List Nat) (cells : List (Bool × D)), (seen.foldl stopD cells).length = cells.length ∧ ∀ (n : Nat) b x, (seen.foldl stopD cells)[n]? = some (b, x) → (b = true → n ∈ seen → x.isDic = false) ∧ ∃ b0, cells[n]? = some (b0, x) ∧ (b = true → b0 = true) ∧ (b = false → b0 = false ∨ n ∈ seen)
  | [], cells => ⟨rfl, fun n b x e => ⟨fun _ h => by simp at h, b, e, id, fun h => .inl h⟩⟩
  | k :: seen, cells => by
    obtain ⟨l1, h1⟩ := fold_stopD seen (stopD cells k)
    have hl : (stopD cells k).length = cells.length := by
      unfold stopD
      split <;> simp
    have hs : ∀ (n : Nat) b x, (stopD cells k)[n]? = some (b, x) → (b = true → n = k → x.isDic = false) ∧ ∃ b0, cells[n]? = some (b0, x) ∧ (b = true → b0 = true) ∧ (b = false → b0 = false ∨ n = k) := fun n b x e => by
      unfold stopD at e
      split at e
      · rename_i b1 y ek
        by_cases hk : k = n
        · subst hk
          rw [List.getElem?_set_self (List.getElem?_eq_some_iff.mp ek).1] at e
          simp at e
          obtain ⟨e1, e2⟩ := e
          subst e1; subst e2
          exact ⟨fun h => by simp at h, b1, ek, fun h => by simp at h, fun _ => .inr rfl⟩
        · rw [List.getElem?_set_ne hk] at e
          exact ⟨fun _ z => absurd z.symm hk, b, e, id, fun h => .inl h⟩
      · rename_i ek
        refine ⟨fun _ z => ?_, b, e, id, fun h => .inl h⟩
        subst z
        cases x with
        | dic kvs => exact absurd e (ek b kvs)
        | _ => rfl
    refine ⟨l1.trans hl, fun n b x e => ?_⟩
    obtain ⟨a1, b1, a2, a3, a4⟩ := h1 n b x e
    obtain ⟨c1, b2, c2, c3, c4⟩ := hs n b1 x a2
    refine ⟨fun hb hm => ?_, b2, c2, fun h => c3 (a3 h), fun h => ?_⟩
    · rcases List.mem_cons.mp hm with z | hm
      · exact c1 (a3 hb) z
      · exact a1 hb hm
    · rcases a4 h with z | z
      · rcases c4 z with z | z
        · exact .inl z
        · exact .inr (z ▸ List.mem_cons_self)
      · exact .inr (List.mem_cons_of_mem _ z)
theorem after_at {cells cs2 : List (Bool × D)} (hok : Ok1 bk sn) (h2 : bk.length ≤ cs2.length) : (after cells cs2 bk).length = cells.length ∧ ∀ (n : Nat) p, (after cells cs2 bk)[n]? = some p → (∃ m : Nat, bk[m]? = some n ∧ cs2[m]? = some p) ∨ (n ∉ bk ∧ cells[n]? = some p) := by
  rcases hok with rfl | ⟨k, rfl, hk⟩
  · exact ⟨rfl, fun n p e => .inr ⟨by simp, e⟩⟩
  · cases cs2 with
    | nil => simp at h2
    | cons q r =>
      have e0 : after cells (q :: r) [k] = cells.set k q := by
        unfold after
        simp
      rw [e0]
      refine ⟨by simp, fun n p e => ?_⟩
      by_cases hn : k = n
      · subst hn
        have hl : k < cells.length := by
          have := (List.getElem?_eq_some_iff.mp e).1
          simpa using this
        rw [List.getElem?_set_self hl] at e
        exact .inl ⟨0, rfl, by simpa using e⟩
      · rw [List.getElem?_set_ne hn] at e
        exact .inr ⟨by simpa using fun z : n = k => hn z.symm, e⟩
mutual
/-- data without lists and dicts stand for the same whatever is hidden -/
theorem still_rel {w w' : Wd} (hH : w.H = w'.H) (hst : w.st = w'.st) : ∀ (x : D) (v : V), x.still = true → RelD g w x v → RelD g w' x v
  | .non, v, _, h => by simpa [RelD] using h
  | .bl b, v, _, h => by simpa [RelD] using h
  | .int i, v, _, h => by simpa [RelD] using h
  | .str x, v, _, h => by simpa [RelD] using h
  | .fn f, v, _, h => by simpa [RelD] using h
  | .stm, v, _, h => by
    simp only [RelD] at h ⊢
    rw [← hst]; exact h
  | .tup xs, v, k, h => by
    simp only [RelD] at h ⊢
    obtain ⟨a, vs, e1, e2, e3⟩ := h
    exact ⟨a, vs, e1, by rw [← hH]; exact e2, stills_rel hH hst xs vs (by simpa [D.still] using k) e3⟩
  | .lst _, _, k, _ => by simp [D.still] at k
  | .dic _, _, k, _ => by simp [D.still] at k
  | .scr _, _, k, _ => by simp [D.still] at k
theorem stills_rel {w w' : Wd} (hH : w.H = w'.H) (hst : w.st = w'.st) : ∀ (xs : List D) (vs : List V), D.stills xs = true → RelDs g w xs vs → RelDs g w' xs vs
  | [], vs, _, h => by simpa [RelDs] using h
  | x :: xs, vs, k, h => by
    simp only [D.stills, Bool.and_eq_true] at k
    simp only [RelDs] at h ⊢
    obtain ⟨v, r, e1, e2, e3⟩ := h
    exact ⟨v, r, e1, still_rel hH hst x v k.1 e2, stills_rel hH hst xs r k.2 e3⟩
end
end
end Us
end

section
set_option Elab.async false
set_option linter.all false
set_option maxRecDepth 100000
set_option maxHeartbeats 1000000
/-! Us.Fn: a def's body keeps the def's promise. -/
namespace Us
open PySem PySem.Spec PyProof.Rows L2
theorem RelVs.length {g : Gp} {am : List Addr} {w : Wd} : ∀ {xs : List W} {vs : List V}, RelVs g am w xs vs → vs.length = xs.length
  | [], vs, h => by simp only [RelVs] at h; subst h; rfl
  | x :: xs, vs, h => by
    obtain ⟨v, r, rfl, h1, h2⟩ := h
    simp [RelVs.length h2]
section
variable {g : Gp} {C0 : Pin} {am : List Addr} {st : Option (Addr × Addr)} {H : Hp} {s : S} {refs : List Bool} {ws : List W} {es : List (Option W)} {cs : List (Bool × D)} {bk sn : List Nat} {vs : List V} {c : Nat}
theorem ok1_of {back seen : List Nat} (h : okLend back seen = true) : Ok1 back seen := by
  match back, h with
  | [], _ => exact .inl rfl
  | [n], h => exact .inr ⟨n, rfl, by simpa [okLend] using h⟩
  | _ :: _ :: _, h => simp [okLend] at h
theorem run_in {fn : Us.Fn} {gx : G} {N : List Str} {Q : VK} {E : XK} (hS : RelS g C0 am st H s) (hPF : PinF C0) (hW : RelVs g am (wdOf C0 am st H s) ws vs) (hN : N.length = fn.slots)
    (hF : Fin g C0 am (RelD g) (fun cls d _ H => E cls d H) [] (wdOf C0 am st H s) (fn.run gx ws s) Q) : rdSs g gx (fun cls d _ H => E cls d H) fn.body { nx := fun _ H' => Q .non H', rt := Q } (L2.start N vs) H := by
  unfold Us.Fn.run at hF
  by_cases hlen : ws.length = fn.params
  case neg => rw [if_neg hlen] at hF; exact hF.elim
  rw [if_pos hlen] at hF
  cases hl : lend fn.refs ws s.cells [] [] [] [] with
  | none => rw [hl] at hF; exact hF.elim
  | some r =>
    obtain ⟨ents, cs, back, seen⟩ := r
    rw [hl] at hF
    simp only at hF
    obtain ⟨es, cs2, bk, sn, hL, e1, e2, e3, e4⟩ := lend_ok hl
    simp only [List.length_nil, List.reverse_nil, List.nil_append] at hL e1 e2 e3 e4
    subst e1; subst e2; subst e3
    by_cases hok : okLend back seen = true
    case neg => rw [if_neg hok] at hF; exact hF.elim
    rw [if_pos hok] at hF
    have hsn : ∀ n, n ∈ seen ↔ n ∈ sn := fun n => by rw [e4 n]; simp
    have ok1 : Ok1 back sn := by
      rcases ok1_of hok with h | ⟨n, h1, h2⟩
      · exact .inl h
      · exact .inr ⟨n, h1, fun z => h2 ((hsn n).mpr z)⟩
    obtain ⟨hE, hPF1⟩ := enter hS hPF hL ok1
    have hx := ext10 hS hL
    have hvl := hW.length
    have hel := hL.len
    have slots : RelE g (amIn am back) (wdOf (C1 C0 am H s back sn) (amIn am back) st H ⟨s.stm, cs⟩) (ents ++ List.replicate (fn.slots - fn.params) none) (L2.start N vs) := by
      refine ⟨by simp only [L2.start, List.length_append, List.length_map, List.length_replicate]; omega, fun i x e => ?_⟩
      by_cases hi : i < ents.length
      · rw [List.getElem?_append_left hi] at e
        obtain ⟨v, h1, h2⟩ := enterE hS ok1 hx (amIn am back) (fun n hn x a q1 q2 => seen_nC hS hL ok1 q1 q2 hn) rfl hL (fun n h => h) (fun m n a q1 q2 => by rw [Nat.zero_add]; exact amIn_of hS hL q1 q2) hW i x e
        refine ⟨v, ?_, h2⟩
        unfold L2.start
        rw [List.getElem?_append_left (by rw [List.length_map]; omega), List.getElem?_map, h1]
        rfl
      · rw [List.getElem?_append_right (by omega), List.getElem?_replicate] at e
        split at e <;> simp at e
    refine ⟨C1 C0 am H s back sn, amIn am back, st, _, ⟨s.stm, cs⟩, ⟨hE, slots, hPF1⟩, ?_⟩
    have bl : ∀ {am2 : List Addr} {st2 : Option (Addr × Addr)} {H2 : Hp} {s2 : S}, Pre (amIn am back) am2 → RelS g (C1 C0 am H s back sn) am2 st2 H2 s2 → back.length ≤ s2.cells.length := fun {am2 st2 H2 s2} hp hS2 => by
      obtain ⟨t, rfl⟩ := hp
      rw [← hS2.len, List.length_append, List.length_map]
      exact Nat.le_add_right _ _
    -- some cells are lent, or something may come out
    have outB : ∀ {am2 : List Addr} {st2 : Option (Addr × Addr)} {H2 : Hp} {s2 : S}, Pre (amIn am back) am2 → RelS g (C1 C0 am H s back sn) am2 st2 H2 s2 → Ext (wdOf (C1 C0 am H s back sn) (amIn am back) st H ⟨s.stm, cs⟩) (wdOf (C1 C0 am H s back sn) am2 st2 H2 s2) →
        RelS g C0 am st2 H2 ⟨s2.stm, seen.foldl stop1 (after s.cells s2.cells back)⟩ ∧ Ext (wdOf C0 am st H s) (wdOf C0 am st2 H2 ⟨s2.stm, seen.foldl stop1 (after s.cells s2.cells back)⟩) ∧ Ext (wdOf (C1 C0 am H s back sn) am2 st2 H2 s2) (wdOf C0 am st2 H2 ⟨s2.stm, seen.foldl stop1 (after s.cells s2.cells back)⟩) := fun {am2 st2 H2 s2} hp hS2 hX => by
      obtain ⟨f1, f2⟩ := fold_stop1 seen (after s.cells s2.cells back)
      obtain ⟨g1, g2⟩ := after_at (cells := s.cells) ok1 (bl hp hS2)
      have nS : ∀ (n : Nat) x, (seen.foldl stop1 (after s.cells s2.cells back))[n]? = some (true, x) → n ∉ sn := fun n x e hn => by
        have := (f2 n true x e).1 ((hsn n).mpr hn)
        cases this
      have lv := leave hS hL ok1 hp hS2 hX (cells2 := seen.foldl stop1 (after s.cells s2.cells back)) (f1.trans g1) (fun n b x e => ?_) (fun _ => nS)
      · exact ⟨lv.1, lv.2.1, lv.2.2 nS⟩
      · obtain ⟨h1, b0, h2, h3, h4⟩ := f2 n b x e
        rcases g2 n _ h2 with ⟨m, q1, q2⟩ | ⟨q1, q2⟩
        · have hb : b = b0 := by
            cases b with
            | true => exact (h3 rfl).symm
            | false => exact ((h4 rfl).resolve_right fun z => (ok1.one q1).2.2 ((hsn n).mp z)).symm
          subst hb
          exact .inl ⟨m, q1, q2⟩
        · exact .inr ⟨q1, b0, q2, fun hb => ⟨h3 hb, fun hn => by have := h1 ((hsn n).mpr hn); rw [hb] at this; cases this⟩, fun hb => (h4 hb).imp id fun z => (hsn n).mp z⟩
    have outA : ∀ {am2 : List Addr} {st2 : Option (Addr × Addr)} {H2 : Hp} {s2 : S}, back.isEmpty = true → Pre (amIn am back) am2 → RelS g (C1 C0 am H s back sn) am2 st2 H2 s2 → Ext (wdOf (C1 C0 am H s back sn) (amIn am back) st H ⟨s.stm, cs⟩) (wdOf (C1 C0 am H s back sn) am2 st2 H2 s2) →
        RelS g C0 am st2 H2 ⟨s2.stm, seen.foldl stopD s.cells⟩ ∧ Ext (wdOf C0 am st H s) (wdOf C0 am st2 H2 ⟨s2.stm, seen.foldl stopD s.cells⟩) := fun {am2 st2 H2 s2} hb hp hS2 hX => by
      have hb : back = [] := by simpa using hb
      obtain ⟨f1, f2⟩ := fold_stopD seen s.cells
      have lv := leave hS hL ok1 hp hS2 hX (cells2 := seen.foldl stopD s.cells) f1 (fun n b x e => ?_) (fun z => absurd hb z)
      · exact ⟨lv.1, lv.2.1⟩
      · obtain ⟨h1, b0, h2, h3, h4⟩ := f2 n b x e
        refine .inr ⟨by simp [hb], b0, h2, fun hb => ⟨h3 hb, fun hn => ?_⟩, fun hb => (h4 hb).imp id fun z => (hsn n).mp z⟩
        have hd := h1 hb ((hsn n).mpr hn)
        have hb0 := h3 hb
        subst hb0
        obtain ⟨a, ea, _⟩ := am_at hS h2
        obtain ⟨o, _, q⟩ := hS.live n x a h2 ea
        cases x with
        | lst xs => exact ⟨xs, rfl⟩
        | dic kvs => simp [D.isDic] at hd
        | _ => exact q.elim
    cases hr : exs gx fn.body (ents ++ List.replicate (fn.slots - fn.params) none) ⟨s.stm, cs⟩ with
    | bad => rw [hr] at hF; exact hF.elim
    | ct env' s' => rw [hr] at hF; exact hF.elim
    | rt x s2 =>
      rw [hr] at hF
      intro am2 v H2 st2 hp hS2 hX hv
      by_cases hb : (x.still && back.isEmpty) = true
      · have hF : Fin g C0 am (RelD g) (fun cls d _ H => E cls d H) [] (wdOf C0 am st H s) (.ok x ⟨s2.stm, if (x.still && back.isEmpty) = true then seen.foldl stopD s.cells else seen.foldl stop1 (after s.cells s2.cells back)⟩) Q := hF
        rw [if_pos hb] at hF
        rw [Bool.and_eq_true] at hb
        obtain ⟨k1, k2⟩ := outA hb.2 hp hS2 hX
        refine hF v H2 st2 k1 k2 ?_
        exact still_rel (w := wdOf (C1 C0 am H s back sn) am2 st2 H2 s2) (w' := wdOf C0 am st2 H2 ⟨s2.stm, seen.foldl stopD s.cells⟩) rfl rfl x v hb.1 hv
      · have hF : Fin g C0 am (RelD g) (fun cls d _ H => E cls d H) [] (wdOf C0 am st H s) (.ok x ⟨s2.stm, if (x.still && back.isEmpty) = true then seen.foldl stopD s.cells else seen.foldl stop1 (after s.cells s2.cells back)⟩) Q := hF
        rw [if_neg hb] at hF
        obtain ⟨k1, k2, k3⟩ := outB hp hS2 hX
        exact hF v H2 st2 k1 k2 (RelD.ext k3 _ _ hv)
    | nx env' s2 =>
      rw [hr] at hF
      intro am2 σ' H2 st2 hp hS2 hX hv
      have hF : Fin g C0 am (RelD g) (fun cls d _ H => E cls d H) [] (wdOf C0 am st H s) (.ok .non ⟨s2.stm, if back.isEmpty = true then seen.foldl stopD s.cells else seen.foldl stop1 (after s.cells s2.cells back)⟩) Q := hF
      by_cases hb : back.isEmpty = true
      · rw [if_pos hb] at hF
        obtain ⟨k1, k2⟩ := outA hb hp hS2 hX
        exact hF .non H2 st2 k1 k2 relD_non
      · rw [if_neg hb] at hF
        obtain ⟨k1, k2, k3⟩ := outB hp hS2 hX
        exact hF .non H2 st2 k1 k2 relD_non
    | exc c x s2 =>
      rw [hr] at hF
      intro am2 cls d σ' H2 st2 hp hS2 hX hv
      have hF : Fin g C0 am (RelD g) (fun cls d _ H => E cls d H) [] (wdOf C0 am st H s) (.exc c x ⟨s2.stm, seen.foldl stop1 (after s.cells s2.cells back)⟩) Q := hF
      obtain ⟨k1, k2, k3⟩ := outB hp hS2 hX
      exact hF cls d H2 st2 k1 k2 (hv.ext k3)
/-- a def's promise, kept by its body -/
theorem fn_in {P : Prg} {cap : Int → Bool} {d f n : Nat} {fn : Us.Fn} {N : List Str} {Q : VK} {E : XK} {vs : List V} {H : Hp} (hP : P.fn f = some fn) (hN : N.length = fn.slots) (h : spOf g (gAt P cap (d + 1)) f n vs H Q E) :
    rdSs g (gAt P cap d) (fun cls d _ H => E cls d H) fn.body { nx := fun _ H' => Q .non H', rt := Q } (L2.start N vs) H := by
  obtain ⟨C0, am, st, ws, s, e, hpf, h1, h2, h3⟩ := h
  have e0 : (gAt P cap (d + 1)).call f ws s = fn.run (gAt P cap d) ws s := by
    show (match P.fn f with | some fn => fn.run (gAt P cap d) ws s | none => .bad) = _
    rw [hP]
  rw [e0] at h3
  exact run_in h1 hpf h2.toVs hN h3
end
end Us
end

section
set_option Elab.async false
set_option linter.all false
set_option maxRecDepth 100000
set_option maxHeartbeats 1000000
/-! Us.Draw: the laws' stream: the defs _law_stream, _law_draw as they are written in each law. -/
namespace Us
open PySem PySem.Spec PyProof.Rows L2
abbrev drawB (p : Nat → Pos) : List Stmt := [
  (.Assign
    (targets := [
      (.Subscript
        (value := (.Name "stream" (p 0)))
        (slice := (.Constant (.int 2) 0 (p 1)))
        (pos := (p 2)))])
    (value := (.BinOp
      (left := (.Subscript
        (value := (.Name "stream" (p 3)))
        (slice := (.Constant (.int 2) 0 (p 4)))
        (pos := (p 5))))
      (op := .Add)
      (right := (.Constant (.int 1) 0 (p 6)))
      (pos := (p 7))))
    (pos := (p 8))),
  (.While
    (test := (.BoolOp
      (op := .And)
      (values := [
        (.Compare
          (left := (.Subscript
            (value := (.Name "stream" (p 9)))
            (slice := (.Constant (.int 1) 0 (p 10)))
            (pos := (p 11))))
          (ops := [.Eq])
          (comparators := [(.Constant (.int 0) 0 (p 12))])
          (pos := (p 13))),
        (.Compare
          (left := (.Subscript
            (value := (.Name "stream" (p 14)))
            (slice := (.Constant (.int 0) 0 (p 15)))
            (pos := (p 16))))
          (ops := [.NotEq])
          (comparators := [(.List [] (p 17))])
          (pos := (p 18)))])
      (pos := (p 19))))
    (body := [
      (.Assign
        (targets := [(.Name "cell" (p 20))])
        (value := (.Call
          (func := (.Name "abs" (p 21)))
          (args := [
            (.Call
              (func := (.Attribute
                (value := (.Subscript
                  (value := (.Name "stream" (p 22)))
                  (slice := (.Constant (.int 0) 0 (p 23)))
                  (pos := (p 24))))
                (attr := "pop")
                (pos := (p 25))))
              (args := [(.Constant (.int 0) 0 (p 26))])
              (keywords := [])
              (pos := (p 27)))])
          (keywords := [])
          (pos := (p 28))))
        (pos := (p 29))),
      (.Assign
        (targets := [
          (.Subscript
            (value := (.Name "stream" (p 30)))
            (slice := (.Constant (.int 3) 0 (p 31)))
            (pos := (p 32)))])
        (value := (.BinOp
          (left := (.Call
            (func := (.Name "int" (p 33)))
            (args := [
              (.BinOp
                (left := (.BinOp
                  (left := (.BinOp
                    (left := (.Subscript
                      (value := (.Name "stream" (p 34)))
                      (slice := (.Constant (.int 3) 0 (p 35)))
                      (pos := (p 36))))
                    (op := .Mult)
                    (right := (.Constant (.int 6151) 0 (p 37)))
                    (pos := (p 38))))
                  (op := .Add)
                  (right := (.Name "cell" (p 39)))
                  (pos := (p 40))))
                (op := .Add)
                (right := (.Constant (.int 7) 0 (p 41)))
                (pos := (p 42)))])
            (keywords := [])
            (pos := (p 43))))
          (op := .Mod)
          (right := (.Constant (.int 2147483629) 0 (p 44)))
          (pos := (p 45))))
        (pos := (p 46))),
      (.Assign
        (targets := [
          (.Subscript
            (value := (.Name "stream" (p 47)))
            (slice := (.Constant (.int 1) 0 (p 48)))
            (pos := (p 49)))])
        (value := (.IfExp
          (test := (.Compare
            (left := (.Name "cell" (p 50)))
            (ops := [.GtE])
            (comparators := [
              (.BinOp
                (left := (.Constant (.int 10) 0 (p 51)))
                (op := .Pow)
                (right := (.Constant (.int 18) 0 (p 52)))
                (pos := (p 53)))])
            (pos := (p 54))))
          (body := (.Name "cell" (p 55)))
          (orelse := (.Constant (.int 0) 0 (p 56)))
          (pos := (p 57))))
        (pos := (p 58)))])
    (orelse := [])
    (pos := (p 59))),
  (.If
    (test := (.Compare
      (left := (.Subscript
        (value := (.Name "stream" (p 60)))
        (slice := (.Constant (.int 1) 0 (p 61)))
        (pos := (p 62))))
      (ops := [.Gt])
      (comparators := [(.Constant (.int 0) 0 (p 63))])
      (pos := (p 64))))
    (body := [
      (.Assign
        (targets := [(.Name "digit" (p 65))])
        (value := (.BinOp
          (left := (.Call
            (func := (.Name "int" (p 66)))
            (args := [
              (.Subscript
                (value := (.Name "stream" (p 67)))
                (slice := (.Constant (.int 1) 0 (p 68)))
                (pos := (p 69)))])
            (keywords := [])
            (pos := (p 70))))
          (op := .Mod)
          (right := (.Name "many" (p 71)))
          (pos := (p 72))))
        (pos := (p 73))),
      (.Assign
        (targets := [
          (.Subscript
            (value := (.Name "stream" (p 74)))
            (slice := (.Constant (.int 1) 0 (p 75)))
            (pos := (p 76)))])
        (value := (.BinOp
          (left := (.Subscript
            (value := (.Name "stream" (p 77)))
            (slice := (.Constant (.int 1) 0 (p 78)))
            (pos := (p 79))))
          (op := .FloorDiv)
          (right := (.Name "many" (p 80)))
          (pos := (p 81))))
        (pos := (p 82))),
      (.Return (some (.Name "digit" (p 83))) (p 84))])
    (orelse := [])
    (pos := (p 85))),
  (.Assign
    (targets := [(.Name "mixed" (p 86))])
    (value := (.BinOp
      (left := (.Call
        (func := (.Name "int" (p 87)))
        (args := [
          (.BinOp
            (left := (.BinOp
              (left := (.BinOp
                (left := (.Subscript
                  (value := (.Name "stream" (p 88)))
                  (slice := (.Constant (.int 3) 0 (p 89)))
                  (pos := (p 90))))
                (op := .Add)
                (right := (.BinOp
                  (left := (.Constant (.int 8191) 0 (p 91)))
                  (op := .Mult)
                  (right := (.Subscript
                    (value := (.Name "stream" (p 92)))
                    (slice := (.Constant (.int 2) 0 (p 93)))
                    (pos := (p 94))))
                  (pos := (p 95))))
                (pos := (p 96))))
              (op := .Add)
              (right := (.Constant (.int 50021) 0 (p 97)))
              (pos := (p 98))))
            (op := .Pow)
            (right := (.Constant (.int 5) 0 (p 99)))
            (pos := (p 100)))])
        (keywords := [])
        (pos := (p 101))))
      (op := .Mod)
      (right := (.Constant (.int 2147483587) 0 (p 102)))
      (pos := (p 103))))
    (pos := (p 104))),
  (.Return
    (value := (some
      (.BinOp
        (left := (.BinOp
          (left := (.Call
            (func := (.Name "int" (p 105)))
            (args := [
              (.BinOp
                (left := (.BinOp
                  (left := (.BinOp
                    (left := (.BinOp
                      (left := (.Name "mixed" (p 106)))
                      (op := .Mult)
                      (right := (.Constant (.int 40009) 0 (p 107)))
                      (pos := (p 108))))
                    (op := .Add)
                    (right := (.BinOp
                      (left := (.Constant (.int 20011) 0 (p 109)))
                      (op := .Mult)
                      (right := (.Subscript
                        (value := (.Name "stream" (p 110)))
                        (slice := (.Constant (.int 2) 0 (p 111)))
                        (pos := (p 112))))
                      (pos := (p 113))))
                    (pos := (p 114))))
                  (op := .Add)
                  (right := (.Constant (.int 31) 0 (p 115)))
                  (pos := (p 116))))
                (op := .Pow)
                (right := (.Constant (.int 3) 0 (p 117)))
                (pos := (p 118)))])
            (keywords := [])
            (pos := (p 119))))
          (op := .Mod)
          (right := (.Constant (.int 1000000009) 0 (p 120)))
          (pos := (p 121))))
        (op := .Mod)
        (right := (.Name "many" (p 122)))
        (pos := (p 123)))))
    (pos := (p 124)))]
abbrev streamB (p : Nat → Pos) : List Stmt := [
  (.Return
    (value := (some
      (.List
        (elts := [
          (.Call
            (func := (.Name "list" (p 0)))
            (args := [(.Name "script" (p 1))])
            (keywords := [])
            (pos := (p 2))),
          (.Constant (.int 0) 0 (p 3)),
          (.Constant (.int 0) 0 (p 4)),
          (.Constant (.int 19) 0 (p 5))])
        (pos := (p 6)))))
    (pos := (p 7)))]

/-! ### values that are there, whatever is wanted of them -/
def Pu (te : TE) (σ : L2.St) (H : Hp) (x : V) : Prop := ∀ Q : VK, Q x H → te σ H Q
section
variable {K : PySem.W.Frag} {σ : L2.St} {H : Hp} {ta tb : TE} {x y : V} {i j : Int}
theorem pu_c : Pu (tC x) σ H x := fun Q q => q
theorem pu_var {n : Nat} (h : σ[n]? = some (some x)) : Pu (tVar n) σ H x := fun Q q => ⟨x, h, q⟩
theorem pu_0 {g : Int → Int → V} (ha : Pu ta σ H (.int i)) (hb : Pu tb σ H (.int j)) : Pu (tOp (rI0 g) ta tb) σ H (g i j) := fun Q q => ha _ (hb _ ⟨i, j, rfl, rfl, q⟩)
theorem pu_I {C : Int → Int → Prop} {g : Int → Int → V} (ha : Pu ta σ H (.int i)) (hb : Pu tb σ H (.int j)) (hc : C i j) : Pu (tOp (rI C g) ta tb) σ H (g i j) := fun Q q => ha _ (hb _ ⟨i, j, rfl, rfl, hc, q⟩)
theorem pu_ix {p : Addr} {xs : List V} (ha : Pu ta σ H (.ref p)) (hb : Pu tb σ H (.int i)) (hp : H p = some (.lst xs)) (hx : atI xs i = some x) : Pu (tOp (rIx K) ta tb) σ H x := fun Q q => ha _ (hb _ (.inl ⟨p, xs, i, x, rfl, rfl, .inl (.inl hp), hx, q⟩))
abbrev rInt : List V → Hp → VK → Prop := fun xs H Q => (∃ i, xs = [.int i] ∧ Q (.int i) H) ∨ ∃ k, xs = [.bl k] ∧ Q (.int (if k then 1 else 0)) H
abbrev rAbs : List V → Hp → VK → Prop := fun xs H Q => ∃ i, xs = [.int i] ∧ Q (.int (if i < 0 then -i else i)) H
theorem pu_int (ha : Pu ta σ H (.int i)) : Pu (tCB rInt (tCons ta tNil)) σ H (.int i) := fun Q q => ha _ (.inl ⟨i, rfl, q⟩)
end
/-! ### the walk -/
abbrev sxT (K : PySem.W.Frag) (k : Int) : TE := tOp (rIx K) (tVar 0) (tC (.int k))
abbrev ssT (k : Int) (te : TE) : TS := tAsg te (gSub (tVar 0) (tC (.int k)) rSetL)
abbrev oAdd (ta tb : TE) : TE := tOp (rI0 fun i j => .int (i + j)) ta tb
abbrev oMul (ta tb : TE) : TE := tOp (rI CMul fun i j => .int (i * j)) ta tb
abbrev oMod (ta tb : TE) : TE := tOp (rI (fun _ j => j ≠ 0) fun i j => .int (i.fmod j)) ta tb
abbrev oDiv (ta tb : TE) : TE := tOp (rI CDivN fun i j => .int (i.fdiv j)) ta tb
abbrev oPow (ta tb : TE) : TE := tOp (rI CPow fun i j => .int (i ^ j.toNat)) ta tb
abbrev cI (i : Int) : TE := tC (.int i)
abbrev tI (te : TE) : TE := tCB rInt (tCons te tNil)
abbrev condT (K : PySem.W.Frag) : TT := tAnd (tB (tEqI (sxT K 1) (cI 0))) (tTest (tOp (rNeD K) (sxT K 0) (tLst tNil)))
abbrev popT (K : PySem.W.Frag) : TE := tCB rAbs (tCons (tBM K "list" rPopAt (sxT K 0) (tCons (cI 0) tNil)) tNil)
abbrev s3T (K : PySem.W.Frag) : TE := oMod (tI (oAdd (oAdd (oMul (sxT K 3) (cI 6151)) (tVar 2)) (cI 7))) (cI 2147483629)
abbrev s1T : TE := tIf (tB (tGe (tVar 2) (oPow (cI 10) (cI 18)))) (tVar 2) (cI 0)
abbrev loopT (K : PySem.W.Frag) : TS := tWhile (condT K) (tSeq (tAsg (popT K) (gName 2)) (tSeq (ssT 3 (s3T K)) (tSeq (ssT 1 s1T) tNext)))
abbrev digT (K : PySem.W.Frag) : TS := tIfS (tB (tGt (sxT K 1) (cI 0))) (tSeq (tAsg (oMod (tI (sxT K 1)) (tVar 1)) (gName 3)) (tSeq (ssT 1 (oDiv (sxT K 1) (tVar 1))) (tSeq (tRet (tVar 3)) tNext))) tNext
abbrev mixT (K : PySem.W.Frag) : TE := oMod (tI (oPow (oAdd (oAdd (sxT K 3) (oMul (cI 8191) (sxT K 2))) (cI 50021)) (cI 5))) (cI 2147483587)
abbrev retT (K : PySem.W.Frag) : TE := oMod (oMod (tI (oPow (oAdd (oAdd (oMul (tVar 4) (cI 40009)) (oMul (cI 20011) (sxT K 2))) (cI 31)) (cI 3))) (cI 1000000009)) (tVar 1)
abbrev drawT (K : PySem.W.Frag) : TS := tSeq (ssT 2 (oAdd (sxT K 2) (cI 1))) (tSeq (loopT K) (tSeq (digT K) (tSeq (tAsg (mixT K) (gName 4)) (tSeq (tRet (retT K)) tNext))))
def drawN : List Str := ["stream", "many", "cell", "digit", "mixed"]
theorem drawN_nd : drawN.Nodup := by decide +kernel
theorem pss_draw {X : Cx} {p : Nat → Pos} (hN : X.N = drawN) (hl : ∀ x ∈ drawN, X.env.scope.names.lookup x = some .local) (ga : Gl X "abs") (gi : Gl X "int") (ma : X.mg "abs" = none) (mi : X.mg "int" = none) (hp : PassesOwn (model X.prog X.w) X.A X.env X.xe) (hu : X.A.units + 64 < cLine)
    (hline : ((p 25).endLine == (p 27).line) = true) : PSs X (drawB p) (drawT X.K) := by
  have n0 : X.N[0]? = some ("stream" : Str) := by rw [hN]; rfl
  have n1 : X.N[1]? = some ("many" : Str) := by rw [hN]; rfl
  have n2 : X.N[2]? = some ("cell" : Str) := by rw [hN]; rfl
  have n3 : X.N[3]? = some ("digit" : Str) := by rw [hN]; rfl
  have n4 : X.N[4]? = some ("mixed" : Str) := by rw [hN]; rfl
  have nd : X.N.Nodup := by rw [hN]; exact drawN_nd
  have l0 := hl "stream" (by decide +kernel)
  have l1 := hl "many" (by decide +kernel)
  have l2 := hl "cell" (by decide +kernel)
  have l3 := hl "digit" (by decide +kernel)
  have l4 := hl "mixed" (by decide +kernel)
  have v0 : ∀ q, PE X (.Name "stream" q) (tVar 0) := fun q => pe_var n0 (.inl l0)
  have v1 : ∀ q, PE X (.Name "many" q) (tVar 1) := fun q => pe_var n1 (.inl l1)
  have v2 : ∀ q, PE X (.Name "cell" q) (tVar 2) := fun q => pe_var n2 (.inl l2)
  have v3 : ∀ q, PE X (.Name "digit" q) (tVar 3) := fun q => pe_var n3 (.inl l3)
  have v4 : ∀ q, PE X (.Name "mixed" q) (tVar 4) := fun q => pe_var n4 (.inl l4)
  have sx : ∀ (k : Int) q1 q2 q3, PE X (.Subscript (.Name "stream" q1) (.Constant (.int k) 0 q2) q3) (sxT X.K k) := fun k q1 q2 q3 => pe_ix ix_seq (v0 q1) pe_int fun _ _ => rfl
  have st : ∀ (k : Int) q1 q2 q3, PG X (.Subscript (.Name "stream" q1) (.Constant (.int k) 0 q2) q3) (gSub (tVar 0) (cI k) rSetL) := fun k q1 q2 q3 => pg_sub (v0 q1) pe_int set_list
  have int1 : ∀ {e te} q1 q2, PE X e te → (he : starEach [e] X.env = [(false, eval e X.env)]) → PE X (.Call (.Name "int" q1) [e] [] q2) (tI te) := fun {e te} q1 q2 h he => pe_callTy call_int1 gi mi (by decide +kernel) (pa_cons h pa_nil he) (by decide +kernel) (by decide +kernel) he
  refine pss_cons (ps_asg (pe_op op_add (sx 2 _ _ _) pe_int) (st 2 _ _ _)) (pss_cons (ps_while hp ?c ?b) (pss_cons (ps_if ?d ?e pss_nil) (pss_cons (ps_set nd n4 (.inl l4) ?f rfl (.inr l4)) (pss_cons (ps_ret ?g) pss_nil))))
  case c => exact PW.pt (pw_and (pt_cmp (pc_eqI (sx 1 _ _ _) pe_int)) (pw_and1 (pt_cmpR (op_neD hu) (sx 0 _ _ _) (pe_lst pa_nil) rfl)))
  case b =>
    refine pss_cons (ps_set nd n2 (.inl l2) (pe_callB call_abs ga ma (by decide +kernel) (pa_cons ?p pa_nil) (by decide +kernel) (by decide +kernel)) rfl (.inr l2)) (pss_cons (ps_asg (pe_op op_modN (int1 _ _ ?q rfl) pe_int) (st 3 _ _ _)) (pss_cons (ps_asg (pe_ifExp (pt_cmp (pc_ge (v2 _) (pe_op op_pow pe_int pe_int))) (v2 _) pe_int) (st 1 _ _ _)) pss_nil))
    case p => exact pe_bm PySem.F.plainAttrs_list PySem.F.slot_list_pop PySem.F.type_list_pop mt_popAt (sx 0 _ _ _) (pa_cons pe_int pa_nil) rfl (by rfl) hline
    case q => exact pe_op op_add (pe_op op_add (pe_op op_mul (sx 3 _ _ _) pe_int) (v2 _)) pe_int
  case d => exact pt_cmp (pc_gt (sx 1 _ _ _) pe_int)
  case e => exact pss_cons (ps_set nd n3 (.inl l3) (pe_op op_modN (int1 _ _ (sx 1 _ _ _) rfl) (v1 _)) rfl (.inr l3)) (pss_cons (ps_asg (pe_op op_fdivN (sx 1 _ _ _) (v1 _)) (st 1 _ _ _)) (pss_cons (ps_ret (v3 _)) pss_nil))
  case f => exact pe_op op_modN (int1 _ _ (pe_op op_pow (pe_op op_add (pe_op op_add (sx 3 _ _ _) (pe_op op_mul pe_int (sx 2 _ _ _))) pe_int) pe_int) rfl) pe_int
  case g => exact pe_op op_modN (pe_op op_modN (int1 _ _ (pe_op op_pow (pe_op op_add (pe_op op_add (pe_op op_mul (v4 _) pe_int) (pe_op op_mul pe_int (sx 2 _ _ _))) pe_int) pe_int) rfl) pe_int) (v1 _)
end Us
end

section
set_option Elab.async false
set_option linter.all false
set_option maxRecDepth 100000
set_option maxHeartbeats 1000000
/-! Us.Draw2: what _law_draw does. -/
namespace Us
open PySem PySem.Spec PyProof.Rows L2
def Keep2 (p q : Addr) (H0 H : Hp) : Prop := ∀ a u, H0 a = some u → a ≠ p → a ≠ q → H a = some u
structure At (p q : Addr) (H0 H : Hp) (cs : List Int) (dg ct mx : Int) : Prop where
  ne : p ≠ q
  keep : Keep2 p q H0 H
  hp : H p = some (.lst [.ref q, .int dg, .int ct, .int mx])
  hq : H q = some (.lst (cs.map V.int))
  dg : 0 ≤ dg
  ct : 0 ≤ ct
  mx : 0 ≤ mx ∧ mx < 2147483629
section
variable {K : PySem.W.Frag} {σ : L2.St} {H0 H : Hp} {p q : Addr} {cs : List Int} {dg ct mx : Int} {D : Ends}
theorem At.grow {H' : Hp} (A : At p q H0 H cs dg ct mx) (k : ∀ a u, H a = some u → H' a = some u) : At p q H0 H' cs dg ct mx :=
  ⟨A.ne, fun a u h1 h2 h3 => k _ _ (A.keep a u h1 h2 h3), k _ _ A.hp, k _ _ A.hq, A.dg, A.ct, A.mx⟩
theorem At.setP {dg' ct' mx' : Int} (A : At p q H0 H cs dg ct mx) (h1 : 0 ≤ dg') (h2 : 0 ≤ ct') (h3 : 0 ≤ mx' ∧ mx' < 2147483629) : At p q H0 (upd H p (.lst [.ref q, .int dg', .int ct', .int mx'])) cs dg' ct' mx' :=
  ⟨A.ne, fun a u k1 k2 k3 => by rw [upd_ne k2]; exact A.keep a u k1 k2 k3, upd_same, by rw [upd_ne (Ne.symm A.ne)]; exact A.hq, h1, h2, h3⟩
theorem At.setQ {cs' : List Int} (A : At p q H0 H cs dg ct mx) : At p q H0 (upd H q (.lst (cs'.map V.int))) cs' dg ct mx :=
  ⟨A.ne, fun a u k1 k2 k3 => by rw [upd_ne k3]; exact A.keep a u k1 k2 k3, by rw [upd_ne A.ne]; exact A.hp, upd_same, A.dg, A.ct, A.mx⟩
structure Sl (σ : L2.St) (p : Addr) (many : Int) : Prop where
  s0 : σ[0]? = some (some (.ref p))
  s1 : σ[1]? = some (some (.int many))
  len : σ.length = 5
theorem Sl.set {many : Int} (S : Sl σ p many) {n : Nat} {o : Option V} (h : 2 ≤ n) : Sl (σ.set n o) p many :=
  ⟨by rw [List.getElem?_set_ne (by omega)]; exact S.s0, by rw [List.getElem?_set_ne (by omega)]; exact S.s1, by rw [List.length_set]; exact S.len⟩
theorem set_at {n : Nat} {o : Option V} (h : n < σ.length) : (σ.set n o)[n]? = some o := by rw [List.getElem?_set_self h]
theorem sx_dg {many : Int} (S : Sl σ p many) (A : At p q H0 H cs dg ct mx) : Pu (sxT K 1) σ H (.int dg) := pu_ix (pu_var S.s0) pu_c A.hp (by first | rfl | decide)
theorem sx_ct {many : Int} (S : Sl σ p many) (A : At p q H0 H cs dg ct mx) : Pu (sxT K 2) σ H (.int ct) := pu_ix (pu_var S.s0) pu_c A.hp (by first | rfl | decide)
theorem sx_mx {many : Int} (S : Sl σ p many) (A : At p q H0 H cs dg ct mx) : Pu (sxT K 3) σ H (.int mx) := pu_ix (pu_var S.s0) pu_c A.hp (by first | rfl | decide)
theorem sx_q {many : Int} (S : Sl σ p many) (A : At p q H0 H cs dg ct mx) : Pu (sxT K 0) σ H (.ref q) := pu_ix (pu_var S.s0) pu_c A.hp (by first | rfl | decide)
theorem ss_at {te : TE} {k : Int} {j : Nat} {xs : List V} {x : V} (h0 : σ[0]? = some (some (.ref p))) (he : Pu te σ H x) (hp : H p = some (.lst xs)) (hj : ixN xs.length k = some j) (h : D.nx σ (upd H p (.lst (xs.set j x)))) : ssT k te D σ H :=
  he _ ⟨_, h0, p, xs, k, j, rfl, rfl, hp, hj, h⟩
theorem dp_ints {H : Hp} : ∀ cs : List Int, DpAll K H (cs.map V.int) (cs.map PyData.int)
  | [] => .nil
  | c :: cs => .cons (.int c) (dp_ints cs)
theorem lay_ints : ∀ cs : List Int, PyData.canLayAll0 (cs.map PyData.int) = true ∧ PyData.depthAll (cs.map PyData.int) = 0
  | [] => ⟨rfl, rfl⟩
  | c :: cs => by
    obtain ⟨h1, h2⟩ := lay_ints cs
    exact ⟨by simp [PyData.canLayAll0, PyData.canLay0, h1], by simp [PyData.depthAll, PyData.depth, h2]⟩
theorem shaped_ints (cs : List Int) : SeqAt.shaped (.list (cs.map PyData.int)) = true := by
  obtain ⟨h1, h2⟩ := lay_ints cs
  simp [SeqAt.shaped, PyData.canLay0, PyData.depth, h1, h2]
theorem cond_at {many : Int} {R : Bool → Hp → Prop} (S : Sl σ p many) (A : At p q H0 H cs dg ct mx) (h : ∀ H', At p q H0 H' cs dg ct mx → R (decide (dg = 0) && !cs.isEmpty) H') : condT K σ H R := by
  refine sx_dg S A _ ⟨dg, 0, rfl, rfl, _, rfl, ?_⟩
  show if decide (dg = 0) = true then _ else _
  by_cases e : dg = 0
  · have e1 : decide (dg = 0) = true := decide_eq_true e
    rw [if_pos e1]
    refine sx_q S A _ ⟨by show 0 ≤ sizeLine; exact Nat.zero_le _, fun r hr => ?_⟩
    have A' := A.grow (upd_keep (o := .lst []) hr)
    refine ⟨.list (cs.map PyData.int), .list [], .lst (.inl (.inl A'.hq)) (dp_ints cs), .lst (.inl (.inl upd_same)) .nil, shaped_ints cs, by rfl, _, rfl, ?_⟩
    have := h _ A'
    rw [e1] at this
    cases cs <;> exact this
  · have e1 : decide (dg = 0) = false := decide_eq_false e
    rw [if_neg (by rw [e1]; decide)]
    have := h _ A
    rw [e1] at this
    exact this
theorem pop_at {many : Int} {c : Int} {R : VK} (S : Sl σ p many) (A : At p q H0 H (c :: cs) dg ct mx) (h : ∀ H', At p q H0 H' cs dg ct mx → R (.int c.natAbs) H') : popT K σ H R := by
  refine sx_q S A _ ⟨.inl ⟨rfl, _, .inl (.inl A.hq)⟩, q, _, 0, 0, .int c, rfl, rfl, A.hq, by decide, by decide, by simp [seqIndex?], rfl, c, rfl, ?_⟩
  have e : (if c < 0 then -c else c) = (c.natAbs : Int) := by split <;> omega
  rw [e]
  exact h _ (A.setQ (cs' := cs))
theorem fmod_ok {a n : Int} (h : 0 < n) : 0 ≤ a.fmod n ∧ a.fmod n < n := ⟨Int.fmod_nonneg_of_pos a h, Int.fmod_lt_of_pos a h⟩
theorem feed_cons {c : Int} : feed (c :: cs) mx 0 = feed cs ((mx * 6151 + (c.natAbs : Int) + 7).fmod 2147483629) (if (c.natAbs : Int) ≥ 1000000000000000000 then c.natAbs else 0) := by
  rw [feed, if_pos rfl]
theorem feed_end (h : ¬ (dg = 0 ∧ cs ≠ [])) : feed cs mx dg = (cs, mx, dg) := by
  cases cs with
  | nil => rfl
  | cons c cs =>
    rw [feed]
    rw [if_neg (fun e => h ⟨e, by simp⟩)]
theorem loop_at {many : Int} (S : Sl σ p many) (A : At p q H0 H cs dg ct mx) (h : ∀ σ' H' cs' dg' mx', Sl σ' p many → At p q H0 H' cs' dg' ct mx' → feed cs mx dg = (cs', mx', dg') → D.nx σ' H') : loopT K D σ H := by
  refine ⟨fun m σ' H' => ∃ cs' dg' mx', m = cs'.length ∧ Sl σ' p many ∧ At p q H0 H' cs' dg' ct mx' ∧ feed cs' mx' dg' = feed cs mx dg, ⟨_, cs, dg, mx, rfl, S, A, rfl⟩, ?_⟩
  rintro m σ' H' ⟨cs', dg', mx', rfl, S', A', e⟩
  refine cond_at S' A' fun H1 A1 => ?_
  by_cases hz : dg' = 0 ∧ cs' ≠ []
  · obtain ⟨rfl, hn⟩ := hz
    cases cs' with
    | nil => exact absurd rfl hn
    | cons c cs' =>
      rw [if_pos (by simp)]
      refine ⟨fun σ2 H2 => ∃ dg2 mx2, Sl σ2 p many ∧ At p q H0 H2 cs' dg2 ct mx2 ∧ feed cs' mx2 dg2 = feed cs mx dg, ?_, ?_⟩
      · rintro σ2 H2 ⟨dg2, mx2, S2, A2, e2⟩
        exact ⟨cs'.length, by simp, cs', dg2, mx2, rfl, S2, A2, e2⟩
      · refine pop_at S' A1 fun H2 A2 => ?_
        have S2 : Sl (σ'.set 2 (some (.int c.natAbs))) p many := S'.set (by omega)
        have hc : (σ'.set 2 (some (.int (c.natAbs : Int))))[2]? = some (some (.int (c.natAbs : Int))) := set_at (by rw [S'.len]; omega)
        have e3 : Pu (s3T K) (σ'.set 2 (some (.int c.natAbs))) H2 (.int ((mx' * 6151 + (c.natAbs : Int) + 7).fmod 2147483629)) :=
          pu_I (pu_int (pu_0 (pu_0 (pu_I (sx_mx S2 A2) pu_c (.inl ⟨by have := A2.mx; omega, by have := A2.mx; omega⟩)) (pu_var hc)) pu_c)) pu_c (by decide)
        refine ss_at S2.s0 e3 A2.hp (by first | rfl | decide) ?_
        have A3 := A2.setP (dg' := 0) (ct' := ct) (mx' := (mx' * 6151 + (c.natAbs : Int) + 7).fmod 2147483629) (by omega) A2.ct (fmod_ok (by omega))
        show ssT 1 s1T _ _ _
        refine ss_at (k := 1) (j := 1) (x := .int (if (c.natAbs : Int) ≥ 1000000000000000000 then c.natAbs else 0)) S2.s0 (fun Q hq => ?_) A3.hp (by first | rfl | decide) ?_
        · refine ⟨_, hc, 10, 18, rfl, rfl, ⟨by omega, by omega, by decide⟩, _, _, rfl, rfl, _, rfl, ?_⟩
          by_cases hg : (c.natAbs : Int) ≥ 1000000000000000000
          · have e5 : decide ((c.natAbs : Int) ≥ 1000000000000000000) = true := decide_eq_true hg
            rw [if_pos hg] at hq
            show if decide ((c.natAbs : Int) ≥ 1000000000000000000) = true then _ else _
            rw [if_pos e5]
            exact ⟨_, hc, hq⟩
          · have e5 : decide ((c.natAbs : Int) ≥ 1000000000000000000) = false := decide_eq_false hg
            rw [if_neg hg] at hq
            show if decide ((c.natAbs : Int) ≥ 1000000000000000000) = true then _ else _
            rw [if_neg (by rw [e5]; decide)]
            exact hq
        · refine ⟨_, _, S2, A3.setP (ct' := ct) (mx' := (mx' * 6151 + (c.natAbs : Int) + 7).fmod 2147483629) (by split <;> omega) A3.ct A3.mx, ?_⟩
          rw [← feed_cons]
          exact e
  · have hb : (decide (dg' = 0) && !cs'.isEmpty) = false := by
      rw [Bool.and_eq_false_iff]
      by_cases h1 : dg' = 0
      · right
        have : cs' = [] := Classical.byContradiction fun h2 => hz ⟨h1, h2⟩
        rw [this]; rfl
      · exact .inl (decide_eq_false h1)
    rw [hb, if_neg (by decide)]
    exact h σ' H1 cs' dg' mx' S' A1 (by rw [← e]; exact feed_end hz)
theorem draw_at {many : Int} {t : Stm} (S : Sl σ p many) (hS : StOk t p q H) (hm : 0 < many ∧ many < 1073741824) (hct : t.ct < 2 ^ 40) (hQ : ∀ H', Keep2 p q H H' → StOk (t.draw many).2 p q H' → D.rt (.int (t.draw many).1) H') : drawT K D σ H := by
  have A : At p q H H t.cs t.dg t.ct t.mx := ⟨hS.ne, fun a u h _ _ => h, hS.hp, hS.hq, hS.dg, hS.ct, hS.mx⟩
  have hct0 := hS.ct
  refine ss_at S.s0 (pu_0 (sx_ct S A) pu_c) A.hp (by first | rfl | decide) ?_
  have A1 := A.setP (dg' := t.dg) (ct' := t.ct + 1) (mx' := t.mx) A.dg (by omega) A.mx
  refine loop_at S A1 fun σ1 H1 cs1 dg1 mx1 S1 A2 ef => ?_
  have ed : t.draw many = (if dg1 > 0 then (dg1.fmod many, ⟨cs1, dg1.fdiv many, t.ct + 1, mx1⟩) else (((((((mx1 + 8191 * (t.ct + 1) + 50021) ^ 5).fmod 2147483587) * 40009 + 20011 * (t.ct + 1) + 31) ^ 3).fmod 1000000009).fmod many, ⟨cs1, dg1, t.ct + 1, mx1⟩)) := by
    unfold Stm.draw
    simp only [ef]
  rw [ed] at hQ
  refine sx_dg S1 A2 _ ⟨dg1, 0, rfl, rfl, _, rfl, ?_⟩
  show if decide (dg1 > 0) = true then _ else _
  by_cases hd : dg1 > 0
  · rw [if_pos hd] at hQ
    rw [if_pos (by simpa using hd)]
    refine (pu_I (pu_int (sx_dg S1 A2)) (pu_var S1.s1) (by omega)) _ ?_
    have S2 : Sl (σ1.set 3 (some (.int (dg1.fmod many)))) p many := S1.set (by omega)
    refine ss_at S2.s0 (pu_I (sx_dg S2 A2) (pu_var S2.s1) ⟨by omega, by omega⟩) A2.hp (by first | rfl | decide) ?_
    refine ⟨_, set_at (by rw [S1.len]; omega), ?_⟩
    have A3 := A2.setP (dg' := dg1.fdiv many) (ct' := t.ct + 1) (mx' := mx1) (by
      rw [Int.fdiv_eq_ediv_of_nonneg _ (by omega)]
      exact Int.ediv_nonneg (by omega) (by omega)) A2.ct A2.mx
    exact hQ _ A3.keep ⟨A3.ne, A3.hp, A3.hq, A3.dg, A3.ct, A3.mx⟩
  · rw [if_neg hd] at hQ
    rw [if_neg (by simpa using hd)]
    have hmx := A2.mx
    have hmix := fmod_ok (a := (mx1 + 8191 * (t.ct + 1) + 50021) ^ 5) (n := 2147483587) (by omega)
    have p1 : Pu (mixT K) σ1 H1 (.int (((mx1 + 8191 * (t.ct + 1) + 50021) ^ 5).fmod 2147483587)) := (pu_I (i := (mx1 + 8191 * (t.ct + 1) + 50021) ^ 5) (pu_int (pu_I (pu_0 (pu_0 (sx_mx S1 A2) (pu_I pu_c (sx_ct S1 A2) (.inl ⟨by omega, by omega⟩))) pu_c) pu_c ⟨by omega, by omega, by omega⟩)) pu_c (by decide))
    refine p1 _ ?_
    have S2 : Sl (σ1.set 4 (some (.int (((mx1 + 8191 * (t.ct + 1) + 50021) ^ 5).fmod 2147483587)))) p many := S1.set (by omega)
    clear p1
    generalize ((mx1 + 8191 * (t.ct + 1) + 50021) ^ 5).fmod 2147483587 = mix at *
    have p2 : Pu (retT K) (σ1.set 4 (some (.int mix))) H1 (.int ((((mix * 40009 + 20011 * (t.ct + 1) + 31) ^ 3).fmod 1000000009).fmod many)) := (pu_I (i := ((mix * 40009 + 20011 * (t.ct + 1) + 31) ^ 3).fmod 1000000009) (pu_I (i := (mix * 40009 + 20011 * (t.ct + 1) + 31) ^ 3) (pu_int (pu_I (pu_0 (pu_0 (pu_I (pu_var (set_at (by rw [S1.len]; omega))) pu_c (.inl ⟨by omega, by omega⟩)) (pu_I pu_c (sx_ct S2 A2) (.inl ⟨by omega, by omega⟩))) pu_c) pu_c ⟨by omega, by omega, by omega⟩)) pu_c (by decide)) (pu_var S2.s1) (by omega))
    refine p2 _ ?_
    exact hQ _ A2.keep ⟨A2.ne, A2.hp, A2.hq, A2.dg, A2.ct, A2.mx⟩
end
end Us
end

section
set_option Elab.async false
set_option linter.all false
set_option maxRecDepth 100000
set_option maxHeartbeats 1000000
/-! Us.Draw3: the stream's defs as callees. -/
namespace Us
open PySem PySem.Spec PyProof.Rows L2
def spDraw : Sp := fun vs H Q _ => ∃ p q many t, vs = [.ref p, .int many] ∧ StOk t p q H ∧ (0 < many ∧ many < 1073741824) ∧ t.ct < 2 ^ 40 ∧ ∀ H', Keep2 p q H H' → StOk (t.draw many).2 p q H' → Q (.int (t.draw many).1) H'
def spStream (K : PySem.W.Frag) : Sp := fun vs H Q _ => ∃ a cs, vs = [.ref a] ∧ SqL K H a (cs.map V.int) ∧ ∀ H' p q, (∀ b u, H b = some u → H' b = some u) → H p = none → H q = none → StOk ⟨cs, 0, 0, 19⟩ p q H' → Q (.ref p) H'
theorem spDraw_len : ∀ vs H Q E, spDraw vs H Q E → vs.length = 2 := fun vs H Q E ⟨p, q, many, t, e, _⟩ => by rw [e]; rfl
theorem spStream_len {K : PySem.W.Frag} : ∀ vs H Q E, spStream K vs H Q E → vs.length = 1 := fun vs H Q E ⟨p, q, e, _⟩ => by rw [e]; rfl
def streamN : List Str := ["script"]
theorem pss_stream {X : Cx} {p : Nat → Pos} (hN : X.N = streamN) (hl : X.env.scope.names.lookup ("script" : Str) = some .local) (gl : Gl X "list") (ml : X.mg "list" = none) {D : Ends} {H : Hp} {vs : List V} {E : XK} (h : spStream X.K vs H D.rt E) :
    ∃ t, PSs X (streamB p) t ∧ t D (L2.start streamN vs) H := by
  have n0 : X.N[0]? = some ("script" : Str) := by rw [hN]; rfl
  refine ⟨_, pss_cons (ps_ret (pe_lst (pa_cons (pe_callTy call_list_of gl ml (by decide +kernel) (pa_cons (pe_var n0 (.inl hl)) pa_nil)) (pa_cons pe_int (pa_cons pe_int (pa_cons pe_int pa_nil)))))) pss_nil, ?_⟩
  obtain ⟨a, cs, rfl, h1, h2⟩ := h
  refine ⟨_, rfl, a, _, rfl, .inl h1, fun q hq => ?_⟩
  refine ⟨by show 4 ≤ sizeLine; unfold sizeLine; omega, fun p' hp' => ?_⟩
  have hne : p' ≠ q := fun z => by rw [z, upd_same] at hp'; cases hp'
  have hp0 : H p' = none := by rw [upd_ne hne] at hp'; exact hp'
  refine h2 _ p' q (fun b u e => ?_) hp0 hq ⟨hne, upd_same, by rw [upd_ne (Ne.symm hne), upd_same], by show (0 : Int) ≤ 0; omega, by show (0 : Int) ≤ 0; omega, by show (0 : Int) ≤ 19 ∧ (19 : Int) < _; omega⟩
  rw [upd_ne (fun z => by rw [z, hp0] at e; cases e), upd_ne (fun z => by rw [z, hq] at e; cases e)]
  exact e
/-- a def of the program's own, taken as it is -/
structure CalleeN (X : Cx) (k : Nat) (f : Addr) (ps : List Str) (sp : Sp) : Prop where
  ex : ∃ fd : FuncData, FnOk X.prog X.w X.K X.mg X.base (L2.CX X.prog X.w) k f fd ps sp ∧ Plain fd ps
  nd : ps.Nodup
  keep : PySem.W.keepIn X.K (.ref f) = true
section
variable {X : Cx} {g g0 : Gp} {gx : G} {Wx : WX} {C0 : Pin} {am : List Addr} {σ : L2.St} {st : Option (Addr × Addr)} {H : Hp} {s : S} {env : Us.Env} {w w1 : Wd} {Q : V → Hp → Prop}
theorem CalleeN.run {k : Nat} {f : Addr} {ps : List Str} {sp : Sp} (F : CalleeN X k f ps sp) (hr : Room k X.A) (tk : Takes X Wx) {pins : List (Addr × Obj)} {s' : Shared} {us : List Value} {vs : List V} (I : Inv X pins σ H s') (r : Vals vs us) (h : sp vs H Q (WE Wx σ)) :
    wpAny (model X.prog X.w) X.A (call (.ref f) us) (EP X pins σ Q) X.xe s' := by
  obtain ⟨fd, ok, hb⟩ := F.ex
  exact run_fnS ok hr (hb.binds F.nd) (passAt tk σ) I r h
/-- the stream's lists are written -/
theorem RelS.drawn {p q : Addr} {t' : Stm} {H' : Hp} (hS : RelS g C0 am (some (p, q)) H s) (k : Keep2 p q H H') (hs : StOk t' p q H') : RelS g C0 am (some (p, q)) H' { s with stm := t' } ∧ Ext (wdOf C0 am (some (p, q)) H s) (wdOf C0 am (some (p, q)) H' { s with stm := t' }) := by
  obtain ⟨q1, q2, q3⟩ := hS.stm p q rfl
  have nC : ∀ a, ¬ Cs C0 am s.cells (some (p, q)) a → a ≠ p ∧ a ≠ q := fun a n => ⟨fun z => n (.inr (.inr ⟨p, q, rfl, .inl z⟩)), fun z => n (.inr (.inr ⟨p, q, rfl, .inr z⟩))⟩
  have ne_of : ∀ {a : Addr} {u : HO}, H a = some u → (∀ vs, u ≠ .lst vs) → a ≠ p ∧ a ≠ q := fun {a u} e n => ⟨fun z => by rw [z, q1.hp] at e; exact n _ (Option.some.inj e).symm, fun z => by rw [z, q1.hq] at e; exact n _ (Option.some.inj e).symm⟩
  have hx : Ext (wdOf C0 am (some (p, q)) H s) (wdOf C0 am (some (p, q)) H' { s with stm := t' }) := by
    refine ⟨fun a u h n => k a _ h (nC a n).1 (nC a n).2, fun a u h n => ?_, fun a o u h => ?_, fun a vs h => ?_, fun a fs h => ?_, fun a h => .inl h, fun a h => ?_, .inr rfl, fun a c h => ?_⟩
    · rcases h with h | ⟨o, h⟩
      · exact .inl (k a _ h (nC a n).1 (nC a n).2)
      · exact .inr ⟨o, k a _ h (nC a n).1 (nC a n).2⟩
    · obtain ⟨n1, n2⟩ := ne_of h (fun vs z => by cases z)
      exact k a _ h n1 n2
    · rcases h with h | ⟨o, h⟩
      · obtain ⟨n1, n2⟩ := ne_of h (fun vs z => by cases z)
        exact .inl (k a _ h n1 n2)
      · obtain ⟨n1, n2⟩ := ne_of h (fun vs z => by cases z)
        exact .inr ⟨o, k a _ h n1 n2⟩
    · obtain ⟨n1, n2⟩ := ne_of h (fun vs z => by cases z)
      exact k a _ h n1 n2
    · show ¬ Gone H' a
      by_cases e1 : a = p
      · exact lst_ng (by rw [e1]; exact hs.hp)
      · by_cases e2 : a = q
        · exact lst_ng (by rw [e2]; exact hs.hq)
        · obtain ⟨u, e3, e4⟩ := ng_get h
          exact ng_of (k a u e3 e1 e2) e4
    · obtain ⟨n1, n2⟩ := ne_of h (fun vs z => by unfold LamX.CodeO at z; cases z)
      exact k a _ h n1 n2
  refine ⟨⟨hS.len, fun a b o h => ?_, fun n x a h1 h2 => ?_, fun n x a h1 h2 => RelD.ext hx _ _ (hS.dead n x a h1 h2), hS.apart, hS.out, fun a b e => ?_, ?_⟩, hx⟩
  · exact k a o (hS.c0 a b o h) (fun z => by rw [z, q2] at h; cases h) (fun z => by rw [z, q3] at h; cases h)
  · obtain ⟨o, h3, h4⟩ := hS.live n x a h1 h2
    obtain ⟨n1, n2⟩ := (hS.out n x a h1 h2).2 p q rfl
    exact ⟨o, k a o h3 n1 n2, h4.ext hx⟩
  · cases e
    exact ⟨hs, q2, q3⟩
  · intro r hr
    obtain ⟨ps, t1, t2, t3⟩ := hS.tb r hr
    obtain ⟨n1, n2⟩ := ne_of t1 (fun vs z => by cases z)
    refine ⟨ps, k _ _ t1 n1 n2, t2, fun pos cv hc => ?_⟩
    obtain ⟨c, e1, e2⟩ := t3 pos cv hc
    obtain ⟨m1, m2⟩ := ne_of e2 (fun vs z => by unfold LamX.CodeO at z; cases z)
    exact ⟨c, e1, k _ _ e2 m1 m2⟩
theorem sn_draw {k : Nat} {x : Str} {f : Addr} {ps : List Str} {a b : Expr} {i j : E} {p pos : Pos} (F : CalleeN X k f ps spDraw) (hcap : ∀ c, gx.cap c = true → c < 2 ^ 40) (hr : Room k X.A) (tk : Takes X Wx) (hg : Gl X x) (hm : X.mg x = some (.ref f)) (hdb : (x == ("__debug__" : Str)) = false)
    (ha : PE X a (rdE g gx Wx i)) (hb : PE X b (rdE g gx Wx j)) (hs : NoStar a) (hs2 : NoStar b) : PE X (.Call (.Name x p) [a, b] [] pos) (rdE g gx Wx (.draw i j)) := by
  refine ⟨fun pins s' σ H Q I q => ?_⟩
  obtain ⟨C0, am, st, env, s, hR, hF⟩ := q
  simp only [ev] at hF
  refine wpAny_Call_Name_kw (ld_glob I hg hm ?_ hdb)
  have hA := pa_cons ha (pa_cons hb pa_nil (hs2 _ _)) (hs _ _)
  have hw : tCons (rdE g gx Wx i) (tCons (rdE g gx Wx j) tNil) σ H fun vs H1 => spDraw vs H1 Q (WE Wx σ) := by
    refine ⟨C0, am, st, env, s, hR, hF.bind fun x s1 e1 v1 H1 st1 hS1 hX1 hr1 h1 => ?_⟩
    refine ⟨C0, am, st1, env, s1, hR.at_ hS1 hX1, h1.bind fun y s2 e2 v2 H2 st2 hS2 hX2 hr2 h2 => ?_⟩
    obtain ⟨dx, ex, h2⟩ := vw_fin h2
    obtain ⟨dy, ey, h2⟩ := vw_fin h2
    have rx := view_rel hS2 (hr1.ext hX2) ex
    have ry := view_rel hS2 hr2 ey
    cases dx with
    | stm =>
      cases dy with
      | int many =>
        have h2 : Fin g C0 am (RelW g am) Wx σ (wdOf C0 am st2 H2 s2) (if 0 < many ∧ many < 1073741824 ∧ gx.cap s2.stm.ct = true then .ok (.d (.int (s2.stm.draw many).1)) { s2 with stm := (s2.stm.draw many).2 } else .bad) Q := h2
        by_cases hc : 0 < many ∧ many < 1073741824 ∧ gx.cap s2.stm.ct = true
        · rw [if_pos hc] at h2
          have rx' : RelD g (wdOf C0 am st2 H2 s2) .stm v1 := by
            rcases rx with h | ⟨_, _, _, _, h⟩
            · exact h
            · exact h.elim
          simp only [RelD] at rx'
          obtain ⟨p', q', e3, rfl⟩ := rx'
          have e3 : st2 = some (p', q') := e3
          subst e3
          refine ⟨p', q', many, s2.stm, by rw [ry.int], (hS2.stm p' q' rfl).1, ⟨hc.1, hc.2.1⟩, hcap _ hc.2.2, fun H' k hs => ?_⟩
          obtain ⟨k1, k2⟩ := hS2.drawn k hs
          exact h2 (.int _) H' (some (p', q')) k1 k2 (relD_int (g := g) (w := wdOf C0 am (some (p', q')) H' { s2 with stm := (s2.stm.draw many).2 }))
        · rw [if_neg hc] at h2
          exact h2.elim
      | _ => exact h2.elim
    | _ => exact h2.elim
  refine PySem.W.callWith_K (h₀ := X.base) I.ok.mod.kin F.keep (thn (hA.run pos pins s' σ H _ I hw) fun us s1 ⟨vs, H1, I1, r, q⟩ => ⟨I1.kIn, ?_⟩) (hs _ _) (by rw [hs2]; rfl)
  exact F.run hr tk I1 r q
theorem RelS.begun {p q : Addr} {t' : Stm} {H' : Hp} (hS : RelS g C0 am none H s) (k : ∀ a u, H a = some u → H' a = some u) (hp : H p = none) (hq : H q = none) (hs : StOk t' p q H') : RelS g C0 am (some (p, q)) H' { s with stm := t' } ∧ Ext (wdOf C0 am none H s) (wdOf C0 am (some (p, q)) H' { s with stm := t' }) := by
  have hx : Ext (wdOf C0 am none H s) (wdOf C0 am (some (p, q)) H' { s with stm := t' }) := by
    refine ⟨fun a u h n => k a _ h, fun a u h n => ?_, fun a o u h => k a _ h, fun a vs h => ?_, fun a fs h => k a _ h, fun a h => ?_, fun a h => ?_, .inl rfl, fun a c h => k a _ h⟩
    · rcases h with h | ⟨o, h⟩
      · exact .inl (k a _ h)
      · exact .inr ⟨o, k a _ h⟩
    · rcases h with h | ⟨o, h⟩
      · exact .inl (k a _ h)
      · exact .inr ⟨o, k a _ h⟩
    · rcases h with h | h | ⟨p', q', e, z⟩
      · exact .inl (.inl h)
      · exact .inl (.inr (.inl h))
      · cases e
        rcases z with rfl | rfl
        · exact .inr (.inl hp)
        · exact .inr (.inl hq)
    · exact ng_keep k h
  refine ⟨⟨hS.len, fun a b o h => k _ _ (hS.c0 a b o h), fun n x a h1 h2 => ?_, fun n x a h1 h2 => RelD.ext hx _ _ (hS.dead n x a h1 h2), hS.apart, fun n x a h1 h2 => ⟨(hS.out n x a h1 h2).1, fun p' q' e => ?_⟩, fun a b e => ?_, hS.tb.ext k⟩, hx⟩
  · obtain ⟨o, h3, h4⟩ := hS.live n x a h1 h2
    exact ⟨o, k _ _ h3, h4.ext hx⟩
  · cases e
    obtain ⟨o, h3, _⟩ := hS.live n x a h1 h2
    exact ⟨ne_of_new (some_ne h3) hp, ne_of_new (some_ne h3) hq⟩
  · cases e
    exact ⟨hs, hS.none0 hp, hS.none0 hq⟩
theorem sn_stream {k : Nat} {x : Str} {f : Addr} {ps : List Str} {a : Expr} {i : E} {p pos : Pos} (hK : X.K = g.K) (F : CalleeN X k f ps (spStream X.K)) (hr : Room k X.A) (tk : Takes X Wx) (hg : Gl X x) (hm : X.mg x = some (.ref f)) (hdb : (x == ("__debug__" : Str)) = false)
    (ha : PE X a (rdE g gx Wx i)) (hs : NoStar a) : PE X (.Call (.Name x p) [a] [] pos) (rdE g gx Wx (.stream i)) := by
  refine ⟨fun pins s' σ H Q I q => ?_⟩
  obtain ⟨C0, am, st, env, s, hR, hF⟩ := q
  simp only [ev] at hF
  refine wpAny_Call_Name_kw (ld_glob I hg hm ?_ hdb)
  have hA := pa_cons ha pa_nil (hs _ _)
  have hw : tCons (rdE g gx Wx i) tNil σ H fun vs H1 => spStream X.K vs H1 Q (WE Wx σ) := by
    refine ⟨C0, am, st, env, s, hR, hF.bind fun x s1 e1 v1 H1 st1 hS1 hX1 hr1 h1 => ?_⟩
    obtain ⟨dx, ex, h1⟩ := vw_fin h1
    have rx := view_rel hS1 hr1 ex
    cases dx with
    | scr cs =>
      have h1 : Fin g C0 am (RelW g am) Wx σ (wdOf C0 am st1 H1 s1) (if s1.stm.ct < 0 ∧ cs.length ≤ lim then .ok (.d .stm) { s1 with stm := ⟨cs, 0, 0, 19⟩ } else .bad) Q := h1
      by_cases hc : s1.stm.ct < 0 ∧ cs.length ≤ lim
      · rw [if_pos hc] at h1
        have rx' : RelD g (wdOf C0 am st1 H1 s1) (.scr cs) v1 := by
          rcases rx with h | ⟨_, _, _, _, h⟩
          · exact h
          · exact h.elim
        simp only [RelD] at rx'
        obtain ⟨a', rfl, e3⟩ := rx'
        have e4 : st1 = none := by
          cases st1 with
          | none => rfl
          | some pq =>
            have := (hS1.stm pq.1 pq.2 rfl).1.ct
            omega
        subst e4
        have sq : SqL X.K H1 a' (cs.map V.int) := by
          rw [hK]
          rcases e3 with ⟨o, e3⟩ | ⟨_, e3⟩ | e3
          · exact .inl (.inr ⟨o, e3⟩)
          · exact .inl (.inl e3)
          · rcases e3 with (e3 | ⟨o, e3⟩) | e3
            · cases e3
            · cases e3
            · exact .inr e3
        refine ⟨a', cs, rfl, sq, fun H' p' q' k hp hq hst => ?_⟩
        obtain ⟨k1, k2⟩ := hS1.begun k hp hq hst
        refine h1 (.ref p') H' (some (p', q')) k1 k2 ?_
        simp only [RelW, RelD]
        exact ⟨p', q', rfl, rfl⟩
      · rw [if_neg hc] at h1
        exact h1.elim
    | _ => exact h1.elim
  refine PySem.W.callWith_K (h₀ := X.base) I.ok.mod.kin F.keep (thn (hA.run pos pins s' σ H _ I hw) fun us s1 ⟨vs, H1, I1, r, q⟩ => ⟨I1.kIn, ?_⟩) (hs _ _) (by rfl)
  exact F.run hr tk I1 r q
end
end Us
end

section
set_option Elab.async false
set_option linter.all false
set_option maxRecDepth 100000
set_option maxHeartbeats 1000000
/-! Us.Cmp0: expressions of the given language into the small one. -/
namespace Us
open PySem PySem.Spec PyProof.Rows L2
/-- what is known where an expression stands -/
structure CI where
  N : List Str
  sc : Scope
  fsc : Option Scope := none
  defs : List (Str × Nat × List Str)
  errs : List (Str × Nat) := []
  own : List Nat := []
  hands : List (Str × List Nat) := []
  flds : List (Str × Nat) := []
  lam : Bool := false
  lamC : Bool := false
def CI.kind (c : CI) (x : Str) : Option NameKind := c.sc.names.lookup x
def okName (x : Str) : Bool := !(x == ("__debug__" : Str)) && !(x == ("__classdict__" : Str)) && decide (x ≠ "__name__")
def CI.slot (c : CI) (x : Str) : Option Nat := c.N.findIdx? (· == x)
def CI.vis (c : CI) (x : Str) : Bool := match c.kind x with
  | some .local => true | some .cell => true | some .free => true
  | _ => false
def CI.loc (c : CI) (x : Str) : Option Nat := if c.vis x && okName x then c.slot x else none
def CI.glob (c : CI) (x : Str) : Bool := decide (c.kind x = some .globalImplicit) && okName x
/-- a name that may be stored to -/
def CI.sto (c : CI) (x : Str) : Option Nat := match c.kind x with
  | some .local => c.slot x
  | some .cell => (match c.fsc with
    | none => c.slot x
    | some s => if s.names.lookup x = some .cell then c.slot x else none)
  | _ => none
def bnames : List Str := ["isinstance", "len", "list", "tuple", "sorted", "all", "any", "min", "max", "sum", "abs", "int", "dict", "range", "enumerate", "zip", "bool", "str"]
def CI.blt (c : CI) (x : Str) : Bool := c.glob x && bnames.contains x

/-- what must hold of the context of a run -/
structure Good (c : CI) (X : Cx) (g g0 : Gp) (gx : G) (k : Nat) (Wx : WX) : Prop where
  sc : X.env.scope = c.sc
  N : X.N = c.N
  nd : X.N.Nodup
  K : X.K = g.K
  same : Same g g0
  calm : X.calm = true
  room : Room k X.A
  takes : Takes X Wx
  defs : ∀ x f ps, c.defs.lookup x = some (f, ps) → X.mg x = some (.ref (g0.fa f)) ∧ Callee X g0 gx k f ps
  free : ∀ x, bnames.contains x = true → X.mg x = none
  ar : ∀ f n, gx.ar f = some n → ∃ ps : List Str, ps.length = n ∧ Callee X g0 gx k f ps
  cap : ∀ z, gx.cap z = true → z < 2 ^ 40
  draw : ∃ f ps, X.mg "_law_draw" = some (.ref f) ∧ CalleeN X k f ps spDraw
  strm : ∃ f ps, X.mg "_law_stream" = some (.ref f) ∧ CalleeN X k f ps (spStream X.K)
  fn : ∀ x, (match c.fsc with | none => true | some s => decide (s.names.lookup x = some .cell)) = true → X.fn x = true
  lam : c.lam = true → ∀ (i : Nat) (a : Str) (p1 p2 : Pos), X.N[i]? = some a → Vis X.env.scope a → okName a = true → PE X (.Call (.Name a p1) [] [] p2) (rdE g gx Wx (.callv i .nil))
/-- an expression and what it is for the executor -/
structure Snd (X : Cx) (g : Gp) (gx : G) (Wx : WX) (e : Expr) (i : E) : Prop where
  v : PE X e (rdE g gx Wx i)
  t : PT X e (rdT g gx Wx i)
  n : mint i = true → PE X e (rdN g gx Wx i)
section
variable {c : CI} {X : Cx} {g g0 : Gp} {gx : G} {k : Nat} {Wx : WX} {x : Str} {e : Expr} {i : E}
theorem Snd.val (h : PE X e (rdE g gx Wx i)) (hb : byValue e = true) (hn : mint i = false) : Snd X g gx Wx e i := ⟨h, sn_val h fun w => isTrue_val hb _ w, fun z => by rw [hn] at z; cases z⟩
theorem Snd.new (h : PE X e (rdN g gx Wx i)) (hb : byValue e = true) (hm : mint i = true) : Snd X g gx Wx e i := ⟨PE.ofN hm h, sn_val (PE.ofN hm h) fun w => isTrue_val hb _ w, fun _ => h⟩
theorem slot_ok {n : Nat} (h : c.slot x = some n) : c.N[n]? = some x := by
  unfold CI.slot at h
  rw [List.findIdx?_eq_some_iff_getElem] at h
  obtain ⟨h1, h2, _⟩ := h
  rw [List.getElem?_eq_getElem h1]
  simpa using h2
theorem okName_ok (h : okName x = true) : (x == ("__debug__" : Str)) = false ∧ (x == ("__classdict__" : Str)) = false ∧ x ≠ "__name__" := by
  unfold okName at h
  simp only [Bool.and_eq_true, Bool.not_eq_true', decide_eq_true_eq] at h
  exact ⟨h.1.1, h.1.2, h.2⟩
theorem Good.units (G : Good c X g g0 gx k Wx) : X.A.units + 66 < cLine := by
  have := G.room.un
  omega
theorem Good.kindOf (G : Good c X g g0 gx k Wx) : X.env.scope.names.lookup x = c.kind x := by rw [G.sc]; rfl
theorem Good.loc {n : Nat} (G : Good c X g g0 gx k Wx) (h : c.loc x = some n) : X.N[n]? = some x ∧ Vis X.env.scope x ∧ okName x = true := by
  unfold CI.loc at h
  split at h
  · rename_i hz
    rw [Bool.and_eq_true] at hz
    refine ⟨by rw [G.N]; exact slot_ok h, ?_, hz.2⟩
    have h1 := hz.1
    unfold CI.vis at h1
    unfold Vis
    rw [G.kindOf]
    split at h1
    · rename_i e; exact .inl e
    · rename_i e; exact .inr (.inl e)
    · rename_i e; exact .inr (.inr e)
    · cases h1
  · cases h
theorem Good.glob (G : Good c X g g0 gx k Wx) (h : c.glob x = true) : Gl X x ∧ okName x = true := by
  unfold CI.glob at h
  rw [Bool.and_eq_true, decide_eq_true_eq] at h
  refine ⟨?_, h.2⟩
  show X.env.scope.names.lookup x = _
  rw [G.kindOf]
  exact h.1
theorem Good.blt (G : Good c X g g0 gx k Wx) (h : c.blt x = true) : Gl X x ∧ X.mg x = none ∧ okName x = true := by
  unfold CI.blt at h
  rw [Bool.and_eq_true] at h
  exact ⟨(G.glob h.1).1, G.free x h.2, (G.glob h.1).2⟩
theorem Good.sto {n : Nat} (G : Good c X g g0 gx k Wx) (h : c.sto x = some n) : X.N[n]? = some x ∧ L2.Loc X.env.scope x ∧ (X.fn x = true ∨ X.env.scope.names.lookup x = some .local) := by
  unfold CI.sto at h
  unfold L2.Loc
  rw [G.kindOf, G.N]
  split at h
  · rename_i e
    exact ⟨slot_ok h, .inl e, .inr e⟩
  · rename_i e
    have hf := G.fn x
    split at h
    · rename_i ef
      rw [ef] at hf
      exact ⟨slot_ok h, .inr e, .inl (hf rfl)⟩
    · rename_i s ef
      rw [ef] at hf
      split at h
      · rename_i hs
        exact ⟨slot_ok h, .inr e, .inl (hf (by simpa using hs))⟩
      · cases h
  · cases h
theorem Good.var {n : Nat} {p : Pos} (G : Good c X g g0 gx k Wx) (h : c.loc x = some n) : PE X (.Name x p) (rdE g gx Wx (.var n)) ∧ PE X (.Name x p) (tVar n) := by
  obtain ⟨h1, h2, h3⟩ := G.loc h
  obtain ⟨h4, h5, _⟩ := okName_ok h3
  exact ⟨sn_var h1 h2 h4 h5, pe_var h1 h2 h4 h5⟩
/-! ### the parts -/
def binOf : Operator → Option BinO
  | .Add => some .add | .Sub => some .sub | .Mult => some .mul | .FloorDiv => some .fdiv | .Mod => some .mod | .Pow => some .pow
  | _ => none
theorem binOf_ok {op : Operator} {o : BinO} (h : binOf op = some o) : op = opOf o := by
  cases op <;> simp [binOf] at h <;> subst h <;> rfl
def cmpOf? : CmpOp → Option CmpO
  | .Eq => some .eq | .NotEq => some .ne | .Lt => some .lt | .LtE => some .le | .Gt => some .gt | .GtE => some .ge | .Is => some .is | .IsNot => some .isnot | .In => some .mem | .NotIn => some .notmem
theorem cmpOf_ok {op : CmpOp} {o : CmpO} (h : cmpOf? op = some o) : op = cmpOf o := by
  cases op <;> simp [cmpOf?] at h <;> subst h <;> rfl
/-- expressions one after the other, none starred -/
def esOf (f : Expr → Option E) : List Expr → Option Es
  | [] => some .nil
  | e :: r => if starred e = true then none else (f e).bind fun i => (esOf f r).bind fun is => some (.cons i is)
def boolOf (f : Expr → Option E) (op : BoolOp) : List Expr → Option E
  | [] => none
  | [x] => (f x).bind fun i => some (.one i)
  | x :: y :: r => (f x).bind fun i => (boolOf f op (y :: r)).bind fun j => some (match op with | .And => .and i j | .Or => .or i j)
variable {f : Expr → Option E}
theorem bind_some' {α β : Type} {o : Option α} {k : α → Option β} {b : β} (h : o.bind k = some b) : ∃ a, o = some a ∧ k a = some b := by
  cases o with
  | none => cases h
  | some a => exact ⟨a, rfl, h⟩
theorem esOf_len : ∀ {es : List Expr} {is : Es}, esOf f es = some is → is.len = es.length
  | [], is, h => by
    simp only [esOf] at h
    cases h; rfl
  | e :: r, is, h => by
    simp only [esOf] at h
    split at h
    · cases h
    · obtain ⟨i, e1, h⟩ := bind_some' h
      obtain ⟨js, e2, h⟩ := bind_some' h
      cases h
      simp [Es.len, esOf_len e2]
theorem esOf_star : ∀ {es : List Expr} {is : Es}, esOf f es = some is → (es.all fun e => !starred e) = true
  | [], is, h => rfl
  | e :: r, is, h => by
    simp only [esOf] at h
    split at h
    · cases h
    · rename_i hs
      obtain ⟨i, e1, h⟩ := bind_some' h
      obtain ⟨js, e2, h⟩ := bind_some' h
      rw [List.all_cons, esOf_star e2]
      simp [hs]
theorem esX (ih : ∀ e i, f e = some i → Snd X g gx Wx e i) : ∀ {es : List Expr} {is : Es}, esOf f es = some is → PA X es (rdX g gx Wx is)
  | [], is, h => by
    simp only [esOf] at h
    cases h
    exact sx_nil
  | e :: r, is, h => by
    simp only [esOf] at h
    split at h
    · cases h
    · rename_i hs
      obtain ⟨i, e1, h⟩ := bind_some' h
      obtain ⟨js, e2, h⟩ := bind_some' h
      cases h
      exact sx_cons (ih _ _ e1).v (esX ih e2) (noStar_of (by simpa using hs))
theorem esA (ih : ∀ e i, f e = some i → Snd X g gx Wx e i) : ∀ {es : List Expr} {is : Es}, esOf f es = some is → PA X es (rdA g gx Wx is)
  | [], is, h => by
    simp only [esOf] at h
    cases h
    exact sa_nil
  | e :: r, is, h => by
    simp only [esOf] at h
    split at h
    · cases h
    · rename_i hs
      obtain ⟨i, e1, h⟩ := bind_some' h
      obtain ⟨js, e2, h⟩ := bind_some' h
      cases h
      exact sa_cons (ih _ _ e1).v (esA ih e2) (noStar_of (by simpa using hs))
theorem boolE (ih : ∀ e i, f e = some i → Snd X g gx Wx e i) {op : BoolOp} {pos : Pos} : ∀ {es : List Expr} {i : E}, boolOf f op es = some i → PE X (.BoolOp op es pos) (rdE g gx Wx i) ∧ PW X (.BoolOp op es pos) (rdT g gx Wx i) ∧ mint i = false
  | [], i, h => by simp [boolOf] at h
  | [x], i, h => by
    simp only [boolOf] at h
    obtain ⟨j, e1, h⟩ := bind_some' h
    cases h
    obtain ⟨a, b⟩ := sn_one (op := op) (pos := pos) (ih _ _ e1).v (ih _ _ e1).t
    exact ⟨a, b, rfl⟩
  | x :: y :: r, i, h => by
    simp only [boolOf] at h
    obtain ⟨j, e1, h⟩ := bind_some' h
    obtain ⟨j2, e2, h⟩ := bind_some' h
    obtain ⟨a, b, _⟩ := boolE ih e2
    cases op with
    | And =>
      cases h
      obtain ⟨a', b'⟩ := sn_and (pos := pos) (ih _ _ e1).v (ih _ _ e1).t a b
      exact ⟨a', b', rfl⟩
    | Or =>
      cases h
      obtain ⟨a', b'⟩ := sn_or (pos := pos) (ih _ _ e1).v (ih _ _ e1).t a b
      exact ⟨a', b', rfl⟩
/-! ### comparisons, subscripts -/
def cCmp (f : Expr → Option E) (a : Expr) (ops : List CmpOp) (bs : List Expr) : Option E := match ops, bs with
  | [o], [b] => if notSet b = true then (cmpOf? o).bind fun o => (f a).bind fun i => (f b).bind fun j => some (.cmp o i j) else none
  | [o, p], [b, d] => if (notSet b && notSet d) = true then (cmpOf? o).bind fun o => (cmpOf? p).bind fun p => (f a).bind fun i => (f b).bind fun j => (f d).bind fun l => some (.chain o p i j l) else none
  | _, _ => none
theorem lastMarks_of {o p : CmpOp} {b d : Expr} (h : notSet d = true) : lastMarks [o, p] [b, d] = false := by
  cases d <;> first | rfl | (simp [notSet] at h)
theorem cCmp_ok (G : Good c X g g0 gx k Wx) (ih : ∀ e i, f e = some i → Snd X g gx Wx e i) {a : Expr} {ops : List CmpOp} {bs : List Expr} {pos : Pos} (h : cCmp f a ops bs = some i) : Snd X g gx Wx (.Compare a ops bs pos) i := by
  unfold cCmp at h
  split at h
  · split at h
    · rename_i hn
      obtain ⟨o, e0, h⟩ := bind_some' h
      obtain ⟨i1, e1, h⟩ := bind_some' h
      obtain ⟨i2, e2, h⟩ := bind_some' h
      cases h
      rw [cmpOf_ok e0]
      obtain ⟨p1, p2⟩ := sn_cmp (pos := pos) (o := o) G.K G.units (ih _ _ e1).v (ih _ _ e2).v (marks_of hn)
      exact ⟨p1, p2, fun z => by cases z⟩
    · cases h
  · split at h
    · rename_i hn
      rw [Bool.and_eq_true] at hn
      obtain ⟨o, e0, h⟩ := bind_some' h
      obtain ⟨o2, e3, h⟩ := bind_some' h
      obtain ⟨i1, e1, h⟩ := bind_some' h
      obtain ⟨i2, e2, h⟩ := bind_some' h
      obtain ⟨i3, e4, h⟩ := bind_some' h
      cases h
      rw [cmpOf_ok e0, cmpOf_ok e3]
      obtain ⟨p1, p2⟩ := sn_chain (pos := pos) (o := o) (p := o2) G.K G.units (ih _ _ e1).v (ih _ _ e2).v (ih _ _ e4).v (lastMarks_of hn.2)
      exact ⟨p1, p2, fun z => by cases z⟩
    · cases h
  · cases h
def cSub (f : Expr → Option E) (v s : Expr) : Option E := match s with
  | .Slice (some b) none none _ => (f v).bind fun i => (f b).bind fun j => some (.from_ i j)
  | .Slice none (some b) none _ => (f v).bind fun i => (f b).bind fun j => some (.upto i j)
  | .Slice (some b) (some d) none _ => (f v).bind fun i => (f b).bind fun j => (f d).bind fun l => some (.part i j l)
  | .Slice none none (some (.UnaryOp .USub (.Constant (.int n) _ _) _)) _ => if n = 1 then (f v).bind fun i => some (.back i) else none
  | s => if notSlice s = true then (f v).bind fun i => (f s).bind fun j => some (.idx i j) else none
theorem cSub_ok (G : Good c X g g0 gx k Wx) (ih : ∀ e i, f e = some i → Snd X g gx Wx e i) {v s : Expr} {pos : Pos} (h : cSub f v s = some i) : Snd X g gx Wx (.Subscript v s pos) i := by
  unfold cSub at h
  have hu := G.units
  split at h
  · obtain ⟨i1, e1, h⟩ := bind_some' h
    obtain ⟨i2, e2, h⟩ := bind_some' h
    cases h
    exact .val (sn_from G.K (ih _ _ e1).v (ih _ _ e2).v) rfl rfl
  · obtain ⟨i1, e1, h⟩ := bind_some' h
    obtain ⟨i2, e2, h⟩ := bind_some' h
    cases h
    exact .val (sn_upto G.K (ih _ _ e1).v (ih _ _ e2).v) rfl rfl
  · obtain ⟨i1, e1, h⟩ := bind_some' h
    obtain ⟨i2, e2, h⟩ := bind_some' h
    obtain ⟨i3, e3, h⟩ := bind_some' h
    cases h
    exact .val (sn_part G.K (ih _ _ e1).v (ih _ _ e2).v (ih _ _ e3).v) rfl rfl
  · split at h
    · rename_i hn
      subst hn
      obtain ⟨i1, e1, h⟩ := bind_some' h
      cases h
      exact .val (sn_back G.K (ih _ _ e1).v) rfl rfl
    · cases h
  · split at h
    · rename_i hn
      obtain ⟨i1, e1, h⟩ := bind_some' h
      obtain ⟨i2, e2, h⟩ := bind_some' h
      cases h
      exact .val (sn_idx G.K (by omega) (ih _ _ e1).v (ih _ _ e2).v (plainIx_of hn)) rfl rfl
    · cases h
end
end Us
end

section
set_option Elab.async false
set_option linter.all false
set_option maxRecDepth 100000
set_option maxHeartbeats 1000000
/-! Us.Cmp1: targets, iterables, calls. -/
namespace Us
open PySem PySem.Spec PyProof.Rows L2
section
variable {c : CI} {X : Cx} {g g0 : Gp} {gx : G} {k : Nat} {Wx : WX} {x : Str} {e : Expr} {i : E} {f : Expr → Option E}
/-! ### targets -/
def tsOf' (f : Expr → Option Tg) : List Expr → Option (List Tg)
  | [] => some []
  | e :: r => if starred e = true then none else (f e).bind fun t => (tsOf' f r).bind fun ts => some (t :: ts)
def cT : Nat → CI → Expr → Option Tg
  | 0, _, _ => none
  | n + 1, c, e => match e with
    | .Name x _ => (c.sto x).bind fun i => some (.nm i)
    | .Tuple es _ _ => (tsOf' (cT n c) es).bind fun ts => some (.tp ts)
    | _ => none
theorem assign_cons {e : Expr} {es : List Expr} {env : PySem.Env} (h : starred e = false) : (assignEach (e :: es) env).map (·.2) = assign e env :: (assignEach es env).map (·.2) := by
  cases e <;> first | rfl | (simp [starred] at h)
theorem tsOf_ok {ft : Expr → Option Tg} (ih : ∀ e t, ft e = some t → PG X e (tgG X.K t)) : ∀ {es : List Expr} {ts : List Tg}, tsOf' ft es = some ts → PGs X es (tgGs X.K ts) ∧ es.length = ts.length ∧ (es.all fun e => !starred e) = true
  | [], ts, h => by
    simp only [tsOf'] at h
    cases h
    exact ⟨pgs_nil, rfl, rfl⟩
  | e :: r, ts, h => by
    simp only [tsOf'] at h
    split at h
    · cases h
    · rename_i hs
      obtain ⟨t, e1, h⟩ := bind_some' h
      obtain ⟨us, e2, h⟩ := bind_some' h
      cases h
      obtain ⟨a, b, d⟩ := tsOf_ok ih e2
      exact ⟨pgs_cons (ih _ _ e1) a (assign_cons (by simpa using hs)), by simp [b], by rw [List.all_cons, d]; simp [hs]⟩
theorem cT_ok (G : Good c X g g0 gx k Wx) : ∀ (n : Nat) (e : Expr) (t : Tg), cT n c e = some t → PG X e (tgG X.K t)
  | 0, e, t, h => by simp [cT] at h
  | n + 1, e, t, h => by
    simp only [cT] at h
    split at h
    · obtain ⟨i, e1, h⟩ := bind_some' h
      cases h
      obtain ⟨h1, h2, h3⟩ := G.sto e1
      exact pg_name G.nd h1 h2 h3
    · obtain ⟨ts, e1, h⟩ := bind_some' h
      cases h
      obtain ⟨a, b, d⟩ := tsOf_ok (cT_ok G n) e1
      exact pg_any G.calm a b (plainT_of d)
    · cases h
/-! ### types, built-in functions -/
def tyOf? (x : Str) : Option Ty := if x = "int" then some .int else if x = "str" then some .str else if x = "bool" then some .bool else if x = "list" then some .list else if x = "tuple" then some .tuple else if x = "dict" then some .dict else none
theorem tyOf_ok {t : Ty} (h : tyOf? x = some t) : bootBuiltins x = some (.type (tyS t)) := by
  unfold tyOf? at h
  split at h
  · rename_i e; subst e; cases h; decide +kernel
  · split at h
    · rename_i e; subst e; cases h; decide +kernel
    · split at h
      · rename_i e; subst e; cases h; decide +kernel
      · split at h
        · rename_i e; subst e; cases h; decide +kernel
        · split at h
          · rename_i e; subst e; cases h; decide +kernel
          · split at h
            · rename_i e; subst e; cases h; decide +kernel
            · cases h
theorem tyName_ok {t : Ty} (G : Good c X g g0 gx k Wx) (hb : c.blt x = true) (h : tyOf? x = some t) : TyName X x t := by
  obtain ⟨h1, h2, h3⟩ := G.blt hb
  obtain ⟨h4, _, h5⟩ := okName_ok h3
  exact ⟨h1, h2, tyOf_ok h, h5, h4⟩
def cTys (c : CI) : List Expr → Option (List Ty)
  | [] => some []
  | e :: r => match e with
    | .Name x _ => if c.blt x = true then (tyOf? x).bind fun t => (cTys c r).bind fun ts => some (t :: ts) else none
    | _ => none
theorem cTys_ok (G : Good c X g g0 gx k Wx) : ∀ {es : List Expr} {ts : List Ty}, cTys c es = some ts → Paired (fun e t => ∃ x q, e = .Name x q ∧ TyName X x t) es ts
  | [], ts, h => by
    simp only [cTys] at h
    cases h
    exact .nil
  | e :: r, ts, h => by
    simp only [cTys] at h
    split at h
    · split at h
      · rename_i hb
        obtain ⟨t, e1, h⟩ := bind_some' h
        obtain ⟨us, e2, h⟩ := bind_some' h
        cases h
        exact .cons ⟨_, _, rfl, tyName_ok G hb e1⟩ (cTys_ok G e2)
      · cases h
    · cases h
def cIsa (f : Expr → Option E) (c : CI) (a t : Expr) : Option E := match t with
  | .Name x _ => if c.blt x = true then (tyOf? x).bind fun t => (f a).bind fun i => some (.isa i [t]) else none
  | .Tuple es _ _ => (cTys c es).bind fun ts => if ts.length ≤ 1000 then (f a).bind fun i => some (.isa i ts) else none
  | _ => none
theorem cIsa_ok (G : Good c X g g0 gx k Wx) (ih : ∀ e i, f e = some i → Snd X g gx Wx e i) {a t : Expr} {p pos : Pos} (hb : c.blt "isinstance" = true) (hs : starred a = false) (h : cIsa f c a t = some i) : Snd X g gx Wx (.Call (.Name "isinstance" p) [a, t] [] pos) i := by
  obtain ⟨b1, b2, b3⟩ := G.blt hb
  unfold cIsa at h
  split at h
  · split at h
    · rename_i hx
      obtain ⟨t, e1, h⟩ := bind_some' h
      obtain ⟨j, e2, h⟩ := bind_some' h
      cases h
      exact .val (sn_isa1 G.K b1 b2 (ih _ _ e2).v (noStar_of hs) (tyName_ok G hx e1)) rfl rfl
    · cases h
  · obtain ⟨ts, e1, h⟩ := bind_some' h
    split at h
    · rename_i hl
      obtain ⟨j, e2, h⟩ := bind_some' h
      cases h
      exact .val (sn_isaT G.K b1 b2 (ih _ _ e2).v (noStar_of hs) hl (cTys_ok G e1)) rfl rfl
    · cases h
  · cases h
/-- a built-in function of one argument -/
def biOf? (x : Str) : Option Bi := if x = "len" then some .len else if x = "tuple" then some .tuple else if x = "sorted" then some .sorted else if x = "all" then some .all else if x = "any" then some .any else if x = "min" then some .min
  else if x = "max" then some .max else if x = "sum" then some .sum else if x = "abs" then some .abs else if x = "int" then some .int else if x = "dict" then some .dict else none
theorem bi_ok {b : Bi} (G : Good c X g g0 gx k Wx) (hb : c.blt x = true) (h : biOf? x = some b) {a : Expr} {p pos : Pos} (ha : PE X a (rdE g gx Wx i)) (hs : NoStar a) : Snd X g gx Wx (.Call (.Name x p) [a] [] pos) (.bi b i) := by
  obtain ⟨b1, b2, b3⟩ := G.blt hb
  obtain ⟨b4, _, b5⟩ := okName_ok b3
  have hu := G.units
  unfold biOf? at h
  split at h
  · rename_i e; subst e; cases h
    exact .val (sn_callB (cr_len G.K) (fun _ _ z => z) b1 b2 (by decide +kernel) b5 b4 ha hs) rfl rfl
  · split at h
    · rename_i e; subst e; cases h
      exact .val (sn_callTy (cr_tuple G.K) (fun _ _ z => z) b1 b2 (by decide +kernel) b5 b4 ha hs) rfl rfl
    · split at h
      · rename_i e; subst e; cases h
        exact .new (nn_sorted G.K hu b1 b2 ha hs) rfl rfl
      · split at h
        · rename_i e; subst e; cases h
          exact .val (sn_callB (cr_allU G.K G.calm) (fun _ _ z => z) b1 b2 (by decide +kernel) b5 b4 ha hs) rfl rfl
        · split at h
          · rename_i e; subst e; cases h
            exact .val (sn_callB (cr_anyU G.K G.calm) (fun _ _ z => z) b1 b2 (by decide +kernel) b5 b4 ha hs) rfl rfl
          · split at h
            · rename_i e; subst e; cases h
              exact .val (sn_callB (cr_minU G.calm) (fun _ _ z => z) b1 b2 (by decide +kernel) b5 b4 ha hs) rfl rfl
            · split at h
              · rename_i e; subst e; cases h
                exact .val (sn_callB (cr_maxU G.calm) (fun _ _ z => z) b1 b2 (by decide +kernel) b5 b4 ha hs) rfl rfl
              · split at h
                · rename_i e; subst e; cases h
                  exact .val (sn_callB (cr_sumU G.calm) (fun _ _ z => z) b1 b2 (by decide +kernel) b5 b4 ha hs) rfl rfl
                · split at h
                  · rename_i e; subst e; cases h
                    exact .val (sn_callB cr_abs (fun _ _ z => z) b1 b2 (by decide +kernel) b5 b4 ha hs) rfl rfl
                  · split at h
                    · rename_i e; subst e; cases h
                      exact .val (sn_callTy cr_int (fun _ _ z => z) b1 b2 (by decide +kernel) b5 b4 ha hs) rfl rfl
                    · split at h
                      · rename_i e; subst e; cases h
                        exact .val (sn_callTy (cr_dict2 G.K G.calm) (fun _ _ z => z) b1 b2 (by decide +kernel) b5 b4 ha hs) rfl rfl
                      · cases h
/-- list(a) -/
def cList (f : Expr → Option E) (c : CI) (a : Expr) : Option E := match a with
  | .Call (.Name r _) [b] [] _ => if r = "range" then (if (c.blt r && !starred b) = true then (f b).bind fun i => some (.listr i) else none) else (f a).bind fun i => some (.bi .list i)
  | .Call (.Attribute o m apos) [] [] cpos => if m = "items" then (if (!isCall0 o && (apos.endLine == cpos.line)) = true then (f o).bind fun i => some (.litems i) else none) else (f a).bind fun i => some (.bi .list i)
  | a => (f a).bind fun i => some (.bi .list i)
theorem cList_ok (G : Good c X g g0 gx k Wx) (ih : ∀ e i, f e = some i → Snd X g gx Wx e i) {a : Expr} {p pos : Pos} (hb : c.blt "list" = true) (hs : starred a = false) (h : cList f c a = some i) : Snd X g gx Wx (.Call (.Name "list" p) [a] [] pos) i := by
  obtain ⟨b1, b2, b3⟩ := G.blt hb
  unfold cList at h
  split at h
  · split at h
    · rename_i e; subst e
      split at h
      · rename_i hz
        simp only [Bool.and_eq_true, Bool.not_eq_true'] at hz
        obtain ⟨r1, r2, _⟩ := G.blt hz.1
        obtain ⟨j, e1, h⟩ := bind_some' h
        cases h
        exact .val (sn_listr G.calm b1 b2 r1 r2 (ih _ _ e1).v (noStar_of hz.2)) rfl rfl
      · cases h
    · obtain ⟨j, e1, h⟩ := bind_some' h
      cases h
      exact .new (nn_list G.K G.calm b1 b2 (ih _ _ e1).v (noStar_of hs)) rfl rfl
  · split at h
    · rename_i e; subst e
      split at h
      · rename_i hz
        simp only [Bool.and_eq_true, Bool.not_eq_true'] at hz
        obtain ⟨j, e1, h⟩ := bind_some' h
        cases h
        exact .val (sn_litems G.calm (ih _ _ e1).v b1 b2 (attr_of' hz.1) hz.2) rfl rfl
      · cases h
    · obtain ⟨j, e1, h⟩ := bind_some' h
      cases h
      exact .new (nn_list G.K G.calm b1 b2 (ih _ _ e1).v (noStar_of hs)) rfl rfl
  · obtain ⟨j, e1, h⟩ := bind_some' h
    cases h
    exact .new (nn_list G.K G.calm b1 b2 (ih _ _ e1).v (noStar_of hs)) rfl rfl
def cBlt (f : Expr → Option E) (c : CI) (x : Str) (args : List Expr) : Option E := match args with
  | [a] => if starred a = true then none else if x = "list" then cList f c a else (biOf? x).bind fun b => (f a).bind fun i => some (.bi b i)
  | [a, b] => if starred a = true then none else if x = "isinstance" then cIsa f c a b else if starred b = true then none else if x = "min" then (f a).bind fun i => (f b).bind fun j => some (.min2 i j)
      else if x = "max" then (f a).bind fun i => (f b).bind fun j => some (.max2 i j) else none
  | _ => none
theorem cBlt_ok (G : Good c X g g0 gx k Wx) (ih : ∀ e i, f e = some i → Snd X g gx Wx e i) {args : List Expr} {p pos : Pos} (hb : c.blt x = true) (h : cBlt f c x args = some i) : Snd X g gx Wx (.Call (.Name x p) args [] pos) i := by
  obtain ⟨b1, b2, b3⟩ := G.blt hb
  obtain ⟨b4, _, b5⟩ := okName_ok b3
  unfold cBlt at h
  split at h
  · split at h
    · cases h
    · rename_i hs
      rw [Bool.not_eq_true] at hs
      split at h
      · rename_i e; subst e
        exact cList_ok G ih hb hs h
      · obtain ⟨b, e1, h⟩ := bind_some' h
        obtain ⟨j, e2, h⟩ := bind_some' h
        cases h
        exact bi_ok G hb e1 (ih _ _ e2).v (noStar_of hs)
  · split at h
    · cases h
    · rename_i hs
      rw [Bool.not_eq_true] at hs
      split at h
      · rename_i e; subst e
        exact cIsa_ok G ih hb hs h
      · split at h
        · cases h
        · rename_i hs2
          rw [Bool.not_eq_true] at hs2
          split at h
          · rename_i e; subst e
            obtain ⟨j, e1, h⟩ := bind_some' h
            obtain ⟨j2, e2, h⟩ := bind_some' h
            cases h
            exact .val (sn_min2 G.calm b1 b2 (by decide +kernel) b5 b4 (ih _ _ e1).v (ih _ _ e2).v (noStar_of hs) (noStar_of hs2)) rfl rfl
          · split at h
            · rename_i e; subst e
              obtain ⟨j, e1, h⟩ := bind_some' h
              obtain ⟨j2, e2, h⟩ := bind_some' h
              cases h
              exact .val (sn_max2 G.calm b1 b2 (by decide +kernel) b5 b4 (ih _ _ e1).v (ih _ _ e2).v (noStar_of hs) (noStar_of hs2)) rfl rfl
            · cases h
  · cases h
/-! ### calls of the program's defs -/
def kwVals : List Keyword → List Expr := fun kws => kws.map (·.value)
def nodupB : List Str → Bool
  | [] => true
  | x :: r => !r.contains x && nodupB r
theorem nodup_of : ∀ {l : List Str}, nodupB l = true → l.Nodup
  | [], _ => List.nodup_nil
  | x :: r, h => by
    simp only [nodupB, Bool.and_eq_true, Bool.not_eq_true'] at h
    exact List.nodup_cons.mpr ⟨by simpa using h.1, nodup_of h.2⟩
def permOf (ps ks : List Str) : Option (List Nat) := match ps with
  | [] => some []
  | n :: r => (ks.findIdx? (· == n)).bind fun m => (permOf r ks).bind fun ms => some (m :: ms)
theorem permOf_ok {ks : List Str} : ∀ {ps : List Str} {pm : List Nat}, permOf ps ks = some pm → pm.length = ps.length ∧ ∀ (j m : Nat) n, ps[j]? = some n → pm[j]? = some m → ks[m]? = some n
  | [], pm, h => by
    simp only [permOf] at h
    cases h
    exact ⟨rfl, fun j m n e => by simp at e⟩
  | n :: r, pm, h => by
    simp only [permOf] at h
    obtain ⟨m, e1, h⟩ := bind_some' h
    obtain ⟨ms, e2, h⟩ := bind_some' h
    cases h
    obtain ⟨a, b⟩ := permOf_ok e2
    refine ⟨by simp [a], fun j q z h1 h2 => ?_⟩
    cases j with
    | zero =>
      simp at h1 h2
      subst h1; subst h2
      rw [List.findIdx?_eq_some_iff_getElem] at e1
      obtain ⟨k1, k2, _⟩ := e1
      rw [List.getElem?_eq_getElem k1]
      simpa using k2
    | succ j => exact b j q z (by simpa using h1) (by simpa using h2)
theorem esK (ih : ∀ e i, f e = some i → Snd X g gx Wx e i) : ∀ {kws : List Keyword} {is : Es}, esOf f (kwVals kws) = some is → PK X kws (rdA g gx Wx is)
  | [], is, h => by
    simp only [kwVals, List.map_nil, esOf] at h
    cases h
    exact sk_nil
  | ⟨nm, e, kp⟩ :: r, is, h => by
    simp only [kwVals, List.map_cons, esOf] at h
    split at h
    · cases h
    · obtain ⟨i, e1, h⟩ := bind_some' h
      obtain ⟨js, e2, h⟩ := bind_some' h
      cases h
      exact sk_cons (ih _ _ e1).v (esK ih e2)
def cDef (f : Expr → Option E) (fid : Nat) (ps : List Str) (args : List Expr) (kws : List Keyword) : Option E := match kws with
  | [] => (esOf f args).bind fun is => if is.len = ps.length then some (.call fid is) else none
  | kws => match args with
    | [] => (kwNames kws).bind fun ks => (permOf ps ks).bind fun pm => (esOf f (kwVals kws)).bind fun is => if (nodupB ks && ks.all fun z => ps.contains z) = true then some (.callk fid pm is) else none
    | _ => none
theorem cDef_ok (G : Good c X g g0 gx k Wx) (ih : ∀ e i, f e = some i → Snd X g gx Wx e i) {fid : Nat} {ps : List Str} {args : List Expr} {kws : List Keyword} {p pos : Pos} (hg : c.glob x = true) (hd : c.defs.lookup x = some (fid, ps)) (h : cDef f fid ps args kws = some i) :
    Snd X g gx Wx (.Call (.Name x p) args kws pos) i := by
  obtain ⟨b1, b3⟩ := G.glob hg
  obtain ⟨b4, _, b5⟩ := okName_ok b3
  obtain ⟨hm, F⟩ := G.defs x fid ps hd
  unfold cDef at h
  split at h
  · obtain ⟨is, e1, h⟩ := bind_some' h
    split at h
    · rename_i hl
      cases h
      cases args with
      | nil =>
        simp only [esOf] at e1
        cases e1
        have : ps = [] := by
          cases ps with
          | nil => rfl
          | cons _ _ => simp [Es.len] at hl
        subst this
        exact .val (sn_call0 F G.same G.room G.takes b1 hm b4) rfl rfl
      | cons e es =>
        have hst := esOf_star e1
        rw [List.all_cons, Bool.and_eq_true] at hst
        exact .val (sn_call F G.same G.room G.takes b1 hm b4 (esA ih e1) hl (noStar_of (by simpa using hst.1)) (plain_any hst.2)) rfl rfl
    · cases h
  · split at h
    · obtain ⟨ks, e1, h⟩ := bind_some' h
      obtain ⟨pm, e2, h⟩ := bind_some' h
      obtain ⟨is, e3, h⟩ := bind_some' h
      split at h
      · rename_i hz
        rw [Bool.and_eq_true] at hz
        cases h
        obtain ⟨q1, q2⟩ := permOf_ok e2
        refine .val (sn_callk F G.same G.room G.takes b1 hm b4 e1 (esK ih e3) ?_ (nodup_of hz.1) q1 (fun z hz' => ?_) q2) rfl rfl
        · rw [esOf_len e3, kwVals, List.length_map]
        · have := List.all_eq_true.mp hz.2 z hz'
          simpa using this
      · cases h
    · cases h
def cDraw (f : Expr → Option E) (args : List Expr) : Option E := match args with
  | [a, b] => if (!starred a && !starred b) = true then (f a).bind fun i => (f b).bind fun j => some (.draw i j) else none
  | _ => none
def cStream (f : Expr → Option E) (args : List Expr) : Option E := match args with
  | [a] => if (!starred a) = true then (f a).bind fun i => some (.stream i) else none
  | _ => none
theorem cDraw_ok (G : Good c X g g0 gx k Wx) (ih : ∀ e i, f e = some i → Snd X g gx Wx e i) {args : List Expr} {p pos : Pos} (hg : c.glob "_law_draw" = true) (h : cDraw f args = some i) : Snd X g gx Wx (.Call (.Name "_law_draw" p) args [] pos) i := by
  obtain ⟨b1, b3⟩ := G.glob hg
  obtain ⟨b4, _, b5⟩ := okName_ok b3
  obtain ⟨fa, ps, hm, F⟩ := G.draw
  unfold cDraw at h
  split at h
  · split at h
    · rename_i hz
      simp only [Bool.and_eq_true, Bool.not_eq_true'] at hz
      obtain ⟨j, e1, h⟩ := bind_some' h
      obtain ⟨j2, e2, h⟩ := bind_some' h
      cases h
      exact .val (sn_draw F G.cap G.room G.takes b1 hm b4 (ih _ _ e1).v (ih _ _ e2).v (noStar_of hz.1) (noStar_of hz.2)) rfl rfl
    · cases h
  · cases h
theorem cStream_ok (G : Good c X g g0 gx k Wx) (ih : ∀ e i, f e = some i → Snd X g gx Wx e i) {args : List Expr} {p pos : Pos} (hg : c.glob "_law_stream" = true) (h : cStream f args = some i) : Snd X g gx Wx (.Call (.Name "_law_stream" p) args [] pos) i := by
  obtain ⟨b1, b3⟩ := G.glob hg
  obtain ⟨b4, _, b5⟩ := okName_ok b3
  obtain ⟨fa, ps, hm, F⟩ := G.strm
  unfold cStream at h
  split at h
  · split at h
    · rename_i hz
      obtain ⟨j, e1, h⟩ := bind_some' h
      cases h
      exact .val (sn_stream G.K F G.room G.takes b1 hm b4 (ih _ _ e1).v (noStar_of (by simpa using hz))) rfl rfl
    · cases h
  · cases h
/-- f(..) by name -/
def cName (f : Expr → Option E) (c : CI) (x : Str) (args : List Expr) (kws : List Keyword) : Option E := match c.loc x with
  | some n => (match kws with
    | [] => (match args with
      | [] => if c.lam = true then some (.callv n .nil) else none
      | args => (esOf f args).bind fun is => some (.callv n is))
    | _ => none)
  | none => if c.glob x = true then (match c.defs.lookup x with
    | some (fid, ps) => cDef f fid ps args kws
    | none => (match kws with
      | [] => if x = "_law_draw" then cDraw f args else if x = "_law_stream" then cStream f args else if c.blt x = true then cBlt f c x args else none
      | _ => none)) else none
theorem cName_ok (G : Good c X g g0 gx k Wx) (ih : ∀ e i, f e = some i → Snd X g gx Wx e i) {args : List Expr} {kws : List Keyword} {p pos : Pos} (h : cName f c x args kws = some i) : Snd X g gx Wx (.Call (.Name x p) args kws pos) i := by
  unfold cName at h
  split at h
  · rename_i n hn
    obtain ⟨l1, l2, l3⟩ := G.loc hn
    obtain ⟨b4, b6, b5⟩ := okName_ok l3
    split at h
    · split at h
      · split at h
        · rename_i hl
          cases h
          exact .val (G.lam hl n x p pos l1 l2 l3) rfl rfl
        · cases h
      · rename_i hne
        obtain ⟨is, e1, h⟩ := bind_some' h
        cases h
        have hst := esOf_star e1
        cases args with
        | nil => exact absurd rfl hne
        | cons e es =>
          rw [List.all_cons, Bool.and_eq_true] at hst
          refine .val (sn_callv G.ar G.same G.room G.takes l1 l2 b4 b6 (esA ih e1) (noStar_of (by simpa using hst.1)) (plain_any hst.2) fun z => ?_) rfl rfl
          have := esOf_len e1
          rw [z] at this
          simp [Es.len] at this
    · cases h
  · split at h
    · rename_i hg
      split at h
      · rename_i fid ps hd
        exact cDef_ok G ih hg hd h
      · split at h
        · split at h
          · rename_i e; subst e
            exact cDraw_ok G ih hg h
          · split at h
            · rename_i e; subst e
              exact cStream_ok G ih hg h
            · split at h
              · rename_i hb
                exact cBlt_ok G ih hb h
              · cases h
        · cases h
    · cases h
end
end Us
end

section
set_option Elab.async false
set_option linter.all false
set_option maxRecDepth 100000
set_option maxHeartbeats 1000000
/-! Us.Cmp2: methods, iterables, displays, comprehensions; all expressions. -/
namespace Us
open PySem PySem.Spec PyProof.Rows L2
/-- the context of a lambda's body -/
def CI.lamI (c : CI) (scope : Scope) : CI := { c with sc := scope, fsc := some scope, own := [], lam := false, lamC := false }
/-- the context of a comprehension's block -/
def CI.blkI (c : CI) (scope : Scope) : CI := { c with sc := relS scope c.sc, fsc := some scope, own := [], lam := false, lamC := false }
def noParams (p : Arguments) : Bool := p.posonlyargs.isEmpty && p.args.isEmpty && p.vararg.isNone && p.kwonlyargs.isEmpty && p.kw_defaults.isEmpty && p.kwarg.isNone && p.defaults.isEmpty
/-- x(lambda: b), where that may stand -/
def LamOk (c : CI) (X : Cx) (g g0 : Gp) (gx : G) (k : Nat) (Wx : WX) : Prop := c.lamC = true → ∀ (x : Str) (f : Nat) (a : Str) (params : Arguments) (body : Expr) (scope : Scope) (p lpos pos : Pos) (b : E), c.glob x = true → c.defs.lookup x = some (f, [a]) → noParams params = true → LamX.lamSB c.sc scope = true →
  (∀ X' g' gx' k' W', Good (c.lamI scope) X' g' g0 gx' k' W' → PE X' body (rdE g' gx' W' b)) → PE X (.Call (.Name x p) [.Lambda params body scope lpos] [] pos) (rdE g gx Wx (.callL f b))
section
variable {c : CI} {X : Cx} {g g0 : Gp} {gx : G} {k : Nat} {Wx : WX} {x : Str} {e : Expr} {i : E} {f : Expr → Option E}
theorem Callee.blk {f : Nat} {ps : List Str} {scope : Scope} {s : Shared} {H : Hp} {en : PySem.Env} {fp : List Addr} (F : Callee X g0 gx k f ps) : Callee (X.blk s H scope en fp) g0 gx k f ps := ⟨F.ex, F.nd, F.keep⟩
theorem CalleeN.blk {f : Addr} {ps : List Str} {sp : Sp} {scope : Scope} {s : Shared} {H : Hp} {en : PySem.Env} {fp : List Addr} (F : CalleeN X k f ps sp) : CalleeN (X.blk s H scope en fp) k f ps sp := ⟨F.ex, F.nd, F.keep⟩
theorem Good.blk (G : Good c X g g0 gx k Wx) {scope : Scope} (s : Shared) (H : Hp) (C : Addr) (cl : List (Str × Addr)) (fp : List Addr) : Good (c.blkI scope) (X.blk s H scope (compEnvC scope cl C X.env) fp) g g0 gx k W0 := by
  refine ⟨?_, G.N, G.nd, G.K, G.same, G.calm, G.room, LamX.takes0, fun x f ps h => ⟨(G.defs x f ps h).1, (G.defs x f ps h).2.blk⟩, G.free, fun f n h => let ⟨ps, e, F⟩ := G.ar f n h; ⟨ps, e, F.blk⟩, G.cap, let ⟨f, ps, e, F⟩ := G.draw; ⟨f, ps, e, F.blk⟩, let ⟨f, ps, e, F⟩ := G.strm; ⟨f, ps, e, F.blk⟩, fun x h => ?_, fun h => by cases h⟩
  · show relS scope X.env.scope = relS scope c.sc
    rw [G.sc]
  · show (scope.names.lookup x == some .cell) = true
    have : decide (scope.names.lookup x = some .cell) = true := h
    simpa using this
/-! ### methods -/
def cGet (f : Expr → Option E) (o : Expr) (args : List Expr) : Option E := if isCall0 o = true then none else match args with
  | [a] => if starred a = true then none else (f o).bind fun i => (f a).bind fun j => some (.mt .get i (.cons j .nil))
  | [a, b] => if (starred a || starred b) = true then none else (f o).bind fun i => (f a).bind fun j => (f b).bind fun l => some (.mt .get i (.cons j (.cons l .nil)))
  | _ => none
def cMut (f : Expr → Option E) (n : Nat) (m : Str) (args : List Expr) : Option E := match args with
  | [] => if m = "pop" then some (.mut .pop n .nil) else none
  | [a] => if starred a = true then none else (f a).bind fun j => if m = "append" then some (.mut .append n (.cons j .nil)) else if m = "extend" then some (.mut .extend n (.cons j .nil)) else if m = "pop" then some (.mut .pop n (.cons j .nil)) else none
  | _ => none
def cMeth (f : Expr → Option E) (c : CI) (o : Expr) (m : Str) (apos cpos : Pos) (args : List Expr) : Option E := if (apos.endLine == cpos.line) = true then (if m = "get" then cGet f o args else match o with
    | .Name x _ => (c.loc x).bind fun n => cMut f n m args
    | _ => none) else none
theorem few1 {a : Expr} {env : PySem.Env} {cpos : Pos} (hs : starred a = false) : ((backTo cpos (starEach [a] env)).all (fun x => !x.1) && (backToKw cpos (keywordEach [] env)).all (fun x => x.1.isSome) && decide (([a] : List Expr).length + ([] : List Keyword).length + (if ([] : List Keyword).isEmpty then 0 else 1) < 30)) = true ∧ backTo cpos (starEach [a] env) = [(false, eval a env)] := by
  have e : starEach [a] env = [(false, eval a env)] := noStar_of hs [] env
  rw [e]
  exact ⟨rfl, rfl⟩
theorem few2 {a b : Expr} {env : PySem.Env} {cpos : Pos} (hs : starred a = false) (hs2 : starred b = false) : ((backTo cpos (starEach [a, b] env)).all (fun x => !x.1) && (backToKw cpos (keywordEach [] env)).all (fun x => x.1.isSome) && decide (([a, b] : List Expr).length + ([] : List Keyword).length + (if ([] : List Keyword).isEmpty then 0 else 1) < 30)) = true ∧ backTo cpos (starEach [a, b] env) = [(false, eval a env), (false, eval b env)] := by
  have e1 : starEach [b] env = [(false, eval b env)] := noStar_of hs2 [] env
  have e : starEach [a, b] env = (false, eval a env) :: starEach [b] env := noStar_of hs [b] env
  rw [e, e1]
  exact ⟨rfl, rfl⟩
theorem cMeth_ok (G : Good c X g g0 gx k Wx) (ih : ∀ e i, f e = some i → Snd X g gx Wx e i) {o : Expr} {m : Str} {apos cpos : Pos} {args : List Expr} (h : cMeth f c o m apos cpos args = some i) : Snd X g gx Wx (.Call (.Attribute o m apos) args [] cpos) i := by
  have hu := G.units
  unfold cMeth at h
  split at h
  · rename_i hl
    split at h
    · rename_i em; subst em
      unfold cGet at h
      split at h
      · cases h
      · rename_i hc0
        rw [Bool.not_eq_true] at hc0
        split at h
        · split at h
          · cases h
          · rename_i hs
            rw [Bool.not_eq_true] at hs
            replace h := bind_some' h; obtain ⟨j1, e1, h⟩ := h
            replace h := bind_some' h; obtain ⟨j2, e2, h⟩ := h
            cases h
            obtain ⟨a1, a2⟩ := few1 (env := X.env) (cpos := cpos) hs
            exact .val (sn_get1 (by omega) (ih _ _ e1).v (ih _ _ e2).v ⟨attr_of' hc0, a1, hl, a2⟩) rfl rfl
        · split at h
          · cases h
          · rename_i hs
            rw [Bool.not_eq_true, Bool.or_eq_false_iff] at hs
            replace h := bind_some' h; obtain ⟨j1, e1, h⟩ := h
            replace h := bind_some' h; obtain ⟨j2, e2, h⟩ := h
            replace h := bind_some' h; obtain ⟨j3, e3, h⟩ := h
            cases h
            obtain ⟨a1, a2⟩ := few2 (env := X.env) (cpos := cpos) hs.1 hs.2
            exact .val (sn_get2 (by omega) (ih _ _ e1).v (ih _ _ e2).v (ih _ _ e3).v ⟨attr_of' hc0, a1, hl, a2⟩) rfl rfl
        · cases h
    · split at h
      · replace h := bind_some' h; obtain ⟨n, en, h⟩ := h
        have v2 := fun p => (G.var (p := p) en).2
        unfold cMut at h
        split at h
        · split at h
          · rename_i em; subst em
            cases h
            exact .val (sn_pop (v2 _) (attr_of' rfl) hl) rfl rfl
          · cases h
        · split at h
          · cases h
          · rename_i hs
            rw [Bool.not_eq_true] at hs
            replace h := bind_some' h; obtain ⟨j1, e1, h⟩ := h
            split at h
            · rename_i em; subst em
              cases h
              exact .val (sn_append (v2 _) (ih _ _ e1).v (noStar_of hs) (attr_of' rfl) hl) rfl rfl
            · split at h
              · rename_i em; subst em
                cases h
                exact .val (sn_extend (v2 _) (ih _ _ e1).v (noStar_of hs) (attr_of' rfl) hl) rfl rfl
              · split at h
                · rename_i em; subst em
                  cases h
                  exact .val (sn_popAt (v2 _) (ih _ _ e1).v (noStar_of hs) (attr_of' rfl) hl) rfl rfl
                · cases h
        · cases h
      · cases h
  · cases h
/-! ### what a for walks -/
def isTupE : Expr → Bool
  | .Tuple .. => true
  | _ => false
def isVarE : E → Bool
  | .var _ => true
  | _ => false
/-- it is no Name, so it is no slot -/
def cItE (f : Expr → Option E) (c : CI) (a : Expr) : Option It := match a with
  | .Name x _ => (c.loc x).bind fun n => some (.e (.var n))
  | a => (f a).bind fun i => if isVarE i = true then none else some (.e i)
def cItN (f : Expr → Option E) (c : CI) (tg : Expr) (x : Str) (args : List Expr) (orig : Option It) : Option It := if c.blt x = true then (if x = "range" then (match args with
      | [a] => if starred a = true then none else (f a).bind fun i => some (.rng i)
      | [a, b] => if (starred a || starred b) = true then none else (f a).bind fun i => (f b).bind fun j => some (.rng2 i j)
      | _ => none)
    else if x = "enumerate" then (match args with
      | [a] => if (starred a || !isTupE tg) = true then none else (f a).bind fun i => some (.enum i)
      | _ => none)
    else if x = "zip" then (match args with
      | [a, b] => if (starred a || starred b || !isTupE tg) = true then none else (f a).bind fun i => (f b).bind fun j => some (.zip i j)
      | _ => none)
    else orig) else orig
def cIt (f : Expr → Option E) (c : CI) (tg iter : Expr) : Option It := if notSet iter = true then (match iter with
    | .Call (.Name x _) args [] _ => cItN f c tg x args (cItE f c iter)
    | .Call (.Attribute (.Name x _) m apos) [] [] cpos => if m = "items" then (if ((apos.endLine == cpos.line) && isTupE tg) = true then (c.loc x).bind fun n => some (.items (.var n)) else none) else cItE f c iter
    | iter => cItE f c iter) else none
theorem cItE_ok (G : Good c X g g0 gx k Wx) (ih : ∀ e i, f e = some i → Snd X g gx Wx e i) {tg a : Expr} {it : It} (h : cItE f c a = some it) : PI X tg a (rdI g gx Wx it) := by
  unfold cItE at h
  split at h
  · replace h := bind_some' h; obtain ⟨n, en, h⟩ := h
    cases h
    exact sn_itE G.K (G.var en).1 fun m z => by cases z; exact (G.var en).2
  · replace h := bind_some' h; obtain ⟨j, e1, h⟩ := h
    split at h
    · cases h
    · rename_i hv
      cases h
      exact sn_itE G.K (ih _ _ e1).v fun m z => by rw [z] at hv; simp [isVarE] at hv
theorem cItN_ok (G : Good c X g g0 gx k Wx) (ih : ∀ e i, f e = some i → Snd X g gx Wx e i) {tg : Expr} {args : List Expr} {orig : Option It} {it : It} {p pos : Pos} (ho : ∀ it, orig = some it → PI X tg (.Call (.Name x p) args [] pos) (rdI g gx Wx it)) (h : cItN f c tg x args orig = some it) :
    PI X tg (.Call (.Name x p) args [] pos) (rdI g gx Wx it) := by
  unfold cItN at h
  split at h
  · rename_i hb
    obtain ⟨b1, b2, _⟩ := G.blt hb
    split at h
    · rename_i ex; subst ex
      split at h
      · split at h
        · cases h
        · rename_i hs
          rw [Bool.not_eq_true] at hs
          replace h := bind_some' h; obtain ⟨j1, e1, h⟩ := h
          cases h
          exact sn_rng b1 b2 (ih _ _ e1).v (noStar_of hs)
      · split at h
        · cases h
        · rename_i hs
          rw [Bool.not_eq_true, Bool.or_eq_false_iff] at hs
          replace h := bind_some' h; obtain ⟨j1, e1, h⟩ := h
          replace h := bind_some' h; obtain ⟨j2, e2, h⟩ := h
          cases h
          exact sn_rng2 b1 b2 (ih _ _ e1).v (ih _ _ e2).v (noStar_of hs.1) (noStar_of hs.2)
      · cases h
    · split at h
      · rename_i ex; subst ex
        split at h
        · split at h
          · cases h
          · rename_i hs
            rw [Bool.not_eq_true, Bool.or_eq_false_iff] at hs
            replace h := bind_some' h; obtain ⟨j1, e1, h⟩ := h
            cases h
            have ht := hs.2
            cases tg <;> first | (simp [isTupE] at ht; done) | exact sn_enum G.K b1 b2 (ih _ _ e1).v (noStar_of hs.1)
        · cases h
      · split at h
        · rename_i ex; subst ex
          split at h
          · split at h
            · cases h
            · rename_i hs
              rw [Bool.not_eq_true, Bool.or_eq_false_iff, Bool.or_eq_false_iff] at hs
              replace h := bind_some' h; obtain ⟨j1, e1, h⟩ := h
              replace h := bind_some' h; obtain ⟨j2, e2, h⟩ := h
              cases h
              have ht := hs.2
              cases tg <;> first | (simp [isTupE] at ht; done) | exact sn_zip G.K b1 b2 (ih _ _ e1).v (ih _ _ e2).v (noStar_of hs.1.1) (noStar_of hs.1.2)
          · cases h
        · exact ho it h
  · exact ho it h
theorem cIt_ok (G : Good c X g g0 gx k Wx) (ih : ∀ e i, f e = some i → Snd X g gx Wx e i) {tg iter : Expr} {it : It} (h : cIt f c tg iter = some it) : PI X tg iter (rdI g gx Wx it) ∧ notSet iter = true := by
  unfold cIt at h
  split at h
  · rename_i hn
    refine ⟨?_, hn⟩
    split at h
    · exact cItN_ok G ih (fun it h => cItE_ok G ih h) h
    · split at h
      · rename_i em; subst em
        split at h
        · rename_i hs
          rw [Bool.and_eq_true] at hs
          replace h := bind_some' h; obtain ⟨n, en, h⟩ := h
          cases h
          have v2 := fun p => (G.var (p := p) en).2
          have ht := hs.2
          cases tg <;> first | (simp [isTupE] at ht; done) | exact sn_itItems (v2 _) (attr_of' rfl) hs.1
        · cases h
      · exact cItE_ok G ih h
    · exact cItE_ok G ih h
  · cases h
/-! ### displays -/
def cLst (f : Expr → Option E) (es : List Expr) : Option E := match es with
  | .Starred a _ :: r => (f a).bind fun i => (esOf f r).bind fun is => some (.star i is)
  | es => (esOf f es).bind fun is => if is.len ≤ 1000 then some (.lst is) else none
theorem cLst_ok (G : Good c X g g0 gx k Wx) (ih : ∀ e i, f e = some i → Snd X g gx Wx e i) {es : List Expr} {pos : Pos} (h : cLst f es = some i) : Snd X g gx Wx (.List es pos) i := by
  unfold cLst at h
  split at h
  · replace h := bind_some' h; obtain ⟨j1, e1, h⟩ := h
    replace h := bind_some' h; obtain ⟨is, e2, h⟩ := h
    cases h
    exact .val (sn_star G.K (ih _ _ e1).v (esX ih e2)) rfl rfl
  · replace h := bind_some' h; obtain ⟨is, e2, h⟩ := h
    split at h
    · rename_i hl
      cases h
      exact .new (nn_lst (esX ih e2) hl) rfl rfl
    · cases h
/-- keys and values in turn -/
def prsOf (f : Expr → Option E) : List (Option Expr) → List Expr → Option Es
  | [], [] => some .nil
  | some k :: ks, v :: vs => (f k).bind fun i => (f v).bind fun j => (prsOf f ks vs).bind fun is => some (.cons i (.cons j is))
  | _, _ => none
theorem prsOf_ok (ih : ∀ e i, f e = some i → Snd X g gx Wx e i) {pos : Pos} : ∀ {ks : List (Option Expr)} {vs : List Expr} {is : Es}, prsOf f ks vs = some is →
    PPs X pos ks vs (is.prs.map fun p => (rdE g gx Wx p.1, rdE g gx Wx p.2)) ∧ is.even = true ∧ ks.all (·.isSome) = true ∧ ks.length = vs.length ∧ is.prs.length = ks.length
  | [], [], is, h => by
    simp only [prsOf] at h
    cases h
    exact ⟨pps_nil, rfl, rfl, rfl, rfl⟩
  | some k :: ks, v :: vs, is, h => by
    simp only [prsOf] at h
    replace h := bind_some' h; obtain ⟨i, e1, h⟩ := h
    replace h := bind_some' h; obtain ⟨j, e2, h⟩ := h
    replace h := bind_some' h; obtain ⟨js, e3, h⟩ := h
    cases h
    obtain ⟨a1, a2, a3, a4, a5⟩ := prsOf_ok ih e3
    refine ⟨pps_cons (ih _ _ e1).v (ih _ _ e2).v a1, a2, ?_, by simp [a4], by simp [Es.prs, a5]⟩
    rw [List.all_cons, a3]
    rfl
  | [], _ :: _, is, h => by simp [prsOf] at h
  | none :: _, _, is, h => by simp [prsOf] at h
  | some _ :: _, [], is, h => by simp [prsOf] at h
def cDct (f : Expr → Option E) (ks : List (Option Expr)) (vs : List Expr) : Option E := if ks.length ≤ 15 then (prsOf f ks vs).bind fun is => some (.dct is) else none
theorem cDct_ok (ih : ∀ e i, f e = some i → Snd X g gx Wx e i) {ks : List (Option Expr)} {vs : List Expr} {pos : Pos} (h : cDct f ks vs = some i) : Snd X g gx Wx (.Dict ks vs pos) i := by
  unfold cDct at h
  split at h
  · rename_i hl
    replace h := bind_some' h; obtain ⟨is, e1, h⟩ := h
    cases h
    obtain ⟨a1, a2, a3, a4, a5⟩ := prsOf_ok (pos := pos) ih e1
    cases ks with
    | nil =>
      cases vs with
      | nil =>
        simp only [prsOf] at e1
        cases e1
        exact .new nn_dct0 rfl rfl
      | cons _ _ => simp at a4
    | cons k ks => exact .new (nn_dct a1 a2 a3 a4 (by simp) hl (by rw [a5]; exact hl)) rfl rfl
  · cases h
/-! ### comprehensions -/
def tgNames : Nat → Expr → List Str
  | 0, _ => []
  | n + 1, e => match e with
    | .Name x _ => [x]
    | .Tuple es _ _ => (es.map (tgNames n)).flatten
    | _ => []
def ownOf (c : CI) (tg : Expr) : List (Str × Nat) := (tgNames 5 tg).filterMap fun x => (c.slot x).map fun n => (x, n)
def cComp (fE : CI → Expr → Option E) (c : CI) (elt : Expr) (gens : List Comprehension) (scope : Scope) : Option E := match gens with
  | [⟨tg, iter, ifs, a⟩] => if a = 0 then (cIt (fE c) c tg iter).bind fun it => (cT 5 (c.blkI scope) tg).bind fun t => if (blkC c.N c.sc scope (ownOf c tg) && t.slots.all fun n => ((ownOf c tg).map (·.2)).contains n) = true then
      (fE (c.blkI scope) elt).bind fun el => (match ifs with
        | [] => some (.comp ((ownOf c tg).map (·.2)) el t it)
        | [ce] => (fE (c.blkI scope) ce).bind fun b => some (.compIf ((ownOf c tg).map (·.2)) el t it b)
        | _ => none) else none else none
  | _ => none
theorem cComp_ok {fE : CI → Expr → Option E} (G : Good c X g g0 gx k Wx) (L : LamOk c X g g0 gx k Wx) (ih : ∀ c X Wx, Good c X g g0 gx k Wx → LamOk c X g g0 gx k Wx → ∀ e i, fE c e = some i → Snd X g gx Wx e i) {elt : Expr} {gens : List Comprehension} {scope : Scope} {pos : Pos}
    (h : cComp fE c elt gens scope = some i) : Snd X g gx Wx (.ListComp elt gens scope pos) i := by
  unfold cComp at h
  split at h
  · rename_i tg iter ifs a0
    split at h
    · rename_i ea
      subst ea
      replace h := bind_some' h; obtain ⟨it, e1, h⟩ := h
      replace h := bind_some' h; obtain ⟨t, e2, h⟩ := h
      split at h
      · rename_i hb
        rw [Bool.and_eq_true] at hb
        replace h := bind_some' h; obtain ⟨el, e3, h⟩ := h
        obtain ⟨p1, p2⟩ := cIt_ok G (ih c X Wx G L) e1
        have ok : BlkOk X.N X.env.scope scope (ownOf c tg) := by rw [G.N, G.sc]; exact blkOk_by hb.1
        have hsl : ∀ n ∈ t.slots, n ∈ (ownOf c tg).map (·.2) := fun n hn => by
          have := List.all_eq_true.mp hb.2 n hn
          simpa using this
        have hg : ∀ (s : Shared) (H : Hp) (C : Addr) (cl : List (Str × Addr)) (fp : List Addr), PG (X.blk s H scope (compEnvC scope cl C X.env) fp) tg (tgG X.K t) := fun s H C cl fp => cT_ok (G.blk s H C cl fp) 5 _ _ e2
        have he : ∀ (s : Shared) (H : Hp) (C : Addr) (cl : List (Str × Addr)) (fp : List Addr), Snd (X.blk s H scope (compEnvC scope cl C X.env) fp) g gx W0 elt el := fun s H C cl fp => ih _ _ _ (G.blk s H C cl fp) (fun z => by cases z) _ _ e3
        split at h
        · cases h
          exact .new (PE.lockN (nn_comp G.K G.calm G.nd p1 ok hsl hg (fun s H C cl fp => (he s H C cl fp).v) fun x => folded_of p2)) rfl rfl
        · replace h := bind_some' h; obtain ⟨b, e4, h⟩ := h
          cases h
          exact .new (PE.lockN (nn_compIf G.K G.calm G.nd p1 ok hsl hg (fun s H C cl fp => (he s H C cl fp).v) (fun s H C cl fp => (ih _ _ _ (G.blk s H C cl fp) (fun z => by cases z) _ _ e4).t) fun x => folded_of p2)) rfl rfl
        · cases h
      · cases h
    · cases h
  · cases h
end
/-! ### all of them -/
def cLam (fE : CI → Expr → Option E) (c : CI) (x : Str) (params : Arguments) (body : Expr) (scope : Scope) : Option E := if (c.lamC && c.glob x && noParams params && LamX.lamSB c.sc scope) = true then (match c.defs.lookup x with
    | some (f, [a]) => (fE (c.lamI scope) body).bind fun b => some (.callL f b)
    | _ => none) else none
def isLamE : List Expr → Bool
  | [.Lambda ..] => true
  | _ => false
def cE : Nat → CI → Expr → Option E
  | 0, _, _ => none
  | n + 1, c, e => match e with
    | .Name x _ => (match c.loc x with
      | some i => some (.var i)
      | none => if c.glob x = true then (c.defs.lookup x).bind fun p => some (.fn p.1) else none)
    | .Constant k _ _ => (match k with
      | .int i => some (.int i)
      | .bool b => some (.bl b)
      | .none => some .non
      | .str s => if (decide (s.cps.size ≤ lim) && PyData.strOk s) = true then some (.str s) else none
      | _ => none)
    | .BinOp a op b _ => (binOf op).bind fun o => (cE n c a).bind fun i => (cE n c b).bind fun j => some (.bin o i j)
    | .BoolOp op vs _ => boolOf (cE n c) op vs
    | .UnaryOp op a _ => (match op with
      | .Not => (cE n c a).bind fun i => some (.not i)
      | .USub => (cE n c a).bind fun i => some (.neg i)
      | _ => none)
    | .Compare a ops bs _ => cCmp (cE n c) a ops bs
    | .IfExp a b d _ => (cE n c a).bind fun i => (cE n c b).bind fun j => (cE n c d).bind fun l => some (.ite i j l)
    | .Tuple es _ _ => (esOf (cE n c) es).bind fun is => if is.len ≤ 1000 then some (.tup is) else none
    | .List es _ => cLst (cE n c) es
    | .Dict ks vs _ => cDct (cE n c) ks vs
    | .Subscript v s _ => cSub (cE n c) v s
    | .Call fn args kws cpos => (match fn with
      | .Name x _ => (match args, kws with
        | [.Lambda params body scope _], [] => cLam (cE n) c x params body scope
        | args, kws => cName (cE n c) c x args kws)
      | .Attribute o m apos => (match kws with
        | [] => cMeth (cE n c) c o m apos cpos args
        | _ => none)
      | _ => none)
    | .ListComp elt gens scope _ => cComp (cE n) c elt gens scope
    | _ => none
theorem cE_ok : ∀ (n : Nat) (c : CI) (X : Cx) (g g0 : Gp) (gx : G) (k : Nat) (Wx : WX), Good c X g g0 gx k Wx → LamOk c X g g0 gx k Wx → ∀ e i, cE n c e = some i → Snd X g gx Wx e i
  | 0, c, X, g, g0, gx, k, Wx, G, L, e, i, h => by simp [cE] at h
  | n + 1, c, X, g, g0, gx, k, Wx, G, L, e, i, h => by
    have ih := cE_ok n c X g g0 gx k Wx G L
    simp only [cE] at h
    split at h
    · split at h
      · rename_i m hm
        cases h
        exact .val (G.var hm).1 rfl rfl
      · split at h
        · rename_i hg
          replace h := bind_some' h; obtain ⟨p, e1, h⟩ := h
          cases h
          obtain ⟨b1, b3⟩ := G.glob hg
          obtain ⟨b4, _, _⟩ := okName_ok b3
          obtain ⟨hm, _⟩ := G.defs _ _ _ e1
          exact .val (sn_fn b1 (by rw [G.same.fa]; exact hm) b4) rfl rfl
        · cases h
    · split at h
      · cases h; exact .val sn_int rfl rfl
      · cases h; exact .val sn_bl rfl rfl
      · cases h; exact .val sn_non rfl rfl
      · split at h
        · rename_i hz
          rw [Bool.and_eq_true, decide_eq_true_eq] at hz
          cases h; exact .val (sn_str hz.1 hz.2) rfl rfl
        · cases h
      · cases h
    · replace h := bind_some' h; obtain ⟨o, e0, h⟩ := h
      replace h := bind_some' h; obtain ⟨j1, e1, h⟩ := h
      replace h := bind_some' h; obtain ⟨j2, e2, h⟩ := h
      cases h
      rw [binOf_ok e0]
      exact .val (sn_bin G.K (ih _ _ e1).v (ih _ _ e2).v) rfl rfl
    · obtain ⟨a1, a2, a3⟩ := boolE (pos := _) ih h
      exact ⟨a1, a2.pt, fun z => by rw [a3] at z; cases z⟩
    · split at h
      · replace h := bind_some' h; obtain ⟨j1, e1, h⟩ := h
        cases h
        obtain ⟨a1, a2⟩ := sn_not (pos := _) (ih _ _ e1).v (ih _ _ e1).t
        exact ⟨a1, a2, fun z => by cases z⟩
      · replace h := bind_some' h; obtain ⟨j1, e1, h⟩ := h
        cases h
        exact .val (sn_neg (ih _ _ e1).v) rfl rfl
      · cases h
    · exact cCmp_ok G ih h
    · replace h := bind_some' h; obtain ⟨j1, e1, h⟩ := h
      replace h := bind_some' h; obtain ⟨j2, e2, h⟩ := h
      replace h := bind_some' h; obtain ⟨j3, e3, h⟩ := h
      cases h
      obtain ⟨a1, a2⟩ := sn_ite (pos := _) (ih _ _ e1).t (ih _ _ e2).v (ih _ _ e2).t (ih _ _ e3).v (ih _ _ e3).t
      exact ⟨a1, a2, fun z => by cases z⟩
    · replace h := bind_some' h; obtain ⟨is, e1, h⟩ := h
      split at h
      · rename_i hl
        cases h
        exact .val (sn_tup (esX ih e1) hl) rfl rfl
      · cases h
    · exact cLst_ok G ih h
    · exact cDct_ok ih h
    · exact cSub_ok G ih h
    · split at h
      · split at h
        · unfold cLam at h
          split at h
          · rename_i hz
            simp only [Bool.and_eq_true] at hz
            obtain ⟨⟨⟨z1, z2⟩, z3⟩, z4⟩ := hz
            split at h
            · rename_i f a hd
              replace h := bind_some' h; obtain ⟨b, e1, h⟩ := h
              cases h
              exact .val (L z1 _ _ _ _ _ _ _ _ _ _ z2 hd z3 z4 fun X' g' gx' k' W' G' => (cE_ok n _ X' g' g0 gx' k' W' G' (fun z => by cases z) _ _ e1).v) rfl rfl
            · cases h
          · cases h
        · exact cName_ok G ih h
      · split at h
        · exact cMeth_ok G ih h
        · cases h
      · cases h
    · exact cComp_ok G L (fun c X Wx G L => cE_ok n c X g g0 gx k Wx G L) h
    · cases h
end Us
end

section
set_option Elab.async false
set_option linter.all false
set_option maxRecDepth 100000
set_option maxHeartbeats 1000000
/-! Us.Cmp3: how stores are swapped, told of the text. -/
namespace Us
open PySem PySem.Spec PyProof.Rows L2
def parNames (sc : Scope) (ts : List Expr) : List Str := ts.filterMap fun
    | .Name id pos => if sc.names.lookup id == some .local && pos.line == (ts.head?.map (·.pos.line)).getD 0 then some id else none
    | _ => none
def noParB (sc : Scope) (ts vs : List Expr) : Bool := !(ts.length == 2 || ts.length == 3) || vs.length != ts.length || (vs.any starred) || (parNames sc ts).length != ts.length
theorem any_star (vs : List Expr) : (vs.any fun | .Starred .. => true | _ => false) = vs.any starred := by
  congr
theorem sw_none {sc : Scope} {ts vs : List Expr} {kt k2 : Nat} {pt pt2 : Pos} {env : PySem.Env} (hs : env.scope = sc) (hk : sc.kind = .function) (h : noParB sc ts vs = true) : swappedStores [.Tuple ts kt pt] (.Tuple vs k2 pt2) env = pure none := by
  have hb : env.blockKind = .function := by
    unfold PySem.Env.blockKind
    rw [hs, hk]
    rfl
  have hko : ∀ x, env.kindOf x = sc.names.lookup x := fun x => by
    rw [← hs]
    rfl
  unfold swappedStores
  simp only [hb]
  unfold noParB at h
  simp only [Bool.or_eq_true] at h
  split
  · rfl
  · rename_i h1
    simp only [Bool.or_eq_true, not_or] at h1
    split
    · rfl
    · rename_i h2
      have h2 : ¬ vs.any starred = true := fun z => h2 (Eq.trans (b := vs.any starred) (by congr 1) z)
      have h3 : ((parNames sc ts).length != ts.length) = true := by
        rcases h with ((h | h) | h) | h
        · exact absurd h h1.1.1
        · exact absurd h h1.1.2
        · exact absurd h h2
        · exact h
      split
      · rfl
      · rename_i h4
        exfalso
        apply h4
        rw [Bool.or_eq_true]
        left
        refine Eq.trans (b := (parNames sc ts).length != ts.length) ?_ h3
        unfold parNames
        simp only [hko]
        refine congrArg (fun l : List Str => l.length != ts.length) (congrArg (fun F => List.filterMap F ts) (funext fun e => ?_))
        cases e <;> rfl
theorem sw_else {tg e : Expr} {env : PySem.Env} (h : ∀ es k p, e ≠ .Tuple es k p) : swappedStores [tg] e env = pure none := by
  cases e <;> first | rfl | (cases tg <;> rfl) | exact absurd rfl (h _ _ _)
theorem sw_tg {tg e : Expr} {env : PySem.Env} (h : ∀ es k p, tg ≠ .Tuple es k p) (h2 : ∀ es p, tg ≠ .List es p) : swappedStores [tg] e env = pure none := by
  cases tg <;> first | (cases e <;> rfl) | exact absurd rfl (h _ _ _) | exact absurd rfl (h2 _ _)
theorem sw2 {x y : Str} {px py pt pt2 : Pos} {kt k2 : Nat} {a b : Expr} {sc : Scope} {env : PySem.Env} (hs : env.scope = sc) (hk : sc.kind = .function) (hx : sc.names.lookup x = some .local) (hy : sc.names.lookup y = some .local) (hl : (py.line == px.line) = true) (hxy : (x == y) = false)
    (h1 : starred a = false) (h2 : starred b = false) (hf : ([a, b].all (foldedForSure 8)) = false) (hc : ([a, b].all (constantsAlone 8)) = false) : swappedStores [.Tuple [.Name x px, .Name y py] kt pt] (.Tuple [a, b] k2 pt2) env = pure (some [x, y]) := by
  have hb : env.blockKind = .function := by
    unfold PySem.Env.blockKind
    rw [hs, hk]
    rfl
  have hkx : env.kindOf x = some .local := by rw [← hx, ← hs]; rfl
  have hky : env.kindOf y = some .local := by rw [← hy, ← hs]; rfl
  have hyx : (y == x) = false := by
    have : x ≠ y := by simpa using hxy
    simpa using fun e : y = x => this e.symm
  have e2 : (([Expr.Name x px, Expr.Name y py].head?.map (·.pos.line)).getD 0) = px.line := rfl
  unfold swappedStores
  simp only [hb, hf, hc, hkx, hky, e2, hl, List.filterMap_cons, List.filterMap_nil, List.length_cons, List.length_nil, beq_self_eq_true, Bool.and_self, if_true, Bool.or_true, Bool.true_or, Bool.not_true, bne_self_eq_false, Bool.or_self, Bool.false_eq_true, if_false, List.eraseDups_cons, List.filter_cons, hyx, Bool.not_false, List.filter_nil, List.eraseDups_nil]
  refine if_neg fun z => ?_
  have z : [a, b].any starred = true := Eq.trans (by congr 1) z
  simp [h1, h2] at z
theorem sw3 {x y z : Str} {px py pz pt pt2 : Pos} {kt k2 : Nat} {a b d : Expr} {sc : Scope} {env : PySem.Env} (hs : env.scope = sc) (hk : sc.kind = .function) (hx : sc.names.lookup x = some .local) (hy : sc.names.lookup y = some .local) (hz : sc.names.lookup z = some .local) (hl : (py.line == px.line) = true) (hl2 : (pz.line == px.line) = true)
    (hxy : (x == y) = false) (hxz : (x == z) = false) (hyz : (y == z) = false) (h1 : starred a = false) (h2 : starred b = false) (h3 : starred d = false) (hf : ([a, b, d].all (foldedForSure 8)) = false) (hc : ([a, b, d].all (constantsAlone 8)) = false) :
    swappedStores [.Tuple [.Name x px, .Name y py, .Name z pz] kt pt] (.Tuple [a, b, d] k2 pt2) env = pure (some [x, y, z]) := by
  have hb : env.blockKind = .function := by
    unfold PySem.Env.blockKind
    rw [hs, hk]
    rfl
  have hkx : env.kindOf x = some .local := by rw [← hx, ← hs]; rfl
  have hky : env.kindOf y = some .local := by rw [← hy, ← hs]; rfl
  have hkz : env.kindOf z = some .local := by rw [← hz, ← hs]; rfl
  have sy : ∀ {u v : Str}, (u == v) = false → (v == u) = false := fun {u v} h => by
    have : u ≠ v := by simpa using h
    simpa using fun e : v = u => this e.symm
  have e2 : (([Expr.Name x px, Expr.Name y py, Expr.Name z pz].head?.map (·.pos.line)).getD 0) = px.line := rfl
  unfold swappedStores
  simp only [hb, hf, hc, hkx, hky, hkz, e2, hl, hl2, List.filterMap_cons, List.filterMap_nil, List.length_cons, List.length_nil, beq_self_eq_true, Bool.and_self, if_true, Bool.or_true, Bool.true_or, Bool.not_true, bne_self_eq_false, Bool.or_self, Bool.false_eq_true, if_false, List.eraseDups_cons, List.filter_cons, sy hxy, sy hxz, sy hyz, Bool.not_false, List.filter_nil, List.eraseDups_nil]
  refine if_neg fun z => ?_
  have z : [a, b, d].any starred = true := Eq.trans (by congr 1) z
  simp [h1, h2, h3] at z
/-- where a comprehension is handed to a name on the same line -/
def swapB (sc scope : Scope) (x : Str) (tl vl : Nat) : Bool := decide (sc.names.lookup x = some .local) && tl == vl && !(scope.names.any fun (n, k) => n == x && (k == .local || k == .cell))
theorem swap_comp {sc scope : Scope} {x : Str} {tp pos : Pos} {l : Nat} {env : PySem.Env} {elt : Expr} {gens : List Comprehension} (hs : env.scope = sc) (hk : sc.kind = .function) :
    swapsWith (.ListComp elt gens scope pos) (some (.Name x tp)) l env = pure (swapB sc scope x tp.line pos.line) := by
  have hb : env.blockKind = .function := by
    unfold PySem.Env.blockKind
    rw [hs, hk]
    rfl
  have hkx : env.kindOf x = sc.names.lookup x := by rw [← hs]; rfl
  have e : (env.blockKind == .function && env.kindOf x == some .local && tp.line == (Expr.ListComp elt gens scope pos).pos.line && !(scope.names.any fun (n, k) => n == x && (k == .local || k == .cell))) = swapB sc scope x tp.line pos.line := by
    unfold swapB
    rw [hb, hkx]
    have : (sc.names.lookup x == some NameKind.local) = decide (sc.names.lookup x = some .local) := by
      rw [Bool.eq_iff_iff]
      simp
    rw [this]
    rfl
  rw [← e]
  rfl
end Us
end

section
set_option Elab.async false
set_option linter.all false
set_option maxRecDepth 100000
set_option maxHeartbeats 1000000
/-! Us.Cmp4: statements of the given language into the small one. -/
namespace Us
open PySem PySem.Spec PyProof.Rows L2
/-- what must hold of a def's frame, beside -/
structure SG (c : CI) (X : Cx) (g : Gp) (gx : G) : Prop where
  pass : PassesOwn (model X.prog X.w) X.A X.env X.xe
  kind : c.sc.kind = .function
  ea : g.ea = none
  stk : X.stack = X.env :: X.outer
  fr : X.env.frame = some X.env.locals
  errs : ∀ x k, c.errs.lookup x = some k → g.kc k = true ∧ ∃ fI, PySem.UsErr.ErrT X.K X.mg x (g.fld k) (g.ca k) fI
  hands : ∀ x cs, c.hands.lookup x = some cs → ∃ Ch, X.mg x = some (.ref Ch) ∧ ∀ c, g.kc c = true → PySem.W.exmOne X.K (.ref (g.ca c)) (.ref Ch) = some (cs.contains c)
  flds : ∀ f k, c.flds.lookup f = some k → ∀ c0, gx.fld c0 k = true → g.fld c0 = f
  err : ∀ k, g.kc k = true → ∃ cn fI, PySem.UsErr.ErrT X.K X.mg cn (g.fld k) (g.ca k) fI
  lamT : c.lam = true → ∀ (pn : List (Addr × Obj)) (xe : Value → Shared → Prop) (W : WX), Takes (X.tr pn xe) W → ∀ (i : Nat) (a : Str) (p1 p2 : Pos), X.N[i]? = some a → Vis X.env.scope a → okName a = true → PE (X.tr pn xe) (.Call (.Name a p1) [] [] p2) (rdE g gx W (.callv i .nil))
section
variable {c : CI} {X : Cx} {g g0 : Gp} {gx : G} {k : Nat} {Wx : WX} {x : Str} {e : Expr} {i : E} {f : Expr → Option E}
theorem Callee.tr {f : Nat} {ps : List Str} {pn : List (Addr × Obj)} {xe : Value → Shared → Prop} (F : Callee X g0 gx k f ps) : Callee (X.tr pn xe) g0 gx k f ps := ⟨F.ex, F.nd, F.keep⟩
theorem CalleeN.tr {f : Addr} {ps : List Str} {sp : Sp} {pn : List (Addr × Obj)} {xe : Value → Shared → Prop} (F : CalleeN X k f ps sp) : CalleeN (X.tr pn xe) k f ps sp := ⟨F.ex, F.nd, F.keep⟩
theorem Good.tr (G : Good c X g g0 gx k Wx) (S : SG c X g gx) {pn : List (Addr × Obj)} {xe : Value → Shared → Prop} {W : WX} (tk : Takes (X.tr pn xe) W) : Good { c with lamC := false } (X.tr pn xe) g g0 gx k W :=
  ⟨G.sc, G.N, G.nd, G.K, G.same, G.calm, G.room, tk, fun x f ps h => ⟨(G.defs x f ps h).1, (G.defs x f ps h).2.tr⟩, G.free, fun f n h => let ⟨ps, e, F⟩ := G.ar f n h; ⟨ps, e, F.tr⟩, G.cap, let ⟨f, ps, e, F⟩ := G.draw; ⟨f, ps, e, F.tr⟩, let ⟨f, ps, e, F⟩ := G.strm; ⟨f, ps, e, F.tr⟩, G.fn, fun h => S.lamT h pn xe W tk⟩
/-! ### in an except clause -/
def cHE (c : CI) : Nat → Expr → Option E
  | 0, _ => none
  | n + 1, e => match e with
    | .Attribute (.Name x _) fl _ => (c.loc x).bind fun i => (c.flds.lookup fl).bind fun k => some (.fld k i)
    | .Constant (.str s) _ _ => if (decide (s.cps.size ≤ lim) && PyData.strOk s) = true then some (.str s) else none
    | .Tuple es _ _ => (esOf (cHE c n) es).bind fun is => if is.len ≤ 1000 then some (.tup is) else none
    | _ => none
theorem hX {Y : Cx} {g' : Gp} {fe : Expr → Option E} (ih : ∀ e i, fe e = some i → PE Y e (rdE g' gx W0 i)) : ∀ {es : List Expr} {is : Es}, esOf fe es = some is → PA Y es (rdX g' gx W0 is)
  | [], is, h => by
    simp only [esOf] at h
    cases h
    exact sx_nil
  | e :: r, is, h => by
    simp only [esOf] at h
    split at h
    · cases h
    · rename_i hs
      replace h := bind_some' h; obtain ⟨i, e1, h⟩ := h
      replace h := bind_some' h; obtain ⟨js, e2, h⟩ := h
      cases h
      exact sx_cons (ih _ _ e1) (hX ih e2) (noStar_of (by simpa using hs))
theorem cHE_ok (G : Good c X g g0 gx k Wx) (S : SG c X g gx) {c0 : Nat} {a dd : Addr} {oe : Obj} {pn : List (Addr × Obj)} (hk : g.kc c0 = true) (hz : Zc (.ref (g.ca c0)) (some dd) oe) (hf : ∃ vs, oe.data = .fields vs) :
    ∀ (n : Nat) (e : Expr) (i : E), cHE c n e = some i → PE (X.suite a ((a, oe) :: pn)) e (rdE (g.at a dd c0) gx W0 i)
  | 0, e, i, h => by simp [cHE] at h
  | n + 1, e, i, h => by
    simp only [cHE] at h
    split at h
    · replace h := bind_some' h; obtain ⟨m, e1, h⟩ := h
      replace h := bind_some' h; obtain ⟨kf, e2, h⟩ := h
      cases h
      obtain ⟨l1, l2, l3⟩ := G.loc e1
      obtain ⟨b4, b6, _⟩ := okName_ok l3
      obtain ⟨cn, fI, T⟩ := S.err c0 hk
      exact sn_fld (g := g.at a dd c0) T hz hf rfl (fun z => S.flds _ _ e2 c0 z) (pe_var l1 l2 b4 b6) fun f' => attr_of' rfl
    · split at h
      · rename_i hz'
        rw [Bool.and_eq_true, decide_eq_true_eq] at hz'
        cases h
        exact sn_str hz'.1 hz'.2
      · cases h
    · replace h := bind_some' h; obtain ⟨is, e1, h⟩ := h
      split at h
      · rename_i hl
        cases h
        exact sn_tup (hX (cHE_ok G S hk hz hf n) e1) hl
      · cases h
    · cases h
def cHs (c : CI) : List ExceptHandler → Option (List (List Nat × Nat × E))
  | [] => some []
  | h :: r => match h with
    | .ExceptHandler (some (.Name x _)) (some n) [.Return (some e) _] _ => if (c.glob x && decide (c.kind n = some .local)) = true then (c.hands.lookup x).bind fun cs => (c.slot n).bind fun i => (cHE c 5 e).bind fun ie => (cHs c r).bind fun hs => some ((cs, i, ie) :: hs) else none
    | _ => none
theorem cHs_ok (G : Good c X g g0 gx k Wx) (S : SG c X g gx) : ∀ {hds : List ExceptHandler} {hs : List (List Nat × Nat × E)}, cHs c hds = some hs → ∃ l, HsOk X g gx hds hs l
  | [], hs, h => by
    simp only [cHs] at h
    cases h
    exact ⟨[], .nil⟩
  | hd :: r, hs, h => by
    simp only [cHs] at h
    split at h
    · split at h
      · rename_i hz
        rw [Bool.and_eq_true, decide_eq_true_eq] at hz
        replace h := bind_some' h; obtain ⟨cs, e1, h⟩ := h
        replace h := bind_some' h; obtain ⟨m, e2, h⟩ := h
        replace h := bind_some' h; obtain ⟨ie, e3, h⟩ := h
        replace h := bind_some' h; obtain ⟨hs', e4, h⟩ := h
        cases h
        obtain ⟨l, hl⟩ := cHs_ok G S e4
        obtain ⟨Ch, m1, m2⟩ := S.hands _ _ e1
        obtain ⟨b1, b3⟩ := G.glob hz.1
        obtain ⟨b4, _, _⟩ := okName_ok b3
        exact ⟨_, .cons ⟨b1, b4, .inl m1⟩ (by rw [G.N]; exact slot_ok e2) (by show X.env.scope.names.lookup _ = _; rw [G.kindOf]; exact hz.2) m2 (fun c0 a dd oe pn hk hz hf => cHE_ok G S hk hz hf 5 _ _ e3) hl⟩
      · cases h
    · cases h
/-! ### stores -/
theorem asg1_of {tg : Expr} {env : PySem.Env} (h : starred tg = false) : (assignEach [tg] env).map (·.2) = [assign tg env] := assign_cons h
/-- a comprehension handed to a name on its line -/
theorem comp_set {fE : CI → Expr → Option E} {own : Bool} {n : Nat} {y : Str} {py spos : Pos} (G : Good c X g g0 gx k Wx) (L : LamOk c X g g0 gx k Wx) (ih : ∀ c X Wx, Good c X g g0 gx k Wx → LamOk c X g g0 gx k Wx → ∀ e i, fE c e = some i → Snd X g gx Wx e i) {elt : Expr} {gens : List Comprehension} {scope : Scope} {pos : Pos}
    (hy : X.N[n]? = some y) (hyl : X.env.scope.names.lookup y = some .local) (hsw : swapsWith (.ListComp elt gens scope pos) (some (.Name y py)) spos.line X.env = pure true) (h : cComp fE c elt gens scope = some i) : PS X (.Assign [.Name y py] (.ListComp elt gens scope pos) spos) (rdS g gx Wx (stoS own n i)) := by
  unfold cComp at h
  split at h
  · rename_i tg iter ifs a0
    split at h
    · rename_i ea
      subst ea
      replace h := bind_some' h; obtain ⟨it, e1, h⟩ := h
      replace h := bind_some' h; obtain ⟨t, e2, h⟩ := h
      split at h
      · rename_i hb
        rw [Bool.and_eq_true] at hb
        replace h := bind_some' h; obtain ⟨el, e3, h⟩ := h
        obtain ⟨p1, p2⟩ := cIt_ok G (ih c X Wx G L) e1
        have ok : BlkOk X.N X.env.scope scope (ownOf c tg) := by rw [G.N, G.sc]; exact blkOk_by hb.1
        have hsl : ∀ n ∈ t.slots, n ∈ (ownOf c tg).map (·.2) := fun n hn => by
          have := List.all_eq_true.mp hb.2 n hn
          simpa using this
        have hg : ∀ (s : Shared) (H : Hp) (C : Addr) (cl : List (Str × Addr)) (fp : List Addr), PG (X.blk s H scope (compEnvC scope cl C X.env) fp) tg (tgG X.K t) := fun s H C cl fp => cT_ok (G.blk s H C cl fp) 5 _ _ e2
        have he : ∀ (s : Shared) (H : Hp) (C : Addr) (cl : List (Str × Addr)) (fp : List Addr), Snd (X.blk s H scope (compEnvC scope cl C X.env) fp) g gx W0 elt el := fun s H C cl fp => ih _ _ _ (G.blk s H C cl fp) (fun z => by cases z) _ _ e3
        split at h
        · cases h
          exact ss_setLc G.K G.calm G.nd hy hyl hsw p1 ok hsl hg (fun s H C cl fp => (he s H C cl fp).v) fun x => folded_of p2
        · replace h := bind_some' h; obtain ⟨b, e4, h⟩ := h
          cases h
          exact ss_setLcIf G.K G.calm G.nd hy hyl hsw p1 ok hsl hg (fun s H C cl fp => (he s H C cl fp).v) (fun s H C cl fp => (ih _ _ _ (G.blk s H C cl fp) (fun z => by cases z) _ _ e4).t) fun x => folded_of p2
        · cases h
      · cases h
    · cases h
  · cases h
theorem comp_mint {fE : CI → Expr → Option E} {elt : Expr} {gens : List Comprehension} {scope : Scope} (h : cComp fE c elt gens scope = some i) : mint i = true := by
  unfold cComp at h
  split at h
  · split at h
    · replace h := bind_some' h; obtain ⟨it, e1, h⟩ := h
      replace h := bind_some' h; obtain ⟨t, e2, h⟩ := h
      split at h
      · replace h := bind_some' h; obtain ⟨el, e3, h⟩ := h
        split at h
        · cases h; rfl
        · replace h := bind_some' h; obtain ⟨b, e4, h⟩ := h
          cases h; rfl
        · cases h
      · cases h
    · cases h
  · cases h
/-- name = e -/
def cAsgN (fE : CI → Expr → Option E) (c : CI) (x : Str) (e : Expr) : Option St := (c.sto x).bind fun n => match e with
  | .ListComp elt gens scope _ => (cComp fE c elt gens scope).bind fun i => some (stoS (c.own.contains n) n i)
  | e => if isComp e = true then none else (fE c e).bind fun i => some (stoS (c.own.contains n && mint i) n i)
theorem cAsgN_ok {n0 : Nat} {py spos : Pos} (G : Good c X g g0 gx k Wx) (L : LamOk c X g g0 gx k Wx) (S : SG c X g gx) {ist : Us.St} (h : cAsgN (cE n0) c x e = some ist) : PS X (.Assign [.Name x py] e spos) (rdS g gx Wx ist) := by
  have ih := fun c X Wx G L => cE_ok n0 c X g g0 gx k Wx G L
  unfold cAsgN at h
  replace h := bind_some' h; obtain ⟨n, en, h⟩ := h
  obtain ⟨s1, s2, s3⟩ := G.sto en
  split at h
  · rename_i elt gens scope pos
    replace h := bind_some' h; obtain ⟨i, e1, h⟩ := h
    cases h
    have hsw := swap_comp (tp := py) (pos := pos) (l := spos.line) (elt := elt) (gens := gens) (x := x) (scope := scope) G.sc S.kind
    have hm := comp_mint e1
    cases hb : swapB c.sc scope x py.line pos.line with
    | true =>
      rw [hb] at hsw
      have hl : X.env.scope.names.lookup x = some .local := by
        rw [G.sc]
        unfold swapB at hb
        simp only [Bool.and_eq_true, decide_eq_true_eq] at hb
        exact hb.1.1
      exact comp_set G L ih s1 hl hsw e1
    | false =>
      rw [hb] at hsw
      exact ss_sto hm G.nd s1 s2 ((cComp_ok (pos := pos) G L ih e1).n hm) hsw s3
  · rename_i hnc
    split at h
    · cases h
    · rename_i hc
      rw [Bool.not_eq_true] at hc
      replace h := bind_some' h; obtain ⟨i, e1, h⟩ := h
      cases h
      have hS := ih c X Wx G L _ _ e1
      cases hm : mint i with
      | true => exact ss_sto hm G.nd s1 s2 (hS.n hm) (swaps_of hc) s3
      | false =>
        have e0 : stoS (c.own.contains n && false) n i = .asg (.nm n) i := by
          rw [Bool.and_false]; rfl
        rw [e0]
        exact ss_asg G.K hS.v (t := .nm n) (pg_name G.nd s1 s2 s3) (by cases e <;> first | rfl | (simp [isComp] at hc)) (sw_tg (fun _ _ _ z => by cases z) (fun _ _ z => by cases z)) (asg1_of rfl)
/-- a, b = .. -/
def isTupV : Expr → Bool
  | .Tuple .. => true
  | _ => false
def cPar2 (fE : Expr → Option E) (c : CI) (x y : Str) (px py : Pos) (a b : Expr) : Option St := if (decide (c.kind x = some .local) && decide (c.kind y = some .local) && (py.line == px.line) && !(x == y) && !starred a && !starred b && !([a, b].all (foldedForSure 8)) && !([a, b].all (constantsAlone 8))) = true then
    (c.slot x).bind fun m => (c.slot y).bind fun n => if m = n then none else (fE a).bind fun i => (fE b).bind fun j => some (.par2 m n (c.own.contains m && mint i) (c.own.contains n && mint j) i j)
  else none
def cPar3 (fE : Expr → Option E) (c : CI) (x y z : Str) (px py pz : Pos) (a b d : Expr) : Option St := if (decide (c.kind x = some .local) && decide (c.kind y = some .local) && decide (c.kind z = some .local) && (py.line == px.line) && (pz.line == px.line) && !(x == y) && !(x == z) && !(y == z) && !starred a && !starred b && !starred d && !([a, b, d].all (foldedForSure 8)) && !([a, b, d].all (constantsAlone 8))) = true then
    (c.slot x).bind fun m => (c.slot y).bind fun n => (c.slot z).bind fun o => if (m = n ∨ m = o ∨ n = o) then none else (fE a).bind fun i => (fE b).bind fun j => (fE d).bind fun l => if ((c.own.contains m && mint i) || (c.own.contains n && mint j) || (c.own.contains o && mint l)) = true then none else some (.par3 m n o false false false i j l)
  else none
def cAsgT (fE : Expr → Option E) (c : CI) (ts : List Expr) (kt : Nat) (pt : Pos) (e : Expr) : Option St := match e with
  | .Tuple vs k2 p2 => if noParB c.sc ts vs = true then (cT 5 c (.Tuple ts kt pt)).bind fun t => (fE (.Tuple vs k2 p2)).bind fun i => some (.asg t i) else (match ts, vs with
    | [.Name x px, .Name y py], [a, b] => cPar2 fE c x y px py a b
    | [.Name x px, .Name y py, .Name z pz], [a, b, d] => cPar3 fE c x y z px py pz a b d
    | _, _ => none)
  | e => (cT 5 c (.Tuple ts kt pt)).bind fun t => (fE e).bind fun i => some (.asg t i)
theorem swapT {ts : List Expr} {kt : Nat} {pt : Pos} {l : Nat} {env : PySem.Env} : swapsWithSole [.Tuple ts kt pt] e l env = pure false := by
  cases e <;> rfl
theorem cAsgT_ok {fE : Expr → Option E} {ts : List Expr} {kt : Nat} {pt spos : Pos} (G : Good c X g g0 gx k Wx) (ih : ∀ e i, fE e = some i → Snd X g gx Wx e i) (S : SG c X g gx) {ist : Us.St} (h : cAsgT fE c ts kt pt e = some ist) : PS X (.Assign [.Tuple ts kt pt] e spos) (rdS g gx Wx ist) := by
  unfold cAsgT at h
  split at h
  · split at h
    · rename_i hn
      replace h := bind_some' h; obtain ⟨t, e1, h⟩ := h
      replace h := bind_some' h; obtain ⟨i, e2, h⟩ := h
      cases h
      exact ss_asg G.K (ih _ _ e2).v (cT_ok G 5 _ _ e1) swapT (sw_none G.sc S.kind hn) (asg1_of rfl)
    · split at h
      · unfold cPar2 at h
        split at h
        · rename_i hz
          simp only [Bool.and_eq_true, Bool.not_eq_true', decide_eq_true_eq] at hz
          obtain ⟨⟨⟨⟨⟨⟨⟨z1, z2⟩, z3⟩, z4⟩, z5⟩, z6⟩, z7⟩, z8⟩ := hz
          replace h := bind_some' h; obtain ⟨m, e1, h⟩ := h
          replace h := bind_some' h; obtain ⟨n, e2, h⟩ := h
          split at h
          · cases h
          · rename_i hmn
            replace h := bind_some' h; obtain ⟨i, e3, h⟩ := h
            replace h := bind_some' h; obtain ⟨j, e4, h⟩ := h
            cases h
            refine ss_par2 G.calm G.nd (by rw [G.N]; exact slot_ok e1) (by rw [G.N]; exact slot_ok e2) hmn (by rw [G.kindOf]; exact z1) (by rw [G.kindOf]; exact z2) ?_ ?_ (fun z => ?_) (fun z => ?_) (noStar_of z5) (noStar_of z6) (sw2 G.sc S.kind z1 z2 z3 z4 z5 z6 z7 z8)
            · unfold rdO
              split
              · rename_i ho
                rw [Bool.and_eq_true] at ho
                exact (ih _ _ e3).n ho.2
              · exact (ih _ _ e3).v
            · unfold rdO
              split
              · rename_i ho
                rw [Bool.and_eq_true] at ho
                exact (ih _ _ e4).n ho.2
              · exact (ih _ _ e4).v
            · rw [Bool.and_eq_true] at z
              exact z.2
            · rw [Bool.and_eq_true] at z
              exact z.2
        · cases h
      · unfold cPar3 at h
        split at h
        · rename_i hz
          simp only [Bool.and_eq_true, Bool.not_eq_true', decide_eq_true_eq] at hz
          obtain ⟨⟨⟨⟨⟨⟨⟨⟨⟨⟨⟨⟨z1, z2⟩, z3⟩, z4⟩, z5⟩, z6⟩, z7⟩, z8⟩, z9⟩, za⟩, zb⟩, zc⟩, zd⟩ := hz
          replace h := bind_some' h; obtain ⟨m, e1, h⟩ := h
          replace h := bind_some' h; obtain ⟨n, e2, h⟩ := h
          replace h := bind_some' h; obtain ⟨o, e3, h⟩ := h
          split at h
          · cases h
          · rename_i hmn
            simp only [not_or] at hmn
            replace h := bind_some' h; obtain ⟨i, f1, h⟩ := h
            replace h := bind_some' h; obtain ⟨j, f2, h⟩ := h
            replace h := bind_some' h; obtain ⟨l, f3, h⟩ := h
            split at h
            · cases h
            · cases h
              exact ss_par3 G.calm G.nd (by rw [G.N]; exact slot_ok e1) (by rw [G.N]; exact slot_ok e2) (by rw [G.N]; exact slot_ok e3) hmn.1 hmn.2.1 hmn.2.2 (by rw [G.kindOf]; exact z1) (by rw [G.kindOf]; exact z2) (by rw [G.kindOf]; exact z3) (ih _ _ f1).v (ih _ _ f2).v (ih _ _ f3).v (noStar_of z9) (noStar_of za) (noStar_of zb)
                (sw3 G.sc S.kind z1 z2 z3 z4 z5 z6 z7 z8 z9 za zb zc zd)
        · cases h
      · cases h
  · rename_i hne
    replace h := bind_some' h; obtain ⟨t, e1, h⟩ := h
    replace h := bind_some' h; obtain ⟨i, e2, h⟩ := h
    cases h
    exact ss_asg G.K (ih _ _ e2).v (cT_ok G 5 _ _ e1) swapT (sw_else fun es k p z => hne es k p z) (asg1_of rfl)
end
/-! ### all of them -/
def stsOf (f : Stmt → Option Us.St) : List Stmt → Option (List Us.St)
  | [] => some []
  | s :: r => (f s).bind fun i => (stsOf f r).bind fun is => some (i :: is)
def cS : Nat → CI → Stmt → Option Us.St
  | 0, _, _ => none
  | n + 1, c, s => match s with
    | .Pass _ => some .pass
    | .Continue _ => some .cont
    | .Return v _ => (match v with
      | none => some .retN
      | some e => (cE n c e).bind fun i => some (.ret i))
    | .Expr e _ => if isComp e = true then none else (cE n c e).bind fun i => some (.expr i)
    | .If t a b _ => (cE n c t).bind fun i => (stsOf (cS n c) a).bind fun ia => (stsOf (cS n c) b).bind fun ib => some (.ite i ia ib)
    | .For tg iter body els _ => (match els with
      | [] => (cIt (cE n c) c tg iter).bind fun it => (cT 5 c tg).bind fun t => (stsOf (cS n c) body).bind fun ib => some (.for_ t it ib)
      | _ => none)
    | .While t body els _ => (match els with
      | [] => (cE n c t).bind fun i => (stsOf (cS n c) body).bind fun ib => some (.while_ i ib)
      | _ => none)
    | .Assign tgs e _ => (match tgs with
      | [.Name x _] => cAsgN (cE n) c x e
      | [.Tuple ts kt pt] => cAsgT (cE n c) c ts kt pt e
      | _ => none)
    | .Raise (some (.Call (.Name x _) [e] [] _)) none _ => if (c.glob x && !starred e) = true then (c.errs.lookup x).bind fun k => (cE n c e).bind fun i => some (.raise k i) else none
    | .Try body hds els fin _ => (match body, els, fin with
      | [.Return (some e) _], [], [] => (match hds with
        | [] => none
        | h :: r => (cE n { c with lamC := false } e).bind fun i => (cHs c (h :: r)).bind fun hs => some (.tri [.ret i] hs))
      | _, _, _ => none)
    | _ => none
section
variable {c : CI} {X : Cx} {g g0 : Gp} {gx : G} {k : Nat} {Wx : WX}
theorem stsOf_ok {f : Stmt → Option Us.St} (ih : ∀ s i, f s = some i → PS X s (rdS g gx Wx i)) : ∀ {ss : List Stmt} {is : List Us.St}, stsOf f ss = some is → PSs X ss (rdSs g gx Wx is)
  | [], is, h => by
    simp only [stsOf] at h
    cases h
    exact ss_nil
  | s :: r, is, h => by
    simp only [stsOf] at h
    replace h := bind_some' h; obtain ⟨i, e1, h⟩ := h
    replace h := bind_some' h; obtain ⟨js, e2, h⟩ := h
    cases h
    exact ss_cons (ih _ _ e1) (stsOf_ok ih e2)
theorem cS_ok (G : Good c X g g0 gx k Wx) (L : LamOk c X g g0 gx k Wx) (S : SG c X g gx) : ∀ (n : Nat) (s : Stmt) (i : Us.St), cS n c s = some i → PS X s (rdS g gx Wx i)
  | 0, s, i, h => by simp [cS] at h
  | n + 1, s, i, h => by
    have ihe := cE_ok n c X g g0 gx k Wx G L
    have ih := cS_ok G L S n
    simp only [cS] at h
    split at h
    · cases h; exact ss_pass
    · cases h; exact ss_cont
    · split at h
      · cases h; exact ss_retN
      · replace h := bind_some' h; obtain ⟨j, e1, h⟩ := h
        cases h
        exact ss_ret (ihe _ _ e1).v
    · split at h
      · cases h
      · rename_i hc
        rw [Bool.not_eq_true] at hc
        replace h := bind_some' h; obtain ⟨j, e1, h⟩ := h
        cases h
        exact ss_expr (ihe _ _ e1).v (swaps_of hc)
    · replace h := bind_some' h; obtain ⟨j, e1, h⟩ := h
      replace h := bind_some' h; obtain ⟨ia, e2, h⟩ := h
      replace h := bind_some' h; obtain ⟨ib, e3, h⟩ := h
      cases h
      exact ss_if (ihe _ _ e1).t (stsOf_ok ih e2) (stsOf_ok ih e3)
    · split at h
      · replace h := bind_some' h; obtain ⟨it, e1, h⟩ := h
        replace h := bind_some' h; obtain ⟨t, e2, h⟩ := h
        replace h := bind_some' h; obtain ⟨ib, e3, h⟩ := h
        cases h
        obtain ⟨p1, p2⟩ := cIt_ok G ihe e1
        exact PS.lockS (ss_for G.K S.pass G.calm p1 (cT_ok G 5 _ _ e2) (stsOf_ok ih e3) fun x => folded_of p2)
      · cases h
    · split at h
      · replace h := bind_some' h; obtain ⟨j, e1, h⟩ := h
        replace h := bind_some' h; obtain ⟨ib, e3, h⟩ := h
        cases h
        exact ss_while S.pass (ihe _ _ e1).t (stsOf_ok ih e3)
      · cases h
    · split at h
      · exact cAsgN_ok G L S h
      · exact cAsgT_ok G ihe S h
      · cases h
    · split at h
      · rename_i hz
        rw [Bool.and_eq_true, Bool.not_eq_true'] at hz
        replace h := bind_some' h; obtain ⟨kk, e1, h⟩ := h
        replace h := bind_some' h; obtain ⟨j, e2, h⟩ := h
        cases h
        obtain ⟨hk, fI, T⟩ := S.errs _ _ e1
        obtain ⟨b1, b3⟩ := G.glob hz.1
        obtain ⟨b4, _, _⟩ := okName_ok b3
        exact ss_raise hk G.calm T G.room G.takes (ihe _ _ e2).v (noStar_of hz.2) b1 b4
      · cases h
    · split at h
      · split at h
        · cases h
        · replace h := bind_some' h; obtain ⟨j, e1, h⟩ := h
          replace h := bind_some' h; obtain ⟨hs, e2, h⟩ := h
          cases h
          obtain ⟨l, hl⟩ := cHs_ok G S e2
          exact ss_try S.ea S.stk S.fr G.nd G.takes (fun W pn xe tk _ => (cE_ok n _ _ g g0 gx k W (G.tr S tk) (fun z => by cases z) _ _ e1).v) hl
      · cases h
    · cases h
end
end Us
end

section
set_option Elab.async false
set_option linter.all false
set_option maxRecDepth 100000
set_option maxHeartbeats 1000000
/-! Us.SnL: a lambda handed to a def: what its call there does. -/
namespace Us
open PySem PySem.Spec PyProof.Rows L2
/-- a slot may hold the lambda at fa, made where the slots were σ0 -/
def Gp.lamAt (g0 : Gp) (fa c' : Addr) (q : Str) (b0 : E) (env0 : Us.Env) (σ0 : L2.St) : Gp :=
  { g0 with cl := fun w b env v => v = .ref fa ∧ w.H c' = some (LamX.CodeO c' q) ∧ b = b0 ∧ env = env0 ∧ RelE g0 [] w env0 σ0
            ea := none
            clX := fun w w' b env v e h => ⟨h.1, e.co _ _ h.2.1, h.2.2.1, h.2.2.2.1, h.2.2.2.2.ext e⟩ }
theorem same_lam {g0 : Gp} {fa c' : Addr} {q : Str} {b0 : E} {env0 : Us.Env} {σ0 : L2.St} : Same g0 (g0.lamAt fa c' q b0 env0 σ0) := ⟨rfl, rfl, rfl, rfl, rfl, rfl⟩
section
variable {g g' g0 : Gp} {C0 : Pin} {am : List Addr} {st : Option (Addr × Addr)} {H H1 : Hp} {s : S} {σ : L2.St} {env : Us.Env} {w : Wd} {Wx : WX}
theorem RelS.tabs (hS : RelS g C0 am st H s) (hP : PinF C0) (e : LamX.ExtN H H1) (t : LamX.Tabs g.T H1) : RelS g C0 am st H1 s ∧ Ext (wdOf C0 am st H s) (wdOf C0 am st H1 s) := by
  have hx : Ext (wdOf C0 am st H s) (wdOf C0 am st H1 s) := by
    refine ⟨fun a u h _ => e a _ h (fun _ z => by cases z), fun a u h _ => ?_, fun a o u h => e a _ h (fun _ z => by cases z), fun a vs h => ?_, fun a fs h => e a _ h (fun _ z => by cases z), fun a h => .inl h, fun a h => ?_, .inr rfl, fun a q h => e a _ h LamX.codeO_ne⟩
    · rcases h with h | ⟨o, h⟩
      · exact .inl (e a _ h (fun _ z => by cases z))
      · exact .inr ⟨o, e a _ h (fun _ z => by cases z)⟩
    · rcases h with h | ⟨o, h⟩
      · exact .inl (e a _ h (fun _ z => by cases z))
      · exact .inr ⟨o, e a _ h (fun _ z => by cases z)⟩
    · obtain ⟨u, h1, h2⟩ := ng_get h
      exact ng_of (e a u h1 h2) h2
  refine ⟨⟨hS.len, fun a b o h => e a o (hS.c0 a b o h) (hP a b o h).2, fun n x a h1 h2 => ?_, fun n x a h1 h2 => RelD.ext hx _ _ (hS.dead n x a h1 h2), hS.apart, hS.out, fun p q h => ?_, t⟩, hx⟩
  · obtain ⟨o, h3, h4⟩ := hS.live n x a h1 h2
    exact ⟨o, e a o h3 (relC_tbl h4), h4.ext hx⟩
  · obtain ⟨q1, q2, q3⟩ := hS.stm p q h
    exact ⟨⟨q1.ne, e _ _ q1.hp (fun _ z => by cases z), e _ _ q1.hq (fun _ z => by cases z), q1.dg, q1.ct, q1.mx⟩, q2, q3⟩
/-- what a lambda keeps of the slots -/
theorem captured_rel (hg : Same g g0) (h : RelE g am w env σ) : RelE g0 [] w (captured env) σ := by
  refine ⟨by rw [h.len]; simp [captured], fun i x e => ?_⟩
  unfold captured at e
  rw [List.getElem?_map] at e
  cases e1 : env[i]? with
  | none => rw [e1] at e; cases e
  | some o =>
    rw [e1] at e
    simp only [Option.map_some, Option.some.injEq] at e
    cases o with
    | none => simp at e
    | some w' =>
      cases w' with
      | d y =>
        simp only [Option.some.injEq] at e
        subst e
        obtain ⟨v, h1, h2⟩ := h.at_ i _ e1
        exact ⟨v, h1, hg.relD _ _ h2⟩
      | _ => simp at e
theorem esc_back {w : W} {s s' : S} {x : D} (h : esc w s = .ok x s') : s'.stm = s.stm := by
  cases w with
  | d y => cases h; rfl
  | ref n =>
    simp only [esc] at h
    split at h
    · cases h; rfl
    · cases h
  | _ => cases h
/-- into the lambda's own frame and back -/
theorem lam_in {P : Prg} {cap : Int → Bool} {d : Nat} {b0 : E} {env0 : Us.Env} {σ0 σZ : L2.St} {Wz : WX} {Q : V → Hp → Prop} (hg : Same g' g0) (hS : RelS g' C0 am st H s) (hPF : PinF C0) (hE : RelE g0 [] (wdOf C0 am st H s) env0 σ0)
    (hF : Fin g' C0 am (RelW g' am) Wz σZ (wdOf C0 am st H s) (W.data ((gAt P cap (d + 1)).clo b0 env0 s)) Q) : rdE g0 (gAt P cap d) (fun cls d _ H => Wz cls d σZ H) b0 σ0 H Q := by
  have hS0 := hg.relS hS
  have hL : Lent s.cells 0 [] ([] : List W) [] [] [] [] := .nil
  have ok1 : Ok1 [] [] := .inl rfl
  obtain ⟨a1, a2⟩ := enter hS0 hPF hL ok1
  have hx := ext10 hS0 hL
  refine ⟨_, _, st, env0, ⟨s.stm, []⟩, ⟨a1, hE.ext hx, a2⟩, ?_⟩
  have out : ∀ {am2 : List Addr} {st2 : Option (Addr × Addr)} {H2 : Hp} {s2 : S}, Pre (amIn am []) am2 → RelS g0 (C1 C0 am H s [] []) am2 st2 H2 s2 → Ext (wdOf (C1 C0 am H s [] []) (amIn am []) st H ⟨s.stm, []⟩) (wdOf (C1 C0 am H s [] []) am2 st2 H2 s2) →
      RelS g0 C0 am st2 H2 ⟨s2.stm, s.cells⟩ ∧ Ext (wdOf C0 am st H s) (wdOf C0 am st2 H2 ⟨s2.stm, s.cells⟩) ∧ Ext (wdOf (C1 C0 am H s [] []) am2 st2 H2 s2) (wdOf C0 am st2 H2 ⟨s2.stm, s.cells⟩) := fun {am2 st2 H2 s2} hp hS2 hX => by
    have lv := leave hS0 hL ok1 hp hS2 hX (cells2 := s.cells) rfl (fun n b x e => .inr ⟨by simp, b, e, fun z => ⟨z, fun h => by simp at h⟩, fun z => .inl z⟩) (fun z => absurd rfl z)
    exact ⟨lv.1, lv.2.1, lv.2.2 fun n x e => by simp⟩
  have hF : Fin g' C0 am (RelW g' am) Wz σZ (wdOf C0 am st H s) (W.data (match (ev (gAt P cap d) b0 env0 ⟨s.stm, []⟩).bind esc with
      | .ok x s' => R.ok x ⟨s'.stm, s.cells⟩
      | .exc c x s' => .exc c x ⟨s'.stm, s.cells⟩
      | .bad => .bad)) Q := hF
  cases hr : ev (gAt P cap d) b0 env0 ⟨s.stm, []⟩ with
  | bad => rw [hr] at hF; exact hF.elim
  | exc c x s2 =>
    rw [hr] at hF
    intro cls dd H2 st2 h1 h2 h3
    obtain ⟨k1, k2, k3⟩ := out (.refl _) h1 h2
    have hF : ∀ cls d H' st', RelS g' C0 am st' H' ⟨s2.stm, s.cells⟩ → Ext (wdOf C0 am st H s) (wdOf C0 am st' H' ⟨s2.stm, s.cells⟩) → RelX g' (wdOf C0 am st' H' ⟨s2.stm, s.cells⟩) c x cls d → Wz cls d σZ H' := hF
    exact hF cls dd H2 st2 (hg.symm.relS k1) k2 (hg.symm.relX (h3.ext k3))
  | ok w s2 =>
    rw [hr] at hF
    intro v H2 st2 h1 h2 h3
    have hF : Fin g' C0 am (RelW g' am) Wz σZ (wdOf C0 am st H s) (W.data (match esc w s2 with
      | .ok x s' => R.ok x ⟨s'.stm, s.cells⟩
      | .exc c x s' => .exc c x ⟨s'.stm, s.cells⟩
      | .bad => .bad)) Q := hF
    cases he : esc w s2 with
    | bad => rw [he] at hF; exact hF.elim
    | exc c x s3 => exfalso; cases w <;> simp only [esc] at he <;> first | cases he | (split at he <;> cases he)
    | ok x s3 =>
      rw [he] at hF
      obtain ⟨b1, b2, b3⟩ := esc_rel h1 h3 he
      obtain ⟨k1, k2, k3⟩ := out (.refl _) b1 (h2.trans b2)
      have hF : ∀ v H' st', RelS g' C0 am st' H' ⟨s3.stm, s.cells⟩ → Ext (wdOf C0 am st H s) (wdOf C0 am st' H' ⟨s3.stm, s.cells⟩) → RelW g' am (wdOf C0 am st' H' ⟨s3.stm, s.cells⟩) (.d x) v → Q v H' := hF
      exact hF v H2 st2 (hg.symm.relS k1) k2 (hg.symm.relD _ _ (RelD.ext k3 _ _ b3))
end
/-! ### the call of the slot that holds it -/
section
variable {X : Cx} {g' g0 : Gp} {σ : L2.St} {H : Hp} {s : Shared} {pins : List (Addr × Obj)}
open LamX in
theorem act_in {P : Prg} {cap : Int → Bool} {d k : Nat} {CXg : CXT} {Eg : XK} {Ng : List Str} {qg a : Str} {sg : Scope} {fg fa c' : Addr} {cdg pm ctv : Value} {params : Arguments} {body : Expr} {scope : Scope} {i : Nat} {pn : List (Addr × Obj)} {xe : Value → Shared → Prop} {Wz : WX} {p1 p2 : Pos} {b0 : E} {env0 : Us.Env}
    (I : Inv X pins σ H s) (L : LamS X.env.scope scope) (hfa : s.heap.get? fa = some (PySem.W.kla_obj "<lambda>" (X.env.qual ++ "<lambda>") params body scope (cloFrom X.env.cells scope.names []) pm c' ctv)) (hn : H fa = none) (hfr : fa ∉ frs X.stack)
    (hbind : ∀ (q : Str) (cl : List (Str × Addr)) (pm cv ctv : Value), bindArgs (PySem.W.kla_fn "<lambda>" q params body scope cl pm cv ctv) ⟨[], []⟩ = pure [])
    (tk : Takes ((cxOf CXg X.prog X.w X.K X.mg X.base Ng qg sg fg cdg X.A X.stack s H Eg).tr pn xe) Wz) (hr : Room (k + 1) (X.A.deeper (envOfC qg sg s.heap.objs.size fg cdg))) (hsm : Same g' g0) (hcl : g'.cl = fun w b env v => v = .ref fa ∧ w.H c' = some (CodeO c' (X.env.qual ++ "<lambda>")) ∧ b = b0 ∧ env = env0 ∧ RelE g0 [] w env0 σ)
    (hbody : ∀ (A : Around) (outer : List PySem.Env) (s : Shared) (H : Hp) (E : XK), Room k (A.deeper (lamEnv X scope s.heap.objs.size fa c')) → PE (lamCx X A outer s H E scope fa c') body (rdE g0 (gAt P cap d) (fun cls d _ H => E cls d H) b0))
    (hN : Ng[i]? = some a) (hv : Vis sg a) (ha : (a == ("__debug__" : Str)) = false) (ha2 : (a == ("__classdict__" : Str)) = false) :
    PE ((cxOf CXg X.prog X.w X.K X.mg X.base Ng qg sg fg cdg X.A X.stack s H Eg).tr pn xe) (.Call (.Name a p1) [] [] p2) (rdE g' (gAt P cap (d + 1)) Wz (.callv i .nil)) := by
  constructor
  intro pz sz τ T R J wish
  obtain ⟨C0, am, st, env, t, hR, hF⟩ := wish
  simp only [ev] at hF
  have key : ∃ v, τ[i]? = some (some v) ∧ v = .ref fa ∧ T c' = some (CodeO c' (X.env.qual ++ "<lambda>")) ∧ rdE g0 (gAt P cap d) (fun cls d _ H => Wz cls d τ H) b0 σ T R := by
    cases e0 : env[i]? with
    | none => rw [e0] at hF; exact hF.elim
    | some o =>
      rw [e0] at hF
      cases o with
      | none => exact hF.elim
      | some w =>
        obtain ⟨v, h1, h2⟩ := hR.slots.at_ i w e0
        cases w with
        | d x => cases x <;> first | exact hF.elim | (simp only [Es.len] at hF; simp at hF; exact hF.elim)
        | ref n => exact hF.elim
        | exc c x => exact hF.elim
        | lam b en =>
          have h2 : g'.cl (wdOf C0 am st T t) b en v := h2
          rw [hcl] at h2
          obtain ⟨z1, z2, rfl, rfl, z3⟩ := h2
          exact ⟨v, h1, z1, z2, lam_in hsm hR.cells hR.pf z3 hF⟩
  obtain ⟨v, hv1, rfl, hco, hb⟩ := key
  have look := (pe_var (X := (cxOf CXg X.prog X.w X.K X.mg X.base Ng qg sg fg cdg X.A X.stack s H Eg).tr pn xe) (pos := p1) hN hv ha ha2).run pz sz τ T (fun u T' => u = .ref fa ∧ T' = T) J ⟨.ref fa, hv1, rfl, rfl⟩
  refine wpAny_Call_Name_kw (thn look fun u s1 z => ?_)
  obtain ⟨v, T1, J1, rv, rfl, eT⟩ := z
  rw [eT] at J1
  cases rv
  have stand : s1.heap.get? fa = some (PySem.W.kla_obj "<lambda>" (X.env.qual ++ "<lambda>") params body scope (cloFrom X.env.cells scope.names []) pm c' ctv) := J1.base.keep _ _ hfa hn hfr (by intro z; exact nomatch (show fa ∈ ([] : List Addr) from z))
  refine PySem.W.callWith_F0 ⟨_, _, _, _, stand⟩ ?_
  have apart : Un (frs X.stack) [] H T s.heap s1.heap := J1.base
  obtain ⟨⟨oc, fs, tn, o1, o2, o3⟩, _⟩ := J1.hok c' _ hco
  have go : codeAny (model X.prog X.w) (X.A.deeper (envOfC qg sg s.heap.objs.size fg cdg)) (.call (.ref fa) ⟨[], []⟩) (CR (L2.CX X.prog X.w) (envOfC qg sg s.heap.objs.size fg cdg :: X.stack) X.prog X.w T s1 R (WE Wz τ)) s1 := by
    refine PySem.W.kla_callFunE hr.depth stand rfl L.co L.gen rfl ⟨c', oc, fs, tn, rfl, o1, o2, o3⟩ ?_
    rw [hbind _ _ _ _ _]
    refine wpAny_pure (wpAny_newFunctionEnv (fun y m => (L.own y m).2) (fun y m => by cases m) (fun hh ns sb => ?_) L.kind)
    refine ⟨J1.nolimit.fresh _ sb, ?_⟩
    have old : ∀ b o, s1.heap.get? b = some o → hh.get? b = some o := fun b o q => sb.extBut b o (Nat.ne_of_lt (Heap.lt_size q)) (Heap.get?_push_of_some _ q)
    have In : Inv (lamCx X (X.A.deeper (envOfC qg sg s.heap.objs.size fg cdg)) (envOfC qg sg s.heap.objs.size fg cdg :: X.stack) s1 T (WE Wz τ) scope fa c') [] σ T { s1 with heap := hh, toks := s1.toks + ([] : List (Str × Value)).length } :=
      lam_start2 I L J1.env0 hr.hd apart ns old
    have run := (hbody (X.A.deeper (envOfC qg sg s.heap.objs.size fg cdg)) (envOfC qg sg s.heap.objs.size fg cdg :: X.stack) s1 T (WE Wz τ) (hr.deeper _)).run [] _ σ T R In hb
    refine PySem.W.kla_codeExpr (wpAny_mono run (fun u s' z => ?_) fun e s' z => z)
    obtain ⟨v, T', K', r', q'⟩ := z
    exact ⟨v, T', K'.os, K'.bare, K'.base, K'.hok, r', q'⟩
  have past := passAt tk τ
  refine wpAny_call (codeAny_mono go fun r s' z => ?_)
  match r, z with
  | .error e, z => exact past pz T s1 e s' J1 z
  | .ok (.ret u), z => exact J1.after z
  | .ok .next, z => exact z.elim
  | .ok .brk, z => exact z.elim
  | .ok .cont, z => exact z.elim
end
end Us
end

section
set_option Elab.async false
set_option linter.all false
set_option maxRecDepth 100000
set_option maxHeartbeats 1000000
/-! Us.Lvl: the program's defs, level by level. -/
namespace Us
open PySem PySem.Spec PyProof.Rows L2
/-- what a program's defs are called, for the executor -/
structure PI where
  P : Prg
  cap : Int → Bool
  defs : List (Str × Nat × List Str)
  errs : List (Str × Nat)
  hands : List (Str × List Nat)
  flds : List (Str × Nat)
abbrev PI.ci (I : PI) (N : List Str) (sc : Scope) (own : List Nat) (lam lamC : Bool) : CI := { N := N, sc := sc, defs := I.defs, errs := I.errs, own := own, hands := I.hands, flds := I.flds, lam := lam, lamC := lamC }
/-- where all that stands -/
structure Wh where
  prog : Program
  w : World
  K : PySem.W.Frag
  mg : Str → Option Value
  base : Heap
  g0 : Gp
/-- the def f, as it stands and as the executor has it -/
structure DefAt (I : PI) (Y : Wh) (f : Nat) (ps : List Str) : Prop where
  ex : ∃ (fn : Us.Fn) (N : List Str) (own : List Nat) (lam lamC : Bool) (name qual : Str) (params : Arguments) (body : List Stmt) (scope : Scope) (dV kV doc pm cdv ct oc : Value) (an od : Option Addr) (osl : Array (Option Value)),
    I.P.fn f = some fn ∧ N.length = fn.slots ∧ ps.length = fn.params ∧ Y.K.lookup (Y.g0.fa f) = some ⟨oc, od, .func (PySem.W.fnOf name qual params body scope dV kV doc pm an cdv ct), osl⟩ ∧ PySem.W.codeIn Y.K cdv qual = true ∧ FnScope N ps scope ∧ Plain (PySem.W.fnOf name qual params body scope dV kV doc pm an cdv ct) ps ∧
      stsOf (cS 60 (I.ci N scope own lam lamC)) body = some fn.body ∧
      (lamC = true → ∃ c Pt, cdv = .ref c ∧ LamX.TabB Y.base Y.mg c Pt ∧ (Pt, qual ++ ".<locals>." ++ "<lambda>") ∈ Y.g0.T ∧ ∀ p ∈ Y.g0.T, p.1 = Pt → p.2 = qual ++ ".<locals>." ++ "<lambda>")
  nd : ps.Nodup
  keep : PySem.W.keepIn Y.K (.ref (Y.g0.fa f)) = true
/-- a native def -/
structure NatAt (Y : Wh) (x : Str) (sp : Sp) : Prop where
  ex : ∃ (f : Addr) (ps : List Str) (fd : FuncData), Y.mg x = some (.ref f) ∧ FnOk Y.prog Y.w Y.K Y.mg Y.base (L2.CX Y.prog Y.w) 1 f fd ps sp ∧ Plain fd ps ∧ ps.Nodup ∧ PySem.W.keepIn Y.K (.ref f) = true
/-- the ground -/
structure Gnd (I : PI) (Y : Wh) : Prop where
  K : Y.g0.K = Y.K
  ea : Y.g0.ea = none
  cl : Y.g0.cl = fun _ _ _ _ => False
  defs : ∀ x f ps, I.defs.lookup x = some (f, ps) → Y.mg x = some (.ref (Y.g0.fa f)) ∧ DefAt I Y f ps
  ar : ∀ f fn, I.P.fn f = some fn → ∃ ps : List Str, ps.length = fn.params ∧ DefAt I Y f ps
  free : ∀ x, bnames.contains x = true → Y.mg x = none
  cap : ∀ z, I.cap z = true → z < 2 ^ 40
  draw : NatAt Y "_law_draw" spDraw
  strm : NatAt Y "_law_stream" (spStream Y.K)
  errs : ∀ x k, I.errs.lookup x = some k → Y.g0.kc k = true ∧ ∃ fI, PySem.UsErr.ErrT Y.K Y.mg x (Y.g0.fld k) (Y.g0.ca k) fI
  hands : ∀ x cs, I.hands.lookup x = some cs → ∃ Ch, Y.mg x = some (.ref Ch) ∧ ∀ c, Y.g0.kc c = true → PySem.W.exmOne Y.K (.ref (Y.g0.ca c)) (.ref Ch) = some (cs.contains c)
  flds : ∀ f k, I.flds.lookup f = some k → ∀ c0, I.P.fld c0 k = true → Y.g0.fld c0 = f
  err : ∀ k, Y.g0.kc k = true → ∃ cn fI, PySem.UsErr.ErrT Y.K Y.mg cn (Y.g0.fld k) (Y.g0.ca k) fI
def Lv (I : PI) (Y : Wh) (d : Nat) : Prop := ∀ f ps, DefAt I Y f ps → ∃ fd, FnOk Y.prog Y.w Y.K Y.mg Y.base (L2.CX Y.prog Y.w) (d + 1) (Y.g0.fa f) fd ps (spOf Y.g0 (gAt I.P I.cap d) f ps.length) ∧ Plain fd ps ∧ ∃ oc od osl, Y.K.lookup (Y.g0.fa f) = some ⟨oc, od, .func fd, osl⟩
/-- the context stands on that ground -/
structure On (Y : Wh) (X : Cx) : Prop where
  prog : X.prog = Y.prog
  w : X.w = Y.w
  K : X.K = Y.K
  mg : X.mg = Y.mg
  base : X.base = Y.base
section
variable {I : PI} {Y : Wh} {X : Cx} {g : Gp} {c : CI} {d : Nat} {Wx : WX}
theorem Lv.callee (h : Lv I Y d) (o : On Y X) {f : Nat} {ps : List Str} (D : DefAt I Y f ps) : Callee X Y.g0 (gAt I.P I.cap d) (d + 1) f ps := by
  obtain ⟨fd, h1, h2, _⟩ := h f ps D
  obtain ⟨e1, e2, e3, e4, e5⟩ := o
  exact ⟨⟨fd, by rw [e1, e2, e3, e4, e5]; exact h1, h2⟩, D.nd, by rw [e3]; exact D.keep⟩
theorem NatAt.callee {x : Str} {sp : Sp} (h : NatAt Y x sp) (o : On Y X) : ∃ f ps, X.mg x = some (.ref f) ∧ CalleeN X (d + 1) f ps sp := by
  obtain ⟨f, ps, fd, h1, h2, h3, h4, h5⟩ := h.ex
  obtain ⟨e1, e2, e3, e4, e5⟩ := o
  exact ⟨f, ps, by rw [e4]; exact h1, ⟨fd, by rw [e1, e2, e3, e4, e5]; exact h2.mono (by omega), h3⟩, h4, by rw [e3]; exact h5⟩
/-- what a context needs, from the ground -/
theorem Gnd.good (B : Gnd I Y) (h : Lv I Y d) (o : On Y X) (sc : X.env.scope = c.sc) (hN : X.N = c.N) (nd : X.N.Nodup) (sm : Same g Y.g0) (calm : X.calm = true) (room : Room (d + 1) X.A) (tk : Takes X Wx) (hd : c.defs = I.defs)
    (fn : ∀ x, (match c.fsc with | none => true | some s => decide (s.names.lookup x = some .cell)) = true → X.fn x = true)
    (lam : c.lam = true → ∀ (i : Nat) (a : Str) (p1 p2 : Pos), X.N[i]? = some a → Vis X.env.scope a → okName a = true → PE X (.Call (.Name a p1) [] [] p2) (rdE g (gAt I.P I.cap d) Wx (.callv i .nil))) : Good c X g Y.g0 (gAt I.P I.cap d) (d + 1) Wx := by
  refine ⟨sc, hN, nd, by rw [o.K, ← B.K, sm.K], sm, calm, room, tk, fun x f ps e => ?_, fun x e => by rw [o.mg]; exact B.free x e, fun f n e => ?_, fun z e => ?_, B.draw.callee o, by rw [o.K]; exact B.strm.callee o, fn, lam⟩
  · rw [hd] at e
    obtain ⟨h1, h2⟩ := B.defs x f ps e
    exact ⟨by rw [o.mg]; exact h1, h.callee o h2⟩
  · cases d with
    | zero => cases e
    | succ d =>
      have e : (I.P.fn f).map (·.params) = some n := e
      cases ef : I.P.fn f with
      | none => rw [ef] at e; cases e
      | some fn =>
        rw [ef] at e
        simp only [Option.map_some, Option.some.injEq] at e
        obtain ⟨ps, h1, h2⟩ := B.ar f fn ef
        exact ⟨ps, h1.trans e, h.callee o h2⟩
  · refine B.cap z ?_
    cases d with
    | zero => exact e
    | succ d => exact e
theorem Gnd.sg (B : Gnd I Y) (o : On Y X) (sm : Same g Y.g0) (pass : PassesOwn (model X.prog X.w) X.A X.env X.xe) (kind : c.sc.kind = .function) (ea : g.ea = none) (stk : X.stack = X.env :: X.outer) (fr : X.env.frame = some X.env.locals) (h1 : c.errs = I.errs) (h2 : c.hands = I.hands) (h3 : c.flds = I.flds)
    (lamT : c.lam = true → ∀ (pn : List (Addr × Obj)) (xe : Value → Shared → Prop) (W : WX), Takes (X.tr pn xe) W → ∀ (i : Nat) (a : Str) (p1 p2 : Pos), X.N[i]? = some a → Vis X.env.scope a → okName a = true → PE (X.tr pn xe) (.Call (.Name a p1) [] [] p2) (rdE g (gAt I.P I.cap d) W (.callv i .nil))) : SG c X g (gAt I.P I.cap d) := by
  refine ⟨pass, kind, ea, stk, fr, fun x k e => ?_, fun x cs e => ?_, fun f k e c0 e2 => ?_, fun k e => ?_, lamT⟩
  · rw [h1] at e
    rw [sm.kc, sm.fld, sm.ca, o.K, o.mg]
    exact B.errs x k e
  · rw [h2] at e
    rw [sm.kc, sm.ca, o.K, o.mg]
    exact B.hands x cs e
  · rw [h3] at e
    rw [sm.fld]
    refine B.flds f k e c0 ?_
    cases d with
    | zero => exact e2
    | succ d => exact e2
  · rw [sm.kc] at e
    rw [sm.fld, sm.ca, o.K, o.mg]
    exact B.err k e
/-- no lambda in any slot: its call is never asked -/
theorem lam_never {Z : Cx} {gx : G} {W : WX} {i : Nat} {e : Expr} (hc : g.cl = fun _ _ _ _ => False) : PE Z e (rdE g gx W (.callv i .nil)) := by
  refine ⟨fun pins s σ H Q J q => ?_⟩
  obtain ⟨C0, am, st, env, t, hR, hF⟩ := q
  exfalso
  simp only [ev] at hF
  cases e0 : env[i]? with
  | none => rw [e0] at hF; exact hF.elim
  | some o =>
    rw [e0] at hF
    cases o with
    | none => exact hF.elim
    | some w =>
      obtain ⟨v, h1, h2⟩ := hR.slots.at_ i w e0
      cases w with
      | d x => cases x <;> first | exact hF.elim | (simp only [Es.len] at hF; simp at hF; exact hF.elim)
      | ref n => exact hF.elim
      | exc c x => exact hF.elim
      | lam b en =>
        have h2 : g.cl (wdOf C0 am st H t) b en v := h2
        rw [hc] at h2
        exact h2
/-- nor at the lowest level -/
theorem lam_low {Z : Cx} {W : WX} {i : Nat} {e : Expr} {P : Prg} {cap : Int → Bool} : PE Z e (rdE g (gAt P cap 0) W (.callv i .nil)) := by
  refine ⟨fun pins s σ H Q J q => ?_⟩
  obtain ⟨C0, am, st, env, t, hR, hF⟩ := q
  exfalso
  simp only [ev] at hF
  cases e0 : env[i]? with
  | none => rw [e0] at hF; exact hF.elim
  | some o =>
    rw [e0] at hF
    cases o with
    | none => exact hF.elim
    | some w =>
      cases w with
      | d x => cases x <;> first | exact hF.elim | (simp only [Es.len] at hF; simp at hF; exact hF.elim)
      | ref n => exact hF.elim
      | exc c x => exact hF.elim
      | lam b en => exact hF.elim
end
end Us
end

section
set_option Elab.async false
set_option linter.all false
set_option maxRecDepth 100000
set_option maxHeartbeats 1000000
/-! Us.Lvl2: each def keeps its promise, at each level. -/
namespace Us
open PySem PySem.Spec PyProof.Rows L2
theorem noParams_ok {p : Arguments} (h : noParams p = true) : (∀ env, defaultsOf p env = ([], [])) ∧ ∀ (q : Str) (body : Expr) (scope : Scope) (cl : List (Str × Addr)) (pm cv ctv : Value), bindArgs (PySem.W.kla_fn "<lambda>" q p body scope cl pm cv ctv) ⟨[], []⟩ = pure [] := by
  obtain ⟨a1, a2, a3, a4, a5, a6, a7⟩ := p
  unfold noParams at h
  simp only [Bool.and_eq_true, List.isEmpty_iff, Option.isNone_iff_eq_none] at h
  obtain ⟨⟨⟨⟨⟨⟨h1, h2⟩, h3⟩, h4⟩, h5⟩, h6⟩, h7⟩ := h
  subst h1; subst h2; subst h3; subst h4; subst h5; subst h6; subst h7
  exact ⟨fun env => rfl, fun q body scope cl pm cv ctv => bind_pos (ns := []) ⟨rfl, rfl, rfl, rfl, rfl, rfl⟩ List.nodup_nil [] rfl⟩
section
variable {I : PI} {Y : Wh} {g : Gp} {c : CI} {d : Nat} {Wx : WX}
/-- a def's body, in its frame: g says what a lambda in a slot would be -/
theorem body_ok (B : Gnd I Y) (hd : Lv I Y d) {N ps : List Str} {own : List Nat} {lam lamC : Bool} {qual : Str} {scope : Scope} {fa : Addr} {cdv : Value} {body : List Stmt} {ib : List Us.St} {A : Around} {outer : List PySem.Env} {s : Shared} {H : Hp} {E : XK} (S : FnScope N ps scope) (sm : Same g Y.g0) (ea : g.ea = none)
    (hr : Room (d + 1) (A.deeper (envOfC qual scope s.heap.objs.size fa cdv))) (hc : stsOf (cS 60 (I.ci N scope own lam lamC)) body = some ib)
    (lamT : lam = true → ∀ (pn : List (Addr × Obj)) (xe : Value → Shared → Prop) (W : WX), Takes ((cxOf (L2.CX Y.prog Y.w) Y.prog Y.w Y.K Y.mg Y.base N qual scope fa cdv A outer s H E).tr pn xe) W → ∀ (i : Nat) (a : Str) (p1 p2 : Pos), N[i]? = some a → Vis scope a → okName a = true →
      PE ((cxOf (L2.CX Y.prog Y.w) Y.prog Y.w Y.K Y.mg Y.base N qual scope fa cdv A outer s H E).tr pn xe) (.Call (.Name a p1) [] [] p2) (rdE g (gAt I.P I.cap d) W (.callv i .nil)))
    (L : ∀ Wx, Good (I.ci N scope own lam lamC) (cxOf (L2.CX Y.prog Y.w) Y.prog Y.w Y.K Y.mg Y.base N qual scope fa cdv A outer s H E) g Y.g0 (gAt I.P I.cap d) (d + 1) Wx → LamOk (I.ci N scope own lam lamC) (cxOf (L2.CX Y.prog Y.w) Y.prog Y.w Y.K Y.mg Y.base N qual scope fa cdv A outer s H E) g Y.g0 (gAt I.P I.cap d) (d + 1) Wx) :
    PSs (cxOf (L2.CX Y.prog Y.w) Y.prog Y.w Y.K Y.mg Y.base N qual scope fa cdv A outer s H E) body (rdSs g (gAt I.P I.cap d) (fun cls d _ H => E cls d H) ib) := by
  have o : On Y (cxOf (L2.CX Y.prog Y.w) Y.prog Y.w Y.K Y.mg Y.base N qual scope fa cdv A outer s H E) := ⟨rfl, rfl, rfl, rfl, rfl⟩
  have tk : Takes (cxOf (L2.CX Y.prog Y.w) Y.prog Y.w Y.K Y.mg Y.base N qual scope fa cdv A outer s H E) (fun cls d _ H => E cls d H) := takes_of rfl rfl rfl rfl
  have G := B.good (c := I.ci N scope own lam lamC) (Wx := fun cls d _ H => E cls d H) (g := g) hd o rfl rfl S.nd sm rfl hr tk rfl (fun x _ => rfl) (fun hl i a p1 p2 h1 h2 h3 => lamT hl _ _ _ tk i a p1 p2 h1 h2 h3)
  have Sg := B.sg (c := I.ci N scope own lam lamC) (g := g) (d := d) o sm (passes_of rfl) S.kind ea rfl rfl rfl rfl rfl lamT
  exact stsOf_ok (cS_ok G (L _ G) Sg 60) hc
open LamX in
/-- x(lambda: b) in a def's frame -/
theorem callL_ok (B : Gnd I Y) : ∀ (d : Nat) (hlow : ∀ d', d' < d → Lv I Y d') {X : Cx} {g : Gp} {c : CI} {Wx : WX} (o : On Y X) (hcd : c.defs = I.defs) (hcode : c.lamC = true → ∃ cc Pt, X.env.code = .ref cc ∧ TabB X.base X.mg cc Pt ∧ (Pt, X.env.qual ++ "<lambda>") ∈ Y.g0.T ∧ ∀ p ∈ Y.g0.T, p.1 = Pt → p.2 = X.env.qual ++ "<lambda>")
    (hNl : c.N = X.N) (G : Good c X g Y.g0 (gAt I.P I.cap d) (d + 1) Wx), LamOk c X g Y.g0 (gAt I.P I.cap d) (d + 1) Wx := by
  intro d
  induction d with
  | zero =>
    intro hlow X g c Wx o hcd hcode hNl G hl x f a params body scope p lpos pos b hg hx hnp hsc ihb
    obtain ⟨cc, Pt, k1, TB, k2, k3⟩ := hcode hl
    obtain ⟨b1, b3⟩ := G.glob hg
    obtain ⟨b4, _, _⟩ := okName_ok b3
    constructor
    intro pins s σ H Q J q
    obtain ⟨C0, am, st, env, t, hR, hF⟩ := q
    simp only [ev] at hF
    exact hF.elim
  | succ d1 rec =>
  intro hlow X g c Wx o hcd hcode hNl G hl x f a params body scope p lpos pos b hg hx hnp hsc ihb
  obtain ⟨cc, Pt, k1, TB, k2, k3⟩ := hcode hl
  obtain ⟨b1, b3⟩ := G.glob hg
  obtain ⟨b4, _, _⟩ := okName_ok b3
  have L : LamS X.env.scope scope := by rw [G.sc]; exact lamS_by hsc
  obtain ⟨np1, np2⟩ := noParams_ok hnp
  have hx' : I.defs.lookup x = some (f, [a]) := by rw [← hcd]; exact hx
  obtain ⟨hm, Df⟩ := B.defs x f [a] hx'
  have hT : ∀ {T : List (Addr × Str)}, g.T = T → Y.g0.T = T := fun {T} e => by rw [← e, G.same.T]
  constructor
  intro pins s σ H Q J q
  obtain ⟨C0, am, st, env, t, hR, hF⟩ := q
  simp only [ev] at hF
  · obtain ⟨fn, N, own, lam, lamC, name, qual, pa, bd, sc, dV, kV, doc, pm, cdv, ct, oc, an, od, osl, d1e, d2e, d3e, d4e, d5e, S, Pl, d6e, d7e⟩ := Df.ex
    have ecall : (gAt I.P I.cap (d1 + 1)).call f [.lam b (captured env)] t = fn.run (gAt I.P I.cap d1) [.lam b (captured env)] t := by
      show (match I.P.fn f with | some fn => fn.run (gAt I.P I.cap d1) _ t | none => .bad) = _
      rw [d1e]
    rw [ecall] at hF
    refine wpAny_Call_Name_kw (ld_glob J b1 (by rw [o.mg]; exact hm) ?_ b4)
    refine PySem.W.callWith_K (h₀ := X.base) J.ok.mod.kin (by rw [o.K]; exact Df.keep) ?_ (by rfl) (by rfl)
    show wpAny _ _ (spliced ((false, eval (.Lambda params body scope lpos) X.env) :: backTo pos (starEach [] X.env))) _ _ s
    have hTabs : Tabs Y.g0.T H := by rw [← G.same.T]; exact hR.cells.tb
    refine Calls.spliced_cons (lam_make2 J TB k1 k2 k3 hTabs (np1 _) (L.has J.ok) fun fa c' pm' ctv H1 s1 J1 eN T1 hfa hfn hfr hco => ?_)
    refine Calls.spliced_nil ⟨J1.kIn, ?_⟩
    -- the caller's state behind the making
    obtain ⟨R1, X1⟩ := hR.cells.tabs hR.pf eN (by rw [G.same.T]; exact T1)
    have sm2 : Same g (Y.g0.lamAt fa c' (X.env.qual ++ "<lambda>") b (captured env) σ) := by
      have h1 := G.same
      have h2 := same_lam (g0 := Y.g0) (fa := fa) (c' := c') (q := X.env.qual ++ "<lambda>") (b0 := b) (env0 := captured env) (σ0 := σ)
      exact ⟨h1.K.trans h2.K, h1.fa.trans h2.fa, h1.fld.trans h2.fld, h1.ca.trans h2.ca, h1.kc.trans h2.kc, h1.T.trans h2.T⟩
    have hcap := (captured_rel G.same hR.slots).ext X1
    have hF1 := sm2.finD (Fin.data (r := fn.run (gAt I.P I.cap d1) [.lam b (captured env)] t) (hF.ext X1))
    have hW : RelVs (Y.g0.lamAt fa c' (X.env.qual ++ "<lambda>") b (captured env) σ) am (wdOf C0 am st H1 t) [.lam b (captured env)] [.ref fa] := ⟨.ref fa, [], rfl, ⟨rfl, hco, rfl, rfl, hcap⟩, rfl⟩
    have wish := run_in (N := N) (Q := Q) (E := WE Wx σ) (sm2.relS R1) hR.pf hW d2e hF1
    have low1 := hlow d1 (Nat.lt_succ_self d1)
    have go : codeAny (model X.prog X.w) X.A (.call (.ref (Y.g0.fa f)) ⟨[.ref fa], []⟩) (CR (L2.CX X.prog X.w) X.stack X.prog X.w H1 s1 Q (WE Wx σ)) s1 := by
      obtain ⟨e1, e2, e3, e4, e5⟩ := o
      refine run_ofS (N := N) (ps := [a]) (us := [.ref fa]) (vs := [.ref fa]) (by rw [e3]; exact d4e) (by rw [e3]; exact d5e) S G.room J1.env0 (.of_eq (bind_pos Pl Df.nd [.ref fa] rfl)) (.cons rfl .nil) rfl fun hr' => ?_
      refine ⟨_, ?_, wish⟩
      rw [e1, e2, e3, e4, e5]
      refine body_ok B low1 S same_lam.symm rfl hr' d6e (fun _ pn xe W tk i a p1 p2 h1 h2 h3 => ?_) fun Wy Gy => ?_
      · cases d1 with
        | zero => exact lam_low
        | succ d2 =>
          obtain ⟨o4, o6, _⟩ := okName_ok h3
          have low2 := hlow d2 (by omega)
          rw [← e1, ← e2, ← e3, ← e4, ← e5] at tk ⊢
          refine act_in (k := d2 + 1) J1 L hfa hfn hfr (fun q cl pm cv ctv => np2 q body scope cl pm cv ctv) tk hr' same_lam.symm rfl (fun A outer s H E hr2 => ?_) h1 h2 o4 o6
          refine ihb _ _ _ (d2 + 1) _ ?_
          refine B.good low2 ⟨e1, e2, e3, e4, e5⟩ rfl hNl.symm G.nd ⟨rfl, rfl, rfl, rfl, rfl, rfl⟩ rfl hr2 (takes_of rfl rfl rfl rfl) hcd (fun y hy => ?_) (fun z => by cases z)
          have hy : decide (scope.names.lookup y = some .cell) = true := hy
          rw [decide_eq_true_eq] at hy
          exact absurd rfl (L.own _ (PySem.mem_of_lookup hy)).2
      · exact rec (fun d' h => hlow d' (by omega)) ⟨rfl, rfl, rfl, rfl, rfl⟩ rfl (fun z => d7e z) rfl Gy
    have past := passAt G.takes σ
    refine wpAny_call (codeAny_mono go fun r s2 z => ?_)
    match r, z with
    | .error e, z => exact past pins H1 s1 e s2 J1 z
    | .ok (.ret u), z => exact J1.after z
    | .ok .next, z => exact z.elim
    | .ok .brk, z => exact z.elim
    | .ok .cont, z => exact z.elim
end
end Us
end

section
set_option Elab.async false
set_option linter.all false
set_option maxRecDepth 100000
set_option maxHeartbeats 1000000
/-! Us.Lvl3: all levels. -/
namespace Us
open PySem PySem.Spec PyProof.Rows L2
theorem lv_all {I : PI} {Y : Wh} (B : Gnd I Y) : ∀ d, Lv I Y d := by
  intro d
  induction d using Nat.strongRecOn with
  | ind d rec =>
    intro f ps D
    obtain ⟨fn, N, own, lam, lamC, name, qual, pa, bd, sc, dV, kV, doc, pm, cdv, ct, oc, an, od, osl, d1e, d2e, d3e, d4e, d5e, S, Pl, d6e, d7e⟩ := D.ex
    refine ⟨_, ?_, Pl, oc, od, osl, d4e⟩
    cases d with
    | zero =>
      refine ⟨spOf_len, fun A outer s H args us vs Q E hr e0 hb r hsp => ?_⟩
      obtain ⟨C0, am, st, ws, t, _, _, _, _, hF⟩ := hsp
      exact hF.elim
    | succ d =>
      refine fn_of (N := N) d4e d5e S spOf_len fun A outer s H vs Q E hr hsp => ?_
      refine ⟨_, body_ok (g := Y.g0) B (rec d (Nat.lt_succ_self d)) S ⟨rfl, rfl, rfl, rfl, rfl, rfl⟩ B.ea hr d6e (fun _ pn xe W tk i a p1 p2 h1 h2 h3 => lam_never B.cl) (fun Wx Gx => ?_), fn_in d1e d2e hsp⟩
      exact callL_ok B d (fun d' h => rec d' (by omega)) ⟨rfl, rfl, rfl, rfl, rfl⟩ rfl (fun z => d7e z) rfl Gx
end Us
end

section
set_option Elab.async false
set_option linter.all false
set_option maxRecDepth 100000
set_option maxHeartbeats 1000000
/-! Us.Nat: the two defs that are taken as they are. -/
namespace Us
open PySem PySem.Spec PyProof.Rows L2
theorem plain_fun {K : PySem.W.Frag} {x qual : Str} {params : Arguments} {body : List Stmt} {scope : Scope} {f : Addr} {fd : FuncData} {ps : List Str} (F : FunD K x qual params body scope [] [] f fd) (h1 : params.posonlyargs = []) (h2 : params.args.map (·.arg) = ps) (h3 : params.vararg = none) (h4 : params.kwonlyargs = []) (h5 : params.kwarg = none) : Plain fd ps := by
  obtain ⟨oc, od, dV, kV, doc, pm, an, cdv, ct, osl, rfl, lk, hcd, hD, hK⟩ := F.ex
  rcases hD with ⟨_, rfl⟩ | ⟨e, _⟩
  · exact ⟨h1, h2, h3, h4, h5, rfl⟩
  · exact absurd rfl e
section
variable {P : Program} {w : World} {K : PySem.W.Frag} {mg : Str → Option Value} {base : Heap} {f : Addr} {fd : FuncData} {pa : Arguments} {body : List Stmt} {sc : Scope}
theorem nat_draw {p : Nat → Pos} (F : FunD K "_law_draw" "_law_draw" pa body sc [] [] f fd) (S : FnScope drawN ["stream", "many"] sc) (hb : body = drawB p) (hline : ((p 25).endLine == (p 27).line) = true) (hl : ∀ x ∈ drawN, sc.names.lookup x = some .local) (h1 : sc.names.lookup ("abs" : Str) = some .globalImplicit)
    (h2 : sc.names.lookup ("int" : Str) = some .globalImplicit) (m1 : mg "abs" = none) (m2 : mg "int" = none) : FnOk P w K mg base (L2.CX P w) 1 f fd ["stream", "many"] spDraw := by
  refine F.ok (N := drawN) S spDraw_len fun cdv A outer s H vs Q E hr hsp => ?_
  rw [hb]
  refine ⟨_, pss_draw (X := cxOf (L2.CX P w) P w K mg base drawN "_law_draw" sc f cdv A outer s H E) rfl hl h1 h2 m1 m2 (passes_of rfl) hr.units hline, ?_⟩
  obtain ⟨a, q, many, t, rfl, k1, k2, k3, k4⟩ := hsp
  exact draw_at (σ := L2.start drawN [.ref a, .int many]) (p := a) (q := q) ⟨rfl, rfl, rfl⟩ k1 k2 k3 k4
theorem nat_stream {p : Nat → Pos} (F : FunD K "_law_stream" "_law_stream" pa body sc [] [] f fd) (S : FnScope streamN ["script"] sc) (hb : body = streamB p) (hl : sc.names.lookup ("script" : Str) = some .local) (h1 : sc.names.lookup ("list" : Str) = some .globalImplicit) (m1 : mg "list" = none) :
    FnOk P w K mg base (L2.CX P w) 1 f fd ["script"] (spStream K) := by
  refine F.ok (N := streamN) S spStream_len fun cdv A outer s H vs Q E hr hsp => ?_
  rw [hb]
  exact pss_stream (X := cxOf (L2.CX P w) P w K mg base streamN "_law_stream" sc f cdv A outer s H E) rfl hl h1 m1 (D := { nx := fun _ H' => Q .non H', rt := Q }) hsp
end
end Us
end

section
set_option Elab.async false
set_option linter.all false
set_option maxRecDepth 100000
set_option maxHeartbeats 1000000
/-! Us.Hd: what must be looked at of a row's text and of the heap behind its top. -/
namespace Us
open PySem PySem.Spec PyProof.Rows L2
/-- a def of the row and what the executor has of it -/
structure Ent where
  id : Nat
  x : Str
  ps : List Str
  N : List Str
  own : List Nat
  lam : Bool
  lamC : Bool
  fn : Us.Fn
  st : Stmt
/-- a class of errors -/
structure CEnt where
  id : Nat
  x : Str
  f : Str
  st : Stmt
def initOf (s : Stmt) : Stmt := match s with
  | .ClassDef _ _ _ (b :: _) _ _ _ _ _ _ _ => b
  | s => s
/-- a row's text, for the executor -/
structure RowI where
  es : List Ent
  cs : List CEnt
  hands : List (Str × List Nat)
  flds : List (Str × Nat)
  cap : Int → Bool
  dst : Stmt
  sst : Stmt
def RowI.fn (r : RowI) (n : Nat) : Option Us.Fn := (r.es.find? fun e => e.id == n).map (·.fn)
def RowI.fld (r : RowI) (c k : Nat) : Bool := r.cs.any fun e => e.id == c && decide (r.flds.lookup e.f = some k)
def RowI.P (r : RowI) : Prg := ⟨r.fn, r.fld⟩
def RowI.I (r : RowI) : PI := { P := r.P, cap := r.cap, defs := r.es.map fun e => (e.x, e.id, e.ps), errs := r.cs.map fun e => (e.x, e.id), hands := r.hands, flds := r.flds }
def nodN : List Nat → Bool
  | [] => true
  | a :: r => !r.contains a && nodN r
def scB (N ps : List Str) (sc : Scope) : Bool := decide (sc.kind = .function) && !sc.isCoroutine && !sc.isGenerator && nodupB N && decide (N.take ps.length = ps) && (ps.all fun x => decide (sc.names.lookup x = some .local) || decide (sc.names.lookup x = some .cell)) && (sc.names.all fun y => !decide (y.2 = .free))
theorem scB_ok {N ps : List Str} {sc : Scope} (h : scB N ps sc = true) : FnScope N ps sc := by
  unfold scB at h
  simp only [Bool.and_eq_true, decide_eq_true_eq, Bool.not_eq_true', List.all_eq_true, Bool.or_eq_true, decide_eq_false_iff_not] at h
  obtain ⟨⟨⟨⟨⟨⟨h1, h2⟩, h3⟩, h4⟩, h5⟩, h6⟩, h7⟩ := h
  exact ⟨h1, h2, h3, nodup_of h4, h5, h6, h7⟩
def paB (a : Arguments) (ps : List Str) : Bool := a.posonlyargs.isEmpty && decide (a.args.map (·.arg) = ps) && a.vararg.isNone && a.kwonlyargs.isEmpty && a.kwarg.isNone
theorem paB_ok {a : Arguments} {ps : List Str} (h : paB a ps = true) : a.posonlyargs = [] ∧ a.args.map (·.arg) = ps ∧ a.vararg = none ∧ a.kwonlyargs = [] ∧ a.kwarg = none := by
  unfold paB at h
  simp only [Bool.and_eq_true, List.isEmpty_iff, decide_eq_true_eq, Option.isNone_iff_eq_none] at h
  exact ⟨h.1.1.1.1, h.1.1.1.2, h.1.1.2, h.1.2, h.2⟩
def entB (e : Ent) : Bool := decide (e.N.length = e.fn.slots) && decide (e.ps.length = e.fn.params) && scB e.N e.ps (defScope e.st) && paB (defArgs e.st) e.ps && nodupB e.ps
def natB (st : Stmt) (N ps : List Str) : Bool := scB N ps (defScope st) && paB (defArgs st) ps && nodupB ps && N.all fun x => decide ((defScope st).names.lookup x = some .local)
/-- what is looked at of the text -/
structure TextOk (r : RowI) (tf : List He.Defn) : Prop where
  comp : r.es.map (fun e => stsOf (cS 60 (r.I.ci e.N (defScope e.st) e.own e.lam e.lamC)) (defBody e.st)) = r.es.map fun e => some e.fn.body
  ents : r.es.all entB = true
  ids : nodN (r.es.map (·.id)) = true
  cids : nodN (r.cs.map (·.id)) = true
  fids : nodN (r.flds.map (·.2)) = true
  tabs : (r.es.all fun e => !e.lamC || tf.contains (e.x, none)) = true
  inits : ∀ e ∈ r.cs, ∃ p1 p2 q1 q2 q3 q4 : Pos, defArgs (initOf e.st) = PySem.UsErr.iA e.f p1 p2 ∧ defBody (initOf e.st) = PySem.UsErr.iB e.f q1 q2 q3 q4 ∧ defScope (initOf e.st) = PySem.UsErr.iS e.f
  cf : (r.cs.all fun e => !(e.f == ("self" : Str)) && !(e.f == ("__debug__" : Str))) = true
  draw : natB r.dst drawN ["stream", "many"] = true
  drawS : (decide ((defScope r.dst).names.lookup ("abs" : Str) = some .globalImplicit) && decide ((defScope r.dst).names.lookup ("int" : Str) = some .globalImplicit)) = true
  drawT : ∃ p : Nat → Pos, defBody r.dst = drawB p ∧ ((p 25).endLine == (p 27).line) = true
  strm : natB r.sst streamN ["script"] = true
  strmS : decide ((defScope r.sst).names.lookup ("list" : Str) = some .globalImplicit) = true
  strmT : ∃ p : Nat → Pos, defBody r.sst = streamB p
/-! ### the heap -/
def clsB (K : PySem.W.Frag) (C : Addr) : Bool := match K.lookup C with
  | some ⟨.type t, _, .cls cd, sl⟩ => t == "type" && (match cd.mro, sl.toList with
    | .ref C' :: bm, [_, _, _, _, some (.builtin n), _] => C' == C && n == "ValueError.__new__" && !cd.hasDel && cd.hasDict && PySem.HandSPX.refsVE bm
    | _, _ => false)
  | _ => false
open PySem.W in
theorem clsB_ok {K : PySem.W.Frag} {C : Addr} (h : clsB K C = true) : ∃ nm q N bs bm sn sub ab col dd k0 k1 k2 k3 k5, K.lookup C = some (PySem.excClassObj nm q C N bs bm true sn sub ab col dd k0 k1 k2 k3 k5 "ValueError.__new__") ∧ PySem.HandSPX.refsVE bm = true := by
  unfold clsB at h
  split at h
  · rename_i t dd cd sl ho
    rw [Bool.and_eq_true] at h
    obtain ⟨h0, h⟩ := h
    split at h
    · rename_i C' bm k0 k1 k2 k3 n k5 hm hs
      simp only [Bool.and_eq_true, beq_iff_eq, Bool.not_eq_true'] at h h0
      obtain ⟨⟨⟨⟨e1, e2⟩, hdel⟩, hdict⟩, hbm⟩ := h
      subst e1; subst e2; subst h0
      obtain ⟨nm, bs, mro, ns, qn, hd, sn, sub, ab, col, del⟩ := cd
      dsimp only at hm hdel hdict
      subst hm; subst hdel; subst hdict
      have hsl : sl = #[k0, k1, k2, k3, some (.builtin "ValueError.__new__"), k5] := by
        obtain ⟨l⟩ := sl
        simp only at hs
        rw [hs]
      subst hsl
      exact ⟨nm, qn, ns, bs, bm, sn, sub, ab, col, dd, k0, k1, k2, k3, k5, ho, hbm⟩
    · cases h
  · cases h
def fnNone (K : PySem.W.Frag) (f : Addr) : Bool := match K.lookup f with
  | some ⟨_, _, .func fd, _⟩ => (match fd.kwdefaults with | .none => true | _ => false)
  | _ => false
def errB (K : PySem.W.Frag) (e : CEnt) : Bool := clsB K (He.ga K e.x) && He.eqO (PySem.W.findIn K (.ref (He.ga K e.x)) "__setattr__") (some (some (.builtin "object.__setattr__"))) && He.eqO (PySem.W.findIn K (.ref (He.ga K e.x)) "__getattribute__") (some (some (.builtin "BaseException.__getattribute__")))
  && He.eqO (PySem.W.findIn K (.ref (He.ga K e.x)) "__getattr__") (some none) && He.eqO (PySem.W.findIn K (.ref (He.ga K e.x)) e.f) (some none) && He.eqO (PySem.W.findIn K (.ref (He.ga K e.x)) "__init__") (some (some (.ref (He.ma K (He.ga K e.x) "__init__"))))
  && decide (PySem.W.typeIn K (.ref (He.ma K (He.ga K e.x) "__init__")) = some (.type "function")) && PySem.W.keepIn K (.ref (He.ga K e.x)) && decide (PySem.W.subIn K (.ref (He.ga K e.x)) (.type "BaseException") = some true) && decide (PySem.W.typeIn K (.ref (He.ga K e.x)) = some (.type "type"))
  && PySem.W.hasDictIn K (He.ga K e.x) && decide (PySem.W.exmOne K (.ref (He.ga K e.x)) (.ref (He.ga K e.x)) = some true) && fnNone K (He.ma K (He.ga K e.x) "__init__")
def handB (K : PySem.W.Frag) (cs : List CEnt) (h : Str × List Nat) : Bool := cs.all fun e => decide (PySem.W.exmOne K (.ref (He.ga K e.x)) (.ref (He.ga K h.1)) = some (h.2.contains e.id))
/-- what is looked at of the heap, beside -/
def exB (r : RowI) (tf : List He.Defn) (K : PySem.W.Frag) : Bool := r.cs.all (errB K) && r.hands.all (handB K r.cs) && nodN (tf.map fun p => (He.cT K p).2)
def RowI.fa (r : RowI) : List He.Fa := r.es.map (fun e => .glo e.x) ++ r.cs.map (fun e => .glo e.x) ++ r.hands.map (fun h => .glo h.1) ++ [.glo "_law_draw", .glo "_law_stream"] ++ bnames.map .free
def RowI.dfs (r : RowI) : List He.DefD := r.es.map (fun e => ⟨(e.x, none), e.x, e.x, defArgs e.st, defBody e.st, defScope e.st, [], []⟩) ++ r.cs.map (fun e => ⟨(e.x, some "__init__"), "__init__", e.x ++ ".__init__", defArgs (initOf e.st), defBody (initOf e.st), defScope (initOf e.st), [], []⟩) ++
  [⟨("_law_draw", none), "_law_draw", "_law_draw", defArgs r.dst, defBody r.dst, defScope r.dst, [], []⟩, ⟨("_law_stream", none), "_law_stream", "_law_stream", defArgs r.sst, defBody r.sst, defScope r.sst, [], []⟩]
/-- names of defs, classes -/
def RowI.nameOf (r : RowI) (n : Nat) : Str := ((r.es.find? fun e => e.id == n).map (·.x)).getD ""
def RowI.clsOf (r : RowI) (n : Nat) : Option CEnt := r.cs.find? fun e => e.id == n
def RowI.g0 (r : RowI) (tf : List He.Defn) (K : PySem.W.Frag) : Gp where
  K := K
  fa := fun n => He.ga K (r.nameOf n)
  fld := fun c => ((r.clsOf c).map (·.f)).getD ""
  ca := fun c => He.ga K (((r.clsOf c).map (·.x)).getD "")
  kc := fun c => (r.clsOf c).isSome
  T := tf.map fun p => ((He.cT K p).2, p.1 ++ ".<locals>." ++ "<lambda>")
  ea := none
  cl := fun _ _ _ _ => False
  clX := fun _ _ _ _ _ _ h => h
theorem find_id {α : Type} {l : List α} {f : α → Nat} (hn : nodN (l.map f) = true) {e : α} (he : e ∈ l) : l.find? (fun z => f z == f e) = some e := by
  induction l with
  | nil => cases he
  | cons a r ih =>
    simp only [List.map_cons, nodN, Bool.and_eq_true, Bool.not_eq_true'] at hn
    rw [List.find?_cons]
    rcases List.mem_cons.mp he with rfl | he
    · simp
    · have : (f a == f e) = false := by
        have h1 := hn.1
        rw [List.contains_eq_mem, decide_eq_false_iff_not] at h1
        have : f a ≠ f e := fun z => h1 (z ▸ List.mem_map.mpr ⟨e, he, rfl⟩)
        simpa using this
      rw [this]
      exact ih hn.2 he
theorem lookup_mem' {β : Type} {x : Str} {b : β} : ∀ {l : List (Str × β)}, l.lookup x = some b → (x, b) ∈ l
  | [], h => by cases h
  | (y, c) :: r, h => by
    rw [List.lookup_cons] at h
    split at h
    · rename_i e
      cases h
      rw [beq_iff_eq.mp e]
      exact List.mem_cons_self
    · exact List.mem_cons_of_mem _ (lookup_mem' h)
end Us
end

section
set_option Elab.async false
set_option linter.all false
set_option maxRecDepth 100000
set_option maxHeartbeats 1000000
/-! Us.Hd2: the ground, from what was looked at. -/
namespace Us
open PySem PySem.Spec PyProof.Rows L2
section
variable {prog : Program} {w : World} {K : PySem.W.Frag} {mg : Str → Option Value} {base h : Heap} {r : RowI} {tf : List He.Defn}
theorem RowI.fn_of (T : TextOk r tf) {e : Ent} (he : e ∈ r.es) : r.I.P.fn e.id = some e.fn := by
  show (r.es.find? fun z => z.id == e.id).map (·.fn) = _
  rw [find_id (f := fun z : Ent => z.id) T.ids he]
  rfl
theorem RowI.of_fn {n : Nat} {fn : Us.Fn} (h : r.I.P.fn n = some fn) : ∃ e ∈ r.es, e.id = n ∧ e.fn = fn := by
  have h : (r.es.find? fun z => z.id == n).map (·.fn) = some fn := h
  cases e1 : r.es.find? fun z => z.id == n with
  | none => rw [e1] at h; cases h
  | some e =>
    rw [e1] at h
    exact ⟨e, List.mem_of_find?_eq_some e1, by simpa using List.find?_some e1, by simpa using h⟩
theorem RowI.fa_of (T : TextOk r tf) {e : Ent} (he : e ∈ r.es) : (r.g0 tf K).fa e.id = He.ga K e.x := by
  show He.ga K (((r.es.find? fun z => z.id == e.id).map (·.x)).getD ("" : Str)) = _
  rw [find_id (f := fun z : Ent => z.id) T.ids he]
  rfl
theorem RowI.cls_of (T : TextOk r tf) {e : CEnt} (he : e ∈ r.cs) : r.clsOf e.id = some e := find_id (f := fun z : CEnt => z.id) T.cids he
theorem all_map {α β : Type} {l : List α} {f g : α → β} (h : l.map f = l.map g) {a : α} (ha : a ∈ l) : f a = g a := by
  induction l with
  | nil => cases ha
  | cons b l ih =>
    rw [List.map_cons, List.map_cons] at h
    obtain ⟨h1, h2⟩ := List.cons.inj h
    rcases List.mem_cons.mp ha with rfl | ha
    · exact h1
    · exact ih h2 ha
theorem RowI.defAt (T : TextOk r tf) (c : He.SaysX r.fa r.dfs [] tf (exB r tf) w h K) (TB : ∀ p ∈ tf, LamX.TabB base mg (He.cT K p).1 (He.cT K p).2) {e : Ent} (he : e ∈ r.es) : DefAt r.I ⟨prog, w, K, mg, base, r.g0 tf K⟩ e.id e.ps := by
  obtain ⟨fd, F⟩ := c.t.d.defs (d := ⟨(e.x, none), e.x, e.x, defArgs e.st, defBody e.st, defScope e.st, [], []⟩) (List.mem_append_left _ (List.mem_append_left _ (List.mem_map.mpr ⟨e, he, rfl⟩)))
  have hB := List.all_eq_true.mp T.ents e he
  unfold entB at hB
  simp only [Bool.and_eq_true, decide_eq_true_eq] at hB
  obtain ⟨⟨⟨⟨b1, b2⟩, b3⟩, b4⟩, b5⟩ := hB
  obtain ⟨p1, p2, p3, p4, p5⟩ := paB_ok b4
  have pl := plain_fun F p1 p2 p3 p4 p5
  have kp := F.kp
  obtain ⟨oc, od, dV, kV, doc, pm, an, cdv, ct, osl, rfl, lk, hcd, hD, hK⟩ := F.ex
  have ea : (r.g0 tf K).fa e.id = He.ga K e.x := RowI.fa_of T he
  refine ⟨⟨e.fn, e.N, e.own, e.lam, e.lamC, e.x, e.x, defArgs e.st, defBody e.st, defScope e.st, dV, kV, doc, pm, cdv, ct, oc, an, od, osl, RowI.fn_of T he, b1, b2, ?_, hcd, scB_ok b3, pl, all_map T.comp he, fun hl => ?_⟩, nodup_of b5, ?_⟩
  · show K.lookup ((r.g0 tf K).fa e.id) = _
    rw [ea]
    exact lk
  · have ht := List.all_eq_true.mp T.tabs e he
    rw [hl] at ht
    have ht : (e.x, none) ∈ tf := by simpa using ht
    obtain ⟨cc, ec⟩ := He.codeIn_ref hcd
    have e1 : (He.cT K (e.x, none)).1 = cc := He.codeOf_eq (p := (e.x, none)) lk ec
    refine ⟨cc, (He.cT K (e.x, none)).2, ec, ?_, List.mem_map.mpr ⟨_, ht, rfl⟩, fun p hp e2 => ?_⟩
    · rw [← e1]
      exact TB _ ht
    · obtain ⟨q, hq, rfl⟩ := List.mem_map.mp hp
      have hn : nodN (tf.map fun p => (He.cT K p).2) = true := by
        have := c.more
        unfold exB at this
        simp only [Bool.and_eq_true] at this
        exact this.2
      have f1 := find_id (f := fun p => (He.cT K p).2) hn hq
      have f2 := find_id (f := fun p => (He.cT K p).2) hn ht
      have e2 : (He.cT K q).2 = (He.cT K (e.x, none)).2 := e2
      rw [e2, f2] at f1
      have : (e.x, none) = q := Option.some.inj f1
      rw [← this]
  · show PySem.W.keepIn K (.ref ((r.g0 tf K).fa e.id)) = true
    rw [ea]
    exact kp
theorem RowI.errT (T : TextOk r tf) (c : He.SaysX r.fa r.dfs [] tf (exB r tf) w h K) (X : K.In base) (G : base.Ns mainGlobals mg) {e : CEnt} (he : e ∈ r.cs) : PySem.UsErr.ErrT K mg e.x e.f (He.ga K e.x) (He.ma K (He.ga K e.x) "__init__") := by
  obtain ⟨fd, F⟩ := c.t.d.defs (d := ⟨(e.x, some "__init__"), "__init__", e.x ++ ".__init__", defArgs (initOf e.st), defBody (initOf e.st), defScope (initOf e.st), [], []⟩) (List.mem_append_left _ (List.mem_append_right _ (List.mem_map.mpr ⟨e, he, rfl⟩)))
  have hm := c.more
  unfold exB at hm
  simp only [Bool.and_eq_true] at hm
  have hE := List.all_eq_true.mp hm.1.1 e he
  unfold errB at hE
  simp only [Bool.and_eq_true, decide_eq_true_eq] at hE
  obtain ⟨⟨⟨⟨⟨⟨⟨⟨⟨⟨⟨⟨k1, k2⟩, k3⟩, k4⟩, k5⟩, k6⟩, k7⟩, k8⟩, k9⟩, k10⟩, k11⟩, k12⟩, k13⟩ := hE
  have hf := List.all_eq_true.mp T.cf e he
  simp only [Bool.and_eq_true, Bool.not_eq_true'] at hf
  obtain ⟨p1, p2, q1, q2, q3, q4, i1, i2, i3⟩ := T.inits e he
  have gl := He.glo_ok X G (c.t.d.facts (f := .glo e.x) (by
    unfold RowI.fa
    simp only [List.mem_append, List.mem_map]
    exact .inl (.inl (.inl (.inr ⟨e, he, rfl⟩)))))
  obtain ⟨oc, od, dV, kV, doc, pm, an, cdv, ct, osl, rfl, lk, hcd, hD, hK⟩ := F.ex
  have hdV : dV = .none := by
    rcases hD with ⟨_, z⟩ | ⟨z, _⟩
    · exact z
    · exact absurd rfl z
  have hkV : kV = .none := by
    unfold fnNone at k13
    have lk' : K.lookup (He.ma K (He.ga K e.x) "__init__") = _ := lk
    rw [lk'] at k13
    simp only at k13
    cases kV <;> first | rfl | cases k13
  subst hdV; subst hkV
  refine ⟨hf.1, fun doc pm an cdv ct p1 p2 q1 q2 q3 q4 x v => ?_, hf.2, gl, clsB_ok k1, He.eqO_ok k2, He.eqO_ok k3, He.eqO_ok k4, He.eqO_ok k5, He.eqO_ok k6, k7, k8, k9, k10, k11, k12, ⟨oc, od, doc, pm, an, cdv, ct, osl, p1, p2, q1, q2, q3, q4, ?_, hcd⟩⟩
  · refine bind_pos (ns := ["self", e.f]) ⟨rfl, rfl, rfl, rfl, rfl, rfl⟩ ?_ [x, v] rfl
    have : e.f ≠ ("self" : Str) := by simpa using hf.1
    simp only [List.nodup_cons, List.mem_singleton, List.not_mem_nil, not_false_eq_true, List.nodup_nil, and_true]
    exact fun z => this z.symm
  · rw [← i1, ← i2, ← i3]
    exact lk
/-- the ground of a row -/
theorem RowI.gnd (T : TextOk r tf) (hcap : ∀ z, r.cap z = true → z < 2 ^ 40) (c : He.SaysX r.fa r.dfs [] tf (exB r tf) w h K) (X : K.In base) (G : base.Ns mainGlobals mg) (TB : ∀ p ∈ tf, LamX.TabB base mg (He.cT K p).1 (He.cT K p).2) : Gnd r.I ⟨prog, w, K, mg, base, r.g0 tf K⟩ := by
  have D := fun e he => RowI.defAt (prog := prog) (base := base) (mg := mg) (e := e) T c TB he
  have gloE : ∀ e ∈ r.es, mg e.x = some (.ref (He.ga K e.x)) := fun e he => He.glo_ok X G (c.t.d.facts (f := .glo e.x) (by
    unfold RowI.fa
    simp only [List.mem_append, List.mem_map]
    exact .inl (.inl (.inl (.inl ⟨e, he, rfl⟩)))))
  have gloH : ∀ hh ∈ r.hands, mg hh.1 = some (.ref (He.ga K hh.1)) := fun hh he => He.glo_ok X G (c.t.d.facts (f := .glo hh.1) (by
    unfold RowI.fa
    simp only [List.mem_append, List.mem_map]
    exact .inl (.inl (.inr ⟨hh, he, rfl⟩))))
  have gloN : ∀ x : Str, x = "_law_draw" ∨ x = "_law_stream" → mg x = some (.ref (He.ga K x)) := fun x hx => He.glo_ok X G (c.t.d.facts (f := .glo x) (by
    unfold RowI.fa
    simp only [List.mem_append, List.mem_cons, List.not_mem_nil, or_false]
    refine .inl (.inr ?_)
    rcases hx with rfl | rfl
    · exact .inl rfl
    · exact .inr rfl))
  have frees : ∀ x, bnames.contains x = true → mg x = none := fun x hx => He.free_ok X G (c.t.d.facts (f := .free x) (by
    unfold RowI.fa
    simp only [List.mem_append]
    exact .inr (List.mem_map.mpr ⟨x, by simpa using hx, rfl⟩)))
  have hm := c.more
  unfold exB at hm
  simp only [Bool.and_eq_true] at hm
  have ofcls : ∀ k, (r.clsOf k).isSome = true → ∃ e ∈ r.cs, e.id = k ∧ r.clsOf k = some e := fun k hk => by
    cases e1 : r.clsOf k with
    | none => rw [e1] at hk; cases hk
    | some e =>
      have e2 : r.cs.find? (fun e => e.id == k) = some e := e1
      exact ⟨e, List.mem_of_find?_eq_some e2, by simpa using List.find?_some e2, rfl⟩
  have fldE : ∀ {e : CEnt}, r.clsOf e.id = some e → (r.g0 tf K).fld e.id = e.f := fun {e} h => by
    show ((r.clsOf e.id).map (·.f)).getD ("" : Str) = _
    rw [h]; rfl
  have caE : ∀ {e : CEnt}, r.clsOf e.id = some e → (r.g0 tf K).ca e.id = He.ga K e.x := fun {e} h => by
    show He.ga K (((r.clsOf e.id).map (·.x)).getD ("" : Str)) = _
    rw [h]; rfl
  refine ⟨rfl, rfl, rfl, fun x f ps e => ?_, fun f fn e => ?_, frees, hcap, ?_, ?_, fun x k e => ?_, fun x ids e => ?_, fun f k e c0 e2 => ?_, fun k e => ?_⟩
  · obtain ⟨en, he, e1⟩ := List.mem_map.mp (lookup_mem' (l := r.es.map fun e => (e.x, e.id, e.ps)) e)
    cases e1
    refine ⟨?_, D _ he⟩
    show mg en.x = some (.ref ((r.g0 tf K).fa en.id))
    rw [RowI.fa_of T he]
    exact gloE _ he
  · obtain ⟨en, he, rfl, rfl⟩ := RowI.of_fn (r := r) e
    have hB := List.all_eq_true.mp T.ents en he
    unfold entB at hB
    simp only [Bool.and_eq_true, decide_eq_true_eq] at hB
    exact ⟨en.ps, hB.1.1.1.2, D _ he⟩
  · obtain ⟨fd, F⟩ := c.t.d.defs (d := ⟨("_law_draw", none), "_law_draw", "_law_draw", defArgs r.dst, defBody r.dst, defScope r.dst, [], []⟩) (List.mem_append_right _ List.mem_cons_self)
    have hB := T.draw
    unfold natB at hB
    simp only [Bool.and_eq_true, List.all_eq_true, decide_eq_true_eq] at hB
    obtain ⟨p1, p2, p3, p4, p5⟩ := paB_ok hB.1.1.2
    have hS := T.drawS
    simp only [Bool.and_eq_true, decide_eq_true_eq] at hS
    obtain ⟨p, q1, q2⟩ := T.drawT
    exact ⟨_, _, fd, gloN _ (.inl rfl), nat_draw F (scB_ok hB.1.1.1) q1 q2 hB.2 hS.1 hS.2 (frees _ (by decide +kernel)) (frees _ (by decide +kernel)), plain_fun F p1 p2 p3 p4 p5, nodup_of hB.1.2, F.kp⟩
  · obtain ⟨fd, F⟩ := c.t.d.defs (d := ⟨("_law_stream", none), "_law_stream", "_law_stream", defArgs r.sst, defBody r.sst, defScope r.sst, [], []⟩) (List.mem_append_right _ (List.mem_cons_of_mem _ List.mem_cons_self))
    have hB := T.strm
    unfold natB at hB
    simp only [Bool.and_eq_true, List.all_eq_true, decide_eq_true_eq] at hB
    obtain ⟨p1, p2, p3, p4, p5⟩ := paB_ok hB.1.1.2
    have hS := T.strmS
    simp only [decide_eq_true_eq] at hS
    obtain ⟨p, q1⟩ := T.strmT
    exact ⟨_, _, fd, gloN _ (.inr rfl), nat_stream F (scB_ok hB.1.1.1) q1 (hB.2 _ List.mem_cons_self) hS (frees _ (by decide +kernel)), plain_fun F p1 p2 p3 p4 p5, nodup_of hB.1.2, F.kp⟩
  · obtain ⟨en, he, e1⟩ := List.mem_map.mp (lookup_mem' (l := r.cs.map fun e => (e.x, e.id)) e)
    cases e1
    have h1 := RowI.cls_of T he
    have hT := RowI.errT T c X G he
    rw [← fldE h1, ← caE h1] at hT
    exact ⟨by show (r.clsOf en.id).isSome = true; rw [h1]; rfl, _, hT⟩
  · have hin := lookup_mem' (l := r.hands) e
    have hB := List.all_eq_true.mp hm.1.2 _ hin
    refine ⟨_, gloH _ hin, fun k hk => ?_⟩
    obtain ⟨en, he, rfl, h1⟩ := ofcls k hk
    have := List.all_eq_true.mp hB en he
    show PySem.W.exmOne K (.ref ((r.g0 tf K).ca en.id)) _ = _
    rw [caE h1]
    simpa using this
  · have hin := lookup_mem' (l := r.flds) e
    have e2 : (r.cs.any fun en => en.id == c0 && decide (r.flds.lookup en.f = some k)) = true := e2
    obtain ⟨en, he, h1⟩ := List.any_eq_true.mp e2
    simp only [Bool.and_eq_true, beq_iff_eq, decide_eq_true_eq] at h1
    obtain ⟨rfl, h2⟩ := h1
    rw [fldE (RowI.cls_of T he)]
    have hin2 := lookup_mem' (l := r.flds) h2
    have f1 := find_id (f := fun z : Str × Nat => z.2) T.fids hin
    have f2 := find_id (f := fun z : Str × Nat => z.2) T.fids hin2
    simp only at f1 f2
    rw [f1] at f2
    exact (congrArg (·.1) (Option.some.inj f2)).symm
  · obtain ⟨en, he, rfl, h1⟩ := ofcls k e
    have hT := RowI.errT T c X G he
    rw [← fldE h1, ← caE h1] at hT
    exact ⟨en.x, _, hT⟩
end
end Us
end

section
set_option Elab.async false
set_option linter.all false
set_option maxRecDepth 100000
set_option maxHeartbeats 1000000
/-! Us.End: the law's own run is the row's proof. -/
namespace Us
open PySem PySem.Spec PyProof.Rows L2
def s00 : S := ⟨⟨[], 0, -1, 19⟩, []⟩
section
variable {l : PySem.W.OpenLaw} {w : World} {K : PySem.W.Frag} {mg : Str → Option Value} {h : Heap} {r : RowI} {tf : List He.Defn}
theorem law_sp {I : PI} {g : Gp} {H : Hp} {a : Addr} {ns : List Int} {d f : Nat} {s' : S} (hT : LamX.Tabs g.T H) (hS : SqL g.K H a (ns.map V.int)) (hrun : callAt I.P I.cap d f [.d (.scr ns)] s00 = .ok (.bl true) s') :
    spOf g (gAt I.P I.cap d) f 1 [.ref a] H (fun v _ => v = .bl true) fun _ _ _ => False := by
  refine ⟨fun _ => none, [], none, [.d (.scr ns)], s00, rfl, fun a b o e => (by cases e), ?_, ?_, ?_⟩
  · exact ⟨rfl, fun a b o e => (by cases e), fun n x a e _ => (by simp [s00] at e), fun n x a e _ => (by simp [s00] at e), fun n m x y a e _ _ _ => (by simp [s00] at e), fun n x a e _ => (by simp [s00] at e), fun p q e => (by cases e), hT⟩
  · refine ⟨.ref a, [], rfl, ?_, rfl⟩
    show RelD g _ (.scr ns) (.ref a)
    simp only [RelD]
    refine ⟨a, rfl, ?_⟩
    rcases hS with (hS | ⟨o, hS⟩) | hS
    · refine .inr (.inl ⟨fun z => ?_, hS⟩)
      rcases z with ⟨o, z⟩ | ⟨n, x, z, _⟩ | ⟨p, q, z, _⟩
      · cases z
      · simp [s00] at z
      · cases z
    · exact .inl ⟨o, hS⟩
    · exact .inr (.inr (.inr hS))
  · have : (gAt I.P I.cap d).call f [.d (.scr ns)] s00 = .ok (.bl true) s' := hrun
    rw [this]
    intro b H' st' _ _ hb
    simpa [RelD] using hb
theorem RowI.lawAt {n d : Nat} (T : TextOk r tf) (hcap : ∀ z, r.cap z = true → z < 2 ^ 40) (KX : K.In h) (G : h.Ns mainGlobals mg) (c : He.SaysX r.fa r.dfs [] tf (exB r tf) w h K) {e : Ent} (he : e ∈ r.es) (hps : e.ps = [("script" : Str)])
    (hrun : ∀ ns : List Int, ns.length ≤ n → (∀ z ∈ ns, Builtin.Int.intBits z ≤ 1048576) → ∃ s', callAt r.P r.cap d e.id [.d (.scr ns)] s00 = .ok (.bl true) s') : LamX.LawAtS l w K (L2.CX l.prog w) (d + 1) n "script" mg (He.ga K e.x) h := by
  obtain ⟨fd, F⟩ := c.t.d.defs (d := ⟨(e.x, none), e.x, e.x, defArgs e.st, defBody e.st, defScope e.st, [], []⟩) (List.mem_append_left _ (List.mem_append_left _ (List.mem_map.mpr ⟨e, he, rfl⟩)))
  have hB := List.all_eq_true.mp T.ents e he
  unfold entB at hB
  simp only [Bool.and_eq_true, decide_eq_true_eq] at hB
  obtain ⟨⟨⟨⟨b1, b2⟩, b3⟩, b4⟩, b5⟩ := hB
  obtain ⟨p1, p2, p3, p4, p5⟩ := paB_ok b4
  have pl := plain_fun F p1 p2 p3 p4 p5
  have ea : (r.g0 tf K).fa e.id = He.ga K e.x := RowI.fa_of T he
  have mem : ∀ p ∈ tf.map (He.cT K), ∃ q ∈ tf, He.cT K q = p := fun p hp => by
    obtain ⟨q, hq, e⟩ := List.mem_map.mp hp
    exact ⟨q, hq, e⟩
  refine ⟨fd, tf.map (He.cT K), spOf (r.g0 tf K) (gAt r.I.P r.I.cap d) e.id 1, fun p hp => ?_, fun p hp => ?_, fun p hp => ?_, fun s u => ?_, fun H a ns hl hb hH hS => ?_, fun base X1 G1 TB => ?_⟩
  · obtain ⟨q, hq, rfl⟩ := mem p hp
    exact c.empty q hq
  · obtain ⟨q, hq, rfl⟩ := mem p hp
    exact c.out q hq
  · obtain ⟨q, hq, rfl⟩ := mem p hp
    exact PySem.W.codeHd_of_K KX (c.hd q hq)
  · have := bind_pos pl (nodup_of b5) [u] (by rw [hps]; rfl)
    rw [hps] at this
    exact .of_eq this
  · obtain ⟨s', hs⟩ := hrun ns hl hb
    refine law_sp (I := r.I) (g := r.g0 tf K) (fun p hp => ?_) hS hs
    obtain ⟨q, hq, rfl⟩ := List.mem_map.mp hp
    exact .nil (hH _ (List.mem_map.mpr ⟨q, hq, rfl⟩))
  · have B := RowI.gnd (prog := l.prog) (base := base) (mg := mg) T hcap c X1 G1 fun p hp => TB _ (List.mem_map.mpr ⟨p, hp, rfl⟩)
    have D := RowI.defAt (prog := l.prog) (base := base) (mg := mg) (e := e) T c (fun p hp => TB _ (List.mem_map.mpr ⟨p, hp, rfl⟩)) he
    obtain ⟨fd', h1, _, oc, od, osl, h2⟩ := lv_all B d e.id e.ps D
    obtain ⟨oc2, od2, dV, kV, doc, pm, an, cdv, ct, osl2, rfl, lk, _⟩ := F.ex
    have h2 : K.lookup ((r.g0 tf K).fa e.id) = some ⟨oc, od, .func fd', osl⟩ := h2
    rw [ea] at h2
    have lk : K.lookup (He.ga K e.x) = _ := lk
    rw [lk] at h2
    have ef := congrArg (fun o : Option Obj => o.map (·.data)) h2
    simp only [Option.map_some, Option.some.injEq, Data.func.injEq] at ef
    rw [ef]
    have h1 : FnOk l.prog w K mg base (L2.CX l.prog w) (d + 1) ((r.g0 tf K).fa e.id) fd' e.ps (spOf (r.g0 tf K) (gAt r.I.P r.I.cap d) e.id e.ps.length) := h1
    rw [ea, hps] at h1
    exact h1
end
theorem no_exc {P : Program} {w : World} {H : Hp} {s : Shared} {e : Value} {s' : Shared} (z : L2.CX P w [] H s (fun _ _ _ => False) e s') : False := by
  obtain ⟨_, _, _, _, _, _, _, _, _, _, _, _, z⟩ := z
  exact z
end Us
end

section
set_option linter.all false
set_option maxRecDepth 100000
namespace Us
open PySem (Str)
/-- is_list -/
def f1 : Fn := { params := 1, slots := 1, body := [(.ret (.isa (.var 0) [.list, .tuple]))] }
/-- is_whole -/
def f2 : Fn := { params := 1, slots := 1, body := [(.ret (.and (.isa (.var 0) [.int]) (.one (.not (.isa (.var 0) [.bool])))))] }
/-- is_number -/
def f3 : Fn := { params := 1, slots := 1, body := [(.ret (.and (.call 2 (.cons (.var 0) .nil)) (.one (.cmp .ge (.var 0) (.int 0)))))] }
/-- is_row -/
def f4 : Fn := { params := 2, slots := 2, body := [(.ret (.and (.call 1 (.cons (.var 0) .nil)) (.one (.cmp .eq (.bi .len (.var 0)) (.var 1)))))] }
/-- is_letter -/
def f5 : Fn := { params := 1, slots := 2, body := [(.ite (.or (.not (.isa (.var 0) [.str])) (.one (.not (.chain .le .le (.int 1) (.bi .len (.var 0)) (.int 8))))) [(.ret (.bl false))] []),
      (.ret (.bi .all (.comp [1] (.cmp .mem (.var 1) (.str (sx [97, 98, 99, 100, 101, 102, 103, 104, 105, 106, 107, 108, 109, 110, 111, 112, 113, 114, 115, 116, 117, 118, 119, 120, 121, 122]))) (.nm 1) (.e (.var 0)))))] }
/-- first_bad_letter -/
def f6 : Fn := { params := 1, slots := 3, body := [(.ite (.not (.call 1 (.cons (.var 0) .nil))) [(.ret (.int 0))] []),
      (.for_ (.tp [(.nm 1), (.nm 2)]) (.enum (.var 0)) [(.ite (.or (.not (.call 5 (.cons (.var 2) .nil))) (.one (.and (.cmp .gt (.var 1) (.int 0)) (.one (.cmp .le (.var 2) (.idx (.var 0) (.bin .sub (.var 1) (.int 1)))))))) [(.ret (.var 1))] [])]),
      (.ret .non)] }
/-- check_letters -/
def f7 : Fn := { params := 1, slots := 2, body := [(.asg (.nm 1) (.call 6 (.cons (.var 0) .nil))),
      (.ite (.cmp .isnot (.var 1) .non) [(.raise 1 (.var 1))] [])] }
/-- all_worlds -/
def f8 : Fn := { params := 1, slots := 4, body := [(.asg (.nm 1) (.lst (.cons (.lst .nil) .nil))),
      (.for_ (.nm 2) (.e (.var 0)) [(.asg (.nm 1) (.bin .add (.var 1) (.comp [3] (.star (.var 3) (.cons (.var 2) .nil)) (.nm 3) (.e (.var 1)))))]),
      (.ret (.bi .sorted (.var 1)))] }
/-- is_any_formula -/
def f9 : Fn := { params := 1, slots := 1, body := [(.ite (.or (.not (.call 1 (.cons (.var 0) .nil))) (.or (.cmp .eq (.bi .len (.var 0)) (.int 0)) (.one (.not (.isa (.idx (.var 0) (.int 0)) [.str]))))) [(.ret (.bl false))] []),
      (.ite (.cmp .eq (.idx (.var 0) (.int 0)) (.str (sx [116, 114, 117, 101]))) [(.ret (.cmp .eq (.bi .len (.var 0)) (.int 1)))] []),
      (.ite (.cmp .eq (.idx (.var 0) (.int 0)) (.str (sx [108, 101, 116, 116, 101, 114]))) [(.ret (.and (.cmp .eq (.bi .len (.var 0)) (.int 2)) (.one (.call 5 (.cons (.idx (.var 0) (.int 1)) .nil)))))] []),
      (.ite (.cmp .eq (.idx (.var 0) (.int 0)) (.str (sx [110, 111, 116]))) [(.ret (.and (.cmp .eq (.bi .len (.var 0)) (.int 2)) (.one (.call 9 (.cons (.idx (.var 0) (.int 1)) .nil)))))] []),
      (.ite (.or (.cmp .notmem (.idx (.var 0) (.int 0)) (.tup (.cons (.str (sx [97, 110, 100])) (.cons (.str (sx [111, 114])) (.cons (.str (sx [116, 104, 101, 110])) .nil))))) (.one (.cmp .ne (.bi .len (.var 0)) (.int 3)))) [(.ret (.bl false))] []),
      (.ret (.and (.call 9 (.cons (.idx (.var 0) (.int 1)) .nil)) (.one (.call 9 (.cons (.idx (.var 0) (.int 2)) .nil)))))] }
/-- letters_in -/
def f10 : Fn := { params := 1, slots := 3, body := [(.ite (.cmp .eq (.idx (.var 0) (.int 0)) (.str (sx [108, 101, 116, 116, 101, 114]))) [(.ret (.lst (.cons (.idx (.var 0) (.int 1)) .nil)))] []),
      (.new 1 (.lst .nil)),
      (.for_ (.nm 2) (.e (.from_ (.var 0) (.int 1))) [(.expr (.mut .extend 1 (.cons (.call 10 (.cons (.var 2) .nil)) .nil)))]),
      (.ret (.var 1))] }
/-- is_formula -/
def f11 : Fn := { params := 2, slots := 3, body := [(.ret (.and (.call 9 (.cons (.var 1) .nil)) (.one (.bi .all (.comp [2] (.cmp .mem (.var 2) (.var 0)) (.nm 2) (.e (.call 10 (.cons (.var 1) .nil))))))))] }
/-- is_so -/
def f12 : Fn := { params := 2, slots := 5, body := [(.asg (.nm 2) (.idx (.var 0) (.int 0))),
      (.ite (.cmp .eq (.var 2) (.str (sx [116, 114, 117, 101]))) [(.ret (.bl true))] []),
      (.ite (.cmp .eq (.var 2) (.str (sx [108, 101, 116, 116, 101, 114]))) [(.ret (.cmp .mem (.idx (.var 0) (.int 1)) (.var 1)))] []),
      (.asg (.nm 3) (.call 12 (.cons (.idx (.var 0) (.int 1)) (.cons (.var 1) .nil)))),
      (.ite (.cmp .eq (.var 2) (.str (sx [110, 111, 116]))) [(.ret (.not (.var 3)))] []),
      (.asg (.nm 4) (.call 12 (.cons (.idx (.var 0) (.int 2)) (.cons (.var 1) .nil)))),
      (.ite (.cmp .eq (.var 2) (.str (sx [97, 110, 100]))) [(.ret (.and (.var 3) (.one (.var 4))))] []),
      (.ret (.ite (.cmp .eq (.var 2) (.str (sx [111, 114]))) (.or (.var 3) (.one (.var 4))) (.or (.var 4) (.one (.not (.var 3))))))] }
/-- is_saying -/
def f13 : Fn := { params := 2, slots := 2, body := [(.ret (.and (.call 4 (.cons (.var 1) (.cons (.int 2) .nil))) (.and (.call 11 (.cons (.var 0) (.cons (.idx (.var 1) (.int 0)) .nil))) (.one (.call 11 (.cons (.var 0) (.cons (.idx (.var 1) (.int 1)) .nil)))))))] }
/-- is_met -/
def f14 : Fn := { params := 2, slots := 2, body := [(.ret (.and (.call 12 (.cons (.idx (.var 0) (.int 0)) (.cons (.var 1) .nil))) (.one (.call 12 (.cons (.idx (.var 0) (.int 1)) (.cons (.var 1) .nil))))))] }
/-- is_broken -/
def f15 : Fn := { params := 2, slots := 2, body := [(.ret (.and (.call 12 (.cons (.idx (.var 0) (.int 0)) (.cons (.var 1) .nil))) (.one (.not (.call 12 (.cons (.idx (.var 0) (.int 1)) (.cons (.var 1) .nil)))))))] }
/-- fault_of -/
def f16 : Fn := { params := 1, slots := 4, body := [(.ite (.or (.not (.call 4 (.cons (.var 0) (.cons (.int 2) .nil)))) (.or (.not (.call 1 (.cons (.idx (.var 0) (.int 0)) .nil))) (.one (.not (.call 1 (.cons (.idx (.var 0) (.int 1)) .nil)))))) [(.ret (.tup (.cons (.str (sx [102, 111, 114, 109])) .nil)))] []),
      (.asg (.nm 1) (.call 6 (.cons (.idx (.var 0) (.int 0)) .nil))),
      (.ite (.cmp .isnot (.var 1) .non) [(.ret (.tup (.cons (.str (sx [108, 101, 116, 116, 101, 114, 115])) (.cons (.var 1) .nil))))] []),
      (.for_ (.tp [(.nm 2), (.nm 3)]) (.enum (.idx (.var 0) (.int 1))) [(.ite (.not (.call 13 (.cons (.idx (.var 0) (.int 0)) (.cons (.var 3) .nil)))) [(.ret (.tup (.cons (.str (sx [115, 97, 121, 105, 110, 103, 115])) (.cons (.var 2) .nil))))] [])]),
      (.ret .non)] }
/-- book_fault -/
def f17 : Fn := { params := 1, slots := 1, body := [(.ret (.call 16 (.cons (.var 0) .nil)))] }
/-- check_book -/
def f18 : Fn := { params := 1, slots := 2, body := [(.asg (.nm 1) (.call 16 (.cons (.var 0) .nil))),
      (.ite (.cmp .isnot (.var 1) .non) [(.raise 2 (.var 1))] [])] }
/-- check_saying -/
def f19 : Fn := { params := 2, slots := 2, body := [(.ite (.not (.call 13 (.cons (.var 0) (.cons (.var 1) .nil)))) [(.raise 4 (.var 1))] [])] }
/-- fault_of_ranks -/
def f20 : Fn := { params := 2, slots := 4, body := [(.ite (.or (.not (.call 1 (.cons (.var 1) .nil))) (.one (.cmp .ne (.bi .len (.var 1)) (.bi .len (.call 8 (.cons (.var 0) .nil)))))) [(.ret (.tup (.cons (.str (sx [102, 111, 114, 109])) .nil)))] []),
      (.for_ (.tp [(.nm 2), (.nm 3)]) (.enum (.var 1)) [(.ite (.and (.cmp .isnot (.var 3) .non) (.one (.not (.call 3 (.cons (.var 3) .nil))))) [(.ret (.tup (.cons (.str (sx [114, 97, 110, 107])) (.cons (.var 2) .nil))))] [])]),
      (.ret .non)] }
/-- ranks_fault -/
def f21 : Fn := { params := 2, slots := 2, body := [(.expr (.call 7 (.cons (.var 0) .nil))),
      (.ret (.call 20 (.cons (.var 0) (.cons (.var 1) .nil))))] }
/-- least_rank -/
def f22 : Fn := { params := 4, slots := 7, body := [(.asg (.nm 4) (.compIf [5, 6] (.var 6) (.tp [(.nm 5), (.nm 6)]) (.zip (.var 0) (.var 1)) (.and (.cmp .isnot (.var 6) .non) (.one (.callv 3 (.cons (.var 2) (.cons (.var 5) .nil))))))),
      (.ret (.ite (.cmp .ne (.var 4) (.lst .nil)) (.bi .min (.var 4)) .non))] }
/-- do_bear -/
def f23 : Fn := { params := 3, slots := 6, body := [(.asg (.nm 3) (.call 8 (.cons (.var 0) .nil))),
      (.par2 4 5 false false (.call 22 (.cons (.var 3) (.cons (.var 1) (.cons (.var 2) (.cons (.fn 14) .nil))))) (.call 22 (.cons (.var 3) (.cons (.var 1) (.cons (.var 2) (.cons (.fn 15) .nil)))))),
      (.ret (.or (.cmp .is (.var 5) .non) (.one (.and (.cmp .isnot (.var 4) .non) (.one (.cmp .lt (.var 4) (.var 5)))))))] }
/-- bears -/
def f24 : Fn := { params := 3, slots := 4, body := [(.expr (.call 7 (.cons (.var 0) .nil))),
      (.asg (.nm 3) (.call 20 (.cons (.var 0) (.cons (.var 1) .nil)))),
      (.ite (.cmp .isnot (.var 3) .non) [(.raise 3 (.var 3))] []),
      (.expr (.call 19 (.cons (.var 0) (.cons (.var 2) .nil)))),
      (.ret (.call 23 (.cons (.var 0) (.cons (.var 1) (.cons (.var 2) .nil)))))] }
/-- unborne -/
def f25 : Fn := { params := 2, slots := 4, body := [(.for_ (.tp [(.nm 2), (.nm 3)]) (.enum (.idx (.var 0) (.int 1))) [(.ite (.not (.call 23 (.cons (.idx (.var 0) (.int 0)) (.cons (.var 1) (.cons (.var 3) .nil))))) [(.ret (.var 2))] [])]),
      (.ret .non)] }
/-- first_unborne -/
def f26 : Fn := { params := 2, slots := 3, body := [(.expr (.call 18 (.cons (.var 0) .nil))),
      (.asg (.nm 2) (.call 20 (.cons (.idx (.var 0) (.int 0)) (.cons (.var 1) .nil)))),
      (.ite (.cmp .isnot (.var 2) .non) [(.raise 3 (.var 2))] []),
      (.ret (.call 25 (.cons (.var 0) (.cons (.var 1) .nil))))] }
/-- _law_pick -/
def f27 : Fn := { params := 2, slots := 2, body := [(.ret (.idx (.var 1) (.draw (.var 0) (.bi .len (.var 1)))))] }
/-- _law_mixed -/
def f28 : Fn := { params := 2, slots := 5, body := [(.par2 2 3 true true (.bi .list (.var 1)) (.lst .nil)),
      (.for_ (.nm 4) (.rng (.bi .len (.var 2))) [(.expr (.mut .append 3 (.cons (.mut .pop 2 (.cons (.draw (.var 0) (.bi .len (.var 2))) .nil)) .nil)))]),
      (.ret (.var 3))] }
/-- _law_same -/
def f29 : Fn := { params := 2, slots := 4, body := [(.ite (.isa (.var 1) [.list, .tuple]) [(.ite (.or (.cmp .ne (.isa (.var 0) [.list]) (.isa (.var 1) [.list])) (.one (.cmp .ne (.isa (.var 0) [.tuple]) (.isa (.var 1) [.tuple])))) [(.ret (.bl false))] []),
      (.ret (.and (.cmp .eq (.bi .len (.var 0)) (.bi .len (.var 1))) (.one (.bi .all (.comp [2, 3] (.call 29 (.cons (.var 2) (.cons (.var 3) .nil))) (.tp [(.nm 2), (.nm 3)]) (.zip (.var 0) (.var 1)))))))] []),
      (.ite (.isa (.var 1) [.dict]) [(.ret (.and (.isa (.var 0) [.dict]) (.one (.call 29 (.cons (.litems (.var 0)) (.cons (.litems (.var 1)) .nil))))))] []),
      (.ite (.or (.isa (.var 1) [.bool]) (.one (.isa (.var 0) [.bool]))) [(.ret (.and (.isa (.var 1) [.bool]) (.and (.isa (.var 0) [.bool]) (.one (.cmp .eq (.var 0) (.var 1))))))] []),
      (.ite (.or (.cmp .is (.var 1) .non) (.one (.cmp .is (.var 0) .non))) [(.ret (.and (.cmp .is (.var 1) .non) (.one (.cmp .is (.var 0) .non))))] []),
      (.ite (.or (.cmp .ne (.isa (.var 1) [.int]) (.isa (.var 0) [.int])) (.one (.cmp .ne (.isa (.var 1) [.str]) (.isa (.var 0) [.str])))) [(.ret (.bl false))] []),
      (.ret (.and (.not (.isa (.var 0) [.list, .tuple, .dict])) (.one (.cmp .eq (.var 0) (.var 1)))))] }
/-- _law_loose -/
def f30 : Fn := { params := 2, slots := 4, body := [(.ite (.isa (.var 1) [.list, .tuple]) [(.asg (.nm 2) (.comp [3] (.call 30 (.cons (.var 0) (.cons (.var 3) .nil))) (.nm 3) (.e (.var 1)))),
      (.ret (.ite (.cmp .eq (.draw (.var 0) (.int 2)) (.int 0)) (.var 2) (.bi .tuple (.var 2))))] []),
      (.ret (.var 1))] }
/-- _law_copied -/
def f31 : Fn := { params := 1, slots := 4, body := [(.ite (.isa (.var 0) [.list, .tuple]) [(.asg (.nm 1) (.comp [2] (.call 31 (.cons (.var 2) .nil)) (.nm 2) (.e (.var 0)))),
      (.ret (.ite (.isa (.var 0) [.list]) (.var 1) (.bi .tuple (.var 1))))] []),
      (.ite (.isa (.var 0) [.dict]) [(.ret (.bi .dict (.comp [3] (.tup (.cons (.var 3) (.cons (.call 31 (.cons (.idx (.var 0) (.var 3)) .nil)) .nil))) (.nm 3) (.e (.var 0)))))] []),
      (.ret (.var 0))] }
/-- _law_is_whole -/
def f32 : Fn := { params := 1, slots := 1, body := [(.ret (.and (.isa (.var 0) [.int]) (.one (.not (.isa (.var 0) [.bool])))))] }
/-- _law_drawn_formula -/
def f33 : Fn := { params := 3, slots := 5, body := [(.asg (.nm 3) (.draw (.var 0) (.int 7))),
      (.ite (.or (.cmp .eq (.var 2) (.int 0)) (.one (.cmp .lt (.var 3) (.int 2)))) [(.ret (.ite (.and (.cmp .ne (.var 1) (.lst .nil)) (.one (.cmp .gt (.draw (.var 0) (.int 12)) (.int 0)))) (.tup (.cons (.str (sx [108, 101, 116, 116, 101, 114])) (.cons (.call 27 (.cons (.var 0) (.cons (.var 1) .nil))) .nil))) (.tup (.cons (.str (sx [116, 114, 117, 101])) .nil))))] []),
      (.ite (.cmp .eq (.var 3) (.int 2)) [(.ret (.tup (.cons (.str (sx [110, 111, 116])) (.cons (.call 33 (.cons (.var 0) (.cons (.var 1) (.cons (.bin .sub (.var 2) (.int 1)) .nil)))) .nil))))] []),
      (.asg (.nm 4) (.call 27 (.cons (.var 0) (.cons (.lst (.cons (.str (sx [97, 110, 100])) (.cons (.str (sx [97, 110, 100])) (.cons (.str (sx [111, 114])) (.cons (.str (sx [116, 104, 101, 110])) .nil))))) .nil)))),
      (.ret (.tup (.cons (.var 4) (.cons (.call 33 (.cons (.var 0) (.cons (.var 1) (.cons (.bin .sub (.var 2) (.int 1)) .nil)))) (.cons (.call 33 (.cons (.var 0) (.cons (.var 1) (.cons (.bin .sub (.var 2) (.int 1)) .nil)))) .nil)))))] }
/-- _law_small -/
def f34 : Fn := { params := 2, slots := 6, body := [(.asg (.tp [(.nm 2), (.nm 3)]) (.comp [4] (.ite (.cmp .ne (.var 1) (.lst .nil)) (.tup (.cons (.str (sx [108, 101, 116, 116, 101, 114])) (.cons (.call 27 (.cons (.var 0) (.cons (.var 1) .nil))) .nil))) (.tup (.cons (.str (sx [116, 114, 117, 101])) .nil))) (.nm 4) (.e (.tup (.cons (.int 0) (.cons (.int 1) .nil)))))),
      (.asg (.nm 5) (.draw (.var 0) (.int 5))),
      (.ite (.cmp .eq (.var 5) (.int 0)) [(.ret (.tup (.cons (.str (sx [110, 111, 116])) (.cons (.var 2) .nil))))] []),
      (.ret (.ite (.cmp .eq (.var 5) (.int 1)) (.tup (.cons (.str (sx [97, 110, 100])) (.cons (.var 2) (.cons (.var 3) .nil)))) (.var 2)))] }
/-- _law_saying -/
def f35 : Fn := { params := 2, slots := 2, body := [(.ite (.cmp .gt (.draw (.var 0) (.int 3)) (.int 0)) [(.ret (.tup (.cons (.call 34 (.cons (.var 0) (.cons (.var 1) .nil))) (.cons (.call 34 (.cons (.var 0) (.cons (.var 1) .nil))) .nil))))] []),
      (.ret (.tup (.cons (.call 33 (.cons (.var 0) (.cons (.var 1) (.cons (.int 2) .nil)))) (.cons (.call 33 (.cons (.var 0) (.cons (.var 1) (.cons (.int 2) .nil)))) .nil))))] }
/-- _law_book -/
def f36 : Fn := { params := 2, slots := 10, body := [(.asg (.nm 2) (.upto (.lst (.cons (.str (sx [98])) (.cons (.str (sx [98, 101])) (.cons (.str (sx [112, 101, 110])) (.cons (.str (sx [114, 101, 100])) .nil))))) (.draw (.var 0) (.bin .add (.var 1) (.int 1))))),
      (.asg (.nm 3) (.comp [4] (.call 35 (.cons (.var 0) (.cons (.var 2) .nil))) (.nm 4) (.rng (.draw (.var 0) (.int 7))))),
      (.ite (.and (.cmp .gt (.bi .len (.var 2)) (.int 2)) (.one (.cmp .eq (.draw (.var 0) (.int 3)) (.int 0)))) [(.asg (.tp [(.nm 5), (.nm 6), (.nm 7)]) (.comp [8] (.tup (.cons (.str (sx [108, 101, 116, 116, 101, 114])) (.cons (.var 8) .nil))) (.nm 8) (.e (.upto (.var 2) (.int 3))))),
      (.asg (.nm 3) (.bin .add (.lst (.cons (.tup (.cons (.var 5) (.cons (.var 6) .nil))) (.cons (.tup (.cons (.var 7) (.cons (.var 5) .nil))) (.cons (.tup (.cons (.var 7) (.cons (.tup (.cons (.str (sx [110, 111, 116])) (.cons (.var 6) .nil))) .nil))) .nil)))) (.upto (.var 3) (.draw (.var 0) (.int 3)))))] []),
      (.ite (.and (.cmp .ne (.var 3) (.lst .nil)) (.one (.cmp .eq (.draw (.var 0) (.int 4)) (.int 0)))) [(.asg (.tp [(.nm 5), (.nm 9)]) (.call 27 (.cons (.var 0) (.cons (.var 3) .nil)))),
      (.asg (.nm 3) (.bin .add (.var 3) (.lst (.cons (.tup (.cons (.var 5) (.cons (.tup (.cons (.str (sx [110, 111, 116])) (.cons (.var 9) .nil))) .nil))) .nil))))] []),
      (.ret (.tup (.cons (.var 2) (.cons (.call 28 (.cons (.var 0) (.cons (.var 3) .nil))) .nil))))] }
/-- _law_handed -/
def f37 : Fn := { params := 2, slots := 2, body := [(.ret (.call 30 (.cons (.var 0) (.cons (.call 31 (.cons (.var 1) .nil)) .nil))))] }
/-- _law_worlds -/
def f38 : Fn := { params := 1, slots := 4, body := [(.asg (.nm 1) (.lst (.cons (.lst .nil) .nil))),
      (.for_ (.nm 2) (.e (.var 0)) [(.asg (.nm 1) (.bin .add (.var 1) (.comp [3] (.bin .add (.var 3) (.lst (.cons (.var 2) .nil))) (.nm 3) (.e (.var 1)))))]),
      (.ret (.bi .sorted (.var 1)))] }
/-- _law_holds -/
def f39 : Fn := { params := 2, slots := 5, body := [(.asg (.nm 2) (.idx (.var 0) (.int 0))),
      (.ite (.cmp .mem (.var 2) (.tup (.cons (.str (sx [116, 114, 117, 101])) (.cons (.str (sx [108, 101, 116, 116, 101, 114])) .nil)))) [(.ret (.or (.cmp .eq (.var 2) (.str (sx [116, 114, 117, 101]))) (.one (.cmp .mem (.idx (.var 0) (.int 1)) (.var 1)))))] []),
      (.asg (.nm 3) (.comp [4] (.call 39 (.cons (.var 4) (.cons (.var 1) .nil))) (.nm 4) (.e (.from_ (.bi .list (.var 0)) (.int 1))))),
      (.ite (.cmp .eq (.var 2) (.str (sx [110, 111, 116]))) [(.ret (.not (.idx (.var 3) (.int 0))))] []),
      (.ret (.ite (.cmp .eq (.var 2) (.str (sx [97, 110, 100]))) (.bi .all (.var 3)) (.ite (.cmp .eq (.var 2) (.str (sx [111, 114]))) (.bi .any (.var 3)) (.or (.idx (.var 3) (.int 1)) (.one (.not (.idx (.var 3) (.int 0))))))))] }
/-- _law_is_formula -/
def f40 : Fn := { params := 2, slots := 6, body := [(.ite (.or (.not (.isa (.var 1) [.list, .tuple])) (.or (.cmp .eq (.bi .len (.var 1)) (.int 0)) (.one (.not (.isa (.idx (.var 1) (.int 0)) [.str]))))) [(.ret (.bl false))] []),
      (.par2 2 3 false false (.idx (.var 1) (.int 0)) (.from_ (.bi .list (.var 1)) (.int 1))),
      (.ite (.cmp .eq (.var 2) (.str (sx [108, 101, 116, 116, 101, 114]))) [(.ret (.and (.cmp .eq (.bi .len (.var 3)) (.int 1)) (.and (.call 41 (.cons (.idx (.var 3) (.int 0)) .nil)) (.one (.or (.cmp .is (.var 0) .non) (.one (.cmp .mem (.idx (.var 3) (.int 0)) (.var 0))))))))] []),
      (.asg (.nm 4) (.dct (.cons (.str (sx [116, 114, 117, 101])) (.cons (.int 0) (.cons (.str (sx [110, 111, 116])) (.cons (.int 1) (.cons (.str (sx [97, 110, 100])) (.cons (.int 2) (.cons (.str (sx [111, 114])) (.cons (.int 2) (.cons (.str (sx [116, 104, 101, 110])) (.cons (.int 2) .nil)))))))))))),
      (.ret (.and (.cmp .mem (.var 2) (.var 4)) (.and (.cmp .eq (.bi .len (.var 3)) (.idx (.var 4) (.var 2))) (.one (.bi .all (.comp [5] (.call 40 (.cons (.var 0) (.cons (.var 5) .nil))) (.nm 5) (.e (.var 3))))))))] }
/-- _law_is_letter -/
def f41 : Fn := { params := 1, slots := 2, body := [(.ret (.and (.isa (.var 0) [.str]) (.and (.chain .le .le (.int 1) (.bi .len (.var 0)) (.int 8)) (.one (.bi .all (.comp [1] (.cmp .mem (.var 1) (.str (sx [97, 98, 99, 100, 101, 102, 103, 104, 105, 106, 107, 108, 109, 110, 111, 112, 113, 114, 115, 116, 117, 118, 119, 120, 121, 122]))) (.nm 1) (.e (.var 0))))))))] }
/-- _law_is_saying -/
def f42 : Fn := { params := 2, slots := 3, body := [(.ret (.and (.isa (.var 1) [.list, .tuple]) (.and (.cmp .eq (.bi .len (.var 1)) (.int 2)) (.one (.bi .all (.comp [2] (.call 40 (.cons (.var 0) (.cons (.var 2) .nil))) (.nm 2) (.e (.var 1))))))))] }
/-- _law_met_there -/
def f43 : Fn := { params := 2, slots := 2, body := [(.ret (.and (.call 39 (.cons (.idx (.var 0) (.int 0)) (.cons (.var 1) .nil))) (.one (.call 39 (.cons (.idx (.var 0) (.int 1)) (.cons (.var 1) .nil))))))] }
/-- _law_broken -/
def f44 : Fn := { params := 2, slots := 2, body := [(.ret (.and (.call 39 (.cons (.idx (.var 0) (.int 0)) (.cons (.var 1) .nil))) (.one (.not (.call 39 (.cons (.idx (.var 0) (.int 1)) (.cons (.var 1) .nil)))))))] }
/-- _law_bears -/
def f45 : Fn := { params := 3, slots := 7, body := [(.asg (.nm 3) (.compIf [4, 5] (.tup (.cons (.var 4) (.cons (.var 5) .nil))) (.tp [(.nm 4), (.nm 5)]) (.zip (.var 1) (.call 38 (.cons (.var 0) .nil))) (.cmp .isnot (.var 4) .non))),
      (.asg (.nm 6) (.compIf [4, 5] (.var 4) (.tp [(.nm 4), (.nm 5)]) (.e (.var 3)) (.call 43 (.cons (.var 2) (.cons (.var 5) .nil))))),
      (.ret (.bi .all (.compIf [4, 5] (.and (.cmp .ne (.var 6) (.lst .nil)) (.one (.cmp .lt (.bi .min (.var 6)) (.var 4)))) (.tp [(.nm 4), (.nm 5)]) (.e (.var 3)) (.call 44 (.cons (.var 2) (.cons (.var 5) .nil))))))] }
/-- _law_unborne -/
def f46 : Fn := { params := 2, slots := 5, body := [(.asg (.nm 2) (.compIf [3, 4] (.var 3) (.tp [(.nm 3), (.nm 4)]) (.enum (.idx (.var 0) (.int 1))) (.not (.call 45 (.cons (.idx (.var 0) (.int 0)) (.cons (.var 1) (.cons (.var 4) .nil))))))),
      (.ret (.ite (.cmp .ne (.var 2) (.lst .nil)) (.idx (.var 2) (.int 0)) .non))] }
/-- _law_ranks_fault -/
def f47 : Fn := { params := 2, slots := 5, body := [(.ite (.or (.not (.isa (.var 1) [.list, .tuple])) (.one (.cmp .ne (.bi .len (.var 1)) (.bi .len (.call 38 (.cons (.var 0) .nil)))))) [(.ret (.tup (.cons (.str (sx [102, 111, 114, 109])) .nil)))] []),
      (.asg (.nm 2) (.compIf [3, 4] (.var 3) (.tp [(.nm 3), (.nm 4)]) (.enum (.var 1)) (.and (.cmp .isnot (.var 4) .non) (.one (.or (.not (.call 32 (.cons (.var 4) .nil))) (.one (.cmp .lt (.var 4) (.int 0)))))))),
      (.ret (.ite (.cmp .ne (.var 2) (.lst .nil)) (.tup (.cons (.str (sx [114, 97, 110, 107])) (.cons (.idx (.var 2) (.int 0)) .nil))) .non))] }
/-- _law_layers -/
def f48 : Fn := { params := 2, slots := 9, body := [(.asg (.tp [(.nm 2), (.nm 3), (.nm 4)]) (.tup (.cons (.listr (.bi .len (.var 1))) (.cons (.lst .nil) (.cons (.call 38 (.cons (.var 0) .nil)) .nil))))),
      (.while_ (.bl true) [(.asg (.nm 5) (.compIf [6] (.var 6) (.nm 6) (.e (.var 4)) (.not (.bi .any (.comp [7] (.call 44 (.cons (.idx (.var 1) (.var 7)) (.cons (.var 6) .nil))) (.nm 7) (.e (.var 2))))))),
      (.asg (.nm 8) (.compIf [7] (.var 7) (.nm 7) (.e (.var 2)) (.bi .any (.comp [6] (.call 43 (.cons (.idx (.var 1) (.var 7)) (.cons (.var 6) .nil))) (.nm 6) (.e (.var 5)))))),
      (.ite (.cmp .eq (.var 8) (.lst .nil)) [(.ret (.tup (.cons (.var 3) (.cons (.var 2) .nil))))] []),
      (.asg (.tp [(.nm 3), (.nm 2)]) (.tup (.cons (.bin .add (.var 3) (.lst (.cons (.var 8) .nil))) (.cons (.compIf [7] (.var 7) (.nm 7) (.e (.var 2)) (.cmp .notmem (.var 7) (.var 8))) .nil))))])] }
/-- _law_least -/
def f49 : Fn := { params := 2, slots := 10, body := [(.asg (.tp [(.nm 2), (.nm 3)]) (.call 48 (.cons (.var 0) (.cons (.var 1) .nil)))),
      (.new 4 (.lst .nil)),
      (.for_ (.nm 5) (.e (.call 38 (.cons (.var 0) .nil))) [(.asg (.nm 6) (.bin .add (.lst (.cons (.int 0) .nil)) (.compIf [7, 8] (.bin .add (.var 7) (.int 1)) (.tp [(.nm 7), (.nm 8)]) (.enum (.var 2)) (.bi .any (.comp [9] (.call 44 (.cons (.idx (.var 1) (.var 9)) (.cons (.var 5) .nil))) (.nm 9) (.e (.var 8))))))),
      (.expr (.mut .append 4 (.cons (.ite (.bi .any (.comp [9] (.call 44 (.cons (.idx (.var 1) (.var 9)) (.cons (.var 5) .nil))) (.nm 9) (.e (.var 3)))) .non (.bi .max (.var 6))) .nil)))]),
      (.ret (.var 4))] }
/-- _law_fault -/
def f50 : Fn := { params := 1, slots := 8, body := [(.ite (.or (.not (.isa (.var 0) [.list, .tuple])) (.or (.cmp .ne (.bi .len (.var 0)) (.int 2)) (.one (.not (.bi .all (.comp [1] (.isa (.var 1) [.list, .tuple]) (.nm 1) (.e (.var 0)))))))) [(.ret (.tup (.cons (.str (sx [102, 111, 114, 109])) .nil)))] []),
      (.asg (.tp [(.nm 2), (.nm 3)]) (.var 0)),
      (.for_ (.tp [(.nm 4), (.nm 5)]) (.enum (.var 2)) [(.ite (.or (.not (.call 41 (.cons (.var 5) .nil))) (.one (.and (.cmp .gt (.var 4) (.int 0)) (.one (.cmp .le (.var 5) (.idx (.var 2) (.bin .sub (.var 4) (.int 1)))))))) [(.ret (.tup (.cons (.str (sx [108, 101, 116, 116, 101, 114, 115])) (.cons (.var 4) .nil))))] [])]),
      (.asg (.nm 6) (.compIf [4, 7] (.var 4) (.tp [(.nm 4), (.nm 7)]) (.enum (.var 3)) (.not (.call 42 (.cons (.var 2) (.cons (.var 7) .nil)))))),
      (.ret (.ite (.cmp .ne (.var 6) (.lst .nil)) (.tup (.cons (.str (sx [115, 97, 121, 105, 110, 103, 115])) (.cons (.idx (.var 6) (.int 0)) .nil))) .non))] }
/-- _law_bent -/
def f51 : Fn := { params := 2, slots := 7, body := [(.asg (.tp [(.nm 2), (.nm 3)]) (.call 31 (.cons (.var 1) .nil))),
      (.asg (.nm 4) (.draw (.var 0) (.int 6))),
      (.ite (.cmp .eq (.var 4) (.int 0)) [(.asg (.nm 2) (.bin .add (.var 2) (.lst (.cons (.call 27 (.cons (.var 0) (.cons (.lst (.cons (.str (sx [97])) (.cons (.str (sx [122, 122])) (.cons (.str (sx [65])) (.cons .non (.cons (.str (sx [])) (.cons (.str (sx [97, 98, 99, 100, 101, 102, 103, 104, 105])) .nil))))))) .nil))) .nil))))] []),
      (.ite (.cmp .eq (.var 4) (.int 1)) [(.asg (.nm 2) (.from_ (.var 2) (.int 1)))] []),
      (.ite (.cmp .eq (.var 4) (.int 2)) [(.asg (.nm 2) (.back (.var 2)))] []),
      (.ite (.cmp .mem (.var 4) (.tup (.cons (.int 3) (.cons (.int 4) .nil)))) [(.asg (.nm 5) (.draw (.var 0) (.bin .add (.bi .len (.var 3)) (.int 1)))),
      (.asg (.nm 6) (.call 27 (.cons (.var 0) (.cons (.lst (.cons .non (.cons (.tup (.cons (.tup (.cons (.str (sx [116, 114, 117, 101])) .nil)) .nil)) (.cons (.tup (.cons (.tup (.cons (.str (sx [116, 114, 117, 101])) .nil)) (.cons .non .nil))) (.cons (.tup (.cons (.tup (.cons (.str (sx [108, 101, 116, 116, 101, 114])) (.cons (.str (sx [122, 122])) .nil))) (.cons (.tup (.cons (.str (sx [116, 114, 117, 101])) .nil)) .nil))) (.cons (.str (sx [97, 98])) (.cons (.tup (.cons (.tup (.cons (.str (sx [116, 114, 117, 101])) .nil)) (.cons (.tup (.cons (.str (sx [116, 114, 117, 101])) .nil)) (.cons (.tup (.cons (.str (sx [116, 114, 117, 101])) .nil)) .nil)))) (.cons (.dct .nil) .nil)))))))) .nil)))),
      (.asg (.nm 3) (.bin .add (.bin .add (.bin .add (.upto (.var 3) (.var 5)) (.bin .mul (.lst (.cons (.tup (.cons (.tup (.cons (.str (sx [116, 114, 117, 101])) .nil)) (.cons (.int 5) .nil))) .nil)) (.ite (.cmp .eq (.var 4) (.int 3)) (.int 1) (.int 0)))) (.lst (.cons (.var 6) .nil))) (.from_ (.var 3) (.var 5))))] []),
      (.ret (.ite (.cmp .eq (.var 4) (.int 5)) (.call 27 (.cons (.var 0) (.cons (.lst (.cons .non (.cons (.tup (.cons (.var 2) .nil)) (.cons (.str (sx [97, 98])) (.cons (.tup (.cons .non (.cons (.var 3) .nil))) (.cons (.tup (.cons (.var 2) (.cons .non .nil))) (.cons (.dct .nil) (.cons (.tup (.cons (.var 2) (.cons (.var 3) (.cons (.int 0) .nil)))) .nil)))))))) .nil))) (.tup (.cons (.var 2) (.cons (.var 3) .nil)))))] }
/-- _law_drawn_ranks -/
def f52 : Fn := { params := 2, slots := 6, body := [(.asg (.tp [(.nm 2), (.nm 3)]) (.tup (.cons (.call 38 (.cons (.idx (.var 1) (.int 0)) .nil)) (.cons (.draw (.var 0) (.int 4)) .nil)))),
      (.ite (.cmp .eq (.var 3) (.int 0)) [(.ret (.call 49 (.cons (.idx (.var 1) (.int 0)) (.cons (.idx (.var 1) (.int 1)) .nil))))] []),
      (.ite (.cmp .eq (.var 3) (.int 1)) [(.ret (.comp [5] (.bi .len (.compIf [4] (.var 4) (.nm 4) (.e (.idx (.var 1) (.int 1))) (.call 44 (.cons (.var 4) (.cons (.var 5) .nil))))) (.nm 5) (.e (.var 2))))] []),
      (.ret (.comp [5] (.ite (.and (.cmp .eq (.var 3) (.int 2)) (.one (.cmp .eq (.draw (.var 0) (.int 4)) (.int 0)))) .non (.draw (.var 0) (.call 27 (.cons (.var 0) (.cons (.lst (.cons (.int 2) (.cons (.int 4) (.cons (.int 9) .nil)))) .nil))))) (.nm 5) (.e (.var 2))))] }
/-- _law_met -/
def f53 : Fn := { params := 1, slots := 2, body := [(.tri [(.ret (.tup (.cons (.str (sx [116, 111, 108, 100])) (.cons (.callv 0 .nil) .nil))))] [([2], 1, (.tup (.cons (.str (sx [98, 111, 111, 107])) (.cons (.fld 0 1) .nil)))), ([1], 1, (.tup (.cons (.str (sx [108, 101, 116, 116, 101, 114, 115])) (.cons (.fld 1 1) .nil)))), ([3], 1, (.tup (.cons (.str (sx [114, 97, 110, 107, 115])) (.cons (.fld 0 1) .nil)))), ([4], 1, (.tup (.cons (.str (sx [115, 97, 121, 105, 110, 103])) (.cons (.fld 2 1) .nil))))])] }
/-- law -/
def f54 : Fn := { params := 1, slots := 22, body := [(.asg (.nm 1) (.stream (.var 0))),
      (.for_ (.nm 2) (.rng (.int 5)) [(.asg (.nm 3) (.call 36 (.cons (.var 1) (.cons (.int 3) .nil)))),
      (.asg (.tp [(.nm 4), (.nm 5)]) (.var 3)),
      (.for_ (.nm 6) (.rng (.int 4)) [(.asg (.nm 7) (.call 52 (.cons (.var 1) (.cons (.var 3) .nil)))),
      (.par2 8 9 false false (.call 46 (.cons (.var 3) (.cons (.var 7) .nil))) (.call 27 (.cons (.var 1) (.cons (.bin .add (.var 5) (.lst (.cons (.call 35 (.cons (.var 1) (.cons (.var 4) .nil))) .nil))) .nil)))),
      (.asg (.nm 10) (.call 45 (.cons (.var 4) (.cons (.var 7) (.cons (.var 9) .nil))))),
      (.asg (.nm 11) (.lst (.cons (.call 26 (.cons (.call 37 (.cons (.var 1) (.cons (.var 3) .nil))) (.cons (.bi .tuple (.var 7)) .nil))) (.cons (.callk 26 [1, 0] (.cons (.bi .list (.var 7)) (.cons (.call 31 (.cons (.var 3) .nil)) .nil))) .nil)))),
      (.asg (.nm 12) (.lst (.cons (.call 24 (.cons (.bi .tuple (.var 4)) (.cons (.bi .list (.var 7)) (.cons (.call 37 (.cons (.var 1) (.cons (.var 9) .nil))) .nil)))) (.cons (.callk 24 [2, 1, 0] (.cons (.call 31 (.cons (.var 9) .nil)) (.cons (.bi .tuple (.var 7)) (.cons (.bi .list (.var 4)) .nil)))) .nil)))),
      (.ite (.or (.not (.call 29 (.cons (.var 11) (.cons (.lst (.cons (.var 8) (.cons (.var 8) .nil))) .nil)))) (.one (.not (.call 29 (.cons (.var 12) (.cons (.lst (.cons (.var 10) (.cons (.var 10) .nil))) .nil)))))) [(.ret (.bl false))] []),
      (.asg (.nm 13) (.draw (.var 1) (.bi .len (.var 7)))),
      (.asg (.tp [(.nm 14), (.nm 15)]) (.tup (.cons (.call 27 (.cons (.var 1) (.cons (.lst (.cons (.neg (.int 1)) (.cons (.bl true) (.cons (.str (sx [48])) (.cons (.lst (.cons (.int 0) .nil)) .nil))))) .nil))) (.cons (.draw (.var 1) (.bi .len (.var 7))) .nil)))),
      (.for_ (.nm 16) (.e (.tup (.cons (.var 7) (.cons (.bi .tuple (.var 7)) (.cons (.bin .add (.var 7) (.lst (.cons (.int 0) .nil))) (.cons (.from_ (.var 7) (.int 1)) (.cons .non (.cons (.str (sx [97, 98])) (.cons (.dct .nil) (.cons (.comp [17, 18] (.ite (.cmp .mem (.var 17) (.tup (.cons (.var 13) (.cons (.var 15) .nil)))) (.var 14) (.var 18)) (.tp [(.nm 17), (.nm 18)]) (.enum (.var 7))) .nil)))))))))) [(.par2 19 20 false false (.call 47 (.cons (.var 4) (.cons (.var 16) .nil))) (.call 31 (.cons (.var 16) .nil))),
      (.ite (.or (.not (.call 29 (.cons (.lst (.cons (.call 21 (.cons (.bi .list (.var 4)) (.cons (.var 20) .nil))) (.cons (.callk 21 [1, 0] (.cons (.call 31 (.cons (.var 16) .nil)) (.cons (.bi .tuple (.var 4)) .nil))) .nil))) (.cons (.lst (.cons (.var 19) (.cons (.var 19) .nil))) .nil)))) (.one (.not (.call 29 (.cons (.var 20) (.cons (.var 16) .nil)))))) [(.ret (.bl false))] []),
      (.ite (.and (.cmp .isnot (.var 19) .non) (.one (.not (.call 29 (.cons (.callL 53 (.call 24 (.cons (.bi .list (.var 4)) (.cons (.var 16) (.cons .non .nil))))) (.cons (.tup (.cons (.str (sx [114, 97, 110, 107, 115])) (.cons (.var 19) .nil))) .nil)))))) [(.ret (.bl false))] []),
      (.ite (.and (.cmp .isnot (.var 19) .non) (.one (.not (.call 29 (.cons (.callL 53 (.call 26 (.cons (.call 31 (.cons (.var 3) .nil)) (.cons (.var 16) .nil)))) (.cons (.tup (.cons (.str (sx [114, 97, 110, 107, 115])) (.cons (.var 19) .nil))) .nil)))))) [(.ret (.bl false))] [])])]),
      (.for_ (.nm 6) (.rng (.int 6)) [(.asg (.nm 16) (.ite (.cmp .gt (.var 6) (.int 0)) (.call 51 (.cons (.var 1) (.cons (.var 3) .nil))) (.var 3))),
      (.par2 19 20 false false (.call 50 (.cons (.var 16) .nil)) (.call 31 (.cons (.var 16) .nil))),
      (.ite (.or (.not (.call 29 (.cons (.lst (.cons (.call 17 (.cons (.var 20) .nil)) (.cons (.callk 17 [0] (.cons (.call 31 (.cons (.var 16) .nil)) .nil)) .nil))) (.cons (.lst (.cons (.var 19) (.cons (.var 19) .nil))) .nil)))) (.one (.not (.call 29 (.cons (.var 20) (.cons (.var 16) .nil)))))) [(.ret (.bl false))] []),
      (.ite (.and (.cmp .isnot (.var 19) .non) (.one (.not (.call 29 (.cons (.callL 53 (.call 26 (.cons (.call 31 (.cons (.var 16) .nil)) (.cons .non .nil)))) (.cons (.tup (.cons (.str (sx [98, 111, 111, 107])) (.cons (.var 19) .nil))) .nil)))))) [(.ret (.bl false))] [])]),
      (.asg (.nm 14) (.call 27 (.cons (.var 1) (.cons (.lst (.cons .non (.cons (.tup (.cons (.tup (.cons (.str (sx [116, 114, 117, 101])) .nil)) .nil)) (.cons (.tup (.cons (.tup (.cons (.str (sx [108, 101, 116, 116, 101, 114])) (.cons (.str (sx [122, 122])) .nil))) (.cons (.tup (.cons (.str (sx [116, 114, 117, 101])) .nil)) .nil))) (.cons (.str (sx [97, 98])) (.cons (.tup (.cons (.tup (.cons (.str (sx [116, 114, 117, 101])) .nil)) (.cons (.int 5) .nil))) .nil)))))) .nil)))),
      (.new 21 (.lst (.cons (.callL 53 (.call 24 (.cons (.bi .list (.var 4)) (.cons (.bin .mul (.lst (.cons (.int 0) .nil)) (.bi .len (.call 38 (.cons (.var 4) .nil)))) (.cons (.var 14) .nil))))) .nil))),
      (.expr (.mut .append 21 (.cons (.callL 53 (.call 24 (.cons (.lst (.cons (.str (sx [98])) (.cons (.str (sx [97])) .nil))) (.cons .non (.cons .non .nil))))) .nil))),
      (.expr (.mut .append 21 (.cons (.callL 53 (.call 21 (.cons (.lst (.cons (.str (sx [97])) (.cons (.str (sx [65])) .nil))) (.cons .non .nil)))) .nil))),
      (.ite (.not (.call 29 (.cons (.var 21) (.cons (.lst (.cons (.tup (.cons (.str (sx [115, 97, 121, 105, 110, 103])) (.cons (.var 14) .nil))) (.cons (.tup (.cons (.str (sx [108, 101, 116, 116, 101, 114, 115])) (.cons (.int 1) .nil))) (.cons (.tup (.cons (.str (sx [108, 101, 116, 116, 101, 114, 115])) (.cons (.int 1) .nil))) .nil)))) .nil)))) [(.ret (.bl false))] [])]),
      (.ret (.bl true))] }
def fns_k11 : Nat → Option Fn
  | 1 => some f1
  | 2 => some f2
  | 3 => some f3
  | 4 => some f4
  | 5 => some f5
  | 6 => some f6
  | 7 => some f7
  | 8 => some f8
  | 9 => some f9
  | 10 => some f10
  | 11 => some f11
  | 12 => some f12
  | 13 => some f13
  | 14 => some f14
  | 15 => some f15
  | 16 => some f16
  | 17 => some f17
  | 18 => some f18
  | 19 => some f19
  | 20 => some f20
  | 21 => some f21
  | 22 => some f22
  | 23 => some f23
  | 24 => some f24
  | 25 => some f25
  | 26 => some f26
  | 27 => some f27
  | 28 => some f28
  | 29 => some f29
  | 30 => some f30
  | 31 => some f31
  | 32 => some f32
  | 33 => some f33
  | 34 => some f34
  | 35 => some f35
  | 36 => some f36
  | 37 => some f37
  | 38 => some f38
  | 39 => some f39
  | 40 => some f40
  | 41 => some f41
  | 42 => some f42
  | 43 => some f43
  | 44 => some f44
  | 45 => some f45
  | 46 => some f46
  | 47 => some f47
  | 48 => some f48
  | 49 => some f49
  | 50 => some f50
  | 51 => some f51
  | 52 => some f52
  | 53 => some f53
  | 54 => some f54
  | _ => none
def fld_k11 (c k : Nat) : Bool := [(1, 1), (2, 0), (3, 0), (4, 2)].contains (c, k)
def P_k11 : Prg := ⟨fns_k11, fld_k11⟩
def law_k11 : Nat := 54
def n1 : List Str := [("thing" : Str)]
def o1 : List Nat := []
def n2 : List Str := [("thing" : Str)]
def o2 : List Nat := []
def n3 : List Str := [("thing" : Str)]
def o3 : List Nat := []
def n4 : List Str := [("thing" : Str), ("many" : Str)]
def o4 : List Nat := []
def n5 : List Str := [("thing" : Str), ("sign" : Str)]
def o5 : List Nat := []
def n6 : List Str := [("thing" : Str), ("index" : Str), ("letter" : Str)]
def o6 : List Nat := []
def n7 : List Str := [("letters" : Str), ("wrong" : Str)]
def o7 : List Nat := []
def n8 : List Str := [("letters" : Str), ("found" : Str), ("letter" : Str), ("world" : Str)]
def o8 : List Nat := []
def n9 : List Str := [("thing" : Str)]
def o9 : List Nat := []
def n10 : List Str := [("formula" : Str), ("found" : Str), ("part" : Str)]
def o10 : List Nat := [1]
def n11 : List Str := [("letters" : Str), ("thing" : Str), ("letter" : Str)]
def o11 : List Nat := []
def n12 : List Str := [("formula" : Str), ("world" : Str), ("word" : Str), ("one" : Str), ("other" : Str)]
def o12 : List Nat := []
def n13 : List Str := [("letters" : Str), ("thing" : Str)]
def o13 : List Nat := []
def n14 : List Str := [("saying" : Str), ("world" : Str)]
def o14 : List Nat := []
def n15 : List Str := [("saying" : Str), ("world" : Str)]
def o15 : List Nat := []
def n16 : List Str := [("thing" : Str), ("wrong" : Str), ("index" : Str), ("saying" : Str)]
def o16 : List Nat := []
def n17 : List Str := [("thing" : Str)]
def o17 : List Nat := []
def n18 : List Str := [("book" : Str), ("fault" : Str)]
def o18 : List Nat := []
def n19 : List Str := [("letters" : Str), ("saying" : Str)]
def o19 : List Nat := []
def n20 : List Str := [("letters" : Str), ("thing" : Str), ("index" : Str), ("rank" : Str)]
def o20 : List Nat := []
def n21 : List Str := [("letters" : Str), ("thing" : Str)]
def o21 : List Nat := []
def n22 : List Str := [("worlds" : Str), ("ranks" : Str), ("saying" : Str), ("is_wanted" : Str), ("numbers" : Str), ("world" : Str), ("rank" : Str)]
def o22 : List Nat := []
def n23 : List Str := [("letters" : Str), ("ranks" : Str), ("saying" : Str), ("worlds" : Str), ("good" : Str), ("bad" : Str)]
def o23 : List Nat := []
def n24 : List Str := [("letters" : Str), ("ranks" : Str), ("saying" : Str), ("fault" : Str)]
def o24 : List Nat := []
def n25 : List Str := [("book" : Str), ("ranks" : Str), ("index" : Str), ("saying" : Str)]
def o25 : List Nat := []
def n26 : List Str := [("book" : Str), ("ranks" : Str), ("fault" : Str)]
def o26 : List Nat := []
def n27 : List Str := [("stream" : Str), ("things" : Str)]
def o27 : List Nat := []
def n28 : List Str := [("stream" : Str), ("things" : Str), ("left" : Str), ("found" : Str), ("k" : Str)]
def o28 : List Nat := [2, 3]
def n29 : List Str := [("found" : Str), ("due" : Str), ("mine" : Str), ("theirs" : Str)]
def o29 : List Nat := []
def n30 : List Str := [("stream" : Str), ("thing" : Str), ("some" : Str), ("one" : Str)]
def o30 : List Nat := []
def n31 : List Str := [("thing" : Str), ("some" : Str), ("one" : Str), ("key" : Str)]
def o31 : List Nat := []
def n32 : List Str := [("thing" : Str)]
def o32 : List Nat := []
def n33 : List Str := [("stream" : Str), ("letters" : Str), ("deep" : Str), ("way" : Str), ("word" : Str)]
def o33 : List Nat := []
def n34 : List Str := [("stream" : Str), ("letters" : Str), ("some" : Str), ("other" : Str), ("part" : Str), ("way" : Str)]
def o34 : List Nat := []
def n35 : List Str := [("stream" : Str), ("letters" : Str)]
def o35 : List Nat := []
def n36 : List Str := [("stream" : Str), ("most" : Str), ("letters" : Str), ("sayings" : Str), ("k" : Str), ("one" : Str), ("two" : Str), ("three" : Str), ("letter" : Str), ("other" : Str)]
def o36 : List Nat := []
def n37 : List Str := [("stream" : Str), ("thing" : Str)]
def o37 : List Nat := []
def n38 : List Str := [("letters" : Str), ("found" : Str), ("letter" : Str), ("world" : Str)]
def o38 : List Nat := []
def n39 : List Str := [("formula" : Str), ("world" : Str), ("word" : Str), ("parts" : Str), ("part" : Str)]
def o39 : List Nat := []
def n40 : List Str := [("letters" : Str), ("thing" : Str), ("word" : Str), ("rest" : Str), ("many" : Str), ("part" : Str)]
def o40 : List Nat := []
def n41 : List Str := [("thing" : Str), ("sign" : Str)]
def o41 : List Nat := []
def n42 : List Str := [("letters" : Str), ("thing" : Str), ("part" : Str)]
def o42 : List Nat := []
def n43 : List Str := [("saying" : Str), ("world" : Str)]
def o43 : List Nat := []
def n44 : List Str := [("saying" : Str), ("world" : Str)]
def o44 : List Nat := []
def n45 : List Str := [("letters" : Str), ("ranks" : Str), ("saying" : Str), ("pairs" : Str), ("rank" : Str), ("world" : Str), ("good" : Str)]
def o45 : List Nat := []
def n46 : List Str := [("book" : Str), ("ranks" : Str), ("lacks" : Str), ("k" : Str), ("saying" : Str)]
def o46 : List Nat := []
def n47 : List Str := [("letters" : Str), ("thing" : Str), ("wrong" : Str), ("k" : Str), ("rank" : Str)]
def o47 : List Nat := []
def n48 : List Str := [("letters" : Str), ("sayings" : Str), ("left" : Str), ("found" : Str), ("worlds" : Str), ("good" : Str), ("world" : Str), ("k" : Str), ("layer" : Str)]
def o48 : List Nat := []
def n49 : List Str := [("letters" : Str), ("sayings" : Str), ("parts" : Str), ("left" : Str), ("found" : Str), ("world" : Str), ("numbers" : Str), ("number" : Str), ("layer" : Str), ("k" : Str)]
def o49 : List Nat := [4]
def n50 : List Str := [("thing" : Str), ("some" : Str), ("letters" : Str), ("sayings" : Str), ("k" : Str), ("letter" : Str), ("wrong" : Str), ("saying" : Str)]
def o50 : List Nat := []
def n51 : List Str := [("stream" : Str), ("book" : Str), ("letters" : Str), ("sayings" : Str), ("way" : Str), ("at" : Str), ("odd" : Str)]
def o51 : List Nat := []
def n52 : List Str := [("stream" : Str), ("book" : Str), ("worlds" : Str), ("way" : Str), ("saying" : Str), ("world" : Str)]
def o52 : List Nat := []
def n53 : List Str := [("ask" : Str), ("e" : Str)]
def o53 : List Nat := []
def n54 : List Str := [("script" : Str), ("stream" : Str), ("turn" : Str), ("book" : Str), ("letters" : Str), ("sayings" : Str), ("k" : Str), ("ranks" : Str), ("due" : Str), ("saying" : Str), ("so" : Str), ("found" : Str), ("told" : Str), ("at" : Str), ("odd" : Str), ("two" : Str), ("thing" : Str), ("place" : Str), ("rank" : Str), ("fault" : Str), ("handed" : Str), ("wrong" : Str)]
def o54 : List Nat := [21]
def defs_k11 : List (Str × Nat × List Str) := [(("is_list" : Str), 1, [("thing" : Str)]), (("is_whole" : Str), 2, [("thing" : Str)]), (("is_number" : Str), 3, [("thing" : Str)]), (("is_row" : Str), 4, [("thing" : Str), ("many" : Str)]), (("is_letter" : Str), 5, [("thing" : Str)]), (("first_bad_letter" : Str), 6, [("thing" : Str)]), (("check_letters" : Str), 7, [("letters" : Str)]), (("all_worlds" : Str), 8, [("letters" : Str)]), (("is_any_formula" : Str), 9, [("thing" : Str)]), (("letters_in" : Str), 10, [("formula" : Str)]), (("is_formula" : Str), 11, [("letters" : Str), ("thing" : Str)]), (("is_so" : Str), 12, [("formula" : Str), ("world" : Str)]), (("is_saying" : Str), 13, [("letters" : Str), ("thing" : Str)]), (("is_met" : Str), 14, [("saying" : Str), ("world" : Str)]), (("is_broken" : Str), 15, [("saying" : Str), ("world" : Str)]), (("fault_of" : Str), 16, [("thing" : Str)]), (("book_fault" : Str), 17, [("thing" : Str)]), (("check_book" : Str), 18, [("book" : Str)]), (("check_saying" : Str), 19, [("letters" : Str), ("saying" : Str)]), (("fault_of_ranks" : Str), 20, [("letters" : Str), ("thing" : Str)]), (("ranks_fault" : Str), 21, [("letters" : Str), ("thing" : Str)]), (("least_rank" : Str), 22, [("worlds" : Str), ("ranks" : Str), ("saying" : Str), ("is_wanted" : Str)]), (("do_bear" : Str), 23, [("letters" : Str), ("ranks" : Str), ("saying" : Str)]), (("bears" : Str), 24, [("letters" : Str), ("ranks" : Str), ("saying" : Str)]), (("unborne" : Str), 25, [("book" : Str), ("ranks" : Str)]), (("first_unborne" : Str), 26, [("book" : Str), ("ranks" : Str)]), (("_law_pick" : Str), 27, [("stream" : Str), ("things" : Str)]), (("_law_mixed" : Str), 28, [("stream" : Str), ("things" : Str)]), (("_law_same" : Str), 29, [("found" : Str), ("due" : Str)]), (("_law_loose" : Str), 30, [("stream" : Str), ("thing" : Str)]), (("_law_copied" : Str), 31, [("thing" : Str)]), (("_law_is_whole" : Str), 32, [("thing" : Str)]), (("_law_drawn_formula" : Str), 33, [("stream" : Str), ("letters" : Str), ("deep" : Str)]), (("_law_small" : Str), 34, [("stream" : Str), ("letters" : Str)]), (("_law_saying" : Str), 35, [("stream" : Str), ("letters" : Str)]), (("_law_book" : Str), 36, [("stream" : Str), ("most" : Str)]), (("_law_handed" : Str), 37, [("stream" : Str), ("thing" : Str)]), (("_law_worlds" : Str), 38, [("letters" : Str)]), (("_law_holds" : Str), 39, [("formula" : Str), ("world" : Str)]), (("_law_is_formula" : Str), 40, [("letters" : Str), ("thing" : Str)]), (("_law_is_letter" : Str), 41, [("thing" : Str)]), (("_law_is_saying" : Str), 42, [("letters" : Str), ("thing" : Str)]), (("_law_met_there" : Str), 43, [("saying" : Str), ("world" : Str)]), (("_law_broken" : Str), 44, [("saying" : Str), ("world" : Str)]), (("_law_bears" : Str), 45, [("letters" : Str), ("ranks" : Str), ("saying" : Str)]), (("_law_unborne" : Str), 46, [("book" : Str), ("ranks" : Str)]), (("_law_ranks_fault" : Str), 47, [("letters" : Str), ("thing" : Str)]), (("_law_layers" : Str), 48, [("letters" : Str), ("sayings" : Str)]), (("_law_least" : Str), 49, [("letters" : Str), ("sayings" : Str)]), (("_law_fault" : Str), 50, [("thing" : Str)]), (("_law_bent" : Str), 51, [("stream" : Str), ("book" : Str)]), (("_law_drawn_ranks" : Str), 52, [("stream" : Str), ("book" : Str)]), (("_law_met" : Str), 53, [("ask" : Str)]), (("law" : Str), 54, [("script" : Str)])]
def errs_k11 : List (Str × Nat) := [(("BadLetters" : Str), 1), (("BadBook" : Str), 2), (("BadRanks" : Str), 3), (("BadSaying" : Str), 4)]
def hands_k11 : List (Str × List Nat) := [(("BadLetters" : Str), [1]), (("BadBook" : Str), [2]), (("BadRanks" : Str), [3]), (("BadSaying" : Str), [4]), (("SayError" : Str), [1, 2, 3, 4])]
def flds_k11 : List (Str × Nat) := [(("fault" : Str), 0), (("index" : Str), 1), (("saying" : Str), 2)]
def names_k11 : List (Nat × Str × List Str × List Nat) := [(1, ("is_list" : Str), n1, o1), (2, ("is_whole" : Str), n2, o2), (3, ("is_number" : Str), n3, o3), (4, ("is_row" : Str), n4, o4), (5, ("is_letter" : Str), n5, o5), (6, ("first_bad_letter" : Str), n6, o6), (7, ("check_letters" : Str), n7, o7), (8, ("all_worlds" : Str), n8, o8), (9, ("is_any_formula" : Str), n9, o9), (10, ("letters_in" : Str), n10, o10), (11, ("is_formula" : Str), n11, o11), (12, ("is_so" : Str), n12, o12), (13, ("is_saying" : Str), n13, o13), (14, ("is_met" : Str), n14, o14), (15, ("is_broken" : Str), n15, o15), (16, ("fault_of" : Str), n16, o16), (17, ("book_fault" : Str), n17, o17), (18, ("check_book" : Str), n18, o18), (19, ("check_saying" : Str), n19, o19), (20, ("fault_of_ranks" : Str), n20, o20), (21, ("ranks_fault" : Str), n21, o21), (22, ("least_rank" : Str), n22, o22), (23, ("do_bear" : Str), n23, o23), (24, ("bears" : Str), n24, o24), (25, ("unborne" : Str), n25, o25), (26, ("first_unborne" : Str), n26, o26), (27, ("_law_pick" : Str), n27, o27), (28, ("_law_mixed" : Str), n28, o28), (29, ("_law_same" : Str), n29, o29), (30, ("_law_loose" : Str), n30, o30), (31, ("_law_copied" : Str), n31, o31), (32, ("_law_is_whole" : Str), n32, o32), (33, ("_law_drawn_formula" : Str), n33, o33), (34, ("_law_small" : Str), n34, o34), (35, ("_law_saying" : Str), n35, o35), (36, ("_law_book" : Str), n36, o36), (37, ("_law_handed" : Str), n37, o37), (38, ("_law_worlds" : Str), n38, o38), (39, ("_law_holds" : Str), n39, o39), (40, ("_law_is_formula" : Str), n40, o40), (41, ("_law_is_letter" : Str), n41, o41), (42, ("_law_is_saying" : Str), n42, o42), (43, ("_law_met_there" : Str), n43, o43), (44, ("_law_broken" : Str), n44, o44), (45, ("_law_bears" : Str), n45, o45), (46, ("_law_unborne" : Str), n46, o46), (47, ("_law_ranks_fault" : Str), n47, o47), (48, ("_law_layers" : Str), n48, o48), (49, ("_law_least" : Str), n49, o49), (50, ("_law_fault" : Str), n50, o50), (51, ("_law_bent" : Str), n51, o51), (52, ("_law_drawn_ranks" : Str), n52, o52), (53, ("_law_met" : Str), n53, o53), (54, ("law" : Str), n54, o54)]
end Us
end

section
set_option Elab.async false
set_option linter.all false
set_option maxRecDepth 100000
set_option maxHeartbeats 0
namespace Us.K11
open PySem PySem.Spec PyProof.Rows L2 Us
abbrev prog : Program := PySem.Challenge.pw_usuallyso_k11_whole_books_and_ranks_that
abbrev opened : PySem.W.OpenLaw := PySem.Challenge.rw_usuallyso_k11_whole_books_and_ranks_that
def top (i : Nat) : Stmt := prog.main.body.getD i (.Pass ⟨0, 0, 0, 0⟩)
def es : List Ent := ([⟨1, ("is_list" : Str), [("thing" : Str)], n1, o1, false, false, f1, top 1⟩, ⟨2, ("is_whole" : Str), [("thing" : Str)], n2, o2, false, false, f2, top 2⟩, ⟨3, ("is_number" : Str), [("thing" : Str)], n3, o3, false, false, f3, top 3⟩, ⟨4, ("is_row" : Str), [("thing" : Str), ("many" : Str)], n4, o4, false, false, f4, top 4⟩, ⟨5, ("is_letter" : Str), [("thing" : Str)], n5, o5, false, false, f5, top 12⟩, ⟨6, ("first_bad_letter" : Str), [("thing" : Str)], n6, o6, false, false, f6, top 13⟩, ⟨7, ("check_letters" : Str), [("letters" : Str)], n7, o7, false, false, f7, top 14⟩, ⟨8, ("all_worlds" : Str), [("letters" : Str)], n8, o8, false, false, f8, top 15⟩, ⟨9, ("is_any_formula" : Str), [("thing" : Str)], n9, o9, false, false, f9, top 16⟩, ⟨10, ("letters_in" : Str), [("formula" : Str)], n10, o10, false, false, f10, top 17⟩, ⟨11, ("is_formula" : Str), [("letters" : Str), ("thing" : Str)], n11, o11, false, false, f11, top 18⟩, ⟨12, ("is_so" : Str), [("formula" : Str), ("world" : Str)], n12, o12, false, false, f12, top 19⟩, ⟨13, ("is_saying" : Str), [("letters" : Str), ("thing" : Str)], n13, o13, false, false, f13, top 20⟩, ⟨14, ("is_met" : Str), [("saying" : Str), ("world" : Str)], n14, o14, false, false, f14, top 21⟩, ⟨15, ("is_broken" : Str), [("saying" : Str), ("world" : Str)], n15, o15, false, false, f15, top 22⟩, ⟨16, ("fault_of" : Str), [("thing" : Str)], n16, o16, false, false, f16, top 24⟩, ⟨17, ("book_fault" : Str), [("thing" : Str)], n17, o17, false, false, f17, top 25⟩, ⟨18, ("check_book" : Str), [("book" : Str)], n18, o18, false, false, f18, top 26⟩, ⟨19, ("check_saying" : Str), [("letters" : Str), ("saying" : Str)], n19, o19, false, false, f19, top 27⟩, ⟨20, ("fault_of_ranks" : Str), [("letters" : Str), ("thing" : Str)], n20, o20, false, false, f20, top 28⟩] : List _) ++ ([⟨21, ("ranks_fault" : Str), [("letters" : Str), ("thing" : Str)], n21, o21, false, false, f21, top 29⟩, ⟨22, ("least_rank" : Str), [("worlds" : Str), ("ranks" : Str), ("saying" : Str), ("is_wanted" : Str)], n22, o22, false, false, f22, top 30⟩, ⟨23, ("do_bear" : Str), [("letters" : Str), ("ranks" : Str), ("saying" : Str)], n23, o23, false, false, f23, top 31⟩, ⟨24, ("bears" : Str), [("letters" : Str), ("ranks" : Str), ("saying" : Str)], n24, o24, false, false, f24, top 32⟩, ⟨25, ("unborne" : Str), [("book" : Str), ("ranks" : Str)], n25, o25, false, false, f25, top 33⟩, ⟨26, ("first_unborne" : Str), [("book" : Str), ("ranks" : Str)], n26, o26, false, false, f26, top 34⟩, ⟨27, ("_law_pick" : Str), [("stream" : Str), ("things" : Str)], n27, o27, false, false, f27, top 38⟩, ⟨28, ("_law_mixed" : Str), [("stream" : Str), ("things" : Str)], n28, o28, false, false, f28, top 39⟩, ⟨29, ("_law_same" : Str), [("found" : Str), ("due" : Str)], n29, o29, false, false, f29, top 40⟩, ⟨30, ("_law_loose" : Str), [("stream" : Str), ("thing" : Str)], n30, o30, false, false, f30, top 41⟩, ⟨31, ("_law_copied" : Str), [("thing" : Str)], n31, o31, false, false, f31, top 42⟩, ⟨32, ("_law_is_whole" : Str), [("thing" : Str)], n32, o32, false, false, f32, top 43⟩, ⟨33, ("_law_drawn_formula" : Str), [("stream" : Str), ("letters" : Str), ("deep" : Str)], n33, o33, false, false, f33, top 44⟩, ⟨34, ("_law_small" : Str), [("stream" : Str), ("letters" : Str)], n34, o34, false, false, f34, top 45⟩, ⟨35, ("_law_saying" : Str), [("stream" : Str), ("letters" : Str)], n35, o35, false, false, f35, top 46⟩, ⟨36, ("_law_book" : Str), [("stream" : Str), ("most" : Str)], n36, o36, false, false, f36, top 47⟩, ⟨37, ("_law_handed" : Str), [("stream" : Str), ("thing" : Str)], n37, o37, false, false, f37, top 48⟩, ⟨38, ("_law_worlds" : Str), [("letters" : Str)], n38, o38, false, false, f38, top 49⟩, ⟨39, ("_law_holds" : Str), [("formula" : Str), ("world" : Str)], n39, o39, false, false, f39, top 50⟩, ⟨40, ("_law_is_formula" : Str), [("letters" : Str), ("thing" : Str)], n40, o40, false, false, f40, top 51⟩] : List _) ++ ([⟨41, ("_law_is_letter" : Str), [("thing" : Str)], n41, o41, false, false, f41, top 52⟩, ⟨42, ("_law_is_saying" : Str), [("letters" : Str), ("thing" : Str)], n42, o42, false, false, f42, top 53⟩, ⟨43, ("_law_met_there" : Str), [("saying" : Str), ("world" : Str)], n43, o43, false, false, f43, top 54⟩, ⟨44, ("_law_broken" : Str), [("saying" : Str), ("world" : Str)], n44, o44, false, false, f44, top 55⟩, ⟨45, ("_law_bears" : Str), [("letters" : Str), ("ranks" : Str), ("saying" : Str)], n45, o45, false, false, f45, top 56⟩, ⟨46, ("_law_unborne" : Str), [("book" : Str), ("ranks" : Str)], n46, o46, false, false, f46, top 57⟩, ⟨47, ("_law_ranks_fault" : Str), [("letters" : Str), ("thing" : Str)], n47, o47, false, false, f47, top 58⟩, ⟨48, ("_law_layers" : Str), [("letters" : Str), ("sayings" : Str)], n48, o48, false, false, f48, top 59⟩, ⟨49, ("_law_least" : Str), [("letters" : Str), ("sayings" : Str)], n49, o49, false, false, f49, top 60⟩, ⟨50, ("_law_fault" : Str), [("thing" : Str)], n50, o50, false, false, f50, top 61⟩, ⟨51, ("_law_bent" : Str), [("stream" : Str), ("book" : Str)], n51, o51, false, false, f51, top 62⟩, ⟨52, ("_law_drawn_ranks" : Str), [("stream" : Str), ("book" : Str)], n52, o52, false, false, f52, top 63⟩, ⟨53, ("_law_met" : Str), [("ask" : Str)], n53, o53, true, false, f53, top 64⟩, ⟨54, ("law" : Str), [("script" : Str)], n54, o54, false, true, f54, top 65⟩] : List _)
def cs : List CEnt := [⟨1, ("BadLetters" : Str), ("index" : Str), top 7⟩, ⟨2, ("BadBook" : Str), ("fault" : Str), top 8⟩, ⟨3, ("BadRanks" : Str), ("fault" : Str), top 9⟩, ⟨4, ("BadSaying" : Str), ("saying" : Str), top 10⟩]
def row : RowI := { es := es, cs := cs, hands := hands_k11, flds := flds_k11, cap := fun z => decide (z < 2 ^ 40), dst := top 37, sst := top 36 }
def tf : List He.Defn := [(("law" : Str), none)]
def dpos : List Pos := ([⟨149, 4, 149, 10⟩, ⟨149, 11, 149, 12⟩, ⟨149, 4, 149, 13⟩, ⟨149, 16, 149, 22⟩, ⟨149, 23, 149, 24⟩, ⟨149, 16, 149, 25⟩, ⟨149, 28, 149, 29⟩, ⟨149, 16, 149, 29⟩, ⟨149, 4, 149, 29⟩, ⟨150, 10, 150, 16⟩, ⟨150, 17, 150, 18⟩, ⟨150, 10, 150, 19⟩, ⟨150, 23, 150, 24⟩, ⟨150, 10, 150, 24⟩, ⟨150, 29, 150, 35⟩, ⟨150, 36, 150, 37⟩, ⟨150, 29, 150, 38⟩, ⟨150, 42, 150, 44⟩, ⟨150, 29, 150, 44⟩, ⟨150, 10, 150, 44⟩, ⟨151, 8, 151, 12⟩, ⟨151, 15, 151, 18⟩, ⟨151, 19, 151, 25⟩, ⟨151, 26, 151, 27⟩, ⟨151, 19, 151, 28⟩, ⟨151, 19, 151, 32⟩, ⟨151, 33, 151, 34⟩, ⟨151, 19, 151, 35⟩, ⟨151, 15, 151, 36⟩, ⟨151, 8, 151, 36⟩] : List _) ++ ([⟨152, 8, 152, 14⟩, ⟨152, 15, 152, 16⟩, ⟨152, 8, 152, 17⟩, ⟨152, 20, 152, 23⟩, ⟨152, 24, 152, 30⟩, ⟨152, 31, 152, 32⟩, ⟨152, 24, 152, 33⟩, ⟨152, 36, 152, 40⟩, ⟨152, 24, 152, 40⟩, ⟨152, 43, 152, 47⟩, ⟨152, 24, 152, 47⟩, ⟨152, 50, 152, 51⟩, ⟨152, 24, 152, 51⟩, ⟨152, 20, 152, 52⟩, ⟨152, 55, 152, 65⟩, ⟨152, 20, 152, 65⟩, ⟨152, 8, 152, 65⟩, ⟨153, 8, 153, 14⟩, ⟨153, 15, 153, 16⟩, ⟨153, 8, 153, 17⟩, ⟨153, 28, 153, 32⟩, ⟨153, 36, 153, 38⟩, ⟨153, 42, 153, 44⟩, ⟨153, 36, 153, 44⟩, ⟨153, 28, 153, 44⟩, ⟨153, 20, 153, 24⟩, ⟨153, 50, 153, 51⟩, ⟨153, 20, 153, 51⟩, ⟨153, 8, 153, 51⟩, ⟨150, 4, 153, 51⟩] : List _) ++ ([⟨154, 7, 154, 13⟩, ⟨154, 14, 154, 15⟩, ⟨154, 7, 154, 16⟩, ⟨154, 19, 154, 20⟩, ⟨154, 7, 154, 20⟩, ⟨155, 8, 155, 13⟩, ⟨155, 16, 155, 19⟩, ⟨155, 20, 155, 26⟩, ⟨155, 27, 155, 28⟩, ⟨155, 20, 155, 29⟩, ⟨155, 16, 155, 30⟩, ⟨155, 33, 155, 37⟩, ⟨155, 16, 155, 37⟩, ⟨155, 8, 155, 37⟩, ⟨156, 8, 156, 14⟩, ⟨156, 15, 156, 16⟩, ⟨156, 8, 156, 17⟩, ⟨156, 20, 156, 26⟩, ⟨156, 27, 156, 28⟩, ⟨156, 20, 156, 29⟩, ⟨156, 33, 156, 37⟩, ⟨156, 20, 156, 37⟩, ⟨156, 8, 156, 37⟩, ⟨157, 15, 157, 20⟩, ⟨157, 8, 157, 20⟩, ⟨154, 4, 157, 20⟩, ⟨158, 4, 158, 9⟩, ⟨158, 12, 158, 15⟩, ⟨158, 17, 158, 23⟩, ⟨158, 24, 158, 25⟩] : List _) ++ ([⟨158, 17, 158, 26⟩, ⟨158, 29, 158, 33⟩, ⟨158, 36, 158, 42⟩, ⟨158, 43, 158, 44⟩, ⟨158, 36, 158, 45⟩, ⟨158, 29, 158, 45⟩, ⟨158, 17, 158, 45⟩, ⟨158, 48, 158, 53⟩, ⟨158, 17, 158, 53⟩, ⟨158, 58, 158, 59⟩, ⟨158, 16, 158, 59⟩, ⟨158, 12, 158, 60⟩, ⟨158, 63, 158, 73⟩, ⟨158, 12, 158, 73⟩, ⟨158, 4, 158, 73⟩, ⟨159, 11, 159, 14⟩, ⟨159, 16, 159, 21⟩, ⟨159, 24, 159, 29⟩, ⟨159, 16, 159, 29⟩, ⟨159, 32, 159, 37⟩, ⟨159, 40, 159, 46⟩, ⟨159, 47, 159, 48⟩, ⟨159, 40, 159, 49⟩, ⟨159, 32, 159, 49⟩, ⟨159, 16, 159, 49⟩, ⟨159, 52, 159, 54⟩, ⟨159, 16, 159, 54⟩, ⟨159, 59, 159, 60⟩, ⟨159, 15, 159, 60⟩, ⟨159, 11, 159, 61⟩] : List _) ++ ([⟨159, 64, 159, 74⟩, ⟨159, 11, 159, 74⟩, ⟨159, 77, 159, 81⟩, ⟨159, 11, 159, 81⟩, ⟨159, 4, 159, 81⟩] : List _)
def spos : List Pos := ([⟨147, 12, 147, 16⟩, ⟨147, 17, 147, 23⟩, ⟨147, 12, 147, 24⟩, ⟨147, 26, 147, 27⟩, ⟨147, 29, 147, 30⟩, ⟨147, 32, 147, 34⟩, ⟨147, 11, 147, 35⟩, ⟨147, 4, 147, 35⟩] : List _)

theorem init0 : ∃ p1 p2 q1 q2 q3 q4 : Pos, defArgs (initOf (top 7)) = PySem.UsErr.iA ("index" : Str) p1 p2 ∧ defBody (initOf (top 7)) = PySem.UsErr.iB ("index" : Str) q1 q2 q3 q4 ∧ defScope (initOf (top 7)) = PySem.UsErr.iS ("index" : Str) :=
  ⟨⟨15, 17, 15, 21⟩, ⟨15, 23, 15, 28⟩, ⟨16, 8, 16, 12⟩, ⟨16, 8, 16, 18⟩, ⟨16, 21, 16, 26⟩, ⟨16, 8, 16, 26⟩, by kernel_rfl, by kernel_rfl, by kernel_rfl⟩
theorem init1 : ∃ p1 p2 q1 q2 q3 q4 : Pos, defArgs (initOf (top 8)) = PySem.UsErr.iA ("fault" : Str) p1 p2 ∧ defBody (initOf (top 8)) = PySem.UsErr.iB ("fault" : Str) q1 q2 q3 q4 ∧ defScope (initOf (top 8)) = PySem.UsErr.iS ("fault" : Str) :=
  ⟨⟨19, 17, 19, 21⟩, ⟨19, 23, 19, 28⟩, ⟨20, 8, 20, 12⟩, ⟨20, 8, 20, 18⟩, ⟨20, 21, 20, 26⟩, ⟨20, 8, 20, 26⟩, by kernel_rfl, by kernel_rfl, by kernel_rfl⟩
theorem init2 : ∃ p1 p2 q1 q2 q3 q4 : Pos, defArgs (initOf (top 9)) = PySem.UsErr.iA ("fault" : Str) p1 p2 ∧ defBody (initOf (top 9)) = PySem.UsErr.iB ("fault" : Str) q1 q2 q3 q4 ∧ defScope (initOf (top 9)) = PySem.UsErr.iS ("fault" : Str) :=
  ⟨⟨23, 17, 23, 21⟩, ⟨23, 23, 23, 28⟩, ⟨24, 8, 24, 12⟩, ⟨24, 8, 24, 18⟩, ⟨24, 21, 24, 26⟩, ⟨24, 8, 24, 26⟩, by kernel_rfl, by kernel_rfl, by kernel_rfl⟩
theorem init3 : ∃ p1 p2 q1 q2 q3 q4 : Pos, defArgs (initOf (top 10)) = PySem.UsErr.iA ("saying" : Str) p1 p2 ∧ defBody (initOf (top 10)) = PySem.UsErr.iB ("saying" : Str) q1 q2 q3 q4 ∧ defScope (initOf (top 10)) = PySem.UsErr.iS ("saying" : Str) :=
  ⟨⟨27, 17, 27, 21⟩, ⟨27, 23, 27, 29⟩, ⟨28, 8, 28, 12⟩, ⟨28, 8, 28, 19⟩, ⟨28, 22, 28, 28⟩, ⟨28, 8, 28, 28⟩, by kernel_rfl, by kernel_rfl, by kernel_rfl⟩
theorem text : TextOk row tf where
  comp := by kernel_rfl
  ents := by kernel_rfl
  ids := by kernel_rfl
  cids := by kernel_rfl
  fids := by kernel_rfl
  tabs := by kernel_rfl
  inits := by
    intro e he
    have he : e ∈ cs := he
    unfold cs at he
    rcases List.mem_cons.mp he with rfl | he
    · exact init0
    · rcases List.mem_cons.mp he with rfl | he
      · exact init1
      · rcases List.mem_cons.mp he with rfl | he
        · exact init2
        · rcases List.mem_cons.mp he with rfl | he
          · exact init3
          · exact absurd he (by simp)
  cf := by kernel_rfl
  draw := by kernel_rfl
  drawS := by kernel_rfl
  drawT := ⟨fun i => dpos.getD i ⟨0, 0, 0, 0⟩, by kernel_rfl, by kernel_rfl⟩
  strm := by kernel_rfl
  strmS := by kernel_rfl
  strmT := ⟨fun i => spos.getD i ⟨0, 0, 0, 0⟩, by kernel_rfl⟩
def names : List PySem.Str := ([("is_list" : Str), ("is_whole" : Str), ("is_number" : Str), ("is_row" : Str), ("SayError" : Str), ("BadLetters" : Str), ("BadBook" : Str), ("BadRanks" : Str), ("BadSaying" : Str), ("is_letter" : Str), ("first_bad_letter" : Str), ("check_letters" : Str), ("all_worlds" : Str), ("is_any_formula" : Str), ("letters_in" : Str), ("is_formula" : Str), ("is_so" : Str), ("is_saying" : Str), ("is_met" : Str), ("is_broken" : Str), ("fault_of" : Str), ("book_fault" : Str), ("check_book" : Str), ("check_saying" : Str), ("fault_of_ranks" : Str), ("ranks_fault" : Str), ("least_rank" : Str), ("do_bear" : Str), ("bears" : Str), ("unborne" : Str)] : List _) ++ ([("first_unborne" : Str), ("_law_stream" : Str), ("_law_draw" : Str), ("_law_pick" : Str), ("_law_mixed" : Str), ("_law_same" : Str), ("_law_loose" : Str), ("_law_copied" : Str), ("_law_is_whole" : Str), ("_law_drawn_formula" : Str), ("_law_small" : Str), ("_law_saying" : Str), ("_law_book" : Str), ("_law_handed" : Str), ("_law_worlds" : Str), ("_law_holds" : Str), ("_law_is_formula" : Str), ("_law_is_letter" : Str), ("_law_is_saying" : Str), ("_law_met_there" : Str), ("_law_broken" : Str), ("_law_bears" : Str), ("_law_unborne" : Str), ("_law_ranks_fault" : Str), ("_law_layers" : Str), ("_law_least" : Str), ("_law_fault" : Str), ("_law_bent" : Str), ("_law_drawn_ranks" : Str), ("_law_met" : Str)] : List _)
abbrev R : PySem.W.OpenRow := PySem.W.OpenLaw.row opened
abbrev hk : PySem.W.Hook := He.hookX 6 row.fa row.dfs [] tf (exB row tf)
def ob (s : PySem.W.SharedT) : He.AlX := He.obsX 6 row.fa row.dfs [] tf (exB row tf) (HandSHeadRun.getT s)
theorem ob_eq (s : PySem.W.SharedT) : ob s = hk.obs s.abs := He.obsX_eq (HandSHeadRun.getT_eq s)
theorem run (w : World) : HandSHeadRun.RunEq R (PySem.W.view R.prog [65]) hk ob 4000 names w := by
  intro os
  kernel_rfl
end Us.K11
open PySem PySem.W PySem.Calls PyProof.Rows
open Us (Ent RowI callAt s00)
theorem Us.K11.holds_of (lawRun : ∀ ns : List Int, ns.length ≤ 63 → (∀ z ∈ ns, Builtin.Int.intBits z ≤ 1048576) → ∃ s', callAt Us.K11.row.P Us.K11.row.cap 60 54 [.d (.scr ns)] s00 = .ok (.bl true) s') : PySem.Challenge.rw_usuallyso_k11_whole_books_and_ranks_that.Holds := by
  w_on; o_law
  refine HandSHeadRun.head_any (r := OpenLaw.row PySem.Challenge.rw_usuallyso_k11_whole_books_and_ranks_that) (q := PySem.W.view (PySem.W.OpenLaw.row PySem.Challenge.rw_usuallyso_k11_whole_books_and_ranks_that).prog [65]) (H := Us.K11.hk) (ob := Us.K11.ob) (M := 4000) (loose := Us.K11.names) (d := HandSHeadRun.topDef (OpenLaw.row PySem.Challenge.rw_usuallyso_k11_whole_books_and_ranks_that).prog 65) (kwd := []) Us.K11.ob_eq
    (by kernel_rfl) (fun s => by kernel_rfl) Us.K11.run (by kernel_rfl) (by kernel_rfl) (by kernel_rfl) (by rfl) (by first | assumption | decide +kernel) (by decide +kernel) ⟨rfl, rfl, rfl, rfl, rfl, by decide +kernel⟩ ?hw ?hc
  case hw => w_witness2
  case hc =>
    refine LamX.walk_ofTsE (l := PySem.Challenge.rw_usuallyso_k11_whole_books_and_ranks_that) (n := 63) (k := 61) (x := "script") (CX := fun w => L2.CX (PySem.Challenge.rw_usuallyso_k11_whole_books_and_ranks_that).prog w) rfl (by decide) (by kernel_rfl) ⟨rfl, by decide, by decide⟩ ?F (fun w H s e s' z => Us.no_exc z)
    intro w mg fa h Y G hmg0
    obtain ⟨K, KX, c⟩ := Y
    have e : (HandSHeadRun.topDef (OpenLaw.row PySem.Challenge.rw_usuallyso_k11_whole_books_and_ranks_that).prog 65).name = ("law" : PySem.Str) := by kernel_rfl
    rw [e] at hmg0
    have hl : (⟨54, ("law" : PySem.Str), [("script" : PySem.Str)], n54, o54, false, true, f54, Us.K11.top 65⟩ : Ent) ∈ Us.K11.row.es := by
      exact List.mem_of_getElem? (i := 53) (by kernel_rfl)
    have hg := He.glo_ok KX G (c.t.d.facts (f := .glo ("law" : PySem.Str)) (by
      unfold RowI.fa
      simp only [List.mem_append, List.mem_map]
      exact .inl (.inl (.inl (.inl ⟨_, hl, rfl⟩)))))
    rw [hmg0] at hg
    cases hg
    exact ⟨K, KX, RowI.lawAt (l := PySem.Challenge.rw_usuallyso_k11_whole_books_and_ranks_that) Us.K11.text (fun z hz => of_decide_eq_true hz) KX G c hl rfl lawRun⟩
end

section
set_option linter.all false
set_option maxRecDepth 100000
/-! Us.B0: what is needed to run defs by hand: the equations of the executor as rules for simp, frames of defs that are handed data. -/
namespace Us
open PySem (Str)

/-- a body's end, seen from the caller: nothing of the caller's was lent -/
def RS.out (r : RS) (cs : List (Bool × D)) : R D := match r with
  | .rt x s => .ok x ⟨s.stm, cs⟩
  | .nx _ s => .ok .non ⟨s.stm, cs⟩
  | .exc c x s => .exc c x ⟨s.stm, cs⟩
  | _ => .bad
@[simp] theorem RS.out_rt (x : D) (s : S) (cs) : (RS.rt x s).out cs = .ok x ⟨s.stm, cs⟩ := rfl
@[simp] theorem RS.out_nx (e : Env) (s : S) (cs) : (RS.nx e s).out cs = .ok .non ⟨s.stm, cs⟩ := rfl
@[simp] theorem RS.out_exc (c x) (s : S) (cs) : (RS.exc c x s).out cs = .exc c x ⟨s.stm, cs⟩ := rfl

theorem lend_d (refs : List Bool) (xs : List D) (cells : List (Bool × D)) (acc : List (Option W)) : lend refs (xs.map W.d) cells acc [] [] [] = some (acc.reverse ++ xs.map (fun x => some (W.d x)), [], [], []) := by
  induction xs generalizing refs acc with
  | nil => simp [lend]
  | cons x xs ih => simp only [List.map_cons, lend, ih]; simp

theorem run_d (F : Fn) (g : G) (xs : List D) (s : S) (h : xs.length = F.params) : F.run g (xs.map W.d) s = (exs g F.body (xs.map (fun x => some (W.d x)) ++ List.replicate (F.slots - F.params) none) ⟨s.stm, []⟩).out s.cells := by
  unfold Fn.run
  rw [if_pos (by simpa using h), lend_d]
  simp only [okLend, if_true, List.reverse_nil, List.nil_append]
  cases exs g F.body (xs.map (fun x => some (W.d x)) ++ List.replicate (F.slots - F.params) none) ⟨s.stm, []⟩ <;> simp [RS.out, after]

variable {P : Prg} {cap : Int → Bool} {d f : Nat} {F : Fn} {s : S}
theorem callAt_fn (h : P.fn f = some F) (ws : List W) : callAt P cap (d + 1) f ws s = F.run (gAt P cap d) ws s := by
  simp only [callAt, gAt, h]
theorem call1 (h : P.fn f = some F) (x : D) (hp : F.params = 1) : callAt P cap (d + 1) f [.d x] s = (exs (gAt P cap d) F.body (some (.d x) :: List.replicate (F.slots - 1) none) ⟨s.stm, []⟩).out s.cells := by
  rw [callAt_fn h]; exact hp ▸ run_d F _ [x] s hp.symm
theorem call2 (h : P.fn f = some F) (x y : D) (hp : F.params = 2) : callAt P cap (d + 1) f [.d x, .d y] s = (exs (gAt P cap d) F.body (some (.d x) :: some (.d y) :: List.replicate (F.slots - 2) none) ⟨s.stm, []⟩).out s.cells := by
  rw [callAt_fn h]; exact hp ▸ run_d F _ [x, y] s hp.symm
theorem call3 (h : P.fn f = some F) (x y z : D) (hp : F.params = 3) : callAt P cap (d + 1) f [.d x, .d y, .d z] s = (exs (gAt P cap d) F.body (some (.d x) :: some (.d y) :: some (.d z) :: List.replicate (F.slots - 3) none) ⟨s.stm, []⟩).out s.cells := by
  rw [callAt_fn h]; exact hp ▸ run_d F _ [x, y, z] s hp.symm
theorem call4 (h : P.fn f = some F) (x y z u : D) (hp : F.params = 4) : callAt P cap (d + 1) f [.d x, .d y, .d z, .d u] s = (exs (gAt P cap d) F.body (some (.d x) :: some (.d y) :: some (.d z) :: some (.d u) :: List.replicate (F.slots - 4) none) ⟨s.stm, []⟩).out s.cells := by
  rw [callAt_fn h]; exact hp ▸ run_d F _ [x, y, z, u] s hp.symm
@[simp] theorem g_call : (gAt P cap d).call f ws s = callAt P cap d f ws s := rfl
@[simp] theorem g_cap : (gAt P cap d).cap = cap := by cases d <;> rfl
@[simp] theorem g_fld : (gAt P cap d).fld = P.fld := by cases d <;> rfl
@[simp] theorem g_ar : (gAt P cap (d + 1)).ar f = (P.fn f).map (·.params) := rfl
@[simp] theorem vw_d (x : D) (s : S) (k : D → R W) : vw (.d x) s k = k x := rfl
@[simp] theorem view_d (x : D) (s : S) : view s (.d x) = some x := rfl
@[simp] theorem esc_d (x : D) (s : S) : esc (.d x) s = .ok x s := rfl
@[simp] theorem tell_some (x : D) (s : S) : tell (some x) s = .ok (.d x) s := rfl
@[simp] theorem data_ok (x : D) (s : S) : W.data (.ok x s) = .ok (.d x) s := rfl
@[simp] theorem data_exc (c x) (s : S) : W.data (.exc c x s) = .exc c x s := rfl
@[simp] theorem calm_ok {α : Type} (x : α) (s : S) : (R.ok x s).calm = .ok x s := rfl

@[simp] theorem evs_nil (g : G) (env : Env) (s : S) : evs g .nil env s = .ok [] s := rfl
@[simp] theorem evs_cons (g : G) (e : E) (es : Es) (env : Env) (s : S) : evs g (.cons e es) env s = (ev g e env s).bind fun w s => (evs g es env s).bind fun ws s => .ok (w :: ws) s := rfl
@[simp] theorem evX_nil (g : G) (env : Env) (s : S) : evX g .nil env s = .ok [] s := rfl
@[simp] theorem evX_cons (g : G) (e : E) (es : Es) (env : Env) (s : S) : evX g (.cons e es) env s = ((ev g e env s).bind esc).bind fun x s => (evX g es env s).bind fun xs s => .ok (x :: xs) s := rfl
@[simp] theorem bindT_nm (i : Nat) (x : D) (env : Env) : bindT (.nm i) x env = some (env.set i (some (.d x))) := rfl
@[simp] theorem bindT_tt (ts : List Tg) (xs : List D) (env : Env) : bindT (.tp ts) (.tup xs) env = bindT.bindTs ts xs env := rfl
@[simp] theorem bindT_tl (ts : List Tg) (xs : List D) (env : Env) : bindT (.tp ts) (.lst xs) env = bindT.bindTs ts xs env := rfl
@[simp] theorem bindTs_nil (env : Env) : bindT.bindTs [] [] env = some env := rfl
@[simp] theorem bindTs_cons (t : Tg) (ts : List Tg) (x : D) (xs : List D) (env : Env) : bindT.bindTs (t :: ts) (x :: xs) env = (bindT t x env).bind fun env => bindT.bindTs ts xs env := rfl
@[simp] theorem wipe_nil (env : Env) : wipe env [] = env := rfl
@[simp] theorem wipe_cons (env : Env) (v : Nat) (vs : List Nat) : wipe env (v :: vs) = (wipe env vs).set v none := rfl
/-- the type of what goes on with k -/
abbrev KQ (_ : Env → S → RS) : Type := RS
abbrev KE (_ : Env → RS) : Type := RS
def RS.seq (r : RS) (k : Env → S → RS) : KQ k := match r with
  | .nx env s => k env s
  | q => q
@[simp] theorem seq_nx (env s) (k : Env → S → RS) : (RS.nx env s).seq k = k env s := rfl
@[simp] theorem seq_rt (x s) (k : Env → S → RS) : (RS.rt x s).seq k = .rt x s := rfl
@[simp] theorem seq_exc (c x s) (k : Env → S → RS) : (RS.exc c x s).seq k = .exc c x s := rfl
@[simp] theorem seq_ct (env s) (k : Env → S → RS) : (RS.ct env s).seq k = .ct env s := rfl
/-- a truth told on -/
def onB (x : D) (t f : R W) : R W := match x with
  | .bl true => t
  | .bl false => f
  | _ => .bad
@[simp] theorem onB_t (t f : R W) : onB (.bl true) t f = t := rfl
@[simp] theorem onB_f (t f : R W) : onB (.bl false) t f = f := rfl
@[simp] theorem onB_and (b c : Bool) (s : S) : onB (.bl b) (.ok (.d (.bl c)) s) (.ok (.d (.bl false)) s) = .ok (.d (.bl (b && c))) s := by cases b <;> rfl
@[simp] theorem onB_or (b c : Bool) (s : S) : onB (.bl b) (.ok (.d (.bl true)) s) (.ok (.d (.bl c)) s) = .ok (.d (.bl (b || c))) s := by cases b <;> rfl
@[simp] theorem onB_eq (b : Bool) (r : R W) : onB (.bl b) r r = r := by cases b <;> rfl
def onS (x : Option D) (t f : RS) : RS := match x with
  | some (.bl true) => t
  | some (.bl false) => f
  | _ => .bad
@[simp] theorem onS_t (t f : RS) : onS (some (.bl true)) t f = t := rfl
@[simp] theorem onS_f (t f : RS) : onS (some (.bl false)) t f = f := rfl
@[simp] theorem guard_seq (b : Bool) (x : D) (s : S) (f : RS) (k : Env → S → RS) : (onS (some (.bl b)) (.rt x s) f).seq k = if b = true then .rt x s else f.seq k := by cases b <;> rfl
@[simp] theorem guardX_seq (b : Bool) (c : Nat) (x : D) (s : S) (f : RS) (k : Env → S → RS) : (onS (some (.bl b)) (.exc c x s) f).seq k = if b = true then .exc c x s else f.seq k := by cases b <;> rfl
@[simp] theorem ite_out (p : Prop) [Decidable p] (a b : RS) (cs) : (if p then a else b).out cs = if p then a.out cs else b.out cs := by split <;> rfl
def onC (x : Option Bool) (t f : R W) : R W := match x with
  | some true => t
  | some false => f
  | none => .bad
@[simp] theorem onC_t (t f : R W) : onC (some true) t f = t := rfl
@[simp] theorem onC_f (t f : R W) : onC (some false) t f = f := rfl
@[simp] theorem onC_and (b c : Bool) (s : S) : onC (some b) (.ok (.d (.bl c)) s) (.ok (.d (.bl false)) s) = .ok (.d (.bl (b && c))) s := by cases b <;> rfl
def onX (x : Option (List D)) (s : S) : R (List D) := match x with
  | some xs => .ok xs s
  | none => .bad
@[simp] theorem onX_s (xs : List D) (s : S) : onX (some xs) s = .ok xs s := rfl
def onE (x : Option Env) (k : Env → RS) : KE k := match x with
  | some env => k env
  | none => .bad
@[simp] theorem onE_s (env : Env) (k : Env → RS) : onE (some env) k = k env := rfl

variable {g : G} {env : Env}
@[simp] theorem ev_fn (f : Nat) : ev g (.fn f) env s = .ok (.d (.fn f)) s := rfl
@[simp] theorem ev_int (i : Int) : ev g (.int i) env s = .ok (.d (.int i)) s := rfl
@[simp] theorem ev_str (x : Str) : ev g (.str x) env s = .ok (.d (.str x)) s := rfl
@[simp] theorem ev_bl (b : Bool) : ev g (.bl b) env s = .ok (.d (.bl b)) s := rfl
@[simp] theorem ev_non : ev g .non env s = .ok (.d .non) s := rfl
@[simp] theorem ev_one (a : E) : ev g (.one a) env s = ev g a env s := rfl
@[simp] theorem ev_bin (o : BinO) (a b : E) : ev g (.bin o a b) env s = (ev g a env s).bind fun x s => (ev g b env s).bind fun y s => vw x s fun x => vw y s fun y => tell (binD o x y) s := rfl
@[simp] theorem ev_cmp (o : CmpO) (a b : E) : ev g (.cmp o a b) env s = (ev g a env s).bind fun x s => (ev g b env s).bind fun y s => vw x s fun x => vw y s fun y => tell ((cmpD o x y).map .bl) s := rfl
@[simp] theorem ev_chain (o p : CmpO) (a b c : E) : ev g (.chain o p a b c) env s = (ev g a env s).bind fun x s => (ev g b env s).bind fun y s => vw x s fun dx => vw y s fun dy => onC (cmpD o dx dy) ((ev g c env s).bind fun z s => vw y s fun dy => vw z s fun z => tell ((cmpD p dy z).map .bl) s) (.ok (.d (.bl false)) s) := by
  rw [ev]; rfl
@[simp] theorem bev_and (a r : E) : ev g (.and a r) env s = (ev g a env s).bind fun x s => vw x s fun x => onB x (ev g r env s) (.ok (.d (.bl false)) s) := by rw [ev]; rfl
@[simp] theorem bev_or (a r : E) : ev g (.or a r) env s = (ev g a env s).bind fun x s => vw x s fun x => onB x (.ok (.d (.bl true)) s) (ev g r env s) := by rw [ev]; rfl
@[simp] theorem bev_ite (c a r : E) : ev g (.ite c a r) env s = (ev g c env s).bind fun x s => vw x s fun x => onB x (ev g a env s) (ev g r env s) := by rw [ev]; rfl
@[simp] theorem slot_f (w : W) (s : S) : slot false w s = W.data (esc w s) := by cases w <;> rfl
@[simp] theorem slot_l (xs : List D) (s : S) : slot true (.d (.lst xs)) s = .ok (.ref s.cells.length) { s with cells := s.cells ++ [(true, .lst xs)] } := rfl
@[simp] theorem slot_d (xs) (s : S) : slot true (.d (.dic xs)) s = .ok (.ref s.cells.length) { s with cells := s.cells ++ [(true, .dic xs)] } := rfl
@[simp] theorem esc_ref (n : Nat) (s : S) : esc (.ref n) s = (match s.cells[n]? with
    | some (_, x) => .ok x { s with cells := s.cells.set n (false, x) }
    | none => .bad) := rfl
@[simp] theorem vw_ref (n : Nat) (s : S) (k : D → R W) : vw (.ref n) s k = (match (s.cells[n]?).map (·.2) with
    | some x => k x
    | none => .bad) := rfl
@[simp] theorem view_ref (n : Nat) (s : S) : view s (.ref n) = (s.cells[n]?).map (·.2) := rfl
@[simp] theorem ev_var (i : Nat) : ev g (.var i) env s = (match env[i]? with
    | some (some (.d x)) => .ok (.d x) s
    | some (some (.ref n)) => .ok (.ref n) s
    | _ => .bad) := rfl
@[simp] theorem bev_not (a : E) : ev g (.not a) env s = (ev g a env s).bind fun x s => vw x s fun x => (match x with
    | .bl b => .ok (.d (.bl (!b))) s
    | _ => .bad) := rfl
@[simp] theorem ev_neg (a : E) : ev g (.neg a) env s = (ev g a env s).bind fun x s => vw x s fun x => (match x with
    | .int i => .ok (.d (.int (-i))) s
    | _ => .bad) := rfl
@[simp] theorem ev_tup (es : Es) : ev g (.tup es) env s = (evX g es env s).bind fun xs s => .ok (.d (.tup xs)) s := rfl
@[simp] theorem ev_lst (es : Es) : ev g (.lst es) env s = (evX g es env s).bind fun xs s => .ok (.d (.lst xs)) s := rfl
@[simp] theorem ev_star (a : E) (es : Es) : ev g (.star a es) env s = (ev g a env s).bind fun x s => vw x s fun x => (match seqD x with
    | some xs => (evX g es env s).bind fun ys s => if xs.length + ys.length ≤ lim then .ok (.d (.lst (xs ++ ys))) s else .bad
    | none => .bad) := rfl
@[simp] theorem ev_dct (kvs : Es) : ev g (.dct kvs) env s = (evX g kvs env s).bind fun xs s => tell ((pairs xs).map fun ps => .dic (dmerge [] ps)) s := rfl
@[simp] theorem ev_call (f : Nat) (es : Es) : ev g (.call f es) env s = (evs g es env s).bind fun ws s => W.data (g.call f ws s) := rfl
@[simp] theorem ev_callk (f : Nat) (p : List Nat) (es : Es) : ev g (.callk f p es) env s = (evs g es env s).bind fun ws s => (match p.mapM fun k => ws[k]? with
    | some ws => W.data (g.call f ws s)
    | none => .bad) := rfl
@[simp] theorem ev_callv (i : Nat) (es : Es) : ev g (.callv i es) env s = (match env[i]? with
    | some (some (.d (.fn f))) => if g.ar f = some es.len ∧ es.len ≠ 0 then (evs g es env s).bind fun ws s => W.data (g.call f ws s) else .bad
    | some (some (.lam b env')) => (match es with
      | .nil => W.data (g.clo b env' s)
      | _ => .bad)
    | _ => .bad) := rfl
@[simp] theorem ev_callL (f : Nat) (b : E) : ev g (.callL f b) env s = W.data (g.call f [.lam b (captured env)] s) := rfl
@[simp] theorem ev_bi (f : Bi) (a : E) : ev g (.bi f a) env s = (ev g a env s).bind fun x s => vw x s fun x => tell (biD f x) s := rfl
@[simp] theorem ev_min2 (a b : E) : ev g (.min2 a b) env s = (ev g a env s).bind fun x s => (ev g b env s).bind fun y s => vw x s fun x => vw y s fun y => (match x, y with
    | .int i, .int j => .ok (.d (.int (if j < i then j else i))) s
    | _, _ => .bad) := rfl
@[simp] theorem ev_max2 (a b : E) : ev g (.max2 a b) env s = (ev g a env s).bind fun x s => (ev g b env s).bind fun y s => vw x s fun x => vw y s fun y => (match x, y with
    | .int i, .int j => .ok (.d (.int (if j > i then j else i))) s
    | _, _ => .bad) := rfl
@[simp] theorem ev_listr (n : E) : ev g (.listr n) env s = (ev g n env s).bind fun x s => vw x s fun x => (match x with
    | .int k => if k.natAbs < 16777216 then .ok (.d (.lst (rangeD 0 k.toNat))) s else .bad
    | _ => .bad) := rfl
@[simp] theorem ev_litems (a : E) : ev g (.litems a) env s = (ev g a env s).bind fun x s => vw x s fun x => (match x with
    | .dic kvs => .ok (.d (.lst (kvs.map fun p => .tup [kyD p.1, p.2]))) s
    | _ => .bad) := rfl
@[simp] theorem ev_isa (a : E) (ts : List Ty) : ev g (.isa a ts) env s = (ev g a env s).bind fun x s => vw x s fun x => if x.kinded then .ok (.d (.bl (ts.any fun t => isTy t x))) s else .bad := rfl
@[simp] theorem ev_idx (a i : E) : ev g (.idx a i) env s = (ev g a env s).bind fun x s => (ev g i env s).bind fun y s => vw x s fun x => vw y s fun y => tell (idxD x y) s := rfl
@[simp] theorem ev_from (a i : E) : ev g (.from_ a i) env s = (ev g a env s).bind fun x s => (ev g i env s).bind fun y s => vw x s fun x => vw y s fun y => tell (sliD x (some y) none) s := rfl
@[simp] theorem ev_upto (a i : E) : ev g (.upto a i) env s = (ev g a env s).bind fun x s => (ev g i env s).bind fun y s => vw x s fun x => vw y s fun y => tell (sliD x none (some y)) s := rfl
@[simp] theorem ev_part (a i j : E) : ev g (.part a i j) env s = (ev g a env s).bind fun x s => (ev g i env s).bind fun y s => vw y s fun y => if y.isI = true then (ev g j env s).bind fun z s => vw x s fun x => vw z s fun z => tell (sliD x (some y) (some z)) s else .bad := rfl
@[simp] theorem ev_back (a : E) : ev g (.back a) env s = (ev g a env s).bind fun x s => vw x s fun x => (match x with
    | .lst xs => .ok (.d (.lst xs.reverse)) s
    | _ => .bad) := rfl
@[simp] theorem ev_mt (m : Mt) (o : E) (es : Es) : ev g (.mt m o es) env s = (ev g o env s).bind fun x s => vw x s fun x0 => if x0.isDic = true then (evX g es env s).bind fun ys s => vw x s fun x => tell (mtD m x ys) s else .bad := rfl
@[simp] theorem ev_fld (k i : Nat) : ev g (.fld k i) env s = (match env[i]? with
    | some (some (.exc c y)) => if g.fld c k then .ok (.d y) s else .bad
    | _ => .bad) := rfl
/-- a method that writes -/
def mutD (m : Mu) (n : Nat) (s : S) (xs : List D) : R W := match s.cells[n]? with
  | some (true, x) => (match muD m x xs with
    | some (x', y) => .ok (.d y) { s with cells := s.cells.set n (true, x') }
    | none => .bad)
  | _ => .bad
@[simp] theorem ev_mut (m : Mu) (i : Nat) (es : Es) : ev g (.mut m i es) env s = (match env[i]? with
    | some (some (.ref n)) => (match s.cells[n]? with
      | some (true, x0) => if muK m x0 = true then (evX g es env s).bind fun xs s => mutD m n s xs else .bad
      | _ => .bad)
    | _ => .bad) := rfl
/-- a draw -/
def drawR (cap : Int → Bool) (many : Int) (s : S) : R W := if 0 < many ∧ many < 1073741824 ∧ cap s.stm.ct = true then .ok (.d (.int (s.stm.draw many).1)) { s with stm := (s.stm.draw many).2 } else .bad
@[simp] theorem ev_draw (st n : E) : ev g (.draw st n) env s = (ev g st env s).bind fun x s => (ev g n env s).bind fun y s => vw x s fun x => vw y s fun y => (match x, y with
    | .stm, .int many => drawR g.cap many s
    | _, _ => .bad) := rfl
@[simp] theorem ev_stream (a : E) : ev g (.stream a) env s = (ev g a env s).bind fun x s => vw x s fun x => (match x with
    | .scr cs => if s.stm.ct < 0 ∧ cs.length ≤ lim then .ok (.d .stm) { s with stm := ⟨cs, 0, 0, 19⟩ } else .bad
    | _ => .bad) := rfl
/-- a comprehension's step -/
def cstep (g : G) (w : List Nat) (elt : E) (t : Tg) (env : Env) (x : D) (s : S) : R (Option D) := match bindT t x (wipe env w) with
    | some env' => ((ev g elt env' s).calm.bind esc).bind fun y s => .ok (some y) s
    | none => .bad
def cstepIf (g : G) (w : List Nat) (elt : E) (t : Tg) (c : E) (env : Env) (x : D) (s : S) : R (Option D) := match bindT t x (wipe env w) with
    | some env' => (ev g c env' s).calm.bind fun b s => (match view s b with
      | some (.bl true) => ((ev g elt env' s).calm.bind esc).bind fun y s => .ok (some y) s
      | some (.bl false) => .ok none s
      | _ => .bad)
    | none => .bad
@[simp] theorem ev_comp (w : List Nat) (elt : E) (t : Tg) (it : It) : ev g (.comp w elt t it) env s = (evIt g it env s).bind fun xs s => W.data (compL (cstep g w elt t env) xs [] s) := rfl
@[simp] theorem ev_compIf (w : List Nat) (elt : E) (t : Tg) (it : It) (c : E) : ev g (.compIf w elt t it c) env s = (evIt g it env s).bind fun xs s => W.data (compL (cstepIf g w elt t c env) xs [] s) := rfl
@[simp] theorem it_e (a : E) : evIt g (.e a) env s = ((ev g a env s).bind esc).bind fun x s => onX (walkD (a.isDat env) x) s := by rw [evIt]; rfl
@[simp] theorem it_rng (n : E) : evIt g (.rng n) env s = (ev g n env s).bind fun x s => (match view s x with
    | some (.int k) => if k.natAbs < 16777216 then .ok (rangeD 0 k.toNat) s else .bad
    | _ => .bad) := rfl
@[simp] theorem it_rng2 (a b : E) : evIt g (.rng2 a b) env s = (ev g a env s).bind fun x s => (ev g b env s).bind fun y s => (match view s x, view s y with
    | some (.int i), some (.int j) => if i.natAbs < 16777216 ∧ j.natAbs < 16777216 then .ok (rangeD i (j - i).toNat) s else .bad
    | _, _ => .bad) := rfl
@[simp] theorem it_enum (a : E) : evIt g (.enum a) env s = ((ev g a env s).bind esc).bind fun x s => onX ((seqD x).map enumD) s := by
  rw [evIt]; congr 1; funext x s; cases seqD x <;> rfl
@[simp] theorem it_zip (a b : E) : evIt g (.zip a b) env s = ((ev g a env s).bind esc).bind fun x s => ((ev g b env s).bind esc).bind fun y s => (match seqD x, seqD y with
    | some xs, some ys => .ok (zipD xs ys) s
    | _, _ => .bad) := rfl
@[simp] theorem it_items (a : E) : evIt g (.items a) env s = ((ev g a env s).bind esc).bind fun x s => (match x with
    | .dic kvs => if a.isDat env = true then .ok (kvs.map fun p => .tup [kyD p.1, p.2]) s else .bad
    | _ => .bad) := rfl
@[simp] theorem exs_nil : exs g [] env s = .nx env s := rfl
@[simp] theorem exs_cons (st : St) (r : List St) : exs g (st :: r) env s = (ex g st env s).seq (exs g r) := by rw [exs]; rfl
@[simp] theorem ex_asg (t : Tg) (e : E) : ex g (.asg t e) env s = ((ev g e env s).bind esc).st fun x s => onE (bindT t x env) fun env => .nx env s := by rw [ex]; rfl
@[simp] theorem ex_new (i : Nat) (e : E) : ex g (.new i e) env s = ((ev g e env s).bind (slot true)).st fun w s => .nx (env.set i (some w)) s := rfl
@[simp] theorem ex_par2 (i j : Nat) (p q : Bool) (a b : E) : ex g (.par2 i j p q a b) env s = (ev g a env s).st fun x s => (ev g b env s).st fun y s => (slot p x s).st fun x s => (slot q y s).st fun y s => .nx ((env.set i (some x)).set j (some y)) s := rfl
@[simp] theorem ex_par3 (i j k : Nat) (p q r : Bool) (a b c : E) : ex g (.par3 i j k p q r a b c) env s = (ev g a env s).st fun x s => (ev g b env s).st fun y s => (ev g c env s).st fun z s => (slot p x s).st fun x s => (slot q y s).st fun y s => (slot r z s).st fun z s =>
      .nx (((env.set i (some x)).set j (some y)).set k (some z)) s := rfl
@[simp] theorem ex_expr (e : E) : ex g (.expr e) env s = (ev g e env s).st fun _ s => .nx env s := rfl
@[simp] theorem ex_ite (c : E) (a b : List St) : ex g (.ite c a b) env s = (ev g c env s).st fun w s => onS (view s w) (exs g a env s) (exs g b env s) := by rw [ex]; rfl
@[simp] theorem ex_for (t : Tg) (it : It) (body : List St) : ex g (.for_ t it body) env s = (evIt g it env s).st fun xs s => forL t (exs g body) xs env s := rfl
@[simp] theorem ex_while (c : E) (body : List St) : ex g (.while_ c body) env s = whileL (ev g c) (exs g body) whileFuel env s := rfl
@[simp] theorem ex_ret (e : E) : ex g (.ret e) env s = ((ev g e env s).bind esc).st fun x s => .rt x s := rfl
@[simp] theorem ex_retN : ex g .retN env s = .rt .non s := rfl
@[simp] theorem ex_pass : ex g .pass env s = .nx env s := rfl
@[simp] theorem ex_cont : ex g .cont env s = .ct env s := rfl
@[simp] theorem ex_raise (c : Nat) (e : E) : ex g (.raise c e) env s = ((ev g e env s).bind esc).st fun x s => .exc c x s := rfl
end Us
end

section
set_option linter.all false
set_option maxRecDepth 100000
/-! Us.B1: comprehensions and loops whose bodies change nothing; kinds, letters. -/
namespace Us
open PySem (Str)
variable {P : Prg} {cap : Int → Bool} {d : Nat} {s : S}

theorem compL_map' (g : D → S → R (Option D)) (h : D → D) (xs acc : List D) (s : S) (hg : ∀ x ∈ xs, g x s = .ok (some (h x)) s) (hl : acc.length + xs.length ≤ lim) : compL g xs acc s = .ok (.lst (acc.reverse ++ xs.map h)) s := by
  induction xs generalizing acc with
  | nil => simp [compL]
  | cons x xs ih =>
    simp only [compL]
    rw [hg x (by simp)]
    simp only [List.length_cons] at hl
    simp only [R.bind]
    rw [if_pos (by omega), ih _ (fun y hy => hg y (by simp [hy])) (by simp; omega)]
    simp
theorem compL_map {g : D → S → R (Option D)} (h : D → D) {xs : List D} {s : S} (hg : ∀ x ∈ xs, g x s = .ok (some (h x)) s) (hl : xs.length ≤ lim) : compL g xs [] s = .ok (.lst (xs.map h)) s := by
  simpa using compL_map' g h xs [] s hg (by simpa using hl)
theorem compL_fm' (g : D → S → R (Option D)) (h : D → Option D) (xs acc : List D) (s : S) (hg : ∀ x ∈ xs, g x s = .ok (h x) s) (hl : acc.length + xs.length ≤ lim) : compL g xs acc s = .ok (.lst (acc.reverse ++ xs.filterMap h)) s := by
  induction xs generalizing acc with
  | nil => simp [compL]
  | cons x xs ih =>
    simp only [compL]
    rw [hg x (by simp)]
    simp only [List.length_cons] at hl
    simp only [R.bind]
    cases hx : h x with
    | none => simp only [List.filterMap_cons, hx]; exact ih _ (fun y hy => hg y (by simp [hy])) (by omega)
    | some y =>
      simp only [List.filterMap_cons, hx]
      rw [if_pos (by omega), ih _ (fun y hy => hg y (by simp [hy])) (by simp; omega)]
      simp
theorem compL_fm {g : D → S → R (Option D)} (h : D → Option D) {xs : List D} {s : S} (hg : ∀ x ∈ xs, g x s = .ok (h x) s) (hl : xs.length ≤ lim) : compL g xs [] s = .ok (.lst (xs.filterMap h)) s := by
  simpa using compL_fm' g h xs [] s hg (by simpa using hl)
/-- the same over things that stand for other things -/
theorem compL_mapOf {α : Type} {g : D → S → R (Option D)} (q : α → D) (h : α → D) {as : List α} {s : S} (hg : ∀ a ∈ as, g (q a) s = .ok (some (h a)) s) (hl : as.length ≤ lim) : compL g (as.map q) [] s = .ok (.lst (as.map h)) s := by
  have key : ∀ (as : List α) (acc : List D), (∀ a ∈ as, g (q a) s = .ok (some (h a)) s) → acc.length + as.length ≤ lim → compL g (as.map q) acc s = .ok (.lst (acc.reverse ++ as.map h)) s := by
    intro as
    induction as with
    | nil => intro acc _ _; simp [compL]
    | cons a as ih =>
      intro acc hg hl
      simp only [List.map_cons, compL]
      rw [hg a (by simp)]
      simp only [List.length_cons] at hl
      simp only [R.bind]
      rw [if_pos (by omega), ih _ (fun y hy => hg y (by simp [hy])) (by simp; omega)]
      simp
  simpa using key as [] hg (by simpa using hl)
theorem compL_fmOf {α : Type} {g : D → S → R (Option D)} (q : α → D) (h : α → Option D) {as : List α} {s : S} (hg : ∀ a ∈ as, g (q a) s = .ok (h a) s) (hl : as.length ≤ lim) : compL g (as.map q) [] s = .ok (.lst (as.filterMap h)) s := by
  have key : ∀ (as : List α) (acc : List D), (∀ a ∈ as, g (q a) s = .ok (h a) s) → acc.length + as.length ≤ lim → compL g (as.map q) acc s = .ok (.lst (acc.reverse ++ as.filterMap h)) s := by
    intro as
    induction as with
    | nil => intro acc _ _; simp [compL]
    | cons a as ih =>
      intro acc hg hl
      simp only [List.map_cons, compL]
      rw [hg a (by simp)]
      simp only [List.length_cons] at hl
      simp only [R.bind]
      cases hx : h a with
      | none => simp only [List.filterMap_cons, hx]; exact ih _ (fun y hy => hg y (by simp [hy])) (by omega)
      | some y =>
        simp only [List.filterMap_cons, hx]
        rw [if_pos (by omega), ih _ (fun y hy => hg y (by simp [hy])) (by simp; omega)]
        simp
  simpa using key as [] hg (by simpa using hl)

theorem yes {b : Bool} (h : b = true) : b = true := by cases b <;> simp_all
@[simp] theorem kd_non : D.non.kinded = true := yes rfl
@[simp] theorem kd_bl (b) : (D.bl b).kinded = true := yes rfl
@[simp] theorem kd_int (i) : (D.int i).kinded = true := yes rfl
@[simp] theorem kd_str (x) : (D.str x).kinded = true := yes rfl
@[simp] theorem kd_tup (x) : (D.tup x).kinded = true := yes rfl
@[simp] theorem kd_lst (x) : (D.lst x).kinded = true := yes rfl
@[simp] theorem kd_dic (x) : (D.dic x).kinded = true := yes rfl
theorem no {b : Bool} (h : b = false) : b = false := by cases b <;> simp_all
@[simp] theorem kd_fn (x) : (D.fn x).kinded = false := no rfl
@[simp] theorem kd_stm : D.stm.kinded = false := no rfl
@[simp] theorem kd_scr (x) : (D.scr x).kinded = false := no rfl
@[simp] theorem ibeq (a b : Int) : (a == b) = decide (a = b) := by by_cases h : a = b <;> simp [h]
@[simp] theorem sbeq (a b : Str) : (a == b) = decide (a = b) := by by_cases h : a = b <;> simp [h]
def isL : D → Bool
  | .lst _ => true
  | .tup _ => true
  | _ => false
@[simp] theorem isL_ty (x : D) : (isTy .list x || isTy .tuple x) = isL x := by cases x <;> rfl
theorem allBl_map {α : Type} (p : α → Bool) (xs : List α) : allBl (xs.map fun x => D.bl (p x)) = some (xs.all p) := by
  induction xs with
  | nil => rfl
  | cons x xs ih => simp [allBl, ih]
theorem anyBl_map {α : Type} (p : α → Bool) (xs : List α) : anyBl (xs.map fun x => D.bl (p x)) = some (xs.any p) := by
  induction xs with
  | nil => rfl
  | cons x xs ih => simp [anyBl, ih]
theorem allBl_map' (p : D → Bool) (xs : List D) : allBl (xs.map fun x => D.bl (p x)) = some (xs.all p) := allBl_map p xs

theorem c1 (h : P.fn 1 = some f1) (x : D) (hk : x.kinded = true) : callAt P cap (d + 1) 1 [.d x] s = .ok (.bl (isL x)) s := by
  rw [call1 h x rfl]
  simp [f1, hk]
def isWh : D → Bool
  | .int _ => true
  | _ => false
theorem c2 (h : P.fn 2 = some f2) (x : D) (hk : x.kinded = true) : callAt P cap (d + 1) 2 [.d x] s = .ok (.bl (isWh x)) s := by
  rw [call1 h x rfl]
  cases x <;> simp [f2, D.kinded, isTy, isWh] at hk ⊢
/-- a loop that looks for something -/
theorem forL_find' {α : Type} {t : Tg} {b : Env → S → RS} {s : S} (q : α → D) (I : Env → Prop) (p : α → Option D) (done as : List α) {env : Env} (h0 : I env) (hd : ∀ a ∈ done, p a = none) (hb : ∀ pre a rest, done ++ as = pre ++ a :: rest → (∀ b ∈ pre, p b = none) → ∀ env, I env → ∃ env1, bindT t (q a) env = some env1 ∧ (match p a with
    | some r => b env1 s = .rt r s
    | none => ∃ env2, I env2 ∧ (b env1 s = .nx env2 s ∨ b env1 s = .ct env2 s))) :
    (∃ env', I env' ∧ as.findSome? p = none ∧ forL t b (as.map q) env s = .nx env' s) ∨ (∃ r, as.findSome? p = some r ∧ forL t b (as.map q) env s = .rt r s) := by
  induction as generalizing env done with
  | nil => exact .inl ⟨env, h0, rfl, rfl⟩
  | cons a as ih =>
    obtain ⟨env1, h1, h2⟩ := hb done a as rfl hd env h0
    simp only [List.map_cons, forL, h1, List.findSome?_cons]
    cases hp : p a with
    | some r =>
      rw [hp] at h2
      exact .inr ⟨r, rfl, by simp only [h2]⟩
    | none =>
      rw [hp] at h2
      obtain ⟨env2, h3, h4⟩ := h2
      have := ih (done ++ [a]) h3 (by intro b hb; simp at hb; rcases hb with hb | rfl; exact hd _ hb; exact hp) (by simpa using hb)
      rcases h4 with h4 | h4 <;> simp only [h4] <;> exact this
theorem forL_findP {α : Type} {t : Tg} {b : Env → S → RS} {as : List α} {env : Env} {s : S} (q : α → D) (I : Env → Prop) (p : α → Option D) (h0 : I env) (hb : ∀ pre a rest, as = pre ++ a :: rest → (∀ b ∈ pre, p b = none) → ∀ env, I env → ∃ env1, bindT t (q a) env = some env1 ∧ (match p a with
    | some r => b env1 s = .rt r s
    | none => ∃ env2, I env2 ∧ (b env1 s = .nx env2 s ∨ b env1 s = .ct env2 s))) :
    (∃ env', I env' ∧ as.findSome? p = none ∧ forL t b (as.map q) env s = .nx env' s) ∨ (∃ r, as.findSome? p = some r ∧ forL t b (as.map q) env s = .rt r s) :=
  forL_find' q I p [] as h0 (by simp) (by simpa using hb)
theorem forL_find {α : Type} {t : Tg} {b : Env → S → RS} {as : List α} {env : Env} {s : S} (q : α → D) (I : Env → Prop) (p : α → Option D) (h0 : I env) (hb : ∀ a ∈ as, ∀ env, I env → ∃ env1, bindT t (q a) env = some env1 ∧ (match p a with
    | some r => b env1 s = .rt r s
    | none => ∃ env2, I env2 ∧ (b env1 s = .nx env2 s ∨ b env1 s = .ct env2 s))) :
    (∃ env', I env' ∧ as.findSome? p = none ∧ forL t b (as.map q) env s = .nx env' s) ∨ (∃ r, as.findSome? p = some r ∧ forL t b (as.map q) env s = .rt r s) :=
  forL_findP q I p h0 (fun pre a rest e _ => hb a (by simp [e]))
/-- the same, as a goal is met -/
theorem find_out {α : Type} {t : Tg} {b : Env → S → RS} {as : List α} {env : Env} {s : S} {k : Env → S → RS} {cs} {rhs : R D} (q : α → D) (I : Env → Prop) (p : α → Option D) (h0 : I env) (hb : ∀ pre a rest, as = pre ++ a :: rest → (∀ b ∈ pre, p b = none) → ∀ env, I env → ∃ env1, bindT t (q a) env = some env1 ∧ (match p a with
    | some r => b env1 s = .rt r s
    | none => ∃ env2, I env2 ∧ (b env1 s = .nx env2 s ∨ b env1 s = .ct env2 s)))
    (hn : ∀ env', I env' → as.findSome? p = none → (k env' s).out cs = rhs) (hr : ∀ r, as.findSome? p = some r → .ok r ⟨s.stm, cs⟩ = rhs) :
    ((forL t b (as.map q) env s).seq k).out cs = rhs := by
  rcases forL_findP q I p h0 hb with ⟨env', hI, h1, e⟩ | ⟨r, h1, e⟩
  · rw [e]; exact hn env' hI h1
  · rw [e]; exact hr r h1
theorem zipIdx_split {α : Type} {xs : List α} {pre rest : List (α × Nat)} {y : α} {k : Nat} (e : xs.zipIdx = pre ++ (y, k) :: rest) : xs[k]? = some y ∧ ∀ j z, j < k → xs[j]? = some z → (z, j) ∈ pre := by
  have h0 : ∀ i : Nat, xs.zipIdx[i]? = (xs[i]?).map fun x => (x, i) := by intro i; simp [List.getElem?_zipIdx]
  have h1 := h0 pre.length
  rw [e, List.getElem?_append_right (Nat.le_refl _)] at h1
  cases hx : xs[pre.length]? with
  | none => rw [hx] at h1; simp at h1
  | some z =>
  rw [hx] at h1
  simp at h1
  obtain ⟨e1, e2⟩ := h1
  subst e1; subst e2
  refine ⟨hx, fun j z hj hz' => ?_⟩
  have h2 := h0 j
  rw [e, List.getElem?_append_left hj, hz'] at h2
  exact List.mem_of_getElem? h2
/-- a loop over enumerate that looks for something -/
theorem find_enum {t : Tg} {b : Env → S → RS} {xs : List D} {env : Env} {s : S} {k : Env → S → RS} {cs} {rhs : R D} (I : Env → Prop) (p : D → Nat → Option D) (h0 : I env) (hb : ∀ i y, xs[i]? = some y → (∀ j z, j < i → xs[j]? = some z → p z j = none) → ∀ env, I env → ∃ env1, bindT t (.tup [.int i, y]) env = some env1 ∧ (match p y i with
    | some r => b env1 s = .rt r s
    | none => ∃ env2, I env2 ∧ (b env1 s = .nx env2 s ∨ b env1 s = .ct env2 s)))
    (hn : ∀ env', I env' → xs.zipIdx.findSome? (fun a => p a.1 a.2) = none → (k env' s).out cs = rhs) (hr : ∀ r, xs.zipIdx.findSome? (fun a => p a.1 a.2) = some r → .ok r ⟨s.stm, cs⟩ = rhs) :
    ((forL t b (enumD xs) env s).seq k).out cs = rhs := by
  refine find_out (α := D × Nat) (fun p => D.tup [.int p.2, p.1]) I (fun a => p a.1 a.2) h0 ?_ hn hr
  rintro pre ⟨y, i⟩ rest e hp env hI
  obtain ⟨h1, h2⟩ := zipIdx_split e
  exact hb i y h1 (fun j z hj hz => hp _ (h2 j z hj hz)) env hI
def isNum : D → Bool
  | .int i => decide (0 ≤ i)
  | _ => false
theorem c3 (h2 : P.fn 2 = some f2) (h : P.fn 3 = some f3) (x : D) (hk : x.kinded = true) : callAt P cap (d + 2) 3 [.d x] s = .ok (.bl (isNum x)) s := by
  rw [call1 h x rfl]
  simp [f3]
  cases x <;> simp [c2 h2, isTy, isWh, isNum, cmpD, cmpI] at hk ⊢
theorem c4 (h1 : P.fn 1 = some f1) (h : P.fn 4 = some f4) (x : D) (n : Int) (hk : x.kinded = true) : callAt P cap (d + 2) 4 [.d x, .d (.int n)] s = .ok (.bl (match seqD x with | some xs => decide ((xs.length : Int) = n) | none => false)) s := by
  rw [call2 h x _ rfl]
  cases x <;> simp [f4, c1 h1, isL, seqD, biD, cmpD, eqD, D.atom, D.flatK, D.eqv] at hk ⊢
end Us
end

section
set_option linter.all false
set_option maxRecDepth 100000
/-! Us.B2: letters. -/
namespace Us
open PySem (Str)
variable {P : Prg} {cap : Int → Bool} {d : Nat} {s : S}
def abc : Str := sx [97, 98, 99, 100, 101, 102, 103, 104, 105, 106, 107, 108, 109, 110, 111, 112, 113, 114, 115, 116, 117, 118, 119, 120, 121, 122]
def isSign (c : Nat) : Bool := abc.cps.toList.contains c
def strLet (x : Str) : Bool := decide ((1 : Int) ≤ x.cps.size) && decide ((x.cps.size : Int) ≤ 8) && x.cps.toList.all isSign
def isLet : D → Bool
  | .str x => strLet x
  | _ => false
theorem signs (w : List Nat) (e : E) (x : Str) (g : G) (env : Env) (s : S) (hl : x.cps.size ≤ 8) (h : ∀ c, cstep g w e (.nm 1) env (.str ⟨#[c]⟩) s = .ok (some (.bl (isSign c))) s) : compL (cstep g w e (.nm 1) env) (x.cps.toList.map fun c => D.str ⟨#[c]⟩) [] s = .ok (.lst (x.cps.toList.map fun c => .bl (isSign c))) s :=
  compL_mapOf (fun c => D.str ⟨#[c]⟩) (fun c => .bl (isSign c)) (fun c _ => h c) (by simp [lim]; omega)
theorem c5 (h : P.fn 5 = some f5) (x : D) (hk : x.kinded = true) : callAt P cap (d + 1) 5 [.d x] s = .ok (.bl (isLet x)) s := by
  rw [call1 h x rfl]
  cases x with
  | str x =>
    simp [f5, isTy, isLet, biD, cmpD, cmpI, walkD, List.replicate]
    split
    · rename_i hc; simp [strLet]; omega
    · rename_i hc
      rw [signs _ _ _ _ _ _ (by omega) (by intro c; simp [cstep, cmpD, memD, isSign, abc])]
      simp [allBl_map, strLet]; omega
  | _ => simp [f5, isTy, isLet] at hk ⊢
theorem c41 (h : P.fn 41 = some f41) (x : D) (hk : x.kinded = true) : callAt P cap (d + 1) 41 [.d x] s = .ok (.bl (isLet x)) s := by
  rw [call1 h x rfl]
  cases x with
  | str x =>
    simp [f41, isTy, isLet, biD, cmpD, cmpI, walkD, List.replicate]
    cases hc : decide ((1 : Int) ≤ x.cps.size) && decide ((x.cps.size : Int) ≤ 8)
    · simp [strLet, hc]
    · have : x.cps.size ≤ 8 := by simp at hc; omega
      rw [signs _ _ _ _ _ _ this (by intro c; simp [cstep, cmpD, memD, isSign, abc])]
      simp [allBl_map, strLet, hc]
  | _ => simp [f41, isTy, isLet] at hk ⊢
/-- the texts that things are -/
def strLs : List D → Option (List Str)
  | [] => some []
  | .str x :: r => (strLs r).map (x :: ·)
  | _ => none
/-- a thing at a place is no letter behind the one before -/
def badAt (xs : List D) (y : D) (k : Nat) : Bool := !isLet y || (decide (0 < k) && (match xs[k - 1]?, y with
  | some (.str p), .str y => !strLt p.cps.toList y.cps.toList
  | _, _ => false))
def badLet (xs : List D) : D := (xs.zipIdx.findSome? fun p => if badAt xs p.1 p.2 = true then some (.int p.2) else none).getD .non
theorem seqD_of {x : D} (h : isL x = true) : ∃ xs, seqD x = some xs ∧ (x = .lst xs ∨ x = .tup xs) := by
  cases x <;> simp [isL, seqD] at h ⊢
theorem idx_seq {x : D} {xs : List D} (h : seqD x = some xs) (k : Nat) (y : D) (hk : xs[k]? = some y) : idxD x (.int k) = some y := by
  have hl : k < xs.length := (List.getElem?_eq_some_iff.mp hk).1
  cases x <;> simp [seqD] at h <;> subst h <;> simp [idxD, place, hl, hk] <;> simp_all
theorem c6 (h1 : P.fn 1 = some f1) (h5 : P.fn 5 = some f5) (h : P.fn 6 = some f6) (x : D) (hk : x.kinded = true) (hks : ∀ xs, seqD x = some xs → ∀ y ∈ xs, y.kinded = true) : callAt P cap (d + 2) 6 [.d x] s = .ok (match seqD x with
    | some xs => badLet xs
    | none => .int 0) s := by
  rw [call1 h x rfl]
  simp [f6, c1 h1 x hk]
  split
  · rename_i hl
    cases x <;> simp [isL] at hl <;> simp [seqD]
  · rename_i hl
    simp at hl
    obtain ⟨xs, e, ex⟩ := seqD_of hl
    simp only [e, Option.map_some, onX_s, st_ok]
    refine find_enum (fun env => ∃ a b, env = [some (W.d x), a, b]) (fun y i => if badAt xs y i = true then some (D.int i) else none) ⟨_, _, rfl⟩ ?_ ?_ ?_
    · rintro k y hk' hp env ⟨a, b, rfl⟩
      refine ⟨_, rfl, ?_⟩
      have hy : y.kinded = true := hks xs e y (List.mem_of_getElem? hk')
      have hl : isLet y = true → ∃ z, y = .str z := by cases y <;> simp [isLet]
      rcases k with _ | k
      · simp [c5 h5 y hy, badAt, cmpD, cmpI, binD]
        split <;> simp_all
      · obtain ⟨z, hz⟩ : ∃ z, xs[k]? = some z := ⟨_, List.getElem?_eq_getElem (by have := (List.getElem?_eq_some_iff.mp hk').1; omega)⟩
        have := hp k z (by omega) hz
        have hzl : isLet z = true := by cases hc : isLet z <;> simp [badAt, hc] at this ⊢
        obtain ⟨z, rfl⟩ : ∃ u, z = .str u := by cases z <;> simp [isLet] at hzl ⊢
        cases hc : isLet y
        · simp [c5 h5 y hy, badAt, hc]
        · obtain ⟨u, rfl⟩ := hl hc
          simp [c5 h5 _ hy, badAt, hc, hz, cmpD, cmpI, binD, idx_seq e k _ hz]
          split <;> simp_all
    · rintro env' ⟨a, b, rfl⟩ h1
      rw [badLet, h1]; rfl
    · intro r h1
      rw [badLet, h1]; rfl
end Us
end

section
set_option linter.all false
set_option maxRecDepth 100000
/-! Us.B3: formulas. -/
namespace Us
open PySem (Str)
/-! ### small laws of what is told -/
@[simp] theorem cmp_eq (a b : D) : cmpD .eq a b = eqD a b := rfl
@[simp] theorem cmp_ne (a b : D) : cmpD .ne a b = (eqD a b).map (!·) := rfl
@[simp] theorem cmp_is (a b : D) : cmpD .is a b = isD a b := rfl
@[simp] theorem cmp_isnot (a b : D) : cmpD .isnot a b = (isD a b).map (!·) := rfl
@[simp] theorem cmp_mem (a b : D) : cmpD .mem a b = memD a b := rfl
@[simp] theorem cmp_notmem (a b : D) : cmpD .notmem a b = (memD a b).map (!·) := rfl
@[simp] theorem cmp_lt (i j : Int) : cmpD .lt (.int i) (.int j) = some (decide (i < j)) := rfl
@[simp] theorem cmp_le (i j : Int) : cmpD .le (.int i) (.int j) = some (decide (i ≤ j)) := rfl
@[simp] theorem cmp_gt (i j : Int) : cmpD .gt (.int i) (.int j) = some (decide (j < i)) := rfl
@[simp] theorem cmp_ge (i j : Int) : cmpD .ge (.int i) (.int j) = some (decide (j ≤ i)) := rfl
@[simp] theorem cmp_leS (x y : Str) : cmpD .le (.str x) (.str y) = some (!strLt y.cps.toList x.cps.toList) := rfl
@[simp] theorem isD_non (a : D) : isD a .non = some a.isNon := rfl
@[simp] theorem isNon_non : D.non.isNon = true := rfl
@[simp] theorem isNon_int (i) : (D.int i).isNon = false := rfl
@[simp] theorem isNon_str (i) : (D.str i).isNon = false := rfl
@[simp] theorem isNon_bl (i) : (D.bl i).isNon = false := rfl
@[simp] theorem isNon_lst (i) : (D.lst i).isNon = false := rfl
@[simp] theorem isNon_tup (i) : (D.tup i).isNon = false := rfl
@[simp] theorem isNon_dic (i) : (D.dic i).isNon = false := rfl
@[simp] theorem eq_ss (x y : Str) : eqD (.str x) (.str y) = some (decide (x = y)) := by simp [eqD, D.atom, D.flatK, D.eqv]
@[simp] theorem eq_ii (x y : Int) : eqD (.int x) (.int y) = some (decide (x = y)) := by simp [eqD, D.atom, D.flatK, D.eqv]
@[simp] theorem eq_bb (x y : Bool) : eqD (.bl x) (.bl y) = some (x == y) := by simp [eqD, D.atom, D.flatK, D.eqv]
@[simp] theorem len_l (xs : List D) : biD .len (.lst xs) = some (.int xs.length) := rfl
@[simp] theorem len_t (xs : List D) : biD .len (.tup xs) = some (.int xs.length) := rfl
theorem place_nat {n k : Nat} (h : k < n) : place n (k : Int) = some k := by
  unfold place; rw [if_pos (by omega), if_pos (by omega)]; simp
@[simp] theorem idx_l0 (a : D) (r) : idxD (.lst (a :: r)) (.int 0) = some a := by
  show (place _ ((0 : Nat) : Int)).bind _ = _
  rw [place_nat (by simp)]; rfl
@[simp] theorem idx_t0 (a : D) (r) : idxD (.tup (a :: r)) (.int 0) = some a := by
  show (place _ ((0 : Nat) : Int)).bind _ = _
  rw [place_nat (by simp)]; rfl
@[simp] theorem idx_l1 (a b : D) (r) : idxD (.lst (a :: b :: r)) (.int 1) = some b := by
  show (place _ ((1 : Nat) : Int)).bind _ = _
  rw [place_nat (by simp)]; rfl
@[simp] theorem idx_t1 (a b : D) (r) : idxD (.tup (a :: b :: r)) (.int 1) = some b := by
  show (place _ ((1 : Nat) : Int)).bind _ = _
  rw [place_nat (by simp)]; rfl
@[simp] theorem idx_l2 (a b c : D) (r) : idxD (.lst (a :: b :: c :: r)) (.int 2) = some c := by
  show (place _ ((2 : Nat) : Int)).bind _ = _
  rw [place_nat (by simp)]; rfl
@[simp] theorem idx_t2 (a b c : D) (r) : idxD (.tup (a :: b :: c :: r)) (.int 2) = some c := by
  show (place _ ((2 : Nat) : Int)).bind _ = _
  rw [place_nat (by simp)]; rfl
@[simp] theorem add_ii (i j : Int) : binD .add (.int i) (.int j) = some (.int (i + j)) := rfl
@[simp] theorem sub_ii (i j : Int) : binD .sub (.int i) (.int j) = some (.int (i - j)) := rfl
@[simp] theorem all_l (xs : List D) : biD .all (.lst xs) = (allBl xs).map .bl := rfl
@[simp] theorem any_l (xs : List D) : biD .any (.lst xs) = (anyBl xs).map .bl := rfl
@[simp] theorem list_l (xs : List D) : biD .list (.lst xs) = some (.lst xs) := rfl
@[simp] theorem list_t (xs : List D) : biD .list (.tup xs) = some (.lst xs) := rfl
@[simp] theorem tuple_l (xs : List D) : biD .tuple (.lst xs) = some (.tup xs) := rfl
@[simp] theorem walk_l (b : Bool) (xs : List D) : walkD b (.lst xs) = some xs := rfl
@[simp] theorem walk_t (b : Bool) (xs : List D) : walkD b (.tup xs) = some xs := rfl
@[simp] theorem seq_l (xs : List D) : seqD (.lst xs) = some xs := rfl
@[simp] theorem seq_t (xs : List D) : seqD (.tup xs) = some xs := rfl
@[simp] theorem from1_l (a : D) (xs : List D) : sliD (.lst (a :: xs)) (some (.int 1)) none = some (.lst xs) := by simp [sliD, bound, cutL]
@[simp] theorem from1_t (a : D) (xs : List D) : sliD (.tup (a :: xs)) (some (.int 1)) none = some (.tup xs) := by simp [sliD, bound, cutL]

@[simp] theorem muK_l (m : Mu) (xs : List D) : muK m (.lst xs) = (match m with | .update => false | _ => true) := rfl
@[simp] theorem mu_append (xs : List D) (x : D) : muD .append (.lst xs) [x] = if xs.length < lim then some (.lst (xs ++ [x]), .non) else none := rfl
@[simp] theorem mu_extend (xs ys : List D) : muD .extend (.lst xs) [.lst ys] = if xs.length + ys.length ≤ lim then some (.lst (xs ++ ys), .non) else none := rfl
/-! ### plain data -/
mutual
def D.pl : D → Bool
  | .non => true | .bl _ => true | .int _ => true | .str _ => true
  | .tup xs => decide (xs.length ≤ 4096) && D.pls xs
  | .lst xs => decide (xs.length ≤ 4096) && D.pls xs
  | .dic kvs => kvs.isEmpty
  | _ => false
def D.pls : List D → Bool
  | [] => true
  | x :: xs => x.pl && D.pls xs
end
theorem pls_all (xs : List D) : D.pls xs = xs.all D.pl := by
  induction xs with
  | nil => rfl
  | cons x xs ih => simp [D.pls, ih]
theorem pl_kd {x : D} (h : x.pl = true) : x.kinded = true := by cases x <;> simp [D.pl] at h ⊢
theorem pl_seq {x : D} (h : x.pl = true) {xs : List D} (e : seqD x = some xs) : xs.length ≤ 4096 ∧ ∀ y ∈ xs, y.pl = true := by
  cases x <;> simp [seqD] at e <;> subst e <;> simpa [D.pl, pls_all] using h
theorem pl_cons {x : D} {xs : List D} (h : D.pls (x :: xs) = true) : x.pl = true ∧ D.pls xs = true := by simpa [D.pls] using h

inductive Bo where | and | or | thn
  deriving DecidableEq
inductive Fm where
  | tt | lt (x : Str) | neg (a : Fm) | bin (o : Bo) (a b : Fm)
  deriving DecidableEq
abbrev wTrue := sx [116, 114, 117, 101]
abbrev wLet := sx [108, 101, 116, 116, 101, 114]
abbrev wNot := sx [110, 111, 116]
abbrev wAnd := sx [97, 110, 100]
abbrev wOr := sx [111, 114]
abbrev wThen := sx [116, 104, 101, 110]
def bo (w : Str) : Option Bo := if w = wAnd then some .and else if w = wOr then some .or else if w = wThen then some .thn else none
def Bo.w : Bo → Str
  | .and => wAnd | .or => wOr | .thn => wThen
theorem bo_w {w : Str} {o : Bo} (h : bo w = some o) : w = o.w := by
  unfold bo at h; split at h
  · cases h; assumption
  · split at h
    · cases h; assumption
    · split at h
      · cases h; assumption
      · cases h
def letF : D → Option Fm
  | .str x => if strLet x = true then some (.lt x) else none
  | _ => none
mutual
def toF : D → Option Fm
  | .tup xs => toFs xs
  | .lst xs => toFs xs
  | _ => none
def toFs : List D → Option Fm
  | [] => none
  | .str w :: r => toFw w r
  | _ => none
def toFw (w : Str) : List D → Option Fm
  | [] => if w = wTrue then some .tt else none
  | [a] => if w = wLet then letF a else if w = wNot then (toF a).map .neg else none
  | [a, b] => (match bo w, toF a, toF b with
      | some o, some a, some b => some (.bin o a b)
      | _, _, _ => none)
  | _ => none
end
def Fm.dep : Fm → Nat
  | .tt => 0 | .lt _ => 0
  | .neg a => a.dep + 1
  | .bin _ a b => max a.dep b.dep + 1
def Fm.lets : Fm → List Str
  | .tt => []
  | .lt x => [x]
  | .neg a => a.lets
  | .bin _ a b => a.lets ++ b.lets
def Fm.ev (w : List Str) : Fm → Bool
  | .tt => true
  | .lt x => decide (x ∈ w)
  | .neg a => !(a.ev w)
  | .bin .and a b => a.ev w && b.ev w
  | .bin .or a b => a.ev w || b.ev w
  | .bin .thn a b => !(a.ev w) || b.ev w
end Us
end

section
set_option linter.all false
set_option maxRecDepth 100000
/-! Us.B4: formulas seen and read by the program's defs. -/
namespace Us
open PySem (Str)
variable {P : Prg} {cap : Int → Bool} {d : Nat} {s : S}
structure HasF (P : Prg) : Prop where
  h1 : P.fn 1 = some f1
  h2 : P.fn 2 = some f2
  h3 : P.fn 3 = some f3
  h4 : P.fn 4 = some f4
  h5 : P.fn 5 = some f5
  h6 : P.fn 6 = some f6
  h9 : P.fn 9 = some f9
  h10 : P.fn 10 = some f10
  h11 : P.fn 11 = some f11
  h12 : P.fn 12 = some f12
  h13 : P.fn 13 = some f13
  h14 : P.fn 14 = some f14
  h15 : P.fn 15 = some f15
theorem depth_seq {x : D} {xs : List D} (e : seqD x = some xs) : x.depth = D.depths xs + 1 := by
  cases x <;> simp [seqD] at e <;> subst e <;> rfl
theorem depths_mem {xs : List D} {y : D} (h : y ∈ xs) : y.depth ≤ D.depths xs := by
  induction xs with
  | nil => simp at h
  | cons x xs ih =>
    simp only [D.depths]
    rcases List.mem_cons.mp h with rfl | h
    · omega
    · have := ih h; omega
theorem toF_seq {x : D} {xs : List D} (e : seqD x = some xs) : toF x = toFs xs := by
  cases x <;> simp [seqD] at e <;> subst e <;> rw [toF]
theorem toF_none {x : D} (e : seqD x = none) : toF x = none := by
  cases x <;> simp [seqD] at e <;> simp [toF]
@[simp] theorem len_seq {x : D} {xs : List D} (e : seqD x = some xs) : biD .len x = some (.int xs.length) := by
  cases x <;> simp [seqD] at e <;> subst e <;> simp
theorem idx_s0 {x : D} {a : D} {r : List D} (e : seqD x = some (a :: r)) : idxD x (.int 0) = some a := by
  cases x <;> simp [seqD] at e <;> subst e <;> simp
theorem idx_s1 {x : D} {a b : D} {r : List D} (e : seqD x = some (a :: b :: r)) : idxD x (.int 1) = some b := by
  cases x <;> simp [seqD] at e <;> subst e <;> simp
theorem idx_s2 {x : D} {a b c : D} {r : List D} (e : seqD x = some (a :: b :: c :: r)) : idxD x (.int 2) = some c := by
  cases x <;> simp [seqD] at e <;> subst e <;> simp
theorem isL_seq {x : D} {xs : List D} (e : seqD x = some xs) : isL x = true := by
  cases x <;> simp [seqD] at e <;> rfl
theorem isL_none {x : D} (e : seqD x = none) : isL x = false := by
  cases x <;> simp [seqD] at e <;> rfl
@[simp] theorem sx_inj (a b : List Nat) : sx a = sx b ↔ a = b := by simp [sx]
@[simp] theorem let_some (a : D) : (letF a).isSome = isLet a := by
  cases a <;> simp [isLet, letF]
  split <;> simp_all
@[simp] theorem isTy_str (x : D) : isTy .str x = (match x with | .str _ => true | _ => false) := by cases x <;> rfl
theorem mem3 (w a b c : Str) : memD (.str w) (.tup [.str a, .str b, .str c]) = some (decide (a = w) || (decide (b = w) || decide (c = w))) := by
  simp [memD, D.atom, D.eqv]
theorem bo_some (w : Str) : (bo w).isSome = (decide (wAnd = w) || (decide (wOr = w) || decide (wThen = w))) := by
  unfold bo
  by_cases h1 : w = wAnd
  · simp [h1]
  by_cases h2 : w = wOr
  · simp [h2]
  by_cases h3 : w = wThen
  · simp [h3]
  simp [h1, h2, h3, Ne.symm h1, Ne.symm h2, Ne.symm h3]
theorem c9 (H : HasF P) (n : Nat) : ∀ (x : D) (d : Nat) (s : S), x.pl = true → x.depth ≤ n → n + 2 ≤ d → callAt P cap d 9 [.d x] s = .ok (.bl (toF x).isSome) s := by
  induction n with
  | zero =>
    intro x d s hp hx hd
    obtain ⟨d, rfl⟩ : ∃ e, d = e + 2 := ⟨d - 2, by omega⟩
    rw [call1 H.h9 x rfl]
    have e : seqD x = none := by
      cases h : seqD x with
      | none => rfl
      | some xs => have := depth_seq h; omega
    simp [f9, c1 H.h1 x (pl_kd hp), isL_none e, toF_none e]
  | succ n ih =>
    intro x d s hp hx hd
    obtain ⟨d, rfl⟩ : ∃ e, d = e + 3 := ⟨d - 3, by omega⟩
    rw [call1 H.h9 x rfl]
    have h1 := fun s => c1 (d := d + 1) (cap := cap) (s := s) H.h1 x (pl_kd hp)
    cases e : seqD x with
    | none => simp [f9, h1, isL_none e, toF_none e]
    | some xs =>
      obtain ⟨hl, hps⟩ := pl_seq hp e
      have hdx := depth_seq e
      have ih' : ∀ y ∈ xs, ∀ s, callAt P cap (d + 2) 9 [.d y] s = .ok (.bl (toF y).isSome) s := fun y hy s => ih y (d + 2) s (hps y hy) (by have := depths_mem hy; omega) (by omega)
      have h5 : ∀ y ∈ xs, ∀ s, callAt P cap (d + 2) 5 [.d y] s = .ok (.bl (isLet y)) s := fun y hy s => c5 H.h5 y (pl_kd (hps y hy))
      simp only [toF_seq e]
      rcases xs with _ | ⟨w, r⟩
      · simp [f9, h1, isL_seq e, len_seq e, toFs]
      have hw := hps _ (List.mem_cons_self ..)
      cases w with
      | str w =>
        have m3 : (decide (wAnd = w) || (decide (wOr = w) || decide (wThen = w))) = (bo w).isSome := (bo_some w).symm
        rcases r with _ | ⟨a, _ | ⟨b, _ | ⟨c, r⟩⟩⟩
        · simp [f9, h1, isL_seq e, len_seq e, idx_s0 e, mem3, toFs, toFw]
          by_cases hw : w = wTrue
          · simp [hw]
          by_cases hw2 : w = wLet
          · simp [hw2]
          by_cases hw3 : w = wNot
          · simp [hw3]
          simp [hw, hw2, hw3]
        · simp [f9, h1, isL_seq e, len_seq e, idx_s0 e, idx_s1 e, h5 a (by simp), ih' a (by simp), mem3, toFs, toFw]
          by_cases hw : w = wTrue
          · simp [hw]
          by_cases hw2 : w = wLet
          · simp [hw2]
          by_cases hw3 : w = wNot
          · simp [hw3]
          simp [hw, hw2, hw3]
        · simp [f9, h1, isL_seq e, len_seq e, idx_s0 e, idx_s1 e, idx_s2 e, ih' a (by simp), ih' b (by simp), mem3, toFs, toFw, m3, -Bool.or_eq_true, -Bool.or_eq_false_iff]
          by_cases hw : w = wTrue
          · simp [hw, bo]
          by_cases hw2 : w = wLet
          · simp [hw2, bo]
          by_cases hw3 : w = wNot
          · simp [hw3, bo]
          simp [hw, hw2, hw3]
          cases hb : bo w <;> cases ha : toF a <;> cases hc : toF b <;> simp
        · have q : ∀ k : Int, k ≤ 3 → ¬((r.length : Int) + 1 + 1 + 1 + 1 = k) := by intro k hk; omega
          simp [f9, h1, isL_seq e, len_seq e, idx_s0 e, mem3, toFs, toFw, q 0, q 1, q 2, q 3]
      | fn _ => simp [D.pl] at hw
      | stm => simp [D.pl] at hw
      | scr _ => simp [D.pl] at hw
      | _ => simp [f9, h1, isL_seq e, len_seq e, idx_s0 e, toFs]

/-- what a formula that is told is, seen -/
theorem toF_shape {x : D} {f : Fm} (hx : toF x = some f) : ∃ xs, seqD x = some xs ∧ (match f with
    | .tt => xs = [.str wTrue]
    | .lt l => xs = [.str wLet, .str l] ∧ strLet l = true
    | .neg a => ∃ y, xs = [.str wNot, y] ∧ toF y = some a
    | .bin o a b => ∃ y z, xs = [.str o.w, y, z] ∧ toF y = some a ∧ toF z = some b) := by
  cases e : seqD x with
  | none => rw [toF_none e] at hx; cases hx
  | some xs =>
  refine ⟨xs, rfl, ?_⟩
  have h := (toF_seq e).symm.trans hx
  rcases xs with _ | ⟨w, r⟩
  · simp [toFs] at h
  cases w <;> simp [toFs] at h
  rename_i w
  rcases r with _ | ⟨a, _ | ⟨b, _ | ⟨c, r⟩⟩⟩ <;> simp [toFw] at h
  · obtain ⟨rfl, rfl⟩ := h; rfl
  · by_cases hl : w = wLet
    · rw [if_pos hl] at h; subst hl
      cases a <;> simp [letF] at h
      obtain ⟨h, rfl⟩ := h
      exact ⟨rfl, h⟩
    · rw [if_neg hl] at h
      by_cases hn : w = wNot
      · rw [if_pos hn] at h; subst hn
        simp at h
        obtain ⟨g, h, rfl⟩ := h
        exact ⟨a, rfl, h⟩
      · rw [if_neg hn] at h; cases h
  · cases hb : bo w <;> cases ha : toF a <;> cases hc : toF b <;> simp [hb, ha, hc] at h
    subst h
    exact ⟨a, b, by rw [bo_w hb], ha, hc⟩
theorem memD_str {l : D} {L : List Str} (e : seqD l = some (L.map D.str)) (x : Str) : memD (.str x) l = some (decide (x ∈ L)) := by
  have h1 : ∀ L : List Str, D.flatKs (L.map D.str) = true := by intro L; induction L <;> simp [D.flatKs, D.flatK, *]
  have h2 : ∀ L : List Str, ((L.map D.str).any fun z => z.eqv (.str x)) = decide (x ∈ L) := by
    intro L; induction L with
    | nil => rfl
    | cons y L ih => simp only [List.map_cons, List.any_cons, ih]; simp [D.eqv, Bool.eq_iff_iff, eq_comm]
  have h3 : ∀ L : List Str, (L.map D.str).all D.atom = true := by intro L; induction L <;> simp [D.atom, *]
  cases l <;> simp [seqD] at e <;> subst e
  · simp only [memD]; rw [h2, h3]; simp [D.atom]
  · simp only [memD]; rw [h1, h2]; simp [D.flatK, D.depth]
theorem c12 (H : HasF P) : ∀ (f : Fm) (x : D) (w : D) (L : List Str) (d : Nat) (s : S), toF x = some f → seqD w = some (L.map D.str) → f.dep + 1 ≤ d → callAt P cap d 12 [.d x, .d w] s = .ok (.bl (f.ev L)) s := by
  intro f
  induction f with
  | tt =>
    intro x w L d s hx hw hd
    obtain ⟨d, rfl⟩ : ∃ e, d = e + 1 := ⟨d - 1, by omega⟩
    obtain ⟨xs, e, rfl⟩ := toF_shape hx
    rw [call2 H.h12 x w rfl]
    simp [f12, idx_s0 e, Fm.ev]
  | lt l =>
    intro x w L d s hx hw hd
    obtain ⟨d, rfl⟩ : ∃ e, d = e + 1 := ⟨d - 1, by omega⟩
    obtain ⟨xs, e, rfl, hl⟩ := toF_shape hx
    rw [call2 H.h12 x w rfl]
    simp [f12, idx_s0 e, idx_s1 e, Fm.ev, memD_str hw]
  | neg a ih =>
    intro x w L d s hx hw hd
    simp only [Fm.dep] at hd
    obtain ⟨d, rfl⟩ : ∃ e, d = e + 1 := ⟨d - 1, by omega⟩
    obtain ⟨xs, e, y, rfl, hy⟩ := toF_shape hx
    rw [call2 H.h12 x w rfl]
    simp [f12, idx_s0 e, idx_s1 e, Fm.ev, fun s => ih y w L d s hy hw (by omega)]
  | bin o a b iha ihb =>
    intro x w L d s hx hw hd
    simp only [Fm.dep] at hd
    obtain ⟨d, rfl⟩ : ∃ e, d = e + 1 := ⟨d - 1, by omega⟩
    obtain ⟨xs, e, y, z, rfl, hy, hz⟩ := toF_shape hx
    rw [call2 H.h12 x w rfl]
    have h1 := fun s => iha y w L d s hy hw (by omega)
    have h2 := fun s => ihb z w L d s hz hw (by omega)
    cases o <;> simp [f12, idx_s0 e, idx_s1 e, idx_s2 e, Fm.ev, h1, h2, Bo.w]
    exact Bool.or_comm _ _
theorem lets_len (f : Fm) : f.lets.length ≤ 2 ^ f.dep := by
  induction f with
  | tt => simp [Fm.lets]
  | lt => simp [Fm.lets, Fm.dep]
  | neg a ih => simp only [Fm.lets, Fm.dep, Nat.pow_succ]; omega
  | bin o a b iha ihb =>
    simp only [Fm.lets, Fm.dep, List.length_append, Nat.pow_succ]
    have := Nat.pow_le_pow_right (show 2 > 0 by omega) (Nat.le_max_left a.dep b.dep)
    have := Nat.pow_le_pow_right (show 2 > 0 by omega) (Nat.le_max_right a.dep b.dep)
    omega
theorem c10 (H : HasF P) : ∀ (f : Fm) (x : D) (d : Nat) (s : S), toF x = some f → f.dep ≤ 20 → f.dep + 1 ≤ d → callAt P cap d 10 [.d x] s = .ok (.lst (f.lets.map D.str)) s := by
  intro f
  induction f with
  | tt =>
    intro x d s hx hf hd
    obtain ⟨d, rfl⟩ : ∃ e, d = e + 1 := ⟨d - 1, by omega⟩
    obtain ⟨xs, e, rfl⟩ := toF_shape hx
    rw [call1 H.h10 x rfl]
    cases x <;> simp [seqD] at e <;> subst e <;> simp [f10, Fm.lets, List.replicate, forL]
  | lt l =>
    intro x d s hx hf hd
    obtain ⟨d, rfl⟩ : ∃ e, d = e + 1 := ⟨d - 1, by omega⟩
    obtain ⟨xs, e, rfl, hl⟩ := toF_shape hx
    rw [call1 H.h10 x rfl]
    simp [f10, idx_s0 e, idx_s1 e, Fm.lets]
  | neg a ih =>
    intro x d s hx hf hd
    simp only [Fm.dep] at hd hf
    obtain ⟨d, rfl⟩ : ∃ e, d = e + 1 := ⟨d - 1, by omega⟩
    obtain ⟨xs, e, y, rfl, hy⟩ := toF_shape hx
    rw [call1 H.h10 x rfl]
    have h1 := fun s => ih y d s hy (by omega) (by omega)
    have l1 := lets_len a
    have p1 := Nat.pow_le_pow_right (show 2 > 0 by omega) (show a.dep ≤ 20 by omega)
    have q1 : a.lets.length ≤ lim := by simp only [lim]; omega
    cases x <;> simp [seqD] at e <;> subst e <;> simp [f10, Fm.lets, List.replicate, forL, h1, mutD, q1]
  | bin o a b iha ihb =>
    intro x d s hx hf hd
    simp only [Fm.dep] at hd hf
    obtain ⟨d, rfl⟩ : ∃ e, d = e + 1 := ⟨d - 1, by omega⟩
    obtain ⟨xs, e, y, z, rfl, hy, hz⟩ := toF_shape hx
    rw [call1 H.h10 x rfl]
    have h1 := fun s => iha y d s hy (by omega) (by omega)
    have h2 := fun s => ihb z d s hz (by omega) (by omega)
    have l1 := lets_len a
    have l2 := lets_len b
    have p1 := Nat.pow_le_pow_right (show 2 > 0 by omega) (show a.dep ≤ 20 by omega)
    have p2 := Nat.pow_le_pow_right (show 2 > 0 by omega) (show b.dep ≤ 20 by omega)
    have q1 : a.lets.length ≤ lim := by simp only [lim]; omega
    have q2 : a.lets.length + b.lets.length ≤ lim := by simp only [lim]; omega
    cases x <;> simp [seqD] at e <;> subst e <;> cases o <;> simp [f10, Fm.lets, List.replicate, forL, h1, h2, mutD, q1, q2, Bo.w]
end Us
end

section
set_option linter.all false
set_option maxRecDepth 100000
/-! Us.B5: formulas, sayings seen by the program's defs. -/
namespace Us
open PySem (Str)
variable {P : Prg} {cap : Int → Bool} {d : Nat} {s : S}
theorem toF_dep : ∀ (f : Fm) (x : D), toF x = some f → f.dep + 1 ≤ x.depth := by
  intro f
  induction f with
  | tt => intro x h; obtain ⟨xs, e, rfl⟩ := toF_shape h; rw [depth_seq e]; simp [Fm.dep]
  | lt => intro x h; obtain ⟨xs, e, rfl, _⟩ := toF_shape h; rw [depth_seq e]; simp [Fm.dep]
  | neg a ih => intro x h; obtain ⟨xs, e, y, rfl, hy⟩ := toF_shape h; rw [depth_seq e]; have := ih y hy; simp only [D.depths, Fm.dep]; omega
  | bin o a b iha ihb => intro x h; obtain ⟨xs, e, y, z, rfl, hy, hz⟩ := toF_shape h; rw [depth_seq e]; have := iha y hy; have := ihb z hz; simp only [D.depths, Fm.dep]; omega
/-- a formula over letters -/
def isFm (L : List Str) (x : D) : Bool := match toF x with
  | some f => f.lets.all fun y => decide (y ∈ L)
  | none => false
theorem c11 (H : HasF P) {l x : D} {L : List Str} (hl : seqD l = some (L.map D.str)) (hp : x.pl = true) (hx : x.depth ≤ 20) (hd : x.depth + 3 ≤ d) : callAt P cap d 11 [.d l, .d x] s = .ok (.bl (isFm L x)) s := by
  obtain ⟨d, rfl⟩ : ∃ e, d = e + 1 := ⟨d - 1, by omega⟩
  rw [call2 H.h11 l x rfl]
  have h9 := fun s => c9 (cap := cap) H x.depth x d s hp (Nat.le_refl _) (by omega)
  cases hf : toF x with
  | none => simp [f11, h9, hf, isFm]
  | some f =>
    have hfd := toF_dep f x hf
    have h10 := fun s => c10 (cap := cap) H f x d s hf (by omega) (by omega)
    have l1 := lets_len f
    have p1 := Nat.pow_le_pow_right (show 2 > 0 by omega) (show f.dep ≤ 20 by omega)
    simp [f11, h9, hf, h10, List.replicate]
    rw [compL_mapOf D.str (fun y => D.bl (decide (y ∈ L))) (by intro y _; simp [cstep, memD_str hl]) (by simp only [lim]; omega)]
    simp [allBl_map, isFm, hf]
def isSay (L : List Str) (x : D) : Bool := match seqD x with
  | some [a, b] => isFm L a && isFm L b
  | _ => false
theorem c13 (H : HasF P) {l x : D} {L : List Str} (hl : seqD l = some (L.map D.str)) (hp : x.pl = true) (hx : x.depth ≤ 20) (hd : x.depth + 3 ≤ d) : callAt P cap d 13 [.d l, .d x] s = .ok (.bl (isSay L x)) s := by
  obtain ⟨d, rfl⟩ : ∃ e, d = e + 3 := ⟨d - 3, by omega⟩
  rw [call2 H.h13 l x rfl]
  have h4 := fun s => c4 (d := d) (cap := cap) (s := s) H.h1 H.h4 x 2 (pl_kd hp)
  cases e : seqD x with
  | none => simp [f13, h4, e, isSay]
  | some xs =>
    obtain ⟨hxl, hps⟩ := pl_seq hp e
    have hdx := depth_seq e
    rcases xs with _ | ⟨a, _ | ⟨b, _ | ⟨c, r⟩⟩⟩
    · simp [f13, h4, e, isSay]
    · simp [f13, h4, e, isSay]
    · have ha := depths_mem (y := a) (xs := [a, b]) (by simp)
      have hb := depths_mem (y := b) (xs := [a, b]) (by simp)
      have h1 := fun s => c11 (cap := cap) (s := s) (d := d + 2) H hl (hps a (by simp)) (by omega) (by omega)
      have h2 := fun s => c11 (cap := cap) (s := s) (d := d + 2) H hl (hps b (by simp)) (by omega) (by omega)
      simp [f13, h4, e, isSay, idx_s0 e, idx_s1 e, h1, h2]
    · have : ¬((r.length : Int) + 1 + 1 + 1 = 2) := by omega
      simp [f13, h4, e, isSay, this]
/-- what a saying is -/
def toSay (x : D) : Option (Fm × Fm) := match seqD x with
  | some [a, b] => (match toF a, toF b with
    | some f, some g => some (f, g)
    | _, _ => none)
  | _ => none
theorem toSay_shape {x : D} {p : Fm × Fm} (h : toSay x = some p) : ∃ a b, seqD x = some [a, b] ∧ toF a = some p.1 ∧ toF b = some p.2 := by
  unfold toSay at h
  split at h
  · rename_i a b e
    split at h
    · rename_i f g hf hg; cases h; exact ⟨a, b, e, hf, hg⟩
    · cases h
  · cases h
def sdep (p : Fm × Fm) : Nat := max p.1.dep p.2.dep
def met (w : List Str) (p : Fm × Fm) : Bool := p.1.ev w && p.2.ev w
def broken (w : List Str) (p : Fm × Fm) : Bool := p.1.ev w && !p.2.ev w
theorem c14 (H : HasF P) {x w : D} {p : Fm × Fm} {L : List Str} (hx : toSay x = some p) (hw : seqD w = some (L.map D.str)) (hd : sdep p + 2 ≤ d) : callAt P cap d 14 [.d x, .d w] s = .ok (.bl (met L p)) s := by
  obtain ⟨d, rfl⟩ : ∃ e, d = e + 1 := ⟨d - 1, by omega⟩
  obtain ⟨a, b, e, ha, hb⟩ := toSay_shape hx
  unfold sdep at hd
  rw [call2 H.h14 x w rfl]
  simp [f14, idx_s0 e, idx_s1 e, fun s => c12 (cap := cap) H p.1 a w L d s ha hw (by omega), fun s => c12 (cap := cap) H p.2 b w L d s hb hw (by omega), met]
theorem c15 (H : HasF P) {x w : D} {p : Fm × Fm} {L : List Str} (hx : toSay x = some p) (hw : seqD w = some (L.map D.str)) (hd : sdep p + 2 ≤ d) : callAt P cap d 15 [.d x, .d w] s = .ok (.bl (broken L p)) s := by
  obtain ⟨d, rfl⟩ : ∃ e, d = e + 1 := ⟨d - 1, by omega⟩
  obtain ⟨a, b, e, ha, hb⟩ := toSay_shape hx
  unfold sdep at hd
  rw [call2 H.h15 x w rfl]
  simp [f15, idx_s0 e, idx_s1 e, fun s => c12 (cap := cap) H p.1 a w L d s ha hw (by omega), fun s => c12 (cap := cap) H p.2 b w L d s hb hw (by omega), broken]
/-! ### the law's own look at formulas -/
structure HasL (P : Prg) : Prop where
  h32 : P.fn 32 = some f32
  h38 : P.fn 38 = some f38
  h39 : P.fn 39 = some f39
  h40 : P.fn 40 = some f40
  h41 : P.fn 41 = some f41
  h42 : P.fn 42 = some f42
  h43 : P.fn 43 = some f43
  h44 : P.fn 44 = some f44
theorem mem2 (w a b : Str) : memD (.str w) (.tup [.str a, .str b]) = some (decide (a = w) || decide (b = w)) := by
  simp [memD, D.atom, D.eqv]
theorem c39 (H : HasL P) : ∀ (f : Fm) (x : D) (w : D) (L : List Str) (d : Nat) (s : S), toF x = some f → seqD w = some (L.map D.str) → f.dep + 1 ≤ d → callAt P cap d 39 [.d x, .d w] s = .ok (.bl (f.ev L)) s := by
  intro f
  induction f with
  | tt =>
    intro x w L d s hx hw hd
    obtain ⟨d, rfl⟩ : ∃ e, d = e + 1 := ⟨d - 1, by omega⟩
    obtain ⟨xs, e, rfl⟩ := toF_shape hx
    rw [call2 H.h39 x w rfl]
    simp [f39, idx_s0 e, Fm.ev, mem2]
  | lt l =>
    intro x w L d s hx hw hd
    obtain ⟨d, rfl⟩ : ∃ e, d = e + 1 := ⟨d - 1, by omega⟩
    obtain ⟨xs, e, rfl, hl⟩ := toF_shape hx
    rw [call2 H.h39 x w rfl]
    simp [f39, idx_s0 e, idx_s1 e, Fm.ev, memD_str hw, mem2]
  | neg a ih =>
    intro x w L d s hx hw hd
    simp only [Fm.dep] at hd
    obtain ⟨d, rfl⟩ : ∃ e, d = e + 1 := ⟨d - 1, by omega⟩
    obtain ⟨xs, e, y, rfl, hy⟩ := toF_shape hx
    rw [call2 H.h39 x w rfl]
    have h1 := fun s => ih y w L d s hy hw (by omega)
    cases x <;> simp [seqD] at e <;> subst e <;> simp [f39, Fm.ev, h1, mem2, compL, cstep, List.replicate, lim]
  | bin o a b iha ihb =>
    intro x w L d s hx hw hd
    simp only [Fm.dep] at hd
    obtain ⟨d, rfl⟩ : ∃ e, d = e + 1 := ⟨d - 1, by omega⟩
    obtain ⟨xs, e, y, z, rfl, hy, hz⟩ := toF_shape hx
    rw [call2 H.h39 x w rfl]
    have h1 := fun s => iha y w L d s hy hw (by omega)
    have h2 := fun s => ihb z w L d s hz hw (by omega)
    cases x <;> simp [seqD] at e <;> subst e <;> cases o <;> simp [f39, Fm.ev, h1, h2, Bo.w, mem2, compL, cstep, List.replicate, lim, allBl, anyBl]
    all_goals exact Bool.or_comm _ _
def many : List (Ky × D) := [(.inr wTrue, .int 0), (.inr wNot, .int 1), (.inr wAnd, .int 2), (.inr wOr, .int 2), (.inr wThen, .int 2)]
theorem many_is : dmerge [] [(Sum.inr wTrue, D.int 0), (.inr wNot, .int 1), (.inr wAnd, .int 2), (.inr wOr, .int 2), (.inr wThen, .int 2)] = many := by rfl
/-- how many parts a word takes -/
def arity (w : Str) : Option Int := if w = wTrue then some 0 else if w = wNot then some 1 else if (bo w).isSome = true then some 2 else none
theorem many_get (w : Str) : dget many (.inr w) = (arity w).map .int := by
  unfold dget many arity bo
  by_cases h1 : w = wTrue
  · subst h1; simp
  by_cases h2 : w = wNot
  · subst h2; simp
  by_cases h3 : w = wAnd
  · subst h3; simp
  by_cases h4 : w = wOr
  · subst h4; simp
  by_cases h5 : w = wThen
  · subst h5; simp
  simp [h1, h2, h3, h4, h5, Ne.symm h1, Ne.symm h2, Ne.symm h3, Ne.symm h4, Ne.symm h5]
@[simp] theorem bo_T : bo wTrue = none := by decide
@[simp] theorem bo_L : bo wLet = none := by decide
@[simp] theorem bo_N : bo wNot = none := by decide
theorem isFm_none {L : List Str} {x : D} (e : seqD x = none) : isFm L x = false := by simp [isFm, toF_none e]
def isLetIn (L : List Str) : D → Bool
  | .str y => strLet y && decide (y ∈ L)
  | _ => false
theorem isLet_str {a : D} (h : isLet a = true) : ∃ y, a = .str y ∧ strLet y = true := by
  cases a <;> simp [isLet] at h
  exact ⟨_, rfl, h⟩
theorem isLetIn_no {L : List Str} {a : D} (h : isLet a = false) : isLetIn L a = false := by
  cases a <;> simp [isLet, isLetIn] at h ⊢
  intro h'; simp [h] at h'
theorem letF_in (L : List Str) (a : D) : (match letF a with | some f => f.lets.all fun y => decide (y ∈ L) | none => false) = isLetIn L a := by
  cases a <;> simp only [letF, isLetIn]
  rename_i x
  cases strLet x <;> simp [Fm.lets]
theorem neg_in (L : List Str) (a : D) : (match (toF a).map Fm.neg with | some f => f.lets.all fun y => decide (y ∈ L) | none => false) = isFm L a := by
  unfold isFm; cases toF a <;> rfl
theorem bin_in (L : List Str) (o : Bo) (a b : D) : (match (match some o, toF a, toF b with
      | some o, some a, some b => some (Fm.bin o a b)
      | _, _, _ => none) with | some f => f.lets.all fun y => decide (y ∈ L) | none => false) = (isFm L a && isFm L b) := by
  unfold isFm; cases toF a <;> cases toF b <;> simp [Fm.lets]
/-- a formula over letters, by its parts -/
def isFs (L : List Str) (w : Str) (r : List D) : Bool := if w = wLet then (match r with
    | [y] => isLetIn L y
    | _ => false)
  else match arity w with
    | some n => decide ((r.length : Int) = n) && r.all (isFm L)
    | none => false
theorem isFm_cons {L : List Str} {x : D} {w : Str} {r : List D} (e : seqD x = some (.str w :: r)) : isFm L x = isFs L w r := by
  have h0 : isFm L x = (match toFw w r with | some f => f.lets.all fun y => decide (y ∈ L) | none => false) := by
    unfold isFm; rw [toF_seq e, toFs]
  rw [h0]
  unfold isFs arity
  rcases r with _ | ⟨a, _ | ⟨b, _ | ⟨c, r⟩⟩⟩
  · rw [toFw]
    by_cases h1 : w = wLet
    · subst h1; rfl
    · rw [if_neg h1]
      by_cases h : w = wTrue
      · subst h; rfl
      · rw [if_neg h, if_neg h]
        by_cases h2 : w = wNot
        · rw [if_pos h2]; rfl
        · rw [if_neg h2]; cases bo w <;> rfl
  · rw [toFw]
    by_cases h1 : w = wLet
    · rw [if_pos h1, if_pos h1]; exact letF_in L a
    · rw [if_neg h1, if_neg h1]
      by_cases h2 : w = wNot
      · rw [if_pos h2, neg_in]; subst h2; simp
      · rw [if_neg h2, if_neg h2]
        by_cases h : w = wTrue
        · rw [if_pos h]; rfl
        · rw [if_neg h]; cases bo w <;> rfl
  · rw [toFw]
    by_cases h1 : w = wLet
    · rw [if_pos h1]; subst h1; rw [bo_L]
    · rw [if_neg h1]
      by_cases h : w = wTrue
      · subst h; rw [bo_T]; rfl
      · rw [if_neg h]
        by_cases h2 : w = wNot
        · subst h2; rw [bo_N]; rfl
        · rw [if_neg h2]
          cases hb : bo w with
          | none => rfl
          | some o => exact (bin_in L o a b).trans (by simp)
  · rw [toFw]
    have q : ∀ k : Int, k ≤ 2 → decide (((a :: b :: c :: r).length : Int) = k) = false := by intro k hk; simp; omega
    by_cases h1 : w = wLet
    · rw [if_pos h1]
    · rw [if_neg h1]
      by_cases h : w = wTrue
      · rw [if_pos h]; simp only [q 0 (by omega)]; rfl
      · rw [if_neg h]
        by_cases h2 : w = wNot
        · rw [if_pos h2]; simp only [q 1 (by omega)]; rfl
        · rw [if_neg h2]
          cases bo w
          · rfl
          · simp only [Option.isSome_some, if_true, q 2 (by omega)]; rfl
    all_goals simp
theorem isFm_other {L : List Str} {x : D} {xs : List D} (e : seqD x = some xs) (h : ∀ w r, xs ≠ .str w :: r) : isFm L x = false := by
  unfold isFm
  rw [toF_seq e]
  rcases xs with _ | ⟨a, r⟩
  · simp [toFs]
  · cases a <;> simp [toFs]
    exact absurd rfl (h _ _)
theorem c40 (H : HasL P) {l : D} {L : List Str} (hl : seqD l = some (L.map D.str)) (n : Nat) : ∀ (x : D) (d : Nat) (s : S), x.pl = true → x.depth ≤ n → n + 2 ≤ d → callAt P cap d 40 [.d l, .d x] s = .ok (.bl (isFm L x)) s := by
  have hln : l.isNon = false := by cases l <;> simp [seqD] at hl <;> rfl
  induction n with
  | zero =>
    intro x d s hp hx hd
    obtain ⟨d, rfl⟩ : ∃ e, d = e + 2 := ⟨d - 2, by omega⟩
    rw [call2 H.h40 l x rfl]
    have e : seqD x = none := by
      cases h : seqD x with
      | none => rfl
      | some xs => have := depth_seq h; omega
    simp [f40, isL_none e, isFm_none e, pl_kd hp]
  | succ n ih =>
    intro x d s hp hx hd
    obtain ⟨d, rfl⟩ : ∃ e, d = e + 3 := ⟨d - 3, by omega⟩
    rw [call2 H.h40 l x rfl]
    cases e : seqD x with
    | none => simp [f40, isL_none e, isFm_none e, pl_kd hp]
    | some xs =>
      obtain ⟨hxl, hps⟩ := pl_seq hp e
      have hdx := depth_seq e
      have ih' : ∀ y ∈ xs, ∀ s, callAt P cap (d + 2) 40 [.d l, .d y] s = .ok (.bl (isFm L y)) s := fun y hy s => ih y (d + 2) s (hps y hy) (by have := depths_mem hy; omega) (by omega)
      have h41 : ∀ y ∈ xs, ∀ s, callAt P cap (d + 2) 41 [.d y] s = .ok (.bl (isLet y)) s := fun y hy s => c41 H.h41 y (pl_kd (hps y hy))
      rcases xs with _ | ⟨w, r⟩
      · simp [f40, isL_seq e, len_seq e, isFm_other e, pl_kd hp]
      have hw := hps _ (List.mem_cons_self ..)
      cases w with
      | str w =>
        have hr : biD .list x = some (.lst (.str w :: r)) := by cases x <;> simp [seqD] at e <;> subst e <;> simp
        rw [isFm_cons e]
        simp [f40, isL_seq e, len_seq e, idx_s0 e, pl_kd hp, hr, List.replicate]
        have hr0 : ¬((r.length : Int) + 1 = 0) := by omega
        rw [if_neg hr0]
        unfold isFs
        by_cases h1 : w = wLet
        · rcases r with _ | ⟨a, _ | ⟨b, r⟩⟩
          · simp [h1]
          · cases ha : isLet a
            · simp [h1, h41 a (by simp), ha, isLetIn_no ha]
            · obtain ⟨y, rfl, hy⟩ := isLet_str ha
              simp [h1, h41 (.str y) (by simp), ha, hln, memD_str hl, isLetIn, hy]
          · have : ¬((r.length : Int) + 1 + 1 = 1) := by omega
            simp [h1, this]
        · simp [h1, pairs, keyK, many_is, memD, many_get]
          cases har : arity w with
          | none => simp
          | some n =>
            simp [idxD, keyK, many_get, har]
            cases hrn : decide ((r.length : Int) = n)
            · simp
            · rw [compL_map (fun y => .bl (isFm L y)) (by intro y hy; simp [cstep, ih' y (by simp [hy])]) (by simp only [lim]; simp at hxl; omega)]
              simp [allBl_map']
      | fn _ => simp [D.pl] at hw
      | stm => simp [D.pl] at hw
      | scr _ => simp [D.pl] at hw
      | _ => simp [f40, isL_seq e, len_seq e, idx_s0 e, pl_kd hp, isFm_other e]
theorem c42 (H : HasL P) {l x : D} {L : List Str} (hl : seqD l = some (L.map D.str)) (hp : x.pl = true) (hd : x.depth + 3 ≤ d) : callAt P cap d 42 [.d l, .d x] s = .ok (.bl (isSay L x)) s := by
  obtain ⟨d, rfl⟩ : ∃ e, d = e + 1 := ⟨d - 1, by omega⟩
  rw [call2 H.h42 l x rfl]
  cases e : seqD x with
  | none => simp [f42, isL_none e, e, isSay, pl_kd hp]
  | some xs =>
    obtain ⟨hxl, hps⟩ := pl_seq hp e
    have hdx := depth_seq e
    have h1 : ∀ y ∈ xs, ∀ s, callAt P cap d 40 [.d l, .d y] s = .ok (.bl (isFm L y)) s := fun y hy s => c40 H hl y.depth y d s (hps y hy) (Nat.le_refl _) (by have := depths_mem hy; omega)
    have hw : ∀ b, walkD b x = some xs := by cases x <;> simp [seqD] at e <;> subst e <;> simp
    simp [f42, isL_seq e, len_seq e, pl_kd hp, List.replicate, hw]
    rw [compL_map (fun y => .bl (isFm L y)) (by intro y hy; simp [cstep, h1 y hy]) (by simp only [lim]; omega)]
    simp [allBl_map', isSay, e]
    rcases xs with _ | ⟨a, _ | ⟨b, _ | ⟨c, r⟩⟩⟩
    · simp
    · simp
    · simp
    · have : ¬((r.length : Int) + 1 + 1 + 1 = 2) := by omega
      simp [this]
theorem c43 (H : HasL P) {x w : D} {p : Fm × Fm} {L : List Str} (hx : toSay x = some p) (hw : seqD w = some (L.map D.str)) (hd : sdep p + 2 ≤ d) : callAt P cap d 43 [.d x, .d w] s = .ok (.bl (met L p)) s := by
  obtain ⟨d, rfl⟩ : ∃ e, d = e + 1 := ⟨d - 1, by omega⟩
  obtain ⟨a, b, e, ha, hb⟩ := toSay_shape hx
  unfold sdep at hd
  rw [call2 H.h43 x w rfl]
  simp [f43, idx_s0 e, idx_s1 e, fun s => c39 (cap := cap) H p.1 a w L d s ha hw (by omega), fun s => c39 (cap := cap) H p.2 b w L d s hb hw (by omega), met]
theorem c44 (H : HasL P) {x w : D} {p : Fm × Fm} {L : List Str} (hx : toSay x = some p) (hw : seqD w = some (L.map D.str)) (hd : sdep p + 2 ≤ d) : callAt P cap d 44 [.d x, .d w] s = .ok (.bl (broken L p)) s := by
  obtain ⟨d, rfl⟩ : ∃ e, d = e + 1 := ⟨d - 1, by omega⟩
  obtain ⟨a, b, e, ha, hb⟩ := toSay_shape hx
  unfold sdep at hd
  rw [call2 H.h44 x w rfl]
  simp [f44, idx_s0 e, idx_s1 e, fun s => c39 (cap := cap) H p.1 a w L d s ha hw (by omega), fun s => c39 (cap := cap) H p.2 b w L d s hb hw (by omega), broken]
end Us
end

section
set_option linter.all false
set_option maxRecDepth 100000
/-! Us.B6: copies, sameness; what is drawn. -/
namespace Us
open PySem (Str)
variable {P : Prg} {cap : Int → Bool} {d : Nat} {s : S}
structure HasC (P : Prg) : Prop where
  h27 : P.fn 27 = some f27
  h28 : P.fn 28 = some f28
  h29 : P.fn 29 = some f29
  h30 : P.fn 30 = some f30
  h31 : P.fn 31 = some f31
  h37 : P.fn 37 = some f37
@[simp] theorem isDat0 (x : D) (r : Env) : E.isDat (some (.d x) :: r) (.var 0) = true := rfl
theorem c31 (H : HasC P) (n : Nat) : ∀ (x : D) (d : Nat) (s : S), x.pl = true → x.depth ≤ n → n + 1 ≤ d → callAt P cap d 31 [.d x] s = .ok x s := by
  induction n with
  | zero =>
    intro x d s hp hx hd
    obtain ⟨d, rfl⟩ : ∃ e, d = e + 1 := ⟨d - 1, by omega⟩
    rw [call1 H.h31 x rfl]
    cases x <;> simp [D.depth, D.pl] at hx hp <;> simp [f31, isTy]
  | succ n ih =>
    intro x d s hp hx hd
    obtain ⟨d, rfl⟩ : ∃ e, d = e + 1 := ⟨d - 1, by omega⟩
    rw [call1 H.h31 x rfl]
    have key : ∀ xs : List D, xs.length ≤ 4096 → (∀ y ∈ xs, y.pl = true) → D.depths xs ≤ n → ∀ env s, compL (cstep (gAt P cap d) [2] (.call 31 (.cons (.var 2) .nil)) (.nm 2) [some (.d env), none, none, none]) xs [] s = .ok (.lst xs) s := by
      intro xs hl hps hn env s
      have := compL_map (g := cstep (gAt P cap d) [2] (.call 31 (.cons (.var 2) .nil)) (.nm 2) [some (.d env), none, none, none]) (fun y => y) (xs := xs) (s := s) (by intro y hy; simp [cstep, ih y d s (hps y hy) (by have := depths_mem hy; omega) (by omega)]) (by simp only [lim]; omega)
      simpa using this
    cases x with
    | lst xs =>
      obtain ⟨h1, h2⟩ := pl_seq hp (seq_l xs)
      simp only [D.depth] at hx
      simp [f31, isTy, List.replicate, key xs h1 h2 (by omega)]
    | tup xs =>
      obtain ⟨h1, h2⟩ := pl_seq hp (seq_t xs)
      simp only [D.depth] at hx
      simp [f31, isTy, List.replicate, key xs h1 h2 (by omega)]
    | dic kvs =>
      simp [D.pl] at hp
      subst hp
      simp [f31, isTy, List.replicate, walkD, compL, biD, pairsOf, dmerge]
    | fn _ => simp [D.pl] at hp
    | stm => simp [D.pl] at hp
    | scr _ => simp [D.pl] at hp
    | _ => simp [f31, isTy]
theorem c29 (H : HasC P) (n : Nat) : ∀ (x : D) (d : Nat) (s : S), x.pl = true → x.depth ≤ n → n + 2 ≤ d → callAt P cap d 29 [.d x, .d x] s = .ok (.bl true) s := by
  induction n with
  | zero =>
    intro x d s hp hx hd
    obtain ⟨d, rfl⟩ : ∃ e, d = e + 1 := ⟨d - 1, by omega⟩
    rw [call2 H.h29 x x rfl]
    cases x <;> simp [D.depth, D.pl] at hx hp <;> simp [f29, isTy]
  | succ n ih =>
    intro x d s hp hx hd
    obtain ⟨d, rfl⟩ : ∃ e, d = e + 2 := ⟨d - 2, by omega⟩
    rw [call2 H.h29 x x rfl]
    have key : ∀ xs : List D, xs.length ≤ 4096 → (∀ y ∈ xs, y.pl = true) → D.depths xs ≤ n → ∀ a b s, compL (cstep (gAt P cap (d + 1)) [2, 3] (.call 29 (.cons (.var 2) (.cons (.var 3) .nil))) (.tp [.nm 2, .nm 3]) [some (.d a), some (.d b), none, none]) (zipD xs xs) [] s = .ok (.lst (xs.map fun _ => .bl true)) s := by
      intro xs hl hps hn a b s
      have e : zipD xs xs = xs.map fun y => .tup [y, y] := by unfold zipD; induction xs <;> simp_all
      rw [e]
      exact compL_mapOf (fun y => D.tup [y, y]) (fun _ => .bl true) (by intro y hy; simp [cstep, ih y (d + 1) s (hps y hy) (by have := depths_mem hy; omega) (by omega)]) (by simp only [lim]; omega)
    have all : ∀ xs : List D, allBl (xs.map fun _ => D.bl true) = some true := by intro xs; induction xs <;> simp [allBl, *]
    cases x with
    | lst xs =>
      obtain ⟨h1, h2⟩ := pl_seq hp (seq_l xs)
      simp only [D.depth] at hx
      simp [f29, isTy, List.replicate, key xs h1 h2 (by omega), all]
    | tup xs =>
      obtain ⟨h1, h2⟩ := pl_seq hp (seq_t xs)
      simp only [D.depth] at hx
      simp [f29, isTy, List.replicate, key xs h1 h2 (by omega), all]
    | dic kvs =>
      simp [D.pl] at hp
      subst hp
      have h0 : ∀ s, callAt P cap (d + 1) 29 [.d (.lst []), .d (.lst [])] s = .ok (.bl true) s := by
        intro s
        rw [call2 H.h29 _ _ rfl]
        simp [f29, isTy, List.replicate, zipD, compL, allBl]
      simp [f29, isTy, h0]
    | fn _ => simp [D.pl] at hp
    | stm => simp [D.pl] at hp
    | scr _ => simp [D.pl] at hp
    | _ => simp [f29, isTy]
end Us
end

section
set_option linter.all false
set_option maxRecDepth 100000
/-! Us.B7: draws. -/
namespace Us
open PySem (Str)
variable {P : Prg} {cap : Int → Bool} {d : Nat} {s : S}
/-- what a run that draws at most k times tells -/
def Dr {α : Type} (k : Nat) (s : S) (r : R α) (Q : α → Prop) : Prop := 0 ≤ s.stm.ct → s.stm.ct + k < 1099511627776 → ∃ a t, r = .ok a ⟨t, s.cells⟩ ∧ s.stm.ct ≤ t.ct ∧ t.ct ≤ s.stm.ct + k ∧ Q a
def Cap (cap : Int → Bool) : Prop := ∀ z : Int, z < 1099511627776 → cap z = true
theorem draw_ct (t : Stm) (m : Int) : (t.draw m).2.ct = t.ct + 1 := by
  unfold Stm.draw; simp only []; split <;> rfl
theorem draw_lt (t : Stm) {m : Int} (h : 0 < m) : 0 ≤ (t.draw m).1 ∧ (t.draw m).1 < m := by
  unfold Stm.draw; simp only []; split
  · exact ⟨Int.fmod_nonneg_of_pos _ h, Int.fmod_lt_of_pos _ h⟩
  · exact ⟨Int.fmod_nonneg_of_pos _ h, Int.fmod_lt_of_pos _ h⟩
/-- a draw as it is met -/
theorem draw_if (C : Cap cap) (s : S) {m : Int} (h : 0 < m) (h' : m < 1073741824) (hc : s.stm.ct < 1099511627776) : ∃ r t, drawR cap m s = .ok (.d (.int r)) ⟨t, s.cells⟩ ∧ 0 ≤ r ∧ r < m ∧ t.ct = s.stm.ct + 1 := by
  refine ⟨_, _, if_pos ⟨h, h', C _ hc⟩, ?_⟩
  exact ⟨(draw_lt _ h).1, (draw_lt _ h).2, draw_ct _ _⟩
theorem c27 (H : HasC P) (C : Cap cap) (xs : List D) (h : xs ≠ []) (hl : xs.length ≤ 4096) : Dr 1 s (callAt P cap (d + 1) 27 [.d .stm, .d (.lst xs)] s) fun y => y ∈ xs := by
  intro h0 hk
  rw [call2 H.h27 _ _ rfl]
  have hx : 0 < xs.length := by cases xs <;> simp at h ⊢
  obtain ⟨r, t, e, h1, h2, h3⟩ := draw_if C ⟨s.stm, []⟩ (m := xs.length) (by omega) (by omega) (by simp; omega)
  simp [f27]
  simp at e
  rw [e]
  obtain ⟨k, rfl⟩ : ∃ k : Nat, r = k := ⟨r.toNat, by omega⟩
  have hk' : k < xs.length := by omega
  have : idxD (.lst xs) (.int k) = some xs[k] := by simp [idxD, place_nat hk', hk']
  simp [this]
  exact ⟨_, t, ⟨rfl, rfl⟩, by simp at h3; omega, by simp at h3; omega, List.getElem_mem _⟩
/-- list by list -/
inductive All2 {α β : Type} (Q : α → β → Prop) : List α → List β → Prop where
  | nil : All2 Q [] []
  | cons {a b as bs} : Q a b → All2 Q as bs → All2 Q (a :: as) (b :: bs)
theorem All2.len {α β : Type} {Q : α → β → Prop} {as : List α} {bs : List β} (h : All2 Q as bs) : bs.length = as.length := by
  induction h with
  | nil => rfl
  | cons _ _ ih => simp [ih]
theorem All2.right {α β : Type} {Q : α → β → Prop} {as : List α} {bs : List β} (h : All2 Q as bs) : ∀ b ∈ bs, ∃ a ∈ as, Q a b := by
  induction h with
  | nil => simp
  | cons h _ ih =>
    intro b hb
    rcases List.mem_cons.mp hb with rfl | hb
    · exact ⟨_, by simp, h⟩
    · obtain ⟨a, ha, hq⟩ := ih b hb; exact ⟨a, by simp [ha], hq⟩
theorem compL_dr {α : Type} {g : D → S → R (Option D)} (q : α → D) (k : α → Nat) (Q : α → D → Prop) (as : List α) (acc : List D) (s : S) (hg : ∀ a ∈ as, ∀ s, s.cells = [] → Dr (k a) s (g (q a) s) fun o => ∃ y, o = some y ∧ Q a y) (hl : acc.length + as.length ≤ lim) (hc : s.cells = []) :
    Dr (as.map k).sum s (compL g (as.map q) acc s) fun r => ∃ ys, r = .lst (acc.reverse ++ ys) ∧ All2 Q as ys := by
  induction as generalizing acc s with
  | nil => intro h0 hk; exact ⟨_, s.stm, rfl, by omega, by omega, [], by simp, .nil⟩
  | cons a as ih =>
    intro h0 hk
    simp only [List.map_cons, List.sum_cons] at hk ⊢
    simp only [List.length_cons] at hl
    obtain ⟨o, t, e, h1, h2, y, rfl, hy⟩ := hg a (by simp) s hc h0 (by omega)
    simp only [compL, e, bnd_ok]
    rw [if_pos (by omega)]
    obtain ⟨r, t', e', h1', h2', ys, rfl, hys⟩ := ih (y :: acc) ⟨t, s.cells⟩ (fun b hb => hg b (by simp [hb])) (by simp; omega) hc (by simp; omega) (by simp; omega)
    simp at h1' h2' e'
    exact ⟨_, t', e', by omega, by omega, y :: ys, by simp, .cons hy hys⟩
theorem rangeD_succ (lo : Int) (n : Nat) : rangeD lo (n + 1) = .int lo :: rangeD (lo + 1) n := by
  unfold rangeD
  rw [List.range_succ_eq_map]
  simp [Function.comp_def]
  intro a _; omega
/-! ### things told otherwise -/
mutual
def D.nrm : D → D
  | .tup xs => .tup (D.nrms xs)
  | .lst xs => .tup (D.nrms xs)
  | x => x
def D.nrms : List D → List D
  | [] => []
  | x :: xs => x.nrm :: D.nrms xs
end
theorem nrms_map (xs : List D) : D.nrms xs = xs.map D.nrm := by induction xs <;> simp [D.nrms, *]
mutual
def D.nodes : D → Nat
  | .tup xs => D.nodess xs + 1
  | .lst xs => D.nodess xs + 1
  | _ => 0
def D.nodess : List D → Nat
  | [] => 0
  | x :: xs => x.nodes + D.nodess xs
end
theorem nodess_map (xs : List D) : D.nodess xs = (xs.map D.nodes).sum := by induction xs <;> simp [D.nodess, *]
theorem nrm_seq (x : D) : seqD x.nrm = (seqD x).map (List.map D.nrm) := by cases x <;> simp [D.nrm, seqD, nrms_map]
mutual
theorem nrm_depth : ∀ x : D, x.nrm.depth = x.depth
  | .tup xs => by simp only [D.nrm, D.depth, nrms_depth xs]
  | .lst xs => by simp only [D.nrm, D.depth, nrms_depth xs]
  | .non => rfl | .bl _ => rfl | .int _ => rfl | .str _ => rfl | .dic _ => rfl | .fn _ => rfl | .stm => rfl | .scr _ => rfl
theorem nrms_depth : ∀ xs : List D, D.depths (D.nrms xs) = D.depths xs
  | [] => rfl
  | x :: xs => by simp only [D.nrms, D.depths, nrm_depth x, nrms_depth xs]
end
mutual
theorem nrm_pl : ∀ x : D, x.nrm.pl = x.pl
  | .tup xs => by simp only [D.nrm, D.pl, nrms_pl xs, nrms_map, List.length_map]
  | .lst xs => by simp only [D.nrm, D.pl, nrms_pl xs, nrms_map, List.length_map]
  | .non => rfl | .bl _ => rfl | .int _ => rfl | .str _ => rfl | .dic _ => rfl | .fn _ => rfl | .stm => rfl | .scr _ => rfl
theorem nrms_pl : ∀ xs : List D, D.pls (xs.map D.nrm) = D.pls xs
  | [] => rfl
  | x :: xs => by simp only [List.map_cons, D.pls, nrm_pl x, nrms_pl xs]
end
theorem letF_nrm (x : D) : letF x.nrm = letF x := by cases x <;> simp [D.nrm, letF]
mutual
theorem toF_nrm : ∀ x : D, toF x.nrm = toF x
  | .tup xs => by simp only [D.nrm, toF, nrms_map]; exact toFs_nrm xs
  | .lst xs => by simp only [D.nrm, toF, nrms_map]; exact toFs_nrm xs
  | .non => rfl | .bl _ => rfl | .int _ => rfl | .str _ => rfl | .dic _ => rfl | .fn _ => rfl | .stm => rfl | .scr _ => rfl
theorem toFs_nrm : ∀ xs : List D, toFs (xs.map D.nrm) = toFs xs
  | [] => rfl
  | .str w :: xs => by simp only [List.map_cons, D.nrm, toFs]; exact toFw_nrm w xs
  | .tup ys :: xs => by simp [D.nrm, toFs]
  | .lst ys :: xs => by simp [D.nrm, toFs]
  | .non :: xs => by simp [D.nrm, toFs]
  | .bl _ :: xs => by simp [D.nrm, toFs]
  | .int _ :: xs => by simp [D.nrm, toFs]
  | .dic _ :: xs => by simp [D.nrm, toFs]
  | .fn _ :: xs => by simp [D.nrm, toFs]
  | .stm :: xs => by simp [D.nrm, toFs]
  | .scr _ :: xs => by simp [D.nrm, toFs]
theorem toFw_nrm (w : Str) : ∀ xs : List D, toFw w (xs.map D.nrm) = toFw w xs
  | [] => rfl
  | [a] => by simp only [List.map_cons, List.map_nil, toFw, letF_nrm, toF_nrm a]
  | [a, b] => by simp only [List.map_cons, List.map_nil, toFw, toF_nrm a, toF_nrm b]
  | a :: b :: c :: r => by simp [toFw]
end
theorem all2_nrm {xs ys : List D} (h : All2 (fun x y => x.nrm = y.nrm) xs ys) : xs.map D.nrm = ys.map D.nrm := by
  induction h with
  | nil => rfl
  | cons h _ ih => simp [h, ih]
theorem c30 (H : HasC P) (C : Cap cap) (n : Nat) : ∀ (x : D) (d : Nat) (s : S), x.pl = true → x.depth ≤ n → n + 1 ≤ d → Dr x.nodes s (callAt P cap d 30 [.d .stm, .d x] s) fun y => x.nrm = y.nrm := by
  induction n with
  | zero =>
    intro x d s hp hx hd h0 hk
    obtain ⟨d, rfl⟩ : ∃ e, d = e + 1 := ⟨d - 1, by omega⟩
    rw [call2 H.h30 _ x rfl]
    cases x <;> simp [D.depth, D.pl] at hx hp <;> simp [f30, isTy, D.nodes]
    all_goals exact ⟨_, _, ⟨rfl, rfl⟩, by omega, by omega, rfl⟩
  | succ n ih =>
    intro x d s hp hx hd h0 hk
    obtain ⟨d, rfl⟩ : ∃ e, d = e + 1 := ⟨d - 1, by omega⟩
    rw [call2 H.h30 _ x rfl]
    have key : ∀ xs : List D, xs.length ≤ 4096 → (∀ y ∈ xs, y.pl = true) → D.depths xs ≤ n → ∀ a s, s.cells = [] → Dr (xs.map D.nodes).sum s (compL (cstep (gAt P cap d) [3] (.call 30 (.cons (.var 0) (.cons (.var 3) .nil))) (.nm 3) [some (.d .stm), some (.d a), none, none]) xs [] s) fun r => ∃ ys, r = .lst ys ∧ All2 (fun x y => x.nrm = y.nrm) xs ys := by
      intro xs hl hps hn a s hs
      have := compL_dr (g := cstep (gAt P cap d) [3] (.call 30 (.cons (.var 0) (.cons (.var 3) .nil))) (.nm 3) [some (.d .stm), some (.d a), none, none]) (fun y => y) D.nodes (fun x y => x.nrm = y.nrm) xs [] s ?_ (by simp only [lim]; simp; omega) hs
      · simpa using this
      · intro y hy s hs h0 hk
        obtain ⟨z, t, e, h1, h2, h3⟩ := ih y d s (hps y hy) (by have := depths_mem hy; omega) (by omega) h0 hk
        exact ⟨some z, t, by simp [cstep, e], h1, h2, z, rfl, h3⟩
    have fin : ∀ xs : List D, xs.length ≤ 4096 → (∀ y ∈ xs, y.pl = true) → D.depths xs ≤ n → s.stm.ct + (D.nodess xs + 1 : Nat) < 1099511627776 → seqD x = some xs → ∃ a t, (exs (gAt P cap d) f30.body (some (W.d D.stm) :: some (W.d x) :: List.replicate (f30.slots - 2) none) ⟨s.stm, []⟩).out s.cells = .ok a ⟨t, s.cells⟩ ∧ s.stm.ct ≤ t.ct ∧ t.ct ≤ s.stm.ct + (D.nodess xs + 1 : Nat) ∧ D.tup (D.nrms xs) = a.nrm := by
      intro xs hl hps hn hk e
      rw [nodess_map] at hk
      obtain ⟨r, t, e1, h1, h2, ys, rfl, hys⟩ := key xs hl hps hn x ⟨s.stm, []⟩ rfl h0 (by simp at hk ⊢; omega)
      have hw : ∀ b, walkD b x = some xs := by cases x <;> simp [seqD] at e <;> subst e <;> simp
      simp at h1 h2 e1
      obtain ⟨q, t', e2, h3, h4, h5⟩ := draw_if C ⟨t, []⟩ (m := 2) (by omega) (by omega) (by simp; omega)
      simp at e2 h5
      simp [f30, pl_kd hp, isL_seq e, List.replicate, hw, e1, e2, draw_if]
      have : q = 0 ∨ q = 1 := by omega
      rcases this with rfl | rfl
      · refine ⟨_, t', rfl, by omega, by rw [nodess_map]; omega, ?_⟩
        simp only [D.nrm, nrms_map, all2_nrm hys]
      · refine ⟨_, t', rfl, by omega, by rw [nodess_map]; omega, ?_⟩
        simp only [D.nrm, nrms_map, all2_nrm hys]
    cases x with
    | lst xs =>
      obtain ⟨h1, h2⟩ := pl_seq hp (seq_l xs)
      simp only [D.depth] at hx
      simp only [D.nodes] at hk ⊢
      exact fin xs h1 h2 (by omega) hk rfl
    | tup xs =>
      obtain ⟨h1, h2⟩ := pl_seq hp (seq_t xs)
      simp only [D.depth] at hx
      simp only [D.nodes] at hk ⊢
      exact fin xs h1 h2 (by omega) hk rfl
    | fn _ => simp [D.pl] at hp
    | stm => simp [D.pl] at hp
    | scr _ => simp [D.pl] at hp
    | _ => simp [f30, isTy, D.nodes]; exact ⟨_, _, ⟨rfl, rfl⟩, by omega, by omega, rfl⟩
theorem c37 (H : HasC P) (C : Cap cap) {x : D} (hp : x.pl = true) (hd : x.depth + 2 ≤ d) : Dr x.nodes s (callAt P cap d 37 [.d .stm, .d x] s) fun y => x.nrm = y.nrm := by
  obtain ⟨d, rfl⟩ : ∃ e, d = e + 1 := ⟨d - 1, by omega⟩
  intro h0 hk
  rw [call2 H.h37 _ x rfl]
  obtain ⟨y, t, e, h1, h2, h3⟩ := c30 H C x.depth x d ⟨s.stm, []⟩ hp (Nat.le_refl _) (by omega) h0 hk
  simp at e
  simp [f37, c31 H x.depth x d _ hp (Nat.le_refl _) (by omega), e]
  exact ⟨_, _, ⟨rfl, rfl⟩, h1, h2, h3⟩
theorem erase_perm {α : Type} : ∀ (l : List α) (k : Nat) (h : k < l.length), (l[k] :: l.eraseIdx k).Perm l
  | a :: l, 0, _ => by simp
  | a :: l, k + 1, h => by
    simp only [List.getElem_cons_succ, List.eraseIdx_cons_succ]
    exact (List.Perm.swap a _ _).trans ((erase_perm l k (by simpa using h)).cons a)
/-- what is left, what is found, while things are mixed -/
theorem mix_loop (H : HasC P) (C : Cap cap) (a : D) (M : Nat) : ∀ (n : Nat) (lo : Int) (left found : List D) (w : Option W) (s : S), left.length = n → found.length + n ≤ 4096 → s.cells = [(true, .lst left), (true, .lst found)] → 0 ≤ s.stm.ct → s.stm.ct + n < 1099511627776 →
    ∃ ys w' t, forL (.nm 4) (exs (gAt P cap d) [.expr (.mut .append 3 (.cons (.mut .pop 2 (.cons (.draw (.var 0) (.bi .len (.var 2))) .nil)) .nil))]) (rangeD lo n) [some (.d .stm), some (.d a), some (.ref 0), some (.ref 1), w] s = .nx [some (.d .stm), some (.d a), some (.ref 0), some (.ref 1), w'] ⟨t, [(true, .lst []), (true, .lst ys)]⟩ ∧ s.stm.ct ≤ t.ct ∧ t.ct ≤ s.stm.ct + n ∧ ys.Perm (found ++ left) := by
  intro n
  induction n with
  | zero =>
    intro lo left found w s hl hf hc h0 hk
    obtain rfl := List.eq_nil_of_length_eq_zero hl
    refine ⟨found, w, s.stm, ?_, by omega, by omega, by simp⟩
    cases s; simp at hc; subst hc; rfl
  | succ n ih =>
    intro lo left found w s hl hf hc h0 hk
    obtain ⟨st, cs⟩ := s
    simp at hc; subst hc
    simp at h0 hk
    rw [rangeD_succ]
    obtain ⟨r, t, e, h1, h2, h3⟩ := draw_if C ⟨st, [(true, .lst left), (true, .lst found)]⟩ (m := left.length) (by omega) (by omega) (by simp; omega)
    simp at e h3
    obtain ⟨k, rfl⟩ : ∃ k : Nat, r = k := ⟨r.toNat, by omega⟩
    have hk' : k < left.length := by omega
    have hkk : k < 16777216 := by omega
    have hfl : found.length < lim := by simp only [lim]; omega
    have hp : muD .pop (.lst left) [.int k] = some (.lst (left.eraseIdx k), left[k]) := by
      simp [muD, place_nat hk', hk', hkk]
    obtain ⟨ys, w', t', e', h1', h2', h3'⟩ := ih (lo + 1) (left.eraseIdx k) (found ++ [left[k]]) (some (.d (.int lo))) ⟨t, [(true, .lst (left.eraseIdx k)), (true, .lst (found ++ [left[k]]))]⟩ (by simp [List.length_eraseIdx, hk']; omega) (by simp; omega) rfl (by simp; omega) (by simp; omega)
    simp at h1' h2' e'
    refine ⟨ys, w', t', ?_, by simp; omega, by simp; omega, ?_⟩
    · simp only [forL]
      simp [e, mutD, hp, hfl, e']
    · refine h3'.trans ?_
      rw [List.append_assoc]
      refine List.Perm.append_left _ ?_
      simpa using erase_perm left k hk'
theorem c28 (H : HasC P) (C : Cap cap) (xs : List D) (hl : xs.length ≤ 4096) : Dr xs.length s (callAt P cap (d + 1) 28 [.d .stm, .d (.lst xs)] s) fun y => ∃ ys, y = .lst ys ∧ ys.Perm xs := by
  intro h0 hk
  rw [call2 H.h28 _ _ rfl]
  obtain ⟨ys, w', t', e', h1', h2', h3'⟩ := mix_loop (d := d) H C (.lst xs) 0 xs.length 0 xs [] none ⟨s.stm, [(true, .lst xs), (true, .lst [])]⟩ rfl (by simpa using hl) rfl h0 hk
  have hn : xs.length < 16777216 := by omega
  simp at h1' h2'
  simp [f28, List.replicate, hn, e']
  exact ⟨_, t', ⟨rfl, rfl⟩, h1', h2', ys, rfl, by simpa using h3'⟩
end Us
end

section
set_option linter.all false
set_option maxRecDepth 100000
/-! Us.B8: worlds. -/
namespace Us
open PySem (Str)
variable {P : Prg} {cap : Int → Bool} {d : Nat} {s : S}
@[simp] theorem add_ll (xs ys : List D) : binD .add (.lst xs) (.lst ys) = if xs.length + ys.length ≤ lim then some (.lst (xs ++ ys)) else none := rfl
def wD (w : List Str) : D := .lst (w.map D.str)
def codes (w : List Str) : List (List Nat) := w.map fun x => x.cps.toList
def insW (w : List Str) : List (List Str) → List (List Str)
  | [] => [w]
  | q :: r => if listLt (codes q) (codes w) = true then q :: insW w r else w :: q :: r
def sortW : List (List Str) → List (List Str)
  | [] => []
  | w :: r => insW w (sortW r)
theorem insW_perm (w : List Str) (r) : (insW w r).Perm (w :: r) := by
  induction r with
  | nil => exact .refl _
  | cons q r ih =>
    simp only [insW]; split
    · exact (ih.cons q).trans (List.Perm.swap w q r)
    · exact .refl _
theorem sortW_perm (r) : (sortW r).Perm r := by
  induction r with
  | nil => exact .refl _
  | cons q r ih => exact (insW_perm q _).trans (ih.cons q)
theorem strsD_map (w : List Str) : strsD (w.map D.str) = some (codes w) := by
  induction w with
  | nil => rfl
  | cons x w ih => simp [strsD, ih, codes]
theorem keysW (ws : List (List Str)) : keysD (ws.map wD) = some (ws.map fun w => (.l (codes w), wD w)) := by
  induction ws with
  | nil => rfl
  | cons w ws ih => simp [keysD, ih, wD, keyOf, strsD_map]
theorem insK_W (w : List Str) (ws : List (List Str)) : insK (.l (codes w), wD w) (ws.map fun w => (SKey.l (codes w), wD w)) = some ((insW w ws).map fun w => (.l (codes w), wD w)) := by
  induction ws with
  | nil => rfl
  | cons q r ih =>
    simp only [List.map_cons, insK, SKey.lt, insW]
    cases h : listLt (codes q) (codes w)
    · rfl
    · simp [ih]
theorem sortD_W (ws : List (List Str)) : sortD (ws.map wD) = some ((sortW ws).map wD) := by
  have key : sortK (ws.map fun w => (SKey.l (codes w), wD w)) = some ((sortW ws).map fun w => (SKey.l (codes w), wD w)) := by
    induction ws with
    | nil => rfl
    | cons w ws ih => simp only [List.map_cons, sortK, ih, Option.bind_some, insK_W, sortW]
  unfold sortD
  rw [keysW, Option.bind_some, key]
  simp [Function.comp_def]
def powW (acc : List (List Str)) (L : List Str) : List (List Str) := L.foldl (fun acc x => acc ++ acc.map (· ++ [x])) acc
def wlds (L : List Str) : List (List Str) := sortW (powW [[]] L)
def wldsD (L : List Str) : D := .lst ((wlds L).map wD)
theorem pow_len (L : List Str) : ∀ acc, (powW acc L).length = acc.length * 2 ^ L.length := by
  induction L with
  | nil => intro acc; simp [powW]
  | cons x L ih =>
    intro acc
    have := ih (acc ++ acc.map (· ++ [x]))
    simp only [powW, List.foldl_cons] at this ⊢
    rw [this]; simp [Nat.pow_succ]; rw [← Nat.two_mul, Nat.mul_comm 2, Nat.mul_assoc, Nat.mul_comm 2]
theorem wlds_len (L : List Str) : (wlds L).length = 2 ^ L.length := by
  unfold wlds; rw [(sortW_perm _).length_eq, pow_len]; simp
theorem pow_loop {b : Env → S → RS} {l : D} (hb : ∀ (acc : List (List Str)) (x : Str) (w w' : Option W), acc.length * 2 ≤ 4096 → (∀ u ∈ acc, u.length + 1 ≤ 4096) → ∃ w'' : Option W, b [some (.d l), some (.d (.lst (acc.map wD))), some (.d (.str x)), w'] s = .nx [some (.d l), some (.d (.lst ((acc ++ acc.map (· ++ [x])).map wD))), some (.d (.str x)), w''] s) :
    ∀ (L : List Str) (acc : List (List Str)) (w2 w3 : Option W), acc.length * 2 ^ L.length ≤ 4096 → (∀ u ∈ acc, u.length + L.length ≤ 4096) → ∃ w2' w3', forL (.nm 2) b (L.map D.str) [some (.d l), some (.d (.lst (acc.map wD))), w2, w3] s = .nx [some (.d l), some (.d (.lst ((powW acc L).map wD))), w2', w3'] s := by
  intro L
  induction L with
  | nil => intro acc w2 w3 _ _; exact ⟨_, _, rfl⟩
  | cons x L ih =>
    intro acc w2 w3 h1 h2
    have hp : 2 ≤ 2 ^ (L.length + 1) := by rw [Nat.pow_succ]; have := Nat.one_le_two_pow (n := L.length); omega
    obtain ⟨w'', e⟩ := hb acc x w2 w3 (Nat.le_trans (Nat.mul_le_mul_left _ hp) h1) (fun u hu => by have := h2 u hu; simp at this; omega)
    obtain ⟨w2', w3', e'⟩ := ih (acc ++ acc.map (· ++ [x])) (some (.d (.str x))) w'' (by
      simp [Nat.pow_succ] at h1 ⊢
      rw [← Nat.two_mul, Nat.mul_comm 2, Nat.mul_assoc, Nat.mul_comm 2]; exact h1) (by
      intro u hu
      simp at hu
      rcases hu with hu | ⟨u, hu, rfl⟩
      · have := h2 u hu; simp at this; omega
      · have := h2 u hu; simp at this ⊢; omega)
    refine ⟨w2', w3', ?_⟩
    simp only [List.map_cons, forL, bindT, List.set]
    simp only [e]
    exact e'
structure HasW (P : Prg) : Prop where
  h8 : P.fn 8 = some f8
theorem c8 (H : P.fn 8 = some f8) {l : D} {L : List Str} (hl : seqD l = some (L.map D.str)) (hn : L.length ≤ 12) : callAt P cap (d + 1) 8 [.d l] s = .ok (wldsD L) s := by
  rw [call1 H l rfl]
  have hw : ∀ b, walkD b l = some (L.map D.str) := by cases l <;> simp [seqD] at hl <;> subst hl <;> simp
  have hp : 2 ^ L.length ≤ 2 ^ 12 := Nat.pow_le_pow_right (by omega) hn
  simp [f8, List.replicate, hw]
  obtain ⟨w2, w3, e⟩ := pow_loop (b := exs (gAt P cap d) [.asg (.nm 1) (.bin .add (.var 1) (.comp [3] (.star (.var 3) (.cons (.var 2) .nil)) (.nm 3) (.e (.var 1))))]) (s := ⟨s.stm, []⟩) (l := l) (by
    intro acc x w w' h1 h2
    have : compL (cstep (gAt P cap d) [3] (.star (.var 3) (.cons (.var 2) .nil)) (.nm 3) [some (.d l), some (.d (.lst (acc.map wD))), some (.d (.str x)), w']) (acc.map wD) [] ⟨s.stm, []⟩ = .ok (.lst (acc.map fun u => wD (u ++ [x]))) ⟨s.stm, []⟩ := by
      refine compL_mapOf wD (fun u => wD (u ++ [x])) ?_ (by simp only [lim]; omega)
      intro u hu
      have := h2 u hu
      simp [cstep, wD, show u.length + 1 ≤ lim by simp only [lim]; omega]
    refine ⟨w', ?_⟩
    simp [this, show acc.length + acc.length ≤ lim by simp only [lim]; omega]
    ) L [[]] none none (by simp; omega) (by simp; omega)
  simp [wD] at e
  rw [e]
  have hs := sortD_W (powW [[]] L)
  simp [biD, wD] at hs ⊢
  simp [hs, wldsD, wlds, wD]
theorem c38 (H : P.fn 38 = some f38) {l : D} {L : List Str} (hl : seqD l = some (L.map D.str)) (hn : L.length ≤ 12) : callAt P cap (d + 1) 38 [.d l] s = .ok (wldsD L) s := by
  rw [call1 H l rfl]
  have hw : ∀ b, walkD b l = some (L.map D.str) := by cases l <;> simp [seqD] at hl <;> subst hl <;> simp
  have hp : 2 ^ L.length ≤ 2 ^ 12 := Nat.pow_le_pow_right (by omega) hn
  simp [f38, List.replicate, hw]
  obtain ⟨w2, w3, e⟩ := pow_loop (b := exs (gAt P cap d) [.asg (.nm 1) (.bin .add (.var 1) (.comp [3] (.bin .add (.var 3) (.lst (.cons (.var 2) .nil))) (.nm 3) (.e (.var 1))))]) (s := ⟨s.stm, []⟩) (l := l) (by
    intro acc x w w' h1 h2
    have : compL (cstep (gAt P cap d) [3] (.bin .add (.var 3) (.lst (.cons (.var 2) .nil))) (.nm 3) [some (.d l), some (.d (.lst (acc.map wD))), some (.d (.str x)), w']) (acc.map wD) [] ⟨s.stm, []⟩ = .ok (.lst (acc.map fun u => wD (u ++ [x]))) ⟨s.stm, []⟩ := by
      refine compL_mapOf wD (fun u => wD (u ++ [x])) ?_ (by simp only [lim]; omega)
      intro u hu
      have := h2 u hu
      simp [cstep, wD, show u.length + 1 ≤ lim by simp only [lim]; omega]
    refine ⟨w', ?_⟩
    simp [this, show acc.length + acc.length ≤ lim by simp only [lim]; omega]
    ) L [[]] none none (by simp; omega) (by simp; omega)
  simp [wD] at e
  rw [e]
  have hs := sortD_W (powW [[]] L)
  simp [biD, wD] at hs ⊢
  simp [hs, wldsD, wlds, wD]
end Us
end

section
set_option linter.all false
set_option maxRecDepth 100000
/-! Us.B9: ranks that bear sayings. -/
namespace Us
open PySem (Str)
variable {P : Prg} {cap : Int → Bool} {d : Nat} {s : S}
def rkD : Option Int → D
  | none => .non
  | some i => .int i
/-- the numbers of the worlds that are as asked -/
def rkL (ws : List (List Str)) (rs : List (Option Int)) (f : List Str → Bool) : List Int := (ws.zip rs).filterMap fun a => match a.2 with
  | some n => if f a.1 = true then some n else none
  | none => none
def mn : List Int → Option Int
  | [] => none
  | a :: r => some (minI a r)
theorem minI_le : ∀ (r : List Int) (a : Int), minI a r ≤ a ∧ ∀ b ∈ r, minI a r ≤ b := by
  intro r
  induction r with
  | nil => intro a; simp [minI]
  | cons b r ih =>
    intro a
    simp only [minI]
    by_cases hb : b < a
    · rw [if_pos hb]
      obtain ⟨h1, h2⟩ := ih b
      exact ⟨by omega, fun c hc => by rcases List.mem_cons.mp hc with rfl | hc; exact h1; exact h2 c hc⟩
    · rw [if_neg hb]
      obtain ⟨h1, h2⟩ := ih a
      exact ⟨h1, fun c hc => by rcases List.mem_cons.mp hc with rfl | hc; omega; exact h2 c hc⟩
theorem mnI_mem : ∀ (r : List Int) (a : Int), minI a r ∈ a :: r := by
  intro r
  induction r with
  | nil => intro a; simp [minI]
  | cons b r ih =>
    intro a
    simp only [minI]
    have := ih (if b < a then b else a)
    split at this <;> simp at this ⊢ <;> rcases this with h | h <;> simp [*]
theorem mn_none {l : List Int} (h : mn l = none) : l = [] := by cases l <;> simp [mn] at h ⊢
theorem mn_some {l : List Int} {m : Int} (h : mn l = some m) : m ∈ l ∧ ∀ x ∈ l, m ≤ x := by
  cases l with
  | nil => simp [mn] at h
  | cons a r =>
    simp [mn] at h; subst h
    refine ⟨mnI_mem r a, ?_⟩
    intro x hx
    rcases List.mem_cons.mp hx with rfl | hx
    · exact (minI_le r x).1
    · exact (minI_le r a).2 x hx
/-- ranks bear a saying -/
def bearB (ws : List (List Str)) (rs : List (Option Int)) (p : Fm × Fm) : Bool := match mn (rkL ws rs (broken · p)) with
  | none => true
  | some b => match mn (rkL ws rs (met · p)) with
    | none => false
    | some g => decide (g < b)
def mnD (o : Option Int) : D := match o with
  | none => .non
  | some i => .int i
theorem flat_ints (l : List Int) : D.flatKs (l.map D.int) = true := by induction l <;> simp [D.flatKs, D.flatK, *]
theorem eq_nil {ys : List D} (h : D.flatKs ys = true) : eqD (.lst ys) (.lst []) = some ys.isEmpty := by
  have : min (D.lst ys).depth (D.lst []).depth ≤ 64 := by simp [D.depth, D.depths]
  unfold eqD
  simp [D.atom, D.flatK, h, this, D.flatKs, D.eqv]
  cases ys <;> simp [D.eqvs]
theorem intsD_map (l : List Int) : intsD (l.map D.int) = some l := by induction l <;> simp [intsD, *]
@[simp] theorem min_ints (l : List Int) : biD .min (.lst (l.map D.int)) = (mn l).map .int := by
  simp only [biD, intsD_map]
  cases l <;> simp [mn]
structure HasR (P : Prg) : Prop where
  f : HasF P
  h8 : P.fn 8 = some f8
  h20 : P.fn 20 = some f20
  h22 : P.fn 22 = some f22
  h23 : P.fn 23 = some f23
  h25 : P.fn 25 = some f25
theorem c22 (H : HasR P) {x : D} {p : Fm × Fm} {ws : List (List Str)} {rs : List (Option Int)} {r : D} (k : Nat) (F : List Str → Bool) (hk : k = 14 ∧ F = (met · p) ∨ k = 15 ∧ F = (broken · p)) (hx : toSay x = some p) (hr : seqD r = some (rs.map rkD)) (hl : ws.length ≤ 4096) (hd : sdep p + 3 ≤ d) : callAt P cap d 22 [.d (.lst (ws.map wD)), .d r, .d x, .d (.fn k)] s = .ok (mnD (mn (rkL ws rs F))) s := by
  obtain ⟨d, rfl⟩ : ∃ e, d = e + 2 := ⟨d - 2, by omega⟩
  rw [call4 H.h22 _ _ _ _ rfl]
  have hz : zipD (ws.map wD) (rs.map rkD) = (ws.zip rs).map fun a => .tup [wD a.1, rkD a.2] := by
    unfold zipD; rw [List.zipWith_map, List.zip, List.map_zipWith]
  have hf : ∀ u s, callAt P cap (d + 1) k [.d x, .d (wD u)] s = .ok (.bl (F u)) s := by
    intro u s
    rcases hk with ⟨rfl, rfl⟩ | ⟨rfl, rfl⟩
    · exact c14 H.f hx rfl (by omega)
    · exact c15 H.f hx rfl (by omega)
  have ha : (P.fn k).map (·.params) = some 2 := by
    rcases hk with ⟨rfl, rfl⟩ | ⟨rfl, rfl⟩
    · rw [H.f.h14]; rfl
    · rw [H.f.h15]; rfl
  have key : ∀ w0 w1 w2 s, compL (cstepIf (gAt P cap (d + 1)) [5, 6] (.var 6) (.tp [.nm 5, .nm 6]) (.and (.cmp .isnot (.var 6) .non) (.one (.callv 3 (.cons (.var 2) (.cons (.var 5) .nil))))) [some (.d (.lst (ws.map wD))), some (.d r), some (.d x), some (.d (.fn k)), w0, w1, w2]) ((ws.zip rs).map fun a => .tup [wD a.1, rkD a.2]) [] s = .ok (.lst ((rkL ws rs F).map .int)) s := by
    intro w0 w1 w2 s
    have := compL_fmOf (g := cstepIf (gAt P cap (d + 1)) [5, 6] (.var 6) (.tp [.nm 5, .nm 6]) (.and (.cmp .isnot (.var 6) .non) (.one (.callv 3 (.cons (.var 2) (.cons (.var 5) .nil))))) [some (.d (.lst (ws.map wD))), some (.d r), some (.d x), some (.d (.fn k)), w0, w1, w2]) (s := s) (fun (a : List Str × Option Int) => D.tup [wD a.1, rkD a.2]) (fun a => match a.2 with | some n => if F a.1 = true then some (.int n) else none | none => none) (as := ws.zip rs) ?_ (by simp only [lim]; simp; omega)
    · rw [this]
      unfold rkL
      rw [List.map_filterMap]
      congr 2
      congr 1
      funext a
      cases a.2 <;> simp
    · rintro ⟨u, n⟩ hu
      cases n with
      | none => simp [cstepIf, rkD]
      | some n => simp [cstepIf, rkD, ha, Es.len, hf]; cases F u <;> rfl
  simp [f22, List.replicate, hr, hz, key, eq_nil (flat_ints _)]
  cases hm : mn (rkL ws rs F) with
  | none => rw [mn_none hm]; simp [mnD]
  | some m =>
    have : (rkL ws rs F).isEmpty = false := by cases h : rkL ws rs F <;> simp [h, mn] at hm ⊢
    simp [this, hm, mnD]
theorem c23 (H : HasR P) {l x r : D} {L : List Str} {p : Fm × Fm} {rs : List (Option Int)} (hl : seqD l = some (L.map D.str)) (hn : L.length ≤ 12) (hx : toSay x = some p) (hr : seqD r = some (rs.map rkD)) (hd : sdep p + 4 ≤ d) : callAt P cap d 23 [.d l, .d r, .d x] s = .ok (.bl (bearB (wlds L) rs p)) s := by
  obtain ⟨d, rfl⟩ : ∃ e, d = e + 2 := ⟨d - 2, by omega⟩
  rw [call3 H.h23 _ _ _ rfl]
  have hwl : (wlds L).length ≤ 4096 := by rw [wlds_len]; exact Nat.pow_le_pow_right (show 2 > 0 by omega) hn
  have h8 := fun s => c8 (cap := cap) (d := d) (s := s) H.h8 hl hn
  have h1 := fun s => c22 (cap := cap) (d := d + 1) (s := s) H 14 (met · p) (.inl ⟨rfl, rfl⟩) hx hr hwl (by omega)
  have h2 := fun s => c22 (cap := cap) (d := d + 1) (s := s) H 15 (broken · p) (.inr ⟨rfl, rfl⟩) hx hr hwl (by omega)
  simp [f23, List.replicate, h8, wldsD, h1, h2, bearB]
  cases mn (rkL (wlds L) rs (broken · p)) <;> cases mn (rkL (wlds L) rs (met · p)) <;> simp [mnD]
/-- which saying is the first that is not borne -/
def unb (ws : List (List Str)) (rs : List (Option Int)) (ps : List (Fm × Fm)) : D := (ps.zipIdx.findSome? fun a => if bearB ws rs a.1 = true then none else some (.int a.2)).getD .non
/-- things that are sayings -/
def Says (xs : List D) (ps : List (Fm × Fm)) : Prop := xs.map toSay = ps.map some
theorem says_get {xs : List D} {ps : List (Fm × Fm)} (h : Says xs ps) {i : Nat} {x : D} (e : xs[i]? = some x) : ∃ p, ps[i]? = some p ∧ toSay x = some p ∧ p ∈ ps := by
  have := congrArg (·[i]?) h
  simp only [List.getElem?_map, e, Option.map_some] at this
  cases hp : ps[i]? with
  | none => rw [hp] at this; simp at this
  | some p => rw [hp] at this; simp at this; exact ⟨p, rfl, this, List.mem_of_getElem? hp⟩
theorem zipIdx_find {α β γ : Type} (f : α → γ → Prop) (g : α → Nat → Option β) (h : γ → Nat → Option β) : ∀ (xs : List α) (ys : List γ) (k : Nat), xs.length = ys.length → (∀ i x y, xs[i]? = some x → ys[i]? = some y → g x (i + k) = h y (i + k)) → (xs.zipIdx k).findSome? (fun a => g a.1 a.2) = (ys.zipIdx k).findSome? fun a => h a.1 a.2 := by
  intro xs
  induction xs with
  | nil => intro ys k hl _; cases ys <;> simp at hl ⊢
  | cons x xs ih =>
    intro ys k hl hg
    rcases ys with _ | ⟨y, ys⟩
    · simp at hl
    simp only [List.zipIdx_cons, List.findSome?_cons]
    have h0 := hg 0 x y rfl rfl
    simp at h0
    rw [h0, ih ys (k + 1) (by simpa using hl) (fun i a b ha hb => by have := hg (i + 1) a b (by simpa using ha) (by simpa using hb); rw [Nat.add_right_comm] at this; rw [← Nat.add_assoc]; simpa using this)]
/-- what of a saying that is told hangs on what it is -/
def ofSay {α : Type} (z : α) (f : Fm × Fm → α) (x : D) : α := match toSay x with
  | some p => f p
  | none => z
theorem says_find {β : Type} {xs : List D} {ps : List (Fm × Fm)} (h : Says xs ps) (f : Fm × Fm → Nat → Option β) : xs.zipIdx.findSome? (fun a => ofSay none (fun p => f p a.2) a.1) = ps.zipIdx.findSome? fun a => f a.1 a.2 := by
  have hl : xs.length = ps.length := by have := congrArg List.length h; simpa using this
  refine zipIdx_find (fun x p => True) (fun x i => ofSay none (fun p => f p i) x) f xs ps 0 hl ?_
  intro i x y hx hy
  obtain ⟨p, hp, hs, _⟩ := says_get h hx
  rw [hp] at hy; cases hy
  simp [ofSay, hs]
theorem c25 (H : HasR P) {b r l ss : D} {rest : List D} {xs : List D} {L : List Str} {ps : List (Fm × Fm)} {rs : List (Option Int)} (hb : seqD b = some (l :: ss :: rest)) (hl : seqD l = some (L.map D.str)) (hn : L.length ≤ 12) (hxs : seqD ss = some xs) (hs : Says xs ps) (hr : seqD r = some (rs.map rkD)) (hd : ∀ p ∈ ps, sdep p + 5 ≤ d) (hd' : 2 ≤ d) : callAt P cap d 25 [.d b, .d r] s = .ok (unb (wlds L) rs ps) s := by
  obtain ⟨d, rfl⟩ : ∃ e, d = e + 1 := ⟨d - 1, by omega⟩
  rw [call2 H.h25 _ _ rfl]
  have hu : unb (wlds L) rs ps = (xs.zipIdx.findSome? fun a => ofSay none (fun p => if bearB (wlds L) rs p = true then none else some (D.int a.2)) a.1).getD .non := by
    rw [says_find hs fun p i => if bearB (wlds L) rs p = true then none else some (D.int i)]; rfl
  rw [hu]
  simp [f25, List.replicate, idx_s1 hb, hxs]
  refine find_enum (fun env => ∃ u v, env = [some (W.d b), some (W.d r), u, v]) (fun x i => ofSay none (fun p => if bearB (wlds L) rs p = true then none else some (D.int i)) x) ⟨_, _, rfl⟩ ?_ ?_ ?_
  · rintro i x hx _ env ⟨u, v, rfl⟩
    obtain ⟨p, _, hp, hm⟩ := says_get hs hx
    refine ⟨_, rfl, ?_⟩
    have h23 := fun s => c23 (cap := cap) (d := d) (s := s) H hl hn hp hr (by have := hd p hm; omega)
    simp [idx_s0 hb, h23, ofSay, hp]
    cases bearB (wlds L) rs p <;> simp
  · rintro env' ⟨u, v, rfl⟩ h
    rw [h]; simp
  · intro r h
    rw [h]; rfl
end Us
end

section
set_option linter.all false
set_option maxRecDepth 100000
/-! Us.B10: ranks, as the law looks at them; faults of ranks. -/
namespace Us
open PySem (Str)
variable {P : Prg} {cap : Int → Bool} {d : Nat} {s : S}
structure HasLR (P : Prg) : Prop where
  l : HasL P
  h45 : P.fn 45 = some f45
  h46 : P.fn 46 = some f46
  h47 : P.fn 47 = some f47
def prL (ws : List (List Str)) (rs : List (Option Int)) : List (Int × List Str) := (rs.zip ws).filterMap fun a => match a.1 with
  | some n => some (n, a.2)
  | none => none
theorem rkL_pr (ws : List (List Str)) (rs : List (Option Int)) (F : List Str → Bool) : rkL ws rs F = (prL ws rs).filterMap fun a => if F a.2 = true then some a.1 else none := by
  unfold rkL prL
  induction ws generalizing rs with
  | nil => cases rs <;> rfl
  | cons w ws ih =>
    cases rs with
    | nil => rfl
    | cons r rs =>
      simp only [List.zip_cons_cons, List.filterMap_cons]
      cases r with
      | none => exact ih rs
      | some n => simp only [List.filterMap_cons]; rw [ih rs]
def prD (a : Int × List Str) : D := .tup [.int a.1, wD a.2]
theorem c45 (H : HasLR P) {l x r : D} {L : List Str} {p : Fm × Fm} {rs : List (Option Int)} (hl : seqD l = some (L.map D.str)) (hn : L.length ≤ 12) (hx : toSay x = some p) (hr : seqD r = some (rs.map rkD)) (hd : sdep p + 3 ≤ d) : callAt P cap d 45 [.d l, .d r, .d x] s = .ok (.bl (bearB (wlds L) rs p)) s := by
  obtain ⟨d, rfl⟩ : ∃ e, d = e + 2 := ⟨d - 2, by omega⟩
  rw [call3 H.h45 _ _ _ rfl]
  have hwl : (wlds L).length ≤ 4096 := by rw [wlds_len]; exact Nat.pow_le_pow_right (show 2 > 0 by omega) hn
  have h38 := fun s => c38 (cap := cap) (d := d) (s := s) H.l.h38 hl hn
  have h1 := fun u s => c43 (cap := cap) (d := d + 1) (s := s) (w := wD u) (L := u) H.l hx rfl (by omega)
  have h2 := fun u s => c44 (cap := cap) (d := d + 1) (s := s) (w := wD u) (L := u) H.l hx rfl (by omega)
  have hz : zipD (rs.map rkD) ((wlds L).map wD) = (rs.zip (wlds L)).map fun a => .tup [rkD a.1, wD a.2] := by
    unfold zipD; rw [List.zipWith_map, List.zip, List.map_zipWith]
  have hpl : (prL (wlds L) rs).length ≤ 4096 := Nat.le_trans (List.length_filterMap_le _ _) (by simp; omega)
  have k1 : ∀ e s, compL (cstepIf (gAt P cap (d + 1)) [4, 5] (.tup (.cons (.var 4) (.cons (.var 5) .nil))) (.tp [.nm 4, .nm 5]) (.cmp .isnot (.var 4) .non) [some (.d l), some (.d r), some (.d x), e, none, none, none]) ((rs.zip (wlds L)).map fun a => .tup [rkD a.1, wD a.2]) [] s = .ok (.lst ((prL (wlds L) rs).map prD)) s := by
    intro e s
    rw [compL_fmOf (g := cstepIf (gAt P cap (d + 1)) [4, 5] (.tup (.cons (.var 4) (.cons (.var 5) .nil))) (.tp [.nm 4, .nm 5]) (.cmp .isnot (.var 4) .non) [some (.d l), some (.d r), some (.d x), e, none, none, none]) (s := s) (fun (a : Option Int × List Str) => D.tup [rkD a.1, wD a.2]) (fun a => match a.1 with | some n => some (prD (n, a.2)) | none => none) (as := rs.zip (wlds L)) ?_ (by simp only [lim]; simp; omega)]
    · unfold prL
      rw [List.map_filterMap]
      congr 2; congr 1; funext a
      cases a.1 <;> rfl
    · rintro ⟨n, u⟩ hu
      cases n <;> simp [cstepIf, rkD, prD]
  have k2 : ∀ e s, compL (cstepIf (gAt P cap (d + 1)) [4, 5] (.var 4) (.tp [.nm 4, .nm 5]) (.call 43 (.cons (.var 2) (.cons (.var 5) .nil))) [some (.d l), some (.d r), some (.d x), e, none, none, none]) ((prL (wlds L) rs).map prD) [] s = .ok (.lst ((rkL (wlds L) rs (met · p)).map .int)) s := by
    intro e s
    rw [compL_fmOf (g := cstepIf (gAt P cap (d + 1)) [4, 5] (.var 4) (.tp [.nm 4, .nm 5]) (.call 43 (.cons (.var 2) (.cons (.var 5) .nil))) [some (.d l), some (.d r), some (.d x), e, none, none, none]) (s := s) prD (fun a => if met a.2 p = true then some (.int a.1) else none) ?_ (by simp only [lim]; omega)]
    · rw [rkL_pr, List.map_filterMap]
      congr 2; congr 1; funext a
      split <;> simp
    · rintro ⟨n, u⟩ hu
      simp [cstepIf, prD, h1]
      cases met u p <;> simp
  have k3 : ∀ e good s, (∀ m, mn good = some m ∨ good = [] → True) → compL (cstepIf (gAt P cap (d + 1)) [4, 5] (.and (.cmp .ne (.var 6) (.lst .nil)) (.one (.cmp .lt (.bi .min (.var 6)) (.var 4)))) (.tp [.nm 4, .nm 5]) (.call 44 (.cons (.var 2) (.cons (.var 5) .nil))) [some (.d l), some (.d r), some (.d x), e, none, none, some (.d (.lst (good.map .int)))]) ((prL (wlds L) rs).map prD) [] s = .ok (.lst ((rkL (wlds L) rs (broken · p)).map fun n => .bl (match mn good with | some m => decide (m < n) | none => false))) s := by
    intro e good s _
    rw [compL_fmOf (g := cstepIf (gAt P cap (d + 1)) [4, 5] (.and (.cmp .ne (.var 6) (.lst .nil)) (.one (.cmp .lt (.bi .min (.var 6)) (.var 4)))) (.tp [.nm 4, .nm 5]) (.call 44 (.cons (.var 2) (.cons (.var 5) .nil))) [some (.d l), some (.d r), some (.d x), e, none, none, some (.d (.lst (good.map .int)))]) (s := s) prD (fun a => if broken a.2 p = true then some (.bl (match mn good with | some m => decide (m < a.1) | none => false)) else none) ?_ (by simp only [lim]; omega)]
    · rw [rkL_pr, List.map_filterMap]
      congr 2; congr 1; funext a
      split <;> simp
    · rintro ⟨n, u⟩ hu
      simp [cstepIf, prD, h2]
      cases hb : broken u p
      · simp
      · simp [eq_nil (flat_ints _)]
        cases hm : mn good with
        | none => rw [mn_none hm]; simp
        | some m =>
          have : good.isEmpty = false := by cases h : good <;> simp [h, mn] at hm ⊢
          simp [this, hm]
  simp [f45, List.replicate, hr, h38, wldsD, hz, k1, k2, k3, allBl_map, bearB]
  cases hb : mn (rkL (wlds L) rs (broken · p)) with
  | none => rw [mn_none hb]; rfl
  | some b =>
    obtain ⟨h3, h4⟩ := mn_some hb
    cases mn (rkL (wlds L) rs (met · p)) with
    | none =>
      simp
      exact ⟨b, h3⟩
    | some g =>
      simp
      rw [Bool.eq_iff_iff]
      simp
      exact ⟨fun h => h b h3, fun h x hx => by have := h4 x hx; omega⟩
end Us
end

section
set_option linter.all false
set_option maxRecDepth 100000
/-! Us.B11: the first saying not borne; faults of ranks. -/
namespace Us
open PySem (Str)
variable {P : Prg} {cap : Int → Bool} {d : Nat} {s : S}
theorem flatKs_all {xs : List D} (h : ∀ x ∈ xs, x.flatK = true) : D.flatKs xs = true := by
  induction xs with
  | nil => rfl
  | cons x xs ih => simp [D.flatKs, h x (by simp), ih (fun y hy => h y (by simp [hy]))]
theorem mem_zip {xs : List D} {a : D × Nat} (h : a ∈ xs.zipIdx) : xs[a.2]? = some a.1 := by
  obtain ⟨x, i⟩ := a
  exact List.mem_zipIdx_iff_getElem?.mp h
/-- the places at which something is so, as a comprehension over enumerate tells them -/
theorem comp_places {g : D → S → R (Option D)} {xs : List D} (f : D → Nat → Bool) (hl : xs.length ≤ 4096) (h : ∀ (i : Nat) x, xs[i]? = some x → g (.tup [.int i, x]) s = .ok (if f x i = true then some (.int i) else none) s) : compL g (enumD xs) [] s = .ok (.lst (xs.zipIdx.filterMap fun a => if f a.1 a.2 = true then some (.int a.2) else none)) s := by
  refine compL_fmOf (fun a : D × Nat => D.tup [.int a.2, a.1]) (fun a => if f a.1 a.2 = true then some (.int a.2) else none) ?_ (by simp only [lim]; simp; omega)
  rintro ⟨x, i⟩ hx
  exact h i x (mem_zip hx)
theorem places_flat (xs : List D) (f : D → Nat → Bool) : D.flatKs (xs.zipIdx.filterMap fun a => if f a.1 a.2 = true then some (.int a.2) else none) = true := by
  refine flatKs_all ?_
  intro x hx
  simp only [List.mem_filterMap] at hx
  obtain ⟨a, _, h⟩ := hx
  split at h
  · cases h; rfl
  · cases h
/-- the first place, if there is one -/
def firstAt (xs : List D) (f : D → Nat → Bool) : Option Nat := xs.zipIdx.findSome? fun a => if f a.1 a.2 = true then some a.2 else none
theorem places_head (xs : List D) (f : D → Nat → Bool) : (xs.zipIdx.filterMap fun a => if f a.1 a.2 = true then some (D.int a.2) else none).head? = (firstAt xs f).map fun (i : Nat) => D.int (i : Int) := by
  rw [List.head?_filterMap]
  unfold firstAt
  generalize xs.zipIdx = l
  induction l with
  | nil => rfl
  | cons a l ih =>
    simp only [List.findSome?_cons]
    by_cases h : f a.1 a.2 = true
    · simp [h]
    · simp [h]; simpa using ih
theorem places_cases (xs : List D) (f : D → Nat → Bool) : (firstAt xs f = none ∧ (xs.zipIdx.filterMap fun a => if f a.1 a.2 = true then some (D.int a.2) else none) = []) ∨ ∃ i r, firstAt xs f = some i ∧ (xs.zipIdx.filterMap fun a => if f a.1 a.2 = true then some (D.int a.2) else none) = .int i :: r := by
  have := places_head xs f
  cases h : (xs.zipIdx.filterMap fun a => if f a.1 a.2 = true then some (D.int a.2) else none) with
  | nil => rw [h] at this; left; exact ⟨by cases hf : firstAt xs f <;> simp [hf] at this ⊢, rfl⟩
  | cons y r =>
    rw [h] at this
    right
    cases hf : firstAt xs f with
    | none => simp [hf] at this
    | some i => simp [hf] at this; exact ⟨i, r, rfl, by rw [this]⟩
/-- a loop that looks for the first place -/
theorem find_first {t : Tg} {b : Env → S → RS} {xs : List D} {env : Env} {s : S} {k : Env → S → RS} {cs} {rhs : R D} (I : Env → Prop) (f : D → Nat → Bool) (q : Nat → D) (h0 : I env) (hb : ∀ i y, xs[i]? = some y → (∀ j z, j < i → xs[j]? = some z → f z j = false) → ∀ env, I env → ∃ env1, bindT t (.tup [.int i, y]) env = some env1 ∧ (if f y i = true then b env1 s = .rt (q i) s else ∃ env2, I env2 ∧ (b env1 s = .nx env2 s ∨ b env1 s = .ct env2 s)))
    (hn : ∀ env', I env' → firstAt xs f = none → (k env' s).out cs = rhs) (hr : ∀ i, firstAt xs f = some i → .ok (q i) ⟨s.stm, cs⟩ = rhs) :
    ((forL t b (enumD xs) env s).seq k).out cs = rhs := by
  have conv : xs.zipIdx.findSome? (fun a => if f a.1 a.2 = true then some (q a.2) else none) = (firstAt xs f).map q := by
    unfold firstAt
    generalize xs.zipIdx = l
    induction l with
    | nil => rfl
    | cons a l ih =>
      simp only [List.findSome?_cons]
      by_cases h : f a.1 a.2 = true
      · simp [h]
      · simp [h]; simpa using ih
  refine find_enum I (fun y i => if f y i = true then some (q i) else none) h0 ?_ ?_ ?_
  · intro i y hy hp env hI
    obtain ⟨env1, h1, h2⟩ := hb i y hy (fun j z hj hz => by have := hp j z hj hz; cases hf : f z j <;> simp [hf] at this ⊢) env hI
    refine ⟨env1, h1, ?_⟩
    cases hf : f y i
    · simpa [hf] using h2
    · simpa [hf] using h2
  · intro env' hI h
    refine hn env' hI ?_
    rw [conv] at h
    cases hf : firstAt xs f <;> simp [hf] at h ⊢
  · intro r h
    rw [conv] at h
    cases hf : firstAt xs f with
    | none => simp [hf] at h
    | some i => simp [hf] at h; subst h; exact hr i hf
theorem firstAt_congr {xs : List D} {f g : D → Nat → Bool} (h : ∀ (i : Nat) x, xs[i]? = some x → f x i = g x i) : firstAt xs f = firstAt xs g := by
  unfold firstAt
  have : ∀ a ∈ xs.zipIdx, f a.1 a.2 = g a.1 a.2 := fun a ha => h a.2 a.1 (mem_zip ha)
  revert this
  generalize xs.zipIdx = l
  intro this
  induction l with
  | nil => rfl
  | cons a l ih => simp only [List.findSome?_cons]; rw [this a (by simp), ih (fun b hb => this b (by simp [hb]))]
/-! ### the first saying not borne -/
def lacks (ws : List (List Str)) (rs : List (Option Int)) (x : D) (_ : Nat) : Bool := ofSay false (fun p => !bearB ws rs p) x
theorem unb_first {ws : List (List Str)} {rs : List (Option Int)} {xs : List D} {ps : List (Fm × Fm)} (h : Says xs ps) : unb ws rs ps = ((firstAt xs (lacks ws rs)).map fun (i : Nat) => D.int (i : Int)).getD .non := by
  have hu : unb ws rs ps = (xs.zipIdx.findSome? fun a => ofSay none (fun p => if bearB ws rs p = true then none else some (D.int a.2)) a.1).getD .non := by
    rw [says_find h fun p i => if bearB ws rs p = true then none else some (D.int i)]; rfl
  rw [hu]
  congr 1
  unfold firstAt
  have : ∀ a ∈ xs.zipIdx, ∃ p, toSay a.1 = some p := fun a ha => by obtain ⟨p, _, hp, _⟩ := says_get h (mem_zip ha); exact ⟨p, hp⟩
  revert this
  generalize xs.zipIdx = l
  intro this
  induction l with
  | nil => rfl
  | cons a l ih =>
    simp only [List.findSome?_cons]
    obtain ⟨p, hp⟩ := this a (by simp)
    have ih' := ih (fun b hb => this b (by simp [hb]))
    cases hb : bearB ws rs p
    · simp [ofSay, hp, hb, lacks]
    · simp [ofSay, hp, hb, lacks]
      simpa [ofSay, lacks] using ih'
theorem c46 (H : HasLR P) {b r l ss : D} {rest : List D} {xs : List D} {L : List Str} {ps : List (Fm × Fm)} {rs : List (Option Int)} (hb : seqD b = some (l :: ss :: rest)) (hl : seqD l = some (L.map D.str)) (hn : L.length ≤ 12) (hxs : seqD ss = some xs) (hxl : xs.length ≤ 4096) (hs : Says xs ps) (hr : seqD r = some (rs.map rkD)) (hd : ∀ p ∈ ps, sdep p + 4 ≤ d) (hd' : 2 ≤ d) : callAt P cap d 46 [.d b, .d r] s = .ok (unb (wlds L) rs ps) s := by
  obtain ⟨d, rfl⟩ : ∃ e, d = e + 1 := ⟨d - 1, by omega⟩
  rw [call2 H.h46 _ _ rfl, unb_first hs]
  simp [f46, List.replicate, idx_s1 hb, hxs]
  rw [comp_places (lacks (wlds L) rs) hxl]
  · simp [eq_nil (places_flat xs (lacks (wlds L) rs))]
    rcases places_cases xs (lacks (wlds L) rs) with ⟨h1, h2⟩ | ⟨i, q, h1, h2⟩
    · rw [h1, h2]; simp
    · rw [h1, h2]; simp
  · intro i x hx
    obtain ⟨p, _, hp, hm⟩ := says_get hs hx
    have h45 := fun s => c45 (cap := cap) (d := d) (s := s) H hl hn hp hr (by have := hd p hm; omega)
    simp [cstepIf, idx_s0 hb, h45, lacks, ofSay, hp]
    cases bearB (wlds L) rs p <;> simp
/-! ### faults of ranks -/
def badRk (x : D) (_ : Nat) : Bool := !x.isNon && !isNum x
def form : D := .tup [.str (sx [102, 111, 114, 109])]
def rkFault (n : Nat) (x : D) : D := match seqD x with
  | none => form
  | some xs => if xs.length = n then (match firstAt xs badRk with
      | some i => .tup [.str (sx [114, 97, 110, 107]), .int i]
      | none => .non) else form
theorem wldsD_len (L : List Str) : biD .len (wldsD L) = some (.int (2 ^ L.length : Nat)) := by
  simp [wldsD, wlds_len]
theorem c20 (H : HasR P) {l x : D} {L : List Str} (hl : seqD l = some (L.map D.str)) (hn : L.length ≤ 12) (hp : x.pl = true) (hd : 3 ≤ d) : callAt P cap d 20 [.d l, .d x] s = .ok (rkFault (2 ^ L.length) x) s := by
  obtain ⟨d, rfl⟩ : ∃ e, d = e + 3 := ⟨d - 3, by omega⟩
  rw [call2 H.h20 _ _ rfl]
  have h1 := fun s => c1 (cap := cap) (d := d + 1) (s := s) H.f.h1 x (pl_kd hp)
  cases e : seqD x with
  | none => simp [f20, h1, isL_none e, rkFault, e, form]
  | some xs =>
    obtain ⟨hxl, hps⟩ := pl_seq hp e
    have h8 := fun s => c8 (cap := cap) (d := d + 1) (s := s) H.h8 hl hn
    simp [f20, h1, isL_seq e, rkFault, e, len_seq e, h8, wldsD_len, List.replicate]
    by_cases hq : xs.length = 2 ^ L.length
    · have hq' : (xs.length : Int) = 2 ^ L.length := by rw [hq]; exact Int.natCast_pow 2 _
      rw [if_pos hq, if_pos hq']
      refine find_first (fun env => ∃ u v, env = [some (W.d l), some (W.d x), u, v]) badRk (fun i => .tup [.str (sx [114, 97, 110, 107]), .int i]) ⟨_, _, rfl⟩ ?_ ?_ ?_
      · rintro i y hy _ env ⟨u, v, rfl⟩
        refine ⟨_, rfl, ?_⟩
        have h3 := fun s => c3 (cap := cap) (d := d) (s := s) H.f.h2 H.f.h3 y (pl_kd (hps y (List.mem_of_getElem? hy)))
        simp [h3, badRk]
        cases y.isNon <;> cases isNum y <;> simp
      · rintro env' ⟨u, v, rfl⟩ h
        simp [h]
      · intro i h
        simp [h]
    · have hq' : ¬(xs.length : Int) = 2 ^ L.length := by intro h; exact hq (by exact_mod_cast h)
      rw [if_neg hq, if_neg hq']; rfl
theorem c47 (H : HasLR P) {l x : D} {L : List Str} (hl : seqD l = some (L.map D.str)) (hn : L.length ≤ 12) (hp : x.pl = true) (hd : 3 ≤ d) : callAt P cap d 47 [.d l, .d x] s = .ok (rkFault (2 ^ L.length) x) s := by
  obtain ⟨d, rfl⟩ : ∃ e, d = e + 3 := ⟨d - 3, by omega⟩
  rw [call2 H.h47 _ _ rfl]
  cases e : seqD x with
  | none => simp [f47, pl_kd hp, isL_none e, rkFault, e, form]
  | some xs =>
    obtain ⟨hxl, hps⟩ := pl_seq hp e
    have h38 := fun s => c38 (cap := cap) (d := d + 1) (s := s) H.l.h38 hl hn
    simp [f47, pl_kd hp, isL_seq e, rkFault, e, len_seq e, h38, wldsD_len, List.replicate]
    by_cases hq : xs.length = 2 ^ L.length
    · have hq' : (xs.length : Int) = 2 ^ L.length := by rw [hq]; exact Int.natCast_pow 2 _
      rw [if_pos hq, if_pos hq', comp_places badRk hxl]
      · simp [eq_nil (places_flat xs badRk)]
        rcases places_cases xs badRk with ⟨h1, h2⟩ | ⟨i, q, h1, h2⟩
        · rw [h1, h2]; simp
        · rw [h1, h2]; simp
      · intro i y hy
        have hy := hps y (List.mem_of_getElem? hy)
        have h32 : ∀ s, callAt P cap (d + 2) 32 [.d y] s = .ok (.bl (isWh y)) s := by
          intro s
          rw [call1 H.l.h32 y rfl]
          cases y <;> simp [D.pl] at hy <;> simp [f32, isTy, isWh]
        cases y <;> simp [D.pl] at hy <;> simp [cstepIf, h32, isWh, badRk, isNum]
        split <;> simp_all
    · have hq' : ¬(xs.length : Int) = 2 ^ L.length := by intro h; exact hq (by exact_mod_cast h)
      rw [if_neg hq, if_neg hq']; rfl
end Us
end

section
set_option linter.all false
set_option maxRecDepth 100000
/-! Us.B12: faults of books. -/
namespace Us
open PySem (Str)
variable {P : Prg} {cap : Int → Bool} {d : Nat} {s : S}
def optI : Option Nat → D
  | some i => .int i
  | none => .non
theorem badLet_first (xs : List D) : badLet xs = optI (firstAt xs (badAt xs)) := by
  unfold badLet firstAt
  generalize xs.zipIdx = l
  induction l with
  | nil => rfl
  | cons a l ih =>
    simp only [List.findSome?_cons]
    by_cases h : badAt xs a.1 a.2 = true
    · simp [h, optI]
    · simp [h]; simpa using ih
def letsOf (ls : List D) : List Str := ls.filterMap fun x => match x with
  | .str y => some y
  | _ => none
theorem letsOf_map (L : List Str) : letsOf (L.map D.str) = L := by
  unfold letsOf; rw [List.filterMap_map]; simp [Function.comp_def]
theorem first_none {xs : List D} {f : D → Nat → Bool} (h : firstAt xs f = none) {i : Nat} {x : D} (e : xs[i]? = some x) : f x i = false := by
  unfold firstAt at h
  rw [List.findSome?_eq_none_iff] at h
  have := h (x, i) (List.mem_zipIdx_iff_getElem?.mpr e)
  cases hf : f x i <;> simp [hf] at this ⊢
theorem lets_all {ls : List D} (h : ∀ y ∈ ls, isLet y = true) : ls = (letsOf ls).map D.str := by
  induction ls with
  | nil => rfl
  | cons y ls ih =>
    obtain ⟨z, rfl, _⟩ := isLet_str (h y (by simp))
    have := ih (fun y hy => h y (by simp [hy]))
    simp only [letsOf, List.filterMap_cons, List.map_cons]
    rw [List.cons_inj_right]
    exact this
theorem lets_ok {ls : List D} (h : firstAt ls (badAt ls) = none) : ls = (letsOf ls).map D.str := by
  refine lets_all ?_
  intro y hy
  obtain ⟨i, hi⟩ := List.getElem?_of_mem hy
  have := first_none h hi
  cases hl : isLet y <;> simp [badAt, hl] at this ⊢
def tLet (i : Nat) : D := .tup [.str (sx [108, 101, 116, 116, 101, 114, 115]), .int i]
def tSay (i : Nat) : D := .tup [.str (sx [115, 97, 121, 105, 110, 103, 115]), .int i]
def noSay (L : List Str) (x : D) (_ : Nat) : Bool := !isSay L x
def bkFault (x : D) : D := match seqD x with
  | some [l, ss] => (match seqD l, seqD ss with
    | some ls, some xs => (match firstAt ls (badAt ls) with
      | some i => tLet i
      | none => (match firstAt xs (noSay (letsOf ls)) with
        | some i => tSay i
        | none => .non))
    | _, _ => form)
  | _ => form
structure HasB (P : Prg) : Prop where
  r : HasR P
  h7 : P.fn 7 = some f7
  h16 : P.fn 16 = some f16
  h17 : P.fn 17 = some f17
  h18 : P.fn 18 = some f18
  h19 : P.fn 19 = some f19
  h21 : P.fn 21 = some f21
  h24 : P.fn 24 = some f24
  h26 : P.fn 26 = some f26
@[simp] theorem optI_non (o : Option Nat) : (optI o).isNon = o.isNone := by cases o <;> rfl
theorem c16 (H : HasB P) {x : D} (hp : x.pl = true) (hx : x.depth ≤ 20) (hd : x.depth + 4 ≤ d) : callAt P cap d 16 [.d x] s = .ok (bkFault x) s := by
  obtain ⟨d, rfl⟩ : ∃ e, d = e + 4 := ⟨d - 4, by omega⟩
  have F := H.r.f
  rw [call1 H.h16 _ rfl]
  have h4 := fun s => c4 (d := d + 1) (cap := cap) (s := s) F.h1 F.h4 x 2 (pl_kd hp)
  cases e : seqD x with
  | none => simp [f16, h4, e, bkFault, form]
  | some xs =>
    obtain ⟨hxl, hps⟩ := pl_seq hp e
    have hdx := depth_seq e
    rcases xs with _ | ⟨l, _ | ⟨ss, _ | ⟨c, r⟩⟩⟩
    · simp [f16, h4, e, bkFault, form]
    · simp [f16, h4, e, bkFault, form]
    · have hl := hps l (by simp)
      have hss := hps ss (by simp)
      have a1 := fun s => c1 (cap := cap) (d := d + 2) (s := s) F.h1 l (pl_kd hl)
      have a2 := fun s => c1 (cap := cap) (d := d + 2) (s := s) F.h1 ss (pl_kd hss)
      cases el : seqD l with
      | none => simp [f16, h4, e, bkFault, form, idx_s0 e, a1, isL_none el, el]
      | some ls =>
      cases es : seqD ss with
      | none => simp [f16, h4, e, bkFault, form, idx_s0 e, idx_s1 e, a1, a2, isL_none es, isL_seq el, el, es]
      | some ys =>
      obtain ⟨hll, hlp⟩ := pl_seq hl el
      obtain ⟨hsl, hsp⟩ := pl_seq hss es
      have h6 := fun s => c6 (cap := cap) (d := d + 1) (s := s) F.h1 F.h5 F.h6 l (pl_kd hl) (fun zs ez y hy => by rw [el] at ez; cases ez; exact pl_kd (hlp y hy))
      simp [el, badLet_first] at h6
      simp [f16, h4, e, bkFault, idx_s0 e, idx_s1 e, a1, a2, isL_seq es, isL_seq el, el, es, h6, List.replicate]
      cases hf : firstAt ls (badAt ls) with
      | some i => simp [optI, tLet]
      | none =>
        simp
        have hL := el.trans (congrArg some (lets_ok hf))
        refine find_first (fun env => ∃ u v, env = [some (W.d x), some (W.d .non), u, v]) (noSay (letsOf ls)) tSay ⟨_, _, rfl⟩ ?_ ?_ ?_
        · rintro i y hy _ env ⟨u, v, rfl⟩
          refine ⟨_, rfl, ?_⟩
          have hm := List.mem_of_getElem? hy
          have dy := depths_mem hm
          have ds := depth_seq es
          have d0 := depths_mem (y := ss) (xs := [l, ss]) (by simp)
          have h13 := fun s => c13 (cap := cap) (d := d + 3) (s := s) F hL (hsp y hm) (by omega) (by omega)
          simp [idx_s0 e, h13, noSay]
          cases isSay (letsOf ls) y <;> simp [tSay]
        · rintro env' ⟨u, v, rfl⟩ h
          simp [h]
        · intro i h
          simp [h]
    · have : ¬((r.length : Int) + 1 + 1 + 1 = 2) := by omega
      simp [f16, h4, e, bkFault, form, this]
structure HasLB (P : Prg) : Prop where
  r : HasLR P
  h50 : P.fn 50 = some f50
theorem c50 (H : HasLB P) {x : D} (hp : x.pl = true) (hx : x.depth ≤ 20) (hd : x.depth + 4 ≤ d) : callAt P cap d 50 [.d x] s = .ok (bkFault x) s := by
  obtain ⟨d, rfl⟩ : ∃ e, d = e + 4 := ⟨d - 4, by omega⟩
  have F := H.r.l
  rw [call1 H.h50 _ rfl]
  cases e : seqD x with
  | none => simp [f50, pl_kd hp, isL_none e, e, bkFault, form]
  | some xs =>
    obtain ⟨hxl, hps⟩ := pl_seq hp e
    have hdx := depth_seq e
    have hw : ∀ b, walkD b x = some xs := by cases x <;> simp [seqD] at e <;> subst e <;> simp
    rcases xs with _ | ⟨l, _ | ⟨ss, _ | ⟨c, r⟩⟩⟩
    · simp [f50, pl_kd hp, isL_seq e, len_seq e, e, bkFault, form]
    · simp [f50, pl_kd hp, isL_seq e, len_seq e, e, bkFault, form]
    · have hl := hps l (by simp)
      have hss := hps ss (by simp)
      cases el : seqD l with
      | none => simp [f50, pl_kd hp, isL_seq e, isL_none el, len_seq e, e, el, bkFault, form, hw, compL, cstep, pl_kd hl, pl_kd hss, lim, List.replicate, allBl]
      | some ls =>
      cases es : seqD ss with
      | none => simp [f50, pl_kd hp, isL_seq e, isL_seq el, isL_none es, len_seq e, e, el, es, bkFault, form, hw, compL, cstep, pl_kd hl, pl_kd hss, lim, List.replicate, allBl]
      | some ys =>
      obtain ⟨hll, hlp⟩ := pl_seq hl el
      obtain ⟨hsl, hsp⟩ := pl_seq hss es
      have hxx : x = .lst [l, ss] ∨ x = .tup [l, ss] := by cases x <;> simp [seqD] at e <;> subst e <;> simp
      have key : ∀ x, ((forL (.tp [.nm 4, .nm 5]) (exs (gAt P cap (d + 3)) [.ite (.or (.not (.call 41 (.cons (.var 5) .nil))) (.one (.and (.cmp .gt (.var 4) (.int 0)) (.one (.cmp .le (.var 5) (.idx (.var 2) (.bin .sub (.var 4) (.int 1)))))))) [.ret (.tup (.cons (.str (sx [108, 101, 116, 116, 101, 114, 115])) (.cons (.var 4) .nil)))] []]) (enumD ls) [some (.d x), none, some (.d l), some (.d ss), none, none, none, none] ⟨s.stm, []⟩).seq (exs (gAt P cap (d + 3)) [.asg (.nm 6) (.compIf [4, 7] (.var 4) (.tp [.nm 4, .nm 7]) (.enum (.var 3)) (.not (.call 42 (.cons (.var 2) (.cons (.var 7) .nil))))), .ret (.ite (.cmp .ne (.var 6) (.lst .nil)) (.tup (.cons (.str (sx [115, 97, 121, 105, 110, 103, 115])) (.cons (.idx (.var 6) (.int 0)) .nil))) .non)])).out s.cells = .ok (match firstAt ls (badAt ls) with
        | some i => tLet i
        | none => (match firstAt ys (noSay (letsOf ls)) with
          | some i => tSay i
          | none => .non)) s := by
        intro x
        refine find_first (fun env => ∃ u v, env = [some (W.d x), none, some (.d l), some (.d ss), u, v, none, none]) (badAt ls) tLet ⟨_, _, rfl⟩ ?_ ?_ ?_
        · rintro k y hk' hq env ⟨a, b, rfl⟩
          refine ⟨_, rfl, ?_⟩
          have hy : y.kinded = true := pl_kd (hlp y (List.mem_of_getElem? hk'))
          have h41 := fun s => c41 (cap := cap) (d := d + 2) (s := s) F.h41 y hy
          have hlt : isLet y = true → ∃ z, y = .str z := by cases y <;> simp [isLet]
          rcases k with _ | k
          · simp [h41, badAt]
            cases isLet y <;> simp [tLet]
          · obtain ⟨z, hz⟩ : ∃ z, ls[k]? = some z := ⟨_, List.getElem?_eq_getElem (by have := (List.getElem?_eq_some_iff.mp hk').1; omega)⟩
            have := hq k z (by omega) hz
            have hzl : isLet z = true := by cases hc : isLet z <;> simp [badAt, hc] at this ⊢
            obtain ⟨z, rfl⟩ : ∃ u, z = .str u := by cases z <;> simp [isLet] at hzl ⊢
            cases hc : isLet y
            · simp [h41, badAt, hc, tLet]
            · obtain ⟨u, rfl⟩ := hlt hc
              simp [h41, badAt, hc, hz, idx_seq el k _ hz]
              cases strLt z.cps.toList u.cps.toList <;> simp [tLet]
        · rintro env' ⟨a, b, rfl⟩ h
          have hL := el.trans (congrArg some (lets_ok h))
          simp [h, es]
          rw [comp_places (noSay (letsOf ls)) hsl]
          · simp [eq_nil (places_flat ys (noSay (letsOf ls)))]
            rcases places_cases ys (noSay (letsOf ls)) with ⟨h1, h2⟩ | ⟨i, q, h1, h2⟩
            · rw [h1, h2]; simp
            · rw [h1, h2]; simp [tSay]
          · intro i y hy
            have hm := List.mem_of_getElem? hy
            have dy := depths_mem hm
            have ds := depth_seq es
            have d0 := depths_mem (y := ss) (xs := [l, ss]) (by simp)
            have h42 := fun s => c42 (cap := cap) (d := d + 3) (s := s) F hL (hsp y hm) (by omega)
            simp [cstepIf, h42, noSay]
            cases isSay (letsOf ls) y <;> simp
        · intro i h
          simp [h]
      have e' := e
      rcases hxx with rfl | rfl <;> (
        simp [f50, isL_seq el, isL_seq es, el, es, bkFault, compL, cstep, pl_kd hl, pl_kd hss, lim, List.replicate, allBl, isL_seq e']
        exact key _)
    · have : ¬((r.length : Int) + 1 + 1 + 1 = 2) := by omega
      simp [f50, pl_kd hp, isL_seq e, len_seq e, e, bkFault, form, this]
end Us
end

section
set_option linter.all false
set_option maxRecDepth 100000
/-! Us.B13: the program's functions that refuse. -/
namespace Us
open PySem (Str)
variable {P : Prg} {cap : Int → Bool} {d : Nat} {s : S}
theorem kd_seq {l : D} (hp : l.pl = true) : ∀ zs, seqD l = some zs → ∀ y ∈ zs, y.kinded = true := fun zs ez y hy => pl_kd ((pl_seq hp ez).2 y hy)
theorem c7_ok (H : HasB P) {l : D} {ls : List D} (hp : l.pl = true) (e : seqD l = some ls) (h : firstAt ls (badAt ls) = none) : callAt P cap (d + 3) 7 [.d l] s = .ok .non s := by
  rw [call1 H.h7 _ rfl]
  have F := H.r.f
  have h6 := fun s => c6 (cap := cap) (d := d) (s := s) F.h1 F.h5 F.h6 l (pl_kd hp) (kd_seq hp)
  simp [e, badLet_first, h, optI] at h6
  simp [f7, h6, List.replicate]
theorem c7_no (H : HasB P) {l : D} {ls : List D} {i : Nat} (hp : l.pl = true) (e : seqD l = some ls) (h : firstAt ls (badAt ls) = some i) : callAt P cap (d + 3) 7 [.d l] s = .exc 1 (.int i) s := by
  rw [call1 H.h7 _ rfl]
  have F := H.r.f
  have h6 := fun s => c6 (cap := cap) (d := d) (s := s) F.h1 F.h5 F.h6 l (pl_kd hp) (kd_seq hp)
  simp [e, badLet_first, h, optI] at h6
  simp [f7, h6, List.replicate]
theorem c17 (H : HasB P) {x : D} (hp : x.pl = true) (hx : x.depth ≤ 20) (hd : x.depth + 5 ≤ d) : callAt P cap d 17 [.d x] s = .ok (bkFault x) s := by
  obtain ⟨d, rfl⟩ : ∃ e, d = e + 1 := ⟨d - 1, by omega⟩
  rw [call1 H.h17 _ rfl]
  simp [f17, fun s => c16 (cap := cap) (d := d) (s := s) H hp hx (by omega)]
theorem c18_ok (H : HasB P) {x : D} (hp : x.pl = true) (hx : x.depth ≤ 20) (hd : x.depth + 5 ≤ d) (h : bkFault x = .non) : callAt P cap d 18 [.d x] s = .ok .non s := by
  obtain ⟨d, rfl⟩ : ∃ e, d = e + 1 := ⟨d - 1, by omega⟩
  rw [call1 H.h18 _ rfl]
  simp [f18, fun s => c16 (cap := cap) (d := d) (s := s) H hp hx (by omega), h, List.replicate]
theorem c18_no (H : HasB P) {x : D} (hp : x.pl = true) (hx : x.depth ≤ 20) (hd : x.depth + 5 ≤ d) (h : (bkFault x).isNon = false) : callAt P cap d 18 [.d x] s = .exc 2 (bkFault x) s := by
  obtain ⟨d, rfl⟩ : ∃ e, d = e + 1 := ⟨d - 1, by omega⟩
  rw [call1 H.h18 _ rfl]
  simp [f18, fun s => c16 (cap := cap) (d := d) (s := s) H hp hx (by omega), h, List.replicate]
theorem c19 (H : HasB P) {l x : D} {L : List Str} (hl : seqD l = some (L.map D.str)) (hp : x.pl = true) (hx : x.depth ≤ 20) (hd : x.depth + 4 ≤ d) : callAt P cap d 19 [.d l, .d x] s = if isSay L x = true then .ok .non s else .exc 4 x s := by
  obtain ⟨d, rfl⟩ : ∃ e, d = e + 1 := ⟨d - 1, by omega⟩
  rw [call2 H.h19 _ _ rfl]
  simp [f19, fun s => c13 (cap := cap) (d := d) (s := s) H.r.f hl hp hx (by omega)]
  cases isSay L x <;> simp
def LetOk (L : List Str) : Prop := firstAt (L.map D.str) (badAt (L.map D.str)) = none
theorem c21_ok (H : HasB P) {l x : D} {L : List Str} (hlp : l.pl = true) (hl : seqD l = some (L.map D.str)) (ho : LetOk L) (hn : L.length ≤ 12) (hp : x.pl = true) (hd : 4 ≤ d) : callAt P cap d 21 [.d l, .d x] s = .ok (rkFault (2 ^ L.length) x) s := by
  obtain ⟨d, rfl⟩ : ∃ e, d = e + 4 := ⟨d - 4, by omega⟩
  rw [call2 H.h21 _ _ rfl]
  simp [f21, fun s => c7_ok (cap := cap) (d := d) (s := s) H hlp hl ho, fun s => c20 (cap := cap) (d := d + 3) (s := s) H.r hl hn hp (by omega)]
theorem c21_no (H : HasB P) {l x : D} {ls : List D} {i : Nat} (hp : l.pl = true) (e : seqD l = some ls) (h : firstAt ls (badAt ls) = some i) (hd : 4 ≤ d) : callAt P cap d 21 [.d l, .d x] s = .exc 1 (.int i) s := by
  obtain ⟨d, rfl⟩ : ∃ e, d = e + 4 := ⟨d - 4, by omega⟩
  rw [call2 H.h21 _ _ rfl]
  simp [f21, fun s => c7_no (cap := cap) (d := d) (s := s) H hp e h]
theorem c24_let (H : HasB P) {l r x : D} {ls : List D} {i : Nat} (hp : l.pl = true) (e : seqD l = some ls) (h : firstAt ls (badAt ls) = some i) (hd : 4 ≤ d) : callAt P cap d 24 [.d l, .d r, .d x] s = .exc 1 (.int i) s := by
  obtain ⟨d, rfl⟩ : ∃ e, d = e + 4 := ⟨d - 4, by omega⟩
  rw [call3 H.h24 _ _ _ rfl]
  simp [f24, fun s => c7_no (cap := cap) (d := d) (s := s) H hp e h]
theorem c24_rk (H : HasB P) {l r x : D} {L : List Str} (hlp : l.pl = true) (hl : seqD l = some (L.map D.str)) (ho : LetOk L) (hn : L.length ≤ 12) (hp : r.pl = true) (h : (rkFault (2 ^ L.length) r).isNon = false) (hd : 4 ≤ d) : callAt P cap d 24 [.d l, .d r, .d x] s = .exc 3 (rkFault (2 ^ L.length) r) s := by
  obtain ⟨d, rfl⟩ : ∃ e, d = e + 4 := ⟨d - 4, by omega⟩
  rw [call3 H.h24 _ _ _ rfl]
  simp [f24, fun s => c7_ok (cap := cap) (d := d) (s := s) H hlp hl ho, fun s => c20 (cap := cap) (d := d + 3) (s := s) H.r hl hn hp (by omega), List.replicate, h]
theorem c24_say (H : HasB P) {l r x : D} {L : List Str} (hlp : l.pl = true) (hl : seqD l = some (L.map D.str)) (ho : LetOk L) (hn : L.length ≤ 12) (hp : r.pl = true) (h : rkFault (2 ^ L.length) r = .non) (hx : x.pl = true) (hxd : x.depth ≤ 20) (hs : isSay L x = false) (hd : x.depth + 5 ≤ d) : callAt P cap d 24 [.d l, .d r, .d x] s = .exc 4 x s := by
  obtain ⟨d, rfl⟩ : ∃ e, d = e + 4 := ⟨d - 4, by omega⟩
  rw [call3 H.h24 _ _ _ rfl]
  simp [f24, fun s => c7_ok (cap := cap) (d := d) (s := s) H hlp hl ho, fun s => c20 (cap := cap) (d := d + 3) (s := s) H.r hl hn hp (by omega), List.replicate, h, fun s => c19 (cap := cap) (d := d + 3) (s := s) H hl hx hxd (by omega), hs]
theorem c24_ok (H : HasB P) {l r x : D} {L : List Str} {p : Fm × Fm} {rs : List (Option Int)} (hlp : l.pl = true) (hl : seqD l = some (L.map D.str)) (ho : LetOk L) (hn : L.length ≤ 12) (hp : r.pl = true) (h : rkFault (2 ^ L.length) r = .non) (hr : seqD r = some (rs.map rkD)) (hx : x.pl = true) (hxd : x.depth ≤ 20) (hs : isSay L x = true) (hxp : toSay x = some p) (hd : x.depth + 6 ≤ d) : callAt P cap d 24 [.d l, .d r, .d x] s = .ok (.bl (bearB (wlds L) rs p)) s := by
  obtain ⟨d, rfl⟩ : ∃ e, d = e + 4 := ⟨d - 4, by omega⟩
  rw [call3 H.h24 _ _ _ rfl]
  have hsd : sdep p + 2 ≤ x.depth := by
    obtain ⟨a, b, e, ha, hb⟩ := toSay_shape hxp
    have := toF_dep _ _ ha; have := toF_dep _ _ hb
    rw [depth_seq e]; simp only [D.depths, sdep]; omega
  simp [f24, fun s => c7_ok (cap := cap) (d := d) (s := s) H hlp hl ho, fun s => c20 (cap := cap) (d := d + 3) (s := s) H.r hl hn hp (by omega), List.replicate, h, fun s => c19 (cap := cap) (d := d + 3) (s := s) H hl hx hxd (by omega), hs, fun s => c23 (cap := cap) (d := d + 3) (s := s) H.r hl hn hxp hr (by omega)]
theorem c26_bk (H : HasB P) {b r : D} (hp : b.pl = true) (hx : b.depth ≤ 20) (hd : b.depth + 6 ≤ d) (h : (bkFault b).isNon = false) : callAt P cap d 26 [.d b, .d r] s = .exc 2 (bkFault b) s := by
  obtain ⟨d, rfl⟩ : ∃ e, d = e + 1 := ⟨d - 1, by omega⟩
  rw [call2 H.h26 _ _ rfl]
  simp [f26, fun s => c18_no (cap := cap) (d := d) (s := s) H hp hx (by omega) h]
theorem c26_rk (H : HasB P) {b r l ss : D} {L : List Str} (hp : b.pl = true) (hx : b.depth ≤ 20) (hd : b.depth + 6 ≤ d) (h : bkFault b = .non) (hb : seqD b = some [l, ss]) (hl : seqD l = some (L.map D.str)) (hn : L.length ≤ 12) (hr : r.pl = true) (hf : (rkFault (2 ^ L.length) r).isNon = false) : callAt P cap d 26 [.d b, .d r] s = .exc 3 (rkFault (2 ^ L.length) r) s := by
  obtain ⟨d, rfl⟩ : ∃ e, d = e + 1 := ⟨d - 1, by omega⟩
  rw [call2 H.h26 _ _ rfl]
  simp [f26, fun s => c18_ok (cap := cap) (d := d) (s := s) H hp hx (by omega) h, idx_s0 hb, fun s => c20 (cap := cap) (d := d) (s := s) H.r hl hn hr (by omega), List.replicate, hf]
theorem c26_ok (H : HasB P) {b r l ss : D} {L : List Str} {xs : List D} {ps : List (Fm × Fm)} {rs : List (Option Int)} (hp : b.pl = true) (hx : b.depth ≤ 20) (hd : b.depth + 6 ≤ d) (h : bkFault b = .non) (hb : seqD b = some [l, ss]) (hl : seqD l = some (L.map D.str)) (hn : L.length ≤ 12) (hrp : r.pl = true) (hf : rkFault (2 ^ L.length) r = .non) (hr : seqD r = some (rs.map rkD)) (hxs : seqD ss = some xs) (hs : Says xs ps) (hq : ∀ p ∈ ps, sdep p + 6 ≤ d) : callAt P cap d 26 [.d b, .d r] s = .ok (unb (wlds L) rs ps) s := by
  obtain ⟨d, rfl⟩ : ∃ e, d = e + 1 := ⟨d - 1, by omega⟩
  rw [call2 H.h26 _ _ rfl]
  simp [f26, fun s => c18_ok (cap := cap) (d := d) (s := s) H hp hx (by omega) h, idx_s0 hb, fun s => c20 (cap := cap) (d := d) (s := s) H.r hl hn hrp (by omega), List.replicate, hf, fun s => c25 (cap := cap) (d := d) (s := s) H.r hb hl hn hxs hs hr (fun p hp => by have := hq p hp; omega) (by omega)]
end Us
end

section
set_option linter.all false
set_option maxRecDepth 100000
/-! Us.B14: drawn formulas, sayings. -/
namespace Us
open PySem (Str)
variable {P : Prg} {cap : Int → Bool} {d : Nat} {s : S}
def fmD : Fm → D
  | .tt => .tup [.str wTrue]
  | .lt x => .tup [.str wLet, .str x]
  | .neg a => .tup [.str wNot, fmD a]
  | .bin o a b => .tup [.str o.w, fmD a, fmD b]
def okF (L : List Str) (f : Fm) : Prop := ∀ y ∈ f.lets, y ∈ L
def LetL (L : List Str) : Prop := ∀ y ∈ L, strLet y = true
theorem bo_of_w (o : Bo) : bo o.w = some o := by cases o <;> decide
theorem toF_fm {L : List Str} (hL : LetL L) : ∀ f : Fm, okF L f → toF (fmD f) = some f := by
  intro f
  induction f with
  | tt => intro _; simp [fmD, toF, toFs, toFw]
  | lt x => intro h; simp [fmD, toF, toFs, toFw, letF, hL x (h x (by simp [Fm.lets]))]
  | neg a ih => intro h; simp [fmD, toF, toFs, toFw, ih h]
  | bin o a b iha ihb =>
    intro h
    have h1 := iha fun y hy => h y (by simp [Fm.lets, hy])
    have h2 := ihb fun y hy => h y (by simp [Fm.lets, hy])
    simp [fmD, toF, toFs, toFw, h1, h2, bo_of_w]
theorem fm_pl : ∀ f : Fm, (fmD f).pl = true := by
  intro f; induction f <;> simp [fmD, D.pl, D.pls, *]
theorem fm_depth : ∀ f : Fm, (fmD f).depth = f.dep + 1 := by
  intro f; induction f <;> simp [fmD, D.depth, D.depths, Fm.dep, *] <;> omega
theorem fm_nodes : ∀ f : Fm, (fmD f).nodes + 1 ≤ 2 ^ (f.dep + 1) := by
  intro f
  induction f with
  | tt => simp [fmD, D.nodes, D.nodess, Fm.dep]
  | lt => simp [fmD, D.nodes, D.nodess, Fm.dep]
  | neg a ih => simp [fmD, D.nodes, D.nodess, Fm.dep]; rw [Nat.pow_succ]; omega
  | bin o a b iha ihb =>
    simp [fmD, D.nodes, D.nodess, Fm.dep]
    have := Nat.pow_le_pow_right (show 2 > 0 by omega) (Nat.succ_le_succ (Nat.le_max_left a.dep b.dep))
    have := Nat.pow_le_pow_right (show 2 > 0 by omega) (Nat.succ_le_succ (Nat.le_max_right a.dep b.dep))
    rw [Nat.pow_succ]
    simp at *
    omega
structure HasD (P : Prg) : Prop where
  c : HasC P
  h33 : P.fn 33 = some f33
  h34 : P.fn 34 = some f34
  h35 : P.fn 35 = some f35
theorem flat_strs (L : List Str) : D.flatKs (L.map D.str) = true := by induction L <;> simp [D.flatKs, D.flatK, *]
/-- how a drawn formula's end is told -/
def Fmd (L : List Str) (n : Nat) (y : D) : Prop := ∃ f, y = fmD f ∧ f.dep ≤ n ∧ okF L f
theorem pick_let (H : HasD P) (C : Cap cap) {L : List Str} (hn : L ≠ []) (hl : L.length ≤ 12) : Dr 1 s (callAt P cap (d + 1) 27 [.d .stm, .d (.lst (L.map D.str))] s) fun y => ∃ x ∈ L, y = .str x := by
  intro h0 hk
  obtain ⟨y, t, e, h1, h2, h3⟩ := c27 H.c C (L.map D.str) (by simpa using hn) (by simp; omega) h0 hk
  simp at h3
  obtain ⟨x, hx, rfl⟩ := h3
  exact ⟨_, t, e, h1, h2, x, hx, rfl⟩
theorem leaf (H : HasD P) (C : Cap cap) {L : List Str} (hl : L.length ≤ 12) (n d : Nat) (z w : D) (t : Stm) (h0 : 0 ≤ t.ct) (hk : t.ct + 2 < 1099511627776) : ∃ y t', ev (gAt P cap (d + 1)) (.ite (.and (.cmp .ne (.var 1) (.lst .nil)) (.one (.cmp .gt (.draw (.var 0) (.int 12)) (.int 0)))) (.tup (.cons (.str wLet) (.cons (.call 27 (.cons (.var 0) (.cons (.var 1) .nil))) .nil))) (.tup (.cons (.str wTrue) .nil))) [some (.d .stm), some (.d (.lst (L.map D.str))), some (.d z), some (.d w), none] ⟨t, []⟩ = .ok (.d y) ⟨t', []⟩ ∧ t.ct ≤ t'.ct ∧ t'.ct ≤ t.ct + 2 ∧ Fmd L n y := by
  obtain ⟨r, t1, e, h1, h2, h3⟩ := draw_if C ⟨t, []⟩ (m := 12) (by omega) (by omega) (by simp at hk ⊢; omega)
  simp at e h3
  by_cases hL : L = []
  · subst hL
    refine ⟨fmD .tt, t, ?_, by omega, by omega, .tt, rfl, by simp [Fm.dep], by simp [okF, Fm.lets]⟩
    simp [eq_nil (ys := []) rfl, fmD]
  · have hi : L.isEmpty = false := by cases L <;> simp at hL ⊢
    cases hr : decide (0 < r)
    · refine ⟨fmD .tt, t1, ?_, by omega, by omega, .tt, rfl, by simp [Fm.dep], by simp [okF, Fm.lets]⟩
      simp [eq_nil (flat_strs L), hi, e, hr, fmD]
    · obtain ⟨y, t2, e2, h4, h5, x, hx, rfl⟩ := pick_let (d := d) H C hL hl (s := ⟨t1, []⟩) (by simp; omega) (by simp; omega)
      refine ⟨fmD (.lt x), t2, ?_, by simp at h4 h5; omega, by simp at h4 h5; omega, .lt x, rfl, by simp [Fm.dep], by simpa [okF, Fm.lets] using hx⟩
      simp at e2
      simp [eq_nil (flat_strs L), hi, e, hr, fmD, e2]
/-- how many draws a formula takes at most -/
def kF : Nat → Nat
  | 0 => 3
  | n + 1 => 3 + 2 * kF n
theorem kF_ge (n : Nat) : 3 ≤ kF n := by cases n <;> simp [kF]
theorem c33 (H : HasD P) (C : Cap cap) {L : List Str} (hl : L.length ≤ 12) : ∀ (n d : Nat) (s : S), n + 2 ≤ d → Dr (kF n) s (callAt P cap d 33 [.d .stm, .d (.lst (L.map D.str)), .d (.int n)] s) (Fmd L n) := by
  intro n
  induction n with
  | zero =>
    intro d s hd h0 hk
    obtain ⟨d, rfl⟩ : ∃ e, d = e + 2 := ⟨d - 2, by omega⟩
    rw [call3 H.h33 _ _ _ rfl]
    simp only [kF] at hk ⊢
    obtain ⟨r, t, e, h1, h2, h3⟩ := draw_if C ⟨s.stm, []⟩ (m := 7) (by omega) (by omega) (by simp; omega)
    simp at e h3
    obtain ⟨y, t', e2, h4, h5, h6⟩ := leaf H C hl 0 d (.int 0) (.int r) t (by omega) (by omega)
    simp [f33, List.replicate, e, -bev_ite, e2]
    exact ⟨_, _, ⟨rfl, rfl⟩, by omega, by omega, h6⟩
  | succ n ih =>
    intro d s hd h0 hk
    obtain ⟨d, rfl⟩ : ∃ e, d = e + 3 := ⟨d - 3, by omega⟩
    rw [call3 H.h33 _ _ _ rfl]
    have hp := kF_ge n
    simp only [kF] at hk ⊢
    obtain ⟨r, t, e, h1, h2, h3⟩ := draw_if C ⟨s.stm, []⟩ (m := 7) (by omega) (by omega) (by simp at hk ⊢; omega)
    simp at e h3
    have hn0 : ¬((n : Int) + 1 = 0) := by omega
    cases hr : decide (r < 2)
    · by_cases hr2 : r = 2
      · obtain ⟨y, t', e2, h4, h5, f, rfl, h6, h7⟩ := ih (d + 2) ⟨t, []⟩ (by omega) (by simp; omega) (by simp; omega)
        simp at e2 h4 h5
        subst hr2
        simp [f33, List.replicate, e, -bev_ite, hn0, e2]
        exact ⟨_, _, ⟨rfl, rfl⟩, by omega, by omega, .neg f, rfl, by simpa [Fm.dep] using h6, h7⟩
      · obtain ⟨y, t2, e2, h4, h5, h6⟩ := c27 (d := d + 1) (s := ⟨t, []⟩) H.c C [.str wAnd, .str wAnd, .str wOr, .str wThen] (by simp) (by simp) (by simp; omega) (by simp; omega)
        obtain ⟨o, rfl⟩ : ∃ o : Bo, y = .str o.w := by
          simp at h6
          rcases h6 with rfl | rfl | rfl
          · exact ⟨.and, rfl⟩
          · exact ⟨.or, rfl⟩
          · exact ⟨.thn, rfl⟩
        simp at e2 h4 h5
        obtain ⟨y, t3, e3, h8, h9, f, rfl, h10, h11⟩ := ih (d + 2) ⟨t2, []⟩ (by omega) (by simp; omega) (by simp; omega)
        simp at e3 h8 h9
        obtain ⟨y, t4, e4, h12, h13, g, rfl, h14, h15⟩ := ih (d + 2) ⟨t3, []⟩ (by omega) (by simp; omega) (by simp; omega)
        simp at e4 h12 h13
        simp [f33, List.replicate, e, -bev_ite, hn0, hr, hr2, e2, e3, e4]
        refine ⟨_, _, ⟨rfl, rfl⟩, by omega, by omega, .bin o f g, rfl, by simp [Fm.dep]; omega, ?_⟩
        intro y hy
        simp [Fm.lets] at hy
        rcases hy with hy | hy
        · exact h11 y hy
        · exact h15 y hy
    · obtain ⟨y, t', e2, h4, h5, h6⟩ := leaf H C hl (n + 1) (d + 1) (.int (n + 1)) (.int r) t (by omega) (by omega)
      simp [f33, List.replicate, e, -bev_ite, hr, hn0, e2]
      exact ⟨_, _, ⟨rfl, rfl⟩, by omega, by omega, h6⟩
theorem atomF (H : HasD P) (C : Cap cap) {L : List Str} (hl : L.length ≤ 12) (d : Nat) (i : Int) (w2 w3 w4 w5 : Option W) (t : Stm) (h0 : 0 ≤ t.ct) (hk : t.ct + 1 < 1099511627776) : ∃ f t', cstep (gAt P cap (d + 1)) [4] (.ite (.cmp .ne (.var 1) (.lst .nil)) (.tup (.cons (.str wLet) (.cons (.call 27 (.cons (.var 0) (.cons (.var 1) .nil))) .nil))) (.tup (.cons (.str wTrue) .nil))) (.nm 4) [some (.d .stm), some (.d (.lst (L.map D.str))), w2, w3, w4, w5] (.int i) ⟨t, []⟩ = .ok (some (fmD f)) ⟨t', []⟩ ∧ t.ct ≤ t'.ct ∧ t'.ct ≤ t.ct + 1 ∧ f.dep = 0 ∧ okF L f := by
  by_cases hL : L = []
  · subst hL
    refine ⟨.tt, t, ?_, by omega, by omega, rfl, by simp [okF, Fm.lets]⟩
    simp [cstep, eq_nil (ys := []) rfl, fmD]
  · have hi : L.isEmpty = false := by cases L <;> simp at hL ⊢
    obtain ⟨y, t2, e2, h4, h5, x, hx, rfl⟩ := pick_let (d := d) H C hL hl (s := ⟨t, []⟩) (by simp; omega) (by simp; omega)
    simp at e2 h4 h5
    refine ⟨.lt x, t2, ?_, h4, h5, rfl, by simpa [okF, Fm.lets] using hx⟩
    simp [cstep, eq_nil (flat_strs L), hi, fmD, e2]
theorem c34 (H : HasD P) (C : Cap cap) {L : List Str} (hl : L.length ≤ 12) : Dr 3 s (callAt P cap (d + 2) 34 [.d .stm, .d (.lst (L.map D.str))] s) (Fmd L 1) := by
  intro h0 hk
  rw [call2 H.h34 _ _ rfl]
  obtain ⟨f, t1, e1, h1, h2, h3, h4⟩ := atomF H C hl d 0 none none none none s.stm h0 (by omega)
  obtain ⟨g, t2, e2, h5, h6, h7, h8⟩ := atomF H C hl d 1 none none none none t1 (by omega) (by omega)
  obtain ⟨r, t3, e3, h9, h10, h11⟩ := draw_if C ⟨t2, []⟩ (m := 5) (by omega) (by omega) (by simp; omega)
  simp at e3 h11
  simp [f34, List.replicate, compL, e1, e2, lim, e3]
  by_cases hr0 : r = 0
  · subst hr0; simp
    exact ⟨_, _, ⟨rfl, rfl⟩, by omega, by omega, .neg f, rfl, by simp [Fm.dep, h3], h4⟩
  · by_cases hr1 : r = 1
    · subst hr1; simp
      refine ⟨_, _, ⟨rfl, rfl⟩, by omega, by omega, .bin .and f g, rfl, by simp [Fm.dep, h3, h7], ?_⟩
      intro y hy
      simp [Fm.lets] at hy
      rcases hy with hy | hy
      · exact h4 y hy
      · exact h8 y hy
    · simp [hr0, hr1]
      exact ⟨_, _, ⟨rfl, rfl⟩, by omega, by omega, f, rfl, by omega, h4⟩
def sayD (p : Fm × Fm) : D := .tup [fmD p.1, fmD p.2]
def okS (L : List Str) (n : Nat) (p : Fm × Fm) : Prop := okF L p.1 ∧ okF L p.2 ∧ p.1.dep ≤ n ∧ p.2.dep ≤ n
theorem c35 (H : HasD P) (C : Cap cap) {L : List Str} (hl : L.length ≤ 12) (hd : 5 ≤ d) : Dr 43 s (callAt P cap d 35 [.d .stm, .d (.lst (L.map D.str))] s) fun y => ∃ p, y = sayD p ∧ okS L 2 p := by
  obtain ⟨d, rfl⟩ : ∃ e, d = e + 3 := ⟨d - 3, by omega⟩
  intro h0 hk
  rw [call2 H.h35 _ _ rfl]
  obtain ⟨r, t, e, h1, h2, h3⟩ := draw_if C ⟨s.stm, []⟩ (m := 3) (by omega) (by omega) (by simp; omega)
  simp at e h3
  cases hr : decide (0 < r)
  · obtain ⟨y, t1, e1, h4, h5, f, rfl, h6, h7⟩ := c33 H C hl 2 (d + 2) ⟨t, []⟩ (by omega) (by simp; omega) (by simp [kF]; omega)
    simp [kF] at e1 h4 h5
    obtain ⟨y, t2, e2, h8, h9, g, rfl, h10, h11⟩ := c33 H C hl 2 (d + 2) ⟨t1, []⟩ (by omega) (by simp; omega) (by simp [kF]; omega)
    simp [kF] at e2 h8 h9
    simp [f35, e, hr, e1, e2]
    exact ⟨_, _, ⟨rfl, rfl⟩, by omega, by omega, f, g, rfl, h7, h11, h6, h10⟩
  · obtain ⟨y, t1, e1, h4, h5, f, rfl, h6, h7⟩ := c34 (d := d) (s := ⟨t, []⟩) H C hl (by simp; omega) (by simp; omega)
    simp at e1 h4 h5
    obtain ⟨y, t2, e2, h8, h9, g, rfl, h10, h11⟩ := c34 (d := d) (s := ⟨t1, []⟩) H C hl (by simp; omega) (by simp; omega)
    simp at e2 h8 h9
    simp [f35, e, hr, e1, e2]
    exact ⟨_, _, ⟨rfl, rfl⟩, by omega, by omega, f, g, rfl, h7, h11, Nat.le_trans h6 (by omega), Nat.le_trans h10 (by omega)⟩
end Us
end

section
set_option linter.all false
set_option maxRecDepth 100000
/-! Us.B15: drawn books. -/
namespace Us
open PySem (Str)
variable {P : Prg} {cap : Int → Bool} {d : Nat} {s : S}
def b36_1 : St := (.asg (.nm 2) (.upto (.lst (.cons (.str (sx [98])) (.cons (.str (sx [98, 101])) (.cons (.str (sx [112, 101, 110])) (.cons (.str (sx [114, 101, 100])) .nil))))) (.draw (.var 0) (.bin .add (.var 1) (.int 1)))))
def b36_2 : St := (.asg (.nm 3) (.comp [4] (.call 35 (.cons (.var 0) (.cons (.var 2) .nil))) (.nm 4) (.rng (.draw (.var 0) (.int 7)))))
def b36_3 : St := (.ite (.and (.cmp .gt (.bi .len (.var 2)) (.int 2)) (.one (.cmp .eq (.draw (.var 0) (.int 3)) (.int 0)))) [(.asg (.tp [(.nm 5), (.nm 6), (.nm 7)]) (.comp [8] (.tup (.cons (.str (sx [108, 101, 116, 116, 101, 114])) (.cons (.var 8) .nil))) (.nm 8) (.e (.upto (.var 2) (.int 3))))),
      (.asg (.nm 3) (.bin .add (.lst (.cons (.tup (.cons (.var 5) (.cons (.var 6) .nil))) (.cons (.tup (.cons (.var 7) (.cons (.var 5) .nil))) (.cons (.tup (.cons (.var 7) (.cons (.tup (.cons (.str (sx [110, 111, 116])) (.cons (.var 6) .nil))) .nil))) .nil)))) (.upto (.var 3) (.draw (.var 0) (.int 3)))))] [])
def b36_4 : St := (.ite (.and (.cmp .ne (.var 3) (.lst .nil)) (.one (.cmp .eq (.draw (.var 0) (.int 4)) (.int 0)))) [(.asg (.tp [(.nm 5), (.nm 9)]) (.call 27 (.cons (.var 0) (.cons (.var 3) .nil)))),
      (.asg (.nm 3) (.bin .add (.var 3) (.lst (.cons (.tup (.cons (.var 5) (.cons (.tup (.cons (.str (sx [110, 111, 116])) (.cons (.var 9) .nil))) .nil))) .nil))))] [])
def b36_5 : St := (.ret (.tup (.cons (.var 2) (.cons (.call 28 (.cons (.var 0) (.cons (.var 3) .nil))) .nil))))
theorem f36_body : f36.body = [b36_1, b36_2, b36_3, b36_4, b36_5] := rfl
theorem upto_l (xs : List D) (k : Nat) : sliD (.lst xs) none (some (.int k)) = some (.lst (xs.take k)) := by
  simp [sliD, bound, cutL]

theorem from_l (xs : List D) (k : Nat) : sliD (.lst xs) (some (.int k)) none = some (.lst (xs.drop k)) := by
  simp [sliD, bound, cutL]
def LS : List Str := [sx [98], sx [98, 101], sx [112, 101, 110], sx [114, 101, 100]]
def bookD (L : List Str) (ps : List (Fm × Fm)) : D := .tup [.lst (L.map D.str), .lst (ps.map sayD)]
theorem gather {R : Fm × Fm → Prop} {ys : List D} (h : ∀ y ∈ ys, ∃ p, y = sayD p ∧ R p) : ∃ ps : List (Fm × Fm), ys = ps.map sayD ∧ ps.length = ys.length ∧ ∀ p ∈ ps, R p := by
  induction ys with
  | nil => exact ⟨[], rfl, rfl, by simp⟩
  | cons y ys ih =>
    obtain ⟨p, rfl, hp⟩ := h y (by simp)
    obtain ⟨ps, rfl, hl, hps⟩ := ih fun y hy => h y (by simp [hy])
    exact ⟨p :: ps, rfl, by simp, by intro q hq; rcases List.mem_cons.mp hq with rfl | hq; exact hp; exact hps q hq⟩
structure HasK (P : Prg) : Prop where
  d : HasD P
  h36 : P.fn 36 = some f36
theorem s36_1 (C : Cap cap) (t : Stm) (h0 : 0 ≤ t.ct) (hk : t.ct + 1 < 1099511627776) : ∃ (r : Nat) (t' : Stm), r ≤ 3 ∧ ex (gAt P cap d) b36_1 [some (.d .stm), some (.d (.int 3)), none, none, none, none, none, none, none, none] ⟨t, []⟩ = .nx [some (.d .stm), some (.d (.int 3)), some (.d (.lst ((LS.take r).map D.str))), none, none, none, none, none, none, none] ⟨t', []⟩ ∧ t'.ct = t.ct + 1 := by
  obtain ⟨r, t1, e, h1, h2, h3⟩ := draw_if C ⟨t, []⟩ (m := 4) (by omega) (by omega) (by simp; omega)
  simp at e h3
  obtain ⟨k, rfl⟩ : ∃ k : Nat, r = k := ⟨r.toNat, by omega⟩
  refine ⟨k, t1, by omega, ?_, h3⟩
  simp [b36_1, e, upto_l, LS, List.map_take]
theorem s36_2 (H : HasK P) (C : Cap cap) {L : List Str} (hl : L.length ≤ 12) (t : Stm) (h0 : 0 ≤ t.ct) (hk : t.ct + 300 < 1099511627776) : ∃ (ps : List (Fm × Fm)) (t' : Stm), ex (gAt P cap (d + 5)) b36_2 [some (.d .stm), some (.d (.int 3)), some (.d (.lst (L.map D.str))), none, none, none, none, none, none, none] ⟨t, []⟩ = .nx [some (.d .stm), some (.d (.int 3)), some (.d (.lst (L.map D.str))), some (.d (.lst (ps.map sayD))), none, none, none, none, none, none] ⟨t', []⟩ ∧ t.ct ≤ t'.ct ∧ t'.ct ≤ t.ct + 300 ∧ ps.length ≤ 6 ∧ ∀ p ∈ ps, okS L 2 p := by
  obtain ⟨r, t1, e, h1, h2, h3⟩ := draw_if C ⟨t, []⟩ (m := 7) (by omega) (by omega) (by simp; omega)
  simp at e h3
  obtain ⟨k, rfl⟩ : ∃ k : Nat, r = k := ⟨r.toNat, by omega⟩
  have hk7 : k ≤ 6 := by omega
  have hsum : ((rangeD 0 k).map fun _ => 43).sum = 43 * k := by
    have : ∀ l : List D, (l.map fun _ => 43).sum = 43 * l.length := by intro l; induction l <;> simp [*]; omega
    rw [this]; simp [rangeD]
  obtain ⟨y, t2, e2, h4, h5, ys, rfl, h6⟩ := compL_dr (g := cstep (gAt P cap (d + 5)) [4] (.call 35 (.cons (.var 0) (.cons (.var 2) .nil))) (.nm 4) [some (.d .stm), some (.d (.int 3)), some (.d (.lst (L.map D.str))), none, none, none, none, none, none, none]) (fun y => y) (fun _ => 43) (fun _ y => ∃ p, y = sayD p ∧ okS L 2 p) (rangeD 0 k) [] ⟨t1, []⟩ (by
    intro a ha s hs h0 hk
    obtain ⟨y, t, e, h1, h2, p, rfl, hp⟩ := c35 (d := d + 5) (s := s) H.d C hl (by omega) h0 hk
    exact ⟨_, t, by simp [cstep, e], h1, h2, _, rfl, p, rfl, hp⟩) (by simp [rangeD, lim]; omega) rfl (by simp; omega) (by rw [hsum]; simp; omega)
  rw [hsum] at h5
  simp at h4 h5 e2
  obtain ⟨ps, rfl, hpl, hps⟩ := gather (R := okS L 2) (fun y hy => (h6.right y hy).elim fun a ha => ha.2)
  have hlen := h6.len
  simp [rangeD] at hlen
  refine ⟨ps, t2, ?_, by omega, by omega, by omega, hps⟩
  have hk' : k < 16777216 := by omega
  simp [b36_2, e, hk', e2]
theorem s36_3 (C : Cap cap) (r : Nat) (hr : r ≤ 3) (ps : List (Fm × Fm)) (hps : ∀ p ∈ ps, okS (LS.take r) 2 p) (hpl : ps.length ≤ 6) (t : Stm) (h0 : 0 ≤ t.ct) (hk : t.ct + 2 < 1099511627776) : ∃ (qs : List (Fm × Fm)) (w4 w5 w6 w7 w8 : Option W) (t' : Stm), ex (gAt P cap d) b36_3 [some (.d .stm), some (.d (.int 3)), some (.d (.lst ((LS.take r).map D.str))), some (.d (.lst (ps.map sayD))), none, none, none, none, none, none] ⟨t, []⟩ = .nx [some (.d .stm), some (.d (.int 3)), some (.d (.lst ((LS.take r).map D.str))), some (.d (.lst (qs.map sayD))), w4, w5, w6, w7, w8, none] ⟨t', []⟩ ∧ t.ct ≤ t'.ct ∧ t'.ct ≤ t.ct + 2 ∧ qs.length ≤ 6 ∧ ∀ p ∈ qs, okS (LS.take r) 2 p := by
  by_cases h3 : r = 3
  · subst h3
    obtain ⟨a, t1, e, h1, h2, h3⟩ := draw_if C ⟨t, []⟩ (m := 3) (by omega) (by omega) (by simp; omega)
    simp at e h3
    by_cases ha : a = 0
    · subst ha
      obtain ⟨b, t2, e2, h4, h5, h6⟩ := draw_if C ⟨t1, []⟩ (m := 3) (by omega) (by omega) (by simp; omega)
      simp at e2 h6
      obtain ⟨k, rfl⟩ : ∃ k : Nat, b = k := ⟨b.toNat, by omega⟩
      have hle : ps.length ≤ lim := by simp only [lim]; omega
      have hle3 : 3 + min k ps.length ≤ 16777216 := by omega
      have u3 := upto_l ((LS.take 3).map D.str) 3
      simp [LS] at u3
      refine ⟨[(.lt (sx [98]), .lt (sx [98, 101])), (.lt (sx [112, 101, 110]), .lt (sx [98])), (.lt (sx [112, 101, 110]), .neg (.lt (sx [98, 101])))] ++ ps.take k, none, some (.d (fmD (.lt (sx [98])))), some (.d (fmD (.lt (sx [98, 101])))), some (.d (fmD (.lt (sx [112, 101, 110])))), none, t2, ?_, by omega, by omega, by simp; omega, ?_⟩
      · simp [b36_3, LS, e, u3, compL, cstep, lim, e2, upto_l, hle3, List.map_take, sayD, fmD]
      · intro p hp
        simp at hp
        rcases hp with rfl | rfl | rfl | hp
        · simp [okS, okF, Fm.lets, Fm.dep, LS]
        · simp [okS, okF, Fm.lets, Fm.dep, LS]
        · simp [okS, okF, Fm.lets, Fm.dep, LS]
        · exact hps p (List.mem_of_mem_take hp)
    · refine ⟨ps, none, none, none, none, none, t1, ?_, by omega, by omega, hpl, hps⟩
      simp [b36_3, LS, e, ha]
  · refine ⟨ps, none, none, none, none, none, t, ?_, by omega, by omega, hpl, hps⟩
    have : r = 0 ∨ r = 1 ∨ r = 2 := by omega
    rcases this with rfl | rfl | rfl <;> simp [b36_3, LS]
theorem okF_neg {L : List Str} {f : Fm} (h : okF L f) : okF L (.neg f) := h
theorem okS_mono {L : List Str} {n m : Nat} {p : Fm × Fm} (h : okS L n p) (hm : n ≤ m) : okS L m p := ⟨h.1, h.2.1, Nat.le_trans h.2.2.1 hm, Nat.le_trans h.2.2.2 hm⟩
theorem flat_fm : ∀ f : Fm, (fmD f).flatK = true := by intro f; induction f <;> simp [fmD, D.flatK, D.flatKs, *]
theorem flat_says (ps : List (Fm × Fm)) : D.flatKs (ps.map sayD) = true := by induction ps <;> simp [D.flatKs, sayD, D.flatK, flat_fm, *]
theorem s36_4 (H : HasK P) (C : Cap cap) {L : List Str} (ps : List (Fm × Fm)) (hps : ∀ p ∈ ps, okS L 2 p) (hpl : ps.length ≤ 6) (w4 w5 w6 w7 w8 : Option W) (t : Stm) (h0 : 0 ≤ t.ct) (hk : t.ct + 2 < 1099511627776) : ∃ (qs : List (Fm × Fm)) (v5 w9 : Option W) (t' : Stm), ex (gAt P cap (d + 5)) b36_4 [some (.d .stm), some (.d (.int 3)), some (.d (.lst (L.map D.str))), some (.d (.lst (ps.map sayD))), w4, w5, w6, w7, w8, none] ⟨t, []⟩ = .nx [some (.d .stm), some (.d (.int 3)), some (.d (.lst (L.map D.str))), some (.d (.lst (qs.map sayD))), w4, v5, w6, w7, w8, w9] ⟨t', []⟩ ∧ t.ct ≤ t'.ct ∧ t'.ct ≤ t.ct + 2 ∧ qs.length ≤ 7 ∧ ∀ p ∈ qs, okS L 3 p := by
  have up : ∀ p ∈ ps, okS L 3 p := fun p hp => okS_mono (hps p hp) (by omega)
  by_cases he : ps = []
  · subst he
    refine ⟨[], w5, none, t, ?_, by omega, by omega, by simp, by simp⟩
    simp [b36_4, eq_nil (ys := []) rfl]
  · have hi : ps.isEmpty = false := by cases ps <;> simp at he ⊢
    obtain ⟨r, t1, e, h1, h2, h3⟩ := draw_if C ⟨t, []⟩ (m := 4) (by omega) (by omega) (by simp; omega)
    simp at e h3
    by_cases hr : r = 0
    · subst hr
      obtain ⟨y, t2, e2, h4, h5, h6⟩ := c27 (d := d + 4) (s := ⟨t1, []⟩) H.d.c C (ps.map sayD) (by simpa using he) (by simp; omega) (by simp; omega) (by simp; omega)
      simp only [List.mem_map] at h6
      obtain ⟨p, hp, rfl⟩ := h6
      simp at e2 h4 h5
      have hl : ps.length + 1 ≤ lim := by simp only [lim]; omega
      refine ⟨ps ++ [(p.1, .neg p.2)], some (.d (fmD p.1)), some (.d (fmD p.2)), t2, ?_, by omega, by omega, by simp; omega, ?_⟩
      · simp [b36_4, eq_nil (flat_says ps), hi, e, e2, sayD, hl, fmD]

      · intro q hq
        simp at hq
        rcases hq with hq | rfl
        · exact up q hq
        · obtain ⟨a, b, c, d⟩ := hps p hp
          exact ⟨a, b, Nat.le_trans c (by omega), by simpa [Fm.dep] using d⟩
    · refine ⟨ps, w5, none, t1, ?_, by omega, by omega, by omega, up⟩
      simp [b36_4, eq_nil (flat_says ps), hi, e, hr]
/-- a drawn book -/
structure Bk (L : List Str) (ps : List (Fm × Fm)) : Prop where
  ll : LetL L
  lo : LetOk L
  ln : L.length ≤ 3
  pn : ps.length ≤ 7
  ok : ∀ p ∈ ps, okS L 3 p
  sub : ∀ y ∈ L, y ∈ LS
theorem LS_ok : ∀ r, r ≤ 3 → LetL (LS.take r) ∧ LetOk (LS.take r) ∧ (LS.take r).length ≤ 3 := by
  intro r hr
  have : r = 0 ∨ r = 1 ∨ r = 2 ∨ r = 3 := by omega
  rcases this with rfl | rfl | rfl | rfl <;> exact ⟨by unfold LetL; decide, by unfold LetOk; decide, by decide⟩
theorem c36 (H : HasK P) (C : Cap cap) (hd : 6 ≤ d) : Dr 400 s (callAt P cap d 36 [.d .stm, .d (.int 3)] s) fun y => ∃ L ps, y = bookD L ps ∧ Bk L ps := by
  obtain ⟨d, rfl⟩ : ∃ e, d = e + 6 := ⟨d - 6, by omega⟩
  intro h0 hk
  rw [call2 H.h36 _ _ rfl, f36_body]
  obtain ⟨r, t1, hr, e1, h1⟩ := s36_1 (P := P) (d := d + 5) C s.stm h0 (by omega)
  obtain ⟨q1, q2, q3⟩ := LS_ok r hr
  obtain ⟨ps, t2, e2, h2, h3, h4, h5⟩ := s36_2 (d := d) H C (L := LS.take r) (by omega) t1 (by omega) (by omega)
  obtain ⟨qs, w4, w5, w6, w7, w8, t3, e3, h6, h7, h8, h9⟩ := s36_3 (P := P) (d := d + 5) C r hr ps h5 h4 t2 (by omega) (by omega)
  obtain ⟨us, w5', w9, t4, e4, h10, h11, h12, h13⟩ := s36_4 (d := d) H C (L := LS.take r) qs h9 h8 w4 w5 w6 w7 w8 t3 (by omega) (by omega)
  obtain ⟨y, t5, e5, h14, h15, ys, rfl, h16⟩ := c28 (d := d + 4) (s := ⟨t4, []⟩) H.d.c C (us.map sayD) (by simp; omega) (by simp; omega) (by simp; omega)
  simp at e5 h14 h15
  obtain ⟨vs, rfl, hv, hvs⟩ := gather (R := okS (LS.take r) 3) (ys := ys) (by
    intro y hy
    have := h16.mem_iff.mp hy
    simp only [List.mem_map] at this
    obtain ⟨p, hp, rfl⟩ := this
    exact ⟨p, rfl, h13 p hp⟩)
  have hvl : vs.length ≤ 7 := by have := h16.length_eq; simp at this; omega
  obtain ⟨L, hL⟩ : ∃ L, L = LS.take r := ⟨_, rfl⟩
  rw [← hL] at e1 e2 e3 e4 q1 q2 q3 hvs
  simp [List.replicate, f36, e1, e2, e3, e4]
  simp [b36_5, e5]
  exact ⟨_, t5, ⟨rfl, rfl⟩, by omega, by omega, L, vs, rfl, q1, q2, q3, hvl, hvs, fun y hy => List.mem_of_mem_take (hL ▸ hy)⟩
end Us
end

section
set_option linter.all false
set_option maxRecDepth 100000
/-! Us.B16: layers and least ranks, as the law tells them. -/
namespace Us
open PySem (Str)
variable {P : Prg} {cap : Int → Bool} {d : Nat} {s : S}
def nD (k : Nat) : D := .int k
def nsD (ks : List Nat) : D := .lst (ks.map nD)
def at_ (ps : List (Fm × Fm)) (k : Nat) : Fm × Fm := ps.getD k (.tt, .tt)
/-- the worlds in which none of the left ones is broken -/
def goodW (ws : List (List Str)) (ps : List (Fm × Fm)) (left : List Nat) : List (List Str) := ws.filter fun w => !(left.any fun k => broken w (at_ ps k))
/-- those of the left ones that are met in some of these -/
def layerW (ws : List (List Str)) (ps : List (Fm × Fm)) (left : List Nat) : List Nat := left.filter fun k => (goodW ws ps left).any fun w => met w (at_ ps k)
def layW (ws : List (List Str)) (ps : List (Fm × Fm)) : Nat → List (List Nat) → List Nat → List (List Nat) × List Nat
  | 0, found, left => (found, left)
  | n + 1, found, left => if layerW ws ps left = [] then (found, left) else layW ws ps n (found ++ [layerW ws ps left]) (left.filter fun k => decide (k ∉ layerW ws ps left))
def layers (ws : List (List Str)) (ps : List (Fm × Fm)) : List (List Nat) × List Nat := layW ws ps (ps.length + 1) [] (List.range ps.length)
theorem flat_ns (ks : List Nat) : D.flatKs (ks.map nD) = true := by induction ks <;> simp [D.flatKs, nD, D.flatK, *]
theorem mem_ns (k : Nat) (ks : List Nat) : memD (.int k) (nsD ks) = some (decide (k ∈ ks)) := by
  have h2 : ∀ ks : List Nat, ((ks.map nD).any fun z => z.eqv (.int k)) = decide (k ∈ ks) := by
    intro ks; induction ks with
    | nil => rfl
    | cons y L ih =>
      simp only [List.map_cons, List.any_cons, ih]
      have : ((y : Int) = k) ↔ k = y := by omega
      simp [D.eqv, nD, this]
  simp only [memD, nsD]; rw [flat_ns, h2]; simp [D.flatK, D.depth]
/-- a list of sayings handed about -/
structure SayL (x : D) (ps : List (Fm × Fm)) (n : Nat) : Prop where
  seq : ∃ xs, seqD x = some xs ∧ Says xs ps
  len : ps.length ≤ 4096
  dep : ∀ p ∈ ps, sdep p ≤ n
theorem SayL.get {x : D} {ps : List (Fm × Fm)} {n : Nat} (h : SayL x ps n) {k : Nat} (hk : k < ps.length) : ∃ y, idxD x (.int k) = some y ∧ toSay y = some (at_ ps k) ∧ sdep (at_ ps k) ≤ n := by
  obtain ⟨xs, e, hs⟩ := h.seq
  have hl : xs.length = ps.length := by have := congrArg List.length hs; simpa using this
  have hx : xs[k]? = some xs[k] := List.getElem?_eq_getElem (by omega)
  obtain ⟨p, hp, ht, hm⟩ := says_get hs hx
  have : at_ ps k = p := by simp [at_, List.getD_eq_getElem?_getD, hp]
  exact ⟨_, idx_seq e k _ hx, by rw [this]; exact ht, by rw [this]; exact h.dep p hm⟩
theorem SayL.len_eq {x : D} {ps : List (Fm × Fm)} {n : Nat} (h : SayL x ps n) : biD .len x = some (.int ps.length) := by
  obtain ⟨xs, e, hs⟩ := h.seq
  have hl : xs.length = ps.length := by have := congrArg List.length hs; simpa using this
  rw [len_seq e, hl]
/-- `any([f(sayings[k], world) for k in ks])` -/
theorem any_ks {g : D → S → R (Option D)} (f : Nat → Bool) (ks : List Nat) (hl : ks.length ≤ 4096) (h : ∀ k ∈ ks, g (nD k) s = .ok (some (.bl (f k))) s) : compL g (ks.map nD) [] s = .ok (.lst (ks.map fun k => .bl (f k))) s :=
  compL_mapOf nD (fun k => .bl (f k)) h (by simp only [lim]; omega)
theorem layW_len (ws : List (List Str)) (ps : List (Fm × Fm)) (left : List Nat) (h : layerW ws ps left ≠ []) : (left.filter fun k => decide (k ∉ layerW ws ps left)).length < left.length := by
  obtain ⟨k, hk⟩ := List.exists_mem_of_ne_nil _ h
  have hk2 : k ∈ left := (List.mem_filter.mp hk).1
  refine List.length_filter_lt_length_iff_exists.mpr ⟨k, hk2, by simpa using hk⟩
structure HasY (P : Prg) : Prop where
  r : HasLR P
  h48 : P.fn 48 = some f48
  h49 : P.fn 49 = some f49
def b48_1 : St := (.asg (.tp [(.nm 2), (.nm 3), (.nm 4)]) (.tup (.cons (.listr (.bi .len (.var 1))) (.cons (.lst .nil) (.cons (.call 38 (.cons (.var 0) .nil)) .nil)))))
def b48_2 : St := (.while_ (.bl true) [(.asg (.nm 5) (.compIf [6] (.var 6) (.nm 6) (.e (.var 4)) (.not (.bi .any (.comp [7] (.call 44 (.cons (.idx (.var 1) (.var 7)) (.cons (.var 6) .nil))) (.nm 7) (.e (.var 2))))))),
      (.asg (.nm 8) (.compIf [7] (.var 7) (.nm 7) (.e (.var 2)) (.bi .any (.comp [6] (.call 43 (.cons (.idx (.var 1) (.var 7)) (.cons (.var 6) .nil))) (.nm 6) (.e (.var 5)))))),
      (.ite (.cmp .eq (.var 8) (.lst .nil)) [(.ret (.tup (.cons (.var 3) (.cons (.var 2) .nil))))] []),
      (.asg (.tp [(.nm 3), (.nm 2)]) (.tup (.cons (.bin .add (.var 3) (.lst (.cons (.var 8) .nil))) (.cons (.compIf [7] (.var 7) (.nm 7) (.e (.var 2)) (.cmp .notmem (.var 7) (.var 8))) .nil))))])
theorem f48_body : f48.body = [b48_1, b48_2] := rfl
def b49_1 : St := (.asg (.tp [(.nm 2), (.nm 3)]) (.call 48 (.cons (.var 0) (.cons (.var 1) .nil))))
def b49_2 : St := (.new 4 (.lst .nil))
def b49_3 : St := (.for_ (.nm 5) (.e (.call 38 (.cons (.var 0) .nil))) [(.asg (.nm 6) (.bin .add (.lst (.cons (.int 0) .nil)) (.compIf [7, 8] (.bin .add (.var 7) (.int 1)) (.tp [(.nm 7), (.nm 8)]) (.enum (.var 2)) (.bi .any (.comp [9] (.call 44 (.cons (.idx (.var 1) (.var 9)) (.cons (.var 5) .nil))) (.nm 9) (.e (.var 8))))))),
      (.expr (.mut .append 4 (.cons (.ite (.bi .any (.comp [9] (.call 44 (.cons (.idx (.var 1) (.var 9)) (.cons (.var 5) .nil))) (.nm 9) (.e (.var 3)))) .non (.bi .max (.var 6))) .nil)))])
def b49_4 : St := (.ret (.var 4))
theorem f49_body : f49.body = [b49_1, b49_2, b49_3, b49_4] := rfl
def b48_w : List St := match b48_2 with
  | .while_ _ b => b
  | _ => []
theorem fm_filter {α β : Type} (p : α → Bool) (f : α → β) (l : List α) : l.filterMap (fun a => if p a = true then some (f a) else none) = (l.filter p).map f := by
  induction l with
  | nil => rfl
  | cons a l ih => cases h : p a <;> simp [List.filterMap_cons, List.filter_cons, h, ih]
theorem lay_step (H : HasY P) {l x : D} {ps : List (Fm × Fm)} {n : Nat} (hx : SayL x ps n) (hd : n + 2 ≤ d) (ws : List (List Str)) (hw : ws.length ≤ 4096) (found : List (List Nat)) (left : List Nat) (hl : ∀ k ∈ left, k < ps.length) (hll : left.length ≤ 4096) (hf : found.length ≤ 4096) (w5 w6 w7 w8 : Option W) :
    ∃ v5 v8 : Option W, exs (gAt P cap d) b48_w [some (.d l), some (.d x), some (.d (nsD left)), some (.d (.lst (found.map nsD))), some (.d (.lst (ws.map wD))), w5, w6, w7, w8] s =
      if layerW ws ps left = [] then .rt (.tup [.lst (found.map nsD), nsD left]) s
      else .nx [some (.d l), some (.d x), some (.d (nsD (left.filter fun k => decide (k ∉ layerW ws ps left)))), some (.d (.lst ((found ++ [layerW ws ps left]).map nsD))), some (.d (.lst (ws.map wD))), v5, w6, w7, v8] s := by
  have F := H.r.l
  have hbr : ∀ (k : Nat), k ∈ left → ∃ y, idxD x (.int k) = some y ∧ (∀ w s, callAt P cap d 44 [.d y, .d (wD w)] s = .ok (.bl (broken w (at_ ps k))) s) ∧ (∀ w s, callAt P cap d 43 [.d y, .d (wD w)] s = .ok (.bl (met w (at_ ps k))) s) := by
    intro k hk
    obtain ⟨y, h1, h2, h3⟩ := hx.get (hl k hk)
    exact ⟨y, h1, fun w s => c44 F h2 rfl (by omega), fun w s => c43 F h2 rfl (by omega)⟩
  have k1 : ∀ e8 s, compL (cstepIf (gAt P cap d) [6] (.var 6) (.nm 6) (.not (.bi .any (.comp [7] (.call 44 (.cons (.idx (.var 1) (.var 7)) (.cons (.var 6) .nil))) (.nm 7) (.e (.var 2))))) [some (.d l), some (.d x), some (.d (nsD left)), some (.d (.lst (found.map nsD))), some (.d (.lst (ws.map wD))), w5, w6, w7, e8]) (ws.map wD) [] s = .ok (.lst ((goodW ws ps left).map wD)) s := by
    intro e8 s
    rw [compL_fmOf (g := cstepIf (gAt P cap d) [6] (.var 6) (.nm 6) (.not (.bi .any (.comp [7] (.call 44 (.cons (.idx (.var 1) (.var 7)) (.cons (.var 6) .nil))) (.nm 7) (.e (.var 2))))) [some (.d l), some (.d x), some (.d (nsD left)), some (.d (.lst (found.map nsD))), some (.d (.lst (ws.map wD))), w5, w6, w7, e8]) wD (fun w => if (!(left.any fun k => broken w (at_ ps k))) = true then some (wD w) else none) ?_ (by simp only [lim]; omega)]
    · unfold goodW
      rw [fm_filter]
    · intro w hw
      simp [cstepIf, nsD]
      rw [any_ks (fun k => broken w (at_ ps k)) left hll (by
        intro k hk
        obtain ⟨y, h1, h2, h3⟩ := hbr k hk
        simp [cstep, nD, h1, h2])]
      simp [anyBl_map]
      split <;> simp_all
  have hgl : (goodW ws ps left).length ≤ 4096 := Nat.le_trans (List.length_filter_le _ _) hw
  have hly : (layerW ws ps left).length ≤ 4096 := Nat.le_trans (List.length_filter_le _ _) hll
  have k2 : ∀ e8 s, compL (cstepIf (gAt P cap d) [7] (.var 7) (.nm 7) (.bi .any (.comp [6] (.call 43 (.cons (.idx (.var 1) (.var 7)) (.cons (.var 6) .nil))) (.nm 6) (.e (.var 5)))) [some (.d l), some (.d x), some (.d (nsD left)), some (.d (.lst (found.map nsD))), some (.d (.lst (ws.map wD))), some (.d (.lst ((goodW ws ps left).map wD))), w6, w7, e8]) (left.map nD) [] s = .ok (.lst ((layerW ws ps left).map nD)) s := by
    intro e8 s
    rw [compL_fmOf (g := cstepIf (gAt P cap d) [7] (.var 7) (.nm 7) (.bi .any (.comp [6] (.call 43 (.cons (.idx (.var 1) (.var 7)) (.cons (.var 6) .nil))) (.nm 6) (.e (.var 5)))) [some (.d l), some (.d x), some (.d (nsD left)), some (.d (.lst (found.map nsD))), some (.d (.lst (ws.map wD))), some (.d (.lst ((goodW ws ps left).map wD))), w6, w7, e8]) nD (fun k => if ((goodW ws ps left).any fun w => met w (at_ ps k)) = true then some (nD k) else none) ?_ (by simp only [lim]; omega)]
    · unfold layerW
      rw [fm_filter]
    · intro k hk
      obtain ⟨y, h1, h2, h3⟩ := hbr k hk
      simp [cstepIf]
      rw [compL_mapOf wD (fun w => .bl (met w (at_ ps k))) (by
        intro w hw
        simp [cstep, nD, h1, h3]) (by simp only [lim]; omega)]
      simp [anyBl_map]
      split <;> simp_all
  have k3 : ∀ e7 s, compL (cstepIf (gAt P cap d) [7] (.var 7) (.nm 7) (.cmp .notmem (.var 7) (.var 8)) [some (.d l), some (.d x), some (.d (nsD left)), some (.d (.lst (found.map nsD))), some (.d (.lst (ws.map wD))), some (.d (.lst ((goodW ws ps left).map wD))), w6, e7, some (.d (nsD (layerW ws ps left)))]) (left.map nD) [] s = .ok (.lst ((left.filter fun k => decide (k ∉ layerW ws ps left)).map nD)) s := by
    intro e7 s
    rw [compL_fmOf (g := cstepIf (gAt P cap d) [7] (.var 7) (.nm 7) (.cmp .notmem (.var 7) (.var 8)) [some (.d l), some (.d x), some (.d (nsD left)), some (.d (.lst (found.map nsD))), some (.d (.lst (ws.map wD))), some (.d (.lst ((goodW ws ps left).map wD))), w6, e7, some (.d (nsD (layerW ws ps left)))]) nD (fun k => if decide (k ∉ layerW ws ps left) = true then some (nD k) else none) ?_ (by simp only [lim]; omega)]
    · rw [fm_filter]
    · intro k hk
      simp [cstepIf, nD, mem_ns]
      by_cases h : k ∈ layerW ws ps left <;> simp [h]
  have hfl : found.length + 1 ≤ lim := by simp only [lim]; omega
  refine ⟨some (.d (.lst ((goodW ws ps left).map wD))), some (.d (nsD (layerW ws ps left))), ?_⟩
  simp only [nsD] at k1 k2 k3
  by_cases he : layerW ws ps left = []
  · simp [b48_w, b48_2, nsD, k1, k2, he, eq_nil (ys := []) rfl]
  · have hi : (layerW ws ps left).isEmpty = false := by cases h : layerW ws ps left <;> simp [h] at he ⊢
    simp at k3
    simp [b48_w, b48_2, nsD, k1, k2, he, eq_nil (flat_ns _), hi, hfl, k3]
theorem lay_loop (H : HasY P) {l x : D} {ps : List (Fm × Fm)} {n : Nat} (hx : SayL x ps n) (hd : n + 2 ≤ d) (ws : List (List Str)) (hw : ws.length ≤ 4096) (w6 w7 : Option W) : ∀ (m : Nat) (found : List (List Nat)) (left : List Nat) (w5 w8 : Option W) (N : Nat), left.length ≤ m → (∀ k ∈ left, k < ps.length) → m + found.length ≤ 4096 → m + 1 ≤ N →
    whileL (ev (gAt P cap d) (.bl true)) (exs (gAt P cap d) b48_w) N [some (.d l), some (.d x), some (.d (nsD left)), some (.d (.lst (found.map nsD))), some (.d (.lst (ws.map wD))), w5, w6, w7, w8] s = .rt (.tup [.lst ((layW ws ps (m + 1) found left).1.map nsD), nsD (layW ws ps (m + 1) found left).2]) s := by
  intro m
  induction m with
  | zero =>
    intro found left w5 w8 N hl hk hm hN
    obtain ⟨N, rfl⟩ : ∃ e, N = e + 1 := ⟨N - 1, by omega⟩
    obtain rfl := List.eq_nil_of_length_eq_zero (by omega : left.length = 0)
    obtain ⟨v5, v8, e⟩ := lay_step (cap := cap) (s := s) (l := l) H hx hd ws hw found [] (by simp) (by simp) (by omega) w5 w6 w7 w8
    have : layerW ws ps [] = [] := rfl
    simp [whileL, e, layW, this]
  | succ m ih =>
    intro found left w5 w8 N hl hk hm hN
    obtain ⟨N, rfl⟩ : ∃ e, N = e + 1 := ⟨N - 1, by omega⟩
    obtain ⟨v5, v8, e⟩ := lay_step (cap := cap) (s := s) (l := l) H hx hd ws hw found left hk (by omega) (by omega) w5 w6 w7 w8
    by_cases he : layerW ws ps left = []
    · simp [whileL, e, layW, he]
    · have hlt := layW_len ws ps left he
      simp only [he, if_false] at e
      rw [layW]
      simp only [he, if_false]
      rw [← ih (found ++ [layerW ws ps left]) _ v5 v8 N (by omega) (fun k hk' => hk k (List.mem_filter.mp hk').1) (by simp; omega) (by omega)]
      simp only [whileL, ev_bl, st_ok, view_d, e]
theorem c48 (H : HasY P) {l x : D} {L : List Str} {ps : List (Fm × Fm)} {n : Nat} (hl : seqD l = some (L.map D.str)) (hn : L.length ≤ 12) (hx : SayL x ps n) (hp : ps.length ≤ 2000) (hd : n + 3 ≤ d) (hd2 : 2 ≤ d) : callAt P cap d 48 [.d l, .d x] s = .ok (.tup [.lst ((layers (wlds L) ps).1.map nsD), nsD (layers (wlds L) ps).2]) s := by
  obtain ⟨d, rfl⟩ : ∃ e, d = e + 2 := ⟨d - 2, by omega⟩
  rw [call2 H.h48 _ _ rfl]
  have hwl : (wlds L).length ≤ 4096 := by rw [wlds_len]; exact Nat.pow_le_pow_right (show 2 > 0 by omega) hn
  have hr : rangeD 0 ps.length = (List.range ps.length).map nD := by simp [rangeD, nD]
  have e := lay_loop (cap := cap) (d := d + 1) (l := l) (s := ⟨s.stm, []⟩) H hx (by omega) (wlds L) hwl none none ps.length [] (List.range ps.length) none none whileFuel (by simp) (by simp) (by simp; omega) (by simp [whileFuel]; omega)
  simp [b48_w, b48_2, nsD, wldsD] at e
  have hlt : ps.length < 16777216 := by omega
  simp [f48, List.replicate, hx.len_eq, c38 H.r.l.h38 hl hn, hlt, hr, wldsD, e]
  exact ⟨rfl, rfl⟩
def broke (ps : List (Fm × Fm)) (w : List Str) (ks : List Nat) : Bool := ks.any fun k => broken w (at_ ps k)
/-- the least rank of a world, by layers -/
def rankW (ps : List (Fm × Fm)) (parts : List (List Nat)) (left : List Nat) (w : List Str) : Option Int := if broke ps w left = true then none else some (maxI 0 (parts.zipIdx.filterMap fun a => if broke ps w a.1 = true then some ((a.2 : Int) + 1) else none))
def leastW (L : List Str) (ps : List (Fm × Fm)) : List (Option Int) := (wlds L).map (rankW ps (layers (wlds L) ps).1 (layers (wlds L) ps).2)
theorem layW_sub (ws : List (List Str)) (ps : List (Fm × Fm)) (N : Nat) : ∀ (n : Nat) (found : List (List Nat)) (left : List Nat), (∀ k ∈ left, k < N) → (∀ ks ∈ found, ∀ k ∈ ks, k < N) → (∀ k ∈ (layW ws ps n found left).2, k < N) ∧ (∀ ks ∈ (layW ws ps n found left).1, ∀ k ∈ ks, k < N) := by
  intro n
  induction n with
  | zero => intro found left h1 h2; exact ⟨h1, h2⟩
  | succ n ih =>
    intro found left h1 h2
    rw [layW]
    split
    · exact ⟨h1, h2⟩
    · refine ih _ _ (fun k hk => h1 k (List.mem_filter.mp hk).1) ?_
      intro ks hks
      simp at hks
      rcases hks with hks | rfl
      · exact h2 ks hks
      · exact fun k hk => h1 k (List.mem_filter.mp hk).1
theorem layW_sizes (ws : List (List Str)) (ps : List (Fm × Fm)) (M : Nat) : ∀ (n : Nat) (found : List (List Nat)) (left : List Nat), left.length ≤ M → (∀ ks ∈ found, ks.length ≤ M) → (layW ws ps n found left).2.length ≤ M ∧ (∀ ks ∈ (layW ws ps n found left).1, ks.length ≤ M) ∧ (layW ws ps n found left).1.length ≤ found.length + n := by
  intro n
  induction n with
  | zero => intro found left h1 h2; exact ⟨h1, h2, Nat.le_refl _⟩
  | succ n ih =>
    intro found left h1 h2
    rw [layW]
    split
    · exact ⟨h1, h2, by simp⟩
    · obtain ⟨a, b, c⟩ := ih (found ++ [layerW ws ps left]) _ (Nat.le_trans (List.length_filter_le _ _) h1) (by
        intro ks hks
        simp at hks
        rcases hks with hks | rfl
        · exact h2 ks hks
        · exact Nat.le_trans (List.length_filter_le _ _) h1)
      exact ⟨a, b, by simp at c ⊢; omega⟩
theorem forL_app {α : Type} {t : Tg} {b : Env → S → RS} {T : Stm} (I : Env → Prop) (q h : α → D) : ∀ (as : List α) (acc : List D) (env : Env), I env → (∀ a ∈ as, ∀ env acc, I env → acc.length < lim → ∃ env1 env2, bindT t (q a) env = some env1 ∧ I env2 ∧ b env1 ⟨T, [(true, .lst acc)]⟩ = .nx env2 ⟨T, [(true, .lst (acc ++ [h a]))]⟩) → acc.length + as.length ≤ lim → ∃ env', I env' ∧ forL t b (as.map q) env ⟨T, [(true, .lst acc)]⟩ = .nx env' ⟨T, [(true, .lst (acc ++ as.map h))]⟩ := by
  intro as
  induction as with
  | nil => intro acc env hI _ _; exact ⟨env, hI, by simp [forL]⟩
  | cons a as ih =>
    intro acc env hI hb hl
    simp only [List.length_cons] at hl
    obtain ⟨env1, env2, h1, h2, h3⟩ := hb a (by simp) env acc hI (by omega)
    obtain ⟨env', h4, h5⟩ := ih (acc ++ [h a]) env2 h2 (fun a ha => hb a (by simp [ha])) (by simp; omega)
    refine ⟨env', h4, ?_⟩
    simp only [List.map_cons, forL, h1, h3, h5]
    simp
theorem max_ints (l : List Int) : biD .max (.lst (.int 0 :: l.map D.int)) = some (.int (maxI 0 l)) := by
  have := intsD_map (0 :: l)
  simp only [List.map_cons] at this
  simp only [biD, this]
theorem c49 (H : HasY P) {l x : D} {L : List Str} {ps : List (Fm × Fm)} {n : Nat} (hl : seqD l = some (L.map D.str)) (hn : L.length ≤ 12) (hx : SayL x ps n) (hp : ps.length ≤ 2000) (hd : n + 4 ≤ d) : callAt P cap d 49 [.d l, .d x] s = .ok (.lst ((leastW L ps).map rkD)) s := by
  obtain ⟨d, rfl⟩ : ∃ e, d = e + 2 := ⟨d - 2, by omega⟩
  rw [call2 H.h49 _ _ rfl]
  have F := H.r.l
  have hwl : (wlds L).length ≤ 4096 := by rw [wlds_len]; exact Nat.pow_le_pow_right (show 2 > 0 by omega) hn
  obtain ⟨g1, g2⟩ := layW_sub (wlds L) ps ps.length (ps.length + 1) [] (List.range ps.length) (by simp) (by simp)
  obtain ⟨g3, g4, g5⟩ := layW_sizes (wlds L) ps ps.length (ps.length + 1) [] (List.range ps.length) (by simp) (by simp)
  have hbr : ∀ (k : Nat), k < ps.length → ∃ y, idxD x (.int k) = some y ∧ (∀ w s, callAt P cap (d + 1) 44 [.d y, .d (wD w)] s = .ok (.bl (broken w (at_ ps k))) s) := by
    intro k hk
    obtain ⟨y, h1, h2, h3⟩ := hx.get hk
    exact ⟨y, h1, fun w s => c44 F h2 rfl (by omega)⟩
  have ha : ∀ (ks : List Nat) (w : List Str) (g : D → S → R (Option D)) (s : S), ks.length ≤ ps.length → (∀ k ∈ ks, k < ps.length) → (∀ (k : Nat) y, idxD x (.int k) = some y → (∀ w s, callAt P cap (d + 1) 44 [.d y, .d (wD w)] s = .ok (.bl (broken w (at_ ps k))) s) → g (nD k) s = .ok (some (.bl (broken w (at_ ps k)))) s) → compL g (ks.map nD) [] s = .ok (.lst (ks.map fun k => .bl (broken w (at_ ps k)))) s := by
    intro ks w g s h1 h2 h3
    refine any_ks _ ks (by omega) ?_
    intro k hk
    obtain ⟨y, e1, e2⟩ := hbr k (h2 k hk)
    exact h3 k y e1 e2
  have h48 := fun s => c48 (cap := cap) (d := d + 1) (s := s) H hl hn hx hp (by omega) (by omega)
  have h38 := fun s => c38 (cap := cap) (d := d) (s := s) H.r.l.h38 hl hn
  generalize hlay : layers (wlds L) ps = lay at *
  have hlay' : layW (wlds L) ps (ps.length + 1) [] (List.range ps.length) = lay := hlay
  rw [hlay'] at g1 g2 g3 g4 g5
  obtain ⟨parts, left⟩ := lay
  simp only at g1 g2 g3 g4 g5 h48
  have key := forL_app (b := exs (gAt P cap (d + 1)) [.asg (.nm 6) (.bin .add (.lst (.cons (.int 0) .nil)) (.compIf [7, 8] (.bin .add (.var 7) (.int 1)) (.tp [.nm 7, .nm 8]) (.enum (.var 2)) (.bi .any (.comp [9] (.call 44 (.cons (.idx (.var 1) (.var 9)) (.cons (.var 5) .nil))) (.nm 9) (.e (.var 8)))))), .expr (.mut .append 4 (.cons (.ite (.bi .any (.comp [9] (.call 44 (.cons (.idx (.var 1) (.var 9)) (.cons (.var 5) .nil))) (.nm 9) (.e (.var 3)))) .non (.bi .max (.var 6))) .nil))]) (T := s.stm) (t := .nm 5) (fun env => ∃ e5 e6 e7 e8 e9, env = [some (.d l), some (.d x), some (.d (.lst (parts.map nsD))), some (.d (nsD left)), some (.ref 0), e5, e6, e7, e8, e9]) wD (fun w => rkD (rankW ps parts left w)) (wlds L) [] [some (.d l), some (.d x), some (.d (.lst (parts.map nsD))), some (.d (nsD left)), some (.ref 0), none, none, none, none, none] ⟨_, _, _, _, _, rfl⟩ (by
    rintro w hw env acc ⟨e5, e6, e7, e8, e9, rfl⟩ hacc
    refine ⟨_, [some (.d l), some (.d x), some (.d (.lst (parts.map nsD))), some (.d (nsD left)), some (.ref 0), some (.d (wD w)), some (.d (.lst (.int 0 :: (parts.zipIdx.filterMap fun a => if broke ps w a.1 = true then some ((a.2 : Int) + 1) else none).map .int))), e7, e8, e9], rfl, ⟨_, _, _, _, _, rfl⟩, ?_⟩
    have k1 : ∀ e6 s, compL (cstepIf (gAt P cap (d + 1)) [7, 8] (.bin .add (.var 7) (.int 1)) (.tp [.nm 7, .nm 8]) (.bi .any (.comp [9] (.call 44 (.cons (.idx (.var 1) (.var 9)) (.cons (.var 5) .nil))) (.nm 9) (.e (.var 8)))) [some (.d l), some (.d x), some (.d (.lst (parts.map nsD))), some (.d (nsD left)), some (.ref 0), some (.d (wD w)), e6, e7, e8, e9]) (enumD (parts.map nsD)) [] s = .ok (.lst ((parts.zipIdx.filterMap fun a => if broke ps w a.1 = true then some ((a.2 : Int) + 1) else none).map .int)) s := by
      intro e6 s
      have he : enumD (parts.map nsD) = parts.zipIdx.map fun a => D.tup [.int a.2, nsD a.1] := by
        unfold enumD; rw [List.zipIdx_map]; simp
      rw [he, compL_fmOf (g := cstepIf (gAt P cap (d + 1)) [7, 8] (.bin .add (.var 7) (.int 1)) (.tp [.nm 7, .nm 8]) (.bi .any (.comp [9] (.call 44 (.cons (.idx (.var 1) (.var 9)) (.cons (.var 5) .nil))) (.nm 9) (.e (.var 8)))) [some (.d l), some (.d x), some (.d (.lst (parts.map nsD))), some (.d (nsD left)), some (.ref 0), some (.d (wD w)), e6, e7, e8, e9]) (fun (a : List Nat × Nat) => D.tup [.int a.2, nsD a.1]) (fun a => if broke ps w a.1 = true then some (.int ((a.2 : Int) + 1)) else none) ?_ (by simp only [lim]; simp; simp at g5; omega)]
      · rw [List.map_filterMap]
        congr 2; congr 1; funext a
        split <;> simp
      · rintro ⟨ks, i⟩ hki
        have hmem : ks ∈ parts := (List.mem_zipIdx hki).2.2 ▸ List.getElem_mem _
        simp [cstepIf, nsD]
        rw [ha ks w _ s (g4 ks hmem) (g2 ks hmem) (by intro k y e1 e2; simp [cstep, nD, e1, e2])]
        simp [anyBl_map, broke]
        split <;> simp_all
    have k2 : ∀ e6 s, compL (cstep (gAt P cap (d + 1)) [9] (.call 44 (.cons (.idx (.var 1) (.var 9)) (.cons (.var 5) .nil))) (.nm 9) [some (.d l), some (.d x), some (.d (.lst (parts.map nsD))), some (.d (nsD left)), some (.ref 0), some (.d (wD w)), e6, e7, e8, e9]) (left.map nD) [] s = .ok (.lst (left.map fun k => .bl (broken w (at_ ps k)))) s := fun e6 s => ha left w _ s g3 g1 (by intro k y e1 e2; simp [cstep, nD, e1, e2])
    have hlen : 1 + (parts.zipIdx.filterMap fun a => if broke ps w a.1 = true then some ((a.2 : Int) + 1) else none).length ≤ lim := by
      have := List.length_filterMap_le (fun a : List Nat × Nat => if broke ps w a.1 = true then some ((a.2 : Int) + 1) else none) parts.zipIdx
      simp only [lim]; simp at this g5; omega
    simp only [nsD] at k1 k2
    simp [k1, nsD, hlen, k2, anyBl_map, mutD, hacc]
    cases hb : left.any (fun k => broken w (at_ ps k))
    · simp [max_ints, mutD, hacc, rankW, broke, hb, rkD]
    · simp [mutD, hacc, rankW, broke, hb, rkD]) (by simp only [lim]; simp; omega)
  obtain ⟨env', ⟨e5, e6, e7, e8, e9, rfl⟩, key⟩ := key
  simp [wldsD] at h38 key
  simp [f49_body, b49_1, b49_2, b49_3, b49_4, List.replicate, f49, h48, h38, key, leastW, hlay]
end Us
end

section
set_option linter.all false
set_option maxRecDepth 100000
/-! Us.B17: what a refusal tells; drawn ranks. -/
namespace Us
open PySem (Str)
variable {P : Prg} {cap : Int → Bool} {d : Nat} {s : S}
/-- what catches -/
def hnd (g : G) (hs : List (List Nat × Nat × E)) (env : Env) (r : RS) : RS := match r with
  | .exc c x s => (match caught c hs with
      | some (i, e) => ((ev g e (env.set i (some (.exc c x))) s).calm.bind esc).st fun y s => .rt y s
      | none => .exc c x s)
  | r => r
@[simp] theorem ex_tri (g : G) (body : List St) (hs) (env : Env) (s : S) : ex g (.tri body hs) env s = hnd g hs env (exs g body env s) := by rw [ex]; rfl
@[simp] theorem hnd_exc (g : G) (hs) (env : Env) (c x) (s : S) : hnd g hs env (.exc c x s) = (match caught c hs with
      | some (i, e) => ((ev g e (env.set i (some (.exc c x))) s).calm.bind esc).st fun y s => .rt y s
      | none => .exc c x s) := rfl
@[simp] theorem hnd_rt (g : G) (hs) (env : Env) (x) (s : S) : hnd g hs env (.rt x s) = .rt x s := rfl
structure HasN (P : Prg) : Prop where
  y : HasY P
  k : HasK P
  b : HasB P
  lb : HasLB P
  h51 : P.fn 51 = some f51
  h52 : P.fn 52 = some f52
  h53 : P.fn 53 = some f53
  d1 : P.fld 1 1 = true
  d2 : P.fld 2 0 = true
  d3 : P.fld 3 0 = true
  d4 : P.fld 4 2 = true
def wBook : Str := sx [98, 111, 111, 107]
def wLetters : Str := sx [108, 101, 116, 116, 101, 114, 115]
def wRanks : Str := sx [114, 97, 110, 107, 115]
def wSaying : Str := sx [115, 97, 121, 105, 110, 103]
def metW : Nat → Str
  | 1 => wLetters
  | 2 => wBook
  | 3 => wRanks
  | _ => wSaying
/-- an ask refused -/
theorem c53 (H : HasN P) {b : E} {env : Env} {c : Nat} {x : D} {t : Stm} {cs} (hc : c = 1 ∨ c = 2 ∨ c = 3 ∨ c = 4) (h : (ev (gAt P cap d) b env ⟨s.stm, []⟩).bind esc = .exc c x ⟨t, cs⟩) : callAt P cap (d + 2) 53 [.lam b env] s = .ok (.tup [.str (metW c), x]) ⟨t, s.cells⟩ := by
  have hg : (gAt P cap (d + 1)).clo b env ⟨s.stm, []⟩ = .exc c x ⟨t, []⟩ := by
    simp only [gAt, h]
  rw [callAt_fn H.h53]
  rcases hc with rfl | rfl | rfl | rfl
  all_goals simp [Fn.run, f53, lend, okLend, List.replicate, hg, caught, H.d1, H.d2, H.d3, H.d4, metW, wBook, wLetters, wRanks, wSaying, R.calm, after]
/-! ### drawn ranks -/
def RkOk (n : Nat) (rs : List (Option Int)) : Prop := rs.length = n ∧ ∀ r ∈ rs, ∀ i, r = some i → 0 ≤ i
theorem maxI_ge : ∀ (l : List Int) (a : Int), a ≤ maxI a l
  | [], a => by simp [maxI]
  | b :: l, a => by
    rw [maxI]
    split
    · have := maxI_ge l b; omega
    · exact maxI_ge l a
theorem fm_toF {L : List Str} (hL : LetL L) {f : Fm} (h : okF L f) : toF (fmD f) = some f := toF_fm hL f h
theorem say_to {L : List Str} (hL : LetL L) {n : Nat} {p : Fm × Fm} (h : okS L n p) : toSay (sayD p) = some p := by
  simp [toSay, sayD, toF_fm hL _ h.1, toF_fm hL _ h.2.1]
theorem bk_says {L : List Str} {ps : List (Fm × Fm)} (h : Bk L ps) : Says (ps.map sayD) ps := by
  unfold Says
  rw [List.map_map]
  exact List.map_congr_left fun p hp => say_to h.ll (h.ok p hp)
theorem bk_sdep {L : List Str} {ps : List (Fm × Fm)} (h : Bk L ps) : ∀ p ∈ ps, sdep p ≤ 3 := by
  intro p hp
  obtain ⟨_, _, h1, h2⟩ := h.ok p hp
  unfold sdep; omega
theorem bk_sayL {L : List Str} {ps : List (Fm × Fm)} (h : Bk L ps) : SayL (.lst (ps.map sayD)) ps 3 := ⟨⟨_, rfl, bk_says h⟩, by have := h.pn; omega, bk_sdep h⟩
theorem pow_le8 {L : List Str} {ps : List (Fm × Fm)} (h : Bk L ps) : 1 ≤ 2 ^ L.length ∧ 2 ^ L.length ≤ 8 := by
  have : 2 ^ L.length ≤ 2 ^ 3 := Nat.pow_le_pow_right (by omega) h.ln
  exact ⟨Nat.one_le_two_pow, by omega⟩
theorem rank_nn (ps : List (Fm × Fm)) (parts left w) (i : Int) (h : rankW ps parts left w = some i) : 0 ≤ i := by
  unfold rankW at h
  split at h
  · simp at h
  · simp at h; have := maxI_ge (parts.zipIdx.filterMap fun a => if broke ps w a.1 = true then some ((a.2 : Int) + 1) else none) 0; omega
theorem comp1 {g : G} {w : List Nat} {e : E} {t : Tg} {env : Env} {x : D} : cstep g w e t env x s = (match bindT t x (wipe env w) with
    | some env' => ((ev g e env' s).calm.bind esc).bind fun y s => .ok (some y) s
    | none => .bad) := rfl
theorem c52 (H : HasN P) (C : Cap cap) {L : List Str} {ps : List (Fm × Fm)} (B : Bk L ps) (hd : 9 ≤ d) : Dr 60 s (callAt P cap d 52 [.d .stm, .d (bookD L ps)] s) fun y => ∃ rs, y = .lst (rs.map rkD) ∧ RkOk (2 ^ L.length) rs := by
  obtain ⟨d, rfl⟩ : ∃ e, d = e + 9 := ⟨d - 9, by omega⟩
  intro h0 hk
  rw [call2 H.h52 _ _ rfl]
  have hb0 : idxD (bookD L ps) (.int 0) = some (.lst (L.map D.str)) := rfl
  have hb1 : idxD (bookD L ps) (.int 1) = some (.lst (ps.map sayD)) := rfl
  have h38 := fun s => c38 (P := P) (cap := cap) (d := d + 7) (s := s) H.y.r.l.h38 (seq_l (L.map D.str)) (by have := B.ln; omega)
  have h49 := fun s => c49 (P := P) (cap := cap) (d := d + 8) (s := s) H.y (seq_l (L.map D.str)) (by have := B.ln; omega) (bk_sayL B) (by have := B.pn; omega) (by omega)
  obtain ⟨r, t, e, h1, h2, h3⟩ := draw_if C ⟨s.stm, []⟩ (m := 4) (by omega) (by omega) (by simp; omega)
  simp at e h3
  have hw : (wlds L).length = 2 ^ L.length := wlds_len L
  have hp8 := pow_le8 B
  by_cases hr0 : r = 0
  · subst hr0
    simp [f52, List.replicate, hb0, hb1, h38, e, h49]
    refine ⟨_, _, ⟨rfl, rfl⟩, by omega, by omega, leastW L ps, rfl, by simp [leastW, hw], ?_⟩
    intro x hx i hi
    subst hi
    simp only [leastW, List.mem_map] at hx
    obtain ⟨w, _, hx⟩ := hx
    exact rank_nn _ _ _ _ _ hx
  · by_cases hr1 : r = 1
    · subst hr1
      have key : ∀ s : S, compL (cstep (gAt P cap (d + 8)) [5] (.bi .len (.compIf [4] (.var 4) (.nm 4) (.e (.idx (.var 1) (.int 1))) (.call 44 (.cons (.var 4) (.cons (.var 5) .nil))))) (.nm 5) [some (.d .stm), some (.d (bookD L ps)), some (.d (wldsD L)), some (.d (.int 1)), none, none]) ((wlds L).map wD) [] s = .ok (.lst ((wlds L).map fun w => D.int ((ps.filter fun p => broken w p).length : Nat))) s := by
        intro s
        refine compL_mapOf wD (fun w => D.int ((ps.filter fun p => broken w p).length : Nat)) ?_ (by simp only [lim]; omega)
        intro w hw
        have k2 := compL_fmOf (s := s) (g := cstepIf (gAt P cap (d + 8)) [4] (.var 4) (.nm 4) (.call 44 (.cons (.var 4) (.cons (.var 5) .nil))) [some (.d .stm), some (.d (bookD L ps)), some (.d (wldsD L)), some (.d (.int 1)), none, some (.d (wD w))]) sayD (fun p => if broken w p = true then some (sayD p) else none) (as := ps) (by
          intro p hp
          have h44 := fun s => c44 (P := P) (cap := cap) (d := d + 8) (s := s) H.y.r.l (say_to B.ll (B.ok p hp)) (w := wD w) (L := w) rfl (by have := bk_sdep B p hp; omega)
          simp [cstepIf, h44]
          cases broken w p <;> simp) (by have := B.pn; simp only [lim]; omega)
        simp [comp1, hb1, k2]
        have : ∀ l : List (Fm × Fm), (l.filterMap fun p => if broken w p = true then some (sayD p) else none).length = (l.filter fun p => broken w p).length := by
          intro l; induction l with
          | nil => rfl
          | cons a l ih => simp only [List.filterMap_cons, List.filter_cons]; cases broken w a <;> simp [ih]
        rw [this]
      simp [f52, List.replicate, hb0, hb1, h38, e, wldsD] at key ⊢
      simp [key]
      refine ⟨_, _, ⟨rfl, rfl⟩, by omega, by omega, (wlds L).map fun w => some ((ps.filter fun p => broken w p).length : Int), by simp [rkD], by simp [hw], ?_⟩
      intro x hx i hi
      subst hi
      simp only [List.mem_map] at hx
      obtain ⟨w, _, hx⟩ := hx
      simp at hx; omega
    · have hrr : decide (r = 0) = false ∧ decide (r = 1) = false := by simp [hr0, hr1]
      have step : ∀ (w : List Str) (w4 : Option W) (s : S), s.cells = [] → Dr 3 s (cstep (gAt P cap (d + 8)) [5] (.ite (.and (.cmp .eq (.var 3) (.int 2)) (.one (.cmp .eq (.draw (.var 0) (.int 4)) (.int 0)))) .non (.draw (.var 0) (.call 27 (.cons (.var 0) (.cons (.lst (.cons (.int 2) (.cons (.int 4) (.cons (.int 9) .nil)))) .nil))))) (.nm 5) [some (.d .stm), some (.d (bookD L ps)), some (.d (wldsD L)), some (.d (.int r)), w4, none] (wD w) s) fun o => ∃ y, o = some y ∧ ∃ q : Option Int, y = rkD q ∧ ∀ i, q = some i → 0 ≤ i := by
        intro w w4 s hs h0 hk
        obtain ⟨st, cs⟩ := s
        simp at hs; subst hs
        simp at h0 hk
        have tail : ∀ T : Stm, 0 ≤ T.ct → T.ct + 2 < 1099511627776 → ∃ (y z : D) (T1 T2 : Stm), callAt P cap (d + 8) 27 [.d .stm, .d (.lst [.int 2, .int 4, .int 9])] ⟨T, []⟩ = .ok y ⟨T1, []⟩ ∧ (∃ m : Int, y = .int m ∧ drawR cap m ⟨T1, []⟩ = .ok (.d z) ⟨T2, []⟩) ∧ T.ct ≤ T2.ct ∧ T2.ct ≤ T.ct + 2 ∧ ∃ i : Int, z = .int i ∧ 0 ≤ i := by
          intro T h0 hk
          obtain ⟨y, T1, e1, h1, h2, hy⟩ := c27 (d := d + 7) (s := ⟨T, []⟩) H.k.d.c C [.int 2, .int 4, .int 9] (by simp) (by simp) (by simpa using h0) (by simp; omega)
          simp at e1 h1 h2
          obtain ⟨m, rfl, hm⟩ : ∃ m : Int, y = .int m ∧ 0 < m ∧ m < 10 := by
            simp at hy; rcases hy with rfl | rfl | rfl <;> exact ⟨_, rfl, by omega⟩
          obtain ⟨i, T2, e2, h4, h5, h6⟩ := draw_if C ⟨T1, []⟩ (m := m) (by omega) (by omega) (by simp; omega)
          simp at e2 h6
          exact ⟨_, _, T1, T2, e1, ⟨m, rfl, e2⟩, by omega, by omega, i, rfl, h4⟩
        by_cases h2' : r = 2
        · subst h2'
          obtain ⟨q, T, e1, q1, q2, q3⟩ := draw_if C ⟨st, []⟩ (m := 4) (by omega) (by omega) (by simp; omega)
          simp at e1 q3
          by_cases hq : q = 0
          · subst hq
            refine ⟨some .non, T, ?_, by simp; omega, by simp; omega, .non, rfl, none, rfl, by simp⟩
            simp [comp1, e1]
          · obtain ⟨y, z, T1, T2, e2, ⟨m, rfl, e3⟩, g1, g2, i, rfl, hi⟩ := tail T (by omega) (by omega)
            refine ⟨some (.int i), T2, ?_, by simp; omega, by simp; omega, .int i, rfl, some i, rfl, by simp; exact hi⟩
            simp [comp1, e1, hq, e2, e3]
        · obtain ⟨y, z, T1, T2, e2, ⟨m, rfl, e3⟩, g1, g2, i, rfl, hi⟩ := tail st (by omega) (by omega)
          refine ⟨some (.int i), T2, ?_, by simp; omega, by simp; omega, .int i, rfl, some i, rfl, by simp; exact hi⟩
          simp [comp1, h2', e2, e3]
      have hsum : ((wlds L).map fun _ => 3).sum = 3 * (wlds L).length := by
        generalize wlds L = l
        induction l <;> simp [*]; omega
      obtain ⟨y, t2, e2, h4, h5, ys, rfl, h6⟩ := compL_dr (g := cstep (gAt P cap (d + 8)) [5] (.ite (.and (.cmp .eq (.var 3) (.int 2)) (.one (.cmp .eq (.draw (.var 0) (.int 4)) (.int 0)))) .non (.draw (.var 0) (.call 27 (.cons (.var 0) (.cons (.lst (.cons (.int 2) (.cons (.int 4) (.cons (.int 9) .nil)))) .nil))))) (.nm 5) [some (.d .stm), some (.d (bookD L ps)), some (.d (wldsD L)), some (.d (.int r)), none, none]) wD (fun _ => 3) (fun _ y => ∃ q : Option Int, y = rkD q ∧ ∀ i, q = some i → 0 ≤ i) (wlds L) [] ⟨t, []⟩ (fun w _ s hs => step w none s hs) (by simp only [lim, List.length_nil]; omega) rfl (by simp; omega) (by rw [hsum]; simp; omega)
      rw [hsum] at h5
      simp at h4 h5 e2
      have hg : ∀ ys : List D, (∀ y ∈ ys, ∃ q : Option Int, y = rkD q ∧ ∀ i, q = some i → 0 ≤ i) → ∃ rs : List (Option Int), ys = rs.map rkD ∧ rs.length = ys.length ∧ ∀ r ∈ rs, ∀ i, r = some i → 0 ≤ i := by
        intro ys
        induction ys with
        | nil => intro _; exact ⟨[], rfl, rfl, by simp⟩
        | cons y ys ih =>
          intro h
          obtain ⟨q, rfl, hq⟩ := h y (by simp)
          obtain ⟨rs, rfl, hl, hrs⟩ := ih fun y hy => h y (by simp [hy])
          exact ⟨q :: rs, rfl, by simp, by intro r hr; rcases List.mem_cons.mp hr with rfl | hr; exact hq; exact hrs r hr⟩
      obtain ⟨rs, rfl, hl, hrs⟩ := hg ys (fun y hy => (h6.right y hy).elim fun a ha => ha.2)
      have hlen := h6.len
      simp at hlen
      simp [f52, List.replicate, hb0, hb1, h38, e, hr0, hr1]
      simp [wldsD] at e2 ⊢
      simp [e2]
      exact ⟨_, _, ⟨rfl, rfl⟩, by omega, by omega, rs, rfl, by omega, hrs⟩
end Us
end

section
set_option linter.all false
set_option maxRecDepth 100000
/-! Us.B18: bent books. -/
namespace Us
open PySem (Str)
variable {P : Prg} {cap : Int → Bool} {d : Nat} {s : S}
def b51_1 : St := (.asg (.tp [(.nm 2), (.nm 3)]) (.call 31 (.cons (.var 1) .nil)))
def b51_2 : St := (.asg (.nm 4) (.draw (.var 0) (.int 6)))
def b51_3 : St := (.ite (.cmp .eq (.var 4) (.int 0)) [(.asg (.nm 2) (.bin .add (.var 2) (.lst (.cons (.call 27 (.cons (.var 0) (.cons (.lst (.cons (.str (sx [97])) (.cons (.str (sx [122, 122])) (.cons (.str (sx [65])) (.cons .non (.cons (.str (sx [])) (.cons (.str (sx [97, 98, 99, 100, 101, 102, 103, 104, 105])) .nil))))))) .nil))) .nil))))] [])
def b51_4 : St := (.ite (.cmp .eq (.var 4) (.int 1)) [(.asg (.nm 2) (.from_ (.var 2) (.int 1)))] [])
def b51_5 : St := (.ite (.cmp .eq (.var 4) (.int 2)) [(.asg (.nm 2) (.back (.var 2)))] [])
def b51_6 : St := (.ite (.cmp .mem (.var 4) (.tup (.cons (.int 3) (.cons (.int 4) .nil)))) [(.asg (.nm 5) (.draw (.var 0) (.bin .add (.bi .len (.var 3)) (.int 1)))),
      (.asg (.nm 6) (.call 27 (.cons (.var 0) (.cons (.lst (.cons .non (.cons (.tup (.cons (.tup (.cons (.str (sx [116, 114, 117, 101])) .nil)) .nil)) (.cons (.tup (.cons (.tup (.cons (.str (sx [116, 114, 117, 101])) .nil)) (.cons .non .nil))) (.cons (.tup (.cons (.tup (.cons (.str (sx [108, 101, 116, 116, 101, 114])) (.cons (.str (sx [122, 122])) .nil))) (.cons (.tup (.cons (.str (sx [116, 114, 117, 101])) .nil)) .nil))) (.cons (.str (sx [97, 98])) (.cons (.tup (.cons (.tup (.cons (.str (sx [116, 114, 117, 101])) .nil)) (.cons (.tup (.cons (.str (sx [116, 114, 117, 101])) .nil)) (.cons (.tup (.cons (.str (sx [116, 114, 117, 101])) .nil)) .nil)))) (.cons (.dct .nil) .nil)))))))) .nil)))),
      (.asg (.nm 3) (.bin .add (.bin .add (.bin .add (.upto (.var 3) (.var 5)) (.bin .mul (.lst (.cons (.tup (.cons (.tup (.cons (.str (sx [116, 114, 117, 101])) .nil)) (.cons (.int 5) .nil))) .nil)) (.ite (.cmp .eq (.var 4) (.int 3)) (.int 1) (.int 0)))) (.lst (.cons (.var 6) .nil))) (.from_ (.var 3) (.var 5))))] [])
def b51_7 : St := (.ret (.ite (.cmp .eq (.var 4) (.int 5)) (.call 27 (.cons (.var 0) (.cons (.lst (.cons .non (.cons (.tup (.cons (.var 2) .nil)) (.cons (.str (sx [97, 98])) (.cons (.tup (.cons .non (.cons (.var 3) .nil))) (.cons (.tup (.cons (.var 2) (.cons .non .nil))) (.cons (.dct .nil) (.cons (.tup (.cons (.var 2) (.cons (.var 3) (.cons (.int 0) .nil)))) .nil)))))))) .nil))) (.tup (.cons (.var 2) (.cons (.var 3) .nil)))))
theorem f51_body : f51.body = [b51_1, b51_2, b51_3, b51_4, b51_5, b51_6, b51_7] := rfl

/-- plain, no deeper than n -/
def Pd (n : Nat) (x : D) : Prop := x.pl = true ∧ x.depth ≤ n
theorem pls_of {xs : List D} (h : ∀ x ∈ xs, x.pl = true) : D.pls xs = true := by
  rw [pls_all]; exact List.all_eq_true.mpr h
theorem depths_of {xs : List D} {n : Nat} (h : ∀ x ∈ xs, x.depth ≤ n) : D.depths xs ≤ n := by
  induction xs with
  | nil => simp [D.depths]
  | cons x xs ih =>
    have h1 := h x (by simp)
    have h2 := ih fun y hy => h y (by simp [hy])
    simp only [D.depths]; omega
theorem pd_tup {n : Nat} {xs : List D} (hl : xs.length ≤ 4096) (h : ∀ x ∈ xs, Pd n x) : Pd (n + 1) (.tup xs) := by
  refine ⟨?_, ?_⟩
  · simp [D.pl, hl, pls_of fun x hx => (h x hx).1]
  · have := depths_of fun x hx => (h x hx).2
    simp only [D.depth]; omega
theorem pd_lst {n : Nat} {xs : List D} (hl : xs.length ≤ 4096) (h : ∀ x ∈ xs, Pd n x) : Pd (n + 1) (.lst xs) := by
  refine ⟨?_, ?_⟩
  · simp [D.pl, hl, pls_of fun x hx => (h x hx).1]
  · have := depths_of fun x hx => (h x hx).2
    simp only [D.depth]; omega
theorem Pd.mono {n m : Nat} {x : D} (h : Pd n x) (hm : n ≤ m) : Pd m x := ⟨h.1, Nat.le_trans h.2 hm⟩
theorem pd_str (x : Str) : Pd 0 (.str x) := ⟨rfl, by simp [D.depth]⟩
theorem pd_int (i : Int) : Pd 0 (.int i) := ⟨rfl, by simp [D.depth]⟩
theorem pd_bl (i : Bool) : Pd 0 (.bl i) := ⟨rfl, by simp [D.depth]⟩
theorem pd_non : Pd 0 .non := ⟨rfl, by simp [D.depth]⟩
theorem pd_dic : Pd 1 (.dic []) := ⟨rfl, by simp [D.depth]⟩
theorem pd_say {L : List Str} {n : Nat} {p : Fm × Fm} (h : okS L n p) : Pd (n + 2) (sayD p) := by
  obtain ⟨_, _, h1, h2⟩ := h
  refine pd_tup (n := n + 1) (by simp) ?_
  intro x hx
  simp at hx
  rcases hx with rfl | rfl
  · exact ⟨fm_pl _, by rw [fm_depth]; omega⟩
  · exact ⟨fm_pl _, by rw [fm_depth]; omega⟩
theorem pd_lets (L : List Str) (h : L.length ≤ 4096) : Pd 1 (.lst (L.map D.str)) := pd_lst (by simpa using h) (by intro x hx; simp at hx; obtain ⟨y, _, rfl⟩ := hx; exact pd_str y)
theorem pd_bk {L : List Str} {ps : List (Fm × Fm)} (B : Bk L ps) : Pd 7 (bookD L ps) := by
  refine pd_tup (by simp) ?_
  intro x hx
  simp at hx
  rcases hx with rfl | rfl
  · exact (pd_lets L (by have := B.ln; omega)).mono (by omega)
  · refine pd_lst (by have := B.pn; simp; omega) ?_
    intro x hx
    simp only [List.mem_map] at hx
    obtain ⟨p, hp, rfl⟩ := hx
    exact pd_say (B.ok p hp)
theorem s51_7 (H : HasN P) (C : Cap cap) {ls ss : List D} (hl : Pd 6 (.lst ls)) (hs : Pd 7 (.lst ss)) (b : D) (way : Int) (w5 w6 : Option W) (t : Stm) (h0 : 0 ≤ t.ct) (hk : t.ct + 1 < 1099511627776) : ∃ y t', ex (gAt P cap (d + 1)) b51_7 [some (.d .stm), some (.d b), some (.d (.lst ls)), some (.d (.lst ss)), some (.d (.int way)), w5, w6] ⟨t, []⟩ = .rt y ⟨t', []⟩ ∧ t.ct ≤ t'.ct ∧ t'.ct ≤ t.ct + 1 ∧ Pd 8 y := by
  have two : ∀ {x : D}, x = .lst ls ∨ x = .lst ss ∨ x = .non ∨ x = .int 0 → Pd 7 x := by
    rintro x (rfl | rfl | rfl | rfl)
    · exact hl.mono (by omega)
    · exact hs
    · exact pd_non.mono (by omega)
    · exact (pd_int 0).mono (by omega)
  by_cases h5 : way = 5
  · subst h5
    obtain ⟨y, t1, e1, h1, h2, h3⟩ := c27 (d := d) (s := ⟨t, []⟩) H.k.d.c C [.non, .tup [.lst ls], .str (sx [97, 98]), .tup [.non, .lst ss], .tup [.lst ls, .non], .dic [], .tup [.lst ls, .lst ss, .int 0]] (by simp) (by simp) h0 (by simpa using hk)
    simp at e1 h1 h2
    refine ⟨y, t1, ?_, h1, h2, ?_⟩
    · simp [b51_7, pairs, dmerge, e1]
    · simp at h3
      rcases h3 with rfl | rfl | rfl | rfl | rfl | rfl | rfl
      · exact pd_non.mono (by omega)
      · exact pd_tup (by simp) (by intro x hx; simp at hx; exact two (by simp [hx]))
      · exact (pd_str _).mono (by omega)
      · exact pd_tup (by simp) (by intro x hx; simp at hx; rcases hx with rfl | rfl <;> exact two (by simp))
      · exact pd_tup (by simp) (by intro x hx; simp at hx; rcases hx with rfl | rfl <;> exact two (by simp))
      · exact pd_dic.mono (by omega)
      · exact pd_tup (by simp) (by intro x hx; simp at hx; rcases hx with rfl | rfl | rfl <;> exact two (by simp))
  · refine ⟨.tup [.lst ls, .lst ss], t, ?_, by omega, by omega, ?_⟩
    · simp [b51_7, h5]
    · exact pd_tup (by simp) (by intro x hx; simp at hx; rcases hx with rfl | rfl <;> exact two (by simp))
theorem mem34 (i : Int) : memD (.int i) (.tup [.int 3, .int 4]) = some (decide (3 = i) || decide (4 = i)) := by
  simp [memD, D.atom, D.eqv]
theorem pd_sub {n : Nat} {xs ys : List D} (h : Pd n (.lst xs)) (hs : ∀ y ∈ ys, y ∈ xs) (hl : ys.length ≤ 4096) : Pd n (.lst ys) := by
  obtain ⟨h1, h2⟩ := h
  simp only [D.depth] at h2
  obtain ⟨m, rfl⟩ : ∃ m, n = m + 1 := ⟨n - 1, by omega⟩
  refine pd_lst hl ?_
  intro y hy
  refine ⟨(pl_seq h1 (seq_l xs)).2 y (hs y hy), ?_⟩
  have := depths_mem (hs y hy); omega
theorem c51 (H : HasN P) (C : Cap cap) {L : List Str} {ps : List (Fm × Fm)} (B : Bk L ps) (hd : 10 ≤ d) : Dr 5 s (callAt P cap d 51 [.d .stm, .d (bookD L ps)] s) (Pd 8) := by
  obtain ⟨d, rfl⟩ : ∃ e, d = e + 10 := ⟨d - 10, by omega⟩
  intro h0 hk
  rw [call2 H.h51 _ _ rfl, f51_body]
  have hB := pd_bk B
  have hc := fun s => c31 (cap := cap) (s := s) H.k.d.c 7 (bookD L ps) (d + 9) hB.1 hB.2 (by omega)
  have hL : Pd 1 (.lst (L.map D.str)) := pd_lets L (by have := B.ln; omega)
  have hS : Pd 6 (.lst (ps.map sayD)) := by
    refine pd_lst (by have := B.pn; simp; omega) ?_
    intro x hx
    simp only [List.mem_map] at hx
    obtain ⟨p, hp, rfl⟩ := hx
    exact pd_say (B.ok p hp)
  obtain ⟨r, t, e, h1, h2, h3⟩ := draw_if C ⟨s.stm, []⟩ (m := 6) (by omega) (by omega) (by simp; omega)
  simp at e h3
  have e1 : ex (gAt P cap (d + 9)) b51_1 [some (.d .stm), some (.d (bookD L ps)), none, none, none, none, none] ⟨s.stm, []⟩ = .nx [some (.d .stm), some (.d (bookD L ps)), some (.d (.lst (L.map D.str))), some (.d (.lst (ps.map sayD))), none, none, none] ⟨s.stm, []⟩ := by
    simp [b51_1, hc]; simp [bookD]
  have e2 : ex (gAt P cap (d + 9)) b51_2 [some (.d .stm), some (.d (bookD L ps)), some (.d (.lst (L.map D.str))), some (.d (.lst (ps.map sayD))), none, none, none] ⟨s.stm, []⟩ = .nx [some (.d .stm), some (.d (bookD L ps)), some (.d (.lst (L.map D.str))), some (.d (.lst (ps.map sayD))), some (.d (.int r)), none, none] ⟨t, []⟩ := by
    simp [b51_2, e]
  have e3 : ∃ (ls : List D) (t1 : Stm), ex (gAt P cap (d + 9)) b51_3 [some (.d .stm), some (.d (bookD L ps)), some (.d (.lst (L.map D.str))), some (.d (.lst (ps.map sayD))), some (.d (.int r)), none, none] ⟨t, []⟩ = .nx [some (.d .stm), some (.d (bookD L ps)), some (.d (.lst ls)), some (.d (.lst (ps.map sayD))), some (.d (.int r)), none, none] ⟨t1, []⟩ ∧ t.ct ≤ t1.ct ∧ t1.ct ≤ t.ct + 1 ∧ Pd 1 (.lst ls) ∧ ls.length ≤ 4 := by
    by_cases hr : r = 0
    · subst hr
      obtain ⟨y, t1, e1, q1, q2, q3⟩ := c27 (d := d + 8) (s := ⟨t, []⟩) H.k.d.c C [.str (sx [97]), .str (sx [122, 122]), .str (sx [65]), .non, .str (sx []), .str (sx [97, 98, 99, 100, 101, 102, 103, 104, 105])] (by simp) (by simp) (by simp; omega) (by simp; omega)
      simp at e1 q1 q2
      have hle : L.length + 1 ≤ lim := by have := B.ln; simp only [lim]; omega
      refine ⟨L.map D.str ++ [y], t1, ?_, q1, q2, ?_, by have := B.ln; simp; omega⟩
      · simp [b51_3, e1, hle]
      · refine pd_lst (by have := B.ln; simp; omega) ?_
        intro x hx
        simp at hx
        rcases hx with ⟨z, _, rfl⟩ | rfl
        · exact pd_str z
        · simp at q3
          rcases q3 with rfl | rfl | rfl | rfl | rfl | rfl
          all_goals first | exact pd_str _ | exact pd_non
    · refine ⟨L.map D.str, t, ?_, by omega, by omega, hL, by have := B.ln; simp; omega⟩
      simp [b51_3, hr]
  obtain ⟨ls, t1, e3, g1, g2, hls, hll⟩ := e3
  have e4 : ∃ ls' : List D, ex (gAt P cap (d + 9)) b51_4 [some (.d .stm), some (.d (bookD L ps)), some (.d (.lst ls)), some (.d (.lst (ps.map sayD))), some (.d (.int r)), none, none] ⟨t1, []⟩ = .nx [some (.d .stm), some (.d (bookD L ps)), some (.d (.lst ls')), some (.d (.lst (ps.map sayD))), some (.d (.int r)), none, none] ⟨t1, []⟩ ∧ Pd 1 (.lst ls') ∧ ls'.length ≤ 4 := by
    by_cases hr : r = 1
    · subst hr
      have := from_l ls 1
      simp at this
      exact ⟨ls.drop 1, by simp [b51_4, this], pd_sub hls (fun y hy => List.mem_of_mem_drop hy) (by simp; omega), by simp; omega⟩
    · exact ⟨ls, by simp [b51_4, hr], hls, hll⟩
  obtain ⟨l4, e4, hl4, hll4⟩ := e4
  have e5 : ∃ ls' : List D, ex (gAt P cap (d + 9)) b51_5 [some (.d .stm), some (.d (bookD L ps)), some (.d (.lst l4)), some (.d (.lst (ps.map sayD))), some (.d (.int r)), none, none] ⟨t1, []⟩ = .nx [some (.d .stm), some (.d (bookD L ps)), some (.d (.lst ls')), some (.d (.lst (ps.map sayD))), some (.d (.int r)), none, none] ⟨t1, []⟩ ∧ Pd 1 (.lst ls') ∧ ls'.length ≤ 4 := by
    by_cases hr : r = 2
    · subst hr
      exact ⟨l4.reverse, by simp [b51_5], pd_sub hl4 (fun y hy => by simpa using hy) (by simp; omega), by simp; omega⟩
    · exact ⟨l4, by simp [b51_5, hr], hl4, hll4⟩
  obtain ⟨l5, e5, hl5, hll5⟩ := e5
  have e6 : ∃ (ss : List D) (w5 w6 : Option W) (t2 : Stm), ex (gAt P cap (d + 9)) b51_6 [some (.d .stm), some (.d (bookD L ps)), some (.d (.lst l5)), some (.d (.lst (ps.map sayD))), some (.d (.int r)), none, none] ⟨t1, []⟩ = .nx [some (.d .stm), some (.d (bookD L ps)), some (.d (.lst l5)), some (.d (.lst ss)), some (.d (.int r)), w5, w6] ⟨t2, []⟩ ∧ t1.ct ≤ t2.ct ∧ t2.ct ≤ t1.ct + 2 ∧ Pd 6 (.lst ss) := by
    by_cases hr : r = 3 ∨ r = 4
    · have hm : (decide ((3 : Int) = r) || decide ((4 : Int) = r)) = true := by rcases hr with rfl | rfl <;> rfl
      have hpn := B.pn
      obtain ⟨k, T1, f1, k1, k2, k3⟩ := draw_if C ⟨t1, []⟩ (m := ps.length + 1) (by omega) (by omega) (by simp; omega)
      simp at f1 k3
      obtain ⟨k, rfl⟩ : ∃ n : Nat, k = n := ⟨k.toNat, by omega⟩
      obtain ⟨y, T2, f2, m1, m2, m3⟩ := c27 (d := d + 8) (s := ⟨T1, []⟩) H.k.d.c C [.non, .tup [.tup [.str wTrue]], .tup [.tup [.str wTrue], .non], .tup [.tup [.str wLet, .str (sx [122, 122])], .tup [.str wTrue]], .str (sx [97, 98]), .tup [.tup [.str wTrue], .tup [.str wTrue], .tup [.str wTrue]], .dic []] (by simp) (by simp) (by simp; omega) (by simp; omega)
      simp at f2 m1 m2
      have hT : Pd 1 (.tup [.str wTrue]) := pd_tup (by simp) (by intro x hx; simp at hx; subst hx; exact pd_str _)
      have hU : Pd 1 (.tup [.str wLet, .str (sx [122, 122])]) := pd_tup (by simp) (by intro x hx; simp at hx; rcases hx with rfl | rfl <;> exact pd_str _)
      have hy : Pd 5 y := by
        simp at m3
        rcases m3 with rfl | rfl | rfl | rfl | rfl | rfl | rfl
        · exact pd_non.mono (by omega)
        · exact (pd_tup (n := 1) (by simp) (by intro x hx; simp at hx; subst hx; exact hT)).mono (by omega)
        · exact (pd_tup (n := 1) (by simp) (by intro x hx; simp at hx; rcases hx with rfl | rfl; exact hT; exact pd_non.mono (by omega))).mono (by omega)
        · exact (pd_tup (n := 1) (by simp) (by intro x hx; simp at hx; rcases hx with rfl | rfl; exact hU; exact hT)).mono (by omega)
        · exact (pd_str _).mono (by omega)
        · exact (pd_tup (n := 1) (by simp) (by intro x hx; simp at hx; subst hx; exact hT)).mono (by omega)
        · exact pd_dic.mono (by omega)
      have h5 : Pd 5 (.tup [.tup [.str wTrue], .int 5]) := (pd_tup (n := 1) (by simp) (by intro x hx; simp at hx; rcases hx with rfl | rfl; exact hT; exact (pd_int 5).mono (by omega))).mono (by omega)
      have hall : ∀ (z : List D), (∀ x ∈ z, Pd 5 x) → z.length ≤ 2 → Pd 6 (.lst ((ps.map sayD).take k ++ (z ++ (ps.map sayD).drop k))) := by
        intro z hz hzl
        refine pd_lst (by simp; omega) ?_
        intro x hx
        have hps : ∀ x ∈ ps.map sayD, Pd 5 x := by
          intro x hx
          simp only [List.mem_map] at hx
          obtain ⟨p, hp, rfl⟩ := hx
          exact pd_say (B.ok p hp)
        rcases List.mem_append.mp hx with hx | hx
        · exact hps x (List.mem_of_mem_take hx)
        · rcases List.mem_append.mp hx with hx | hx
          · exact hz x hx
          · exact hps x (List.mem_of_mem_drop hx)
      have a1 : min k ps.length + 1 ≤ lim := by simp only [lim]; omega
      have a2 : min k ps.length + 1 + 1 ≤ lim := by simp only [lim]; omega
      have a3 : min k ps.length + 1 + 1 + (ps.length - k) ≤ lim := by simp only [lim]; omega
      have a4 : min k ps.length ≤ lim := by simp only [lim]; omega
      have a5 : min k ps.length + 1 + (ps.length - k) ≤ lim := by simp only [lim]; omega
      have u1 := upto_l (ps.map sayD) k
      have u2 := from_l (ps.map sayD) k
      have mul1 : binD .mul (.lst [.tup [.tup [.str wTrue], .int 5]]) (.int 1) = some (.lst [.tup [.tup [.str wTrue], .int 5]]) := by simp [binD, lim]
      have mul0 : binD .mul (.lst [.tup [.tup [.str wTrue], .int 5]]) (.int 0) = some (.lst []) := by simp [binD, lim]
      rcases hr with rfl | rfl
      · refine ⟨(ps.map sayD).take k ++ ([.tup [.tup [.str wTrue], .int 5], y] ++ (ps.map sayD).drop k), some (.d (.int k)), some (.d y), T2, ?_, by omega, by omega, hall _ (by intro x hx; simp at hx; rcases hx with rfl | rfl; exact h5; exact hy) (by simp)⟩
        simp [b51_6, mem34, f1, f2, pairs, dmerge, u1, u2, mul1, a1, a2, a3]
      · refine ⟨(ps.map sayD).take k ++ ([y] ++ (ps.map sayD).drop k), some (.d (.int k)), some (.d y), T2, ?_, by omega, by omega, hall _ (by intro x hx; simp at hx; subst hx; exact hy) (by simp)⟩
        simp [b51_6, mem34, f1, f2, pairs, dmerge, u1, u2, mul0, a4, a1, a5]
    · refine ⟨ps.map sayD, none, none, t1, ?_, by omega, by omega, hS⟩
      have : (decide ((3 : Int) = r) || decide ((4 : Int) = r)) = false := by simp; omega
      simp [b51_6, mem34, this]
  obtain ⟨ss, w5, w6, t2, e6, g3, g4, hss⟩ := e6
  obtain ⟨y, t3, e7, g6, g7, hy⟩ := s51_7 (d := d + 8) H C (hl5.mono (by omega)) (hss.mono (by omega)) (bookD L ps) r w5 w6 t2 (by omega) (by omega)
  refine ⟨y, t3, ?_, by omega, by omega, hy⟩
  simp [List.replicate, f51, e1, e2, e3, e4, e5, e6, e7]
end Us
end

section
set_option linter.all false
set_option maxRecDepth 100000
/-! Us.B19: things told otherwise are the same things. -/
namespace Us
open PySem (Str)
variable {P : Prg} {cap : Int → Bool} {d : Nat} {s : S}
theorem firstAt_none {xs : List D} {f : D → Nat → Bool} (h : ∀ (i : Nat) x, xs[i]? = some x → f x i = false) : firstAt xs f = none := by
  unfold firstAt
  rw [List.findSome?_eq_none_iff]
  rintro ⟨x, i⟩ hx
  rw [h i x (mem_zip hx)]
  rfl
theorem toSay_nrm (x : D) : toSay x.nrm = toSay x := by
  unfold toSay
  rw [nrm_seq]
  cases h : seqD x with
  | none => rfl
  | some xs =>
    match xs with
    | [] => rfl
    | [a] => rfl
    | [a, b] => simp [toF_nrm]
    | _ :: _ :: _ :: _ => rfl
theorem isFm_nrm (L : List Str) (x : D) : isFm L x.nrm = isFm L x := by unfold isFm; rw [toF_nrm]
theorem isSay_nrm (L : List Str) (x : D) : isSay L x.nrm = isSay L x := by
  unfold isSay
  rw [nrm_seq]
  cases h : seqD x with
  | none => rfl
  | some xs =>
    match xs with
    | [] => rfl
    | [a] => rfl
    | [a, b] => simp [isFm_nrm]
    | _ :: _ :: _ :: _ => rfl
theorem is_fm {L : List Str} (hL : LetL L) {f : Fm} (h : okF L f) : isFm L (fmD f) = true := by
  unfold isFm
  rw [toF_fm hL f h]
  unfold okF at h
  simpa using h
theorem is_say {L : List Str} (hL : LetL L) {n : Nat} {p : Fm × Fm} (h : okS L n p) : isSay L (sayD p) = true := by
  simp [isSay, sayD, is_fm hL h.1, is_fm hL h.2.1]
theorem strs_nrm (L : List Str) : (L.map D.str).map D.nrm = L.map D.str := by
  rw [List.map_map]; exact List.map_congr_left fun _ _ => rfl
theorem nrm_strs : ∀ (ls : List D) (L : List Str), ls.map D.nrm = L.map D.str → ls = L.map D.str
  | [], [], _ => rfl
  | [], _ :: _, h => by simp at h
  | _ :: _, [], h => by simp at h
  | x :: ls, w :: L, h => by
    simp only [List.map_cons, List.cons.injEq] at h ⊢
    refine ⟨?_, nrm_strs ls L h.2⟩
    cases x <;> simp_all [D.nrm]
theorem seq_of_nrm {x y : D} {xs : List D} (h : x.nrm = y.nrm) (e : seqD x = some xs) : ∃ ys, seqD y = some ys ∧ xs.map D.nrm = ys.map D.nrm := by
  have h1 := nrm_seq x
  have h2 := nrm_seq y
  rw [h, e] at h1
  rw [h1] at h2
  cases hy : seqD y with
  | none => rw [hy] at h2; simp at h2
  | some ys => rw [hy] at h2; exact ⟨ys, rfl, by simpa using h2⟩
theorem pd_nrm {n : Nat} {x y : D} (h : x.nrm = y.nrm) (hx : Pd n x) : Pd n y := by
  refine ⟨?_, ?_⟩
  · rw [← nrm_pl y, ← h, nrm_pl]; exact hx.1
  · rw [← nrm_depth y, ← h, nrm_depth]; exact hx.2
/-- a book in any form -/
structure BkY (y : D) (L : List Str) (ps : List (Fm × Fm)) : Prop where
  pd : Pd 7 y
  flt : bkFault y = .non
  seq : ∃ l ss xs, seqD y = some [l, ss] ∧ seqD l = some (L.map D.str) ∧ seqD ss = some xs ∧ Says xs ps
theorem bk_nrm {L : List Str} {ps : List (Fm × Fm)} (B : Bk L ps) {y : D} (h : (bookD L ps).nrm = y.nrm) : BkY y L ps := by
  obtain ⟨ys, e, e1⟩ := seq_of_nrm h (xs := [.lst (L.map D.str), .lst (ps.map sayD)]) rfl
  match ys, e, e1 with
  | [], _, e1 => simp at e1
  | [_], _, e1 => simp at e1
  | _ :: _ :: _ :: _, _, e1 => simp at e1
  | [l, ss], e, e1 =>
    simp only [List.map_cons, List.map_nil, List.cons.injEq, and_true] at e1
    obtain ⟨h1, h2⟩ := e1
    obtain ⟨ls, f1, f2⟩ := seq_of_nrm h1 (xs := L.map D.str) rfl
    obtain ⟨xs, g1, g2⟩ := seq_of_nrm h2 (xs := ps.map sayD) rfl
    rw [strs_nrm] at f2
    obtain rfl := nrm_strs ls L f2.symm
    have hs : Says xs ps := by
      have := bk_says B
      unfold Says at this ⊢
      have q : ∀ zs : List D, zs.map toSay = (zs.map D.nrm).map toSay := by
        intro zs; rw [List.map_map]; exact List.map_congr_left fun z _ => (toSay_nrm z).symm
      rw [← this, q xs, ← g2, ← q]
    refine ⟨pd_nrm h (pd_bk B), ?_, l, ss, xs, e, f1, g1, hs⟩
    have hl : firstAt xs (noSay L) = none := by
      refine firstAt_none ?_
      intro i x hx
      have hlen : xs.length = ps.length := by simpa using (congrArg List.length g2).symm
      have hi : i < xs.length := by
        rcases Nat.lt_or_ge i xs.length with h | h
        · exact h
        · rw [List.getElem?_eq_none h] at hx; simp at hx
      have hp : i < ps.length := by omega
      have := congrArg (·[i]?) g2
      simp [hx, hp] at this
      simp only [noSay]
      rw [← isSay_nrm, ← this, isSay_nrm, is_say B.ll (B.ok _ (List.getElem_mem hp))]
      rfl
    have ho := B.lo
    unfold LetOk at ho
    simp [bkFault, e, f1, g1, ho, letsOf_map, hl]
/-- a saying in any form -/
structure SyY (y : D) (L : List Str) (p : Fm × Fm) : Prop where
  pd : Pd 5 y
  is : isSay L y = true
  to : toSay y = some p
theorem sy_nrm {L : List Str} (hL : LetL L) {p : Fm × Fm} (h3 : okS L 3 p) {y : D} (h : (sayD p).nrm = y.nrm) : SyY y L p := by
  refine ⟨pd_nrm h (pd_say h3), ?_, ?_⟩
  · rw [← isSay_nrm, ← h, isSay_nrm, is_say hL h3]
  · rw [← toSay_nrm, ← h, toSay_nrm, say_to hL h3]
theorem rk_flt {n : Nat} {rs : List (Option Int)} (h : RkOk n rs) {x : D} (e : seqD x = some (rs.map rkD)) : rkFault n x = .non := by
  have : firstAt (rs.map rkD) badRk = none := by
    refine firstAt_none ?_
    intro i x hx
    simp at hx
    obtain ⟨q, hq, rfl⟩ := hx
    have hm : q ∈ rs := List.mem_of_getElem? hq
    cases q with
    | none => rfl
    | some i => have := h.2 _ hm i rfl; simp [badRk, rkD, isNum, D.isNon]; exact this
  simp [rkFault, e, h.1, this]
theorem pd_rk {q : Option Int} : Pd 0 (rkD q) := by cases q; exact pd_non; exact pd_int _
theorem pd_rks {n : Nat} {rs : List (Option Int)} (h : RkOk n rs) (hn : n ≤ 8) : Pd 1 (.lst (rs.map rkD)) := by
  refine pd_lst (by simp [h.1]; omega) ?_
  intro x hx
  simp at hx
  obtain ⟨q, _, rfl⟩ := hx
  exact pd_rk
theorem pd_t {n : Nat} {xs : List D} (h : Pd n (.lst xs)) : Pd n (.tup xs) := h
theorem pd_form : Pd 1 form := ⟨rfl, by simp [form, D.depth, D.depths]⟩
theorem pd_pair (x : Str) (i : Int) : Pd 1 (.tup [.str x, .int i]) := ⟨rfl, by simp [D.depth, D.depths]⟩
theorem pd_rkFault (n : Nat) (x : D) : Pd 1 (rkFault n x) := by
  unfold rkFault
  split
  · exact pd_form
  · split
    · split
      · exact pd_pair _ _
      · exact pd_non.mono (by omega)
    · exact pd_form
theorem pd_bkFault (x : D) : Pd 1 (bkFault x) := by
  unfold bkFault
  split
  · split
    · split
      · exact pd_pair _ _
      · split
        · exact pd_pair _ _
        · exact pd_non.mono (by omega)
    · exact pd_form
  · exact pd_form
theorem pd_unb (ws rs ps) : Pd 0 (unb ws rs ps) := by
  unfold unb
  cases h : ps.zipIdx.findSome? fun a => if bearB ws rs a.1 = true then none else some (D.int a.2) with
  | none => exact pd_non
  | some y =>
    obtain ⟨a, _, ha⟩ := List.exists_of_findSome?_eq_some h
    split at ha
    · simp at ha
    · simp at ha; subst ha; exact pd_int _
theorem same (H : HasC P) {n : Nat} {x : D} (h : Pd n x) (hd : n + 2 ≤ d) : callAt P cap d 29 [.d x, .d x] s = .ok (.bl true) s := c29 H n x d s h.1 h.2 hd
theorem copied (H : HasC P) {n : Nat} {x : D} (h : Pd n x) (hd : n + 1 ≤ d) : callAt P cap d 31 [.d x] s = .ok x s := c31 H n x d s h.1 h.2 hd
theorem run_ref {g : G} {F : Fn} {i : Nat} {x y : D} {b v : Bool} {s' : S} (hr : F.refs = []) (hp : F.params = 2) (hs : s.cells[i]? = some (b, x)) (hx : ∀ kvs, x ≠ .dic kvs) (h : F.run g [.d x, .d y] s = .ok (.bl v) s') : F.run g [.ref i, .d y] s = .ok (.bl v) s' := by
  unfold Fn.run at h ⊢
  simp only [lend, hs, hr, hp, List.headD_nil, List.tail_nil, List.length_cons, List.length_nil, List.reverse_cons, List.reverse_nil, List.nil_append, List.singleton_append, okLend, if_true] at h ⊢
  revert h
  generalize exs g F.body _ _ = r
  intro h
  cases r with
  | rt z t =>
    simp at h
    obtain ⟨rfl, h⟩ := h
    have : stopD s.cells i = s.cells := by
      cases x <;> simp [stopD, hs] at hx ⊢
    simp [D.still, this] at h ⊢
    exact h
  | nx _ t => simp at h
  | exc _ _ t => simp at h
  | _ => simp at h
theorem same_ref (H : HasC P) {n i : Nat} {xs : List D} {b : Bool} (h : Pd n (.lst xs)) (hd : n + 2 ≤ d) (hs : s.cells[i]? = some (b, .lst xs)) : callAt P cap d 29 [.ref i, .d (.lst xs)] s = .ok (.bl true) s := by
  obtain ⟨d, rfl⟩ : ∃ e, d = e + 1 := ⟨d - 1, by omega⟩
  have h1 := same (cap := cap) (s := s) H h hd
  rw [callAt_fn H.h29] at h1 ⊢
  exact run_ref rfl rfl hs (by simp) h1
end Us
end

section
set_option linter.all false
set_option maxRecDepth 100000
/-! Us.B20: law k11's own run: things that are ranks or none. -/
namespace Us
open PySem (Str)
variable {P : Prg} {cap : Int → Bool} {d : Nat} {s : S}
namespace K11
def l1 : St := (.asg (.nm 1) (.stream (.var 0)))
def l2_1 : St := (.asg (.nm 3) (.call 36 (.cons (.var 1) (.cons (.int 3) .nil))))
def l2_2 : St := (.asg (.tp [(.nm 4), (.nm 5)]) (.var 3))
def l2_3_1 : St := (.asg (.nm 7) (.call 52 (.cons (.var 1) (.cons (.var 3) .nil))))
def l2_3_2 : St := (.par2 8 9 false false (.call 46 (.cons (.var 3) (.cons (.var 7) .nil))) (.call 27 (.cons (.var 1) (.cons (.bin .add (.var 5) (.lst (.cons (.call 35 (.cons (.var 1) (.cons (.var 4) .nil))) .nil))) .nil))))
def l2_3_3 : St := (.asg (.nm 10) (.call 45 (.cons (.var 4) (.cons (.var 7) (.cons (.var 9) .nil)))))
def l2_3_4 : St := (.asg (.nm 11) (.lst (.cons (.call 26 (.cons (.call 37 (.cons (.var 1) (.cons (.var 3) .nil))) (.cons (.bi .tuple (.var 7)) .nil))) (.cons (.callk 26 [1, 0] (.cons (.bi .list (.var 7)) (.cons (.call 31 (.cons (.var 3) .nil)) .nil))) .nil))))
def l2_3_5 : St := (.asg (.nm 12) (.lst (.cons (.call 24 (.cons (.bi .tuple (.var 4)) (.cons (.bi .list (.var 7)) (.cons (.call 37 (.cons (.var 1) (.cons (.var 9) .nil))) .nil)))) (.cons (.callk 24 [2, 1, 0] (.cons (.call 31 (.cons (.var 9) .nil)) (.cons (.bi .tuple (.var 7)) (.cons (.bi .list (.var 4)) .nil)))) .nil))))
def l2_3_6 : St := (.ite (.or (.not (.call 29 (.cons (.var 11) (.cons (.lst (.cons (.var 8) (.cons (.var 8) .nil))) .nil)))) (.one (.not (.call 29 (.cons (.var 12) (.cons (.lst (.cons (.var 10) (.cons (.var 10) .nil))) .nil)))))) [(.ret (.bl false))] [])
def l2_3_7 : St := (.asg (.nm 13) (.draw (.var 1) (.bi .len (.var 7))))
def l2_3_8 : St := (.asg (.tp [(.nm 14), (.nm 15)]) (.tup (.cons (.call 27 (.cons (.var 1) (.cons (.lst (.cons (.neg (.int 1)) (.cons (.bl true) (.cons (.str (sx [48])) (.cons (.lst (.cons (.int 0) .nil)) .nil))))) .nil))) (.cons (.draw (.var 1) (.bi .len (.var 7))) .nil))))
def l2_3_9_1 : St := (.par2 19 20 false false (.call 47 (.cons (.var 4) (.cons (.var 16) .nil))) (.call 31 (.cons (.var 16) .nil)))
def l2_3_9_2 : St := (.ite (.or (.not (.call 29 (.cons (.lst (.cons (.call 21 (.cons (.bi .list (.var 4)) (.cons (.var 20) .nil))) (.cons (.callk 21 [1, 0] (.cons (.call 31 (.cons (.var 16) .nil)) (.cons (.bi .tuple (.var 4)) .nil))) .nil))) (.cons (.lst (.cons (.var 19) (.cons (.var 19) .nil))) .nil)))) (.one (.not (.call 29 (.cons (.var 20) (.cons (.var 16) .nil)))))) [(.ret (.bl false))] [])
def l2_3_9_3 : St := (.ite (.and (.cmp .isnot (.var 19) .non) (.one (.not (.call 29 (.cons (.callL 53 (.call 24 (.cons (.bi .list (.var 4)) (.cons (.var 16) (.cons .non .nil))))) (.cons (.tup (.cons (.str (sx [114, 97, 110, 107, 115])) (.cons (.var 19) .nil))) .nil)))))) [(.ret (.bl false))] [])
def l2_3_9_4 : St := (.ite (.and (.cmp .isnot (.var 19) .non) (.one (.not (.call 29 (.cons (.callL 53 (.call 26 (.cons (.call 31 (.cons (.var 3) .nil)) (.cons (.var 16) .nil)))) (.cons (.tup (.cons (.str (sx [114, 97, 110, 107, 115])) (.cons (.var 19) .nil))) .nil)))))) [(.ret (.bl false))] [])
def l2_3_9b : List St := [l2_3_9_1, l2_3_9_2, l2_3_9_3, l2_3_9_4]
def l2_3_9 : St := .for_ (.nm 16) (.e (.tup (.cons (.var 7) (.cons (.bi .tuple (.var 7)) (.cons (.bin .add (.var 7) (.lst (.cons (.int 0) .nil))) (.cons (.from_ (.var 7) (.int 1)) (.cons .non (.cons (.str (sx [97, 98])) (.cons (.dct .nil) (.cons (.comp [17, 18] (.ite (.cmp .mem (.var 17) (.tup (.cons (.var 13) (.cons (.var 15) .nil)))) (.var 14) (.var 18)) (.tp [(.nm 17), (.nm 18)]) (.enum (.var 7))) .nil)))))))))) l2_3_9b
def l2_3b : List St := [l2_3_1, l2_3_2, l2_3_3, l2_3_4, l2_3_5, l2_3_6, l2_3_7, l2_3_8, l2_3_9]
def l2_3 : St := .for_ (.nm 6) (.rng (.int 4)) l2_3b
def l2_4_1 : St := (.asg (.nm 16) (.ite (.cmp .gt (.var 6) (.int 0)) (.call 51 (.cons (.var 1) (.cons (.var 3) .nil))) (.var 3)))
def l2_4_2 : St := (.par2 19 20 false false (.call 50 (.cons (.var 16) .nil)) (.call 31 (.cons (.var 16) .nil)))
def l2_4_3 : St := (.ite (.or (.not (.call 29 (.cons (.lst (.cons (.call 17 (.cons (.var 20) .nil)) (.cons (.callk 17 [0] (.cons (.call 31 (.cons (.var 16) .nil)) .nil)) .nil))) (.cons (.lst (.cons (.var 19) (.cons (.var 19) .nil))) .nil)))) (.one (.not (.call 29 (.cons (.var 20) (.cons (.var 16) .nil)))))) [(.ret (.bl false))] [])
def l2_4_4 : St := (.ite (.and (.cmp .isnot (.var 19) .non) (.one (.not (.call 29 (.cons (.callL 53 (.call 26 (.cons (.call 31 (.cons (.var 16) .nil)) (.cons .non .nil)))) (.cons (.tup (.cons (.str (sx [98, 111, 111, 107])) (.cons (.var 19) .nil))) .nil)))))) [(.ret (.bl false))] [])
def l2_4b : List St := [l2_4_1, l2_4_2, l2_4_3, l2_4_4]
def l2_4 : St := .for_ (.nm 6) (.rng (.int 6)) l2_4b
def l2_5 : St := (.asg (.nm 14) (.call 27 (.cons (.var 1) (.cons (.lst (.cons .non (.cons (.tup (.cons (.tup (.cons (.str (sx [116, 114, 117, 101])) .nil)) .nil)) (.cons (.tup (.cons (.tup (.cons (.str (sx [108, 101, 116, 116, 101, 114])) (.cons (.str (sx [122, 122])) .nil))) (.cons (.tup (.cons (.str (sx [116, 114, 117, 101])) .nil)) .nil))) (.cons (.str (sx [97, 98])) (.cons (.tup (.cons (.tup (.cons (.str (sx [116, 114, 117, 101])) .nil)) (.cons (.int 5) .nil))) .nil)))))) .nil))))
def l2_6 : St := (.new 21 (.lst (.cons (.callL 53 (.call 24 (.cons (.bi .list (.var 4)) (.cons (.bin .mul (.lst (.cons (.int 0) .nil)) (.bi .len (.call 38 (.cons (.var 4) .nil)))) (.cons (.var 14) .nil))))) .nil)))
def l2_7 : St := (.expr (.mut .append 21 (.cons (.callL 53 (.call 24 (.cons (.lst (.cons (.str (sx [98])) (.cons (.str (sx [97])) .nil))) (.cons .non (.cons .non .nil))))) .nil)))
def l2_8 : St := (.expr (.mut .append 21 (.cons (.callL 53 (.call 21 (.cons (.lst (.cons (.str (sx [97])) (.cons (.str (sx [65])) .nil))) (.cons .non .nil)))) .nil)))
def l2_9 : St := (.ite (.not (.call 29 (.cons (.var 21) (.cons (.lst (.cons (.tup (.cons (.str (sx [115, 97, 121, 105, 110, 103])) (.cons (.var 14) .nil))) (.cons (.tup (.cons (.str (sx [108, 101, 116, 116, 101, 114, 115])) (.cons (.int 1) .nil))) (.cons (.tup (.cons (.str (sx [108, 101, 116, 116, 101, 114, 115])) (.cons (.int 1) .nil))) .nil)))) .nil)))) [(.ret (.bl false))] [])
def l2b : List St := [l2_1, l2_2, l2_3, l2_4, l2_5, l2_6, l2_7, l2_8, l2_9]
def l2 : St := .for_ (.nm 2) (.rng (.int 5)) l2b
def l3 : St := (.ret (.bl true))
theorem f54_body : f54.body = [l1, l2, l3] := rfl

end K11
theorem cap_get {env : Env} {i : Nat} {x : D} (h : env[i]? = some (some (.d x))) : (captured env)[i]? = some (some (.d x)) := by
  simp [captured, h]
theorem set_get {env : Env} {i j : Nat} {w : Option W} (h : i ≠ j) : (env.set i w)[j]? = env[j]? := by
  rw [List.getElem?_set_ne h]
theorem set_get' {env : Env} {i : Nat} {w : Option W} (h : i < env.length) : (env.set i w)[i]? = some w := by
  rw [List.getElem?_set_self h]
namespace K11
/-- what stays through a turn -/
structure I5 (L : List Str) (ps : List (Fm × Fm)) (env : Env) : Prop where
  len : env.length = 22
  e1 : env[1]? = some (some (.d .stm))
  e3 : env[3]? = some (some (.d (bookD L ps)))
  e4 : env[4]? = some (some (.d (.lst (L.map D.str))))
  e5 : env[5]? = some (some (.d (.lst (ps.map sayD))))
theorem I5.set {L : List Str} {ps : List (Fm × Fm)} {env : Env} (h : I5 L ps env) {i : Nat} (w : Option W) (hi : 6 ≤ i) : I5 L ps (env.set i w) := by
  obtain ⟨h0, h1, h3, h4, h5⟩ := h
  exact ⟨by simpa using h0, by rw [set_get (by omega)]; exact h1, by rw [set_get (by omega)]; exact h3, by rw [set_get (by omega)]; exact h4, by rw [set_get (by omega)]; exact h5⟩
theorem t2 {x y : D} {n : Nat} (h : Pd n x) (h' : Pd n y) : Pd (n + 1) (.lst [x, y]) := pd_lst (by simp) (by intro z hz; simp at hz; rcases hz with rfl | rfl; exact h; exact h')
theorem lR (H : HasN P) {L : List Str} {ps : List (Fm × Fm)} (B : Bk L ps) {env : Env} (I : I5 L ps env) {x : D} (hx : Pd 2 x) (hd : 40 ≤ d) : ∃ env', exs (gAt P cap d) l2_3_9b (env.set 16 (some (.d x))) s = .nx env' s ∧ I5 L ps env' := by
  have hn : L.length ≤ 12 := by have := B.ln; omega
  have hLp : Pd 1 (.lst (L.map D.str)) := pd_lets L (by omega)
  have q47 := fun s => c47 (cap := cap) (d := d) (s := s) H.y.r (seq_l (L.map D.str)) hn hx.1 (by omega)
  have q31 := fun s => copied (cap := cap) (d := d) (s := s) H.k.d.c hx (by omega)
  have q21 := fun s => c21_ok (cap := cap) (d := d) (s := s) H.b hLp.1 (seq_l (L.map D.str)) B.lo hn hx.1 (by omega)
  have q21' := fun s => c21_ok (cap := cap) (d := d) (s := s) (l := .tup (L.map D.str)) H.b hLp.1 (seq_t (L.map D.str)) B.lo hn hx.1 (by omega)
  have hf := pd_rkFault (2 ^ L.length) x
  have s1 := fun s => same (cap := cap) (d := d) (s := s) H.k.d.c (t2 hf hf) (by omega)
  have s2 := fun s => same (cap := cap) (d := d) (s := s) H.k.d.c hx (by omega)
  have s3 := fun s => same (cap := cap) (d := d) (s := s) H.k.d.c (x := .tup [.str (metW 3), rkFault (2 ^ L.length) x]) (n := 2) (pd_tup (by simp) (by intro z hz; simp at hz; rcases hz with rfl | rfl; exact (pd_str _).mono (by omega); exact hf)) (by omega)
  obtain ⟨h0, h1, h3, h4, h5⟩ := I
  refine ⟨((env.set 16 (some (.d x))).set 19 (some (.d (rkFault (2 ^ L.length) x)))).set 20 (some (.d x)), ?_, (((I5.mk h0 h1 h3 h4 h5).set _ (by omega)).set _ (by omega)).set _ (by omega)⟩
  have e1 : ex (gAt P cap d) l2_3_9_1 (env.set 16 (some (.d x))) s = .nx (((env.set 16 (some (.d x))).set 19 (some (.d (rkFault (2 ^ L.length) x)))).set 20 (some (.d x))) s := by
    have a4 : (env.set 16 (some (.d x)))[4]? = some (some (.d (.lst (L.map D.str)))) := by rw [set_get (by omega)]; exact h4
    have a16 : (env.set 16 (some (.d x)))[16]? = some (some (.d x)) := set_get' (by omega)
    simp [l2_3_9_1, a4, a16, q47, q31]
  generalize hE : ((env.set 16 (some (.d x))).set 19 (some (.d (rkFault (2 ^ L.length) x)))).set 20 (some (.d x)) = E at e1 ⊢
  have g3 : E[3]? = some (some (.d (bookD L ps))) := by subst hE; rw [set_get (by omega), set_get (by omega), set_get (by omega)]; exact h3
  have g4 : E[4]? = some (some (.d (.lst (L.map D.str)))) := by subst hE; rw [set_get (by omega), set_get (by omega), set_get (by omega)]; exact h4
  have g16 : E[16]? = some (some (.d x)) := by subst hE; rw [set_get (by omega), set_get (by omega)]; exact set_get' (by omega)
  have g19 : E[19]? = some (some (.d (rkFault (2 ^ L.length) x))) := by subst hE; rw [set_get (by omega)]; exact set_get' (by simp; omega)
  have g20 : E[20]? = some (some (.d x)) := by subst hE; exact set_get' (by simp; omega)
  have e2 : ex (gAt P cap d) l2_3_9_2 E s = .nx E s := by
    simp [l2_3_9_2, g4, g16, g19, g20, q21, q21', q31, s1, s2]
  have e3 : ex (gAt P cap d) l2_3_9_3 E s = .nx E s := by
    cases hfn : (rkFault (2 ^ L.length) x).isNon
    · obtain ⟨e, rfl⟩ : ∃ e, d = e + 2 := ⟨d - 2, by omega⟩
      have q24 := fun s => c24_rk (cap := cap) (d := e) (s := s) (x := .non) H.b hLp.1 (seq_l (L.map D.str)) B.lo hn hx.1 hfn (by omega)
      have q53 := c53 (cap := cap) (d := e) (s := s) H (b := .call 24 (.cons (.bi .list (.var 4)) (.cons (.var 16) (.cons .non .nil)))) (env := captured E) (c := 3) (x := rkFault (2 ^ L.length) x) (t := s.stm) (cs := []) (by omega) (by simp [cap_get g4, cap_get g16, q24])
      simp [l2_3_9_3, g19, hfn, q53, metW, wRanks] at s3 ⊢
      simp [s3]
    · simp [l2_3_9_3, g19, hfn]
  have e4 : ex (gAt P cap d) l2_3_9_4 E s = .nx E s := by
    cases hfn : (rkFault (2 ^ L.length) x).isNon
    · obtain ⟨e, rfl⟩ : ∃ e, d = e + 2 := ⟨d - 2, by omega⟩
      have hb := bk_nrm B rfl
      obtain ⟨l, ss, xs, y1, y2, y3, y4⟩ := hb.seq
      have q31b := fun s => copied (cap := cap) (d := e) (s := s) H.k.d.c hb.pd (by omega)
      have q26 := fun s => c26_rk (cap := cap) (d := e) (s := s) H.b hb.pd.1 (by have := hb.pd.2; omega) (by have := hb.pd.2; omega) hb.flt y1 y2 hn hx.1 hfn
      have q53 := c53 (cap := cap) (d := e) (s := s) H (b := .call 26 (.cons (.call 31 (.cons (.var 3) .nil)) (.cons (.var 16) .nil))) (env := captured E) (c := 3) (x := rkFault (2 ^ L.length) x) (t := s.stm) (cs := []) (by omega) (by simp [cap_get g3, cap_get g16, q31b, q26])
      simp [l2_3_9_4, g19, hfn, q53, metW, wRanks] at s3 ⊢
      simp [s3]
    · simp [l2_3_9_4, g19, hfn]
  simp [l2_3_9b, e1, e2, e3, e4]
end K11
end Us
end

section
set_option linter.all false
set_option maxRecDepth 100000
/-! Us.B21: law k11's own run: drawn ranks. -/
namespace Us
open PySem (Str)
variable {P : Prg} {cap : Int → Bool} {d : Nat} {s : S}
/-- a loop whose turns draw, and keep what is kept -/
theorem forL_dr {tg : Tg} {b : Env → S → RS} (J : Env → List (Bool × D) → Prop) (k : Nat) : ∀ (xs : List D), (∀ x ∈ xs, ∀ env (t : Stm) cs, J env cs → 0 ≤ t.ct → t.ct + (k : Int) < 1099511627776 → ∃ env1 env2 t' cs', bindT tg x env = some env1 ∧ b env1 ⟨t, cs⟩ = .nx env2 ⟨t', cs'⟩ ∧ t.ct ≤ t'.ct ∧ t'.ct ≤ t.ct + k ∧ J env2 cs') → ∀ env (t : Stm) cs, J env cs → 0 ≤ t.ct → t.ct + (k : Int) * (xs.length : Int) < 1099511627776 → ∃ env' t' cs', forL tg b xs env ⟨t, cs⟩ = .nx env' ⟨t', cs'⟩ ∧ t.ct ≤ t'.ct ∧ t'.ct ≤ t.ct + k * xs.length ∧ J env' cs'
  | [], _, env, t, cs, hJ, _, _ => ⟨env, t, cs, rfl, by omega, by simp, hJ⟩
  | x :: xs, hb, env, t, cs, hJ, h0, hk => by
    have hm : (k : Int) * ((x :: xs).length : Int) = (k : Int) * (xs.length : Int) + k := by
      simp only [List.length_cons, Int.natCast_add, Int.mul_add]; simp
    have hm0 : 0 ≤ (k : Int) * (xs.length : Int) := Int.mul_nonneg (by omega) (by omega)
    rw [hm] at hk ⊢
    obtain ⟨env1, env2, t', cs', e1, e2, h1, h2, h3⟩ := hb x (by simp) env t cs hJ h0 (by omega)
    obtain ⟨env3, t2, cs2, e3, h4, h5, h6⟩ := forL_dr J k xs (fun y hy => hb y (by simp [hy])) env2 t' cs' h3 (by omega) (by omega)
    refine ⟨env3, t2, cs2, ?_, by omega, by omega, h6⟩
    simp only [forL, e1, e2, e3]
theorem forL_keep {tg : Tg} {b : Env → S → RS} (J : Env → Prop) : ∀ (xs : List D), (∀ x ∈ xs, ∀ env, J env → ∃ env1 env2, bindT tg x env = some env1 ∧ b env1 s = .nx env2 s ∧ J env2) → ∀ env, J env → ∃ env', forL tg b xs env s = .nx env' s ∧ J env'
  | [], _, env, hJ => ⟨env, rfl, hJ⟩
  | x :: xs, hb, env, hJ => by
    obtain ⟨env1, env2, e1, e2, h1⟩ := hb x (by simp) env hJ
    obtain ⟨env3, e3, h2⟩ := forL_keep J xs (fun y hy => hb y (by simp [hy])) env2 h1
    refine ⟨env3, ?_, h2⟩
    simp only [forL, e1, e2, e3]
theorem mem2i (k a b : Int) : memD (.int k) (.tup [.int a, .int b]) = some (decide (a = k) || decide (b = k)) := by
  simp [memD, D.atom, D.eqv]
theorem say_nodes {L : List Str} {p : Fm × Fm} (h : okS L 3 p) : (sayD p).nodes ≤ 31 := by
  obtain ⟨_, _, h1, h2⟩ := h
  have a := fm_nodes p.1
  have b := fm_nodes p.2
  have a' : 2 ^ (p.1.dep + 1) ≤ 2 ^ 4 := Nat.pow_le_pow_right (by omega) (by omega)
  have b' : 2 ^ (p.2.dep + 1) ≤ 2 ^ 4 := Nat.pow_le_pow_right (by omega) (by omega)
  simp only [sayD, D.nodes, D.nodess]; omega
theorem str_nodes (L : List Str) : D.nodess (L.map D.str) = 0 := by induction L <;> simp [D.nodess, D.nodes, *]
theorem bk_nodes {L : List Str} {ps : List (Fm × Fm)} (B : Bk L ps) : (bookD L ps).nodes ≤ 220 := by
  have : ∀ qs : List (Fm × Fm), (∀ q ∈ qs, okS L 3 q) → D.nodess (qs.map sayD) ≤ 31 * qs.length := by
    intro qs
    induction qs with
    | nil => intro _; simp [D.nodess]
    | cons q qs ih =>
      intro h
      have h1 := say_nodes (h q (by simp))
      have h2 := ih fun r hr => h r (by simp [hr])
      simp only [List.map_cons, D.nodess, List.length_cons]; omega
  have h1 := this ps B.ok
  have h2 := B.pn
  simp only [bookD, D.nodes, D.nodess, str_nodes]; omega
theorem drD {α : Type} {k m : Nat} {r : R α} {Q : α → Prop} (h : Dr k s r Q) (hm : k ≤ m) : Dr m s r Q := by
  intro h0 hk
  obtain ⟨a, t, e, h1, h2, h3⟩ := h h0 (by omega)
  exact ⟨a, t, e, h1, by omega, h3⟩
namespace K11
structure Rk (env : Env) (rs : List (Option Int)) : Prop where
  e7 : env[7]? = some (some (.d (.lst (rs.map rkD))))
theorem lA1 (H : HasN P) (C : Cap cap) {L : List Str} {ps : List (Fm × Fm)} (B : Bk L ps) {env : Env} (I : I5 L ps env) (hd : 40 ≤ d) (t : Stm) (cs : List (Bool × D)) (h0 : 0 ≤ t.ct) (hk : t.ct + 60 < 1099511627776) : ∃ rs t', ex (gAt P cap d) l2_3_1 env ⟨t, cs⟩ = .nx (env.set 7 (some (.d (.lst (rs.map rkD))))) ⟨t', cs⟩ ∧ t.ct ≤ t'.ct ∧ t'.ct ≤ t.ct + 60 ∧ RkOk (2 ^ L.length) rs := by
  obtain ⟨y, t', e, h1, h2, rs, rfl, h3⟩ := c52 (cap := cap) (d := d) (s := ⟨t, cs⟩) H C B (by omega) h0 hk
  exact ⟨rs, t', by simp [l2_3_1, I.e1, I.e3, e], h1, h2, h3⟩
theorem lA2 (H : HasN P) (C : Cap cap) {L : List Str} {ps : List (Fm × Fm)} (B : Bk L ps) {env : Env} (I : I5 L ps env) {rs : List (Option Int)} (hr : RkOk (2 ^ L.length) rs) (e7 : env[7]? = some (some (.d (.lst (rs.map rkD))))) (hd : 40 ≤ d) (t : Stm) (cs : List (Bool × D)) (h0 : 0 ≤ t.ct) (hk : t.ct + 44 < 1099511627776) : ∃ p t', ex (gAt P cap d) l2_3_2 env ⟨t, cs⟩ = .nx ((env.set 8 (some (.d (unb (wlds L) rs ps)))).set 9 (some (.d (sayD p)))) ⟨t', cs⟩ ∧ t.ct ≤ t'.ct ∧ t'.ct ≤ t.ct + 44 ∧ okS L 3 p := by
  obtain ⟨e, rfl⟩ : ∃ e, d = e + 1 := ⟨d - 1, by omega⟩
  have hn : L.length ≤ 12 := by have := B.ln; omega
  have q46 := fun s => c46 (cap := cap) (d := e + 1) (s := s) (b := bookD L ps) (rest := []) H.y.r rfl (seq_l (L.map D.str)) hn (seq_l (ps.map sayD)) (by have := B.pn; simp; omega) (bk_says B) (r := .lst (rs.map rkD)) (seq_l _) (by intro p hp; have := bk_sdep B p hp; omega) (by omega)
  obtain ⟨y, t1, e1, h1, h2, p, rfl, h3⟩ := c35 (cap := cap) (d := e + 1) (s := ⟨t, cs⟩) H.k.d C (L := L) hn (by omega) h0 (by simp; omega)
  simp at e1 h1 h2
  have hpn := B.pn
  obtain ⟨y, t2, e2, h4, h5, h6⟩ := c27 (cap := cap) (d := e) (s := ⟨t1, cs⟩) H.k.d.c C (ps.map sayD ++ [sayD p]) (by simp) (by simp; omega) (by simp; omega) (by simp; omega)
  simp at e2 h4 h5 h6
  obtain ⟨q, rfl, hq⟩ : ∃ q, y = sayD q ∧ okS L 3 q := by
    rcases h6 with ⟨a, b, g3, rfl⟩ | rfl
    · exact ⟨_, rfl, B.ok _ g3⟩
    · exact ⟨p, rfl, okS_mono h3 (by omega)⟩
  have hl : ps.length + 1 ≤ lim := by simp only [lim]; omega
  refine ⟨q, t2, ?_, by omega, by omega, hq⟩
  simp [l2_3_2, I.e1, I.e3, I.e4, I.e5, e7, q46, e1, hl, e2]
theorem lA3 (H : HasN P) {L : List Str} {ps : List (Fm × Fm)} (B : Bk L ps) {env : Env} (I : I5 L ps env) {rs : List (Option Int)} (e7 : env[7]? = some (some (.d (.lst (rs.map rkD))))) {p : Fm × Fm} (hp : okS L 3 p) (e9 : env[9]? = some (some (.d (sayD p)))) (hd : 40 ≤ d) : ex (gAt P cap d) l2_3_3 env s = .nx (env.set 10 (some (.d (.bl (bearB (wlds L) rs p))))) s := by
  have hn : L.length ≤ 12 := by have := B.ln; omega
  have q45 := fun s => c45 (cap := cap) (d := d) (s := s) H.y.r (seq_l (L.map D.str)) hn (say_to B.ll hp) (r := .lst (rs.map rkD)) (seq_l _) (by obtain ⟨_, _, a, b⟩ := hp; unfold sdep; omega)
  simp [l2_3_3, I.e4, e7, e9, q45]
theorem lA4 (H : HasN P) (C : Cap cap) {L : List Str} {ps : List (Fm × Fm)} (B : Bk L ps) {env : Env} (I : I5 L ps env) {rs : List (Option Int)} (hr : RkOk (2 ^ L.length) rs) (e7 : env[7]? = some (some (.d (.lst (rs.map rkD))))) (hd : 40 ≤ d) (t : Stm) (cs : List (Bool × D)) (h0 : 0 ≤ t.ct) (hk : t.ct + 220 < 1099511627776) : ∃ t', ex (gAt P cap d) l2_3_4 env ⟨t, cs⟩ = .nx (env.set 11 (some (.d (.lst [unb (wlds L) rs ps, unb (wlds L) rs ps])))) ⟨t', cs⟩ ∧ t.ct ≤ t'.ct ∧ t'.ct ≤ t.ct + 220 := by
  have hn : L.length ≤ 12 := by have := B.ln; omega
  have hb := pd_bk B
  have hrp := pd_rks hr (pow_le8 B).2
  obtain ⟨y, t', e, h1, h2, h3⟩ := drD (c37 (cap := cap) (d := d) (s := ⟨t, cs⟩) H.k.d.c C hb.1 (by have := hb.2; omega)) (bk_nodes B) h0 hk
  have q26 : ∀ y r, BkY y L ps → Pd 1 r → seqD r = some (rs.map rkD) → ∀ s, callAt P cap d 26 [.d y, .d r] s = .ok (unb (wlds L) rs ps) s := by
    intro y r hy hr' hrs s
    obtain ⟨l, ss, xs, y1, y2, y3, y4⟩ := hy.seq
    exact c26_ok H.b hy.pd.1 (by have := hy.pd.2; omega) (by have := hy.pd.2; omega) hy.flt y1 y2 hn hr'.1 (rk_flt hr hrs) hrs y3 y4 (by intro p hp; have := bk_sdep B p hp; omega)
  have q1 := q26 y (.tup (rs.map rkD)) (bk_nrm B h3) hrp (seq_t _)
  have q2 := q26 (bookD L ps) (.lst (rs.map rkD)) (bk_nrm B rfl) hrp (seq_l _)
  have q31 := fun s => copied (cap := cap) (d := d) (s := s) H.k.d.c hb (by omega)
  refine ⟨t', ?_, h1, h2⟩
  simp at e
  simp [l2_3_4, I.e1, I.e3, e7, e, q1, q2, q31]
theorem lA5 (H : HasN P) (C : Cap cap) {L : List Str} {ps : List (Fm × Fm)} (B : Bk L ps) {env : Env} (I : I5 L ps env) {rs : List (Option Int)} (hr : RkOk (2 ^ L.length) rs) (e7 : env[7]? = some (some (.d (.lst (rs.map rkD))))) {p : Fm × Fm} (hp : okS L 3 p) (e9 : env[9]? = some (some (.d (sayD p)))) (hd : 40 ≤ d) (t : Stm) (cs : List (Bool × D)) (h0 : 0 ≤ t.ct) (hk : t.ct + 31 < 1099511627776) : ∃ t', ex (gAt P cap d) l2_3_5 env ⟨t, cs⟩ = .nx (env.set 12 (some (.d (.lst [.bl (bearB (wlds L) rs p), .bl (bearB (wlds L) rs p)])))) ⟨t', cs⟩ ∧ t.ct ≤ t'.ct ∧ t'.ct ≤ t.ct + 31 := by
  have hn : L.length ≤ 12 := by have := B.ln; omega
  have hb := pd_say hp
  have hrp := pd_rks hr (pow_le8 B).2
  have hlp := pd_lets L (by omega)
  obtain ⟨y, t', e, h1, h2, h3⟩ := drD (c37 (cap := cap) (d := d) (s := ⟨t, cs⟩) H.k.d.c C hb.1 (by have := hb.2; omega)) (say_nodes hp) h0 hk
  have q24 : ∀ l r y, SyY y L p → Pd 1 l → seqD l = some (L.map D.str) → Pd 1 r → seqD r = some (rs.map rkD) → ∀ s, callAt P cap d 24 [.d l, .d r, .d y] s = .ok (.bl (bearB (wlds L) rs p)) s := by
    intro l r y hy hl hls hr' hrs s
    exact c24_ok H.b hl.1 hls B.lo hn hr'.1 (rk_flt hr hrs) hrs hy.pd.1 (by have := hy.pd.2; omega) hy.is hy.to (by have := hy.pd.2; omega)
  have q1 := q24 (.tup (L.map D.str)) (.lst (rs.map rkD)) y (sy_nrm B.ll hp h3) hlp (seq_t _) hrp (seq_l _)
  have q2 := q24 (.lst (L.map D.str)) (.tup (rs.map rkD)) (sayD p) (sy_nrm B.ll hp rfl) hlp (seq_l _) hrp (seq_t _)
  have q31 := fun s => copied (cap := cap) (d := d) (s := s) H.k.d.c hb (by omega)
  refine ⟨t', ?_, h1, h2⟩
  simp at e
  simp [l2_3_5, I.e1, I.e4, e7, e9, e, q1, q2, q31]
theorem lA6 (H : HasN P) {env : Env} {x y : D} (hx : Pd 0 x) (hy : Pd 0 y) (e8 : env[8]? = some (some (.d x))) (e10 : env[10]? = some (some (.d y))) (e11 : env[11]? = some (some (.d (.lst [x, x])))) (e12 : env[12]? = some (some (.d (.lst [y, y])))) (hd : 40 ≤ d) : ex (gAt P cap d) l2_3_6 env s = .nx env s := by
  have q1 := fun s => same (cap := cap) (d := d) (s := s) H.k.d.c (t2 hx hx) (by omega)
  have q2 := fun s => same (cap := cap) (d := d) (s := s) H.k.d.c (t2 hy hy) (by omega)
  simp [l2_3_6, e8, e10, e11, e12, q1, q2]
theorem lA7 (C : Cap cap) {env : Env} {n : Nat} {rs : List (Option Int)} (hr : RkOk n rs) (hn : 1 ≤ n ∧ n ≤ 8) (e1 : env[1]? = some (some (.d .stm))) (e7 : env[7]? = some (some (.d (.lst (rs.map rkD))))) (t : Stm) (cs : List (Bool × D)) (h0 : 0 ≤ t.ct) (hk : t.ct + 1 < 1099511627776) : ∃ r t', ex (gAt P cap d) l2_3_7 env ⟨t, cs⟩ = .nx (env.set 13 (some (.d (.int r)))) ⟨t', cs⟩ ∧ t'.ct = t.ct + 1 := by
  have hl := hr.1
  obtain ⟨r, t1, e, h1, h2, h3⟩ := draw_if C ⟨t, cs⟩ (m := rs.length) (by omega) (by omega) (by simp; omega)
  simp at e h3
  exact ⟨r, t1, by simp [l2_3_7, e1, e7, e], h3⟩
theorem lA8 (H : HasN P) (C : Cap cap) {env : Env} {n : Nat} {rs : List (Option Int)} (hr : RkOk n rs) (hn : 1 ≤ n ∧ n ≤ 8) (e1 : env[1]? = some (some (.d .stm))) (e7 : env[7]? = some (some (.d (.lst (rs.map rkD))))) (hd : 40 ≤ d) (t : Stm) (cs : List (Bool × D)) (h0 : 0 ≤ t.ct) (hk : t.ct + 2 < 1099511627776) : ∃ o r t', ex (gAt P cap d) l2_3_8 env ⟨t, cs⟩ = .nx ((env.set 14 (some (.d o))).set 15 (some (.d (.int r)))) ⟨t', cs⟩ ∧ t.ct ≤ t'.ct ∧ t'.ct ≤ t.ct + 2 ∧ Pd 1 o := by
  obtain ⟨e, rfl⟩ : ∃ e, d = e + 1 := ⟨d - 1, by omega⟩
  have hl := hr.1
  obtain ⟨y, t1, f1, g1, g2, g3⟩ := c27 (cap := cap) (d := e) (s := ⟨t, cs⟩) H.k.d.c C [.int (-1), .bl true, .str (sx [48]), .lst [.int 0]] (by simp) (by simp) h0 (by simp; omega)
  simp at f1 g1 g2
  obtain ⟨r, t2, e, h1, h2, h3⟩ := draw_if C ⟨t1, cs⟩ (m := rs.length) (by omega) (by omega) (by simp; omega)
  simp at e h3
  refine ⟨y, r, t2, by simp [l2_3_8, e1, e7, f1, e], by omega, by omega, ?_⟩
  simp at g3
  rcases g3 with rfl | rfl | rfl | rfl
  · exact (pd_int _).mono (by omega)
  · exact (pd_bl _).mono (by omega)
  · exact (pd_str _).mono (by omega)
  · exact pd_lst (by simp) (by intro x hx; simp at hx; subst hx; exact pd_int _)
theorem lA9 (H : HasN P) {L : List Str} {ps : List (Fm × Fm)} (B : Bk L ps) {env : Env} (I : I5 L ps env) {rs : List (Option Int)} (hr : RkOk (2 ^ L.length) rs) (e7 : env[7]? = some (some (.d (.lst (rs.map rkD))))) {o : D} (ho : Pd 1 o) {i j : Int} (e13 : env[13]? = some (some (.d (.int i)))) (e14 : env[14]? = some (some (.d o))) (e15 : env[15]? = some (some (.d (.int j)))) (hd : 40 ≤ d) : ∃ env', ex (gAt P cap d) l2_3_9 env s = .nx env' s ∧ I5 L ps env' := by
  have hp := pow_le8 B
  have hrl := hr.1
  have hl1 : rs.length + 1 ≤ lim := by simp only [lim]; omega
  have hrp := pd_rks hr hp.2
  have fr := from_l (rs.map rkD) 1
  simp at fr
  have he : enumD (rs.map rkD) = rs.zipIdx.map fun a => D.tup [.int a.2, rkD a.1] := by
    unfold enumD; rw [List.zipIdx_map]; simp
  have hl : env.length = 22 := I.len
  have hc : ∀ s, compL (cstep (gAt P cap d) [17, 18] (.ite (.cmp .mem (.var 17) (.tup (.cons (.var 13) (.cons (.var 15) .nil)))) (.var 14) (.var 18)) (.tp [(.nm 17), (.nm 18)]) env) (enumD (rs.map rkD)) [] s = .ok (.lst (rs.zipIdx.map fun a => if (decide (i = (a.2 : Int)) || decide (j = (a.2 : Int))) = true then o else rkD a.1)) s := by
    intro s
    rw [he]
    refine compL_mapOf (fun (a : Option Int × Nat) => D.tup [.int a.2, rkD a.1]) (fun a => if (decide (i = (a.2 : Int)) || decide (j = (a.2 : Int))) = true then o else rkD a.1) ?_ (by simp only [lim]; simp; omega)
    rintro ⟨q, k⟩ _
    obtain ⟨E, hE⟩ : ∃ E, E = (((env.set 18 none).set 17 none).set 17 (some (.d (.int k)))).set 18 (some (.d (rkD q))) := ⟨_, rfl⟩
    have a13 : E[13]? = some (some (.d (.int i))) := by subst hE; rw [set_get (by omega), set_get (by omega), set_get (by omega), set_get (by omega)]; exact e13
    have a14 : E[14]? = some (some (.d o)) := by subst hE; rw [set_get (by omega), set_get (by omega), set_get (by omega), set_get (by omega)]; exact e14
    have a15 : E[15]? = some (some (.d (.int j))) := by subst hE; rw [set_get (by omega), set_get (by omega), set_get (by omega), set_get (by omega)]; exact e15
    have a17 : E[17]? = some (some (.d (.int k))) := by subst hE; rw [set_get (by omega)]; exact set_get' (by simp; omega)
    have a18 : E[18]? = some (some (.d (rkD q))) := by subst hE; exact set_get' (by simp; omega)
    simp only [comp1, wipe, bindT, bindT.bindTs, Option.bind_some]
    rw [← hE]
    simp [a13, a14, a15, a17, a18, mem2i]
    cases hq : decide (i = (k : Int)) || decide (j = (k : Int)) <;> simp_all
  have pc : Pd 2 (.lst (rs.zipIdx.map fun a => if (decide (i = (a.2 : Int)) || decide (j = (a.2 : Int))) = true then o else rkD a.1)) := by
    refine pd_lst (by simp; omega) ?_
    intro x hx
    rw [List.mem_map] at hx
    obtain ⟨a, _, rfl⟩ := hx
    split
    · exact ho
    · exact pd_rk.mono (by omega)
  generalize hM : (rs.zipIdx.map fun a => if (decide (i = (a.2 : Int)) || decide (j = (a.2 : Int))) = true then o else rkD a.1) = M at hc pc
  obtain ⟨env', e, hI⟩ := forL_keep (s := s) (tg := .nm 16) (b := exs (gAt P cap d) l2_3_9b) (I5 L ps) [.lst (rs.map rkD), .tup (rs.map rkD), .lst (rs.map rkD ++ [.int 0]), .lst ((rs.map rkD).drop 1), .non, .str (sx [97, 98]), .dic [], .lst M] (by
    intro x hx env hI
    have hp2 : Pd 2 x := by
      simp only [List.mem_cons, List.not_mem_nil, or_false] at hx
      rcases hx with rfl | rfl | rfl | rfl | rfl | rfl | rfl | rfl
      · exact hrp.mono (by omega)
      · exact (pd_t hrp).mono (by omega)
      · refine (pd_lst (n := 0) (by simp; omega) ?_).mono (by omega)
        intro x hx
        rcases List.mem_append.mp hx with hx | hx
        · simp only [List.mem_map] at hx
          obtain ⟨q, _, rfl⟩ := hx
          exact pd_rk
        · simp at hx; subst hx; exact pd_int _
      · exact (pd_sub hrp (fun y hy => List.mem_of_mem_drop hy) (by simp; omega)).mono (by omega)
      · exact pd_non.mono (by omega)
      · exact (pd_str _).mono (by omega)
      · exact pd_dic.mono (by omega)
      · exact pc
    obtain ⟨env2, e2, h2⟩ := lR (s := s) H B hI hp2 hd
    exact ⟨_, env2, rfl, e2, h2⟩) env I
  refine ⟨env', ?_, hI⟩
  simp [l2_3_9, e7, hl1, pairs, dmerge, fr, hc]
  simpa using e
end K11
end Us
end

section
set_option linter.all false
set_option maxRecDepth 100000
/-! Us.B22: law k11's own run: bent books, the last asks, the turns. -/
namespace Us
open PySem (Str)
variable {P : Prg} {cap : Int → Bool} {d : Nat} {s : S}
namespace K11
theorem lA (H : HasN P) (C : Cap cap) {L : List Str} {ps : List (Fm × Fm)} (B : Bk L ps) {env : Env} (I : I5 L ps env) (hd : 40 ≤ d) (t : Stm) (cs : List (Bool × D)) (h0 : 0 ≤ t.ct) (hk : t.ct + 400 < 1099511627776) : ∃ env' t', exs (gAt P cap d) l2_3b env ⟨t, cs⟩ = .nx env' ⟨t', cs⟩ ∧ t.ct ≤ t'.ct ∧ t'.ct ≤ t.ct + 400 ∧ I5 L ps env' := by
  have hl : env.length = 22 := I.len
  obtain ⟨rs, t1, e1, a1, b1, hr⟩ := lA1 (d := d) H C B I hd t cs h0 (by omega)
  obtain ⟨E1, hE1⟩ : ∃ E, E = env.set 7 (some (.d (.lst (rs.map rkD)))) := ⟨_, rfl⟩
  have I1 : I5 L ps E1 := hE1 ▸ I.set _ (by omega)
  have f7 : E1[7]? = some (some (.d (.lst (rs.map rkD)))) := by rw [hE1]; exact set_get' (by omega)
  rw [← hE1] at e1
  obtain ⟨p, t2, e2, a2, b2, hp⟩ := lA2 (d := d) H C B I1 hr f7 hd t1 cs (by omega) (by omega)
  obtain ⟨E2, hE2⟩ : ∃ E, E = (E1.set 8 (some (.d (unb (wlds L) rs ps)))).set 9 (some (.d (sayD p))) := ⟨_, rfl⟩
  have I2 : I5 L ps E2 := hE2 ▸ (I1.set _ (by omega)).set _ (by omega)
  have l1 := I1.len
  have f27 : E2[7]? = some (some (.d (.lst (rs.map rkD)))) := by rw [hE2, set_get (by omega), set_get (by omega)]; exact f7
  have f28 : E2[8]? = some (some (.d (unb (wlds L) rs ps))) := by rw [hE2, set_get (by omega)]; exact set_get' (by omega)
  have f29 : E2[9]? = some (some (.d (sayD p))) := by rw [hE2]; exact set_get' (by simp; omega)
  rw [← hE2] at e2
  have e3 := lA3 (cap := cap) (d := d) (s := ⟨t2, cs⟩) H B I2 f27 hp f29 hd
  obtain ⟨E3, hE3⟩ : ∃ E, E = E2.set 10 (some (.d (.bl (bearB (wlds L) rs p)))) := ⟨_, rfl⟩
  have l2 := I2.len
  have I3 : I5 L ps E3 := hE3 ▸ I2.set _ (by omega)
  have f37 : E3[7]? = some (some (.d (.lst (rs.map rkD)))) := by rw [hE3, set_get (by omega)]; exact f27
  rw [← hE3] at e3
  obtain ⟨t4, e4, a4, b4⟩ := lA4 (d := d) H C B I3 hr f37 hd t2 cs (by omega) (by omega)
  obtain ⟨E4, hE4⟩ : ∃ E, E = E3.set 11 (some (.d (.lst [unb (wlds L) rs ps, unb (wlds L) rs ps]))) := ⟨_, rfl⟩
  have l3 := I3.len
  have I4 : I5 L ps E4 := hE4 ▸ I3.set _ (by omega)
  have f47 : E4[7]? = some (some (.d (.lst (rs.map rkD)))) := by rw [hE4, set_get (by omega)]; exact f37
  have f49 : E4[9]? = some (some (.d (sayD p))) := by rw [hE4, set_get (by omega), hE3, set_get (by omega)]; exact f29
  rw [← hE4] at e4
  obtain ⟨t5, e5, a5, b5⟩ := lA5 (d := d) H C B I4 hr f47 hp f49 hd t4 cs (by omega) (by omega)
  obtain ⟨E5, hE5⟩ : ∃ E, E = E4.set 12 (some (.d (.lst [.bl (bearB (wlds L) rs p), .bl (bearB (wlds L) rs p)]))) := ⟨_, rfl⟩
  have l4 := I4.len
  have I5' : I5 L ps E5 := hE5 ▸ I4.set _ (by omega)
  have f57 : E5[7]? = some (some (.d (.lst (rs.map rkD)))) := by rw [hE5, set_get (by omega)]; exact f47
  have f58 : E5[8]? = some (some (.d (unb (wlds L) rs ps))) := by rw [hE5, set_get (by omega), hE4, set_get (by omega), hE3, set_get (by omega)]; exact f28
  have f510 : E5[10]? = some (some (.d (.bl (bearB (wlds L) rs p)))) := by rw [hE5, set_get (by omega), hE4, set_get (by omega), hE3]; exact set_get' (by omega)
  have f511 : E5[11]? = some (some (.d (.lst [unb (wlds L) rs ps, unb (wlds L) rs ps]))) := by rw [hE5, set_get (by omega), hE4]; exact set_get' (by omega)
  have f512 : E5[12]? = some (some (.d (.lst [.bl (bearB (wlds L) rs p), .bl (bearB (wlds L) rs p)]))) := by rw [hE5]; exact set_get' (by omega)
  rw [← hE5] at e5
  have e6 := lA6 (cap := cap) (d := d) (s := ⟨t5, cs⟩) H (pd_unb (wlds L) rs ps) (pd_bl (bearB (wlds L) rs p)) f58 f510 f511 f512 hd
  obtain ⟨i, t7, e7, a7⟩ := lA7 (P := P) (d := d) C hr (pow_le8 B) I5'.e1 f57 t5 cs (by omega) (by omega)
  obtain ⟨E7, hE7⟩ : ∃ E, E = E5.set 13 (some (.d (.int i))) := ⟨_, rfl⟩
  have l5 := I5'.len
  have I7 : I5 L ps E7 := hE7 ▸ I5'.set _ (by omega)
  have f77 : E7[7]? = some (some (.d (.lst (rs.map rkD)))) := by rw [hE7, set_get (by omega)]; exact f57
  have f713 : E7[13]? = some (some (.d (.int i))) := by rw [hE7]; exact set_get' (by omega)
  rw [← hE7] at e7
  obtain ⟨o, j, t8, e8, a8, b8, ho⟩ := lA8 (d := d) H C hr (pow_le8 B) I7.e1 f77 hd t7 cs (by omega) (by omega)
  obtain ⟨E8, hE8⟩ : ∃ E, E = (E7.set 14 (some (.d o))).set 15 (some (.d (.int j))) := ⟨_, rfl⟩
  have l7 := I7.len
  have I8 : I5 L ps E8 := hE8 ▸ (I7.set _ (by omega)).set _ (by omega)
  have f87 : E8[7]? = some (some (.d (.lst (rs.map rkD)))) := by rw [hE8, set_get (by omega), set_get (by omega)]; exact f77
  have f813 : E8[13]? = some (some (.d (.int i))) := by rw [hE8, set_get (by omega), set_get (by omega)]; exact f713
  have f814 : E8[14]? = some (some (.d o)) := by rw [hE8, set_get (by omega)]; exact set_get' (by omega)
  have f815 : E8[15]? = some (some (.d (.int j))) := by rw [hE8]; exact set_get' (by simp; omega)
  rw [← hE8] at e8
  obtain ⟨E9, e9, I9⟩ := lA9 (cap := cap) (d := d) (s := ⟨t8, cs⟩) H B I8 hr f87 ho f813 f814 f815 hd
  refine ⟨E9, t8, ?_, by omega, by omega, I9⟩
  simp only [l2_3b, exs_cons, exs_nil, e1, e2, e3, e4, e5, e6, e7, e8, e9, seq_nx]
theorem lB (H : HasN P) (C : Cap cap) {L : List Str} {ps : List (Fm × Fm)} (B : Bk L ps) {env : Env} (I : I5 L ps env) {k : Int} (f6 : env[6]? = some (some (.d (.int k)))) (hd : 40 ≤ d) (t : Stm) (cs : List (Bool × D)) (h0 : 0 ≤ t.ct) (hk : t.ct + 5 < 1099511627776) : ∃ env' t', exs (gAt P cap d) l2_4b env ⟨t, cs⟩ = .nx env' ⟨t', cs⟩ ∧ t.ct ≤ t'.ct ∧ t'.ct ≤ t.ct + 5 ∧ I5 L ps env' := by
  have hb := pd_bk B
  have hl : env.length = 22 := I.len
  obtain ⟨x, t1, e1, a1, b1, hx⟩ : ∃ x t', ex (gAt P cap d) l2_4_1 env ⟨t, cs⟩ = .nx (env.set 16 (some (.d x))) ⟨t', cs⟩ ∧ t.ct ≤ t'.ct ∧ t'.ct ≤ t.ct + 5 ∧ Pd 8 x := by
    cases h : decide (0 < k)
    · exact ⟨bookD L ps, t, by simp [l2_4_1, f6, h, I.e3], by omega, by omega, hb.mono (by omega)⟩
    · obtain ⟨x, t1, e, g1, g2, g3⟩ := c51 (cap := cap) (d := d) (s := ⟨t, cs⟩) H C B (by omega) h0 hk
      exact ⟨x, t1, by simp [l2_4_1, f6, h, I.e3, I.e1, e], g1, g2, g3⟩
  have q50 := fun s => c50 (cap := cap) (d := d) (s := s) H.lb hx.1 (by have := hx.2; omega) (by have := hx.2; omega)
  have q17 := fun s => c17 (cap := cap) (d := d) (s := s) H.b hx.1 (by have := hx.2; omega) (by have := hx.2; omega)
  have q31 := fun s => copied (cap := cap) (d := d) (s := s) H.k.d.c hx (by omega)
  have hf := pd_bkFault x
  have s1 := fun s => same (cap := cap) (d := d) (s := s) H.k.d.c (t2 hf hf) (by omega)
  have s2 := fun s => same (cap := cap) (d := d) (s := s) H.k.d.c hx (by omega)
  have s3 := fun s => same (cap := cap) (d := d) (s := s) H.k.d.c (x := .tup [.str (metW 2), bkFault x]) (n := 2) (pd_tup (by simp) (by intro z hz; simp at hz; rcases hz with rfl | rfl; exact (pd_str _).mono (by omega); exact hf)) (by omega)
  have e2 : ∀ s, ex (gAt P cap d) l2_4_2 (env.set 16 (some (.d x))) s = .nx (((env.set 16 (some (.d x))).set 19 (some (.d (bkFault x)))).set 20 (some (.d x))) s := by
    intro s
    have a16 : (env.set 16 (some (.d x)))[16]? = some (some (.d x)) := set_get' (by omega)
    simp [l2_4_2, a16, q50, q31]
  obtain ⟨E, hE⟩ : ∃ E, E = ((env.set 16 (some (.d x))).set 19 (some (.d (bkFault x)))).set 20 (some (.d x)) := ⟨_, rfl⟩
  have IE : I5 L ps E := hE ▸ ((I.set _ (by omega)).set _ (by omega)).set _ (by omega)
  have g16 : E[16]? = some (some (.d x)) := by rw [hE, set_get (by omega), set_get (by omega)]; exact set_get' (by omega)
  have g19 : E[19]? = some (some (.d (bkFault x))) := by rw [hE, set_get (by omega)]; exact set_get' (by simp; omega)
  have g20 : E[20]? = some (some (.d x)) := by rw [hE]; exact set_get' (by simp; omega)
  rw [← hE] at e2
  have e3 : ∀ s, ex (gAt P cap d) l2_4_3 E s = .nx E s := by
    intro s
    simp [l2_4_3, g16, g19, g20, q17, q31, s1, s2]
  have e4 : ∀ s, ex (gAt P cap d) l2_4_4 E s = .nx E s := by
    intro s
    cases hfn : (bkFault x).isNon
    · obtain ⟨e, rfl⟩ : ∃ e, d = e + 2 := ⟨d - 2, by omega⟩
      have q26 := fun s => c26_bk (cap := cap) (d := e) (s := s) (r := .non) H.b hx.1 (by have := hx.2; omega) (by have := hx.2; omega) hfn
      have q31e := fun s => copied (cap := cap) (d := e) (s := s) H.k.d.c hx (by omega)
      have q53 := c53 (cap := cap) (d := e) (s := s) H (b := .call 26 (.cons (.call 31 (.cons (.var 16) .nil)) (.cons .non .nil))) (env := captured E) (c := 2) (x := bkFault x) (t := s.stm) (cs := []) (by omega) (by simp [cap_get g16, q31e, q26])
      simp [l2_4_4, g19, hfn, q53, metW, wBook] at s3 ⊢
      simp [s3]
    · simp [l2_4_4, g19, hfn]
  refine ⟨E, t1, ?_, by omega, by omega, IE⟩
  simp only [l2_4b, exs_cons, exs_nil, e1, e2, e3, e4, seq_nx]
end K11
end Us
end

section
set_option linter.all false
set_option maxRecDepth 100000
/-! Us.B23: law k11's own run: the last asks, the turns, the law. -/
namespace Us
open PySem (Str)
variable {P : Prg} {cap : Int → Bool} {d : Nat} {s : S}
theorem mul_l (x : D) (n : Nat) (h : n ≤ 4096) : binD .mul (.lst [x]) (.int n) = some (.lst (List.replicate n x)) := by
  have h1 : n ≤ lim := by simp only [lim]; omega
  have h2 : n < 4611686018427387904 := by omega
  have h3 : ∀ k : Nat, (List.replicate k [x]).flatten = List.replicate k x := by
    intro k; induction k <;> simp [List.replicate_succ, *]
  simp [binD, h1, h2, h3]
def wz : Str := sx [122, 122]
theorem zz_no : wz ∉ LS := by decide
namespace K11
def oddL : List D := [.non, .tup [.tup [.str wTrue]], .tup [.tup [.str wLet, .str wz], .tup [.str wTrue]], .str (sx [97, 98]), .tup [.tup [.str wTrue], .int 5]]
theorem l5 (H : HasN P) (C : Cap cap) {L : List Str} {ps : List (Fm × Fm)} (B : Bk L ps) {env : Env} (I : I5 L ps env) (hd : 40 ≤ d) (t : Stm) (cs : List (Bool × D)) (h0 : 0 ≤ t.ct) (hk : t.ct + 1 < 1099511627776) : ∃ x t', ex (gAt P cap d) l2_5 env ⟨t, cs⟩ = .nx (env.set 14 (some (.d x))) ⟨t', cs⟩ ∧ t.ct ≤ t'.ct ∧ t'.ct ≤ t.ct + 1 ∧ Pd 3 x ∧ isSay L x = false := by
  obtain ⟨e, rfl⟩ : ∃ e, d = e + 1 := ⟨d - 1, by omega⟩
  obtain ⟨x, t1, fc, g1, g2, g3⟩ := c27 (cap := cap) (d := e) (s := ⟨t, cs⟩) H.k.d.c C oddL (by simp [oddL]) (by simp [oddL]) h0 hk
  simp [oddL, wz] at fc g1 g2
  refine ⟨x, t1, by simp [l2_5, I.e1, fc], g1, g2, ?_⟩
  have hT : Pd 1 (.tup [.str wTrue]) := pd_tup (by simp) (by intro x hx; simp at hx; subst hx; exact pd_str _)
  have hU : Pd 1 (.tup [.str wLet, .str wz]) := pd_tup (by simp) (by intro x hx; simp at hx; rcases hx with rfl | rfl <;> exact pd_str _)
  have hz : wz ∉ L := fun h => zz_no (B.sub _ h)
  have hwz : strLet wz = true := by decide
  have f1 : isFm L (.tup [.str wLet, .str wz]) = false := by
    simp [isFm, toF, toFs, toFw, letF, hwz, Fm.lets, hz]
  have f2 : isFm L (.int 5) = false := rfl
  simp only [oddL, List.mem_cons, List.not_mem_nil, or_false] at g3
  rcases g3 with rfl | rfl | rfl | rfl | rfl
  · exact ⟨pd_non.mono (by omega), rfl⟩
  · exact ⟨(pd_tup (n := 1) (by simp) (by intro x hx; simp at hx; subst hx; exact hT)).mono (by omega), rfl⟩
  · exact ⟨(pd_tup (n := 1) (by simp) (by intro x hx; simp at hx; rcases hx with rfl | rfl; exact hU; exact hT)).mono (by omega), by simp [isSay, f1]⟩
  · exact ⟨(pd_str _).mono (by omega), rfl⟩
  · exact ⟨(pd_tup (n := 1) (by simp) (by intro x hx; simp at hx; rcases hx with rfl | rfl; exact hT; exact (pd_int 5).mono (by omega))).mono (by omega), by simp [isSay, f2]⟩
theorem l6 (H : HasN P) {L : List Str} {ps : List (Fm × Fm)} (B : Bk L ps) {env : Env} (I : I5 L ps env) {x : D} (hx : Pd 3 x) (hs : isSay L x = false) (f14 : env[14]? = some (some (.d x))) (hd : 40 ≤ d) : ex (gAt P cap d) l2_6 env s = .nx (env.set 21 (some (.ref s.cells.length))) ⟨s.stm, s.cells ++ [(true, .lst [.tup [.str wSaying, x]])]⟩ := by
  obtain ⟨e, rfl⟩ : ∃ e, d = e + 2 := ⟨d - 2, by omega⟩
  have hn : L.length ≤ 12 := by have := B.ln; omega
  have h8 := pow_le8 B
  have hLp : Pd 1 (.lst (L.map D.str)) := pd_lets L (by omega)
  have hr : RkOk (2 ^ L.length) (List.replicate (2 ^ L.length) (some 0)) := ⟨by simp, by intro r hr i hi; simp at hr; obtain ⟨_, rfl⟩ := hr; simp at hi; omega⟩
  have hr' : (List.replicate (2 ^ L.length) (some (0 : Int))).map rkD = List.replicate (2 ^ L.length) (D.int 0) := by simp [rkD]
  have hrp := pd_rks hr h8.2
  have hf := rk_flt hr (x := .lst (List.replicate (2 ^ L.length) (D.int 0))) (by rw [hr']; rfl)
  rw [hr'] at hrp
  obtain ⟨e', rfl⟩ : ∃ e', e = e' + 1 := ⟨e - 1, by omega⟩
  have q38 := fun s => c38 (P := P) (cap := cap) (d := e') (s := s) H.y.r.l.h38 (seq_l (L.map D.str)) hn
  have q24 := fun s => c24_say (cap := cap) (d := e' + 1) (s := s) H.b hLp.1 (seq_l (L.map D.str)) B.lo hn hrp.1 hf hx.1 (by have := hx.2; omega) hs (by have := hx.2; omega)
  have hm := mul_l (.int 0) (2 ^ L.length) (by omega)
  have q53 := c53 (cap := cap) (d := e' + 1) (s := s) H (b := .call 24 (.cons (.bi .list (.var 4)) (.cons (.bin .mul (.lst (.cons (.int 0) .nil)) (.bi .len (.call 38 (.cons (.var 4) .nil)))) (.cons (.var 14) .nil)))) (env := captured env) (c := 4) (x := x) (t := s.stm) (cs := []) (by omega) (by simp only [ev_call, evs, ev_bi, ev_var, cap_get I.e4, cap_get f14, ev_bin, ev_lst, evX, ev_int, bnd_ok, vw_d, esc_d, list_l, tell_some, g_call, q38, data_ok, wldsD_len, hm, q24, data_exc, bind_exc])
  simp [l2_6, q53, metW]
theorem l7 (H : HasN P) {env : Env} {i : Nat} {xs : List D} (f21 : env[21]? = some (some (.ref i))) (hc : s.cells[i]? = some (true, .lst xs)) (hl : xs.length ≤ 8) (hd : 40 ≤ d) : ex (gAt P cap d) l2_7 env s = .nx env ⟨s.stm, s.cells.set i (true, .lst (xs ++ [.tup [.str wLetters, .int 1]]))⟩ := by
  obtain ⟨e, rfl⟩ : ∃ e, d = e + 2 := ⟨d - 2, by omega⟩
  have q24 := fun s => c24_let (cap := cap) (d := e) (s := s) (r := .non) (x := .non) H.b (l := .lst [.str (sx [98]), .str (sx [97])]) (ls := [.str (sx [98]), .str (sx [97])]) (i := 1) rfl rfl (by decide) (by omega)
  have q53 := c53 (cap := cap) (d := e) (s := s) H (b := .call 24 (.cons (.lst (.cons (.str (sx [98])) (.cons (.str (sx [97])) .nil))) (.cons .non (.cons .non .nil)))) (env := captured env) (c := 1) (x := .int 1) (t := s.stm) (cs := []) (by omega) (by simp [q24])
  have hl' : xs.length < lim := by simp only [lim]; omega
  simp [l2_7, f21, hc, q53, mutD, hl', metW]
theorem l8 (H : HasN P) {env : Env} {i : Nat} {xs : List D} (f21 : env[21]? = some (some (.ref i))) (hc : s.cells[i]? = some (true, .lst xs)) (hl : xs.length ≤ 8) (hd : 40 ≤ d) : ex (gAt P cap d) l2_8 env s = .nx env ⟨s.stm, s.cells.set i (true, .lst (xs ++ [.tup [.str wLetters, .int 1]]))⟩ := by
  obtain ⟨e, rfl⟩ : ∃ e, d = e + 2 := ⟨d - 2, by omega⟩
  have q21 := fun s => c21_no (cap := cap) (d := e) (s := s) (x := .non) H.b (l := .lst [.str (sx [97]), .str (sx [65])]) (ls := [.str (sx [97]), .str (sx [65])]) (i := 1) rfl rfl (by decide) (by omega)
  have q53 := c53 (cap := cap) (d := e) (s := s) H (b := .call 21 (.cons (.lst (.cons (.str (sx [97])) (.cons (.str (sx [65])) .nil))) (.cons .non .nil))) (env := captured env) (c := 1) (x := .int 1) (t := s.stm) (cs := []) (by omega) (by simp [q21])
  have hl' : xs.length < lim := by simp only [lim]; omega
  simp [l2_8, f21, hc, q53, mutD, hl', metW]
theorem l9 (H : HasN P) {env : Env} {i : Nat} {x : D} {b : Bool} (hx : Pd 3 x) (f14 : env[14]? = some (some (.d x))) (f21 : env[21]? = some (some (.ref i))) (hc : s.cells[i]? = some (b, .lst [.tup [.str wSaying, x], .tup [.str wLetters, .int 1], .tup [.str wLetters, .int 1]])) (hd : 40 ≤ d) : ex (gAt P cap d) l2_9 env s = .nx env s := by
  have hp : Pd 5 (.lst [.tup [.str wSaying, x], .tup [.str wLetters, .int 1], .tup [.str wLetters, .int 1]]) := by
    refine pd_lst (by simp) ?_
    intro y hy
    simp at hy
    rcases hy with rfl | rfl
    · exact pd_tup (by simp) (by intro z hz; simp at hz; rcases hz with rfl | rfl; exact (pd_str _).mono (by omega); exact hx)
    · exact (pd_pair _ _).mono (by omega)
  have q := same_ref (cap := cap) (d := d) (s := s) (i := i) (b := b) H.k.d.c hp (by omega) hc
  simp [wSaying, wLetters] at q
  simp [l2_9, f14, f21, q]
end K11
end Us
end

section
set_option linter.all false
set_option maxRecDepth 100000
/-! Us.B24: law k11's own run: the turns, the law. -/
namespace Us
open PySem (Str)
variable {P : Prg} {cap : Int → Bool} {d : Nat} {s : S}
theorem mem_range {x : D} {lo : Int} {n : Nat} (h : x ∈ rangeD lo n) : ∃ k : Int, x = .int k := by
  simp only [rangeD, List.mem_map] at h
  obtain ⟨k, _, rfl⟩ := h
  exact ⟨_, rfl⟩
theorem set_end {α : Type} (cs : List α) (a b : α) : (cs ++ [a]).set cs.length b = cs ++ [b] := by
  induction cs with
  | nil => rfl
  | cons c cs ih => simp [ih]
theorem get_end {α : Type} (cs : List α) (a : α) : (cs ++ [a])[cs.length]? = some a := by simp
namespace K11
theorem l3L (H : HasN P) (C : Cap cap) {L : List Str} {ps : List (Fm × Fm)} (B : Bk L ps) {env : Env} (I : I5 L ps env) (hd : 40 ≤ d) (t : Stm) (cs : List (Bool × D)) (h0 : 0 ≤ t.ct) (hk : t.ct + 1600 < 1099511627776) : ∃ env' t', ex (gAt P cap d) l2_3 env ⟨t, cs⟩ = .nx env' ⟨t', cs⟩ ∧ t.ct ≤ t'.ct ∧ t'.ct ≤ t.ct + 1600 ∧ I5 L ps env' := by
  obtain ⟨env', t', cs', e, h1, h2, hI, rfl⟩ := forL_dr (tg := .nm 6) (b := exs (gAt P cap d) l2_3b) (fun env c => I5 L ps env ∧ c = cs) 400 (rangeD 0 4) (by
    rintro x hx env t c ⟨hI, rfl⟩ h0 hk
    obtain ⟨env2, t', e, h1, h2, h3⟩ := lA H C B (hI.set (i := 6) (some (.d x)) (by omega)) hd t c h0 hk
    exact ⟨_, env2, t', c, rfl, e, h1, h2, h3, rfl⟩) env t cs ⟨I, rfl⟩ h0 (by simp [rangeD]; omega)
  simp [rangeD] at h2
  refine ⟨env', t', ?_, h1, by omega, hI⟩
  simp only [l2_3, ex_for, it_rng, ev_int, bnd_ok, view_d]
  simpa using e
theorem l4L (H : HasN P) (C : Cap cap) {L : List Str} {ps : List (Fm × Fm)} (B : Bk L ps) {env : Env} (I : I5 L ps env) (hd : 40 ≤ d) (t : Stm) (cs : List (Bool × D)) (h0 : 0 ≤ t.ct) (hk : t.ct + 30 < 1099511627776) : ∃ env' t', ex (gAt P cap d) l2_4 env ⟨t, cs⟩ = .nx env' ⟨t', cs⟩ ∧ t.ct ≤ t'.ct ∧ t'.ct ≤ t.ct + 30 ∧ I5 L ps env' := by
  obtain ⟨env', t', cs', e, h1, h2, hI, rfl⟩ := forL_dr (tg := .nm 6) (b := exs (gAt P cap d) l2_4b) (fun env c => I5 L ps env ∧ c = cs) 5 (rangeD 0 6) (by
    rintro x hx env t c ⟨hI, rfl⟩ h0 hk
    obtain ⟨k, rfl⟩ := mem_range hx
    obtain ⟨env2, t', e, h1, h2, h3⟩ := lB H C B (hI.set (i := 6) (some (.d (.int k))) (by omega)) (k := k) (set_get' (by have := hI.len; omega)) hd t c h0 hk
    exact ⟨_, env2, t', c, rfl, e, h1, h2, h3, rfl⟩) env t cs ⟨I, rfl⟩ h0 (by simp [rangeD]; omega)
  simp [rangeD] at h2
  refine ⟨env', t', ?_, h1, by omega, hI⟩
  simp only [l2_4, ex_for, it_rng, ev_int, bnd_ok, view_d]
  simpa using e
structure I1 (env : Env) : Prop where
  len : env.length = 22
  e1 : env[1]? = some (some (.d .stm))
theorem lT (H : HasN P) (C : Cap cap) {env : Env} (I : I1 env) (hd : 40 ≤ d) (t : Stm) (cs : List (Bool × D)) (h0 : 0 ≤ t.ct) (hk : t.ct + 2100 < 1099511627776) : ∃ env' t' cs', exs (gAt P cap d) l2b env ⟨t, cs⟩ = .nx env' ⟨t', cs'⟩ ∧ t.ct ≤ t'.ct ∧ t'.ct ≤ t.ct + 2100 ∧ I1 env' := by
  have hl := I.len
  obtain ⟨y, t1, f1, a1, b1, L, ps, rfl, B⟩ := c36 (cap := cap) (d := d) (s := ⟨t, cs⟩) H.k C (by omega) h0 (by simp; omega)
  simp at f1 a1 b1
  have e1 : ex (gAt P cap d) l2_1 env ⟨t, cs⟩ = .nx (env.set 3 (some (.d (bookD L ps)))) ⟨t1, cs⟩ := by
    simp [l2_1, I.e1, f1]
  obtain ⟨E1, hE1⟩ : ∃ E, E = env.set 3 (some (.d (bookD L ps))) := ⟨_, rfl⟩
  have f13 : E1[3]? = some (some (.d (bookD L ps))) := by rw [hE1]; exact set_get' (by omega)
  have f11 : E1[1]? = some (some (.d .stm)) := by rw [hE1, set_get (by omega)]; exact I.e1
  have l1 : E1.length = 22 := by rw [hE1]; simpa using hl
  rw [← hE1] at e1
  have e2 : ex (gAt P cap d) l2_2 E1 ⟨t1, cs⟩ = .nx ((E1.set 4 (some (.d (.lst (L.map D.str))))).set 5 (some (.d (.lst (ps.map sayD))))) ⟨t1, cs⟩ := by
    simp [l2_2, f13]; simp [bookD]
  obtain ⟨E2, hE2⟩ : ∃ E, E = (E1.set 4 (some (.d (.lst (L.map D.str))))).set 5 (some (.d (.lst (ps.map sayD)))) := ⟨_, rfl⟩
  have J2 : I5 L ps E2 := by
    rw [hE2]
    refine ⟨by simpa using l1, by rw [set_get (by omega), set_get (by omega)]; exact f11, by rw [set_get (by omega), set_get (by omega)]; exact f13, by rw [set_get (by omega)]; exact set_get' (by omega), set_get' (by simp; omega)⟩
  rw [← hE2] at e2
  obtain ⟨E3, t3, e3, a3, b3, J3⟩ := l3L (d := d) H C B J2 hd t1 cs (by omega) (by omega)
  obtain ⟨E4, t4, e4, a4, b4, J4⟩ := l4L (d := d) H C B J3 hd t3 cs (by omega) (by omega)
  obtain ⟨x, t5, e5, a5, b5, hx, hs⟩ := l5 (d := d) H C B J4 hd t4 cs (by omega) (by omega)
  obtain ⟨E5, hE5⟩ : ∃ E, E = E4.set 14 (some (.d x)) := ⟨_, rfl⟩
  have l4 := J4.len
  have J5 : I5 L ps E5 := hE5 ▸ J4.set _ (by omega)
  have f514 : E5[14]? = some (some (.d x)) := by rw [hE5]; exact set_get' (by omega)
  rw [← hE5] at e5
  have l5 := J5.len
  have e6 := l6 (cap := cap) (d := d) (s := ⟨t5, cs⟩) H B J5 hx hs f514 hd
  simp only at e6
  obtain ⟨E6, hE6⟩ : ∃ E, E = E5.set 21 (some (.ref cs.length)) := ⟨_, rfl⟩
  have J6 : I5 L ps E6 := hE6 ▸ J5.set _ (by omega)
  have f614 : E6[14]? = some (some (.d x)) := by rw [hE6, set_get (by omega)]; exact f514
  have f621 : E6[21]? = some (some (.ref cs.length)) := by rw [hE6]; exact set_get' (by omega)
  rw [← hE6] at e6
  have e7 := l7 (cap := cap) (d := d) (s := ⟨t5, cs ++ [(true, .lst [.tup [.str wSaying, x]])]⟩) H f621 (get_end _ _) (by simp) hd
  simp only [set_end, List.cons_append, List.nil_append] at e7
  have e8 := l8 (cap := cap) (d := d) (s := ⟨t5, cs ++ [(true, .lst [.tup [.str wSaying, x], .tup [.str wLetters, .int 1]])]⟩) H f621 (get_end _ _) (by simp) hd
  simp only [set_end, List.cons_append, List.nil_append] at e8
  have e9 := l9 (cap := cap) (d := d) (s := ⟨t5, cs ++ [(true, .lst [.tup [.str wSaying, x], .tup [.str wLetters, .int 1], .tup [.str wLetters, .int 1]])]⟩) H hx f614 f621 (get_end _ _) hd
  refine ⟨E6, t5, cs ++ [(true, .lst [.tup [.str wSaying, x], .tup [.str wLetters, .int 1], .tup [.str wLetters, .int 1]])], ?_, by omega, by omega, J6.len, J6.e1⟩
  simp only [l2b, exs_cons, exs_nil, e1, e2, e3, e4, e5, e6, e7, e8, e9, seq_nx]
/-- the law's own run -/
theorem lawRun (H : HasN P) (C : Cap cap) (h54 : P.fn 54 = some f54) (ns : List Int) (hn : ns.length ≤ 63) : ∃ s', callAt P cap 60 54 [.d (.scr ns)] ⟨⟨[], 0, -1, 19⟩, []⟩ = .ok (.bl true) s' := by
  obtain ⟨d, hd⟩ : ∃ d, d = 59 := ⟨59, rfl⟩
  have h60 : (60 : Nat) = d + 1 := by omega
  rw [h60, call1 h54 _ rfl, f54_body]
  have hl : ns.length ≤ lim := by simp only [lim]; omega
  obtain ⟨E, hE⟩ : ∃ E : Env, E = [some (.d (.scr ns)), some (.d .stm), none, none, none, none, none, none, none, none, none, none, none, none, none, none, none, none, none, none, none, none] := ⟨_, rfl⟩
  obtain ⟨env', t', cs', e, h1, h2, hI⟩ := forL_dr (tg := .nm 2) (b := exs (gAt P cap d) l2b) (fun env c => I1 env) 2100 (rangeD 0 5) (by
    rintro x hx env t c hI h0 hk
    obtain ⟨env2, t', cs', e, h1, h2, h3⟩ := lT (env := env.set 2 (some (.d x))) H C ⟨by simpa using hI.len, by rw [set_get (by omega)]; exact hI.e1⟩ (by omega : 40 ≤ d) t c h0 hk
    exact ⟨_, env2, t', cs', rfl, e, h1, h2, h3⟩) E ⟨ns, 0, 0, 19⟩ [] ⟨by rw [hE]; rfl, by rw [hE]; rfl⟩ (by simp) (by simp [rangeD])
  rw [hE] at e
  simp [rangeD] at e
  refine ⟨⟨t', []⟩, ?_⟩
  simp [f54, l1, l2, l3, List.replicate, hl, rangeD, e]
end K11
end Us
end

section
set_option linter.all false
set_option maxRecDepth 100000
namespace Us.K11
theorem hasN : HasN row.P := by repeat' constructor
theorem capOk : Cap row.cap := fun z h => decide_eq_true (by simpa using h)
end Us.K11
theorem PySem.Challenge.cw_usuallyso_k11_whole_books_and_ranks_that_holds : PySem.Challenge.rw_usuallyso_k11_whole_books_and_ranks_that.Holds :=
  Us.K11.holds_of fun ns hn _ => Us.K11.lawRun Us.K11.hasN Us.K11.capOk rfl ns hn
end
