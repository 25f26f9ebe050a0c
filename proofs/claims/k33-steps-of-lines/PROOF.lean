import PyProof.Rows.All
import Wide.All
import OpenK.AllK
import Wide.FinOn
import HandS.ForMost
import HandS.ForExc
import HandS.Wide
import HandS.TupAny
import KE.DataEq
import KE.DataFind
import HandS.Text
import HandS.Style
import HandS.Iter
import PySem.Challenge.RW_shearfloor_k33_steps_of_lines
set_option Elab.async false
set_option linter.all false
set_option autoImplicit false
/-! Mini: a small pure reading of the part of Python that the laws use. -/
namespace My

inductive D where
  | und | non
  | bl (b : Bool) | int (i : Int) | str (s : List Nat)
  | tup (xs : List D) | lst (own : Bool) (xs : List D)
  | dic (own : Bool) (ks vs : List D)
  | lol (xss : List (List D))
  | exc (c : Nat) (fs : List D)
  | scr (ns : List Int)     -- the script that a law is given

abbrev Env := List D

inductive R (α : Type) where
  | ok (a : α) | exc (e : D) | bad
def R.bind {α β : Type} (x : R α) (f : α → R β) : R β := match x with
  | .ok a => f a
  | .exc e => .exc e
  | .bad => .bad
@[simp] theorem R.bind_ok {α β : Type} (a : α) (f : α → R β) : (R.ok a).bind f = f a := rfl
@[simp] theorem R.bind_exc {α β : Type} (e : D) (f : α → R β) : (R.exc e : R α).bind f = .exc e := rfl
@[simp] theorem R.bind_bad {α β : Type} (f : α → R β) : (R.bad : R α).bind f = .bad := rfl
/-- a value that may lack -/
def opt {α : Type} : Option α → R α
  | some a => .ok a
  | none => .bad
@[simp] theorem opt_some {α : Type} (a : α) : opt (some a) = .ok a := rfl
@[simp] theorem opt_none {α : Type} : (opt none : R α) = .bad := rfl

/-! ### environments -/
def gt : Env → Nat → D
  | [], _ => .und
  | a :: _, 0 => a
  | _ :: l, n + 1 => gt l n
def st : Env → Nat → D → Env
  | [], _, _ => []
  | _ :: l, 0, d => d :: l
  | a :: l, n + 1, d => a :: st l n d
def isUnd : D → Bool
  | .und => true
  | _ => false
/-- read by others: nobody changes it from now on -/
def fz : D → D
  | .lst _ xs => .lst false xs
  | .dic _ ks vs => .dic false ks vs
  | .lol _ => .und
  | d => d
def wipes : Env → List Nat → Env
  | e, [] => e
  | e, i :: l => st (wipes e l) i .und
/-- the slots of l as they were in e -/
def restr (e : Env) : Env → List Nat → Env
  | e2, [] => e2
  | e2, i :: l => st (restr e e2 l) i (gt e i)

/-! ### values -/
def SZ : Nat := 1000000

mutual
def eqv : D → D → Bool
  | .non, .non => true
  | .bl a, .bl b => a == b
  | .bl a, .int j => (if a then 1 else 0) == j
  | .int i, .bl b => i == (if b then 1 else 0)
  | .int i, .int j => i == j
  | .str x, .str y => x == y
  | .tup x, .tup y => eqvs x y
  | .lst _ x, .lst _ y => eqvs x y
  | _, _ => false
def eqvs : List D → List D → Bool
  | [], [] => true
  | x :: xs, y :: ys => eqv x y && eqvs xs ys
  | _, _ => false
end
mutual
/-- how deep tuples and lists are nested; plain data alone -/
def dep : D → Option Nat
  | .non => some 0
  | .bl _ => some 0
  | .int _ => some 0
  | .str _ => some 0
  | .tup xs => (deps xs).map (· + 1)
  | .lst _ xs => (deps xs).map (· + 1)
  | _ => none
def deps : List D → Option Nat
  | [] => some 0
  | x :: xs => match dep x, deps xs with
    | some a, some b => some (max a b)
    | _, _ => none
end
/-- plain data of small depth -/
def plain (d : D) : Bool := match dep d with
  | some n => n ≤ 40
  | none => false

mutual
/-- data that can be told smaller and greater -/
def alike : D → D → Bool
  | .bl _, .bl _ => true
  | .int _, .int _ => true
  | .str _, .str _ => true
  | .non, .non => true
  | .tup x, .tup y => alikes x y
  | .lst _ x, .lst _ y => alikes x y
  | _, _ => false
def alikes : List D → List D → Bool
  | [], _ => true
  | _, [] => true
  | x :: xs, y :: ys => alike x y && alikes xs ys
end
def ltL : List Nat → List Nat → Bool
  | [], [] => false
  | [], _ :: _ => true
  | _ :: _, [] => false
  | a :: x, b :: y => if a < b then true else if b < a then false else ltL x y
mutual
def ltD : D → D → Bool
  | .int i, .int j => decide (i < j)
  | .str x, .str y => ltL x y
  | .bl a, .bl b => !a && b
  | .tup x, .tup y => ltDs x y
  | .lst _ x, .lst _ y => ltDs x y
  | _, _ => false
def ltDs : List D → List D → Bool
  | [], [] => false
  | [], _ :: _ => true
  | _ :: _, [] => false
  | x :: xs, y :: ys => if eqv x y then ltDs xs ys else ltD x y
end

inductive BOp where
  | add | sub | mul | fdiv | mod | pow
inductive COp where
  | eq | ne | lt | le | gt | ge | isIn | notIn

def mulOk (i j : Int) : Bool := decide (i.natAbs < 18446744073709551616) || decide (j.natAbs < 18446744073709551616) || (decide (i.natAbs < 2 ^ 4000) && decide (j.natAbs < 2 ^ 4000))
def reps {α : Type} : Nat → List α → List α
  | 0, _ => []
  | n + 1, xs => xs ++ reps n xs
def sized (n : Nat) (d : D) : Option D := if n ≤ SZ then some d else none
def binop : BOp → D → D → Option D
  | .add, .int i, .int j => some (.int (i + j))
  | .add, .str x, .str y => sized (x.length + y.length) (.str (x ++ y))
  | .add, .tup x, .tup y => sized (x.length + y.length) (.tup (x ++ y))
  | .add, .lst _ x, .lst _ y => sized (x.length + y.length) (.lst true (x ++ y))
  | .sub, .int i, .int j => some (.int (i - j))
  | .mul, .int i, .int j => if mulOk i j then some (.int (i * j)) else none
  | .mul, .str x, .int k => if -1000000 ≤ k ∧ k ≤ 1000000 then sized (x.length * k.toNat) (.str (reps k.toNat x)) else none
  | .mul, .lst _ x, .int k => if -1000000 ≤ k ∧ k ≤ 1000000 then sized (x.length * k.toNat) (.lst true (reps k.toNat x)) else none
  | .fdiv, .int i, .int j => if j ≠ 0 ∧ (j.natAbs < 1073741824 ∨ (0 < j ∧ j.natAbs < 2 ^ 4000)) then some (.int (i.fdiv j)) else none
  | .mod, .int i, .int j => if j ≠ 0 then some (.int (i.fmod j)) else none
  | .pow, .int i, .int j => if 0 ≤ j ∧ j ≤ 1000000 ∧ i.natAbs < 18446744073709551616 then some (.int (i ^ j.toNat)) else none
  | _, _, _ => none

/-- the first place at which an item is as x -/
def findD (x : D) : List D → Option Nat
  | [] => none
  | y :: ys => if eqv y x then some 0 else (findD x ys).map (· + 1)
def memD (x : D) (xs : List D) : Bool := (findD x xs).isSome
def member (x : D) : D → Option Bool
  | .tup xs => if plain x && plain (.tup xs) then some (memD x xs) else none
  | .lst _ xs => if plain x && plain (.tup xs) then some (memD x xs) else none
  | .dic _ ks _ => if plain x && plain (.tup ks) then some (memD x ks) else none
  | .str z => match x with
    | .str [c] => some (z.contains c)
    | _ => none
  | _ => none
def cmpop : COp → D → D → Option Bool
  | .eq, a, b => if plain a && plain b then some (eqv a b) else none
  | .ne, a, b => if plain a && plain b then some (!eqv a b) else none
  | .lt, .int i, .int j => some (decide (i < j))
  | .le, .int i, .int j => some (decide (i ≤ j))
  | .gt, .int i, .int j => some (decide (j < i))
  | .ge, .int i, .int j => some (decide (j ≤ i))
  | .isIn, a, b => member a b
  | .notIn, a, b => (member a b).map (!·)
  | _, _, _ => none

/-- the item at a place, from the end below 0 -/
def at? {α : Type} (xs : List α) (i : Int) : Option α :=
  if 0 ≤ i then xs[i.toNat]? else if 0 ≤ i + xs.length then xs[(i + xs.length).toNat]? else none
def lookD (k : D) : List D → List D → Option D
  | a :: ks, v :: vs => if eqv a k then some v else lookD k ks vs
  | _, _ => none
def idxop : D → D → Option D
  | .tup xs, .int i => at? xs i
  | .lst _ xs, .int i => at? xs i
  | .scr ns, .int i => (at? ns i).map .int
  | .str s, .int i => (at? s i).map fun c => .str [c]
  | .dic _ ks vs, k => if plain k && plain (.tup ks) then lookD k ks vs else none
  | _, _ => none
/-- a slice's end, of a length -/
def cutAt (n : Nat) (i : Int) : Nat := if 0 ≤ i then min i.toNat n else (i + n).toNat
def cut {α : Type} (xs : List α) (lo hi : Option Int) : List α :=
  let a := match lo with
    | some i => cutAt xs.length i
    | none => 0
  let b := match hi with
    | some i => cutAt xs.length i
    | none => xs.length
  (xs.drop a).take (b - a)
def slop (d : D) (lo hi : Option Int) : Option D := match d with
  | .tup xs => some (.tup (cut xs lo hi))
  | .lst _ xs => some (.lst true (cut xs lo hi))
  | .scr ns => some (.lst true ((cut ns lo hi).map .int))
  | .str s => some (.str (cut s lo hi))
  | _ => none
def revop : D → Option D
  | .lst _ xs => some (.lst true xs.reverse)
  | _ => none

/-! ### built-in functions, methods -/
def ins (lt : D → D → Bool) (x : D) : List D → List D
  | [] => [x]
  | y :: ys => if lt x y then x :: y :: ys else y :: ins lt x ys
/-- sorted, stable: the later ones put in behind what is not greater -/
def sortD : List D → List D
  | [] => []
  | x :: xs => insF x (sortD xs)
where insF (x : D) : List D → List D
  | [] => [x]
  | y :: ys => if ltD y x then y :: insF x ys else x :: y :: ys
def allAlike (xs : List D) : Bool := xs.all fun x => xs.all fun y => alike x y
def notNon : D → Bool
  | .non => false
  | _ => true
def sortable (xs : List D) : Bool := allAlike xs && plain (.tup xs) && xs.all notNon
def minD : D → List D → D
  | x, [] => x
  | x, y :: ys => minD (if ltD y x then y else x) ys
def maxD : D → List D → D
  | x, [] => x
  | x, y :: ys => maxD (if ltD x y then y else x) ys
def dedup : List D → List D
  | [] => []
  | x :: xs => if memD x (dedup xs) then dedup xs else x :: dedup xs
def sumI : List D → Option Int
  | [] => some 0
  | .int i :: r => (sumI r).map (i + ·)
  | _ :: _ => none
def bools : List D → Option (List Bool)
  | [] => some []
  | .bl b :: r => (bools r).map (b :: ·)
  | _ :: _ => none
def strsD : List D → Option (List (List Nat))
  | [] => some []
  | .str s :: r => (strsD r).map (s :: ·)
  | _ :: _ => none
def digits (n : Nat) : List Nat := (Nat.toDigits 10 n).map Char.toNat
def showI (i : Int) : List Nat := if i < 0 then 45 :: digits i.natAbs else digits i.natAbs
/-- a text of signs 0 to 9 alone, as a number -/
def readN (s : List Nat) : Nat := s.foldl (fun a c => 10 * a + (c - 48)) 0
def isDigit (c : Nat) : Bool := 48 ≤ c && c ≤ 57
def readI (s : List Nat) : Option Int := match s with
  | [] => none
  | 45 :: r => if !r.isEmpty && r.all isDigit && r.length ≤ 600 then some (-(readN r : Int)) else none
  | r => if r.all isDigit && r.length ≤ 600 then some (readN r) else none
def rangeL (a b : Int) : List D := (List.range (b - a).toNat).map fun (k : Nat) => .int (a + k)
/-- the parts of a text between one-sign seps -/
def splitOn (c : Nat) : List Nat → List (List Nat)
  | [] => [[]]
  | x :: r => if x = c then [] :: splitOn c r else match splitOn c r with
    | [] => [[x]]
    | p :: ps => (x :: p) :: ps
def joinS (sep : List Nat) : List (List Nat) → List Nat
  | [] => []
  | [x] => x
  | x :: y :: r => x ++ sep ++ joinS sep (y :: r)
/-- old, not empty, replaced from the left -/
def replS (old new : List Nat) : Nat → List Nat → List Nat
  | _, [] => []
  | 0, c :: r => if old.isPrefixOf (c :: r) then new ++ replS old new (old.length - 1) r else c :: replS old new 0 r
  | n + 1, _ :: r => replS old new n r
mutual
/-- how repr writes plain data -/
def reprD : D → Option (List Nat)
  | .non => some [78, 111, 110, 101]
  | .bl true => some [84, 114, 117, 101]
  | .bl false => some [70, 97, 108, 115, 101]
  | .int i => some (showI i)
  | .tup [] => some [40, 41]
  | .tup [x] => (reprD x).map fun s => [40] ++ s ++ [44, 41]
  | .tup (x :: y :: xs) => (reprDs (x :: y :: xs)).map fun ss => [40] ++ joinS [44, 32] ss ++ [41]
  | .lst _ xs => (reprDs xs).map fun ss => [91] ++ joinS [44, 32] ss ++ [93]
  | _ => none
def reprDs : List D → Option (List (List Nat))
  | [] => some []
  | x :: xs => match reprD x, reprDs xs with
    | some a, some b => some (a :: b)
    | _, _ => none
end

inductive Ty where
  | int | bool | str | list | tuple
inductive Bf where
  | len | tuple | list | abs | min2 | max2 | min1 | max1 | sum | sorted | lenSet | sortedSet | int | intS | str | all | repr
  | isinst (t : List Ty)
  | range1 | range2      -- list(range(..))
  | trange1 | trange2    -- tuple(range(..))
def isTy : Ty → D → Bool
  | .int, .int _ => true
  | .int, .bl _ => true
  | .bool, .bl _ => true
  | .str, .str _ => true
  | .list, .lst _ _ => true
  | .tuple, .tup _ => true
  | _, _ => false
def okTy : D → Bool
  | .und => false
  | .lol _ => false
  | _ => true
def small (i : Int) : Bool := decide (-1000000 ≤ i) && decide (i ≤ 1000000)
def bLen : List D → Option D
  | [.tup xs] => some (.int xs.length)
  | [.lst _ xs] => some (.int xs.length)
  | [.str s] => some (.int s.length)
  | [.dic _ ks _] => some (.int ks.length)
  | [.scr ns] => some (.int ns.length)
  | _ => none
def bTuple : List D → Option D
  | [.tup xs] => some (.tup xs)
  | [.lst _ xs] => some (.tup xs)
  | _ => none
def bList : List D → Option D
  | [.tup xs] => some (.lst true xs)
  | [.lst _ xs] => some (.lst true xs)
  | _ => none
def bAbs : List D → Option D
  | [.int i] => some (.int (if i < 0 then -i else i))
  | _ => none
def bMin2 : List D → Option D
  | [.int i, .int j] => some (.int (if j < i then j else i))
  | _ => none
def bMax2 : List D → Option D
  | [.int i, .int j] => some (.int (if j > i then j else i))
  | _ => none
def bMin1 : List D → Option D
  | [.tup (x :: xs)] => if sortable (x :: xs) then some (minD x xs) else none
  | [.lst _ (x :: xs)] => if sortable (x :: xs) then some (minD x xs) else none
  | _ => none
def bMax1 : List D → Option D
  | [.tup (x :: xs)] => if sortable (x :: xs) then some (maxD x xs) else none
  | [.lst _ (x :: xs)] => if sortable (x :: xs) then some (maxD x xs) else none
  | _ => none
def bSum : List D → Option D
  | [.lst _ xs] => (sumI xs).map .int
  | _ => none
def bSorted : List D → Option D
  | [.tup xs] => if sortable xs then some (.lst true (sortD xs)) else none
  | [.lst _ xs] => if sortable xs then some (.lst true (sortD xs)) else none
  | _ => none
def bLenSet : List D → Option D
  | [.lst _ xs] => if plain (.tup xs) then some (.int (dedup xs).length) else none
  | _ => none
def bSortedSet : List D → Option D
  | [.lst _ xs] => if sortable xs then some (.lst true (sortD (dedup xs))) else none
  | _ => none
def bInt : List D → Option D
  | [.int i] => some (.int i)
  | [.bl b] => some (.int (if b then 1 else 0))
  | _ => none
def bIntS : List D → Option D
  | [.str s] => (readI s).map .int
  | _ => none
def bStr : List D → Option D
  | [.int i] => if i.natAbs < 2 ^ 1000 then some (.str (showI i)) else none
  | [.str s] => some (.str s)
  | _ => none
def bAll : List D → Option D
  | [.lst _ xs] => (bools xs).map fun bs => .bl (bs.all id)
  | _ => none
def bRepr : List D → Option D
  | [d] => if plain d then (reprD d).map .str else none
  | _ => none
def bIsinst (ts : List Ty) : List D → Option D
  | [d] => if okTy d then some (.bl (ts.any fun t => isTy t d)) else none
  | _ => none
def bRange1 : List D → Option D
  | [.int n] => if small n then some (.lst true (rangeL 0 n)) else none
  | _ => none
def bRange2 : List D → Option D
  | [.int a, .int b] => if small a && small b then some (.lst true (rangeL a b)) else none
  | _ => none
def bTrange1 : List D → Option D
  | [.int n] => if small n then some (.tup (rangeL 0 n)) else none
  | _ => none
def bTrange2 : List D → Option D
  | [.int a, .int b] => if small a && small b then some (.tup (rangeL a b)) else none
  | _ => none
def bfop : Bf → List D → Option D
  | .len => bLen
  | .tuple => bTuple
  | .list => bList
  | .abs => bAbs
  | .min2 => bMin2
  | .max2 => bMax2
  | .min1 => bMin1
  | .max1 => bMax1
  | .sum => bSum
  | .sorted => bSorted
  | .lenSet => bLenSet
  | .sortedSet => bSortedSet
  | .int => bInt
  | .intS => bIntS
  | .str => bStr
  | .all => bAll
  | .repr => bRepr
  | .isinst ts => bIsinst ts
  | .range1 => bRange1
  | .range2 => bRange2
  | .trange1 => bTrange1
  | .trange2 => bTrange2

inductive Mt where
  | index | count | split | join | startswith | replace | get1 | get2 | values
def mIndex : List D → Option D
  | [.tup xs, x] => if plain x && plain (.tup xs) then (findD x xs).map fun k => .int k else none
  | [.lst _ xs, x] => if plain x && plain (.tup xs) then (findD x xs).map fun k => .int k else none
  | _ => none
def mSplit : List D → Option D
  | [.str s, .str [c]] => if s.length ≤ SZ then some (.lst true ((splitOn c s).map .str)) else none
  | _ => none
def mJoin : List D → Option D
  | [.str sep, .lst _ xs] => (strsD xs).bind fun ss => sized ((joinS sep ss).length + sep.length) (.str (joinS sep ss))
  | _ => none
def mStartswith : List D → Option D
  | [.str s, .str t] => some (.bl (t.isPrefixOf s))
  | _ => none
def mReplace : List D → Option D
  | [.str s, .str (a :: o), .str n] => sized ((s.length + 1) * (n.length + 1)) (.str (replS (a :: o) n 0 s))
  | _ => none
def mGet1 : List D → Option D
  | [.dic _ ks vs, k] => if plain k && plain (.tup ks) then some ((lookD k ks vs).getD .non) else none
  | _ => none
def mGet2 : List D → Option D
  | [.dic _ ks vs, k, d] => if plain k && plain (.tup ks) then some ((lookD k ks vs).getD d) else none
  | _ => none
def mtop : Mt → List D → Option D
  | .index => mIndex
  | .split => mSplit
  | .join => mJoin
  | .startswith => mStartswith
  | .replace => mReplace
  | .get1 => mGet1
  | .get2 => mGet2
  | _ => fun _ => none

/-! ### the text -/
inductive Tg where
  | n (i : Nat)
  | nil | cons (t : Tg) (r : Tg)     -- a tuple of targets
mutual
def asgT : Tg → D → Env → Option Env
  | .n i, d, env => some (st env i d)
  | .nil, .tup [], env => some env
  | .cons t r, .tup (x :: xs), env => (asgT t x env).bind fun e => asgT r (.tup xs) e
  | _, _, _ => none
end

mutual
inductive E where
  | c (d : D)
  | v (i : Nat)
  | g (nm : List Nat) (d : D)
  | bin (o : BOp) (a b : E)
  | neg (a : E)
  | cmp (o : COp) (a b : E)
  | chain (o p : COp) (a b c : E)
  | isC (a : E) (d : D) (pos : Bool)
  | and (a b : E) | or (a b : E) | not (a : E)
  | ite (c a b : E)
  | tup (es : Es) | lst (es : Es) | dic (ks vs : Es)
  | idx (a i : E)
  | sl (a : E) (lo hi : OE)
  | rev (a : E)
  | call (f : Nat) (es : As)
  | bf (f : Bf) (es : Es)
  | meth (m : Mt) (a : E) (es : Es)
  | comp (t : Tg) (it : It) (tst : OE) (elt : E) (own : List Nat)
  | pop (x : Nat) (i : OE)
  | idxL (x : Nat) (i j : E)          -- x[i][j], x a list of own lists
inductive Es where
  | nil | cons (e : E) (r : Es)
inductive As where
  | nil | cons (io : Bool) (e : E) (r : As)
inductive OE where
  | none | some (e : E)
inductive It where
  | e (a : E) | rng1 (a : E) | rng2 (a b : E) | rng3 (a b c : E)
  | enum (a : E) | zip (a b : E) | rev (a : E) | vals (a : E)
end
mutual
inductive S where
  | set (t : Tg) (e : E)
  | par (ts : List Nat) (es : Es)
  | sub (x : Nat) (i e : E)
  | sub2 (x : Nat) (i : E) (y : Nat) (j : E) (a b : E)
  | aug (i : Nat) (o : BOp) (e : E)
  | app (x : Nat) (e : E) | ext (x : Nat) (e : E) | insr (x : Nat) (i e : E) | rem (x : Nat) (e : E) | rvs (x : Nat)
  | setdef (x : Nat) (k v : E)
  | lol0 (x : Nat) | lolApp (x : Nat) | lolAt (x : Nat) (i e : E)
  | expr (e : E)
  | ret (e : E) | retN
  | ife (c : E) (a b : Ss)
  | whl (c : E) (b : Ss)
  | for (t : Tg) (it : It) (b : Ss)
  | pass | dead
inductive Ss where
  | nil | cons (s : S) (r : Ss)
end

/-! ### what it computes -/
abbrev Call := Nat → List D → R (D × List D)
def late {β : Type} (a : E) (ra : Env → R (D × Env)) (k : Env → R (β × Env)) (env : Env) : R ((D × β) × Env) :=
  match a with
  | .v i => if isUnd (gt env i) then .bad else (k env).bind fun (b, e) => if isUnd (gt e i) then .bad else .ok ((fz (gt e i), b), e)
  | _ => (ra env).bind fun (d, e1) => (k e1).bind fun (b, e2) => .ok ((fz d, b), e2)
/-- one operand, two operands -/
def ev1 (a : E) (ra : Env → R (D × Env)) (env : Env) : R (List D × Env) := (late a ra (fun e => .ok ([], e)) env).bind fun ((d, ds), e) => .ok (d :: ds, e)
def ev2 (a b : E) (ra rb : Env → R (D × Env)) (env : Env) : R (List D × Env) := (late a ra (ev1 b rb) env).bind fun ((d, ds), e) => .ok (d :: ds, e)
def recvOk : Mt → D → Bool
  | .join, .str _ => true
  | .split, .str _ => true
  | .startswith, .str _ => true
  | .replace, .str _ => true
  | .count, .str _ => true
  | .index, .tup _ => true
  | .index, .lst _ _ => true
  | .get1, .dic _ _ _ => true
  | .get2, .dic _ _ _ => true
  | .values, .dic _ _ _ => true
  | _, _ => false
/-- a method's receiver and its arguments -/
def evM (m : Mt) (a : E) (ra : Env → R (D × Env)) (rs : Env → R (List D × Env)) (env : Env) : R (List D × Env) := match a with
  | .v i => if recvOk m (fz (gt env i)) then (rs env).bind fun (ds, e) => if isUnd (gt e i) then .bad else .ok (fz (gt e i) :: ds, e) else .bad
  | _ => (ra env).bind fun (d, e1) => if recvOk m (fz d) then (rs e1).bind fun (ds, e2) => .ok (fz d :: ds, e2) else .bad
def l1 {α : Type} (f : D → Option α) : List D → Option α
  | [x] => f x
  | _ => none
def l2 {α : Type} (f : D → D → Option α) : List D → Option α
  | [x, y] => f x y
  | _ => none
def done (env : Env) : R (Unit × Env) := .ok ((), env)
def asB : D → R Bool
  | .bl b => .ok b
  | _ => .bad
def asI : D → Option Int
  | .int i => some i
  | _ => none
def lists : D → Option (List D)
  | .tup xs => some xs
  | .lst _ xs => some xs
  | .str s => some (s.map fun c => .str [c])
  | .dic _ ks _ => some ks
  | _ => none
def seqs : D → Option (List D)
  | .tup xs => some xs
  | .lst _ xs => some xs
  | _ => none
def vals : D → Option (List D)
  | .dic _ _ vs => some vs
  | _ => none
def enumL (xs : List D) : List D := (xs.zipIdx).map fun p => .tup [.int p.2, p.1]
def zipL (xs ys : List D) : List D := (xs.zip ys).map fun p => .tup [p.1, p.2]
def range3 (a b c : Int) : List D := (List.range (if 0 < c then ((b - a + c - 1) / c).toNat else ((a - b + (-c) - 1) / (-c)).toNat)).map fun (k : Nat) => .int (a + c * k)
/-- the list comprehension's turns -/
def compL (own : List Nat) (tg : D → Env → Option Env) (tst : Env → R (Bool × Env)) (elt : Env → R (D × Env)) : List D → Env → R (List D × Env)
  | [], env => .ok ([], env)
  | x :: xs, env => (opt (tg x env)).bind fun e1 => (tst e1).bind fun (b, e2) =>
    if b then (elt e2).bind fun (d, e3) => (compL own tg tst elt xs (wipes e3 own)).bind fun (ds, e4) => .ok (fz d :: ds, e4)
    else compL own tg tst elt xs (wipes e2 own)
/-- a new list of bounded length -/
def newL (xs : List D) : Option D := if xs.length ≤ SZ then some (.lst true xs) else none
def popAt (xs : List D) (i : Int) : Option (D × List D) :=
  let k := if 0 ≤ i then i else i + xs.length
  if 0 ≤ k then (xs[k.toNat]?).map fun x => (x, xs.eraseIdx k.toNat) else none
def popop (d : D) (i : Option Int) : Option (D × D) := match d with
  | .lst true xs => (popAt xs (i.getD (-1))).map fun p => (p.1, .lst true p.2)
  | _ => none
def isFr : D → Bool
  | .lst b _ => !b
  | .dic b _ _ => !b
  | .lol _ => false
  | .und => false
  | _ => true

def passA (io : Bool) (i : Nat) (ds : List D) (e : Env) : R (List D × Env) :=
  if isUnd (gt e i) then .bad else if io then .ok (gt e i :: ds, st e i .und) else .ok (fz (gt e i) :: ds, st e i (fz (gt e i)))
def putBack : As → List D → Env → Env
  | .cons io (.v i) r, o :: os, env => putBack r os (if io then st env i o else env)
  | .cons _ _ r, _ :: os, env => putBack r os env
  | _, _, env => env
def dicPut (k v : D) : List D → List D → List D × List D
  | a :: ks, b :: vs => if eqv a k then (a :: ks, v :: vs) else let p := dicPut k v ks vs; (a :: p.1, b :: p.2)
  | _, _ => ([k], [v])
def dicOf : List D → List D → List D × List D → Option (List D × List D)
  | k :: ks, v :: vs, acc => dicOf ks vs (dicPut k v acc.1 acc.2)
  | _, _, acc => some acc

/-- x is None, x is True, x is False -/
def isCop (d : D) (pos : Bool) (x : D) : Option D := match d with
  | .non => (match x with | .und => none | .lol _ => none | .non => some (.bl pos) | _ => some (.bl (!pos)))
  | .bl b => (match x with | .und => none | .lol _ => none | .bl a => some (.bl ((a == b) == pos)) | _ => some (.bl (!pos)))
  | _ => none
def negop : D → Option D
  | .int i => some (.int (-i))
  | _ => none
def cmpD (o : COp) (a b : D) : Option D := (cmpop o a b).map .bl
def idxLop (x i j : D) : Option D := match x, i, j with
  | .lol xss, .int a, .int b => (at? xss a).bind fun xs => at? xs b
  | _, _, _ => none
def two {α β : Type} (f : Env → R (α × Env)) (g : Env → R (β × Env)) (env : Env) : R ((α × β) × Env) :=
  (f env).bind fun (a, e) => (g e).bind fun (b, e2) => .ok ((a, b), e2)

mutual
def ev (C : Call) : E → Env → R (D × Env)
  | .c d, env => .ok (d, env)
  | .g _ d, env => .ok (d, env)
  | .v i, env => if isUnd (fz (gt env i)) then .bad else .ok (fz (gt env i), st env i (fz (gt env i)))
  | .bin o a b, env => (ev2 a b (ev C a) (ev C b) env).bind fun (ds, e) => (opt (l2 (binop o) ds)).bind fun z => .ok (z, e)
  | .neg a, env => (ev1 a (ev C a) env).bind fun (ds, e) => (opt (l1 negop ds)).bind fun z => .ok (z, e)
  | .cmp o a b, env => (ev2 a b (ev C a) (ev C b) env).bind fun (ds, e) => (opt (l2 (cmpD o) ds)).bind fun z => .ok (z, e)
  | .chain o p a b c, env => (ev C a env).bind fun (x, e) => (ev C b e).bind fun (y, e1) => (opt (cmpop o (fz x) (fz y))).bind fun z =>
      if z then (ev C c e1).bind fun (w, e2) => (opt (cmpop p (fz y) (fz w))).bind fun u => .ok (.bl u, e2) else .ok (.bl false, e1)
  | .isC a d pos, env => (ev1 a (ev C a) env).bind fun (ds, e) => (opt (l1 (isCop d pos) ds)).bind fun z => .ok (z, e)
  | .and a b, env => (ev C a env).bind fun (x, e) => (asB x).bind fun t => if t then (ev C b e).bind fun (y, e2) => (asB y).bind fun u => .ok (.bl u, e2) else .ok (.bl false, e)
  | .or a b, env => (ev C a env).bind fun (x, e) => (asB x).bind fun t => if t then .ok (.bl true, e) else (ev C b e).bind fun (y, e2) => (asB y).bind fun u => .ok (.bl u, e2)
  | .not a, env => (ev C a env).bind fun (x, e) => (asB x).bind fun t => .ok (.bl (!t), e)
  | .ite c a b, env => (ev C c env).bind fun (x, e) => (asB x).bind fun t => if t then ev C a e else ev C b e
  | .tup es, env => (evX C es env).bind fun (ds, e) => .ok (.tup ds, e)
  | .lst es, env => (evX C es env).bind fun (ds, e) => .ok (.lst true ds, e)
  | .dic ks vs, env => (evX C ks env).bind fun (a, e) => (evX C vs e).bind fun (b, e2) => (opt (dicOf a b ([], []))).bind fun p => if plain (.tup a) then .ok (.dic true p.1 p.2, e2) else .bad
  | .idx a i, env => (ev2 a i (ev C a) (ev C i) env).bind fun (ds, e) => (opt (l2 idxop ds)).bind fun z => .ok (z, e)
  | .sl a lo hi, env => (late a (ev C a) (two (evI C lo) (evI C hi)) env).bind fun ((x, l, h), e) => (opt (slop x l h)).bind fun z => .ok (z, e)
  | .rev a, env => (ev1 a (ev C a) env).bind fun (ds, e) => (opt (l1 revop ds)).bind fun z => .ok (z, e)
  | .call f es, env => (evA C es env).bind fun (ds, e) => (C f ds).bind fun (r, os) => .ok (r, putBack es os e)
  | .bf f es, env => (evs C es env).bind fun (ds, e) => (opt (bfop f ds)).bind fun z => .ok (z, e)
  | .meth m a es, env => (evM m a (ev C a) (evs C es) env).bind fun (ds, e) => (opt (mtop m ds)).bind fun z => .ok (z, e)
  | .comp t it tst elt own, env => (evIt C it env).bind fun (xs, e1) => (compL own (asgT t) (evT C tst) (ev C elt) xs (wipes e1 own)).bind fun (ys, e2) =>
      (opt (newL ys)).bind fun z => .ok (z, restr e1 e2 own)
  | .pop x oi, env => (evI C oi env).bind fun (i, e) => (opt (popop (gt e x) i)).bind fun p => .ok (p.1, st e x p.2)
  | .idxL x i j, env => (ev C i env).bind fun (a, e1) => (ev C j e1).bind fun (b, e2) => (opt (idxLop (gt e2 x) a b)).bind fun z => .ok (z, e2)
/-- operands: names are read when all others are done -/
def evs (C : Call) : Es → Env → R (List D × Env)
  | .nil, env => .ok ([], env)
  | .cons a r, env => (late a (ev C a) (evs C r) env).bind fun ((d, ds), e) => .ok (d :: ds, e)
/-- items of a display -/
def evX (C : Call) : Es → Env → R (List D × Env)
  | .nil, env => .ok ([], env)
  | .cons a r, env => (ev C a env).bind fun (d, e1) => (evX C r e1).bind fun (ds, e2) => .ok (fz d :: ds, e2)
/-- arguments of a def -/
def evA (C : Call) : As → Env → R (List D × Env)
  | .nil, env => .ok ([], env)
  | .cons io (.v i) r, env => if isUnd (gt env i) then .bad else (evA C r env).bind fun (ds, e) => passA io i ds e
  | .cons io a r, env => (ev C a env).bind fun (d, e1) => (evA C r e1).bind fun (ds, e2) => .ok ((if io then d else fz d) :: ds, e2)
def evT (C : Call) : OE → Env → R (Bool × Env)
  | .none, env => .ok (true, env)
  | .some a, env => (ev C a env).bind fun (d, e) => (asB d).bind fun b => .ok (b, e)
def evI (C : Call) : OE → Env → R (Option Int × Env)
  | .none, env => .ok (none, env)
  | .some a, env => (ev C a env).bind fun (d, e) => (opt (asI d)).bind fun i => .ok (some i, e)
def evIt (C : Call) : It → Env → R (List D × Env)
  | .e a, env => (ev C a env).bind fun (d, e) => (opt (lists d)).bind fun xs => .ok (xs, e)
  | .rng1 a, env => (ev C a env).bind fun (d, e) => (opt (asI d)).bind fun n => if small n then .ok (rangeL 0 n, e) else .bad
  | .rng2 a b, env => (ev C a env).bind fun (d, e) => (opt (asI d)).bind fun i => (ev C b e).bind fun (d2, e2) => (opt (asI d2)).bind fun j => if small i && small j then .ok (rangeL i j, e2) else .bad
  | .rng3 a b c, env => (ev C a env).bind fun (d, e) => (opt (asI d)).bind fun i => (ev C b e).bind fun (d2, e2) => (opt (asI d2)).bind fun j => (ev C c e2).bind fun (d3, e3) => (opt (asI d3)).bind fun k =>
      if small i && small j && small k && k != 0 then .ok (range3 i j k, e3) else .bad
  | .enum a, env => (ev C a env).bind fun (d, e) => (opt (seqs d)).bind fun xs => .ok (enumL xs, e)
  | .zip a b, env => (ev C a env).bind fun (d, e) => (opt (seqs d)).bind fun xs => (ev C b e).bind fun (d2, e2) => (opt (seqs d2)).bind fun ys => .ok (zipL xs ys, e2)
  | .rev a, env => (ev C a env).bind fun (d, e) => (opt (seqs d)).bind fun xs => .ok (xs.reverse, e)
  | .vals a, env => (ev C a env).bind fun (d, e) => (opt (vals d)).bind fun xs => .ok (xs, e)
end

/-- a test -/
def evC (C : Call) (c : E) (env : Env) : R (Bool × Env) := (ev C c env).bind fun (d, e) => (asB d).bind fun b => .ok (b, e)
/-- values kept as they are, each then stored -/
def evP (C : Call) : Es → Env → R (List D × Env)
  | .nil, env => .ok ([], env)
  | .cons a r, env => (ev C a env).bind fun (d, e1) => (evP C r e1).bind fun (ds, e2) => .ok (d :: ds, e2)
/-- a tuple or a list unpacked -/
def asgTL : Tg → D → Env → Option Env
  | t, .lst _ xs, env => asgT t (.tup xs) env
  | t, d, env => asgT t d env
inductive Out where
  | nx (e : Env) | rt (d : D) (e : Env)
def R.nx (x : R Out) (f : Env → R Out) : R Out := x.bind fun
  | .nx e => f e
  | .rt d e => .ok (.rt d e)
@[simp] theorem R.nx_nx (e : Env) (f : Env → R Out) : (R.ok (Out.nx e)).nx f = f e := rfl
@[simp] theorem R.nx_rt (d : D) (e : Env) (f : Env → R Out) : (R.ok (Out.rt d e)).nx f = .ok (.rt d e) := rfl
@[simp] theorem R.nx_exc (x : D) (f : Env → R Out) : (R.exc x : R Out).nx f = .exc x := rfl
@[simp] theorem R.nx_bad (f : Env → R Out) : (R.bad : R Out).nx f = .bad := rfl

def forL (tg : D → Env → Option Env) (b : Env → R Out) : List D → Env → R Out
  | [], env => .ok (.nx env)
  | x :: xs, env => (opt (tg x env)).bind fun e => (b e).nx (forL tg b xs)
def whN (c : Env → R (Bool × Env)) (b : Env → R Out) : Nat → Env → Option (R Out)
  | 0, _ => none
  | n + 1, env => match c env with
    | .bad => some .bad
    | .exc x => some (.exc x)
    | .ok (false, e) => some (.ok (.nx e))
    | .ok (true, e) => match b e with
      | .bad => some .bad
      | .exc x => some (.exc x)
      | .ok (.rt d e2) => some (.ok (.rt d e2))
      | .ok (.nx e2) => whN c b n e2
open Classical in
noncomputable def wh (c : Env → R (Bool × Env)) (b : Env → R Out) (env : Env) : R Out :=
  if h : ∃ r n, whN c b n env = some r then Classical.choose h else .bad

def parS : List Nat → List D → Env → Option Env
  | [], [], e => some e
  | i :: is, d :: ds, e => parS is ds (st e i d)
  | _, _, _ => none
def subop (d k v : D) : Option D := match d, k with
  | .lst true xs, .int i =>
    let j := if 0 ≤ i then i else i + xs.length
    if 0 ≤ j ∧ j < xs.length then some (.lst true (xs.set j.toNat v)) else none
  | .dic true ks vs, k => if plain k && plain (.tup ks) && decide (ks.length < SZ) then some (.dic true (dicPut k v ks vs).1 (dicPut k v ks vs).2) else none
  | _, _ => none
def isLst : D → Bool
  | .lst _ _ => true
  | _ => false
def appop (d v : D) : Option D := match d with
  | .lst true xs => if xs.length < SZ then some (.lst true (xs ++ [v])) else none
  | _ => none
def extop (d v : D) : Option D := match d, v with
  | .lst true xs, .lst _ ys => if xs.length + ys.length < SZ then some (.lst true (xs ++ ys)) else none
  | .lst true xs, .tup ys => if xs.length + ys.length < SZ then some (.lst true (xs ++ ys)) else none
  | _, _ => none
def insop (d i v : D) : Option D := match d, i with
  | .lst true xs, .int k => if 0 ≤ k ∧ xs.length < SZ then some (.lst true (xs.take k.toNat ++ v :: xs.drop k.toNat)) else none
  | _, _ => none
def remop (d v : D) : Option D := match d with
  | .lst true xs => if plain v && plain (.tup xs) then (findD v xs).map fun k => .lst true (xs.eraseIdx k) else none
  | _ => none
def rvsop : D → Option D
  | .lst true xs => some (.lst true xs.reverse)
  | _ => none
def setdefop (d k v : D) : Option D := match d with
  | .dic true ks vs => if plain k && plain (.tup ks) && decide (ks.length < SZ) then some (if memD k ks then .dic true ks vs else .dic true (ks ++ [k]) (vs ++ [v])) else none
  | _ => none
def lolAppop : D → Option D
  | .lol xss => if xss.length < SZ then some (.lol (xss ++ [[]])) else none
  | _ => none
def lolAtop (d i v : D) : Option D := match d, i with
  | .lol xss, .int k => if 0 ≤ k then (xss[k.toNat]?).bind fun xs => if xs.length < SZ then some (.lol (xss.set k.toNat (xs ++ [v]))) else none else none
  | _, _ => none
def augop (o : BOp) (a b : D) : Option D := match a with
  | .int _ => binop o a b
  | .str _ => binop o a b
  | _ => none

mutual
noncomputable def ex (C : Call) : S → Env → R Out
  | .set (.n i) e, env => (ev C e env).bind fun (d, e1) => .ok (.nx (st e1 i d))
  | .set t e, env => (ev C e env).bind fun (d, e1) => (opt (asgT t d e1)).bind fun e2 => .ok (.nx e2)
  | .par ts es, env => (evP C es env).bind fun (ds, e1) => (opt (parS ts ds e1)).bind fun e2 => .ok (.nx e2)
  | .sub x i e, env => (ev C e env).bind fun (d, e1) => if isUnd (gt e1 x) then .bad else (ev C i e1).bind fun (k, e2) => (opt (subop (gt e2 x) (fz k) (fz d))).bind fun z => .ok (.nx (st e2 x z))
  | .sub2 x i y j a b, env => (ev C a env).bind fun (d, e1) => (ev C b e1).bind fun (d2, e2) => (ev C i e2).bind fun (k, e3) => (opt (subop (gt e3 x) (fz k) (fz d))).bind fun z =>
      (ev C j (st e3 x z)).bind fun (l, e4) => (opt (subop (gt e4 y) (fz l) (fz d2))).bind fun w => .ok (.nx (st e4 y w))
  | .aug i o e, env => (ev C e env).bind fun (d, e1) => (opt (augop o (gt e1 i) d)).bind fun z => .ok (.nx (st e1 i z))
  | .app x e, env => if isLst (gt env x) then (ev C e env).bind fun (d, e1) => (opt (appop (gt e1 x) (fz d))).bind fun z => .ok (.nx (st e1 x z)) else .bad
  | .ext x e, env => (late e (ev C e) done env).bind fun ((d, _), e1) => (opt (extop (gt e1 x) d)).bind fun z => .ok (.nx (st e1 x z))
  | .insr x i e, env => (ev C i env).bind fun (k, e1) => (ev C e e1).bind fun (d, e2) => (opt (insop (gt e2 x) k (fz d))).bind fun z => .ok (.nx (st e2 x z))
  | .rem x e, env => (ev C e env).bind fun (d, e1) => (opt (remop (gt e1 x) (fz d))).bind fun z => .ok (.nx (st e1 x z))
  | .rvs x, env => (opt (rvsop (gt env x))).bind fun z => .ok (.nx (st env x z))
  | .setdef x k v, env => (ev C k env).bind fun (a, e1) => (ev C v e1).bind fun (b, e2) => (opt (setdefop (gt e2 x) (fz a) (fz b))).bind fun z => .ok (.nx (st e2 x z))
  | .lol0 x, env => .ok (.nx (st env x (.lol [])))
  | .lolApp x, env => (opt (lolAppop (gt env x))).bind fun z => .ok (.nx (st env x z))
  | .lolAt x i e, env => (ev C i env).bind fun (k, e1) => (ev C e e1).bind fun (d, e2) => (opt (lolAtop (gt e2 x) k (fz d))).bind fun z => .ok (.nx (st e2 x z))
  | .expr e, env => (ev C e env).bind fun (_, e1) => .ok (.nx e1)
  | .ret (.v i), env => if isUnd (gt env i) then .bad else .ok (.rt (gt env i) (st env i .und))
  | .ret e, env => (ev C e env).bind fun (d, e1) => .ok (.rt d e1)
  | .retN, env => .ok (.rt .non env)
  | .ife c a b, env => (evC C c env).bind fun (t, e) => if t then exs C a e else exs C b e
  | .whl c b, env => wh (evC C c) (exs C b) env
  | .for t it b, env => (evIt C it env).bind fun (xs, e) => forL (asgT t) (exs C b) xs e
  | .pass, env => .ok (.nx env)
  | .dead, env => .bad
noncomputable def exs (C : Call) : Ss → Env → R Out
  | .nil, env => .ok (.nx env)
  | .cons s r, env => (ex C s env).nx (exs C r)
end
end My
namespace My
structure Fn where
  np : Nat
  io : List Bool
  dv : List D
  nl : Nat
  body : Ss
def outs : List Bool → Env → List D
  | b :: bs, d :: e => (if b then d else .und) :: outs bs e
  | _, _ => []
def fill (fn : Fn) (args : List D) : List D := args ++ fn.dv.drop (args.length + fn.dv.length - fn.np)
def fin (io : List Bool) : R Out → R (D × List D)
  | .ok (.rt d e) => .ok (d, outs io e)
  | .ok (.nx e) => .ok (.non, outs io e)
  | .exc x => .exc x
  | .bad => .bad
abbrev Prog := Nat → Option Fn
noncomputable def callF (P : Prog) : Nat → Call
  | 0 => fun _ _ => .bad
  | k + 1 => fun f args => match P f with
    | none => .bad
    | some fn => if (fill fn args).length = fn.np then fin fn.io (exs (callF P k) fn.body (fill fn args ++ List.replicate (fn.nl - fn.np) .und)) else .bad
theorem callF_eq {P : Prog} {k f : Nat} {fn : Fn} {args : List D} (h : P f = some fn) (hl : (fill fn args).length = fn.np) :
    callF P (k + 1) f args = fin fn.io (exs (callF P k) fn.body (fill fn args ++ List.replicate (fn.nl - fn.np) .und)) := by
  show (match P f with | none => _ | some fn => _) = _
  rw [h]
  show (if _ then _ else _) = _
  rw [if_pos hl]

/-! ### while -/
theorem whN_mono {c : Env → R (Bool × Env)} {b : Env → R Out} : ∀ {n : Nat} {env : Env} {r : R Out}, whN c b n env = some r → whN c b (n + 1) env = some r := by
  intro n
  induction n with
  | zero => intro env r h; simp [whN] at h
  | succ n ih =>
    intro env r h
    cases hc : c env with
    | bad => simpa [whN, hc] using h
    | exc x => simpa [whN, hc] using h
    | ok p =>
      obtain ⟨t, e⟩ := p
      cases t with
      | false => simpa [whN, hc] using h
      | true =>
        cases hb : b e with
        | bad => simpa [whN, hc, hb] using h
        | exc x => simpa [whN, hc, hb] using h
        | ok o =>
          cases o with
          | rt d e2 => simpa [whN, hc, hb] using h
          | nx e2 =>
            have h' : whN c b n e2 = some r := by simpa [whN, hc, hb] using h
            have := ih h'
            show whN c b (n + 1 + 1) env = some r
            simp only [whN, hc, hb]
            simpa [whN] using this
theorem whN_le {c : Env → R (Bool × Env)} {b : Env → R Out} {n m : Nat} {env : Env} {r : R Out} (h : whN c b n env = some r) (hm : n ≤ m) : whN c b m env = some r := by
  induction hm with
  | refl => exact h
  | step _ ih => exact whN_mono ih
theorem wh_of {c : Env → R (Bool × Env)} {b : Env → R Out} {n : Nat} {env : Env} {r : R Out} (h : whN c b n env = some r) : wh c b env = r := by
  have e : ∃ r n, whN c b n env = some r := ⟨r, n, h⟩
  unfold wh
  rw [dif_pos e]
  obtain ⟨m, hm⟩ := Classical.choose_spec e
  have h1 := whN_le hm (Nat.le_max_left m n)
  have h2 := whN_le h (Nat.le_max_right m n)
  rw [h1] at h2
  exact Option.some.inj h2
/-- one turn -/
theorem wh_eq (c : Env → R (Bool × Env)) (b : Env → R Out) (env : Env) :
    wh c b env = (c env).bind fun (t, e) => if t then (b e).nx (wh c b) else .ok (.nx e) := by
  cases hc : c env with
  | bad => exact wh_of (n := 1) (by simp [whN, hc])
  | exc x => exact wh_of (n := 1) (by simp [whN, hc])
  | ok p =>
    obtain ⟨t, e⟩ := p
    cases t with
    | false => exact wh_of (n := 1) (by simp [whN, hc])
    | true =>
      show wh c b env = (b e).nx (wh c b)
      cases hb : b e with
      | bad => exact wh_of (n := 1) (by simp [whN, hc, hb])
      | exc x => exact wh_of (n := 1) (by simp [whN, hc, hb])
      | ok o =>
        cases o with
        | rt d e2 => exact wh_of (n := 1) (by simp [whN, hc, hb])
        | nx e2 =>
          show wh c b env = wh c b e2
          by_cases h : ∃ r n, whN c b n e2 = some r
          · obtain ⟨r, n, hn⟩ := h
            rw [wh_of hn]
            exact wh_of (n := n + 1) (by simp [whN, hc, hb, hn])
          · have h' : ¬ ∃ r n, whN c b n env = some r := by
              rintro ⟨r, n, hn⟩
              cases n with
              | zero => simp [whN] at hn
              | succ n => exact h ⟨r, n, by simpa [whN, hc, hb] using hn⟩
            unfold wh
            rw [dif_neg h, dif_neg h']
/-- a loop of a falling measure comes to an end at which P holds -/
theorem wh_ind {c : Env → R (Bool × Env)} {b : Env → R Out} {α : Type} (I : α → Env) (m : α → Nat) (r : α → R Out)
    (step : ∀ a, ((c (I a)).bind fun (t, e) => if t then (b e).nx (fun e2 => wh c b e2) else .ok (.nx e)) = r a ∨
      ∃ a', m a' < m a ∧ r a' = r a ∧ ((c (I a)).bind fun (t, e) => if t then (b e).nx (fun e2 => wh c b e2) else .ok (.nx e)) = wh c b (I a')) : ∀ a, wh c b (I a) = r a := by
  intro a
  generalize hn : m a = n
  induction n using Nat.strongRecOn generalizing a with
  | ind n ih =>
    rw [wh_eq]
    rcases step a with h | ⟨a', h1, h2, h3⟩
    · exact h
    · exact h3.trans ((ih _ (hn ▸ h1) a' rfl).trans h2)
end My

set_option Elab.async false
set_option linter.all false
set_option autoImplicit false
/-! Mini: how it computes, as rules for simp. -/
namespace My
section
variable {C : Call} {env : Env} {a b c e i : E} {es ks vs : Es} {as : As} {n : Nat} {d : D} {β : Type}
theorem s_c : ev C (.c d) env = .ok (d, env) := rfl
theorem s_v : ev C (.v n) env = if isUnd (fz (gt env n)) then .bad else .ok (fz (gt env n), st env n (fz (gt env n))) := rfl
theorem s_bin {o : BOp} : ev C (.bin o a b) env = (ev2 a b (ev C a) (ev C b) env).bind fun (ds, e) => (opt (l2 (binop o) ds)).bind fun z => .ok (z, e) := rfl
theorem s_neg : ev C (.neg a) env = (ev1 a (ev C a) env).bind fun (ds, e) => (opt (l1 negop ds)).bind fun z => .ok (z, e) := rfl
theorem s_cmp {o : COp} : ev C (.cmp o a b) env = (ev2 a b (ev C a) (ev C b) env).bind fun (ds, e) => (opt (l2 (cmpD o) ds)).bind fun z => .ok (z, e) := rfl
theorem s_and : ev C (.and a b) env = (ev C a env).bind fun (x, e) => (asB x).bind fun t => if t then (ev C b e).bind fun (y, e2) => (asB y).bind fun u => .ok (.bl u, e2) else .ok (.bl false, e) := rfl
theorem s_or : ev C (.or a b) env = (ev C a env).bind fun (x, e) => (asB x).bind fun t => if t then .ok (.bl true, e) else (ev C b e).bind fun (y, e2) => (asB y).bind fun u => .ok (.bl u, e2) := rfl
theorem s_not : ev C (.not a) env = (ev C a env).bind fun (x, e) => (asB x).bind fun t => .ok (.bl (!t), e) := rfl
theorem s_tup : ev C (.tup es) env = (evX C es env).bind fun (ds, e) => .ok (.tup ds, e) := rfl
theorem s_lst : ev C (.lst es) env = (evX C es env).bind fun (ds, e) => .ok (.lst true ds, e) := rfl
theorem s_idx : ev C (.idx a i) env = (ev2 a i (ev C a) (ev C i) env).bind fun (ds, e) => (opt (l2 idxop ds)).bind fun z => .ok (z, e) := rfl
theorem s_sl {lo hi : OE} : ev C (.sl a lo hi) env = (late a (ev C a) (two (evI C lo) (evI C hi)) env).bind fun ((x, l, h), e) => (opt (slop x l h)).bind fun z => .ok (z, e) := rfl
theorem s_rev : ev C (.rev a) env = (ev1 a (ev C a) env).bind fun (ds, e) => (opt (l1 revop ds)).bind fun z => .ok (z, e) := rfl
theorem s_call {f : Nat} : ev C (.call f as) env = (evA C as env).bind fun (ds, e) => (C f ds).bind fun (r, os) => .ok (r, putBack as os e) := rfl
theorem s_bf {f : Bf} : ev C (.bf f es) env = (evs C es env).bind fun (ds, e) => (opt (bfop f ds)).bind fun z => .ok (z, e) := rfl
theorem s_meth {m : Mt} : ev C (.meth m a es) env = (evM m a (ev C a) (evs C es) env).bind fun (ds, e) => (opt (mtop m ds)).bind fun z => .ok (z, e) := rfl
theorem s_es0 : evs C .nil env = .ok ([], env) := rfl
theorem s_es1 : evs C (.cons a es) env = (late a (ev C a) (evs C es) env).bind fun ((d, ds), e) => .ok (d :: ds, e) := rfl
theorem s_x0 : evX C .nil env = .ok ([], env) := rfl
theorem s_x1 : evX C (.cons a es) env = (ev C a env).bind fun (d, e1) => (evX C es e1).bind fun (ds, e2) => .ok (fz d :: ds, e2) := rfl
theorem s_p0 : evP C .nil env = .ok ([], env) := rfl
theorem s_p1 : evP C (.cons a es) env = (ev C a env).bind fun (d, e1) => (evP C es e1).bind fun (ds, e2) => .ok (d :: ds, e2) := rfl
theorem s_a0 : evA C .nil env = .ok ([], env) := rfl
theorem s_av {io : Bool} : evA C (.cons io (.v n) as) env = if isUnd (gt env n) then .bad else (evA C as env).bind fun (ds, e) => passA io n ds e := rfl
theorem s_ac {io : Bool} : evA C (.cons io (.c d) as) env = (ev C (.c d) env).bind fun (d, e1) => (evA C as e1).bind fun (ds, e2) => .ok ((if io then d else fz d) :: ds, e2) := rfl
theorem s_abin {io : Bool} {o : BOp} : evA C (.cons io (.bin o a b) as) env = (ev C (.bin o a b) env).bind fun (d, e1) => (evA C as e1).bind fun (ds, e2) => .ok ((if io then d else fz d) :: ds, e2) := rfl
theorem s_aneg {io : Bool} : evA C (.cons io (.neg a) as) env = (ev C (.neg a) env).bind fun (d, e1) => (evA C as e1).bind fun (ds, e2) => .ok ((if io then d else fz d) :: ds, e2) := rfl
theorem s_aidx {io : Bool} : evA C (.cons io (.idx a i) as) env = (ev C (.idx a i) env).bind fun (d, e1) => (evA C as e1).bind fun (ds, e2) => .ok ((if io then d else fz d) :: ds, e2) := rfl
theorem s_acall {io : Bool} {f : Nat} {xs : As} : evA C (.cons io (.call f xs) as) env = (ev C (.call f xs) env).bind fun (d, e1) => (evA C as e1).bind fun (ds, e2) => .ok ((if io then d else fz d) :: ds, e2) := rfl
theorem s_abf {io : Bool} {f : Bf} : evA C (.cons io (.bf f es) as) env = (ev C (.bf f es) env).bind fun (d, e1) => (evA C as e1).bind fun (ds, e2) => .ok ((if io then d else fz d) :: ds, e2) := rfl
theorem s_atup {io : Bool} : evA C (.cons io (.tup es) as) env = (ev C (.tup es) env).bind fun (d, e1) => (evA C as e1).bind fun (ds, e2) => .ok ((if io then d else fz d) :: ds, e2) := rfl
theorem s_alst {io : Bool} : evA C (.cons io (.lst es) as) env = (ev C (.lst es) env).bind fun (d, e1) => (evA C as e1).bind fun (ds, e2) => .ok ((if io then d else fz d) :: ds, e2) := rfl
theorem s_asl {io : Bool} {lo hi : OE} : evA C (.cons io (.sl a lo hi) as) env = (ev C (.sl a lo hi) env).bind fun (d, e1) => (evA C as e1).bind fun (ds, e2) => .ok ((if io then d else fz d) :: ds, e2) := rfl
theorem s_acmp {io : Bool} {o : COp} : evA C (.cons io (.cmp o a b) as) env = (ev C (.cmp o a b) env).bind fun (d, e1) => (evA C as e1).bind fun (ds, e2) => .ok ((if io then d else fz d) :: ds, e2) := rfl
theorem s_t0 : evT C .none env = .ok (true, env) := rfl
theorem s_t1 : evT C (.some a) env = (ev C a env).bind fun (d, e) => (asB d).bind fun b => .ok (b, e) := rfl
theorem s_i0 : evI C .none env = .ok (none, env) := rfl
theorem s_i1 : evI C (.some a) env = (ev C a env).bind fun (d, e) => (opt (asI d)).bind fun i => .ok (some i, e) := rfl
theorem s_it : evIt C (.e a) env = (ev C a env).bind fun (d, e) => (opt (lists d)).bind fun xs => .ok (xs, e) := rfl
theorem s_r1 : evIt C (.rng1 a) env = (ev C a env).bind fun (d, e) => (opt (asI d)).bind fun n => if small n then .ok (rangeL 0 n, e) else .bad := rfl
theorem s_r2 : evIt C (.rng2 a b) env = (ev C a env).bind fun (d, e) => (opt (asI d)).bind fun i => (ev C b e).bind fun (d2, e2) => (opt (asI d2)).bind fun j => if small i && small j then .ok (rangeL i j, e2) else .bad := rfl
theorem s_test : evC C c env = (ev C c env).bind fun (d, e) => (asB d).bind fun b => .ok (b, e) := rfl
-- late
variable {ra : Env → R (D × Env)} {k : Env → R (β × Env)}
theorem l_v : late (.v n) ra k env = if isUnd (gt env n) then .bad else (k env).bind fun (b, e) => if isUnd (gt e n) then .bad else .ok ((fz (gt e n), b), e) := rfl
theorem l_c : late (.c d) ra k env = (ra env).bind fun (d, e1) => (k e1).bind fun (b, e2) => .ok ((fz d, b), e2) := rfl
theorem l_bin {o : BOp} : late (.bin o a b) ra k env = (ra env).bind fun (d, e1) => (k e1).bind fun (b, e2) => .ok ((fz d, b), e2) := rfl
theorem l_neg : late (.neg a) ra k env = (ra env).bind fun (d, e1) => (k e1).bind fun (b, e2) => .ok ((fz d, b), e2) := rfl
theorem l_cmp {o : COp} : late (.cmp o a b) ra k env = (ra env).bind fun (d, e1) => (k e1).bind fun (b, e2) => .ok ((fz d, b), e2) := rfl
theorem l_and : late (.and a b) ra k env = (ra env).bind fun (d, e1) => (k e1).bind fun (b, e2) => .ok ((fz d, b), e2) := rfl
theorem l_or : late (.or a b) ra k env = (ra env).bind fun (d, e1) => (k e1).bind fun (b, e2) => .ok ((fz d, b), e2) := rfl
theorem l_not : late (.not a) ra k env = (ra env).bind fun (d, e1) => (k e1).bind fun (b, e2) => .ok ((fz d, b), e2) := rfl
theorem l_tup : late (.tup es) ra k env = (ra env).bind fun (d, e1) => (k e1).bind fun (b, e2) => .ok ((fz d, b), e2) := rfl
theorem l_lst : late (.lst es) ra k env = (ra env).bind fun (d, e1) => (k e1).bind fun (b, e2) => .ok ((fz d, b), e2) := rfl
theorem l_idx : late (.idx a i) ra k env = (ra env).bind fun (d, e1) => (k e1).bind fun (b, e2) => .ok ((fz d, b), e2) := rfl
theorem l_sl {lo hi : OE} : late (.sl a lo hi) ra k env = (ra env).bind fun (d, e1) => (k e1).bind fun (b, e2) => .ok ((fz d, b), e2) := rfl
theorem l_rev : late (.rev a) ra k env = (ra env).bind fun (d, e1) => (k e1).bind fun (b, e2) => .ok ((fz d, b), e2) := rfl
theorem l_call {f : Nat} : late (.call f as) ra k env = (ra env).bind fun (d, e1) => (k e1).bind fun (b, e2) => .ok ((fz d, b), e2) := rfl
theorem l_bf {f : Bf} : late (.bf f es) ra k env = (ra env).bind fun (d, e1) => (k e1).bind fun (b, e2) => .ok ((fz d, b), e2) := rfl
theorem l_meth {m : Mt} : late (.meth m a es) ra k env = (ra env).bind fun (d, e1) => (k e1).bind fun (b, e2) => .ok ((fz d, b), e2) := rfl
theorem l_comp {t : Tg} {it : It} {o : OE} {own : List Nat} : late (.comp t it o a own) ra k env = (ra env).bind fun (d, e1) => (k e1).bind fun (b, e2) => .ok ((fz d, b), e2) := rfl
theorem s_2 {rb : Env → R (D × Env)} : ev2 a b ra rb env = (late a ra (ev1 b rb) env).bind fun ((d, ds), e) => .ok (d :: ds, e) := rfl
theorem s_1 : ev1 a ra env = (late a ra (fun e => .ok ([], e)) env).bind fun ((d, ds), e) => .ok (d :: ds, e) := rfl
-- statements
variable {s : S} {r x y : Ss} {t : Tg} {it : It}
theorem x0 : exs C .nil env = .ok (.nx env) := rfl
theorem x1 : exs C (.cons s r) env = (ex C s env).nx (exs C r) := rfl
theorem x_set : ex C (.set (.n n) a) env = (ev C a env).bind fun (d, e1) => .ok (.nx (st e1 n d)) := rfl
theorem x_setT {u : Tg} : ex C (.set (.cons t u) a) env = (ev C a env).bind fun (d, e1) => (opt (asgT (.cons t u) d e1)).bind fun e2 => .ok (.nx e2) := rfl
theorem x_par {ts : List Nat} : ex C (.par ts es) env = (evP C es env).bind fun (ds, e1) => (opt (parS ts ds e1)).bind fun e2 => .ok (.nx e2) := rfl
theorem x_sub : ex C (.sub n i e) env = (ev C e env).bind fun (d, e1) => if isUnd (gt e1 n) then .bad else (ev C i e1).bind fun (k, e2) => (opt (subop (gt e2 n) (fz k) (fz d))).bind fun z => .ok (.nx (st e2 n z)) := rfl
theorem x_app : ex C (.app n e) env = if isLst (gt env n) then (ev C e env).bind fun (d, e1) => (opt (appop (gt e1 n) (fz d))).bind fun z => .ok (.nx (st e1 n z)) else .bad := rfl
theorem x_expr : ex C (.expr e) env = (ev C e env).bind fun (_, e1) => .ok (.nx e1) := rfl
theorem x_retv : ex C (.ret (.v n)) env = if isUnd (gt env n) then .bad else .ok (.rt (gt env n) (st env n .und)) := rfl
theorem x_retc : ex C (.ret (.c d)) env = .ok (.rt d env) := rfl
theorem x_rettup : ex C (.ret (.tup es)) env = (ev C (.tup es) env).bind fun (d, e1) => .ok (.rt d e1) := rfl
theorem x_retlst : ex C (.ret (.lst es)) env = (ev C (.lst es) env).bind fun (d, e1) => .ok (.rt d e1) := rfl
theorem x_retbin {o : BOp} : ex C (.ret (.bin o a b)) env = (ev C (.bin o a b) env).bind fun (d, e1) => .ok (.rt d e1) := rfl
theorem x_retcmp {o : COp} : ex C (.ret (.cmp o a b)) env = (ev C (.cmp o a b) env).bind fun (d, e1) => .ok (.rt d e1) := rfl
theorem x_retand : ex C (.ret (.and a b)) env = (ev C (.and a b) env).bind fun (d, e1) => .ok (.rt d e1) := rfl
theorem x_retor : ex C (.ret (.or a b)) env = (ev C (.or a b) env).bind fun (d, e1) => .ok (.rt d e1) := rfl
theorem x_retnot : ex C (.ret (.not a)) env = (ev C (.not a) env).bind fun (d, e1) => .ok (.rt d e1) := rfl
theorem x_retidx : ex C (.ret (.idx a i)) env = (ev C (.idx a i) env).bind fun (d, e1) => .ok (.rt d e1) := rfl
theorem x_retsl {lo hi : OE} : ex C (.ret (.sl a lo hi)) env = (ev C (.sl a lo hi) env).bind fun (d, e1) => .ok (.rt d e1) := rfl
theorem x_retcall {f : Nat} : ex C (.ret (.call f as)) env = (ev C (.call f as) env).bind fun (d, e1) => .ok (.rt d e1) := rfl
theorem x_retbf {f : Bf} : ex C (.ret (.bf f es)) env = (ev C (.bf f es) env).bind fun (d, e1) => .ok (.rt d e1) := rfl
theorem x_retmeth {m : Mt} : ex C (.ret (.meth m a es)) env = (ev C (.meth m a es) env).bind fun (d, e1) => .ok (.rt d e1) := rfl
theorem x_retcomp {o : OE} {own : List Nat} : ex C (.ret (.comp t it o a own)) env = (ev C (.comp t it o a own) env).bind fun (d, e1) => .ok (.rt d e1) := rfl
theorem x_retN : ex C .retN env = .ok (.rt .non env) := rfl
theorem x_if : ex C (.ife c x y) env = (evC C c env).bind fun (t, e) => if t then exs C x e else exs C y e := rfl
theorem x_whl : ex C (.whl c x) env = wh (evC C c) (exs C x) env := rfl
theorem x_for : ex C (.for t it x) env = (evIt C it env).bind fun (xs, e) => forL (asgT t) (exs C x) xs e := rfl
theorem x_pass : ex C .pass env = .ok (.nx env) := rfl
-- values
variable {i j : Int} {p q : List Nat} {xs ys : List D} {o o' : Bool}
theorem b_add : binop .add (.int i) (.int j) = some (.int (i + j)) := rfl
theorem b_sub : binop .sub (.int i) (.int j) = some (.int (i - j)) := rfl
theorem b_mulL (h1 : -18446744073709551616 < i) (h2 : i < 18446744073709551616) : binop .mul (.int i) (.int j) = some (.int (i * j)) := if_pos (by
  unfold mulOk
  rw [decide_eq_true (p := i.natAbs < 18446744073709551616) (by omega)]
  rfl)
theorem b_mulR (h1 : -18446744073709551616 < j) (h2 : j < 18446744073709551616) : binop .mul (.int i) (.int j) = some (.int (i * j)) := if_pos (by
  unfold mulOk
  rw [decide_eq_true (p := j.natAbs < 18446744073709551616) (by omega), Bool.or_true]
  rfl)
theorem b_fdiv (h1 : j ≠ 0) (h2 : -1073741824 < j) (h3 : j < 1073741824) : binop .fdiv (.int i) (.int j) = some (.int (i.fdiv j)) := if_pos ⟨h1, .inl (by omega)⟩
theorem b_mod (h : j ≠ 0) : binop .mod (.int i) (.int j) = some (.int (i.fmod j)) := if_pos h
theorem b_pow (h1 : 0 ≤ j) (h2 : j ≤ 1000000) (h3 : -18446744073709551616 < i) (h4 : i < 18446744073709551616) : binop .pow (.int i) (.int j) = some (.int (i ^ j.toNat)) := if_pos ⟨h1, h2, by omega⟩
theorem b_addS : binop .add (.str p) (.str q) = sized (p.length + q.length) (.str (p ++ q)) := rfl
theorem b_mulS : binop .mul (.str p) (.int i) = if -1000000 ≤ i ∧ i ≤ 1000000 then sized (p.length * i.toNat) (.str (reps i.toNat p)) else none := rfl
theorem b_addT : binop .add (.tup xs) (.tup ys) = sized (xs.length + ys.length) (.tup (xs ++ ys)) := rfl
theorem b_addL : binop .add (.lst o xs) (.lst o' ys) = sized (xs.length + ys.length) (.lst true (xs ++ ys)) := rfl
theorem c_lt : cmpD .lt (.int i) (.int j) = some (.bl (decide (i < j))) := rfl
theorem c_le : cmpD .le (.int i) (.int j) = some (.bl (decide (i ≤ j))) := rfl
theorem c_gt : cmpD .gt (.int i) (.int j) = some (.bl (decide (j < i))) := rfl
theorem c_ge : cmpD .ge (.int i) (.int j) = some (.bl (decide (j ≤ i))) := rfl
theorem c_eq : cmpD .eq (.int i) (.int j) = some (.bl (i == j)) := rfl
theorem c_ne : cmpD .ne (.int i) (.int j) = some (.bl (!(i == j))) := rfl
theorem c_eqS : cmpD .eq (.str p) (.str q) = some (.bl (p == q)) := rfl
theorem c_neS : cmpD .ne (.str p) (.str q) = some (.bl (!(p == q))) := rfl
theorem i_tup : idxop (.tup xs) (.int i) = at? xs i := rfl
theorem i_lst : idxop (.lst o xs) (.int i) = at? xs i := rfl
theorem i_scr {ns : List Int} : idxop (.scr ns) (.int i) = (at? ns i).map .int := rfl
theorem i_str : idxop (.str p) (.int i) = (at? p i).map fun c => .str [c] := rfl
theorem a0 {α : Type} {u : α} {us : List α} : at? (u :: us) 0 = some u := rfl
theorem a1 {α : Type} {u v : α} {us : List α} : at? (u :: v :: us) 1 = some v := rfl
theorem a2 {α : Type} {u v w : α} {us : List α} : at? (u :: v :: w :: us) 2 = some w := rfl
theorem a3 {α : Type} {u v w z : α} {us : List α} : at? (u :: v :: w :: z :: us) 3 = some z := rfl
theorem sub0 {u v : D} : subop (.lst true (u :: xs)) (.int 0) v = some (.lst true (v :: xs)) := by
  simp only [subop]
  rw [if_pos (by simp)]
  rfl
theorem sub1 {u v w : D} : subop (.lst true (w :: u :: xs)) (.int 1) v = some (.lst true (w :: v :: xs)) := by
  simp only [subop]
  rw [if_pos (by simp; omega)]
  rfl
theorem f_int : fz (.int i) = .int i := rfl
theorem f_bl : fz (.bl o) = .bl o := rfl
theorem f_str : fz (.str p) = .str p := rfl
theorem f_tup : fz (.tup xs) = .tup xs := rfl
theorem f_lst : fz (.lst o xs) = .lst false xs := rfl
theorem f_non : fz .non = .non := rfl
theorem f_scr {ns : List Int} : fz (.scr ns) = .scr ns := rfl
theorem f_und : fz .und = .und := rfl
theorem u_int : isUnd (.int i) = false := rfl
theorem u_bl : isUnd (.bl o) = false := rfl
theorem u_str : isUnd (.str p) = false := rfl
theorem u_tup : isUnd (.tup xs) = false := rfl
theorem u_lst : isUnd (.lst o xs) = false := rfl
theorem u_non : isUnd .non = false := rfl
theorem u_scr {ns : List Int} : isUnd (.scr ns) = false := rfl
theorem u_und : isUnd .und = true := rfl
theorem g0 {u : D} {l : Env} : gt (u :: l) 0 = u := rfl
theorem g1 {u : D} {l : Env} {n : Nat} : gt (u :: l) (n + 1) = gt l n := rfl
theorem t0 {u v : D} {l : Env} : st (u :: l) 0 v = v :: l := rfl
theorem t1 {u v : D} {l : Env} {n : Nat} : st (u :: l) (n + 1) v = u :: st l n v := rfl
theorem as_n : asgT (.n n) d env = some (st env n d) := rfl
theorem as_nil : asgT .nil (.tup []) env = some env := rfl
theorem as_cons {u : Tg} {v : D} : asgT (.cons t u) (.tup (v :: xs)) env = (asgT t v env).bind fun e => asgT u (.tup xs) e := rfl
theorem par0 : parS [] [] env = some env := rfl
theorem par1 {is : List Nat} : parS (n :: is) (d :: xs) env = parS is xs (st env n d) := rfl
theorem as_b : asB (.bl o) = .ok o := rfl
theorem as_i : asI (.int i) = some i := rfl
theorem passT : passA true n xs env = if isUnd (gt env n) then .bad else .ok (gt env n :: xs, st env n .und) := rfl
theorem passF : passA false n xs env = if isUnd (gt env n) then .bad else .ok (fz (gt env n) :: xs, st env n (fz (gt env n))) := rfl
theorem pb0 {os : List D} : putBack .nil os env = env := by cases os <;> rfl
theorem pbT {os : List D} : putBack (.cons true (.v n) as) (d :: os) env = putBack as os (st env n d) := rfl
theorem pbF {os : List D} : putBack (.cons false (.v n) as) (d :: os) env = putBack as os env := rfl
theorem pb_nil : putBack as [] env = env := by
  cases as with
  | nil => rfl
  | cons io e r => cases e <;> rfl
theorem pbc {os : List D} {v : D} : putBack (.cons o (.c v) as) (d :: os) env = putBack as os env := rfl
theorem pbbin {os : List D} {u : BOp} : putBack (.cons o (.bin u a b) as) (d :: os) env = putBack as os env := rfl
theorem pbneg {os : List D} : putBack (.cons o (.neg a) as) (d :: os) env = putBack as os env := rfl
theorem pbidx {os : List D} {i : E} : putBack (.cons o (.idx a i) as) (d :: os) env = putBack as os env := rfl
theorem pbcall {os : List D} {f : Nat} {zs : As} : putBack (.cons o (.call f zs) as) (d :: os) env = putBack as os env := rfl
theorem pbbf {os : List D} {f : Bf} : putBack (.cons o (.bf f es) as) (d :: os) env = putBack as os env := rfl
theorem pbtup {os : List D} : putBack (.cons o (.tup es) as) (d :: os) env = putBack as os env := rfl
theorem pblst {os : List D} : putBack (.cons o (.lst es) as) (d :: os) env = putBack as os env := rfl
theorem pbsl {os : List D} {lo hi : OE} : putBack (.cons o (.sl a lo hi) as) (d :: os) env = putBack as os env := rfl
theorem pbcmp {os : List D} {u : COp} : putBack (.cons o (.cmp u a b) as) (d :: os) env = putBack as os env := rfl
theorem fin_rt {io : List Bool} : fin io (.ok (.rt d env)) = .ok (d, outs io env) := rfl
theorem fin_nx {io : List Bool} : fin io (.ok (.nx env)) = .ok (.non, outs io env) := rfl
theorem out0 : outs [] env = [] := by cases env <;> rfl
theorem outT {io : List Bool} : outs (true :: io) (d :: env) = d :: outs io env := rfl
theorem outF {io : List Bool} : outs (false :: io) (d :: env) = .und :: outs io env := rfl
theorem l2_ok {α : Type} {f : D → D → Option α} {u v : D} : l2 f [u, v] = f u v := rfl
theorem l1_ok {α : Type} {f : D → Option α} {u : D} : l1 f [u] = f u := rfl
theorem q_lenL : bfop .len [.lst o xs] = some (.int xs.length) := rfl
theorem q_lenT : bfop .len [.tup xs] = some (.int xs.length) := rfl
theorem q_lenS : bfop .len [.str p] = some (.int p.length) := rfl
theorem q_lenC {ns : List Int} : bfop .len [.scr ns] = some (.int ns.length) := rfl
theorem q_abs : bfop .abs [.int i] = some (.int (if i < 0 then -i else i)) := rfl
theorem q_min : bfop .min2 [.int i, .int j] = some (.int (if j < i then j else i)) := rfl
theorem q_max : bfop .max2 [.int i, .int j] = some (.int (if j > i then j else i)) := rfl
theorem q_intb : bfop .int [.bl o] = some (.int (if o then 1 else 0)) := rfl
theorem q_inti : bfop .int [.int i] = some (.int i) := rfl
theorem q_tupT : bfop .tuple [.tup xs] = some (.tup xs) := rfl
theorem q_tupL : bfop .tuple [.lst o xs] = some (.tup xs) := rfl
theorem q_listT : bfop .list [.tup xs] = some (.lst true xs) := rfl
theorem q_listL : bfop .list [.lst o xs] = some (.lst true xs) := rfl
theorem r_lst : revop (.lst o xs) = some (.lst true xs.reverse) := rfl
theorem n_int : negop (.int i) = some (.int (-i)) := rfl
theorem ls_tup : lists (.tup xs) = some xs := rfl
theorem ls_lst : lists (.lst o xs) = some xs := rfl
theorem isl : isLst (.lst o xs) = true := rfl
theorem ap_ok : appop (.lst true xs) d = if xs.length < SZ then some (.lst true (xs ++ [d])) else none := rfl
theorem m_v {m : Mt} {rs : Env → R (List D × Env)} : evM m (.v n) ra rs env = if recvOk m (fz (gt env n)) then (rs env).bind fun (ds, e) => if isUnd (gt e n) then .bad else .ok (fz (gt e n) :: ds, e) else .bad := rfl
theorem m_c {m : Mt} {rs : Env → R (List D × Env)} : evM m (.c d) ra rs env = (ra env).bind fun (d, e1) => if recvOk m (fz d) then (rs e1).bind fun (ds, e2) => .ok (fz d :: ds, e2) else .bad := rfl
theorem rv_join : recvOk .join (.str p) = true := rfl
theorem mt_joinE : mtop .join [.str p, .lst o xs] = (strsD xs).bind fun ss => sized ((joinS p ss).length + p.length) (.str (joinS p ss)) := rfl
theorem for0 {tg : D → Env → Option Env} {bd : Env → R Out} : forL tg bd [] env = .ok (.nx env) := rfl
theorem for1 {tg : D → Env → Option Env} {bd : Env → R Out} : forL tg bd (d :: xs) env = (opt (tg d env)).bind fun e => (bd e).nx (forL tg bd xs) := rfl
theorem if_f {α : Type} {u v : α} : (if false = true then u else v) = v := rfl
theorem if_t {α : Type} {u v : α} : (if true = true then u else v) = u := rfl
theorem ob {α : Type} {β : Type} {u : α} {f : α → Option β} : (some u).bind f = f u := rfl
theorem om {α : Type} {β : Type} {u : α} {f : α → β} : (some u).map f = some (f u) := rfl
end
theorem fill0 {np nl : Nat} {io : List Bool} {b : Ss} {args : List D} (h : args.length = np) : fill ⟨np, io, [], nl, b⟩ args = args := by
  simp [fill]
/-- a call of a def without defaults -/
theorem call_eq {P : Prog} {k f np nl : Nat} {io : List Bool} {b : Ss} {args : List D} (h : P f = some ⟨np, io, [], nl, b⟩) (hl : args.length = np) :
    callF P (k + 1) f args = fin io (exs (callF P k) b (args ++ List.replicate (nl - np) .und)) := by
  have e := callF_eq (k := k) (args := args) h (by rw [fill0 hl]; exact hl)
  rw [e, fill0 hl]
theorem mulOk_l {i j : Int} (h : i.natAbs < 18446744073709551616) : mulOk i j = true := by
  unfold mulOk
  rw [decide_eq_true h]
  rfl
theorem mulOk_r {i j : Int} (h : j.natAbs < 18446744073709551616) : mulOk i j = true := by
  unfold mulOk
  rw [decide_eq_true h, Bool.or_true]
  rfl
theorem sized_ok {n : Nat} {d : D} (h : n ≤ 1000000) : sized n d = some d := if_pos h
/-- a for loop that never leaves early -/
theorem forL_nx {tg : D → Env → Option Env} {b : Env → R Out} (P : List D → Env → Prop)
    (h : ∀ x xs e, P (x :: xs) e → ∃ e1 e2, tg x e = some e1 ∧ b e1 = .ok (.nx e2) ∧ P xs e2) : ∀ xs env, P xs env → ∃ e', forL tg b xs env = .ok (.nx e') ∧ P [] e'
  | [], env, q => ⟨env, rfl, q⟩
  | x :: xs, env, q => by
    obtain ⟨e1, e2, h1, h2, h3⟩ := h x xs env q
    obtain ⟨e', h4, h5⟩ := forL_nx P h xs e2 h3
    refine ⟨e', ?_, h5⟩
    rw [for1, h1, opt_some, R.bind_ok, h2, R.nx_nx, h4]
theorem rangeL_at {a b : Int} {k : Nat} {d : D} (h : (rangeL a b)[k]? = some d) : d = .int (a + k) ∧ (a + k : Int) < b := by
  unfold rangeL at h
  rw [List.getElem?_map] at h
  cases e : (List.range (b - a).toNat)[k]? with
  | none => rw [e] at h; cases h
  | some j =>
    rw [e] at h
    obtain ⟨hlt, hj⟩ := List.getElem?_eq_some_iff.mp e
    rw [List.getElem_range] at hj
    rw [List.length_range] at hlt
    subst hj
    cases h
    exact ⟨rfl, by omega⟩
theorem rangeL_mem {a b : Int} {d : D} (h : d ∈ rangeL a b) : ∃ i : Int, d = .int i ∧ a ≤ i ∧ i < b := by
  unfold rangeL at h
  obtain ⟨k, hk, rfl⟩ := List.mem_map.mp h
  rw [List.mem_range] at hk
  exact ⟨a + k, rfl, by omega, by omega⟩
theorem rangeL_len {a b : Int} : (rangeL a b).length = (b - a).toNat := by simp [rangeL]
theorem rangeL_nil {a b : Int} (h : b ≤ a) : rangeL a b = [] := by
  unfold rangeL
  rw [show (b - a).toNat = 0 by omega]
  rfl
theorem rangeL_cons {a b : Int} (h : a < b) : rangeL a b = .int a :: rangeL (a + 1) b := by
  unfold rangeL
  rw [show (b - a).toNat = (b - (a + 1)).toNat + 1 by omega, List.range_succ_eq_map, List.map_cons, List.map_map]
  congr 1
  · simp
  · apply List.map_congr_left
    intro k _
    show D.int _ = D.int _
    congr 1
    simp
    omega
theorem small_ok {i : Int} (h1 : -1000000 ≤ i) (h2 : i ≤ 1000000) : small i = true := by
  unfold small
  rw [decide_eq_true h1, decide_eq_true h2]
  rfl
theorem reps_len {α : Type} (n : Nat) (xs : List α) : (reps n xs).length = n * xs.length := by
  induction n with
  | zero => simp [reps]
  | succ n ih => rw [reps, List.length_append, ih, Nat.succ_mul, Nat.add_comm]
theorem reps_snoc {α : Type} (n : Nat) (xs : List α) : reps (n + 1) xs = reps n xs ++ xs := by
  induction n with
  | zero => simp [reps]
  | succ n ih =>
    show xs ++ reps (n + 1) xs = (xs ++ reps n xs) ++ xs
    rw [ih, List.append_assoc]
theorem strs_map (ss : List (List Nat)) : strsD (ss.map .str) = some ss := by
  induction ss with
  | nil => rfl
  | cons s ss ih => rw [List.map_cons, strsD, ih]; rfl
theorem joinS_nil (ss : List (List Nat)) : joinS [] ss = ss.flatten := by
  induction ss with
  | nil => rfl
  | cons s ss ih =>
    cases ss with
    | nil => simp [joinS]
    | cons t ts => rw [joinS, ih]; simp
end My

set_option Elab.async false
set_option linter.all false
set_option maxRecDepth 100000
set_option autoImplicit false
namespace My.K33
open My
@[reducible] def f_divided : Nat := 0
@[reducible] def f_slope_table : Nat := 1
@[reducible] def f_slope_steps : Nat := 2
@[reducible] def f_law_feed : Nat := 3
@[reducible] def f_law_take : Nat := 4
@[reducible] def f_law_common : Nat := 5
@[reducible] def f_law_slope : Nat := 6
@[reducible] def f_law_steps : Nat := 7
@[reducible] def f_law : Nat := 8
def b_divided : Ss :=
  (.cons (.par [2, 3, 4] (.cons (.v 0) (.cons (.c (.int 1)) (.cons (.c (.int 0)) .nil))))
  (.cons (.par [5, 6, 7] (.cons (.v 1) (.cons (.c (.int 0)) (.cons (.c (.int 1)) .nil))))
  (.cons (.whl (.cmp .ne (.v 5) (.c (.int 0))) (.cons (.set (.n 8) (.bin .fdiv (.v 2) (.v 5)))
  (.cons (.par [2, 5] (.cons (.v 5) (.cons (.bin .sub (.v 2) (.bin .mul (.v 8) (.v 5))) .nil)))
  (.cons (.par [3, 6] (.cons (.v 6) (.cons (.bin .sub (.v 3) (.bin .mul (.v 8) (.v 6))) .nil)))
  (.cons (.par [4, 7] (.cons (.v 7) (.cons (.bin .sub (.v 4) (.bin .mul (.v 8) (.v 7))) .nil)))
  .nil)))))
  (.cons (.ife (.cmp .lt (.v 2) (.c (.int 0))) (.cons (.ret (.tup (.cons (.bin .sub (.c (.int 0)) (.v 2)) (.cons (.bin .sub (.c (.int 0)) (.v 3)) (.cons (.bin .sub (.c (.int 0)) (.v 4)) .nil)))))
  .nil) .nil)
  (.cons (.ret (.tup (.cons (.v 2) (.cons (.v 3) (.cons (.v 4) .nil)))))
  .nil)))))
def F_divided : Fn := ⟨2, [false, false], [], 9, b_divided⟩
def b_slope_table : Ss :=
  (.cons (.set (.cons (.n 1) (.cons (.n 2) .nil)) (.v 0))
  (.cons (.set (.cons (.n 3) (.cons (.n 4) (.cons (.n 5) .nil))) (.call f_divided (.cons false (.v 1) (.cons false (.v 2) .nil))))
  (.cons (.ife (.or (.cmp .ne (.v 3) (.c (.int 1))) (.or (.cmp .lt (.v 2) (.c (.int 0))) (.and (.cmp .eq (.v 2) (.c (.int 0))) (.cmp .ne (.v 1) (.c (.int 1)))))) (.cons .dead
  .nil) .nil)
  (.cons (.ret (.tup (.cons (.v 4) (.cons (.v 5) (.cons (.bin .sub (.c (.int 0)) (.v 2)) (.cons (.v 1) .nil))))))
  .nil))))
def F_slope_table : Fn := ⟨1, [false], [], 6, b_slope_table⟩
def b_slope_steps : Ss :=
  (.cons (.expr (.call f_slope_table (.cons false (.v 0) .nil)))
  (.cons (.par [2, 3] (.cons (.bf .abs (.cons (.idx (.v 0) (.c (.int 0))) .nil)) (.cons (.idx (.v 0) (.c (.int 1))) .nil)))
  (.cons (.set (.n 1) (.idx (.lst (.cons (.c (.str [114])) (.cons (.c (.str [108])) .nil))) (.bf .int (.cons (.cmp .lt (.idx (.v 0) (.c (.int 0))) (.c (.int 0))) .nil))))
  (.cons (.par [4, 5, 6] (.cons (.c (.int 0)) (.cons (.c (.int 0)) (.cons (.lst .nil) .nil))))
  (.cons (.whl (.or (.cmp .lt (.v 4) (.v 2)) (.cmp .lt (.v 5) (.v 3))) (.cons (.ife (.and (.cmp .lt (.v 5) (.v 3)) (.cmp .le (.bin .mul (.bin .add (.v 5) (.c (.int 1))) (.v 2)) (.bin .mul (.v 3) (.v 4)))) (.cons (.app 6 (.c (.str [117])))
  (.cons (.set (.n 5) (.bin .add (.v 5) (.c (.int 1))))
  .nil)) (.cons (.app 6 (.v 1))
  (.cons (.set (.n 4) (.bin .add (.v 4) (.c (.int 1))))
  .nil)))
  .nil))
  (.cons (.ret (.meth .join (.c (.str [])) (.cons (.v 6) .nil)))
  .nil))))))
def F_slope_steps : Fn := ⟨1, [false], [], 7, b_slope_steps⟩
def b_law_feed : Ss :=
  (.cons (.set (.n 2) (.bin .add (.bin .mul (.c (.int 7901)) (.v 1)) (.c (.int 24697))))
  (.cons (.ife (.cmp .lt (.v 1) (.bf .len (.cons (.v 0) .nil))) (.cons (.set (.n 2) (.idx (.v 0) (.v 1)))
  .nil) (.cons (.ife (.cmp .gt (.bf .len (.cons (.v 0) .nil)) (.c (.int 0))) (.cons (.set (.n 2) (.bin .add (.bin .mul (.bin .mod (.idx (.v 0) (.bin .mod (.v 1) (.bf .len (.cons (.v 0) .nil)))) (.c (.int 2147483629))) (.c (.int 31))) (.bin .mul (.c (.int 7901)) (.v 1))))
  .nil) .nil)
  .nil))
  (.cons (.set (.n 3) (.c (.int 0)))
  (.cons (.ife (.cmp .ge (.v 2) (.bin .pow (.c (.int 10)) (.c (.int 18)))) (.cons (.set (.n 3) (.v 2))
  .nil) .nil)
  (.cons (.ret (.lst (.cons (.v 3) (.cons (.bin .add (.bin .mod (.bin .pow (.bin .add (.bin .mul (.bin .mod (.v 2) (.c (.int 2147483629))) (.c (.int 48271))) (.bin .mul (.c (.int 40692)) (.v 1))) (.c (.int 5))) (.c (.int 2147483629))) (.c (.int 1))) .nil))))
  .nil)))))
def F_law_feed : Fn := ⟨2, [false, false], [], 4, b_law_feed⟩
def b_law_take : Ss :=
  (.cons (.ife (.cmp .gt (.idx (.v 0) (.c (.int 0))) (.c (.int 0))) (.cons (.set (.n 3) (.bin .mod (.idx (.v 0) (.c (.int 0))) (.v 1)))
  (.cons (.sub 0 (.c (.int 0)) (.bin .fdiv (.idx (.v 0) (.c (.int 0))) (.v 1)))
  (.cons (.ret (.v 3))
  .nil))) .nil)
  (.cons (.set (.n 2) (.bin .mod (.bin .mul (.idx (.v 0) (.c (.int 1))) (.c (.int 48271))) (.c (.int 2147483647))))
  (.cons (.sub 0 (.c (.int 1)) (.bin .add (.bin .mod (.bin .add (.bin .mul (.v 2) (.c (.int 40692))) (.c (.int 30103))) (.c (.int 2147483399))) (.c (.int 1))))
  (.cons (.ret (.bin .mod (.bin .fdiv (.bin .add (.bin .mul (.v 2) (.c (.int 2147483647))) (.idx (.v 0) (.c (.int 1)))) (.c (.int 8191))) (.v 1)))
  .nil))))
def F_law_take : Fn := ⟨2, [true, false], [], 4, b_law_take⟩
def b_law_common : Ss :=
  (.cons (.par [0, 1] (.cons (.bf .max2 (.cons (.v 0) (.cons (.bin .sub (.c (.int 0)) (.v 0)) .nil))) (.cons (.bf .max2 (.cons (.v 1) (.cons (.bin .sub (.c (.int 0)) (.v 1)) .nil))) .nil)))
  (.cons (.whl (.cmp .ne (.v 1) (.c (.int 0))) (.cons (.par [0, 1] (.cons (.v 1) (.cons (.bin .mod (.v 0) (.v 1)) .nil)))
  .nil))
  (.cons (.ret (.v 0))
  .nil)))
def F_law_common : Fn := ⟨2, [false, false], [], 2, b_law_common⟩
def b_law_slope : Ss :=
  (.cons (.set (.n 2) (.call f_law_take (.cons true (.v 0) (.cons false (.c (.int 8)) .nil))))
  (.cons (.ife (.cmp .eq (.v 2) (.c (.int 0))) (.cons (.ret (.tup (.cons (.c (.int 1)) (.cons (.c (.int 0)) .nil))))
  .nil) .nil)
  (.cons (.set (.n 3) (.bin .add (.c (.int 1)) (.call f_law_take (.cons true (.v 0) (.cons false (.v 1) .nil)))))
  (.cons (.set (.n 4) (.call f_law_take (.cons true (.v 0) (.cons false (.bin .add (.bin .sub (.v 1) (.v 3)) (.c (.int 1))) .nil))))
  (.cons (.set (.n 5) (.call f_law_common (.cons false (.v 4) (.cons false (.v 3) .nil))))
  (.cons (.ret (.tup (.cons (.bin .fdiv (.bin .mul (.idx (.lst (.cons (.c (.int 1)) (.cons (.neg (.c (.int 1))) .nil))) (.call f_law_take (.cons true (.v 0) (.cons false (.c (.int 2)) .nil)))) (.v 4)) (.v 5)) (.cons (.bin .fdiv (.v 3) (.v 5)) .nil))))
  .nil))))))
def F_law_slope : Fn := ⟨2, [true, false], [], 6, b_law_slope⟩
def b_law_steps : Ss :=
  (.cons (.set (.cons (.n 3) (.cons (.n 4) .nil)) (.v 0))
  (.cons (.set (.n 1) (.bf .max2 (.cons (.v 3) (.cons (.bin .sub (.c (.int 0)) (.v 3)) .nil))))
  (.cons (.ife (.cmp .eq (.v 1) (.c (.int 0))) (.cons (.ret (.bin .mul (.c (.str [117])) (.v 4)))
  .nil) .nil)
  (.cons (.par [5, 6] (.cons (.c (.str [])) (.cons (.idx (.c (.str [114, 108])) (.bf .int (.cons (.cmp .lt (.v 3) (.c (.int 0))) .nil))) .nil)))
  (.cons (.for (.n 2) (.rng2 (.c (.int 1)) (.bin .add (.v 1) (.c (.int 1)))) (.cons (.set (.n 7) (.bin .sub (.bin .fdiv (.bin .mul (.v 4) (.v 2)) (.v 1)) (.bin .fdiv (.bin .mul (.v 4) (.bin .sub (.v 2) (.c (.int 1)))) (.v 1))))
  (.cons (.set (.n 5) (.bin .add (.bin .add (.v 5) (.v 6)) (.bin .mul (.c (.str [117])) (.v 7))))
  .nil)))
  (.cons (.ret (.v 5))
  .nil))))))
def F_law_steps : Fn := ⟨1, [false], [], 8, b_law_steps⟩
def b_law : Ss :=
  (.cons (.set (.n 1) (.lst .nil))
  (.cons (.for (.n 2) (.rng1 (.bf .max2 (.cons (.c (.int 5)) (.cons (.bf .min2 (.cons (.c (.int 12)) (.cons (.bf .len (.cons (.v 0) .nil)) .nil))) .nil)))) (.cons (.set (.n 4) (.call f_law_feed (.cons false (.v 0) (.cons false (.v 2) .nil))))
  (.cons (.app 1 (.call f_law_slope (.cons true (.v 4) (.cons false (.idx (.lst (.cons (.c (.int 6)) (.cons (.c (.int 24)) .nil))) (.call f_law_take (.cons true (.v 4) (.cons false (.c (.int 2)) .nil)))) .nil))))
  .nil)))
  (.cons (.for (.n 3) (.e (.bin .add (.v 1) (.rev (.v 1)))) (.cons (.ife (.cmp .ne (.call f_slope_steps (.cons false (.v 3) .nil)) (.call f_law_steps (.cons false (.v 3) .nil))) (.cons (.ret (.c (.bl false)))
  .nil) .nil)
  .nil))
  (.cons (.ret (.c (.bl true)))
  .nil))))
def F_law : Fn := ⟨1, [false], [], 5, b_law⟩
def PG : Prog
  | 0 => some F_divided
  | 1 => some F_slope_table
  | 2 => some F_slope_steps
  | 3 => some F_law_feed
  | 4 => some F_law_take
  | 5 => some F_law_common
  | 6 => some F_law_slope
  | 7 => some F_law_steps
  | 8 => some F_law
  | _ => none
end My.K33

set_option Elab.async false
set_option linter.all false
set_option autoImplicit false
namespace My.K33
theorem take_ok (k : Nat) {a b m : Int} (ha : 0 ≤ a) (hb : 0 ≤ b) (hm : 0 < m) (hm2 : m < 1000000000) : ∃ r a' b', 0 ≤ a' ∧ 0 ≤ b' ∧ 0 ≤ r ∧ r < m ∧
    callF PG (k + 1) f_law_take [.lst true [.int a, .int b], .int m] = .ok (.int r, [.lst true [.int a', .int b'], .und]) := by
  have hn : m ≠ 0 := by omega
  rw [call_eq (P := PG) (f := f_law_take) (b := b_law_take) (np := 2) (nl := 4) (io := [true, false]) rfl rfl]
  by_cases h : 0 < a
  · refine ⟨a.fmod m, a.fdiv m, b, Int.fdiv_nonneg ha (by omega), hb, Int.fmod_nonneg_of_pos a hm, Int.fmod_lt_of_pos a hm, ?_⟩
    have h2 : -1073741824 < m := by omega
    have h3 : m < 1073741824 := by omega
    simp -implicitDefEqProofs only [b_law_take, Int.reduceEq, Int.reduceNe, Int.reduceLT, Int.reduceLE, Int.reduceNeg, ne_eq, not_false_eq_true, not_true_eq_false, ↓reduceIte, Bool.false_eq_true, if_true, if_false, opt_some, opt_none, R.bind_ok, R.bind_exc, R.bind_bad, R.nx_nx, R.nx_rt, R.nx_exc, R.nx_bad, List.replicate, List.cons_append, List.nil_append, Nat.add_one_sub_one, Nat.reduceSub, Bool.not_true, Bool.not_false, decide_true, decide_false, two, My.s_c, My.s_v, My.s_bin, My.s_neg, My.s_cmp, My.s_and, My.s_or, My.s_not, My.s_tup, My.s_lst, My.s_idx, My.s_sl, My.s_rev, My.s_call, My.s_bf, My.s_meth, My.s_es0, My.s_es1, My.s_x0, My.s_x1, My.s_p0, My.s_p1, My.s_a0, My.s_av, My.s_ac, My.s_abin, My.s_aneg, My.s_aidx, My.s_acall, My.s_abf, My.s_atup, My.s_alst, My.s_asl, My.s_acmp, My.s_t0, My.s_t1, My.s_i0, My.s_i1, My.s_it, My.s_r1, My.s_r2, My.s_test, My.l_v, My.l_c, My.l_bin, My.l_neg, My.l_cmp, My.l_and, My.l_or, My.l_not, My.l_tup, My.l_lst, My.l_idx, My.l_sl, My.l_rev, My.l_call, My.l_bf, My.l_meth, My.l_comp, My.s_2, My.s_1, My.x0, My.x1, My.x_set, My.x_setT, My.x_par, My.x_sub, My.x_app, My.x_expr, My.x_retv, My.x_retc, My.x_rettup, My.x_retlst, My.x_retbin, My.x_retcmp, My.x_retand, My.x_retor, My.x_retnot, My.x_retidx, My.x_retsl, My.x_retcall, My.x_retbf, My.x_retmeth, My.x_retcomp, My.x_retN, My.x_if, My.x_whl, My.x_for, My.x_pass, My.b_add, My.b_sub, My.b_mulL, My.b_mulR, My.b_fdiv, My.b_mod, My.b_pow, My.b_addS, My.b_mulS, My.b_addT, My.b_addL, My.c_lt, My.c_le, My.c_gt, My.c_ge, My.c_eq, My.c_ne, My.c_eqS, My.c_neS, My.i_tup, My.i_lst, My.i_scr, My.i_str, My.a0, My.a1, My.a2, My.a3, My.sub0, My.sub1, My.f_int, My.f_bl, My.f_str, My.f_tup, My.f_lst, My.f_non, My.f_scr, My.f_und, My.u_int, My.u_bl, My.u_str, My.u_tup, My.u_lst, My.u_non, My.u_scr, My.u_und, My.g0, My.g1, My.t0, My.t1, My.as_n, My.as_nil, My.as_cons, My.par0, My.par1, My.as_b, My.as_i, My.passT, My.passF, My.pb0, My.pbT, My.pbF, My.pb_nil, My.pbc, My.pbbin, My.pbneg, My.pbidx, My.pbcall, My.pbbf, My.pbtup, My.pblst, My.pbsl, My.pbcmp, My.fin_rt, My.fin_nx, My.out0, My.outT, My.outF, My.l2_ok, My.l1_ok, My.q_lenL, My.q_lenT, My.q_lenS, My.q_lenC, My.q_abs, My.q_min, My.q_max, My.q_intb, My.q_inti, My.q_tupT, My.q_tupL, My.q_listT, My.q_listL, My.r_lst, My.n_int, My.ls_tup, My.ls_lst, My.isl, My.ap_ok, My.m_v, My.m_c, My.rv_join, My.mt_joinE, My.for0, My.for1, My.if_f, My.if_t, My.ob, My.om, decide_eq_true h, hn, h2, h3]
  · let one := (b * 48271).fmod 2147483647
    let b' := (one * 40692 + 30103).fmod 2147483399 + 1
    have h1 : 0 ≤ (one * 40692 + 30103).fmod 2147483399 := Int.fmod_nonneg_of_pos _ (by decide)
    refine ⟨((one * 2147483647 + b').fdiv 8191).fmod m, a, b', ha, by omega, Int.fmod_nonneg_of_pos _ hm, Int.fmod_lt_of_pos _ hm, ?_⟩
    simp -implicitDefEqProofs only [b_law_take, Int.reduceEq, Int.reduceNe, Int.reduceLT, Int.reduceLE, Int.reduceNeg, ne_eq, not_false_eq_true, not_true_eq_false, ↓reduceIte, Bool.false_eq_true, if_true, if_false, opt_some, opt_none, R.bind_ok, R.bind_exc, R.bind_bad, R.nx_nx, R.nx_rt, R.nx_exc, R.nx_bad, List.replicate, List.cons_append, List.nil_append, Nat.add_one_sub_one, Nat.reduceSub, Bool.not_true, Bool.not_false, decide_true, decide_false, two, My.s_c, My.s_v, My.s_bin, My.s_neg, My.s_cmp, My.s_and, My.s_or, My.s_not, My.s_tup, My.s_lst, My.s_idx, My.s_sl, My.s_rev, My.s_call, My.s_bf, My.s_meth, My.s_es0, My.s_es1, My.s_x0, My.s_x1, My.s_p0, My.s_p1, My.s_a0, My.s_av, My.s_ac, My.s_abin, My.s_aneg, My.s_aidx, My.s_acall, My.s_abf, My.s_atup, My.s_alst, My.s_asl, My.s_acmp, My.s_t0, My.s_t1, My.s_i0, My.s_i1, My.s_it, My.s_r1, My.s_r2, My.s_test, My.l_v, My.l_c, My.l_bin, My.l_neg, My.l_cmp, My.l_and, My.l_or, My.l_not, My.l_tup, My.l_lst, My.l_idx, My.l_sl, My.l_rev, My.l_call, My.l_bf, My.l_meth, My.l_comp, My.s_2, My.s_1, My.x0, My.x1, My.x_set, My.x_setT, My.x_par, My.x_sub, My.x_app, My.x_expr, My.x_retv, My.x_retc, My.x_rettup, My.x_retlst, My.x_retbin, My.x_retcmp, My.x_retand, My.x_retor, My.x_retnot, My.x_retidx, My.x_retsl, My.x_retcall, My.x_retbf, My.x_retmeth, My.x_retcomp, My.x_retN, My.x_if, My.x_whl, My.x_for, My.x_pass, My.b_add, My.b_sub, My.b_mulL, My.b_mulR, My.b_fdiv, My.b_mod, My.b_pow, My.b_addS, My.b_mulS, My.b_addT, My.b_addL, My.c_lt, My.c_le, My.c_gt, My.c_ge, My.c_eq, My.c_ne, My.c_eqS, My.c_neS, My.i_tup, My.i_lst, My.i_scr, My.i_str, My.a0, My.a1, My.a2, My.a3, My.sub0, My.sub1, My.f_int, My.f_bl, My.f_str, My.f_tup, My.f_lst, My.f_non, My.f_scr, My.f_und, My.u_int, My.u_bl, My.u_str, My.u_tup, My.u_lst, My.u_non, My.u_scr, My.u_und, My.g0, My.g1, My.t0, My.t1, My.as_n, My.as_nil, My.as_cons, My.par0, My.par1, My.as_b, My.as_i, My.passT, My.passF, My.pb0, My.pbT, My.pbF, My.pb_nil, My.pbc, My.pbbin, My.pbneg, My.pbidx, My.pbcall, My.pbbf, My.pbtup, My.pblst, My.pbsl, My.pbcmp, My.fin_rt, My.fin_nx, My.out0, My.outT, My.outF, My.l2_ok, My.l1_ok, My.q_lenL, My.q_lenT, My.q_lenS, My.q_lenC, My.q_abs, My.q_min, My.q_max, My.q_intb, My.q_inti, My.q_tupT, My.q_tupL, My.q_listT, My.q_listL, My.r_lst, My.n_int, My.ls_tup, My.ls_lst, My.isl, My.ap_ok, My.m_v, My.m_c, My.rv_join, My.mt_joinE, My.for0, My.for1, My.if_f, My.if_t, My.ob, My.om, decide_eq_false h, hn, one, b']
theorem feed_ok (k : Nat) {ns : List Int} {j : Int} (h0 : 0 ≤ j) (h1 : j < 100) : ∃ a b, 0 ≤ a ∧ 0 ≤ b ∧
    callF PG (k + 1) f_law_feed [.scr ns, .int j] = .ok (.lst true [.int a, .int b], [.und, .und]) := by
  have main : ∀ cell : Int, ∃ a b, 0 ≤ a ∧ 0 ≤ b ∧ exs (callF PG k) (.cons (.set (.n 3) (.c (.int 0)))
  (.cons (.ife (.cmp .ge (.v 2) (.bin .pow (.c (.int 10)) (.c (.int 18)))) (.cons (.set (.n 3) (.v 2))
  .nil) .nil)
  (.cons (.ret (.lst (.cons (.v 3) (.cons (.bin .add (.bin .mod (.bin .pow (.bin .add (.bin .mul (.bin .mod (.v 2) (.c (.int 2147483629))) (.c (.int 48271))) (.bin .mul (.c (.int 40692)) (.v 1))) (.c (.int 5))) (.c (.int 2147483629))) (.c (.int 1))) .nil))))
  .nil))) [.scr ns, .int j, .int cell, .und] = .ok (.rt (.lst true [.int a, .int b]) [.scr ns, .int j, .int cell, .int a]) := fun cell => by
    have p0 : 0 ≤ cell.fmod 2147483629 := Int.fmod_nonneg_of_pos _ (by decide)
    have p1 : cell.fmod 2147483629 < 2147483629 := Int.fmod_lt_of_pos _ (by decide)
    have q1 : -18446744073709551616 < cell.fmod 2147483629 * 48271 + 40692 * j := by omega
    have q2 : cell.fmod 2147483629 * 48271 + 40692 * j < 18446744073709551616 := by omega
    have r1 : 0 ≤ ((cell.fmod 2147483629 * 48271 + 40692 * j) ^ (5 : Int).toNat).fmod 2147483629 := Int.fmod_nonneg_of_pos _ (by decide)
    by_cases hc : (10 : Int) ^ (18 : Int).toNat ≤ cell
    · refine ⟨cell, ((cell.fmod 2147483629 * 48271 + 40692 * j) ^ (5 : Int).toNat).fmod 2147483629 + 1, ?_, by omega, ?_⟩
      · have : (10 : Int) ^ (18 : Int).toNat = 1000000000000000000 := by decide
        omega
      · simp -implicitDefEqProofs only [Int.reduceEq, Int.reduceNe, Int.reduceLT, Int.reduceLE, Int.reduceNeg, ne_eq, not_false_eq_true, not_true_eq_false, ↓reduceIte, Bool.false_eq_true, if_true, if_false, opt_some, opt_none, R.bind_ok, R.bind_exc, R.bind_bad, R.nx_nx, R.nx_rt, R.nx_exc, R.nx_bad, List.replicate, List.cons_append, List.nil_append, Nat.add_one_sub_one, Nat.reduceSub, Bool.not_true, Bool.not_false, decide_true, decide_false, two, My.s_c, My.s_v, My.s_bin, My.s_neg, My.s_cmp, My.s_and, My.s_or, My.s_not, My.s_tup, My.s_lst, My.s_idx, My.s_sl, My.s_rev, My.s_call, My.s_bf, My.s_meth, My.s_es0, My.s_es1, My.s_x0, My.s_x1, My.s_p0, My.s_p1, My.s_a0, My.s_av, My.s_ac, My.s_abin, My.s_aneg, My.s_aidx, My.s_acall, My.s_abf, My.s_atup, My.s_alst, My.s_asl, My.s_acmp, My.s_t0, My.s_t1, My.s_i0, My.s_i1, My.s_it, My.s_r1, My.s_r2, My.s_test, My.l_v, My.l_c, My.l_bin, My.l_neg, My.l_cmp, My.l_and, My.l_or, My.l_not, My.l_tup, My.l_lst, My.l_idx, My.l_sl, My.l_rev, My.l_call, My.l_bf, My.l_meth, My.l_comp, My.s_2, My.s_1, My.x0, My.x1, My.x_set, My.x_setT, My.x_par, My.x_sub, My.x_app, My.x_expr, My.x_retv, My.x_retc, My.x_rettup, My.x_retlst, My.x_retbin, My.x_retcmp, My.x_retand, My.x_retor, My.x_retnot, My.x_retidx, My.x_retsl, My.x_retcall, My.x_retbf, My.x_retmeth, My.x_retcomp, My.x_retN, My.x_if, My.x_whl, My.x_for, My.x_pass, My.b_add, My.b_sub, My.b_mulL, My.b_mulR, My.b_fdiv, My.b_mod, My.b_pow, My.b_addS, My.b_mulS, My.b_addT, My.b_addL, My.c_lt, My.c_le, My.c_gt, My.c_ge, My.c_eq, My.c_ne, My.c_eqS, My.c_neS, My.i_tup, My.i_lst, My.i_scr, My.i_str, My.a0, My.a1, My.a2, My.a3, My.sub0, My.sub1, My.f_int, My.f_bl, My.f_str, My.f_tup, My.f_lst, My.f_non, My.f_scr, My.f_und, My.u_int, My.u_bl, My.u_str, My.u_tup, My.u_lst, My.u_non, My.u_scr, My.u_und, My.g0, My.g1, My.t0, My.t1, My.as_n, My.as_nil, My.as_cons, My.par0, My.par1, My.as_b, My.as_i, My.passT, My.passF, My.pb0, My.pbT, My.pbF, My.pb_nil, My.pbc, My.pbbin, My.pbneg, My.pbidx, My.pbcall, My.pbbf, My.pbtup, My.pblst, My.pbsl, My.pbcmp, My.fin_rt, My.fin_nx, My.out0, My.outT, My.outF, My.l2_ok, My.l1_ok, My.q_lenL, My.q_lenT, My.q_lenS, My.q_lenC, My.q_abs, My.q_min, My.q_max, My.q_intb, My.q_inti, My.q_tupT, My.q_tupL, My.q_listT, My.q_listL, My.r_lst, My.n_int, My.ls_tup, My.ls_lst, My.isl, My.ap_ok, My.m_v, My.m_c, My.rv_join, My.mt_joinE, My.for0, My.for1, My.if_f, My.if_t, My.ob, My.om, decide_eq_true hc, q1, q2]
    · refine ⟨0, ((cell.fmod 2147483629 * 48271 + 40692 * j) ^ (5 : Int).toNat).fmod 2147483629 + 1, by omega, by omega, ?_⟩
      simp -implicitDefEqProofs only [Int.reduceEq, Int.reduceNe, Int.reduceLT, Int.reduceLE, Int.reduceNeg, ne_eq, not_false_eq_true, not_true_eq_false, ↓reduceIte, Bool.false_eq_true, if_true, if_false, opt_some, opt_none, R.bind_ok, R.bind_exc, R.bind_bad, R.nx_nx, R.nx_rt, R.nx_exc, R.nx_bad, List.replicate, List.cons_append, List.nil_append, Nat.add_one_sub_one, Nat.reduceSub, Bool.not_true, Bool.not_false, decide_true, decide_false, two, My.s_c, My.s_v, My.s_bin, My.s_neg, My.s_cmp, My.s_and, My.s_or, My.s_not, My.s_tup, My.s_lst, My.s_idx, My.s_sl, My.s_rev, My.s_call, My.s_bf, My.s_meth, My.s_es0, My.s_es1, My.s_x0, My.s_x1, My.s_p0, My.s_p1, My.s_a0, My.s_av, My.s_ac, My.s_abin, My.s_aneg, My.s_aidx, My.s_acall, My.s_abf, My.s_atup, My.s_alst, My.s_asl, My.s_acmp, My.s_t0, My.s_t1, My.s_i0, My.s_i1, My.s_it, My.s_r1, My.s_r2, My.s_test, My.l_v, My.l_c, My.l_bin, My.l_neg, My.l_cmp, My.l_and, My.l_or, My.l_not, My.l_tup, My.l_lst, My.l_idx, My.l_sl, My.l_rev, My.l_call, My.l_bf, My.l_meth, My.l_comp, My.s_2, My.s_1, My.x0, My.x1, My.x_set, My.x_setT, My.x_par, My.x_sub, My.x_app, My.x_expr, My.x_retv, My.x_retc, My.x_rettup, My.x_retlst, My.x_retbin, My.x_retcmp, My.x_retand, My.x_retor, My.x_retnot, My.x_retidx, My.x_retsl, My.x_retcall, My.x_retbf, My.x_retmeth, My.x_retcomp, My.x_retN, My.x_if, My.x_whl, My.x_for, My.x_pass, My.b_add, My.b_sub, My.b_mulL, My.b_mulR, My.b_fdiv, My.b_mod, My.b_pow, My.b_addS, My.b_mulS, My.b_addT, My.b_addL, My.c_lt, My.c_le, My.c_gt, My.c_ge, My.c_eq, My.c_ne, My.c_eqS, My.c_neS, My.i_tup, My.i_lst, My.i_scr, My.i_str, My.a0, My.a1, My.a2, My.a3, My.sub0, My.sub1, My.f_int, My.f_bl, My.f_str, My.f_tup, My.f_lst, My.f_non, My.f_scr, My.f_und, My.u_int, My.u_bl, My.u_str, My.u_tup, My.u_lst, My.u_non, My.u_scr, My.u_und, My.g0, My.g1, My.t0, My.t1, My.as_n, My.as_nil, My.as_cons, My.par0, My.par1, My.as_b, My.as_i, My.passT, My.passF, My.pb0, My.pbT, My.pbF, My.pb_nil, My.pbc, My.pbbin, My.pbneg, My.pbidx, My.pbcall, My.pbbf, My.pbtup, My.pblst, My.pbsl, My.pbcmp, My.fin_rt, My.fin_nx, My.out0, My.outT, My.outF, My.l2_ok, My.l1_ok, My.q_lenL, My.q_lenT, My.q_lenS, My.q_lenC, My.q_abs, My.q_min, My.q_max, My.q_intb, My.q_inti, My.q_tupT, My.q_tupL, My.q_listT, My.q_listL, My.r_lst, My.n_int, My.ls_tup, My.ls_lst, My.isl, My.ap_ok, My.m_v, My.m_c, My.rv_join, My.mt_joinE, My.for0, My.for1, My.if_f, My.if_t, My.ob, My.om, decide_eq_false hc, q1, q2]
  rw [call_eq (P := PG) (f := f_law_feed) (b := b_law_feed) (np := 2) (nl := 4) (io := [false, false]) rfl rfl]
  have at1 : j < ns.length → ∃ c, at? ns j = some c := fun h => by
    unfold at?
    rw [if_pos h0]
    exact ⟨ns[j.toNat]'(by omega), List.getElem?_eq_getElem (by omega)⟩
  by_cases hj : j < ns.length
  · obtain ⟨c, hc⟩ := at1 hj
    obtain ⟨a, b, ha, hb, e⟩ := main c
    refine ⟨a, b, ha, hb, ?_⟩
    simp -implicitDefEqProofs only [Int.reduceEq, Int.reduceNe, Int.reduceLT, Int.reduceLE, Int.reduceNeg, ne_eq, not_false_eq_true, not_true_eq_false, ↓reduceIte, Bool.false_eq_true, if_true, if_false, opt_some, opt_none, R.bind_ok, R.bind_exc, R.bind_bad, R.nx_nx, R.nx_rt, R.nx_exc, R.nx_bad, List.replicate, List.cons_append, List.nil_append, Nat.add_one_sub_one, Nat.reduceSub, Bool.not_true, Bool.not_false, decide_true, decide_false, two, My.s_c, My.s_v, My.s_bin, My.s_neg, My.s_cmp, My.s_and, My.s_or, My.s_not, My.s_tup, My.s_lst, My.s_idx, My.s_sl, My.s_rev, My.s_call, My.s_bf, My.s_meth, My.s_es0, My.s_es1, My.s_x0, My.s_x1, My.s_p0, My.s_p1, My.s_a0, My.s_av, My.s_ac, My.s_abin, My.s_aneg, My.s_aidx, My.s_acall, My.s_abf, My.s_atup, My.s_alst, My.s_asl, My.s_acmp, My.s_t0, My.s_t1, My.s_i0, My.s_i1, My.s_it, My.s_r1, My.s_r2, My.s_test, My.l_v, My.l_c, My.l_bin, My.l_neg, My.l_cmp, My.l_and, My.l_or, My.l_not, My.l_tup, My.l_lst, My.l_idx, My.l_sl, My.l_rev, My.l_call, My.l_bf, My.l_meth, My.l_comp, My.s_2, My.s_1, My.x0, My.x1, My.x_set, My.x_setT, My.x_par, My.x_sub, My.x_app, My.x_expr, My.x_retv, My.x_retc, My.x_rettup, My.x_retlst, My.x_retbin, My.x_retcmp, My.x_retand, My.x_retor, My.x_retnot, My.x_retidx, My.x_retsl, My.x_retcall, My.x_retbf, My.x_retmeth, My.x_retcomp, My.x_retN, My.x_if, My.x_whl, My.x_for, My.x_pass, My.b_add, My.b_sub, My.b_mulL, My.b_mulR, My.b_fdiv, My.b_mod, My.b_pow, My.b_addS, My.b_mulS, My.b_addT, My.b_addL, My.c_lt, My.c_le, My.c_gt, My.c_ge, My.c_eq, My.c_ne, My.c_eqS, My.c_neS, My.i_tup, My.i_lst, My.i_scr, My.i_str, My.a0, My.a1, My.a2, My.a3, My.sub0, My.sub1, My.f_int, My.f_bl, My.f_str, My.f_tup, My.f_lst, My.f_non, My.f_scr, My.f_und, My.u_int, My.u_bl, My.u_str, My.u_tup, My.u_lst, My.u_non, My.u_scr, My.u_und, My.g0, My.g1, My.t0, My.t1, My.as_n, My.as_nil, My.as_cons, My.par0, My.par1, My.as_b, My.as_i, My.passT, My.passF, My.pb0, My.pbT, My.pbF, My.pb_nil, My.pbc, My.pbbin, My.pbneg, My.pbidx, My.pbcall, My.pbbf, My.pbtup, My.pblst, My.pbsl, My.pbcmp, My.fin_rt, My.fin_nx, My.out0, My.outT, My.outF, My.l2_ok, My.l1_ok, My.q_lenL, My.q_lenT, My.q_lenS, My.q_lenC, My.q_abs, My.q_min, My.q_max, My.q_intb, My.q_inti, My.q_tupT, My.q_tupL, My.q_listT, My.q_listL, My.r_lst, My.n_int, My.ls_tup, My.ls_lst, My.isl, My.ap_ok, My.m_v, My.m_c, My.rv_join, My.mt_joinE, My.for0, My.for1, My.if_f, My.if_t, My.ob, My.om] at e
    simp -implicitDefEqProofs only [b_law_feed, Int.reduceEq, Int.reduceNe, Int.reduceLT, Int.reduceLE, Int.reduceNeg, ne_eq, not_false_eq_true, not_true_eq_false, ↓reduceIte, Bool.false_eq_true, if_true, if_false, opt_some, opt_none, R.bind_ok, R.bind_exc, R.bind_bad, R.nx_nx, R.nx_rt, R.nx_exc, R.nx_bad, List.replicate, List.cons_append, List.nil_append, Nat.add_one_sub_one, Nat.reduceSub, Bool.not_true, Bool.not_false, decide_true, decide_false, two, My.s_c, My.s_v, My.s_bin, My.s_neg, My.s_cmp, My.s_and, My.s_or, My.s_not, My.s_tup, My.s_lst, My.s_idx, My.s_sl, My.s_rev, My.s_call, My.s_bf, My.s_meth, My.s_es0, My.s_es1, My.s_x0, My.s_x1, My.s_p0, My.s_p1, My.s_a0, My.s_av, My.s_ac, My.s_abin, My.s_aneg, My.s_aidx, My.s_acall, My.s_abf, My.s_atup, My.s_alst, My.s_asl, My.s_acmp, My.s_t0, My.s_t1, My.s_i0, My.s_i1, My.s_it, My.s_r1, My.s_r2, My.s_test, My.l_v, My.l_c, My.l_bin, My.l_neg, My.l_cmp, My.l_and, My.l_or, My.l_not, My.l_tup, My.l_lst, My.l_idx, My.l_sl, My.l_rev, My.l_call, My.l_bf, My.l_meth, My.l_comp, My.s_2, My.s_1, My.x0, My.x1, My.x_set, My.x_setT, My.x_par, My.x_sub, My.x_app, My.x_expr, My.x_retv, My.x_retc, My.x_rettup, My.x_retlst, My.x_retbin, My.x_retcmp, My.x_retand, My.x_retor, My.x_retnot, My.x_retidx, My.x_retsl, My.x_retcall, My.x_retbf, My.x_retmeth, My.x_retcomp, My.x_retN, My.x_if, My.x_whl, My.x_for, My.x_pass, My.b_add, My.b_sub, My.b_mulL, My.b_mulR, My.b_fdiv, My.b_mod, My.b_pow, My.b_addS, My.b_mulS, My.b_addT, My.b_addL, My.c_lt, My.c_le, My.c_gt, My.c_ge, My.c_eq, My.c_ne, My.c_eqS, My.c_neS, My.i_tup, My.i_lst, My.i_scr, My.i_str, My.a0, My.a1, My.a2, My.a3, My.sub0, My.sub1, My.f_int, My.f_bl, My.f_str, My.f_tup, My.f_lst, My.f_non, My.f_scr, My.f_und, My.u_int, My.u_bl, My.u_str, My.u_tup, My.u_lst, My.u_non, My.u_scr, My.u_und, My.g0, My.g1, My.t0, My.t1, My.as_n, My.as_nil, My.as_cons, My.par0, My.par1, My.as_b, My.as_i, My.passT, My.passF, My.pb0, My.pbT, My.pbF, My.pb_nil, My.pbc, My.pbbin, My.pbneg, My.pbidx, My.pbcall, My.pbbf, My.pbtup, My.pblst, My.pbsl, My.pbcmp, My.fin_rt, My.fin_nx, My.out0, My.outT, My.outF, My.l2_ok, My.l1_ok, My.q_lenL, My.q_lenT, My.q_lenS, My.q_lenC, My.q_abs, My.q_min, My.q_max, My.q_intb, My.q_inti, My.q_tupT, My.q_tupL, My.q_listT, My.q_listL, My.r_lst, My.n_int, My.ls_tup, My.ls_lst, My.isl, My.ap_ok, My.m_v, My.m_c, My.rv_join, My.mt_joinE, My.for0, My.for1, My.if_f, My.if_t, My.ob, My.om, decide_eq_true hj, hc, e]
  · by_cases hl : 0 < (ns.length : Int)
    · have hl' : ¬ ((ns.length : Int) = 0) := by omega
      have m0 : 0 ≤ j.fmod ns.length := Int.fmod_nonneg_of_pos _ hl
      have m1 : j.fmod ns.length < ns.length := Int.fmod_lt_of_pos _ hl
      obtain ⟨c, hc⟩ : ∃ c, at? ns (j.fmod ns.length) = some c := by
        unfold at?
        rw [if_pos m0]
        exact ⟨ns[(j.fmod ns.length).toNat]'(by omega), List.getElem?_eq_getElem (by omega)⟩
      obtain ⟨a, b, ha, hb, e⟩ := main (c.fmod 2147483629 * 31 + 7901 * j)
      refine ⟨a, b, ha, hb, ?_⟩
      simp -implicitDefEqProofs only [Int.reduceEq, Int.reduceNe, Int.reduceLT, Int.reduceLE, Int.reduceNeg, ne_eq, not_false_eq_true, not_true_eq_false, ↓reduceIte, Bool.false_eq_true, if_true, if_false, opt_some, opt_none, R.bind_ok, R.bind_exc, R.bind_bad, R.nx_nx, R.nx_rt, R.nx_exc, R.nx_bad, List.replicate, List.cons_append, List.nil_append, Nat.add_one_sub_one, Nat.reduceSub, Bool.not_true, Bool.not_false, decide_true, decide_false, two, My.s_c, My.s_v, My.s_bin, My.s_neg, My.s_cmp, My.s_and, My.s_or, My.s_not, My.s_tup, My.s_lst, My.s_idx, My.s_sl, My.s_rev, My.s_call, My.s_bf, My.s_meth, My.s_es0, My.s_es1, My.s_x0, My.s_x1, My.s_p0, My.s_p1, My.s_a0, My.s_av, My.s_ac, My.s_abin, My.s_aneg, My.s_aidx, My.s_acall, My.s_abf, My.s_atup, My.s_alst, My.s_asl, My.s_acmp, My.s_t0, My.s_t1, My.s_i0, My.s_i1, My.s_it, My.s_r1, My.s_r2, My.s_test, My.l_v, My.l_c, My.l_bin, My.l_neg, My.l_cmp, My.l_and, My.l_or, My.l_not, My.l_tup, My.l_lst, My.l_idx, My.l_sl, My.l_rev, My.l_call, My.l_bf, My.l_meth, My.l_comp, My.s_2, My.s_1, My.x0, My.x1, My.x_set, My.x_setT, My.x_par, My.x_sub, My.x_app, My.x_expr, My.x_retv, My.x_retc, My.x_rettup, My.x_retlst, My.x_retbin, My.x_retcmp, My.x_retand, My.x_retor, My.x_retnot, My.x_retidx, My.x_retsl, My.x_retcall, My.x_retbf, My.x_retmeth, My.x_retcomp, My.x_retN, My.x_if, My.x_whl, My.x_for, My.x_pass, My.b_add, My.b_sub, My.b_mulL, My.b_mulR, My.b_fdiv, My.b_mod, My.b_pow, My.b_addS, My.b_mulS, My.b_addT, My.b_addL, My.c_lt, My.c_le, My.c_gt, My.c_ge, My.c_eq, My.c_ne, My.c_eqS, My.c_neS, My.i_tup, My.i_lst, My.i_scr, My.i_str, My.a0, My.a1, My.a2, My.a3, My.sub0, My.sub1, My.f_int, My.f_bl, My.f_str, My.f_tup, My.f_lst, My.f_non, My.f_scr, My.f_und, My.u_int, My.u_bl, My.u_str, My.u_tup, My.u_lst, My.u_non, My.u_scr, My.u_und, My.g0, My.g1, My.t0, My.t1, My.as_n, My.as_nil, My.as_cons, My.par0, My.par1, My.as_b, My.as_i, My.passT, My.passF, My.pb0, My.pbT, My.pbF, My.pb_nil, My.pbc, My.pbbin, My.pbneg, My.pbidx, My.pbcall, My.pbbf, My.pbtup, My.pblst, My.pbsl, My.pbcmp, My.fin_rt, My.fin_nx, My.out0, My.outT, My.outF, My.l2_ok, My.l1_ok, My.q_lenL, My.q_lenT, My.q_lenS, My.q_lenC, My.q_abs, My.q_min, My.q_max, My.q_intb, My.q_inti, My.q_tupT, My.q_tupL, My.q_listT, My.q_listL, My.r_lst, My.n_int, My.ls_tup, My.ls_lst, My.isl, My.ap_ok, My.m_v, My.m_c, My.rv_join, My.mt_joinE, My.for0, My.for1, My.if_f, My.if_t, My.ob, My.om] at e
      simp -implicitDefEqProofs only [b_law_feed, Int.reduceEq, Int.reduceNe, Int.reduceLT, Int.reduceLE, Int.reduceNeg, ne_eq, not_false_eq_true, not_true_eq_false, ↓reduceIte, Bool.false_eq_true, if_true, if_false, opt_some, opt_none, R.bind_ok, R.bind_exc, R.bind_bad, R.nx_nx, R.nx_rt, R.nx_exc, R.nx_bad, List.replicate, List.cons_append, List.nil_append, Nat.add_one_sub_one, Nat.reduceSub, Bool.not_true, Bool.not_false, decide_true, decide_false, two, My.s_c, My.s_v, My.s_bin, My.s_neg, My.s_cmp, My.s_and, My.s_or, My.s_not, My.s_tup, My.s_lst, My.s_idx, My.s_sl, My.s_rev, My.s_call, My.s_bf, My.s_meth, My.s_es0, My.s_es1, My.s_x0, My.s_x1, My.s_p0, My.s_p1, My.s_a0, My.s_av, My.s_ac, My.s_abin, My.s_aneg, My.s_aidx, My.s_acall, My.s_abf, My.s_atup, My.s_alst, My.s_asl, My.s_acmp, My.s_t0, My.s_t1, My.s_i0, My.s_i1, My.s_it, My.s_r1, My.s_r2, My.s_test, My.l_v, My.l_c, My.l_bin, My.l_neg, My.l_cmp, My.l_and, My.l_or, My.l_not, My.l_tup, My.l_lst, My.l_idx, My.l_sl, My.l_rev, My.l_call, My.l_bf, My.l_meth, My.l_comp, My.s_2, My.s_1, My.x0, My.x1, My.x_set, My.x_setT, My.x_par, My.x_sub, My.x_app, My.x_expr, My.x_retv, My.x_retc, My.x_rettup, My.x_retlst, My.x_retbin, My.x_retcmp, My.x_retand, My.x_retor, My.x_retnot, My.x_retidx, My.x_retsl, My.x_retcall, My.x_retbf, My.x_retmeth, My.x_retcomp, My.x_retN, My.x_if, My.x_whl, My.x_for, My.x_pass, My.b_add, My.b_sub, My.b_mulL, My.b_mulR, My.b_fdiv, My.b_mod, My.b_pow, My.b_addS, My.b_mulS, My.b_addT, My.b_addL, My.c_lt, My.c_le, My.c_gt, My.c_ge, My.c_eq, My.c_ne, My.c_eqS, My.c_neS, My.i_tup, My.i_lst, My.i_scr, My.i_str, My.a0, My.a1, My.a2, My.a3, My.sub0, My.sub1, My.f_int, My.f_bl, My.f_str, My.f_tup, My.f_lst, My.f_non, My.f_scr, My.f_und, My.u_int, My.u_bl, My.u_str, My.u_tup, My.u_lst, My.u_non, My.u_scr, My.u_und, My.g0, My.g1, My.t0, My.t1, My.as_n, My.as_nil, My.as_cons, My.par0, My.par1, My.as_b, My.as_i, My.passT, My.passF, My.pb0, My.pbT, My.pbF, My.pb_nil, My.pbc, My.pbbin, My.pbneg, My.pbidx, My.pbcall, My.pbbf, My.pbtup, My.pblst, My.pbsl, My.pbcmp, My.fin_rt, My.fin_nx, My.out0, My.outT, My.outF, My.l2_ok, My.l1_ok, My.q_lenL, My.q_lenT, My.q_lenS, My.q_lenC, My.q_abs, My.q_min, My.q_max, My.q_intb, My.q_inti, My.q_tupT, My.q_tupL, My.q_listT, My.q_listL, My.r_lst, My.n_int, My.ls_tup, My.ls_lst, My.isl, My.ap_ok, My.m_v, My.m_c, My.rv_join, My.mt_joinE, My.for0, My.for1, My.if_f, My.if_t, My.ob, My.om, decide_eq_false hj, decide_eq_true hl, hl', hc, e]
    · obtain ⟨a, b, ha, hb, e⟩ := main (7901 * j + 24697)
      refine ⟨a, b, ha, hb, ?_⟩
      simp -implicitDefEqProofs only [Int.reduceEq, Int.reduceNe, Int.reduceLT, Int.reduceLE, Int.reduceNeg, ne_eq, not_false_eq_true, not_true_eq_false, ↓reduceIte, Bool.false_eq_true, if_true, if_false, opt_some, opt_none, R.bind_ok, R.bind_exc, R.bind_bad, R.nx_nx, R.nx_rt, R.nx_exc, R.nx_bad, List.replicate, List.cons_append, List.nil_append, Nat.add_one_sub_one, Nat.reduceSub, Bool.not_true, Bool.not_false, decide_true, decide_false, two, My.s_c, My.s_v, My.s_bin, My.s_neg, My.s_cmp, My.s_and, My.s_or, My.s_not, My.s_tup, My.s_lst, My.s_idx, My.s_sl, My.s_rev, My.s_call, My.s_bf, My.s_meth, My.s_es0, My.s_es1, My.s_x0, My.s_x1, My.s_p0, My.s_p1, My.s_a0, My.s_av, My.s_ac, My.s_abin, My.s_aneg, My.s_aidx, My.s_acall, My.s_abf, My.s_atup, My.s_alst, My.s_asl, My.s_acmp, My.s_t0, My.s_t1, My.s_i0, My.s_i1, My.s_it, My.s_r1, My.s_r2, My.s_test, My.l_v, My.l_c, My.l_bin, My.l_neg, My.l_cmp, My.l_and, My.l_or, My.l_not, My.l_tup, My.l_lst, My.l_idx, My.l_sl, My.l_rev, My.l_call, My.l_bf, My.l_meth, My.l_comp, My.s_2, My.s_1, My.x0, My.x1, My.x_set, My.x_setT, My.x_par, My.x_sub, My.x_app, My.x_expr, My.x_retv, My.x_retc, My.x_rettup, My.x_retlst, My.x_retbin, My.x_retcmp, My.x_retand, My.x_retor, My.x_retnot, My.x_retidx, My.x_retsl, My.x_retcall, My.x_retbf, My.x_retmeth, My.x_retcomp, My.x_retN, My.x_if, My.x_whl, My.x_for, My.x_pass, My.b_add, My.b_sub, My.b_mulL, My.b_mulR, My.b_fdiv, My.b_mod, My.b_pow, My.b_addS, My.b_mulS, My.b_addT, My.b_addL, My.c_lt, My.c_le, My.c_gt, My.c_ge, My.c_eq, My.c_ne, My.c_eqS, My.c_neS, My.i_tup, My.i_lst, My.i_scr, My.i_str, My.a0, My.a1, My.a2, My.a3, My.sub0, My.sub1, My.f_int, My.f_bl, My.f_str, My.f_tup, My.f_lst, My.f_non, My.f_scr, My.f_und, My.u_int, My.u_bl, My.u_str, My.u_tup, My.u_lst, My.u_non, My.u_scr, My.u_und, My.g0, My.g1, My.t0, My.t1, My.as_n, My.as_nil, My.as_cons, My.par0, My.par1, My.as_b, My.as_i, My.passT, My.passF, My.pb0, My.pbT, My.pbF, My.pb_nil, My.pbc, My.pbbin, My.pbneg, My.pbidx, My.pbcall, My.pbbf, My.pbtup, My.pblst, My.pbsl, My.pbcmp, My.fin_rt, My.fin_nx, My.out0, My.outT, My.outF, My.l2_ok, My.l1_ok, My.q_lenL, My.q_lenT, My.q_lenS, My.q_lenC, My.q_abs, My.q_min, My.q_max, My.q_intb, My.q_inti, My.q_tupT, My.q_tupL, My.q_listT, My.q_listL, My.r_lst, My.n_int, My.ls_tup, My.ls_lst, My.isl, My.ap_ok, My.m_v, My.m_c, My.rv_join, My.mt_joinE, My.for0, My.for1, My.if_f, My.if_t, My.ob, My.om] at e
      simp -implicitDefEqProofs only [b_law_feed, Int.reduceEq, Int.reduceNe, Int.reduceLT, Int.reduceLE, Int.reduceNeg, ne_eq, not_false_eq_true, not_true_eq_false, ↓reduceIte, Bool.false_eq_true, if_true, if_false, opt_some, opt_none, R.bind_ok, R.bind_exc, R.bind_bad, R.nx_nx, R.nx_rt, R.nx_exc, R.nx_bad, List.replicate, List.cons_append, List.nil_append, Nat.add_one_sub_one, Nat.reduceSub, Bool.not_true, Bool.not_false, decide_true, decide_false, two, My.s_c, My.s_v, My.s_bin, My.s_neg, My.s_cmp, My.s_and, My.s_or, My.s_not, My.s_tup, My.s_lst, My.s_idx, My.s_sl, My.s_rev, My.s_call, My.s_bf, My.s_meth, My.s_es0, My.s_es1, My.s_x0, My.s_x1, My.s_p0, My.s_p1, My.s_a0, My.s_av, My.s_ac, My.s_abin, My.s_aneg, My.s_aidx, My.s_acall, My.s_abf, My.s_atup, My.s_alst, My.s_asl, My.s_acmp, My.s_t0, My.s_t1, My.s_i0, My.s_i1, My.s_it, My.s_r1, My.s_r2, My.s_test, My.l_v, My.l_c, My.l_bin, My.l_neg, My.l_cmp, My.l_and, My.l_or, My.l_not, My.l_tup, My.l_lst, My.l_idx, My.l_sl, My.l_rev, My.l_call, My.l_bf, My.l_meth, My.l_comp, My.s_2, My.s_1, My.x0, My.x1, My.x_set, My.x_setT, My.x_par, My.x_sub, My.x_app, My.x_expr, My.x_retv, My.x_retc, My.x_rettup, My.x_retlst, My.x_retbin, My.x_retcmp, My.x_retand, My.x_retor, My.x_retnot, My.x_retidx, My.x_retsl, My.x_retcall, My.x_retbf, My.x_retmeth, My.x_retcomp, My.x_retN, My.x_if, My.x_whl, My.x_for, My.x_pass, My.b_add, My.b_sub, My.b_mulL, My.b_mulR, My.b_fdiv, My.b_mod, My.b_pow, My.b_addS, My.b_mulS, My.b_addT, My.b_addL, My.c_lt, My.c_le, My.c_gt, My.c_ge, My.c_eq, My.c_ne, My.c_eqS, My.c_neS, My.i_tup, My.i_lst, My.i_scr, My.i_str, My.a0, My.a1, My.a2, My.a3, My.sub0, My.sub1, My.f_int, My.f_bl, My.f_str, My.f_tup, My.f_lst, My.f_non, My.f_scr, My.f_und, My.u_int, My.u_bl, My.u_str, My.u_tup, My.u_lst, My.u_non, My.u_scr, My.u_und, My.g0, My.g1, My.t0, My.t1, My.as_n, My.as_nil, My.as_cons, My.par0, My.par1, My.as_b, My.as_i, My.passT, My.passF, My.pb0, My.pbT, My.pbF, My.pb_nil, My.pbc, My.pbbin, My.pbneg, My.pbidx, My.pbcall, My.pbbf, My.pbtup, My.pblst, My.pbsl, My.pbcmp, My.fin_rt, My.fin_nx, My.out0, My.outT, My.outF, My.l2_ok, My.l1_ok, My.q_lenL, My.q_lenT, My.q_lenS, My.q_lenC, My.q_abs, My.q_min, My.q_max, My.q_intb, My.q_inti, My.q_tupT, My.q_tupL, My.q_listT, My.q_listL, My.r_lst, My.n_int, My.ls_tup, My.ls_lst, My.isl, My.ap_ok, My.m_v, My.m_c, My.rv_join, My.mt_joinE, My.for0, My.for1, My.if_f, My.if_t, My.ob, My.om, decide_eq_false hj, decide_eq_false hl, e]
/-! ### the greatest common divisor -/
theorem common_loop (C : Call) : ∀ (n : Nat) (a c : Nat), c ≤ n → c < 1000000 →
    wh (evC C (.cmp .ne (.v 1) (.c (.int 0)))) (exs C (.cons (.par [0, 1] (.cons (.v 1) (.cons (.bin .mod (.v 0) (.v 1)) .nil))) .nil)) [.int a, .int c] = .ok (.nx [.int (Nat.gcd a c), .int 0]) := by
  intro n
  induction n with
  | zero =>
    intro a c h _
    have : c = 0 := by omega
    subst this
    rw [wh_eq, Nat.gcd_zero_right]
    simp -implicitDefEqProofs only [Int.reduceEq, Int.reduceNe, Int.reduceLT, Int.reduceLE, Int.reduceNeg, ne_eq, not_false_eq_true, not_true_eq_false, ↓reduceIte, Bool.false_eq_true, if_true, if_false, opt_some, opt_none, R.bind_ok, R.bind_exc, R.bind_bad, R.nx_nx, R.nx_rt, R.nx_exc, R.nx_bad, List.replicate, List.cons_append, List.nil_append, Nat.add_one_sub_one, Nat.reduceSub, Bool.not_true, Bool.not_false, decide_true, decide_false, two, My.s_c, My.s_v, My.s_bin, My.s_neg, My.s_cmp, My.s_and, My.s_or, My.s_not, My.s_tup, My.s_lst, My.s_idx, My.s_sl, My.s_rev, My.s_call, My.s_bf, My.s_meth, My.s_es0, My.s_es1, My.s_x0, My.s_x1, My.s_p0, My.s_p1, My.s_a0, My.s_av, My.s_ac, My.s_abin, My.s_aneg, My.s_aidx, My.s_acall, My.s_abf, My.s_atup, My.s_alst, My.s_asl, My.s_acmp, My.s_t0, My.s_t1, My.s_i0, My.s_i1, My.s_it, My.s_r1, My.s_r2, My.s_test, My.l_v, My.l_c, My.l_bin, My.l_neg, My.l_cmp, My.l_and, My.l_or, My.l_not, My.l_tup, My.l_lst, My.l_idx, My.l_sl, My.l_rev, My.l_call, My.l_bf, My.l_meth, My.l_comp, My.s_2, My.s_1, My.x0, My.x1, My.x_set, My.x_setT, My.x_par, My.x_sub, My.x_app, My.x_expr, My.x_retv, My.x_retc, My.x_rettup, My.x_retlst, My.x_retbin, My.x_retcmp, My.x_retand, My.x_retor, My.x_retnot, My.x_retidx, My.x_retsl, My.x_retcall, My.x_retbf, My.x_retmeth, My.x_retcomp, My.x_retN, My.x_if, My.x_whl, My.x_for, My.x_pass, My.b_add, My.b_sub, My.b_mulL, My.b_mulR, My.b_fdiv, My.b_mod, My.b_pow, My.b_addS, My.b_mulS, My.b_addT, My.b_addL, My.c_lt, My.c_le, My.c_gt, My.c_ge, My.c_eq, My.c_ne, My.c_eqS, My.c_neS, My.i_tup, My.i_lst, My.i_scr, My.i_str, My.a0, My.a1, My.a2, My.a3, My.sub0, My.sub1, My.f_int, My.f_bl, My.f_str, My.f_tup, My.f_lst, My.f_non, My.f_scr, My.f_und, My.u_int, My.u_bl, My.u_str, My.u_tup, My.u_lst, My.u_non, My.u_scr, My.u_und, My.g0, My.g1, My.t0, My.t1, My.as_n, My.as_nil, My.as_cons, My.par0, My.par1, My.as_b, My.as_i, My.passT, My.passF, My.pb0, My.pbT, My.pbF, My.pb_nil, My.pbc, My.pbbin, My.pbneg, My.pbidx, My.pbcall, My.pbbf, My.pbtup, My.pblst, My.pbsl, My.pbcmp, My.fin_rt, My.fin_nx, My.out0, My.outT, My.outF, My.l2_ok, My.l1_ok, My.q_lenL, My.q_lenT, My.q_lenS, My.q_lenC, My.q_abs, My.q_min, My.q_max, My.q_intb, My.q_inti, My.q_tupT, My.q_tupL, My.q_listT, My.q_listL, My.r_lst, My.n_int, My.ls_tup, My.ls_lst, My.isl, My.ap_ok, My.m_v, My.m_c, My.rv_join, My.mt_joinE, My.for0, My.for1, My.if_f, My.if_t, My.ob, My.om]
    rfl
  | succ n ih =>
    intro a c h hc
    rw [wh_eq]
    by_cases h0 : c = 0
    · subst h0
      rw [Nat.gcd_zero_right]
      simp -implicitDefEqProofs only [Int.reduceEq, Int.reduceNe, Int.reduceLT, Int.reduceLE, Int.reduceNeg, ne_eq, not_false_eq_true, not_true_eq_false, ↓reduceIte, Bool.false_eq_true, if_true, if_false, opt_some, opt_none, R.bind_ok, R.bind_exc, R.bind_bad, R.nx_nx, R.nx_rt, R.nx_exc, R.nx_bad, List.replicate, List.cons_append, List.nil_append, Nat.add_one_sub_one, Nat.reduceSub, Bool.not_true, Bool.not_false, decide_true, decide_false, two, My.s_c, My.s_v, My.s_bin, My.s_neg, My.s_cmp, My.s_and, My.s_or, My.s_not, My.s_tup, My.s_lst, My.s_idx, My.s_sl, My.s_rev, My.s_call, My.s_bf, My.s_meth, My.s_es0, My.s_es1, My.s_x0, My.s_x1, My.s_p0, My.s_p1, My.s_a0, My.s_av, My.s_ac, My.s_abin, My.s_aneg, My.s_aidx, My.s_acall, My.s_abf, My.s_atup, My.s_alst, My.s_asl, My.s_acmp, My.s_t0, My.s_t1, My.s_i0, My.s_i1, My.s_it, My.s_r1, My.s_r2, My.s_test, My.l_v, My.l_c, My.l_bin, My.l_neg, My.l_cmp, My.l_and, My.l_or, My.l_not, My.l_tup, My.l_lst, My.l_idx, My.l_sl, My.l_rev, My.l_call, My.l_bf, My.l_meth, My.l_comp, My.s_2, My.s_1, My.x0, My.x1, My.x_set, My.x_setT, My.x_par, My.x_sub, My.x_app, My.x_expr, My.x_retv, My.x_retc, My.x_rettup, My.x_retlst, My.x_retbin, My.x_retcmp, My.x_retand, My.x_retor, My.x_retnot, My.x_retidx, My.x_retsl, My.x_retcall, My.x_retbf, My.x_retmeth, My.x_retcomp, My.x_retN, My.x_if, My.x_whl, My.x_for, My.x_pass, My.b_add, My.b_sub, My.b_mulL, My.b_mulR, My.b_fdiv, My.b_mod, My.b_pow, My.b_addS, My.b_mulS, My.b_addT, My.b_addL, My.c_lt, My.c_le, My.c_gt, My.c_ge, My.c_eq, My.c_ne, My.c_eqS, My.c_neS, My.i_tup, My.i_lst, My.i_scr, My.i_str, My.a0, My.a1, My.a2, My.a3, My.sub0, My.sub1, My.f_int, My.f_bl, My.f_str, My.f_tup, My.f_lst, My.f_non, My.f_scr, My.f_und, My.u_int, My.u_bl, My.u_str, My.u_tup, My.u_lst, My.u_non, My.u_scr, My.u_und, My.g0, My.g1, My.t0, My.t1, My.as_n, My.as_nil, My.as_cons, My.par0, My.par1, My.as_b, My.as_i, My.passT, My.passF, My.pb0, My.pbT, My.pbF, My.pb_nil, My.pbc, My.pbbin, My.pbneg, My.pbidx, My.pbcall, My.pbbf, My.pbtup, My.pblst, My.pbsl, My.pbcmp, My.fin_rt, My.fin_nx, My.out0, My.outT, My.outF, My.l2_ok, My.l1_ok, My.q_lenL, My.q_lenT, My.q_lenS, My.q_lenC, My.q_abs, My.q_min, My.q_max, My.q_intb, My.q_inti, My.q_tupT, My.q_tupL, My.q_listT, My.q_listL, My.r_lst, My.n_int, My.ls_tup, My.ls_lst, My.isl, My.ap_ok, My.m_v, My.m_c, My.rv_join, My.mt_joinE, My.for0, My.for1, My.if_f, My.if_t, My.ob, My.om]
      rfl
    · have h1 : ((c : Int) == 0) = false := by simp; omega
      have h2 : (c : Int) ≠ 0 := by omega
      have e : (a : Int).fmod c = ((a % c : Nat) : Int) := by rw [Int.fmod_eq_emod_of_nonneg _ (by omega)]; rfl
      simp -implicitDefEqProofs only [Int.reduceEq, Int.reduceNe, Int.reduceLT, Int.reduceLE, Int.reduceNeg, ne_eq, not_false_eq_true, not_true_eq_false, ↓reduceIte, Bool.false_eq_true, if_true, if_false, opt_some, opt_none, R.bind_ok, R.bind_exc, R.bind_bad, R.nx_nx, R.nx_rt, R.nx_exc, R.nx_bad, List.replicate, List.cons_append, List.nil_append, Nat.add_one_sub_one, Nat.reduceSub, Bool.not_true, Bool.not_false, decide_true, decide_false, two, My.s_c, My.s_v, My.s_bin, My.s_neg, My.s_cmp, My.s_and, My.s_or, My.s_not, My.s_tup, My.s_lst, My.s_idx, My.s_sl, My.s_rev, My.s_call, My.s_bf, My.s_meth, My.s_es0, My.s_es1, My.s_x0, My.s_x1, My.s_p0, My.s_p1, My.s_a0, My.s_av, My.s_ac, My.s_abin, My.s_aneg, My.s_aidx, My.s_acall, My.s_abf, My.s_atup, My.s_alst, My.s_asl, My.s_acmp, My.s_t0, My.s_t1, My.s_i0, My.s_i1, My.s_it, My.s_r1, My.s_r2, My.s_test, My.l_v, My.l_c, My.l_bin, My.l_neg, My.l_cmp, My.l_and, My.l_or, My.l_not, My.l_tup, My.l_lst, My.l_idx, My.l_sl, My.l_rev, My.l_call, My.l_bf, My.l_meth, My.l_comp, My.s_2, My.s_1, My.x0, My.x1, My.x_set, My.x_setT, My.x_par, My.x_sub, My.x_app, My.x_expr, My.x_retv, My.x_retc, My.x_rettup, My.x_retlst, My.x_retbin, My.x_retcmp, My.x_retand, My.x_retor, My.x_retnot, My.x_retidx, My.x_retsl, My.x_retcall, My.x_retbf, My.x_retmeth, My.x_retcomp, My.x_retN, My.x_if, My.x_whl, My.x_for, My.x_pass, My.b_add, My.b_sub, My.b_mulL, My.b_mulR, My.b_fdiv, My.b_mod, My.b_pow, My.b_addS, My.b_mulS, My.b_addT, My.b_addL, My.c_lt, My.c_le, My.c_gt, My.c_ge, My.c_eq, My.c_ne, My.c_eqS, My.c_neS, My.i_tup, My.i_lst, My.i_scr, My.i_str, My.a0, My.a1, My.a2, My.a3, My.sub0, My.sub1, My.f_int, My.f_bl, My.f_str, My.f_tup, My.f_lst, My.f_non, My.f_scr, My.f_und, My.u_int, My.u_bl, My.u_str, My.u_tup, My.u_lst, My.u_non, My.u_scr, My.u_und, My.g0, My.g1, My.t0, My.t1, My.as_n, My.as_nil, My.as_cons, My.par0, My.par1, My.as_b, My.as_i, My.passT, My.passF, My.pb0, My.pbT, My.pbF, My.pb_nil, My.pbc, My.pbbin, My.pbneg, My.pbidx, My.pbcall, My.pbbf, My.pbtup, My.pblst, My.pbsl, My.pbcmp, My.fin_rt, My.fin_nx, My.out0, My.outT, My.outF, My.l2_ok, My.l1_ok, My.q_lenL, My.q_lenT, My.q_lenS, My.q_lenC, My.q_abs, My.q_min, My.q_max, My.q_intb, My.q_inti, My.q_tupT, My.q_tupL, My.q_listT, My.q_listL, My.r_lst, My.n_int, My.ls_tup, My.ls_lst, My.isl, My.ap_ok, My.m_v, My.m_c, My.rv_join, My.mt_joinE, My.for0, My.for1, My.if_f, My.if_t, My.ob, My.om, h1, h2, e]
      have hl : a % c < c := Nat.mod_lt _ (by omega)
      have := ih c (a % c) (by omega) (by omega)
      rw [this]
      rw [Nat.gcd_comm c, ← Nat.gcd_rec, Nat.gcd_comm]
theorem common_ok (k : Nat) {a c : Nat} (hc : c < 1000000) : callF PG (k + 1) f_law_common [.int a, .int c] = .ok (.int (Nat.gcd a c), [.und, .und]) := by
  rw [call_eq (P := PG) (f := f_law_common) (b := b_law_common) (np := 2) (nl := 2) (io := [false, false]) rfl rfl]
  have e1 : (if 0 - (a : Int) > a then 0 - (a : Int) else a) = a := if_neg (by omega)
  have e2 : (if 0 - (c : Int) > c then 0 - (c : Int) else c) = c := if_neg (by omega)
  simp -implicitDefEqProofs only [b_law_common, Int.reduceEq, Int.reduceNe, Int.reduceLT, Int.reduceLE, Int.reduceNeg, ne_eq, not_false_eq_true, not_true_eq_false, ↓reduceIte, Bool.false_eq_true, if_true, if_false, opt_some, opt_none, R.bind_ok, R.bind_exc, R.bind_bad, R.nx_nx, R.nx_rt, R.nx_exc, R.nx_bad, List.replicate, List.cons_append, List.nil_append, Nat.add_one_sub_one, Nat.reduceSub, Bool.not_true, Bool.not_false, decide_true, decide_false, two, My.s_c, My.s_v, My.s_bin, My.s_neg, My.s_cmp, My.s_and, My.s_or, My.s_not, My.s_tup, My.s_lst, My.s_idx, My.s_sl, My.s_rev, My.s_call, My.s_bf, My.s_meth, My.s_es0, My.s_es1, My.s_x0, My.s_x1, My.s_p0, My.s_p1, My.s_a0, My.s_av, My.s_ac, My.s_abin, My.s_aneg, My.s_aidx, My.s_acall, My.s_abf, My.s_atup, My.s_alst, My.s_asl, My.s_acmp, My.s_t0, My.s_t1, My.s_i0, My.s_i1, My.s_it, My.s_r1, My.s_r2, My.s_test, My.l_v, My.l_c, My.l_bin, My.l_neg, My.l_cmp, My.l_and, My.l_or, My.l_not, My.l_tup, My.l_lst, My.l_idx, My.l_sl, My.l_rev, My.l_call, My.l_bf, My.l_meth, My.l_comp, My.s_2, My.s_1, My.x0, My.x1, My.x_set, My.x_setT, My.x_par, My.x_sub, My.x_app, My.x_expr, My.x_retv, My.x_retc, My.x_rettup, My.x_retlst, My.x_retbin, My.x_retcmp, My.x_retand, My.x_retor, My.x_retnot, My.x_retidx, My.x_retsl, My.x_retcall, My.x_retbf, My.x_retmeth, My.x_retcomp, My.x_retN, My.x_if, My.x_whl, My.x_for, My.x_pass, My.b_add, My.b_sub, My.b_mulL, My.b_mulR, My.b_fdiv, My.b_mod, My.b_pow, My.b_addS, My.b_mulS, My.b_addT, My.b_addL, My.c_lt, My.c_le, My.c_gt, My.c_ge, My.c_eq, My.c_ne, My.c_eqS, My.c_neS, My.i_tup, My.i_lst, My.i_scr, My.i_str, My.a0, My.a1, My.a2, My.a3, My.sub0, My.sub1, My.f_int, My.f_bl, My.f_str, My.f_tup, My.f_lst, My.f_non, My.f_scr, My.f_und, My.u_int, My.u_bl, My.u_str, My.u_tup, My.u_lst, My.u_non, My.u_scr, My.u_und, My.g0, My.g1, My.t0, My.t1, My.as_n, My.as_nil, My.as_cons, My.par0, My.par1, My.as_b, My.as_i, My.passT, My.passF, My.pb0, My.pbT, My.pbF, My.pb_nil, My.pbc, My.pbbin, My.pbneg, My.pbidx, My.pbcall, My.pbbf, My.pbtup, My.pblst, My.pbsl, My.pbcmp, My.fin_rt, My.fin_nx, My.out0, My.outT, My.outF, My.l2_ok, My.l1_ok, My.q_lenL, My.q_lenT, My.q_lenS, My.q_lenC, My.q_abs, My.q_min, My.q_max, My.q_intb, My.q_inti, My.q_tupT, My.q_tupL, My.q_listT, My.q_listL, My.r_lst, My.n_int, My.ls_tup, My.ls_lst, My.isl, My.ap_ok, My.m_v, My.m_c, My.rv_join, My.mt_joinE, My.for0, My.for1, My.if_f, My.if_t, My.ob, My.om, e1, e2]
  have := common_loop (callF PG k) c a c (Nat.le_refl _) hc
  rw [this]
  simp -implicitDefEqProofs only [Int.reduceEq, Int.reduceNe, Int.reduceLT, Int.reduceLE, Int.reduceNeg, ne_eq, not_false_eq_true, not_true_eq_false, ↓reduceIte, Bool.false_eq_true, if_true, if_false, opt_some, opt_none, R.bind_ok, R.bind_exc, R.bind_bad, R.nx_nx, R.nx_rt, R.nx_exc, R.nx_bad, List.replicate, List.cons_append, List.nil_append, Nat.add_one_sub_one, Nat.reduceSub, Bool.not_true, Bool.not_false, decide_true, decide_false, two, My.s_c, My.s_v, My.s_bin, My.s_neg, My.s_cmp, My.s_and, My.s_or, My.s_not, My.s_tup, My.s_lst, My.s_idx, My.s_sl, My.s_rev, My.s_call, My.s_bf, My.s_meth, My.s_es0, My.s_es1, My.s_x0, My.s_x1, My.s_p0, My.s_p1, My.s_a0, My.s_av, My.s_ac, My.s_abin, My.s_aneg, My.s_aidx, My.s_acall, My.s_abf, My.s_atup, My.s_alst, My.s_asl, My.s_acmp, My.s_t0, My.s_t1, My.s_i0, My.s_i1, My.s_it, My.s_r1, My.s_r2, My.s_test, My.l_v, My.l_c, My.l_bin, My.l_neg, My.l_cmp, My.l_and, My.l_or, My.l_not, My.l_tup, My.l_lst, My.l_idx, My.l_sl, My.l_rev, My.l_call, My.l_bf, My.l_meth, My.l_comp, My.s_2, My.s_1, My.x0, My.x1, My.x_set, My.x_setT, My.x_par, My.x_sub, My.x_app, My.x_expr, My.x_retv, My.x_retc, My.x_rettup, My.x_retlst, My.x_retbin, My.x_retcmp, My.x_retand, My.x_retor, My.x_retnot, My.x_retidx, My.x_retsl, My.x_retcall, My.x_retbf, My.x_retmeth, My.x_retcomp, My.x_retN, My.x_if, My.x_whl, My.x_for, My.x_pass, My.b_add, My.b_sub, My.b_mulL, My.b_mulR, My.b_fdiv, My.b_mod, My.b_pow, My.b_addS, My.b_mulS, My.b_addT, My.b_addL, My.c_lt, My.c_le, My.c_gt, My.c_ge, My.c_eq, My.c_ne, My.c_eqS, My.c_neS, My.i_tup, My.i_lst, My.i_scr, My.i_str, My.a0, My.a1, My.a2, My.a3, My.sub0, My.sub1, My.f_int, My.f_bl, My.f_str, My.f_tup, My.f_lst, My.f_non, My.f_scr, My.f_und, My.u_int, My.u_bl, My.u_str, My.u_tup, My.u_lst, My.u_non, My.u_scr, My.u_und, My.g0, My.g1, My.t0, My.t1, My.as_n, My.as_nil, My.as_cons, My.par0, My.par1, My.as_b, My.as_i, My.passT, My.passF, My.pb0, My.pbT, My.pbF, My.pb_nil, My.pbc, My.pbbin, My.pbneg, My.pbidx, My.pbcall, My.pbbf, My.pbtup, My.pblst, My.pbsl, My.pbcmp, My.fin_rt, My.fin_nx, My.out0, My.outT, My.outF, My.l2_ok, My.l1_ok, My.q_lenL, My.q_lenT, My.q_lenS, My.q_lenC, My.q_abs, My.q_min, My.q_max, My.q_intb, My.q_inti, My.q_tupT, My.q_tupL, My.q_listT, My.q_listL, My.r_lst, My.n_int, My.ls_tup, My.ls_lst, My.isl, My.ap_ok, My.m_v, My.m_c, My.rv_join, My.mt_joinE, My.for0, My.for1, My.if_f, My.if_t, My.ob, My.om]
/-! ### a slope and its table -/
theorem div_box {g : Int} {r : Nat} (hr : 0 < r) {B : Int} (h1 : -B < g) (h2 : g < B) : -B ≤ g.fdiv r ∧ g.fdiv r ≤ B := by
  rw [Int.fdiv_eq_ediv_of_nonneg _ (by omega)]
  have hB : B * 1 ≤ B * (r : Int) := Int.mul_le_mul_of_nonneg_left (by omega) (by omega)
  constructor
  · rw [Int.le_ediv_iff_mul_le (by omega), Int.neg_mul]
    omega
  · refine Int.le_of_lt ?_
    rw [Int.ediv_lt_iff_lt_mul (by omega)]
    omega
theorem divided_loop (C : Call) (A0 C0 : Int) : ∀ (n : Nat) (r : Nat) (g x y u v : Int) (q : D), r ≤ n → r < 1000000 → -1000000 < g → g < 1000000 → ∃ g' x' y' u' v' q', g'.natAbs = Int.gcd g r ∧
    wh (evC C (.cmp .ne (.v 5) (.c (.int 0)))) (exs C (.cons (.set (.n 8) (.bin .fdiv (.v 2) (.v 5)))
  (.cons (.par [2, 5] (.cons (.v 5) (.cons (.bin .sub (.v 2) (.bin .mul (.v 8) (.v 5))) .nil)))
  (.cons (.par [3, 6] (.cons (.v 6) (.cons (.bin .sub (.v 3) (.bin .mul (.v 8) (.v 6))) .nil)))
  (.cons (.par [4, 7] (.cons (.v 7) (.cons (.bin .sub (.v 4) (.bin .mul (.v 8) (.v 7))) .nil)))
  .nil))))) [.int A0, .int C0, .int g, .int x, .int y, .int r, .int u, .int v, q] = .ok (.nx [.int A0, .int C0, .int g', .int x', .int y', .int 0, .int u', .int v', q']) := by
  intro n
  induction n with
  | zero =>
    intro r g x y u v q h _ _ _
    have : r = 0 := by omega
    subst this
    refine ⟨g, x, y, u, v, q, by simp, ?_⟩
    rw [wh_eq]
    simp -implicitDefEqProofs only [Int.reduceEq, Int.reduceNe, Int.reduceLT, Int.reduceLE, Int.reduceNeg, ne_eq, not_false_eq_true, not_true_eq_false, ↓reduceIte, Bool.false_eq_true, if_true, if_false, opt_some, opt_none, R.bind_ok, R.bind_exc, R.bind_bad, R.nx_nx, R.nx_rt, R.nx_exc, R.nx_bad, List.replicate, List.cons_append, List.nil_append, Nat.add_one_sub_one, Nat.reduceSub, Bool.not_true, Bool.not_false, decide_true, decide_false, two, My.s_c, My.s_v, My.s_bin, My.s_neg, My.s_cmp, My.s_and, My.s_or, My.s_not, My.s_tup, My.s_lst, My.s_idx, My.s_sl, My.s_rev, My.s_call, My.s_bf, My.s_meth, My.s_es0, My.s_es1, My.s_x0, My.s_x1, My.s_p0, My.s_p1, My.s_a0, My.s_av, My.s_ac, My.s_abin, My.s_aneg, My.s_aidx, My.s_acall, My.s_abf, My.s_atup, My.s_alst, My.s_asl, My.s_acmp, My.s_t0, My.s_t1, My.s_i0, My.s_i1, My.s_it, My.s_r1, My.s_r2, My.s_test, My.l_v, My.l_c, My.l_bin, My.l_neg, My.l_cmp, My.l_and, My.l_or, My.l_not, My.l_tup, My.l_lst, My.l_idx, My.l_sl, My.l_rev, My.l_call, My.l_bf, My.l_meth, My.l_comp, My.s_2, My.s_1, My.x0, My.x1, My.x_set, My.x_setT, My.x_par, My.x_sub, My.x_app, My.x_expr, My.x_retv, My.x_retc, My.x_rettup, My.x_retlst, My.x_retbin, My.x_retcmp, My.x_retand, My.x_retor, My.x_retnot, My.x_retidx, My.x_retsl, My.x_retcall, My.x_retbf, My.x_retmeth, My.x_retcomp, My.x_retN, My.x_if, My.x_whl, My.x_for, My.x_pass, My.b_add, My.b_sub, My.b_mulL, My.b_mulR, My.b_fdiv, My.b_mod, My.b_pow, My.b_addS, My.b_mulS, My.b_addT, My.b_addL, My.c_lt, My.c_le, My.c_gt, My.c_ge, My.c_eq, My.c_ne, My.c_eqS, My.c_neS, My.i_tup, My.i_lst, My.i_scr, My.i_str, My.a0, My.a1, My.a2, My.a3, My.sub0, My.sub1, My.f_int, My.f_bl, My.f_str, My.f_tup, My.f_lst, My.f_non, My.f_scr, My.f_und, My.u_int, My.u_bl, My.u_str, My.u_tup, My.u_lst, My.u_non, My.u_scr, My.u_und, My.g0, My.g1, My.t0, My.t1, My.as_n, My.as_nil, My.as_cons, My.par0, My.par1, My.as_b, My.as_i, My.passT, My.passF, My.pb0, My.pbT, My.pbF, My.pb_nil, My.pbc, My.pbbin, My.pbneg, My.pbidx, My.pbcall, My.pbbf, My.pbtup, My.pblst, My.pbsl, My.pbcmp, My.fin_rt, My.fin_nx, My.out0, My.outT, My.outF, My.l2_ok, My.l1_ok, My.q_lenL, My.q_lenT, My.q_lenS, My.q_lenC, My.q_abs, My.q_min, My.q_max, My.q_intb, My.q_inti, My.q_tupT, My.q_tupL, My.q_listT, My.q_listL, My.r_lst, My.n_int, My.ls_tup, My.ls_lst, My.isl, My.ap_ok, My.m_v, My.m_c, My.rv_join, My.mt_joinE, My.for0, My.for1, My.if_f, My.if_t, My.ob, My.om]
    rfl
  | succ n ih =>
    intro r g x y u v q h hr g1 g2
    by_cases h0 : r = 0
    · subst h0
      refine ⟨g, x, y, u, v, q, by simp, ?_⟩
      rw [wh_eq]
      simp -implicitDefEqProofs only [Int.reduceEq, Int.reduceNe, Int.reduceLT, Int.reduceLE, Int.reduceNeg, ne_eq, not_false_eq_true, not_true_eq_false, ↓reduceIte, Bool.false_eq_true, if_true, if_false, opt_some, opt_none, R.bind_ok, R.bind_exc, R.bind_bad, R.nx_nx, R.nx_rt, R.nx_exc, R.nx_bad, List.replicate, List.cons_append, List.nil_append, Nat.add_one_sub_one, Nat.reduceSub, Bool.not_true, Bool.not_false, decide_true, decide_false, two, My.s_c, My.s_v, My.s_bin, My.s_neg, My.s_cmp, My.s_and, My.s_or, My.s_not, My.s_tup, My.s_lst, My.s_idx, My.s_sl, My.s_rev, My.s_call, My.s_bf, My.s_meth, My.s_es0, My.s_es1, My.s_x0, My.s_x1, My.s_p0, My.s_p1, My.s_a0, My.s_av, My.s_ac, My.s_abin, My.s_aneg, My.s_aidx, My.s_acall, My.s_abf, My.s_atup, My.s_alst, My.s_asl, My.s_acmp, My.s_t0, My.s_t1, My.s_i0, My.s_i1, My.s_it, My.s_r1, My.s_r2, My.s_test, My.l_v, My.l_c, My.l_bin, My.l_neg, My.l_cmp, My.l_and, My.l_or, My.l_not, My.l_tup, My.l_lst, My.l_idx, My.l_sl, My.l_rev, My.l_call, My.l_bf, My.l_meth, My.l_comp, My.s_2, My.s_1, My.x0, My.x1, My.x_set, My.x_setT, My.x_par, My.x_sub, My.x_app, My.x_expr, My.x_retv, My.x_retc, My.x_rettup, My.x_retlst, My.x_retbin, My.x_retcmp, My.x_retand, My.x_retor, My.x_retnot, My.x_retidx, My.x_retsl, My.x_retcall, My.x_retbf, My.x_retmeth, My.x_retcomp, My.x_retN, My.x_if, My.x_whl, My.x_for, My.x_pass, My.b_add, My.b_sub, My.b_mulL, My.b_mulR, My.b_fdiv, My.b_mod, My.b_pow, My.b_addS, My.b_mulS, My.b_addT, My.b_addL, My.c_lt, My.c_le, My.c_gt, My.c_ge, My.c_eq, My.c_ne, My.c_eqS, My.c_neS, My.i_tup, My.i_lst, My.i_scr, My.i_str, My.a0, My.a1, My.a2, My.a3, My.sub0, My.sub1, My.f_int, My.f_bl, My.f_str, My.f_tup, My.f_lst, My.f_non, My.f_scr, My.f_und, My.u_int, My.u_bl, My.u_str, My.u_tup, My.u_lst, My.u_non, My.u_scr, My.u_und, My.g0, My.g1, My.t0, My.t1, My.as_n, My.as_nil, My.as_cons, My.par0, My.par1, My.as_b, My.as_i, My.passT, My.passF, My.pb0, My.pbT, My.pbF, My.pb_nil, My.pbc, My.pbbin, My.pbneg, My.pbidx, My.pbcall, My.pbbf, My.pbtup, My.pblst, My.pbsl, My.pbcmp, My.fin_rt, My.fin_nx, My.out0, My.outT, My.outF, My.l2_ok, My.l1_ok, My.q_lenL, My.q_lenT, My.q_lenS, My.q_lenC, My.q_abs, My.q_min, My.q_max, My.q_intb, My.q_inti, My.q_tupT, My.q_tupL, My.q_listT, My.q_listL, My.r_lst, My.n_int, My.ls_tup, My.ls_lst, My.isl, My.ap_ok, My.m_v, My.m_c, My.rv_join, My.mt_joinE, My.for0, My.for1, My.if_f, My.if_t, My.ob, My.om]
      rfl
    · have h1 : ((r : Int) == 0) = false := by simp; omega
      have h2 : (r : Int) ≠ 0 := by omega
      have h3 : -1073741824 < (r : Int) := by omega
      have h4 : (r : Int) < 1073741824 := by omega
      obtain ⟨b1, b2⟩ := div_box (r := r) (by omega) g1 g2
      have q1 : -18446744073709551616 < g.fdiv r := by omega
      have q2 : g.fdiv r < 18446744073709551616 := by omega
      have e : g - g.fdiv r * r = (((g - g.fdiv r * r).toNat : Nat) : Int) ∧ (g - g.fdiv r * r).toNat < r := by
        have e1 : g - g.fdiv r * r = g.fmod r := by rw [Int.fmod_def, Int.mul_comm]
        have e2 : 0 ≤ g.fmod r := Int.fmod_nonneg_of_pos _ (by omega)
        have e3 : g.fmod r < r := Int.fmod_lt_of_pos _ (by omega)
        rw [e1]
        omega
      obtain ⟨g', x', y', u', v', q', hg, hw⟩ := ih (g - g.fdiv r * r).toNat r u v (x - g.fdiv r * u) (y - g.fdiv r * v) (.int (g.fdiv r)) (by omega) (by omega) (by omega) (by omega)
      refine ⟨g', x', y', u', v', q', ?_, ?_⟩
      · rw [hg, ← e.1, Int.gcd_sub_mul_right_right, Int.gcd_comm]
      · rw [wh_eq]
        rw [← e.1] at hw
        simp -implicitDefEqProofs only [Int.reduceEq, Int.reduceNe, Int.reduceLT, Int.reduceLE, Int.reduceNeg, ne_eq, not_false_eq_true, not_true_eq_false, ↓reduceIte, Bool.false_eq_true, if_true, if_false, opt_some, opt_none, R.bind_ok, R.bind_exc, R.bind_bad, R.nx_nx, R.nx_rt, R.nx_exc, R.nx_bad, List.replicate, List.cons_append, List.nil_append, Nat.add_one_sub_one, Nat.reduceSub, Bool.not_true, Bool.not_false, decide_true, decide_false, two, My.s_c, My.s_v, My.s_bin, My.s_neg, My.s_cmp, My.s_and, My.s_or, My.s_not, My.s_tup, My.s_lst, My.s_idx, My.s_sl, My.s_rev, My.s_call, My.s_bf, My.s_meth, My.s_es0, My.s_es1, My.s_x0, My.s_x1, My.s_p0, My.s_p1, My.s_a0, My.s_av, My.s_ac, My.s_abin, My.s_aneg, My.s_aidx, My.s_acall, My.s_abf, My.s_atup, My.s_alst, My.s_asl, My.s_acmp, My.s_t0, My.s_t1, My.s_i0, My.s_i1, My.s_it, My.s_r1, My.s_r2, My.s_test, My.l_v, My.l_c, My.l_bin, My.l_neg, My.l_cmp, My.l_and, My.l_or, My.l_not, My.l_tup, My.l_lst, My.l_idx, My.l_sl, My.l_rev, My.l_call, My.l_bf, My.l_meth, My.l_comp, My.s_2, My.s_1, My.x0, My.x1, My.x_set, My.x_setT, My.x_par, My.x_sub, My.x_app, My.x_expr, My.x_retv, My.x_retc, My.x_rettup, My.x_retlst, My.x_retbin, My.x_retcmp, My.x_retand, My.x_retor, My.x_retnot, My.x_retidx, My.x_retsl, My.x_retcall, My.x_retbf, My.x_retmeth, My.x_retcomp, My.x_retN, My.x_if, My.x_whl, My.x_for, My.x_pass, My.b_add, My.b_sub, My.b_mulL, My.b_mulR, My.b_fdiv, My.b_mod, My.b_pow, My.b_addS, My.b_mulS, My.b_addT, My.b_addL, My.c_lt, My.c_le, My.c_gt, My.c_ge, My.c_eq, My.c_ne, My.c_eqS, My.c_neS, My.i_tup, My.i_lst, My.i_scr, My.i_str, My.a0, My.a1, My.a2, My.a3, My.sub0, My.sub1, My.f_int, My.f_bl, My.f_str, My.f_tup, My.f_lst, My.f_non, My.f_scr, My.f_und, My.u_int, My.u_bl, My.u_str, My.u_tup, My.u_lst, My.u_non, My.u_scr, My.u_und, My.g0, My.g1, My.t0, My.t1, My.as_n, My.as_nil, My.as_cons, My.par0, My.par1, My.as_b, My.as_i, My.passT, My.passF, My.pb0, My.pbT, My.pbF, My.pb_nil, My.pbc, My.pbbin, My.pbneg, My.pbidx, My.pbcall, My.pbbf, My.pbtup, My.pblst, My.pbsl, My.pbcmp, My.fin_rt, My.fin_nx, My.out0, My.outT, My.outF, My.l2_ok, My.l1_ok, My.q_lenL, My.q_lenT, My.q_lenS, My.q_lenC, My.q_abs, My.q_min, My.q_max, My.q_intb, My.q_inti, My.q_tupT, My.q_tupL, My.q_listT, My.q_listL, My.r_lst, My.n_int, My.ls_tup, My.ls_lst, My.isl, My.ap_ok, My.m_v, My.m_c, My.rv_join, My.mt_joinE, My.for0, My.for1, My.if_f, My.if_t, My.ob, My.om, h1, h2, h3, h4, q1, q2]
        exact hw
theorem divided_ok (k : Nat) {a : Int} {c : Nat} (hc : c < 1000000) (a1 : -1000000 < a) (a2 : a < 1000000) : ∃ x y, callF PG (k + 1) f_divided [.int a, .int c] = .ok (.tup [.int (Int.gcd a c), .int x, .int y], [.und, .und]) := by
  rw [call_eq (P := PG) (f := f_divided) (b := b_divided) (np := 2) (nl := 9) (io := [false, false]) rfl rfl]
  obtain ⟨g', x', y', u', v', q', hg, hw⟩ := divided_loop (callF PG k) a c c c a 1 0 0 1 .und (Nat.le_refl _) hc a1 a2
  by_cases hn : g' < 0
  · refine ⟨0 - x', 0 - y', ?_⟩
    have e : (Int.gcd a c : Int) = 0 - g' := by omega
    simp -implicitDefEqProofs only [b_divided, Int.reduceEq, Int.reduceNe, Int.reduceLT, Int.reduceLE, Int.reduceNeg, ne_eq, not_false_eq_true, not_true_eq_false, ↓reduceIte, Bool.false_eq_true, if_true, if_false, opt_some, opt_none, R.bind_ok, R.bind_exc, R.bind_bad, R.nx_nx, R.nx_rt, R.nx_exc, R.nx_bad, List.replicate, List.cons_append, List.nil_append, Nat.add_one_sub_one, Nat.reduceSub, Bool.not_true, Bool.not_false, decide_true, decide_false, two, My.s_c, My.s_v, My.s_bin, My.s_neg, My.s_cmp, My.s_and, My.s_or, My.s_not, My.s_tup, My.s_lst, My.s_idx, My.s_sl, My.s_rev, My.s_call, My.s_bf, My.s_meth, My.s_es0, My.s_es1, My.s_x0, My.s_x1, My.s_p0, My.s_p1, My.s_a0, My.s_av, My.s_ac, My.s_abin, My.s_aneg, My.s_aidx, My.s_acall, My.s_abf, My.s_atup, My.s_alst, My.s_asl, My.s_acmp, My.s_t0, My.s_t1, My.s_i0, My.s_i1, My.s_it, My.s_r1, My.s_r2, My.s_test, My.l_v, My.l_c, My.l_bin, My.l_neg, My.l_cmp, My.l_and, My.l_or, My.l_not, My.l_tup, My.l_lst, My.l_idx, My.l_sl, My.l_rev, My.l_call, My.l_bf, My.l_meth, My.l_comp, My.s_2, My.s_1, My.x0, My.x1, My.x_set, My.x_setT, My.x_par, My.x_sub, My.x_app, My.x_expr, My.x_retv, My.x_retc, My.x_rettup, My.x_retlst, My.x_retbin, My.x_retcmp, My.x_retand, My.x_retor, My.x_retnot, My.x_retidx, My.x_retsl, My.x_retcall, My.x_retbf, My.x_retmeth, My.x_retcomp, My.x_retN, My.x_if, My.x_whl, My.x_for, My.x_pass, My.b_add, My.b_sub, My.b_mulL, My.b_mulR, My.b_fdiv, My.b_mod, My.b_pow, My.b_addS, My.b_mulS, My.b_addT, My.b_addL, My.c_lt, My.c_le, My.c_gt, My.c_ge, My.c_eq, My.c_ne, My.c_eqS, My.c_neS, My.i_tup, My.i_lst, My.i_scr, My.i_str, My.a0, My.a1, My.a2, My.a3, My.sub0, My.sub1, My.f_int, My.f_bl, My.f_str, My.f_tup, My.f_lst, My.f_non, My.f_scr, My.f_und, My.u_int, My.u_bl, My.u_str, My.u_tup, My.u_lst, My.u_non, My.u_scr, My.u_und, My.g0, My.g1, My.t0, My.t1, My.as_n, My.as_nil, My.as_cons, My.par0, My.par1, My.as_b, My.as_i, My.passT, My.passF, My.pb0, My.pbT, My.pbF, My.pb_nil, My.pbc, My.pbbin, My.pbneg, My.pbidx, My.pbcall, My.pbbf, My.pbtup, My.pblst, My.pbsl, My.pbcmp, My.fin_rt, My.fin_nx, My.out0, My.outT, My.outF, My.l2_ok, My.l1_ok, My.q_lenL, My.q_lenT, My.q_lenS, My.q_lenC, My.q_abs, My.q_min, My.q_max, My.q_intb, My.q_inti, My.q_tupT, My.q_tupL, My.q_listT, My.q_listL, My.r_lst, My.n_int, My.ls_tup, My.ls_lst, My.isl, My.ap_ok, My.m_v, My.m_c, My.rv_join, My.mt_joinE, My.for0, My.for1, My.if_f, My.if_t, My.ob, My.om, hw, decide_eq_true hn, e]
  · refine ⟨x', y', ?_⟩
    have e : (Int.gcd a c : Int) = g' := by omega
    simp -implicitDefEqProofs only [b_divided, Int.reduceEq, Int.reduceNe, Int.reduceLT, Int.reduceLE, Int.reduceNeg, ne_eq, not_false_eq_true, not_true_eq_false, ↓reduceIte, Bool.false_eq_true, if_true, if_false, opt_some, opt_none, R.bind_ok, R.bind_exc, R.bind_bad, R.nx_nx, R.nx_rt, R.nx_exc, R.nx_bad, List.replicate, List.cons_append, List.nil_append, Nat.add_one_sub_one, Nat.reduceSub, Bool.not_true, Bool.not_false, decide_true, decide_false, two, My.s_c, My.s_v, My.s_bin, My.s_neg, My.s_cmp, My.s_and, My.s_or, My.s_not, My.s_tup, My.s_lst, My.s_idx, My.s_sl, My.s_rev, My.s_call, My.s_bf, My.s_meth, My.s_es0, My.s_es1, My.s_x0, My.s_x1, My.s_p0, My.s_p1, My.s_a0, My.s_av, My.s_ac, My.s_abin, My.s_aneg, My.s_aidx, My.s_acall, My.s_abf, My.s_atup, My.s_alst, My.s_asl, My.s_acmp, My.s_t0, My.s_t1, My.s_i0, My.s_i1, My.s_it, My.s_r1, My.s_r2, My.s_test, My.l_v, My.l_c, My.l_bin, My.l_neg, My.l_cmp, My.l_and, My.l_or, My.l_not, My.l_tup, My.l_lst, My.l_idx, My.l_sl, My.l_rev, My.l_call, My.l_bf, My.l_meth, My.l_comp, My.s_2, My.s_1, My.x0, My.x1, My.x_set, My.x_setT, My.x_par, My.x_sub, My.x_app, My.x_expr, My.x_retv, My.x_retc, My.x_rettup, My.x_retlst, My.x_retbin, My.x_retcmp, My.x_retand, My.x_retor, My.x_retnot, My.x_retidx, My.x_retsl, My.x_retcall, My.x_retbf, My.x_retmeth, My.x_retcomp, My.x_retN, My.x_if, My.x_whl, My.x_for, My.x_pass, My.b_add, My.b_sub, My.b_mulL, My.b_mulR, My.b_fdiv, My.b_mod, My.b_pow, My.b_addS, My.b_mulS, My.b_addT, My.b_addL, My.c_lt, My.c_le, My.c_gt, My.c_ge, My.c_eq, My.c_ne, My.c_eqS, My.c_neS, My.i_tup, My.i_lst, My.i_scr, My.i_str, My.a0, My.a1, My.a2, My.a3, My.sub0, My.sub1, My.f_int, My.f_bl, My.f_str, My.f_tup, My.f_lst, My.f_non, My.f_scr, My.f_und, My.u_int, My.u_bl, My.u_str, My.u_tup, My.u_lst, My.u_non, My.u_scr, My.u_und, My.g0, My.g1, My.t0, My.t1, My.as_n, My.as_nil, My.as_cons, My.par0, My.par1, My.as_b, My.as_i, My.passT, My.passF, My.pb0, My.pbT, My.pbF, My.pb_nil, My.pbc, My.pbbin, My.pbneg, My.pbidx, My.pbcall, My.pbbf, My.pbtup, My.pblst, My.pbsl, My.pbcmp, My.fin_rt, My.fin_nx, My.out0, My.outT, My.outF, My.l2_ok, My.l1_ok, My.q_lenL, My.q_lenT, My.q_lenS, My.q_lenC, My.q_abs, My.q_min, My.q_max, My.q_intb, My.q_inti, My.q_tupT, My.q_tupL, My.q_listT, My.q_listL, My.r_lst, My.n_int, My.ls_tup, My.ls_lst, My.isl, My.ap_ok, My.m_v, My.m_c, My.rv_join, My.mt_joinE, My.for0, My.for1, My.if_f, My.if_t, My.ob, My.om, hw, decide_eq_false hn, e]
/-- slopes that the law draws -/
def Good (a : Int) (c : Nat) : Prop := -25 < a ∧ a < 25 ∧ c < 25 ∧ Int.gcd a c = 1 ∧ (c = 0 → a = 1)
theorem table_ok (k : Nat) {a : Int} {c : Nat} (h : Good a c) : ∃ r, callF PG (k + 2) f_slope_table [.tup [.int a, .int c]] = .ok (r, [.und]) := by
  obtain ⟨h1, h2, h3, h4, h5⟩ := h
  obtain ⟨x, y, e⟩ := divided_ok k (a := a) (c := c) (by omega) (by omega) (by omega)
  rw [h4] at e
  rw [call_eq (P := PG) (f := f_slope_table) (b := b_slope_table) (np := 1) (nl := 6) (io := [false]) rfl rfl]
  have c0 : ¬ (c : Int) < 0 := by omega
  refine ⟨.tup [.int x, .int y, .int (0 - c), .int a], ?_⟩
  by_cases hc : c = 0
  · subst hc
    rw [h5 rfl] at e ⊢
    simp -implicitDefEqProofs only [b_slope_table, Int.reduceEq, Int.reduceNe, Int.reduceLT, Int.reduceLE, Int.reduceNeg, ne_eq, not_false_eq_true, not_true_eq_false, ↓reduceIte, Bool.false_eq_true, if_true, if_false, opt_some, opt_none, R.bind_ok, R.bind_exc, R.bind_bad, R.nx_nx, R.nx_rt, R.nx_exc, R.nx_bad, List.replicate, List.cons_append, List.nil_append, Nat.add_one_sub_one, Nat.reduceSub, Bool.not_true, Bool.not_false, decide_true, decide_false, two, My.s_c, My.s_v, My.s_bin, My.s_neg, My.s_cmp, My.s_and, My.s_or, My.s_not, My.s_tup, My.s_lst, My.s_idx, My.s_sl, My.s_rev, My.s_call, My.s_bf, My.s_meth, My.s_es0, My.s_es1, My.s_x0, My.s_x1, My.s_p0, My.s_p1, My.s_a0, My.s_av, My.s_ac, My.s_abin, My.s_aneg, My.s_aidx, My.s_acall, My.s_abf, My.s_atup, My.s_alst, My.s_asl, My.s_acmp, My.s_t0, My.s_t1, My.s_i0, My.s_i1, My.s_it, My.s_r1, My.s_r2, My.s_test, My.l_v, My.l_c, My.l_bin, My.l_neg, My.l_cmp, My.l_and, My.l_or, My.l_not, My.l_tup, My.l_lst, My.l_idx, My.l_sl, My.l_rev, My.l_call, My.l_bf, My.l_meth, My.l_comp, My.s_2, My.s_1, My.x0, My.x1, My.x_set, My.x_setT, My.x_par, My.x_sub, My.x_app, My.x_expr, My.x_retv, My.x_retc, My.x_rettup, My.x_retlst, My.x_retbin, My.x_retcmp, My.x_retand, My.x_retor, My.x_retnot, My.x_retidx, My.x_retsl, My.x_retcall, My.x_retbf, My.x_retmeth, My.x_retcomp, My.x_retN, My.x_if, My.x_whl, My.x_for, My.x_pass, My.b_add, My.b_sub, My.b_mulL, My.b_mulR, My.b_fdiv, My.b_mod, My.b_pow, My.b_addS, My.b_mulS, My.b_addT, My.b_addL, My.c_lt, My.c_le, My.c_gt, My.c_ge, My.c_eq, My.c_ne, My.c_eqS, My.c_neS, My.i_tup, My.i_lst, My.i_scr, My.i_str, My.a0, My.a1, My.a2, My.a3, My.sub0, My.sub1, My.f_int, My.f_bl, My.f_str, My.f_tup, My.f_lst, My.f_non, My.f_scr, My.f_und, My.u_int, My.u_bl, My.u_str, My.u_tup, My.u_lst, My.u_non, My.u_scr, My.u_und, My.g0, My.g1, My.t0, My.t1, My.as_n, My.as_nil, My.as_cons, My.par0, My.par1, My.as_b, My.as_i, My.passT, My.passF, My.pb0, My.pbT, My.pbF, My.pb_nil, My.pbc, My.pbbin, My.pbneg, My.pbidx, My.pbcall, My.pbbf, My.pbtup, My.pblst, My.pbsl, My.pbcmp, My.fin_rt, My.fin_nx, My.out0, My.outT, My.outF, My.l2_ok, My.l1_ok, My.q_lenL, My.q_lenT, My.q_lenS, My.q_lenC, My.q_abs, My.q_min, My.q_max, My.q_intb, My.q_inti, My.q_tupT, My.q_tupL, My.q_listT, My.q_listL, My.r_lst, My.n_int, My.ls_tup, My.ls_lst, My.isl, My.ap_ok, My.m_v, My.m_c, My.rv_join, My.mt_joinE, My.for0, My.for1, My.if_f, My.if_t, My.ob, My.om, e]
    rfl
  · have e2 : ((c : Int) == 0) = false := by simp; omega
    simp -implicitDefEqProofs only [b_slope_table, Int.reduceEq, Int.reduceNe, Int.reduceLT, Int.reduceLE, Int.reduceNeg, ne_eq, not_false_eq_true, not_true_eq_false, ↓reduceIte, Bool.false_eq_true, if_true, if_false, opt_some, opt_none, R.bind_ok, R.bind_exc, R.bind_bad, R.nx_nx, R.nx_rt, R.nx_exc, R.nx_bad, List.replicate, List.cons_append, List.nil_append, Nat.add_one_sub_one, Nat.reduceSub, Bool.not_true, Bool.not_false, decide_true, decide_false, two, My.s_c, My.s_v, My.s_bin, My.s_neg, My.s_cmp, My.s_and, My.s_or, My.s_not, My.s_tup, My.s_lst, My.s_idx, My.s_sl, My.s_rev, My.s_call, My.s_bf, My.s_meth, My.s_es0, My.s_es1, My.s_x0, My.s_x1, My.s_p0, My.s_p1, My.s_a0, My.s_av, My.s_ac, My.s_abin, My.s_aneg, My.s_aidx, My.s_acall, My.s_abf, My.s_atup, My.s_alst, My.s_asl, My.s_acmp, My.s_t0, My.s_t1, My.s_i0, My.s_i1, My.s_it, My.s_r1, My.s_r2, My.s_test, My.l_v, My.l_c, My.l_bin, My.l_neg, My.l_cmp, My.l_and, My.l_or, My.l_not, My.l_tup, My.l_lst, My.l_idx, My.l_sl, My.l_rev, My.l_call, My.l_bf, My.l_meth, My.l_comp, My.s_2, My.s_1, My.x0, My.x1, My.x_set, My.x_setT, My.x_par, My.x_sub, My.x_app, My.x_expr, My.x_retv, My.x_retc, My.x_rettup, My.x_retlst, My.x_retbin, My.x_retcmp, My.x_retand, My.x_retor, My.x_retnot, My.x_retidx, My.x_retsl, My.x_retcall, My.x_retbf, My.x_retmeth, My.x_retcomp, My.x_retN, My.x_if, My.x_whl, My.x_for, My.x_pass, My.b_add, My.b_sub, My.b_mulL, My.b_mulR, My.b_fdiv, My.b_mod, My.b_pow, My.b_addS, My.b_mulS, My.b_addT, My.b_addL, My.c_lt, My.c_le, My.c_gt, My.c_ge, My.c_eq, My.c_ne, My.c_eqS, My.c_neS, My.i_tup, My.i_lst, My.i_scr, My.i_str, My.a0, My.a1, My.a2, My.a3, My.sub0, My.sub1, My.f_int, My.f_bl, My.f_str, My.f_tup, My.f_lst, My.f_non, My.f_scr, My.f_und, My.u_int, My.u_bl, My.u_str, My.u_tup, My.u_lst, My.u_non, My.u_scr, My.u_und, My.g0, My.g1, My.t0, My.t1, My.as_n, My.as_nil, My.as_cons, My.par0, My.par1, My.as_b, My.as_i, My.passT, My.passF, My.pb0, My.pbT, My.pbF, My.pb_nil, My.pbc, My.pbbin, My.pbneg, My.pbidx, My.pbcall, My.pbbf, My.pbtup, My.pblst, My.pbsl, My.pbcmp, My.fin_rt, My.fin_nx, My.out0, My.outT, My.outF, My.l2_ok, My.l1_ok, My.q_lenL, My.q_lenT, My.q_lenS, My.q_lenC, My.q_abs, My.q_min, My.q_max, My.q_intb, My.q_inti, My.q_tupT, My.q_tupL, My.q_listT, My.q_listL, My.r_lst, My.n_int, My.ls_tup, My.ls_lst, My.isl, My.ap_ok, My.m_v, My.m_c, My.rv_join, My.mt_joinE, My.for0, My.for1, My.if_f, My.if_t, My.ob, My.om, e, decide_eq_false c0, e2]
    rfl
theorem slope_ok (k : Nat) {a b m : Int} (ha : 0 ≤ a) (hb : 0 ≤ b) (hm : 0 < m) (hm2 : m < 25) : ∃ (A : Int) (c : Nat) (a' b' : Int), 0 ≤ a' ∧ 0 ≤ b' ∧ Good A c ∧
    callF PG (k + 2) f_law_slope [.lst true [.int a, .int b], .int m] = .ok (.tup [.int A, .int c], [.lst true [.int a', .int b'], .und]) := by
  rw [call_eq (P := PG) (f := f_law_slope) (b := b_law_slope) (np := 2) (nl := 6) (io := [true, false]) rfl rfl]
  obtain ⟨r1, a1, b1, ha1, hb1, h1, h1', e1⟩ := take_ok k ha hb (m := 8) (by omega) (by omega)
  by_cases h0 : r1 = 0
  · subst h0
    refine ⟨1, 0, a1, b1, ha1, hb1, ⟨by omega, by omega, by omega, by decide, fun _ => rfl⟩, ?_⟩
    simp -implicitDefEqProofs only [b_law_slope, Int.reduceEq, Int.reduceNe, Int.reduceLT, Int.reduceLE, Int.reduceNeg, ne_eq, not_false_eq_true, not_true_eq_false, ↓reduceIte, Bool.false_eq_true, if_true, if_false, opt_some, opt_none, R.bind_ok, R.bind_exc, R.bind_bad, R.nx_nx, R.nx_rt, R.nx_exc, R.nx_bad, List.replicate, List.cons_append, List.nil_append, Nat.add_one_sub_one, Nat.reduceSub, Bool.not_true, Bool.not_false, decide_true, decide_false, two, My.s_c, My.s_v, My.s_bin, My.s_neg, My.s_cmp, My.s_and, My.s_or, My.s_not, My.s_tup, My.s_lst, My.s_idx, My.s_sl, My.s_rev, My.s_call, My.s_bf, My.s_meth, My.s_es0, My.s_es1, My.s_x0, My.s_x1, My.s_p0, My.s_p1, My.s_a0, My.s_av, My.s_ac, My.s_abin, My.s_aneg, My.s_aidx, My.s_acall, My.s_abf, My.s_atup, My.s_alst, My.s_asl, My.s_acmp, My.s_t0, My.s_t1, My.s_i0, My.s_i1, My.s_it, My.s_r1, My.s_r2, My.s_test, My.l_v, My.l_c, My.l_bin, My.l_neg, My.l_cmp, My.l_and, My.l_or, My.l_not, My.l_tup, My.l_lst, My.l_idx, My.l_sl, My.l_rev, My.l_call, My.l_bf, My.l_meth, My.l_comp, My.s_2, My.s_1, My.x0, My.x1, My.x_set, My.x_setT, My.x_par, My.x_sub, My.x_app, My.x_expr, My.x_retv, My.x_retc, My.x_rettup, My.x_retlst, My.x_retbin, My.x_retcmp, My.x_retand, My.x_retor, My.x_retnot, My.x_retidx, My.x_retsl, My.x_retcall, My.x_retbf, My.x_retmeth, My.x_retcomp, My.x_retN, My.x_if, My.x_whl, My.x_for, My.x_pass, My.b_add, My.b_sub, My.b_mulL, My.b_mulR, My.b_fdiv, My.b_mod, My.b_pow, My.b_addS, My.b_mulS, My.b_addT, My.b_addL, My.c_lt, My.c_le, My.c_gt, My.c_ge, My.c_eq, My.c_ne, My.c_eqS, My.c_neS, My.i_tup, My.i_lst, My.i_scr, My.i_str, My.a0, My.a1, My.a2, My.a3, My.sub0, My.sub1, My.f_int, My.f_bl, My.f_str, My.f_tup, My.f_lst, My.f_non, My.f_scr, My.f_und, My.u_int, My.u_bl, My.u_str, My.u_tup, My.u_lst, My.u_non, My.u_scr, My.u_und, My.g0, My.g1, My.t0, My.t1, My.as_n, My.as_nil, My.as_cons, My.par0, My.par1, My.as_b, My.as_i, My.passT, My.passF, My.pb0, My.pbT, My.pbF, My.pb_nil, My.pbc, My.pbbin, My.pbneg, My.pbidx, My.pbcall, My.pbbf, My.pbtup, My.pblst, My.pbsl, My.pbcmp, My.fin_rt, My.fin_nx, My.out0, My.outT, My.outF, My.l2_ok, My.l1_ok, My.q_lenL, My.q_lenT, My.q_lenS, My.q_lenC, My.q_abs, My.q_min, My.q_max, My.q_intb, My.q_inti, My.q_tupT, My.q_tupL, My.q_listT, My.q_listL, My.r_lst, My.n_int, My.ls_tup, My.ls_lst, My.isl, My.ap_ok, My.m_v, My.m_c, My.rv_join, My.mt_joinE, My.for0, My.for1, My.if_f, My.if_t, My.ob, My.om, e1]
    rfl
  · have hf : (r1 == 0) = false := by simpa using h0
    obtain ⟨r2, a2, b2, ha2, hb2, h2, h2', e2⟩ := take_ok k ha1 hb1 (m := m) hm (by omega)
    obtain ⟨c, rfl⟩ := Int.eq_ofNat_of_zero_le h2
    obtain ⟨r3, a3, b3, ha3, hb3, h3, h3', e3⟩ := take_ok k ha2 hb2 (m := m - ((1 + c : Nat) : Int) + 1) (by omega) (by omega)
    obtain ⟨w, rfl⟩ := Int.eq_ofNat_of_zero_le h3
    have e4 := common_ok k (a := w) (c := 1 + c) (by omega)
    obtain ⟨r5, a5, b5, ha5, hb5, h5, h5', e5⟩ := take_ok k ha3 hb3 (m := 2) (by omega) (by omega)
    have hc : (1 + (c : Int)) = ((1 + c : Nat) : Int) := by omega
    have gp : 0 < Nat.gcd w (1 + c) := Nat.gcd_pos_of_pos_right _ (by omega)
    have gd1 : Nat.gcd w (1 + c) ∣ w := Nat.gcd_dvd_left _ _
    have gd2 : Nat.gcd w (1 + c) ∣ 1 + c := Nat.gcd_dvd_right _ _
    have gle : Nat.gcd w (1 + c) ≤ 1 + c := Nat.le_of_dvd (by omega) gd2
    have g1 : ((Nat.gcd w (1 + c) : Nat) : Int) ≠ 0 := by omega
    have g2 : -1073741824 < ((Nat.gcd w (1 + c) : Nat) : Int) := by omega
    have g3 : ((Nat.gcd w (1 + c) : Nat) : Int) < 1073741824 := by omega
    have q1 : (((1 + c : Nat) : Int)).fdiv (Nat.gcd w (1 + c) : Nat) = (((1 + c) / Nat.gcd w (1 + c) : Nat) : Int) := by
      rw [Int.fdiv_eq_ediv_of_nonneg _ (by omega), Int.natCast_ediv]
    have q2 : ((w : Int)).fdiv (Nat.gcd w (1 + c) : Nat) = ((w / Nat.gcd w (1 + c) : Nat) : Int) := by
      rw [Int.fdiv_eq_ediv_of_nonneg _ (by omega), Int.natCast_ediv]
    have q3 : (-1 * (w : Int)).fdiv (Nat.gcd w (1 + c) : Nat) = -((w / Nat.gcd w (1 + c) : Nat) : Int) := by
      rw [Int.fdiv_eq_ediv_of_nonneg _ (by omega), Int.natCast_ediv, Int.neg_mul, Int.one_mul, Int.neg_ediv_of_dvd]
      exact Int.natCast_dvd_natCast.mpr gd1
    have l1 : w / Nat.gcd w (1 + c) ≤ w := Nat.div_le_self _ _
    have l2 : (1 + c) / Nat.gcd w (1 + c) ≤ 1 + c := Nat.div_le_self _ _
    have l3 : 0 < (1 + c) / Nat.gcd w (1 + c) := Nat.div_pos gle gp
    have co : Nat.gcd (w / Nat.gcd w (1 + c)) ((1 + c) / Nat.gcd w (1 + c)) = 1 := by
      rw [Nat.gcd_div gd1 gd2, Nat.div_self gp]
    generalize w / Nat.gcd w (1 + c) = W at q2 q3 l1 co
    generalize (1 + c) / Nat.gcd w (1 + c) = Cn at q1 l2 l3 co
    rcases (by omega : r5 = 0 ∨ r5 = 1) with rfl | rfl
    · refine ⟨(W : Int), Cn, a5, b5, ha5, hb5, ⟨?_, ?_, ?_, ?_, ?_⟩, ?_⟩
      rotate_left 5
      · simp -implicitDefEqProofs only [b_law_slope, Int.reduceEq, Int.reduceNe, Int.reduceLT, Int.reduceLE, Int.reduceNeg, ne_eq, not_false_eq_true, not_true_eq_false, ↓reduceIte, Bool.false_eq_true, if_true, if_false, opt_some, opt_none, R.bind_ok, R.bind_exc, R.bind_bad, R.nx_nx, R.nx_rt, R.nx_exc, R.nx_bad, List.replicate, List.cons_append, List.nil_append, Nat.add_one_sub_one, Nat.reduceSub, Bool.not_true, Bool.not_false, decide_true, decide_false, two, My.s_c, My.s_v, My.s_bin, My.s_neg, My.s_cmp, My.s_and, My.s_or, My.s_not, My.s_tup, My.s_lst, My.s_idx, My.s_sl, My.s_rev, My.s_call, My.s_bf, My.s_meth, My.s_es0, My.s_es1, My.s_x0, My.s_x1, My.s_p0, My.s_p1, My.s_a0, My.s_av, My.s_ac, My.s_abin, My.s_aneg, My.s_aidx, My.s_acall, My.s_abf, My.s_atup, My.s_alst, My.s_asl, My.s_acmp, My.s_t0, My.s_t1, My.s_i0, My.s_i1, My.s_it, My.s_r1, My.s_r2, My.s_test, My.l_v, My.l_c, My.l_bin, My.l_neg, My.l_cmp, My.l_and, My.l_or, My.l_not, My.l_tup, My.l_lst, My.l_idx, My.l_sl, My.l_rev, My.l_call, My.l_bf, My.l_meth, My.l_comp, My.s_2, My.s_1, My.x0, My.x1, My.x_set, My.x_setT, My.x_par, My.x_sub, My.x_app, My.x_expr, My.x_retv, My.x_retc, My.x_rettup, My.x_retlst, My.x_retbin, My.x_retcmp, My.x_retand, My.x_retor, My.x_retnot, My.x_retidx, My.x_retsl, My.x_retcall, My.x_retbf, My.x_retmeth, My.x_retcomp, My.x_retN, My.x_if, My.x_whl, My.x_for, My.x_pass, My.b_add, My.b_sub, My.b_mulL, My.b_mulR, My.b_fdiv, My.b_mod, My.b_pow, My.b_addS, My.b_mulS, My.b_addT, My.b_addL, My.c_lt, My.c_le, My.c_gt, My.c_ge, My.c_eq, My.c_ne, My.c_eqS, My.c_neS, My.i_tup, My.i_lst, My.i_scr, My.i_str, My.a0, My.a1, My.a2, My.a3, My.sub0, My.sub1, My.f_int, My.f_bl, My.f_str, My.f_tup, My.f_lst, My.f_non, My.f_scr, My.f_und, My.u_int, My.u_bl, My.u_str, My.u_tup, My.u_lst, My.u_non, My.u_scr, My.u_und, My.g0, My.g1, My.t0, My.t1, My.as_n, My.as_nil, My.as_cons, My.par0, My.par1, My.as_b, My.as_i, My.passT, My.passF, My.pb0, My.pbT, My.pbF, My.pb_nil, My.pbc, My.pbbin, My.pbneg, My.pbidx, My.pbcall, My.pbbf, My.pbtup, My.pblst, My.pbsl, My.pbcmp, My.fin_rt, My.fin_nx, My.out0, My.outT, My.outF, My.l2_ok, My.l1_ok, My.q_lenL, My.q_lenT, My.q_lenS, My.q_lenC, My.q_abs, My.q_min, My.q_max, My.q_intb, My.q_inti, My.q_tupT, My.q_tupL, My.q_listT, My.q_listL, My.r_lst, My.n_int, My.ls_tup, My.ls_lst, My.isl, My.ap_ok, My.m_v, My.m_c, My.rv_join, My.mt_joinE, My.for0, My.for1, My.if_f, My.if_t, My.ob, My.om, e1, hf, e2, hc, e3, e4, e5, g1, g2, g3, q1, Int.one_mul, q2]
      · omega
      · omega
      · omega
      · exact co
      · omega
    · refine ⟨-(W : Int), Cn, a5, b5, ha5, hb5, ⟨?_, ?_, ?_, ?_, ?_⟩, ?_⟩
      rotate_left 5
      · simp -implicitDefEqProofs only [b_law_slope, Int.reduceEq, Int.reduceNe, Int.reduceLT, Int.reduceLE, Int.reduceNeg, ne_eq, not_false_eq_true, not_true_eq_false, ↓reduceIte, Bool.false_eq_true, if_true, if_false, opt_some, opt_none, R.bind_ok, R.bind_exc, R.bind_bad, R.nx_nx, R.nx_rt, R.nx_exc, R.nx_bad, List.replicate, List.cons_append, List.nil_append, Nat.add_one_sub_one, Nat.reduceSub, Bool.not_true, Bool.not_false, decide_true, decide_false, two, My.s_c, My.s_v, My.s_bin, My.s_neg, My.s_cmp, My.s_and, My.s_or, My.s_not, My.s_tup, My.s_lst, My.s_idx, My.s_sl, My.s_rev, My.s_call, My.s_bf, My.s_meth, My.s_es0, My.s_es1, My.s_x0, My.s_x1, My.s_p0, My.s_p1, My.s_a0, My.s_av, My.s_ac, My.s_abin, My.s_aneg, My.s_aidx, My.s_acall, My.s_abf, My.s_atup, My.s_alst, My.s_asl, My.s_acmp, My.s_t0, My.s_t1, My.s_i0, My.s_i1, My.s_it, My.s_r1, My.s_r2, My.s_test, My.l_v, My.l_c, My.l_bin, My.l_neg, My.l_cmp, My.l_and, My.l_or, My.l_not, My.l_tup, My.l_lst, My.l_idx, My.l_sl, My.l_rev, My.l_call, My.l_bf, My.l_meth, My.l_comp, My.s_2, My.s_1, My.x0, My.x1, My.x_set, My.x_setT, My.x_par, My.x_sub, My.x_app, My.x_expr, My.x_retv, My.x_retc, My.x_rettup, My.x_retlst, My.x_retbin, My.x_retcmp, My.x_retand, My.x_retor, My.x_retnot, My.x_retidx, My.x_retsl, My.x_retcall, My.x_retbf, My.x_retmeth, My.x_retcomp, My.x_retN, My.x_if, My.x_whl, My.x_for, My.x_pass, My.b_add, My.b_sub, My.b_mulL, My.b_mulR, My.b_fdiv, My.b_mod, My.b_pow, My.b_addS, My.b_mulS, My.b_addT, My.b_addL, My.c_lt, My.c_le, My.c_gt, My.c_ge, My.c_eq, My.c_ne, My.c_eqS, My.c_neS, My.i_tup, My.i_lst, My.i_scr, My.i_str, My.a0, My.a1, My.a2, My.a3, My.sub0, My.sub1, My.f_int, My.f_bl, My.f_str, My.f_tup, My.f_lst, My.f_non, My.f_scr, My.f_und, My.u_int, My.u_bl, My.u_str, My.u_tup, My.u_lst, My.u_non, My.u_scr, My.u_und, My.g0, My.g1, My.t0, My.t1, My.as_n, My.as_nil, My.as_cons, My.par0, My.par1, My.as_b, My.as_i, My.passT, My.passF, My.pb0, My.pbT, My.pbF, My.pb_nil, My.pbc, My.pbbin, My.pbneg, My.pbidx, My.pbcall, My.pbbf, My.pbtup, My.pblst, My.pbsl, My.pbcmp, My.fin_rt, My.fin_nx, My.out0, My.outT, My.outF, My.l2_ok, My.l1_ok, My.q_lenL, My.q_lenT, My.q_lenS, My.q_lenC, My.q_abs, My.q_min, My.q_max, My.q_intb, My.q_inti, My.q_tupT, My.q_tupL, My.q_listT, My.q_listL, My.r_lst, My.n_int, My.ls_tup, My.ls_lst, My.isl, My.ap_ok, My.m_v, My.m_c, My.rv_join, My.mt_joinE, My.for0, My.for1, My.if_f, My.if_t, My.ob, My.om, e1, hf, e2, hc, e3, e4, e5, g1, g2, g3, q1, q3]
      · omega
      · omega
      · omega
      · rw [Int.neg_gcd]; exact co
      · omega
/-! ### the steps -/
def side (a : Int) : Nat := if a < 0 then 108 else 114
def hgt (w c x : Nat) : Nat := if w = 0 then c else c * x / w
def full (s w c : Nat) : Nat → List Nat
  | 0 => reps (hgt w c 0) [117]
  | x + 1 => full s w c x ++ [s] ++ reps (hgt w c (x + 1) - hgt w c x) [117]
def part (s w c : Nat) : Nat → Nat → List Nat
  | 0, y => reps y [117]
  | x + 1, y => full s w c x ++ [s] ++ reps (y - hgt w c x) [117]
theorem hgt_mono (w c x : Nat) : hgt w c x ≤ hgt w c (x + 1) := by
  unfold hgt
  split
  · exact Nat.le_refl _
  · exact Nat.div_le_div_right (Nat.mul_le_mul_left _ (by omega))
theorem hgt_le {w c x : Nat} (h : x ≤ w) : hgt w c x ≤ c := by
  unfold hgt
  split
  · exact Nat.le_refl _
  · refine Nat.div_le_of_le_mul ?_
    rw [Nat.mul_comm w c]
    exact Nat.mul_le_mul_left _ h
theorem hgt_top (w c : Nat) : hgt w c w = c := by
  unfold hgt
  split
  · rfl
  · exact Nat.mul_div_cancel _ (by omega)
theorem full_len (s w c : Nat) : ∀ x, (full s w c x).length = x + hgt w c x
  | 0 => by simp [full, reps_len]
  | x + 1 => by
    have := hgt_mono w c x
    simp only [full, List.length_append, full_len s w c x, reps_len, List.length_cons, List.length_nil]
    omega
theorem part_full (s w c x : Nat) : part s w c x (hgt w c x) = full s w c x := by
  cases x <;> rfl
/-- what is walked so far -/
def On (w c : Nat) (x y : Nat) : Prop := x ≤ w ∧ y ≤ hgt w c x ∧ (∀ x', x = x' + 1 → hgt w c x' ≤ y)
theorem part_up {s w c x y : Nat} (h : On w c x y) : part s w c x (y + 1) = part s w c x y ++ [117] := by
  cases x with
  | zero => exact reps_snoc y [117]
  | succ x =>
    have := h.2.2 x rfl
    simp only [part]
    rw [show y + 1 - hgt w c x = (y - hgt w c x) + 1 by omega, reps_snoc]
    simp
theorem part_on {s w c x : Nat} : part s w c (x + 1) (hgt w c x) = part s w c x (hgt w c x) ++ [s] := by
  rw [part_full]
  simp [part, reps]
theorem test_iff {w c x y : Nat} (h : x ≤ w) : (y < c ∧ (y + 1) * w ≤ c * x) ↔ y + 1 ≤ hgt w c x := by
  have := hgt_le (c := c) h
  unfold hgt at *
  split
  · rename_i h0
    subst h0
    have : x = 0 := by omega
    subst this
    simp
    omega
  · rename_i h0
    rw [if_neg h0] at this
    rw [Nat.le_div_iff_mul_le (by omega)]
    constructor
    · exact fun z => z.2
    · intro z
      refine ⟨?_, z⟩
      have := (Nat.le_div_iff_mul_le (by omega : 0 < w)).mpr z
      omega
def sl1 (p : List Nat) : List D := p.map fun c => .str [c]
theorem sl1_app (p q : List Nat) : sl1 (p ++ q) = sl1 p ++ sl1 q := List.map_append
theorem part_len {s w c x y : Nat} (h : On w c x y) : (part s w c x y).length ≤ w + c := by
  have h1 := hgt_le (c := c) h.1
  have h2 := h.1
  have h3 := h.2.1
  cases x with
  | zero => simp [part, reps_len]; omega
  | succ x =>
    have := h.2.2 x rfl
    simp only [part, List.length_append, full_len, reps_len, List.length_cons, List.length_nil]
    omega
theorem steps_loop (C : Call) (dA dB : D) {s w c : Nat} (hw : w < 25) (hc : c < 25) : ∀ (n x y : Nat), (w - x) + (c - y) ≤ n → On w c x y →
    wh (evC C (.or (.cmp .lt (.v 4) (.v 2)) (.cmp .lt (.v 5) (.v 3)))) (exs C (.cons (.ife (.and (.cmp .lt (.v 5) (.v 3)) (.cmp .le (.bin .mul (.bin .add (.v 5) (.c (.int 1))) (.v 2)) (.bin .mul (.v 3) (.v 4)))) (.cons (.app 6 (.c (.str [117])))
  (.cons (.set (.n 5) (.bin .add (.v 5) (.c (.int 1))))
  .nil)) (.cons (.app 6 (.v 1))
  (.cons (.set (.n 4) (.bin .add (.v 4) (.c (.int 1))))
  .nil)))
  .nil)) [dA, .str [s], .int w, .int c, .int x, .int y, .lst true (sl1 (part s w c x y))] = .ok (.nx [dA, .str [s], .int w, .int c, .int w, .int c, .lst true (sl1 (full s w c w))]) := by
  intro n
  induction n with
  | zero =>
    intro x y hn h
    have e1 : x = w := by have := h.1; omega
    subst e1
    have e2 : y = c := by have := h.2.1; rw [hgt_top] at this; omega
    subst e2
    rw [wh_eq]
    have f1 : ¬ (x : Int) < x := by omega
    have f2 : ¬ (y : Int) < y := by omega
    simp -implicitDefEqProofs only [Int.reduceEq, Int.reduceNe, Int.reduceLT, Int.reduceLE, Int.reduceNeg, ne_eq, not_false_eq_true, not_true_eq_false, ↓reduceIte, Bool.false_eq_true, if_true, if_false, opt_some, opt_none, R.bind_ok, R.bind_exc, R.bind_bad, R.nx_nx, R.nx_rt, R.nx_exc, R.nx_bad, List.replicate, List.cons_append, List.nil_append, Nat.add_one_sub_one, Nat.reduceSub, Bool.not_true, Bool.not_false, decide_true, decide_false, two, My.s_c, My.s_v, My.s_bin, My.s_neg, My.s_cmp, My.s_and, My.s_or, My.s_not, My.s_tup, My.s_lst, My.s_idx, My.s_sl, My.s_rev, My.s_call, My.s_bf, My.s_meth, My.s_es0, My.s_es1, My.s_x0, My.s_x1, My.s_p0, My.s_p1, My.s_a0, My.s_av, My.s_ac, My.s_abin, My.s_aneg, My.s_aidx, My.s_acall, My.s_abf, My.s_atup, My.s_alst, My.s_asl, My.s_acmp, My.s_t0, My.s_t1, My.s_i0, My.s_i1, My.s_it, My.s_r1, My.s_r2, My.s_test, My.l_v, My.l_c, My.l_bin, My.l_neg, My.l_cmp, My.l_and, My.l_or, My.l_not, My.l_tup, My.l_lst, My.l_idx, My.l_sl, My.l_rev, My.l_call, My.l_bf, My.l_meth, My.l_comp, My.s_2, My.s_1, My.x0, My.x1, My.x_set, My.x_setT, My.x_par, My.x_sub, My.x_app, My.x_expr, My.x_retv, My.x_retc, My.x_rettup, My.x_retlst, My.x_retbin, My.x_retcmp, My.x_retand, My.x_retor, My.x_retnot, My.x_retidx, My.x_retsl, My.x_retcall, My.x_retbf, My.x_retmeth, My.x_retcomp, My.x_retN, My.x_if, My.x_whl, My.x_for, My.x_pass, My.b_add, My.b_sub, My.b_mulL, My.b_mulR, My.b_fdiv, My.b_mod, My.b_pow, My.b_addS, My.b_mulS, My.b_addT, My.b_addL, My.c_lt, My.c_le, My.c_gt, My.c_ge, My.c_eq, My.c_ne, My.c_eqS, My.c_neS, My.i_tup, My.i_lst, My.i_scr, My.i_str, My.a0, My.a1, My.a2, My.a3, My.sub0, My.sub1, My.f_int, My.f_bl, My.f_str, My.f_tup, My.f_lst, My.f_non, My.f_scr, My.f_und, My.u_int, My.u_bl, My.u_str, My.u_tup, My.u_lst, My.u_non, My.u_scr, My.u_und, My.g0, My.g1, My.t0, My.t1, My.as_n, My.as_nil, My.as_cons, My.par0, My.par1, My.as_b, My.as_i, My.passT, My.passF, My.pb0, My.pbT, My.pbF, My.pb_nil, My.pbc, My.pbbin, My.pbneg, My.pbidx, My.pbcall, My.pbbf, My.pbtup, My.pblst, My.pbsl, My.pbcmp, My.fin_rt, My.fin_nx, My.out0, My.outT, My.outF, My.l2_ok, My.l1_ok, My.q_lenL, My.q_lenT, My.q_lenS, My.q_lenC, My.q_abs, My.q_min, My.q_max, My.q_intb, My.q_inti, My.q_tupT, My.q_tupL, My.q_listT, My.q_listL, My.r_lst, My.n_int, My.ls_tup, My.ls_lst, My.isl, My.ap_ok, My.m_v, My.m_c, My.rv_join, My.mt_joinE, My.for0, My.for1, My.if_f, My.if_t, My.ob, My.om, decide_eq_false f1, decide_eq_false f2]
    have := part_full s x y x
    rw [hgt_top] at this
    rw [this]
  | succ n ih =>
    intro x y hn h
    have pl := part_len (s := s) h
    have sz : (sl1 (part s w c x y)).length < SZ := by
      show _ < 1000000
      rw [sl1, List.length_map]
      omega
    by_cases hend : x = w ∧ y = c
    · exact (fun z => by
        obtain ⟨rfl, rfl⟩ := z
        rw [wh_eq]
        have f1 : ¬ (x : Int) < x := by omega
        have f2 : ¬ (y : Int) < y := by omega
        simp -implicitDefEqProofs only [Int.reduceEq, Int.reduceNe, Int.reduceLT, Int.reduceLE, Int.reduceNeg, ne_eq, not_false_eq_true, not_true_eq_false, ↓reduceIte, Bool.false_eq_true, if_true, if_false, opt_some, opt_none, R.bind_ok, R.bind_exc, R.bind_bad, R.nx_nx, R.nx_rt, R.nx_exc, R.nx_bad, List.replicate, List.cons_append, List.nil_append, Nat.add_one_sub_one, Nat.reduceSub, Bool.not_true, Bool.not_false, decide_true, decide_false, two, My.s_c, My.s_v, My.s_bin, My.s_neg, My.s_cmp, My.s_and, My.s_or, My.s_not, My.s_tup, My.s_lst, My.s_idx, My.s_sl, My.s_rev, My.s_call, My.s_bf, My.s_meth, My.s_es0, My.s_es1, My.s_x0, My.s_x1, My.s_p0, My.s_p1, My.s_a0, My.s_av, My.s_ac, My.s_abin, My.s_aneg, My.s_aidx, My.s_acall, My.s_abf, My.s_atup, My.s_alst, My.s_asl, My.s_acmp, My.s_t0, My.s_t1, My.s_i0, My.s_i1, My.s_it, My.s_r1, My.s_r2, My.s_test, My.l_v, My.l_c, My.l_bin, My.l_neg, My.l_cmp, My.l_and, My.l_or, My.l_not, My.l_tup, My.l_lst, My.l_idx, My.l_sl, My.l_rev, My.l_call, My.l_bf, My.l_meth, My.l_comp, My.s_2, My.s_1, My.x0, My.x1, My.x_set, My.x_setT, My.x_par, My.x_sub, My.x_app, My.x_expr, My.x_retv, My.x_retc, My.x_rettup, My.x_retlst, My.x_retbin, My.x_retcmp, My.x_retand, My.x_retor, My.x_retnot, My.x_retidx, My.x_retsl, My.x_retcall, My.x_retbf, My.x_retmeth, My.x_retcomp, My.x_retN, My.x_if, My.x_whl, My.x_for, My.x_pass, My.b_add, My.b_sub, My.b_mulL, My.b_mulR, My.b_fdiv, My.b_mod, My.b_pow, My.b_addS, My.b_mulS, My.b_addT, My.b_addL, My.c_lt, My.c_le, My.c_gt, My.c_ge, My.c_eq, My.c_ne, My.c_eqS, My.c_neS, My.i_tup, My.i_lst, My.i_scr, My.i_str, My.a0, My.a1, My.a2, My.a3, My.sub0, My.sub1, My.f_int, My.f_bl, My.f_str, My.f_tup, My.f_lst, My.f_non, My.f_scr, My.f_und, My.u_int, My.u_bl, My.u_str, My.u_tup, My.u_lst, My.u_non, My.u_scr, My.u_und, My.g0, My.g1, My.t0, My.t1, My.as_n, My.as_nil, My.as_cons, My.par0, My.par1, My.as_b, My.as_i, My.passT, My.passF, My.pb0, My.pbT, My.pbF, My.pb_nil, My.pbc, My.pbbin, My.pbneg, My.pbidx, My.pbcall, My.pbbf, My.pbtup, My.pblst, My.pbsl, My.pbcmp, My.fin_rt, My.fin_nx, My.out0, My.outT, My.outF, My.l2_ok, My.l1_ok, My.q_lenL, My.q_lenT, My.q_lenS, My.q_lenC, My.q_abs, My.q_min, My.q_max, My.q_intb, My.q_inti, My.q_tupT, My.q_tupL, My.q_listT, My.q_listL, My.r_lst, My.n_int, My.ls_tup, My.ls_lst, My.isl, My.ap_ok, My.m_v, My.m_c, My.rv_join, My.mt_joinE, My.for0, My.for1, My.if_f, My.if_t, My.ob, My.om, decide_eq_false f1, decide_eq_false f2]
        have := part_full s x y x
        rw [hgt_top] at this
        rw [this]) hend
    · have m1 : -18446744073709551616 < (w : Int) := by omega
      have m2 : (w : Int) < 18446744073709551616 := by omega
      have m3 : -18446744073709551616 < (c : Int) := by omega
      have m4 : (c : Int) < 18446744073709551616 := by omega
      have eY : (((y : Int) + 1) * w ≤ c * x) ↔ ((y + 1) * w ≤ c * x) := by
        rw [show ((y : Int) + 1) * w = (((y + 1) * w : Nat) : Int) by simp, show (c : Int) * x = ((c * x : Nat) : Int) by simp]
        exact Int.ofNat_le
      have hx := h.1
      by_cases hup : y < c ∧ (y + 1) * w ≤ c * x
      · have hh := (test_iff hx).mp hup
        have t1 : (y : Int) < c := by omega
        have t2 := eY.mpr hup.2
        have := ih x (y + 1) (by omega) ⟨hx, hh, fun x' e => Nat.le_succ_of_le (h.2.2 x' e)⟩
        rw [part_up h, sl1_app] at this
        rw [wh_eq]
        by_cases f1 : (x : Int) < w
        · simp -implicitDefEqProofs only [Int.reduceEq, Int.reduceNe, Int.reduceLT, Int.reduceLE, Int.reduceNeg, ne_eq, not_false_eq_true, not_true_eq_false, ↓reduceIte, Bool.false_eq_true, if_true, if_false, opt_some, opt_none, R.bind_ok, R.bind_exc, R.bind_bad, R.nx_nx, R.nx_rt, R.nx_exc, R.nx_bad, List.replicate, List.cons_append, List.nil_append, Nat.add_one_sub_one, Nat.reduceSub, Bool.not_true, Bool.not_false, decide_true, decide_false, two, My.s_c, My.s_v, My.s_bin, My.s_neg, My.s_cmp, My.s_and, My.s_or, My.s_not, My.s_tup, My.s_lst, My.s_idx, My.s_sl, My.s_rev, My.s_call, My.s_bf, My.s_meth, My.s_es0, My.s_es1, My.s_x0, My.s_x1, My.s_p0, My.s_p1, My.s_a0, My.s_av, My.s_ac, My.s_abin, My.s_aneg, My.s_aidx, My.s_acall, My.s_abf, My.s_atup, My.s_alst, My.s_asl, My.s_acmp, My.s_t0, My.s_t1, My.s_i0, My.s_i1, My.s_it, My.s_r1, My.s_r2, My.s_test, My.l_v, My.l_c, My.l_bin, My.l_neg, My.l_cmp, My.l_and, My.l_or, My.l_not, My.l_tup, My.l_lst, My.l_idx, My.l_sl, My.l_rev, My.l_call, My.l_bf, My.l_meth, My.l_comp, My.s_2, My.s_1, My.x0, My.x1, My.x_set, My.x_setT, My.x_par, My.x_sub, My.x_app, My.x_expr, My.x_retv, My.x_retc, My.x_rettup, My.x_retlst, My.x_retbin, My.x_retcmp, My.x_retand, My.x_retor, My.x_retnot, My.x_retidx, My.x_retsl, My.x_retcall, My.x_retbf, My.x_retmeth, My.x_retcomp, My.x_retN, My.x_if, My.x_whl, My.x_for, My.x_pass, My.b_add, My.b_sub, My.b_mulL, My.b_mulR, My.b_fdiv, My.b_mod, My.b_pow, My.b_addS, My.b_mulS, My.b_addT, My.b_addL, My.c_lt, My.c_le, My.c_gt, My.c_ge, My.c_eq, My.c_ne, My.c_eqS, My.c_neS, My.i_tup, My.i_lst, My.i_scr, My.i_str, My.a0, My.a1, My.a2, My.a3, My.sub0, My.sub1, My.f_int, My.f_bl, My.f_str, My.f_tup, My.f_lst, My.f_non, My.f_scr, My.f_und, My.u_int, My.u_bl, My.u_str, My.u_tup, My.u_lst, My.u_non, My.u_scr, My.u_und, My.g0, My.g1, My.t0, My.t1, My.as_n, My.as_nil, My.as_cons, My.par0, My.par1, My.as_b, My.as_i, My.passT, My.passF, My.pb0, My.pbT, My.pbF, My.pb_nil, My.pbc, My.pbbin, My.pbneg, My.pbidx, My.pbcall, My.pbbf, My.pbtup, My.pblst, My.pbsl, My.pbcmp, My.fin_rt, My.fin_nx, My.out0, My.outT, My.outF, My.l2_ok, My.l1_ok, My.q_lenL, My.q_lenT, My.q_lenS, My.q_lenC, My.q_abs, My.q_min, My.q_max, My.q_intb, My.q_inti, My.q_tupT, My.q_tupL, My.q_listT, My.q_listL, My.r_lst, My.n_int, My.ls_tup, My.ls_lst, My.isl, My.ap_ok, My.m_v, My.m_c, My.rv_join, My.mt_joinE, My.for0, My.for1, My.if_f, My.if_t, My.ob, My.om, decide_eq_true f1, decide_eq_true t1, decide_eq_true t2, m1, m2, m3, m4, if_pos sz]
          exact this
        · simp -implicitDefEqProofs only [Int.reduceEq, Int.reduceNe, Int.reduceLT, Int.reduceLE, Int.reduceNeg, ne_eq, not_false_eq_true, not_true_eq_false, ↓reduceIte, Bool.false_eq_true, if_true, if_false, opt_some, opt_none, R.bind_ok, R.bind_exc, R.bind_bad, R.nx_nx, R.nx_rt, R.nx_exc, R.nx_bad, List.replicate, List.cons_append, List.nil_append, Nat.add_one_sub_one, Nat.reduceSub, Bool.not_true, Bool.not_false, decide_true, decide_false, two, My.s_c, My.s_v, My.s_bin, My.s_neg, My.s_cmp, My.s_and, My.s_or, My.s_not, My.s_tup, My.s_lst, My.s_idx, My.s_sl, My.s_rev, My.s_call, My.s_bf, My.s_meth, My.s_es0, My.s_es1, My.s_x0, My.s_x1, My.s_p0, My.s_p1, My.s_a0, My.s_av, My.s_ac, My.s_abin, My.s_aneg, My.s_aidx, My.s_acall, My.s_abf, My.s_atup, My.s_alst, My.s_asl, My.s_acmp, My.s_t0, My.s_t1, My.s_i0, My.s_i1, My.s_it, My.s_r1, My.s_r2, My.s_test, My.l_v, My.l_c, My.l_bin, My.l_neg, My.l_cmp, My.l_and, My.l_or, My.l_not, My.l_tup, My.l_lst, My.l_idx, My.l_sl, My.l_rev, My.l_call, My.l_bf, My.l_meth, My.l_comp, My.s_2, My.s_1, My.x0, My.x1, My.x_set, My.x_setT, My.x_par, My.x_sub, My.x_app, My.x_expr, My.x_retv, My.x_retc, My.x_rettup, My.x_retlst, My.x_retbin, My.x_retcmp, My.x_retand, My.x_retor, My.x_retnot, My.x_retidx, My.x_retsl, My.x_retcall, My.x_retbf, My.x_retmeth, My.x_retcomp, My.x_retN, My.x_if, My.x_whl, My.x_for, My.x_pass, My.b_add, My.b_sub, My.b_mulL, My.b_mulR, My.b_fdiv, My.b_mod, My.b_pow, My.b_addS, My.b_mulS, My.b_addT, My.b_addL, My.c_lt, My.c_le, My.c_gt, My.c_ge, My.c_eq, My.c_ne, My.c_eqS, My.c_neS, My.i_tup, My.i_lst, My.i_scr, My.i_str, My.a0, My.a1, My.a2, My.a3, My.sub0, My.sub1, My.f_int, My.f_bl, My.f_str, My.f_tup, My.f_lst, My.f_non, My.f_scr, My.f_und, My.u_int, My.u_bl, My.u_str, My.u_tup, My.u_lst, My.u_non, My.u_scr, My.u_und, My.g0, My.g1, My.t0, My.t1, My.as_n, My.as_nil, My.as_cons, My.par0, My.par1, My.as_b, My.as_i, My.passT, My.passF, My.pb0, My.pbT, My.pbF, My.pb_nil, My.pbc, My.pbbin, My.pbneg, My.pbidx, My.pbcall, My.pbbf, My.pbtup, My.pblst, My.pbsl, My.pbcmp, My.fin_rt, My.fin_nx, My.out0, My.outT, My.outF, My.l2_ok, My.l1_ok, My.q_lenL, My.q_lenT, My.q_lenS, My.q_lenC, My.q_abs, My.q_min, My.q_max, My.q_intb, My.q_inti, My.q_tupT, My.q_tupL, My.q_listT, My.q_listL, My.r_lst, My.n_int, My.ls_tup, My.ls_lst, My.isl, My.ap_ok, My.m_v, My.m_c, My.rv_join, My.mt_joinE, My.for0, My.for1, My.if_f, My.if_t, My.ob, My.om, decide_eq_false f1, decide_eq_true t1, decide_eq_true t2, m1, m2, m3, m4, if_pos sz]
          exact this
      · have hh : ¬ (y + 1 ≤ hgt w c x) := fun z => hup ((test_iff hx).mpr z)
        have ey : y = hgt w c x := by have := h.2.1; omega
        have hxw : x < w := by
          refine Nat.lt_of_le_of_ne hx fun e => hend ⟨e, ?_⟩
          rw [e, hgt_top] at ey
          exact ey
        have f1 : (x : Int) < w := by omega
        have := ih (x + 1) y (by omega) ⟨by omega, by have := hgt_mono w c x; omega, fun x' e => by
          have : x' = x := by omega
          subst this
          omega⟩
        rw [ey, part_on, sl1_app, ← ey] at this
        rw [wh_eq]
        by_cases t1 : (y : Int) < c
        · have t2 : ¬ ((y : Int) + 1) * w ≤ c * x := fun z => hup ⟨by omega, eY.mp z⟩
          simp -implicitDefEqProofs only [Int.reduceEq, Int.reduceNe, Int.reduceLT, Int.reduceLE, Int.reduceNeg, ne_eq, not_false_eq_true, not_true_eq_false, ↓reduceIte, Bool.false_eq_true, if_true, if_false, opt_some, opt_none, R.bind_ok, R.bind_exc, R.bind_bad, R.nx_nx, R.nx_rt, R.nx_exc, R.nx_bad, List.replicate, List.cons_append, List.nil_append, Nat.add_one_sub_one, Nat.reduceSub, Bool.not_true, Bool.not_false, decide_true, decide_false, two, My.s_c, My.s_v, My.s_bin, My.s_neg, My.s_cmp, My.s_and, My.s_or, My.s_not, My.s_tup, My.s_lst, My.s_idx, My.s_sl, My.s_rev, My.s_call, My.s_bf, My.s_meth, My.s_es0, My.s_es1, My.s_x0, My.s_x1, My.s_p0, My.s_p1, My.s_a0, My.s_av, My.s_ac, My.s_abin, My.s_aneg, My.s_aidx, My.s_acall, My.s_abf, My.s_atup, My.s_alst, My.s_asl, My.s_acmp, My.s_t0, My.s_t1, My.s_i0, My.s_i1, My.s_it, My.s_r1, My.s_r2, My.s_test, My.l_v, My.l_c, My.l_bin, My.l_neg, My.l_cmp, My.l_and, My.l_or, My.l_not, My.l_tup, My.l_lst, My.l_idx, My.l_sl, My.l_rev, My.l_call, My.l_bf, My.l_meth, My.l_comp, My.s_2, My.s_1, My.x0, My.x1, My.x_set, My.x_setT, My.x_par, My.x_sub, My.x_app, My.x_expr, My.x_retv, My.x_retc, My.x_rettup, My.x_retlst, My.x_retbin, My.x_retcmp, My.x_retand, My.x_retor, My.x_retnot, My.x_retidx, My.x_retsl, My.x_retcall, My.x_retbf, My.x_retmeth, My.x_retcomp, My.x_retN, My.x_if, My.x_whl, My.x_for, My.x_pass, My.b_add, My.b_sub, My.b_mulL, My.b_mulR, My.b_fdiv, My.b_mod, My.b_pow, My.b_addS, My.b_mulS, My.b_addT, My.b_addL, My.c_lt, My.c_le, My.c_gt, My.c_ge, My.c_eq, My.c_ne, My.c_eqS, My.c_neS, My.i_tup, My.i_lst, My.i_scr, My.i_str, My.a0, My.a1, My.a2, My.a3, My.sub0, My.sub1, My.f_int, My.f_bl, My.f_str, My.f_tup, My.f_lst, My.f_non, My.f_scr, My.f_und, My.u_int, My.u_bl, My.u_str, My.u_tup, My.u_lst, My.u_non, My.u_scr, My.u_und, My.g0, My.g1, My.t0, My.t1, My.as_n, My.as_nil, My.as_cons, My.par0, My.par1, My.as_b, My.as_i, My.passT, My.passF, My.pb0, My.pbT, My.pbF, My.pb_nil, My.pbc, My.pbbin, My.pbneg, My.pbidx, My.pbcall, My.pbbf, My.pbtup, My.pblst, My.pbsl, My.pbcmp, My.fin_rt, My.fin_nx, My.out0, My.outT, My.outF, My.l2_ok, My.l1_ok, My.q_lenL, My.q_lenT, My.q_lenS, My.q_lenC, My.q_abs, My.q_min, My.q_max, My.q_intb, My.q_inti, My.q_tupT, My.q_tupL, My.q_listT, My.q_listL, My.r_lst, My.n_int, My.ls_tup, My.ls_lst, My.isl, My.ap_ok, My.m_v, My.m_c, My.rv_join, My.mt_joinE, My.for0, My.for1, My.if_f, My.if_t, My.ob, My.om, decide_eq_true f1, decide_eq_true t1, decide_eq_false t2, m1, m2, m3, m4, if_pos sz]
          exact this
        · simp -implicitDefEqProofs only [Int.reduceEq, Int.reduceNe, Int.reduceLT, Int.reduceLE, Int.reduceNeg, ne_eq, not_false_eq_true, not_true_eq_false, ↓reduceIte, Bool.false_eq_true, if_true, if_false, opt_some, opt_none, R.bind_ok, R.bind_exc, R.bind_bad, R.nx_nx, R.nx_rt, R.nx_exc, R.nx_bad, List.replicate, List.cons_append, List.nil_append, Nat.add_one_sub_one, Nat.reduceSub, Bool.not_true, Bool.not_false, decide_true, decide_false, two, My.s_c, My.s_v, My.s_bin, My.s_neg, My.s_cmp, My.s_and, My.s_or, My.s_not, My.s_tup, My.s_lst, My.s_idx, My.s_sl, My.s_rev, My.s_call, My.s_bf, My.s_meth, My.s_es0, My.s_es1, My.s_x0, My.s_x1, My.s_p0, My.s_p1, My.s_a0, My.s_av, My.s_ac, My.s_abin, My.s_aneg, My.s_aidx, My.s_acall, My.s_abf, My.s_atup, My.s_alst, My.s_asl, My.s_acmp, My.s_t0, My.s_t1, My.s_i0, My.s_i1, My.s_it, My.s_r1, My.s_r2, My.s_test, My.l_v, My.l_c, My.l_bin, My.l_neg, My.l_cmp, My.l_and, My.l_or, My.l_not, My.l_tup, My.l_lst, My.l_idx, My.l_sl, My.l_rev, My.l_call, My.l_bf, My.l_meth, My.l_comp, My.s_2, My.s_1, My.x0, My.x1, My.x_set, My.x_setT, My.x_par, My.x_sub, My.x_app, My.x_expr, My.x_retv, My.x_retc, My.x_rettup, My.x_retlst, My.x_retbin, My.x_retcmp, My.x_retand, My.x_retor, My.x_retnot, My.x_retidx, My.x_retsl, My.x_retcall, My.x_retbf, My.x_retmeth, My.x_retcomp, My.x_retN, My.x_if, My.x_whl, My.x_for, My.x_pass, My.b_add, My.b_sub, My.b_mulL, My.b_mulR, My.b_fdiv, My.b_mod, My.b_pow, My.b_addS, My.b_mulS, My.b_addT, My.b_addL, My.c_lt, My.c_le, My.c_gt, My.c_ge, My.c_eq, My.c_ne, My.c_eqS, My.c_neS, My.i_tup, My.i_lst, My.i_scr, My.i_str, My.a0, My.a1, My.a2, My.a3, My.sub0, My.sub1, My.f_int, My.f_bl, My.f_str, My.f_tup, My.f_lst, My.f_non, My.f_scr, My.f_und, My.u_int, My.u_bl, My.u_str, My.u_tup, My.u_lst, My.u_non, My.u_scr, My.u_und, My.g0, My.g1, My.t0, My.t1, My.as_n, My.as_nil, My.as_cons, My.par0, My.par1, My.as_b, My.as_i, My.passT, My.passF, My.pb0, My.pbT, My.pbF, My.pb_nil, My.pbc, My.pbbin, My.pbneg, My.pbidx, My.pbcall, My.pbbf, My.pbtup, My.pblst, My.pbsl, My.pbcmp, My.fin_rt, My.fin_nx, My.out0, My.outT, My.outF, My.l2_ok, My.l1_ok, My.q_lenL, My.q_lenT, My.q_lenS, My.q_lenC, My.q_abs, My.q_min, My.q_max, My.q_intb, My.q_inti, My.q_tupT, My.q_tupL, My.q_listT, My.q_listL, My.r_lst, My.n_int, My.ls_tup, My.ls_lst, My.isl, My.ap_ok, My.m_v, My.m_c, My.rv_join, My.mt_joinE, My.for0, My.for1, My.if_f, My.if_t, My.ob, My.om, decide_eq_true f1, decide_eq_false t1, if_pos sz]
          exact this
theorem sl1_strs (p : List Nat) : strsD (sl1 p) = some (p.map fun c => [c]) := by
  unfold sl1
  rw [← strs_map, List.map_map]
  rfl
theorem flat1 (p : List Nat) : (p.map fun c => [c]).flatten = p := by
  induction p with
  | nil => rfl
  | cons a p ih => rw [List.map_cons, List.flatten_cons, ih]; rfl
theorem steps_ok (k : Nat) {a : Int} {c : Nat} (h : Good a c) : callF PG (k + 3) f_slope_steps [.tup [.int a, .int c]] = .ok (.str (full (side a) a.natAbs c a.natAbs), [.und]) := by
  obtain ⟨r, er⟩ := table_ok k h
  obtain ⟨h1, h2, h3, h4, h5⟩ := h
  rw [call_eq (P := PG) (f := f_slope_steps) (b := b_slope_steps) (np := 1) (nl := 7) (io := [false]) rfl rfl]
  have ew : (if a < 0 then -a else a) = ((a.natAbs : Nat) : Int) := by split <;> omega
  have hs : (at? [D.str [114], D.str [108]] (if decide (a < 0) = true then 1 else 0)) = some (.str [side a]) := by
    unfold side
    by_cases h : a < 0
    · rw [decide_eq_true h, if_pos h]; rfl
    · rw [decide_eq_false h, if_neg h]; rfl
  have hl := steps_loop (callF PG (k + 2)) (.tup [.int a, .int c]) .und (s := side a) (w := a.natAbs) (c := c) (by omega) h3 _ 0 0 (Nat.le_refl _) ⟨Nat.zero_le _, Nat.zero_le _, fun _ z => by cases z⟩
  have hj : mtop .join [.str [], .lst false (sl1 (full (side a) a.natAbs c a.natAbs))] = some (.str (full (side a) a.natAbs c a.natAbs)) := by
    rw [mt_joinE, sl1_strs]
    show sized _ _ = _
    rw [joinS_nil, flat1, sized_ok]
    rw [full_len, hgt_top]
    simp
    omega
  have e0 : sl1 (part (side a) a.natAbs c 0 0) = [] := rfl
  rw [e0] at hl
  simp -implicitDefEqProofs only [b_slope_steps, Int.reduceEq, Int.reduceNe, Int.reduceLT, Int.reduceLE, Int.reduceNeg, ne_eq, not_false_eq_true, not_true_eq_false, ↓reduceIte, Bool.false_eq_true, if_true, if_false, opt_some, opt_none, R.bind_ok, R.bind_exc, R.bind_bad, R.nx_nx, R.nx_rt, R.nx_exc, R.nx_bad, List.replicate, List.cons_append, List.nil_append, Nat.add_one_sub_one, Nat.reduceSub, Bool.not_true, Bool.not_false, decide_true, decide_false, two, My.s_c, My.s_v, My.s_bin, My.s_neg, My.s_cmp, My.s_and, My.s_or, My.s_not, My.s_tup, My.s_lst, My.s_idx, My.s_sl, My.s_rev, My.s_call, My.s_bf, My.s_meth, My.s_es0, My.s_es1, My.s_x0, My.s_x1, My.s_p0, My.s_p1, My.s_a0, My.s_av, My.s_ac, My.s_abin, My.s_aneg, My.s_aidx, My.s_acall, My.s_abf, My.s_atup, My.s_alst, My.s_asl, My.s_acmp, My.s_t0, My.s_t1, My.s_i0, My.s_i1, My.s_it, My.s_r1, My.s_r2, My.s_test, My.l_v, My.l_c, My.l_bin, My.l_neg, My.l_cmp, My.l_and, My.l_or, My.l_not, My.l_tup, My.l_lst, My.l_idx, My.l_sl, My.l_rev, My.l_call, My.l_bf, My.l_meth, My.l_comp, My.s_2, My.s_1, My.x0, My.x1, My.x_set, My.x_setT, My.x_par, My.x_sub, My.x_app, My.x_expr, My.x_retv, My.x_retc, My.x_rettup, My.x_retlst, My.x_retbin, My.x_retcmp, My.x_retand, My.x_retor, My.x_retnot, My.x_retidx, My.x_retsl, My.x_retcall, My.x_retbf, My.x_retmeth, My.x_retcomp, My.x_retN, My.x_if, My.x_whl, My.x_for, My.x_pass, My.b_add, My.b_sub, My.b_mulL, My.b_mulR, My.b_fdiv, My.b_mod, My.b_pow, My.b_addS, My.b_mulS, My.b_addT, My.b_addL, My.c_lt, My.c_le, My.c_gt, My.c_ge, My.c_eq, My.c_ne, My.c_eqS, My.c_neS, My.i_tup, My.i_lst, My.i_scr, My.i_str, My.a0, My.a1, My.a2, My.a3, My.sub0, My.sub1, My.f_int, My.f_bl, My.f_str, My.f_tup, My.f_lst, My.f_non, My.f_scr, My.f_und, My.u_int, My.u_bl, My.u_str, My.u_tup, My.u_lst, My.u_non, My.u_scr, My.u_und, My.g0, My.g1, My.t0, My.t1, My.as_n, My.as_nil, My.as_cons, My.par0, My.par1, My.as_b, My.as_i, My.passT, My.passF, My.pb0, My.pbT, My.pbF, My.pb_nil, My.pbc, My.pbbin, My.pbneg, My.pbidx, My.pbcall, My.pbbf, My.pbtup, My.pblst, My.pbsl, My.pbcmp, My.fin_rt, My.fin_nx, My.out0, My.outT, My.outF, My.l2_ok, My.l1_ok, My.q_lenL, My.q_lenT, My.q_lenS, My.q_lenC, My.q_abs, My.q_min, My.q_max, My.q_intb, My.q_inti, My.q_tupT, My.q_tupL, My.q_listT, My.q_listL, My.r_lst, My.n_int, My.ls_tup, My.ls_lst, My.isl, My.ap_ok, My.m_v, My.m_c, My.rv_join, My.mt_joinE, My.for0, My.for1, My.if_f, My.if_t, My.ob, My.om, er, ew, hs]
  simp only [Int.natCast_zero] at hl
  rw [hl]
  simp -implicitDefEqProofs only [Int.reduceEq, Int.reduceNe, Int.reduceLT, Int.reduceLE, Int.reduceNeg, ne_eq, not_false_eq_true, not_true_eq_false, ↓reduceIte, Bool.false_eq_true, if_true, if_false, opt_some, opt_none, R.bind_ok, R.bind_exc, R.bind_bad, R.nx_nx, R.nx_rt, R.nx_exc, R.nx_bad, List.replicate, List.cons_append, List.nil_append, Nat.add_one_sub_one, Nat.reduceSub, Bool.not_true, Bool.not_false, decide_true, decide_false, two, My.s_c, My.s_v, My.s_bin, My.s_neg, My.s_cmp, My.s_and, My.s_or, My.s_not, My.s_tup, My.s_lst, My.s_idx, My.s_sl, My.s_rev, My.s_call, My.s_bf, My.s_meth, My.s_es0, My.s_es1, My.s_x0, My.s_x1, My.s_p0, My.s_p1, My.s_a0, My.s_av, My.s_ac, My.s_abin, My.s_aneg, My.s_aidx, My.s_acall, My.s_abf, My.s_atup, My.s_alst, My.s_asl, My.s_acmp, My.s_t0, My.s_t1, My.s_i0, My.s_i1, My.s_it, My.s_r1, My.s_r2, My.s_test, My.l_v, My.l_c, My.l_bin, My.l_neg, My.l_cmp, My.l_and, My.l_or, My.l_not, My.l_tup, My.l_lst, My.l_idx, My.l_sl, My.l_rev, My.l_call, My.l_bf, My.l_meth, My.l_comp, My.s_2, My.s_1, My.x0, My.x1, My.x_set, My.x_setT, My.x_par, My.x_sub, My.x_app, My.x_expr, My.x_retv, My.x_retc, My.x_rettup, My.x_retlst, My.x_retbin, My.x_retcmp, My.x_retand, My.x_retor, My.x_retnot, My.x_retidx, My.x_retsl, My.x_retcall, My.x_retbf, My.x_retmeth, My.x_retcomp, My.x_retN, My.x_if, My.x_whl, My.x_for, My.x_pass, My.b_add, My.b_sub, My.b_mulL, My.b_mulR, My.b_fdiv, My.b_mod, My.b_pow, My.b_addS, My.b_mulS, My.b_addT, My.b_addL, My.c_lt, My.c_le, My.c_gt, My.c_ge, My.c_eq, My.c_ne, My.c_eqS, My.c_neS, My.i_tup, My.i_lst, My.i_scr, My.i_str, My.a0, My.a1, My.a2, My.a3, My.sub0, My.sub1, My.f_int, My.f_bl, My.f_str, My.f_tup, My.f_lst, My.f_non, My.f_scr, My.f_und, My.u_int, My.u_bl, My.u_str, My.u_tup, My.u_lst, My.u_non, My.u_scr, My.u_und, My.g0, My.g1, My.t0, My.t1, My.as_n, My.as_nil, My.as_cons, My.par0, My.par1, My.as_b, My.as_i, My.passT, My.passF, My.pb0, My.pbT, My.pbF, My.pb_nil, My.pbc, My.pbbin, My.pbneg, My.pbidx, My.pbcall, My.pbbf, My.pbtup, My.pblst, My.pbsl, My.pbcmp, My.fin_rt, My.fin_nx, My.out0, My.outT, My.outF, My.l2_ok, My.l1_ok, My.q_lenL, My.q_lenT, My.q_lenS, My.q_lenC, My.q_abs, My.q_min, My.q_max, My.q_intb, My.q_inti, My.q_tupT, My.q_tupL, My.q_listT, My.q_listL, My.r_lst, My.n_int, My.ls_tup, My.ls_lst, My.isl, My.ap_ok, My.m_v, My.m_c, My.rv_join, My.mt_joinE, My.for0, My.for1, My.if_f, My.if_t, My.ob, My.om, hj]
theorem lsteps_loop (C : Call) (d0 : D) {a : Int} {s w c : Nat} (hw : 0 < w) (hw2 : w < 25) (hc : c < 25) : ∀ (n x : Nat) (d2 d7 : D), x + n = w → ∃ e2 e7,
    forL (asgT (.n 2)) (exs C (.cons (.set (.n 7) (.bin .sub (.bin .fdiv (.bin .mul (.v 4) (.v 2)) (.v 1)) (.bin .fdiv (.bin .mul (.v 4) (.bin .sub (.v 2) (.c (.int 1)))) (.v 1))))
  (.cons (.set (.n 5) (.bin .add (.bin .add (.v 5) (.v 6)) (.bin .mul (.c (.str [117])) (.v 7))))
  .nil))) (rangeL ((x : Int) + 1) ((w : Int) + 1)) [d0, .int w, d2, .int a, .int c, .str (full s w c x), .str [s], d7] = .ok (.nx [d0, .int w, e2, .int a, .int c, .str (full s w c w), .str [s], e7]) := by
  intro n
  induction n with
  | zero =>
    intro x d2 d7 h
    have : x = w := by omega
    subst this
    rw [rangeL_nil (by omega)]
    exact ⟨d2, d7, rfl⟩
  | succ n ih =>
    intro x d2 d7 h
    have w1 : (w : Int) ≠ 0 := by omega
    have w2 : -1073741824 < (w : Int) := by omega
    have w3 : (w : Int) < 1073741824 := by omega
    have m3 : -18446744073709551616 < (c : Int) := by omega
    have m4 : (c : Int) < 18446744073709551616 := by omega
    have d1 : ((c : Int) * ((x : Int) + 1)).fdiv w = ((hgt w c (x + 1) : Nat) : Int) := by
      unfold hgt
      rw [if_neg (by omega), Int.fdiv_eq_ediv_of_nonneg _ (by omega), Int.natCast_ediv, Int.natCast_mul]
      rfl
    have d2' : ((c : Int) * ((x : Int) + 1 - 1)).fdiv w = ((hgt w c x : Nat) : Int) := by
      unfold hgt
      rw [if_neg (by omega), Int.fdiv_eq_ediv_of_nonneg _ (by omega), Int.natCast_ediv, Int.natCast_mul, Int.add_sub_cancel]
    have hm := hgt_mono w c x
    have ht := hgt_le (w := w) (c := c) (x := x + 1) (by omega)
    have k1 : -1000000 ≤ ((hgt w c (x + 1) : Nat) : Int) - ((hgt w c x : Nat) : Int) ∧ ((hgt w c (x + 1) : Nat) : Int) - ((hgt w c x : Nat) : Int) ≤ 1000000 := by omega
    have k2 : (((hgt w c (x + 1) : Nat) : Int) - ((hgt w c x : Nat) : Int)).toNat = hgt w c (x + 1) - hgt w c x := by omega
    obtain ⟨e2, e7, e⟩ := ih (x + 1) (.int ((x : Int) + 1)) (.int (((hgt w c (x + 1) : Nat) : Int) - ((hgt w c x : Nat) : Int))) (by omega)
    refine ⟨e2, e7, ?_⟩
    rw [rangeL_cons (by omega)]
    have fl := full_len s w c x
    have z1 : (full s w c x).length + [s].length ≤ 1000000 := by rw [fl]; simp; omega
    have z2 : [117].length * (hgt w c (x + 1) - hgt w c x) ≤ 1000000 := by simp; omega
    have z3 : (full s w c x ++ [s]).length + (reps (hgt w c (x + 1) - hgt w c x) [117]).length ≤ 1000000 := by rw [List.length_append, fl, reps_len]; simp; omega
    have e' : full s w c x ++ [s] ++ reps (hgt w c (x + 1) - hgt w c x) [117] = full s w c (x + 1) := rfl
    have ec : ((x + 1 : Nat) : Int) = (x : Int) + 1 := by omega
    rw [ec] at e
    simp -implicitDefEqProofs only [Int.reduceEq, Int.reduceNe, Int.reduceLT, Int.reduceLE, Int.reduceNeg, ne_eq, not_false_eq_true, not_true_eq_false, ↓reduceIte, Bool.false_eq_true, if_true, if_false, opt_some, opt_none, R.bind_ok, R.bind_exc, R.bind_bad, R.nx_nx, R.nx_rt, R.nx_exc, R.nx_bad, List.replicate, List.cons_append, List.nil_append, Nat.add_one_sub_one, Nat.reduceSub, Bool.not_true, Bool.not_false, decide_true, decide_false, two, My.s_c, My.s_v, My.s_bin, My.s_neg, My.s_cmp, My.s_and, My.s_or, My.s_not, My.s_tup, My.s_lst, My.s_idx, My.s_sl, My.s_rev, My.s_call, My.s_bf, My.s_meth, My.s_es0, My.s_es1, My.s_x0, My.s_x1, My.s_p0, My.s_p1, My.s_a0, My.s_av, My.s_ac, My.s_abin, My.s_aneg, My.s_aidx, My.s_acall, My.s_abf, My.s_atup, My.s_alst, My.s_asl, My.s_acmp, My.s_t0, My.s_t1, My.s_i0, My.s_i1, My.s_it, My.s_r1, My.s_r2, My.s_test, My.l_v, My.l_c, My.l_bin, My.l_neg, My.l_cmp, My.l_and, My.l_or, My.l_not, My.l_tup, My.l_lst, My.l_idx, My.l_sl, My.l_rev, My.l_call, My.l_bf, My.l_meth, My.l_comp, My.s_2, My.s_1, My.x0, My.x1, My.x_set, My.x_setT, My.x_par, My.x_sub, My.x_app, My.x_expr, My.x_retv, My.x_retc, My.x_rettup, My.x_retlst, My.x_retbin, My.x_retcmp, My.x_retand, My.x_retor, My.x_retnot, My.x_retidx, My.x_retsl, My.x_retcall, My.x_retbf, My.x_retmeth, My.x_retcomp, My.x_retN, My.x_if, My.x_whl, My.x_for, My.x_pass, My.b_add, My.b_sub, My.b_mulL, My.b_mulR, My.b_fdiv, My.b_mod, My.b_pow, My.b_addS, My.b_mulS, My.b_addT, My.b_addL, My.c_lt, My.c_le, My.c_gt, My.c_ge, My.c_eq, My.c_ne, My.c_eqS, My.c_neS, My.i_tup, My.i_lst, My.i_scr, My.i_str, My.a0, My.a1, My.a2, My.a3, My.sub0, My.sub1, My.f_int, My.f_bl, My.f_str, My.f_tup, My.f_lst, My.f_non, My.f_scr, My.f_und, My.u_int, My.u_bl, My.u_str, My.u_tup, My.u_lst, My.u_non, My.u_scr, My.u_und, My.g0, My.g1, My.t0, My.t1, My.as_n, My.as_nil, My.as_cons, My.par0, My.par1, My.as_b, My.as_i, My.passT, My.passF, My.pb0, My.pbT, My.pbF, My.pb_nil, My.pbc, My.pbbin, My.pbneg, My.pbidx, My.pbcall, My.pbbf, My.pbtup, My.pblst, My.pbsl, My.pbcmp, My.fin_rt, My.fin_nx, My.out0, My.outT, My.outF, My.l2_ok, My.l1_ok, My.q_lenL, My.q_lenT, My.q_lenS, My.q_lenC, My.q_abs, My.q_min, My.q_max, My.q_intb, My.q_inti, My.q_tupT, My.q_tupL, My.q_listT, My.q_listL, My.r_lst, My.n_int, My.ls_tup, My.ls_lst, My.isl, My.ap_ok, My.m_v, My.m_c, My.rv_join, My.mt_joinE, My.for0, My.for1, My.if_f, My.if_t, My.ob, My.om, w1, w2, w3, m3, m4, d1, d2', k1, k2, if_pos, and_self, sized_ok z1, sized_ok z2, sized_ok z3, e']
    exact e
theorem lsteps_ok (k : Nat) {a : Int} {c : Nat} (h : Good a c) : callF PG (k + 1) f_law_steps [.tup [.int a, .int c]] = .ok (.str (full (side a) a.natAbs c a.natAbs), [.und]) := by
  obtain ⟨h1, h2, h3, h4, h5⟩ := h
  rw [call_eq (P := PG) (f := f_law_steps) (b := b_law_steps) (np := 1) (nl := 8) (io := [false]) rfl rfl]
  have ew : (if 0 - a > a then 0 - a else a) = ((a.natAbs : Nat) : Int) := by split <;> omega
  have hs : ((at? [114, 108] (if decide (a < 0) = true then 1 else 0)).map fun c => D.str [c]) = some (.str [side a]) := by
    unfold side
    by_cases h : a < 0
    · rw [decide_eq_true h, if_pos h]; rfl
    · rw [decide_eq_false h, if_neg h]; rfl
  by_cases h0 : a.natAbs = 0
  · have f0 : (((a.natAbs : Nat) : Int) == 0) = true := by rw [h0]; rfl
    have k1 : -1000000 ≤ (c : Int) ∧ (c : Int) ≤ 1000000 := by omega
    have z2 : [117].length * (c : Int).toNat ≤ 1000000 := by simp; omega
    have e' : reps (c : Int).toNat [117] = full (side a) a.natAbs c a.natAbs := by
      rw [h0]
      rfl
    simp -implicitDefEqProofs only [b_law_steps, Int.reduceEq, Int.reduceNe, Int.reduceLT, Int.reduceLE, Int.reduceNeg, ne_eq, not_false_eq_true, not_true_eq_false, ↓reduceIte, Bool.false_eq_true, if_true, if_false, opt_some, opt_none, R.bind_ok, R.bind_exc, R.bind_bad, R.nx_nx, R.nx_rt, R.nx_exc, R.nx_bad, List.replicate, List.cons_append, List.nil_append, Nat.add_one_sub_one, Nat.reduceSub, Bool.not_true, Bool.not_false, decide_true, decide_false, two, My.s_c, My.s_v, My.s_bin, My.s_neg, My.s_cmp, My.s_and, My.s_or, My.s_not, My.s_tup, My.s_lst, My.s_idx, My.s_sl, My.s_rev, My.s_call, My.s_bf, My.s_meth, My.s_es0, My.s_es1, My.s_x0, My.s_x1, My.s_p0, My.s_p1, My.s_a0, My.s_av, My.s_ac, My.s_abin, My.s_aneg, My.s_aidx, My.s_acall, My.s_abf, My.s_atup, My.s_alst, My.s_asl, My.s_acmp, My.s_t0, My.s_t1, My.s_i0, My.s_i1, My.s_it, My.s_r1, My.s_r2, My.s_test, My.l_v, My.l_c, My.l_bin, My.l_neg, My.l_cmp, My.l_and, My.l_or, My.l_not, My.l_tup, My.l_lst, My.l_idx, My.l_sl, My.l_rev, My.l_call, My.l_bf, My.l_meth, My.l_comp, My.s_2, My.s_1, My.x0, My.x1, My.x_set, My.x_setT, My.x_par, My.x_sub, My.x_app, My.x_expr, My.x_retv, My.x_retc, My.x_rettup, My.x_retlst, My.x_retbin, My.x_retcmp, My.x_retand, My.x_retor, My.x_retnot, My.x_retidx, My.x_retsl, My.x_retcall, My.x_retbf, My.x_retmeth, My.x_retcomp, My.x_retN, My.x_if, My.x_whl, My.x_for, My.x_pass, My.b_add, My.b_sub, My.b_mulL, My.b_mulR, My.b_fdiv, My.b_mod, My.b_pow, My.b_addS, My.b_mulS, My.b_addT, My.b_addL, My.c_lt, My.c_le, My.c_gt, My.c_ge, My.c_eq, My.c_ne, My.c_eqS, My.c_neS, My.i_tup, My.i_lst, My.i_scr, My.i_str, My.a0, My.a1, My.a2, My.a3, My.sub0, My.sub1, My.f_int, My.f_bl, My.f_str, My.f_tup, My.f_lst, My.f_non, My.f_scr, My.f_und, My.u_int, My.u_bl, My.u_str, My.u_tup, My.u_lst, My.u_non, My.u_scr, My.u_und, My.g0, My.g1, My.t0, My.t1, My.as_n, My.as_nil, My.as_cons, My.par0, My.par1, My.as_b, My.as_i, My.passT, My.passF, My.pb0, My.pbT, My.pbF, My.pb_nil, My.pbc, My.pbbin, My.pbneg, My.pbidx, My.pbcall, My.pbbf, My.pbtup, My.pblst, My.pbsl, My.pbcmp, My.fin_rt, My.fin_nx, My.out0, My.outT, My.outF, My.l2_ok, My.l1_ok, My.q_lenL, My.q_lenT, My.q_lenS, My.q_lenC, My.q_abs, My.q_min, My.q_max, My.q_intb, My.q_inti, My.q_tupT, My.q_tupL, My.q_listT, My.q_listL, My.r_lst, My.n_int, My.ls_tup, My.ls_lst, My.isl, My.ap_ok, My.m_v, My.m_c, My.rv_join, My.mt_joinE, My.for0, My.for1, My.if_f, My.if_t, My.ob, My.om, ew, f0, k1, if_pos, and_self, sized_ok z2, e']
  · have f0 : (((a.natAbs : Nat) : Int) == 0) = false := by simp; omega
    obtain ⟨e2, e7, e⟩ := lsteps_loop (callF PG k) (.tup [.int a, .int c]) (a := a) (s := side a) (w := a.natAbs) (c := c) (by omega) (by omega) h3 a.natAbs 0 .und .und (by omega)
    have s1 : small 1 = true := small_ok (by omega) (by omega)
    have s2 : small ((a.natAbs : Nat) + 1 : Int) = true := small_ok (by omega) (by omega)
    have e1 : full (side a) a.natAbs c 0 = [] := by
      show reps (hgt _ _ 0) _ = _
      unfold hgt
      rw [if_neg h0, Nat.mul_zero, Nat.zero_div]
      rfl
    rw [e1] at e
    simp only [Int.natCast_zero, Int.zero_add] at e
    simp -implicitDefEqProofs only [b_law_steps, Int.reduceEq, Int.reduceNe, Int.reduceLT, Int.reduceLE, Int.reduceNeg, ne_eq, not_false_eq_true, not_true_eq_false, ↓reduceIte, Bool.false_eq_true, if_true, if_false, opt_some, opt_none, R.bind_ok, R.bind_exc, R.bind_bad, R.nx_nx, R.nx_rt, R.nx_exc, R.nx_bad, List.replicate, List.cons_append, List.nil_append, Nat.add_one_sub_one, Nat.reduceSub, Bool.not_true, Bool.not_false, decide_true, decide_false, two, My.s_c, My.s_v, My.s_bin, My.s_neg, My.s_cmp, My.s_and, My.s_or, My.s_not, My.s_tup, My.s_lst, My.s_idx, My.s_sl, My.s_rev, My.s_call, My.s_bf, My.s_meth, My.s_es0, My.s_es1, My.s_x0, My.s_x1, My.s_p0, My.s_p1, My.s_a0, My.s_av, My.s_ac, My.s_abin, My.s_aneg, My.s_aidx, My.s_acall, My.s_abf, My.s_atup, My.s_alst, My.s_asl, My.s_acmp, My.s_t0, My.s_t1, My.s_i0, My.s_i1, My.s_it, My.s_r1, My.s_r2, My.s_test, My.l_v, My.l_c, My.l_bin, My.l_neg, My.l_cmp, My.l_and, My.l_or, My.l_not, My.l_tup, My.l_lst, My.l_idx, My.l_sl, My.l_rev, My.l_call, My.l_bf, My.l_meth, My.l_comp, My.s_2, My.s_1, My.x0, My.x1, My.x_set, My.x_setT, My.x_par, My.x_sub, My.x_app, My.x_expr, My.x_retv, My.x_retc, My.x_rettup, My.x_retlst, My.x_retbin, My.x_retcmp, My.x_retand, My.x_retor, My.x_retnot, My.x_retidx, My.x_retsl, My.x_retcall, My.x_retbf, My.x_retmeth, My.x_retcomp, My.x_retN, My.x_if, My.x_whl, My.x_for, My.x_pass, My.b_add, My.b_sub, My.b_mulL, My.b_mulR, My.b_fdiv, My.b_mod, My.b_pow, My.b_addS, My.b_mulS, My.b_addT, My.b_addL, My.c_lt, My.c_le, My.c_gt, My.c_ge, My.c_eq, My.c_ne, My.c_eqS, My.c_neS, My.i_tup, My.i_lst, My.i_scr, My.i_str, My.a0, My.a1, My.a2, My.a3, My.sub0, My.sub1, My.f_int, My.f_bl, My.f_str, My.f_tup, My.f_lst, My.f_non, My.f_scr, My.f_und, My.u_int, My.u_bl, My.u_str, My.u_tup, My.u_lst, My.u_non, My.u_scr, My.u_und, My.g0, My.g1, My.t0, My.t1, My.as_n, My.as_nil, My.as_cons, My.par0, My.par1, My.as_b, My.as_i, My.passT, My.passF, My.pb0, My.pbT, My.pbF, My.pb_nil, My.pbc, My.pbbin, My.pbneg, My.pbidx, My.pbcall, My.pbbf, My.pbtup, My.pblst, My.pbsl, My.pbcmp, My.fin_rt, My.fin_nx, My.out0, My.outT, My.outF, My.l2_ok, My.l1_ok, My.q_lenL, My.q_lenT, My.q_lenS, My.q_lenC, My.q_abs, My.q_min, My.q_max, My.q_intb, My.q_inti, My.q_tupT, My.q_tupL, My.q_listT, My.q_listL, My.r_lst, My.n_int, My.ls_tup, My.ls_lst, My.isl, My.ap_ok, My.m_v, My.m_c, My.rv_join, My.mt_joinE, My.for0, My.for1, My.if_f, My.if_t, My.ob, My.om, ew, f0, hs, s1, s2, Bool.and_self, e]
/-! ### the law -/
def GoodD (d : D) : Prop := ∃ (a : Int) (c : Nat), d = .tup [.int a, .int c] ∧ Good a c
theorem hlaw (ns : List Int) (hns : ns.length ≤ 63) : ∃ os, callF PG 4 8 [.scr ns] = .ok (.bl true, os) := by
  rw [call_eq (P := PG) (f := 8) (b := b_law) (np := 1) (nl := 5) (io := [false]) rfl rfl]
  have hn : ∃ n : Int, 5 ≤ n ∧ n ≤ 12 ∧ (if (if (ns.length : Int) < 12 then (ns.length : Int) else 12) > 5 then (if (ns.length : Int) < 12 then (ns.length : Int) else 12) else 5) = n := by
    refine ⟨_, ?_, ?_, rfl⟩ <;> (split <;> split <;> omega)
  obtain ⟨n, n1, n2, hn⟩ := hn
  obtain ⟨env1, he1, hP1⟩ := forL_nx (tg := asgT (.n 2)) (b := exs (callF PG 3) (.cons (.set (.n 4) (.call f_law_feed (.cons false (.v 0) (.cons false (.v 2) .nil))))
  (.cons (.app 1 (.call f_law_slope (.cons true (.v 4) (.cons false (.idx (.lst (.cons (.c (.int 6)) (.cons (.c (.int 24)) .nil))) (.call f_law_take (.cons true (.v 4) (.cons false (.c (.int 2)) .nil)))) .nil))))
  .nil))) (fun xs e => (∀ x ∈ xs, ∃ j : Int, x = .int j ∧ 0 ≤ j ∧ j < 12) ∧ ∃ ss d2 d4, e = [.scr ns, .lst true ss, d2, .und, d4] ∧ (∀ s ∈ ss, GoodD s) ∧ ss.length + xs.length ≤ 12)
    (fun x xs e ⟨hx, ss, d2, d4, he, hg, hl⟩ => by
      subst he
      obtain ⟨j, rfl, j0, j1⟩ := hx x (by simp)
      obtain ⟨a, b, ha, hb, e1⟩ := feed_ok 2 (ns := ns) (j := j) j0 (by omega)
      obtain ⟨r, a', b', ha', hb', r0, r1, e2⟩ := take_ok 2 ha hb (m := 2) (by omega) (by omega)
      obtain ⟨m, m0, m1, hm⟩ : ∃ m : Int, 0 < m ∧ m < 25 ∧ at? [D.int 6, D.int 24] r = some (.int m) := by
        rcases (by omega : r = 0 ∨ r = 1) with rfl | rfl
        · exact ⟨6, by omega, by omega, rfl⟩
        · exact ⟨24, by omega, by omega, rfl⟩
      obtain ⟨A, c, a3, b3, ha3, hb3, hgood, e3⟩ := slope_ok 1 ha' hb' m0 m1
      refine ⟨_, [.scr ns, .lst true (ss ++ [.tup [.int A, .int c]]), .int j, .und, .lst true [.int a3, .int b3]], rfl, ?_, fun y hy => hx y (by simp [hy]), _, _, _, rfl, ?_, ?_⟩
      · have hs : ss.length < SZ := by show _ < 1000000; simp at hl; omega
        simp -implicitDefEqProofs only [Int.reduceEq, Int.reduceNe, Int.reduceLT, Int.reduceLE, Int.reduceNeg, ne_eq, not_false_eq_true, not_true_eq_false, ↓reduceIte, Bool.false_eq_true, if_true, if_false, opt_some, opt_none, R.bind_ok, R.bind_exc, R.bind_bad, R.nx_nx, R.nx_rt, R.nx_exc, R.nx_bad, List.replicate, List.cons_append, List.nil_append, Nat.add_one_sub_one, Nat.reduceSub, Bool.not_true, Bool.not_false, decide_true, decide_false, two, My.s_c, My.s_v, My.s_bin, My.s_neg, My.s_cmp, My.s_and, My.s_or, My.s_not, My.s_tup, My.s_lst, My.s_idx, My.s_sl, My.s_rev, My.s_call, My.s_bf, My.s_meth, My.s_es0, My.s_es1, My.s_x0, My.s_x1, My.s_p0, My.s_p1, My.s_a0, My.s_av, My.s_ac, My.s_abin, My.s_aneg, My.s_aidx, My.s_acall, My.s_abf, My.s_atup, My.s_alst, My.s_asl, My.s_acmp, My.s_t0, My.s_t1, My.s_i0, My.s_i1, My.s_it, My.s_r1, My.s_r2, My.s_test, My.l_v, My.l_c, My.l_bin, My.l_neg, My.l_cmp, My.l_and, My.l_or, My.l_not, My.l_tup, My.l_lst, My.l_idx, My.l_sl, My.l_rev, My.l_call, My.l_bf, My.l_meth, My.l_comp, My.s_2, My.s_1, My.x0, My.x1, My.x_set, My.x_setT, My.x_par, My.x_sub, My.x_app, My.x_expr, My.x_retv, My.x_retc, My.x_rettup, My.x_retlst, My.x_retbin, My.x_retcmp, My.x_retand, My.x_retor, My.x_retnot, My.x_retidx, My.x_retsl, My.x_retcall, My.x_retbf, My.x_retmeth, My.x_retcomp, My.x_retN, My.x_if, My.x_whl, My.x_for, My.x_pass, My.b_add, My.b_sub, My.b_mulL, My.b_mulR, My.b_fdiv, My.b_mod, My.b_pow, My.b_addS, My.b_mulS, My.b_addT, My.b_addL, My.c_lt, My.c_le, My.c_gt, My.c_ge, My.c_eq, My.c_ne, My.c_eqS, My.c_neS, My.i_tup, My.i_lst, My.i_scr, My.i_str, My.a0, My.a1, My.a2, My.a3, My.sub0, My.sub1, My.f_int, My.f_bl, My.f_str, My.f_tup, My.f_lst, My.f_non, My.f_scr, My.f_und, My.u_int, My.u_bl, My.u_str, My.u_tup, My.u_lst, My.u_non, My.u_scr, My.u_und, My.g0, My.g1, My.t0, My.t1, My.as_n, My.as_nil, My.as_cons, My.par0, My.par1, My.as_b, My.as_i, My.passT, My.passF, My.pb0, My.pbT, My.pbF, My.pb_nil, My.pbc, My.pbbin, My.pbneg, My.pbidx, My.pbcall, My.pbbf, My.pbtup, My.pblst, My.pbsl, My.pbcmp, My.fin_rt, My.fin_nx, My.out0, My.outT, My.outF, My.l2_ok, My.l1_ok, My.q_lenL, My.q_lenT, My.q_lenS, My.q_lenC, My.q_abs, My.q_min, My.q_max, My.q_intb, My.q_inti, My.q_tupT, My.q_tupL, My.q_listT, My.q_listL, My.r_lst, My.n_int, My.ls_tup, My.ls_lst, My.isl, My.ap_ok, My.m_v, My.m_c, My.rv_join, My.mt_joinE, My.for0, My.for1, My.if_f, My.if_t, My.ob, My.om, e1, e2, hm, e3, if_pos hs]
      · intro s hs
        rcases List.mem_append.mp hs with h | h
        · exact hg s h
        · rw [List.mem_singleton] at h
          exact ⟨A, c, h, hgood⟩
      · simp at hl ⊢; omega)
    (rangeL 0 n) [.scr ns, .lst true [], .und, .und, .und] ⟨fun x hx => by
      obtain ⟨i, rfl, h1, h2⟩ := rangeL_mem hx
      exact ⟨i, rfl, h1, by omega⟩, [], .und, .und, rfl, by simp, by rw [rangeL_len]; simp; omega⟩
  obtain ⟨_, ss, d2, d4, rfl, hg, hl⟩ := hP1
  obtain ⟨env2, he2, hP2⟩ := forL_nx (tg := asgT (.n 3)) (b := exs (callF PG 3) (.cons (.ife (.cmp .ne (.call f_slope_steps (.cons false (.v 3) .nil)) (.call f_law_steps (.cons false (.v 3) .nil))) (.cons (.ret (.c (.bl false)))
  .nil) .nil)
  .nil)) (fun xs e => (∀ x ∈ xs, GoodD x) ∧ ∃ d3, e = [.scr ns, .lst true ss, d2, d3, d4])
    (fun x xs e ⟨hx, d3, he⟩ => by
      subst he
      obtain ⟨a, c, rfl, hgood⟩ := hx x (by simp)
      have e1 := steps_ok 0 hgood
      have e2 := lsteps_ok 2 hgood
      refine ⟨_, [.scr ns, .lst true ss, d2, .tup [.int a, .int c], d4], rfl, ?_, fun y hy => hx y (by simp [hy]), _, rfl⟩
      have eb : (full (side a) a.natAbs c a.natAbs == full (side a) a.natAbs c a.natAbs) = true := beq_self_eq_true _
      simp -implicitDefEqProofs only [Int.reduceEq, Int.reduceNe, Int.reduceLT, Int.reduceLE, Int.reduceNeg, ne_eq, not_false_eq_true, not_true_eq_false, ↓reduceIte, Bool.false_eq_true, if_true, if_false, opt_some, opt_none, R.bind_ok, R.bind_exc, R.bind_bad, R.nx_nx, R.nx_rt, R.nx_exc, R.nx_bad, List.replicate, List.cons_append, List.nil_append, Nat.add_one_sub_one, Nat.reduceSub, Bool.not_true, Bool.not_false, decide_true, decide_false, two, My.s_c, My.s_v, My.s_bin, My.s_neg, My.s_cmp, My.s_and, My.s_or, My.s_not, My.s_tup, My.s_lst, My.s_idx, My.s_sl, My.s_rev, My.s_call, My.s_bf, My.s_meth, My.s_es0, My.s_es1, My.s_x0, My.s_x1, My.s_p0, My.s_p1, My.s_a0, My.s_av, My.s_ac, My.s_abin, My.s_aneg, My.s_aidx, My.s_acall, My.s_abf, My.s_atup, My.s_alst, My.s_asl, My.s_acmp, My.s_t0, My.s_t1, My.s_i0, My.s_i1, My.s_it, My.s_r1, My.s_r2, My.s_test, My.l_v, My.l_c, My.l_bin, My.l_neg, My.l_cmp, My.l_and, My.l_or, My.l_not, My.l_tup, My.l_lst, My.l_idx, My.l_sl, My.l_rev, My.l_call, My.l_bf, My.l_meth, My.l_comp, My.s_2, My.s_1, My.x0, My.x1, My.x_set, My.x_setT, My.x_par, My.x_sub, My.x_app, My.x_expr, My.x_retv, My.x_retc, My.x_rettup, My.x_retlst, My.x_retbin, My.x_retcmp, My.x_retand, My.x_retor, My.x_retnot, My.x_retidx, My.x_retsl, My.x_retcall, My.x_retbf, My.x_retmeth, My.x_retcomp, My.x_retN, My.x_if, My.x_whl, My.x_for, My.x_pass, My.b_add, My.b_sub, My.b_mulL, My.b_mulR, My.b_fdiv, My.b_mod, My.b_pow, My.b_addS, My.b_mulS, My.b_addT, My.b_addL, My.c_lt, My.c_le, My.c_gt, My.c_ge, My.c_eq, My.c_ne, My.c_eqS, My.c_neS, My.i_tup, My.i_lst, My.i_scr, My.i_str, My.a0, My.a1, My.a2, My.a3, My.sub0, My.sub1, My.f_int, My.f_bl, My.f_str, My.f_tup, My.f_lst, My.f_non, My.f_scr, My.f_und, My.u_int, My.u_bl, My.u_str, My.u_tup, My.u_lst, My.u_non, My.u_scr, My.u_und, My.g0, My.g1, My.t0, My.t1, My.as_n, My.as_nil, My.as_cons, My.par0, My.par1, My.as_b, My.as_i, My.passT, My.passF, My.pb0, My.pbT, My.pbF, My.pb_nil, My.pbc, My.pbbin, My.pbneg, My.pbidx, My.pbcall, My.pbbf, My.pbtup, My.pblst, My.pbsl, My.pbcmp, My.fin_rt, My.fin_nx, My.out0, My.outT, My.outF, My.l2_ok, My.l1_ok, My.q_lenL, My.q_lenT, My.q_lenS, My.q_lenC, My.q_abs, My.q_min, My.q_max, My.q_intb, My.q_inti, My.q_tupT, My.q_tupL, My.q_listT, My.q_listL, My.r_lst, My.n_int, My.ls_tup, My.ls_lst, My.isl, My.ap_ok, My.m_v, My.m_c, My.rv_join, My.mt_joinE, My.for0, My.for1, My.if_f, My.if_t, My.ob, My.om, e1, e2, eb])
    (ss ++ ss.reverse) [.scr ns, .lst true ss, d2, .und, d4] ⟨fun x hx => by
      rcases List.mem_append.mp hx with h | h
      · exact hg x h
      · exact hg x (List.mem_reverse.mp h), .und, rfl⟩
  obtain ⟨_, d3, rfl⟩ := hP2
  refine ⟨[.und], ?_⟩
  have sm : small n = true := small_ok (by omega) (by omega)
  have z : ss.length + ss.reverse.length ≤ 1000000 := by simp at hl ⊢; omega
  simp -implicitDefEqProofs only [b_law, Int.reduceEq, Int.reduceNe, Int.reduceLT, Int.reduceLE, Int.reduceNeg, ne_eq, not_false_eq_true, not_true_eq_false, ↓reduceIte, Bool.false_eq_true, if_true, if_false, opt_some, opt_none, R.bind_ok, R.bind_exc, R.bind_bad, R.nx_nx, R.nx_rt, R.nx_exc, R.nx_bad, List.replicate, List.cons_append, List.nil_append, Nat.add_one_sub_one, Nat.reduceSub, Bool.not_true, Bool.not_false, decide_true, decide_false, two, My.s_c, My.s_v, My.s_bin, My.s_neg, My.s_cmp, My.s_and, My.s_or, My.s_not, My.s_tup, My.s_lst, My.s_idx, My.s_sl, My.s_rev, My.s_call, My.s_bf, My.s_meth, My.s_es0, My.s_es1, My.s_x0, My.s_x1, My.s_p0, My.s_p1, My.s_a0, My.s_av, My.s_ac, My.s_abin, My.s_aneg, My.s_aidx, My.s_acall, My.s_abf, My.s_atup, My.s_alst, My.s_asl, My.s_acmp, My.s_t0, My.s_t1, My.s_i0, My.s_i1, My.s_it, My.s_r1, My.s_r2, My.s_test, My.l_v, My.l_c, My.l_bin, My.l_neg, My.l_cmp, My.l_and, My.l_or, My.l_not, My.l_tup, My.l_lst, My.l_idx, My.l_sl, My.l_rev, My.l_call, My.l_bf, My.l_meth, My.l_comp, My.s_2, My.s_1, My.x0, My.x1, My.x_set, My.x_setT, My.x_par, My.x_sub, My.x_app, My.x_expr, My.x_retv, My.x_retc, My.x_rettup, My.x_retlst, My.x_retbin, My.x_retcmp, My.x_retand, My.x_retor, My.x_retnot, My.x_retidx, My.x_retsl, My.x_retcall, My.x_retbf, My.x_retmeth, My.x_retcomp, My.x_retN, My.x_if, My.x_whl, My.x_for, My.x_pass, My.b_add, My.b_sub, My.b_mulL, My.b_mulR, My.b_fdiv, My.b_mod, My.b_pow, My.b_addS, My.b_mulS, My.b_addT, My.b_addL, My.c_lt, My.c_le, My.c_gt, My.c_ge, My.c_eq, My.c_ne, My.c_eqS, My.c_neS, My.i_tup, My.i_lst, My.i_scr, My.i_str, My.a0, My.a1, My.a2, My.a3, My.sub0, My.sub1, My.f_int, My.f_bl, My.f_str, My.f_tup, My.f_lst, My.f_non, My.f_scr, My.f_und, My.u_int, My.u_bl, My.u_str, My.u_tup, My.u_lst, My.u_non, My.u_scr, My.u_und, My.g0, My.g1, My.t0, My.t1, My.as_n, My.as_nil, My.as_cons, My.par0, My.par1, My.as_b, My.as_i, My.passT, My.passF, My.pb0, My.pbT, My.pbF, My.pb_nil, My.pbc, My.pbbin, My.pbneg, My.pbidx, My.pbcall, My.pbbf, My.pbtup, My.pblst, My.pbsl, My.pbcmp, My.fin_rt, My.fin_nx, My.out0, My.outT, My.outF, My.l2_ok, My.l1_ok, My.q_lenL, My.q_lenT, My.q_lenS, My.q_lenC, My.q_abs, My.q_min, My.q_max, My.q_intb, My.q_inti, My.q_tupT, My.q_tupL, My.q_listT, My.q_listL, My.r_lst, My.n_int, My.ls_tup, My.ls_lst, My.isl, My.ap_ok, My.m_v, My.m_c, My.rv_join, My.mt_joinE, My.for0, My.for1, My.if_f, My.if_t, My.ob, My.om, hn, sm, he1, sized_ok z, he2]
end My.K33

set_option Elab.async false
set_option linter.all false
set_option maxRecDepth 100000
set_option autoImplicit false
namespace MyS
open PySem PySem.Spec PyProof.Rows L2
open My (D E Es As OE S Ss Tg)

/-! ### how a value of Mini lies in the heap -/
abbrev mkS (s : List Nat) : Str := ⟨s.toArray⟩
mutual
/-- data that nobody changes: F is the part of the heap that stands still -/
def RepF (K : PySem.W.Frag) (F : Hp) : D → V → Prop
  | .und, _ => False
  | .non, v => v = .non
  | .bl b, v => v = .bl b
  | .int i, v => v = .int i
  | .str s, v => v = .str (mkS s) ∧ s.length ≤ sizeLine
  | .tup xs, v => ∃ a vs, v = .ref a ∧ SqT K F a vs ∧ RepFs K F xs vs
  | .lst own xs, v => own = false ∧ ∃ a vs, v = .ref a ∧ Rd F a (.lst vs) ∧ RepFs K F xs vs
  | .dic _ _ _, _ => False
  | .lol _, _ => False
  | .exc _ _, _ => False
  | .scr ns, v => ∃ a, v = .ref a ∧ SqL K F a (ns.map V.int)
def RepFs (K : PySem.W.Frag) (F : Hp) : List D → List V → Prop
  | [], [] => True
  | x :: xs, v :: vs => RepF K F x v ∧ RepFs K F xs vs
  | _, _ => False
end
/-- a value that is held alone: O are the objects that are its own -/
def RepO (K : PySem.W.Frag) (H F : Hp) : D → V → List Addr → Prop
  | .lst true xs, v, O => ∃ a vs, v = .ref a ∧ H a = some (.lst vs) ∧ RepFs K F xs vs ∧ O = [a]
  | d, v, O => RepF K F d v ∧ O = []
/-- an operand, while it is read -/
def RepB (K : PySem.W.Frag) (H F : Hp) : D → V → Prop
  | .lst _ xs, v => ∃ a vs, v = .ref a ∧ Rd H a (.lst vs) ∧ RepFs K F xs vs
  | .und, _ => True
  | d, v => RepF K F d v
def RepBs (K : PySem.W.Frag) (H F : Hp) : List D → List V → Prop
  | [], [] => True
  | x :: xs, v :: vs => RepB K H F x v ∧ RepBs K H F xs vs
  | _, _ => False

section
variable {K : PySem.W.Frag} {F F' H H' : Hp}
theorem rd_mono {a : Addr} {u : HO} (h : Same F F') (q : Rd F a u) : Rd F' a u := by
  rcases q with q | ⟨o, q⟩
  · exact .inl (h _ _ q)
  · exact .inr ⟨o, h _ _ q⟩
theorem sqT_mono {a : Addr} {vs : List V} (h : Same F F') (q : SqT K F a vs) : SqT K F' a vs := by
  rcases q with (q | ⟨o, q⟩) | q
  · exact .inl (.inl (h _ _ q))
  · exact .inl (.inr ⟨o, h _ _ q⟩)
  · exact .inr q
mutual
theorem RepF.mono (h : Same F F') : ∀ (d : D) (v : V), RepF K F d v → RepF K F' d v
  | .und, _, q => q.elim
  | .non, _, q => q
  | .bl _, _, q => q
  | .int _, _, q => q
  | .str _, _, q => q
  | .tup xs, v, q => by
    obtain ⟨a, vs, e, s, r⟩ := q
    exact ⟨a, vs, e, sqT_mono h s, RepFs.mono h xs vs r⟩
  | .lst own xs, v, q => by
    obtain ⟨o, a, vs, e, s, r⟩ := q
    exact ⟨o, a, vs, e, rd_mono h s, RepFs.mono h xs vs r⟩
  | .dic _ _ _, _, q => q.elim
  | .lol _, _, q => q.elim
  | .exc _ _, _, q => q.elim
  | .scr ns, v, q => by
    obtain ⟨a, e, s⟩ := q
    exact ⟨a, e, h.seq s⟩
theorem RepFs.mono (h : Same F F') : ∀ (xs : List D) (vs : List V), RepFs K F xs vs → RepFs K F' xs vs
  | [], [], _ => trivial
  | _ :: _, [], q => q.elim
  | [], _ :: _, q => q.elim
  | x :: xs, v :: vs, q => ⟨RepF.mono h x v q.1, RepFs.mono h xs vs q.2⟩
end
theorem RepFs.length : ∀ {xs : List D} {vs : List V}, RepFs K F xs vs → xs.length = vs.length
  | [], [], _ => rfl
  | _ :: _, [], q => q.elim
  | [], _ :: _, q => q.elim
  | x :: xs, v :: vs, q => by simp [RepFs.length q.2]
theorem RepFs.get : ∀ {xs : List D} {vs : List V} {i : Nat} {x : D}, RepFs K F xs vs → xs[i]? = some x → ∃ v, vs[i]? = some v ∧ RepF K F x v
  | [], [], i, x, _, h => by simp at h
  | _ :: _, [], _, _, q, _ => q.elim
  | [], _ :: _, _, _, q, _ => q.elim
  | y :: xs, v :: vs, 0, x, q, h => by
    simp at h
    subst h
    exact ⟨v, rfl, q.1⟩
  | y :: xs, v :: vs, i + 1, x, q, h => by
    obtain ⟨u, h1, h2⟩ := RepFs.get (i := i) q.2 (by simpa using h)
    exact ⟨u, by simpa using h1, h2⟩
theorem RepFs.append : ∀ {xs ys : List D} {vs us : List V}, RepFs K F xs vs → RepFs K F ys us → RepFs K F (xs ++ ys) (vs ++ us)
  | [], _, [], _, _, h => h
  | _ :: _, _, [], _, q, _ => q.elim
  | [], _, _ :: _, _, q, _ => q.elim
  | x :: xs, ys, v :: vs, us, q, h => ⟨q.1, RepFs.append q.2 h⟩
theorem RepFs.of_get : ∀ {xs : List D} {vs : List V}, xs.length = vs.length → (∀ (i : Nat) x v, xs[i]? = some x → vs[i]? = some v → RepF K F x v) → RepFs K F xs vs
  | [], [], _, _ => trivial
  | _ :: _, [], h, _ => by simp at h
  | [], _ :: _, h, _ => by simp at h
  | x :: xs, v :: vs, h, g => ⟨g 0 x v rfl rfl, RepFs.of_get (by simpa using h) fun i y u h1 h2 => g (i + 1) y u (by simpa using h1) (by simpa using h2)⟩
theorem RepFs.take {xs : List D} {vs : List V} (n : Nat) (h : RepFs K F xs vs) : RepFs K F (xs.take n) (vs.take n) :=
  RepFs.of_get (by simp [h.length]) fun i x v h1 h2 => by
    rw [List.getElem?_take] at h1 h2
    split at h1
    · rename_i hi
      rw [if_pos hi] at h2
      obtain ⟨u, e, r⟩ := h.get h1
      rw [e] at h2
      cases h2
      exact r
    · cases h1
theorem RepFs.drop {xs : List D} {vs : List V} (n : Nat) (h : RepFs K F xs vs) : RepFs K F (xs.drop n) (vs.drop n) :=
  RepFs.of_get (by simp [h.length]) fun i x v h1 h2 => by
    rw [List.getElem?_drop] at h1 h2
    obtain ⟨u, e, r⟩ := h.get h1
    rw [e] at h2
    cases h2
    exact r
theorem RepFs.reverse {xs : List D} {vs : List V} (h : RepFs K F xs vs) : RepFs K F xs.reverse vs.reverse :=
  RepFs.of_get (by simp [h.length]) fun i x v h1 h2 => by
    have hi : i < xs.length := by
      have := (List.getElem?_eq_some_iff.mp h1).1
      simpa using this
    rw [List.getElem?_reverse hi] at h1
    rw [List.getElem?_reverse (by rw [← h.length]; exact hi), ← h.length] at h2
    obtain ⟨u, e, r⟩ := h.get h1
    rw [e] at h2
    cases h2
    exact r
theorem RepFs.set {xs : List D} {vs : List V} {x : D} {v : V} (n : Nat) (h : RepFs K F xs vs) (r : RepF K F x v) : RepFs K F (xs.set n x) (vs.set n v) :=
  RepFs.of_get (by simp [h.length]) fun i y u h1 h2 => by
    by_cases hn : n = i
    · subst hn
      have h3 := (List.getElem?_eq_some_iff.mp h1).1
      have h4 := (List.getElem?_eq_some_iff.mp h2).1
      rw [List.length_set] at h3 h4
      rw [List.getElem?_set_self h3] at h1
      rw [List.getElem?_set_self h4] at h2
      cases h1; cases h2
      exact r
    · rw [List.getElem?_set_ne hn] at h1 h2
      obtain ⟨w, e, r⟩ := h.get h1
      rw [e] at h2
      cases h2
      exact r
theorem RepFs.eraseIdx : ∀ {xs : List D} {vs : List V} (n : Nat), RepFs K F xs vs → RepFs K F (xs.eraseIdx n) (vs.eraseIdx n)
  | [], [], _, _ => trivial
  | _ :: _, [], _, q => q.elim
  | [], _ :: _, _, q => q.elim
  | x :: xs, v :: vs, 0, q => q.2
  | x :: xs, v :: vs, n + 1, q => ⟨q.1, RepFs.eraseIdx n q.2⟩

theorem RepB.of {d : D} {v : V} (h : Same F H) (r : RepF K F d v) : RepB K H F d v := by
  cases d with
  | und => trivial
  | lst own xs =>
    obtain ⟨_, a, vs, e, s, q⟩ := r
    exact ⟨a, vs, e, rd_mono h s, q⟩
  | _ => exact r
theorem RepO.fz {d : D} {v : V} {O : List Addr} (h : Same F H) (r : RepO K H F d v O) : RepB K H F (My.fz d) v := by
  cases d with
  | lst own xs =>
    cases own with
    | true =>
      obtain ⟨a, vs, e, s, q, _⟩ := r
      exact ⟨a, vs, e, .inl s, q⟩
    | false => exact RepB.of h r.1
  | dic _ _ _ => exact r.1.elim
  | lol _ => exact r.1.elim
  | und => exact r.1.elim
  | _ => exact r.1
theorem RepBs.length : ∀ {xs : List D} {vs : List V}, RepBs K H F xs vs → xs.length = vs.length
  | [], [], _ => rfl
  | _ :: _, [], q => q.elim
  | [], _ :: _, q => q.elim
  | x :: xs, v :: vs, q => by simp [RepBs.length q.2]
end

/-! ### the state -/
/-- a heap's growth over what was there: O may change -/
structure Ext (H F : Hp) (O : Addr → Prop) (H' F' : Hp) (O' : Addr → Prop) : Prop where
  keep : ∀ a o, ¬ O a → H a = some o → H' a = some o
  there : ∀ a, H' a = none → H a = none
  fsub : Same F F'
  fnew : ∀ a, F' a ≠ none → F a ≠ none ∨ H a = none ∨ O a
  onew : ∀ a, O' a → O a ∨ H a = none
theorem Ext.refl {H F : Hp} {O : Addr → Prop} : Ext H F O H F O := ⟨fun _ _ _ h => h, fun _ h => h, fun _ _ h => h, fun _ h => .inl h, fun _ h => .inl h⟩
theorem Ext.trans {H F H1 F1 H2 F2 : Hp} {O O1 O2 : Addr → Prop} (a : Ext H F O H1 F1 O1) (b : Ext H1 F1 O1 H2 F2 O2) : Ext H F O H2 F2 O2 where
  keep := fun c o hO h => b.keep c o (fun z => (a.onew c z).elim hO fun n => by rw [n] at h; cases h) (a.keep c o hO h)
  there := fun c h => a.there c (b.there c h)
  fsub := fun c o h => b.fsub c o (a.fsub c o h)
  fnew := fun c h => by
    rcases b.fnew c h with z | z | z
    · exact a.fnew c z
    · exact .inr (.inl (a.there c z))
    · exact (a.onew c z).elim (fun q => .inr (.inr q)) fun q => .inr (.inl q)
  onew := fun c h => by
    rcases b.onew c h with z | z
    · exact a.onew c z
    · exact .inr (a.there c z)
theorem Ext.mono {H F H1 F1 : Hp} {O O1 O2 : Addr → Prop} (a : Ext H F O H1 F1 O1) (h : ∀ c, O2 c → O1 c) : Ext H F O H1 F1 O2 :=
  ⟨a.keep, a.there, a.fsub, a.fnew, fun c z => a.onew c (h c z)⟩
/-- more may change -/
theorem Ext.wide {H F H1 F1 : Hp} {O O1 O2 : Addr → Prop} (a : Ext H F O H1 F1 O1) (h : ∀ c, O c → O2 c) : Ext H F O2 H1 F1 O1 :=
  ⟨fun c o n q => a.keep c o (fun z => n (h c z)) q, a.there, a.fsub, fun c q => (a.fnew c q).imp id fun z => z.imp id (h c), fun c q => (a.onew c q).imp (h c) id⟩

abbrev Ow := Nat → List Addr
def Own (O : Ow) (a : Addr) : Prop := ∃ i, a ∈ O i
def OwnP (O : Ow) (l : List Addr) (a : Addr) : Prop := Own O a ∨ a ∈ l
structure SR (K : PySem.W.Frag) (H F : Hp) (σ : L2.St) (env : My.Env) (O : Ow) : Prop where
  sub : Same F H
  len : env.length = σ.length
  slot : ∀ i, (My.gt env i = .und ∧ O i = []) ∨ ∃ v, σ[i]? = some (some v) ∧ RepO K H F (My.gt env i) v (O i)
  nodup : ∀ i, (O i).Nodup
  apart : ∀ i j a, a ∈ O i → a ∈ O j → i = j
  off : ∀ i a, a ∈ O i → F a = none

theorem gt_st : ∀ (env : My.Env) (i j : Nat) (d : D), My.gt (My.st env i d) j = if i = j ∧ i < env.length then d else My.gt env j
  | [], i, j, d => by simp [My.st, My.gt]
  | a :: l, 0, 0, d => by simp [My.st, My.gt]
  | a :: l, 0, j + 1, d => by simp [My.st, My.gt]
  | a :: l, i + 1, 0, d => by simp [My.st, My.gt]
  | a :: l, i + 1, j + 1, d => by
    show My.gt (My.st l i d) j = _
    rw [gt_st l i j d]
    simp [My.gt]
theorem st_length : ∀ (env : My.Env) (i : Nat) (d : D), (My.st env i d).length = env.length
  | [], _, _ => rfl
  | _ :: _, 0, _ => rfl
  | _ :: l, i + 1, d => by simp [My.st, st_length l i d]
theorem gt_big : ∀ (env : My.Env) (i : Nat), env.length ≤ i → My.gt env i = .und
  | [], _, _ => rfl
  | _ :: _, 0, h => by simp at h
  | _ :: l, i + 1, h => gt_big l i (by simpa using h)
theorem isUnd_iff {d : D} : My.isUnd d = true ↔ d = .und := by cases d <;> simp [My.isUnd]

section
variable {K : PySem.W.Frag} {F F' H H' : Hp}
theorem RepO.one {d : D} {v : V} {O : List Addr} (r : RepO K H F d v O) : O.Nodup := by
  cases d with
  | lst own xs =>
    cases own with
    | true =>
      obtain ⟨a, vs, e, s, q, rfl⟩ := r
      simp
    | false => rw [r.2]; simp
  | _ => rw [r.2]; simp
/-- a value's own objects are there -/
theorem RepO.there {d : D} {v : V} {O : List Addr} (r : RepO K H F d v O) : ∀ a ∈ O, H a ≠ none := by
  cases d with
  | lst own xs =>
    cases own with
    | true =>
      obtain ⟨a, vs, e, s, q, rfl⟩ := r
      intro b hb
      rw [List.mem_singleton] at hb
      rw [hb, s]
      simp
    | false => rw [r.2]; simp
  | _ => rw [r.2]; simp
/-- what isn't changed stays as it is told -/
theorem RepO.step {d : D} {v : V} {O : List Addr} {P P' : Addr → Prop} (r : RepO K H F d v O) (x : Ext H F P H' F' P') (hP : ∀ a ∈ O, ¬ P a) : RepO K H' F' d v O := by
  cases d with
  | lst own xs =>
    cases own with
    | true =>
      obtain ⟨a, vs, e, s, q, rfl⟩ := r
      exact ⟨a, vs, e, x.keep a _ (hP a (by simp)) s, RepFs.mono x.fsub _ _ q, rfl⟩
    | false => exact ⟨RepF.mono x.fsub _ _ r.1, r.2⟩
  | und => exact ⟨RepF.mono x.fsub _ _ r.1, r.2⟩
  | non => exact ⟨RepF.mono x.fsub _ _ r.1, r.2⟩
  | bl _ => exact ⟨RepF.mono x.fsub _ _ r.1, r.2⟩
  | int _ => exact ⟨RepF.mono x.fsub _ _ r.1, r.2⟩
  | str _ => exact ⟨RepF.mono x.fsub _ _ r.1, r.2⟩
  | tup _ => exact ⟨RepF.mono x.fsub _ _ r.1, r.2⟩
  | dic _ _ _ => exact ⟨RepF.mono x.fsub _ _ r.1, r.2⟩
  | lol _ => exact ⟨RepF.mono x.fsub _ _ r.1, r.2⟩
  | exc _ _ => exact ⟨RepF.mono x.fsub _ _ r.1, r.2⟩
  | scr _ => exact ⟨RepF.mono x.fsub _ _ r.1, r.2⟩
variable {σ : L2.St} {env : My.Env} {O : Ow}
theorem SR.there (s : SR K H F σ env O) {a : Addr} (h : Own O a) : H a ≠ none := by
  obtain ⟨i, hi⟩ := h
  rcases s.slot i with ⟨_, e⟩ | ⟨v, _, r⟩
  · rw [e] at hi; simp at hi
  · exact r.there a hi
/-- the state, while others' things change -/
theorem SR.step (s : SR K H F σ env O) {P P' : Addr → Prop} (x : Ext H F P H' F' P') (hP : ∀ a, Own O a → ¬ P a) (hs : Same F' H') : SR K H' F' σ env O where
  sub := hs
  len := s.len
  slot := fun i => (s.slot i).imp id fun ⟨v, e, r⟩ => ⟨v, e, r.step x fun a ha => hP a ⟨i, ha⟩⟩
  nodup := s.nodup
  apart := s.apart
  off := fun i a ha => by
    cases q : F' a with
    | none => rfl
    | some o =>
      rcases x.fnew a (by rw [q]; simp) with z | z | z
      · exact absurd (s.off i a ha) z
      · exact absurd z (s.there ⟨i, ha⟩)
      · exact absurd z (hP a ⟨i, ha⟩)
def setO (O : Ow) (i : Nat) (l : List Addr) : Ow := fun j => if j = i then l else O j
theorem setO_same {i : Nat} {l : List Addr} : setO O i l i = l := if_pos rfl
theorem setO_ne {i j : Nat} {l : List Addr} (h : j ≠ i) : setO O i l j = O j := if_neg h
theorem own_setO {i : Nat} {l : List Addr} {a : Addr} (h : Own (setO O i l) a) : Own O a ∨ a ∈ l := by
  obtain ⟨j, hj⟩ := h
  by_cases e : j = i
  · subst e; rw [setO_same] at hj; exact .inr hj
  · rw [setO_ne e] at hj; exact .inl ⟨j, hj⟩
/-- a slot is stored -/
theorem SR.set (s : SR K H F σ env O) {i : Nat} (hi : i < env.length) {d : D} {v : V} {l : List Addr} (r : RepO K H F d v l) (hl : ∀ a ∈ l, F a = none ∧ ∀ j, j ≠ i → a ∉ O j) :
    SR K H F (σ.set i (some v)) (My.st env i d) (setO O i l) where
  sub := s.sub
  len := by rw [st_length, List.length_set]; exact s.len
  slot := fun j => by
    rw [gt_st]
    by_cases e : i = j
    · subst e
      rw [if_pos ⟨rfl, hi⟩, setO_same]
      exact .inr ⟨v, by rw [List.getElem?_set_self (by rw [← s.len]; exact hi)], r⟩
    · rw [if_neg fun z => e z.1, setO_ne (Ne.symm e), List.getElem?_set_ne e]
      exact s.slot j
  nodup := fun j => by
    by_cases e : j = i
    · subst e; rw [setO_same]; exact r.one
    · rw [setO_ne e]; exact s.nodup j
  apart := fun j k a h1 h2 => by
    by_cases e1 : j = i
    · by_cases e2 : k = i
      · rw [e1, e2]
      · subst e1
        rw [setO_same] at h1
        rw [setO_ne e2] at h2
        exact absurd h2 ((hl a h1).2 k e2)
    · by_cases e2 : k = i
      · subst e2
        rw [setO_same] at h2
        rw [setO_ne e1] at h1
        exact absurd h1 ((hl a h2).2 j e1)
      · rw [setO_ne e1] at h1
        rw [setO_ne e2] at h2
        exact s.apart j k a h1 h2
  off := fun j a h => by
    by_cases e : j = i
    · subst e; rw [setO_same] at h; exact (hl a h).1
    · rw [setO_ne e] at h; exact s.off j a h
/-- a slot is forgotten -/
theorem SR.drop (s : SR K H F σ env O) (i : Nat) : SR K H F σ (My.st env i .und) (setO O i []) where
  sub := s.sub
  len := by rw [st_length]; exact s.len
  slot := fun j => by
    rw [gt_st]
    by_cases e : i = j
    · subst e
      rw [setO_same]
      by_cases hi : i < env.length
      · rw [if_pos ⟨rfl, hi⟩]; exact .inl ⟨rfl, rfl⟩
      · rw [if_neg fun z => hi z.2, gt_big env i (by omega)]; exact .inl ⟨rfl, rfl⟩
    · rw [if_neg fun z => e z.1, setO_ne (Ne.symm e)]
      exact s.slot j
  nodup := fun j => by
    by_cases e : j = i
    · subst e; rw [setO_same]; simp
    · rw [setO_ne e]; exact s.nodup j
  apart := fun j k a h1 h2 => by
    by_cases e1 : j = i
    · subst e1; rw [setO_same] at h1; simp at h1
    · by_cases e2 : k = i
      · subst e2; rw [setO_same] at h2; simp at h2
      · rw [setO_ne e1] at h1
        rw [setO_ne e2] at h2
        exact s.apart j k a h1 h2
  off := fun j a h => by
    by_cases e : j = i
    · subst e; rw [setO_same] at h; simp at h
    · rw [setO_ne e] at h; exact s.off j a h
/-- a value held alone is from now on everybody's -/
theorem RepO.freeze {d : D} {v : V} {l : List Addr} (r : RepO K H F d v l) (hs : Same F H) (hl : ∀ a ∈ l, F a = none) :
    ∃ F', Same F F' ∧ Same F' H ∧ (∀ a, F' a ≠ none → F a ≠ none ∨ a ∈ l) ∧ (My.isUnd (My.fz d) = false → RepF K F' (My.fz d) v) := by
  cases d with
  | lst own xs =>
    cases own with
    | true =>
      obtain ⟨a, vs, e, s, q, rfl⟩ := r
      have n : F a = none := hl a (by simp)
      refine ⟨upd F a (.lst vs), fun b o h => ?_, fun b o h => ?_, fun b h => ?_, fun _ => ?_⟩
      · rw [upd_ne (ne_of_none h n)]; exact h
      · by_cases z : b = a
        · subst z; rw [upd_same] at h; cases h; exact s
        · rw [upd_ne z] at h; exact hs b o h
      · by_cases z : b = a
        · exact .inr (by simp [z])
        · rw [upd_ne z] at h; exact .inl h
      · refine ⟨rfl, a, vs, e, .inl upd_same, RepFs.mono (fun b o h => ?_) _ _ q⟩
        rw [upd_ne (ne_of_none h n)]; exact h
    | false => exact ⟨F, fun _ _ h => h, hs, fun _ h => .inl h, fun _ => r.1⟩
  | dic _ _ _ => exact r.1.elim
  | lol _ => exact r.1.elim
  | und => exact r.1.elim
  | non => exact ⟨F, fun _ _ h => h, hs, fun _ h => .inl h, fun _ => r.1⟩
  | bl _ => exact ⟨F, fun _ _ h => h, hs, fun _ h => .inl h, fun _ => r.1⟩
  | int _ => exact ⟨F, fun _ _ h => h, hs, fun _ h => .inl h, fun _ => r.1⟩
  | str _ => exact ⟨F, fun _ _ h => h, hs, fun _ h => .inl h, fun _ => r.1⟩
  | tup _ => exact ⟨F, fun _ _ h => h, hs, fun _ h => .inl h, fun _ => r.1⟩
  | exc _ _ => exact r.1.elim
  | scr _ => exact ⟨F, fun _ _ h => h, hs, fun _ h => .inl h, fun _ => r.1⟩
end
end MyS

namespace MyS
open PySem PySem.Spec PyProof.Rows L2
open My (D E Es As OE S Ss Tg)
/-! ### what an operation gives -/
def OpPost (K : PySem.W.Frag) (H F : Hp) (d : D) (Q : VK) : Prop :=
  ∀ v H' F' l, Same H H' → Same F F' → Same F' H' → (∀ a, F' a ≠ none → F a ≠ none ∨ H a = none) → RepO K H' F' d v l → (∀ a ∈ l, H a = none ∧ F' a = none) → Q v H'
theorem same_upd {H : Hp} {p : Addr} {o : HO} (h : H p = none) : Same H (upd H p o) := fun b x e => by
  rw [upd_ne (ne_of_none e h)]; exact e
theorem same_upds {F H : Hp} {p : Addr} {o : HO} (h : Same F H) : Same (upd F p o) (upd H p o) := fun b x e => by
  by_cases z : b = p
  · subst z; rw [upd_same] at e ⊢; exact e
  · rw [upd_ne z] at e ⊢; exact h b x e
theorem same_none {F H : Hp} (h : Same F H) {p : Addr} (e : H p = none) : F p = none := h.free e
theorem upd_new {F H : Hp} {p : Addr} {o : HO} (hp : H p = none) : ∀ a, upd F p o a ≠ none → F a ≠ none ∨ H a = none := fun a h => by
  by_cases z : a = p
  · subst z; exact .inr hp
  · rw [upd_ne z] at h; exact .inl h
section
variable {K : PySem.W.Frag} {F H : Hp} {d : D} {Q : VK} {v : V} {xs : List D} {vs : List V}
theorem OpPost.val (q : OpPost K H F d Q) (s : Same F H) (r : RepF K F d v) : Q v H := by
  refine q v H F [] (fun _ _ h => h) (fun _ _ h => h) s (fun _ h => .inl h) ?_ (by simp)
  cases d with
  | lst own ys => obtain ⟨rfl, r'⟩ := r; exact ⟨⟨rfl, r'⟩, rfl⟩
  | dic _ _ _ => exact r.elim
  | lol _ => exact r.elim
  | exc _ _ => exact r.elim
  | und => exact r.elim
  | _ => exact ⟨r, rfl⟩
theorem OpPost.lst (q : OpPost K H F (.lst true xs) Q) (s : Same F H) (r : RepFs K F xs vs) (p : Addr) (hp : H p = none) : Q (.ref p) (upd H p (.lst vs)) :=
  q _ _ F [p] (same_upd hp) (fun _ _ h => h) (fun b o e => same_upd hp b o (s b o e)) (fun _ h => .inl h) ⟨p, vs, rfl, upd_same, r, rfl⟩ fun a ha => by
    rw [List.mem_singleton] at ha
    rw [ha]; exact ⟨hp, same_none s hp⟩
theorem OpPost.tup (q : OpPost K H F (.tup xs) Q) (s : Same F H) (r : RepFs K F xs vs) (p : Addr) (hp : H p = none) : Q (.ref p) (upd H p (.tup vs)) :=
  q _ _ (upd F p (.tup vs)) [] (same_upd hp) (same_upd (same_none s hp)) (same_upds s) (upd_new hp) ⟨⟨p, vs, rfl, .inl (.inl upd_same), RepFs.mono (same_upd (same_none s hp)) _ _ r⟩, rfl⟩ (by simp)
theorem OpPost.int {i : Int} (q : OpPost K H F (.int i) Q) (s : Same F H) : Q (.int i) H := q.val s rfl
theorem OpPost.bl {b : Bool} (q : OpPost K H F (.bl b) Q) (s : Same F H) : Q (.bl b) H := q.val s rfl
theorem OpPost.non (q : OpPost K H F .non Q) (s : Same F H) : Q .non H := q.val s rfl
theorem OpPost.str {z : List Nat} (q : OpPost K H F (.str z) Q) (s : Same F H) (h : z.length ≤ sizeLine) : Q (.str (mkS z)) H := q.val s ⟨rfl, h⟩
end
theorem SZ_line : My.SZ ≤ sizeLine := by decide
theorem len_mkS (z : List Nat) : (mkS z).length = z.length := by simp [mkS, Str.length]
theorem mkS_app (x y : List Nat) : mkS x ++ mkS y = mkS (x ++ y) := by
  show (⟨x.toArray ++ y.toArray⟩ : Str) = ⟨(x ++ y).toArray⟩
  simp
theorem sized_some {n : Nat} {d e : D} (h : My.sized n d = some e) : n ≤ My.SZ ∧ d = e := by
  unfold My.sized at h
  split at h
  · rename_i hn; exact ⟨hn, Option.some.inj h⟩
  · cases h
theorem OpR.imp {X : Cx} {f : Value → Value → Sem Value} {r r' : R2} (h : OpR X f r) (i : ∀ x y H Q, r' x y H Q → r x y H Q) : OpR X f r' :=
  fun pins s σ H x y v u Q I rx ry q => h pins s σ H x y v u Q I rx ry (i _ _ _ _ q)
end MyS

set_option Elab.async false
set_option linter.all false
set_option maxRecDepth 100000
set_option autoImplicit false
namespace MyS
open PySem PySem.Spec PyProof.Rows L2
open My (D E Es As OE S Ss Tg)
section
variable {X : Cx}
theorem Rd.lstM {pins : List (Addr × Obj)} {σ : L2.St} {H : Hp} {s : Shared} {l : Addr} {xs : List V} (I : Inv X pins σ H s) (hH : Rd H l (.lst xs)) :
    xs.length ≤ sizeLine ∧ ∃ (its : List Value) (n : Nat), Vals xs its ∧ xs.length = its.length ∧ s.heap.get? l = some { cls := .type "list", data := .seq its.toArray n } := by
  obtain ⟨z, its, n, r, e⟩ := hH.ok I.hok
  exact ⟨z, its, n, r, r.length, e⟩
theorem op_catR : OpR X (binaryOp .Add) (fun x y H Q => ∃ l b xs zs, x = .ref l ∧ y = .ref b ∧ Rd H l (.lst xs) ∧ Rd H b (.lst zs) ∧ xs.length + zs.length ≤ sizeLine ∧ ∀ p, H p = none → Q (.ref p) (upd H p (.lst (xs ++ zs)))) := by
  intro pins s σ H x y v u Q I rx ry h
  obtain ⟨l, b, xs, zs, rfl, rfl, hH, hB, hz, q⟩ := h
  cases rx
  cases ry
  obtain ⟨z, its, n, r, hl, e⟩ := Rd.lstM I hH
  obtain ⟨z2, its2, n2, r2, hl2, e2⟩ := Rd.lstM I hB
  refine PySem.P.add_list e e2 ?_ (by rw [List.size_toArray, List.size_toArray]; omega)
  have ea : its.toArray ++ its2.toArray = (its ++ its2).toArray := by simp
  rw [ea]
  exact ⟨.ref _, _, I.lnew (t' := s.toks) (r.append r2) (by rw [List.length_append]; omega), rfl, q _ I.fresh⟩
theorem op_repR : OpR X (binaryOp .Mult) (fun x y H Q => ∃ l k xs, x = .ref l ∧ y = .int k ∧ Rd H l (.lst xs) ∧ -(2 ^ 63) ≤ k ∧ k < 2 ^ 63 ∧ xs.length * k.toNat ≤ sizeLine ∧
    ∀ p, H p = none → Q (.ref p) (upd H p (.lst (List.replicate k.toNat xs).flatten))) := by
  intro pins s σ H x y v u Q I rx ry h
  obtain ⟨l, k, xs, rfl, rfl, hH, h1, h2, hz, q⟩ := h
  cases rx
  obtain ⟨t, rfl⟩ := ry
  obtain ⟨z, its, n, r, hl, e⟩ := Rd.lstM I hH
  have hlen : its.toArray.size * k.toNat ≤ sizeLine := by rw [List.size_toArray, ← hl]; exact hz
  have hcap : ¬ its.toArray.size * k.toNat > (2 ^ 63 - 1) / 8 := by
    have : (sizeLine : Nat) ≤ (2 ^ 63 - 1) / 8 := by decide
    omega
  have hfit : ¬ (!Builtin.List.listFitsIndex k) = true := by
    rw [fitsIndex_both h1 h2]
    exact Bool.false_ne_true
  have hlong : ¬ Builtin.List.listTooLong (its.toArray.size * k.toNat) = true := by
    rw [notLongL hlen]
    exact Bool.false_ne_true
  have hnew : List.foldl (fun x1 x2 => x1 ++ x2) #[] (List.replicate (if its.toArray.isEmpty = true then 0 else k.toNat) its.toArray) = (List.replicate k.toNat its).flatten.toArray := by
    have f0 : ∀ m : Nat, List.foldl (fun x1 x2 => x1 ++ x2) #[] (List.replicate m its.toArray) = (List.replicate m its).flatten.toArray := fun m => by
      have := foldl_rep its m []
      rw [List.nil_append] at this
      exact this
    rw [f0]
    cases its with
    | nil => simp
    | cons a r' => rw [if_neg (by simp)]
  refine wpAny_binaryOp_repeat_ref (T := "list") (U := "int") (by decide) ⟨_, e, rfl⟩ (fun s' => typeIs_int s' k t) noFill_list_mul F.fills_int_mul F.slot_int_rmul repeat_list F.slot_int_index.lookup
    (call_meets F.slot_int_rmul (typeIs_int s k t) F.entry_int_rmul (F.args_int_rmul_2 _ _) (int___rmul___int_list k t l its.toArray n)
      ⟨e, rfl, ⟨_, e, rfl⟩, call_meets F.slot_list_mul ⟨_, e, rfl⟩ F.entry_list_mul (F.args_list_mul_2 _ _) (AutoListH.list___mul___list_int_3 l its.toArray n k t hfit hcap hlong) ⟨e, ?_⟩⟩)
  rw [hnew]
  exact ⟨.ref _, _, I.lnew (t' := s.toks) (r.rep k.toNat) (by rw [PyProof.Rows.lm_len_rep_flat, Nat.mul_comm]; exact hz), rfl, q _ I.fresh⟩

abbrev rD (f : D → D → Option D) (K : PySem.W.Frag) : R2 := fun x y H Q => ∃ F a b d, Same F H ∧ RepB K H F a x ∧ RepB K H F b y ∧ f a b = some d ∧ OpPost K H F d Q
theorem reps_eq {α : Type} (n : Nat) (xs : List α) : My.reps n xs = (List.replicate n xs).flatten := by
  induction n with
  | zero => rfl
  | succ n ih => rw [My.reps, ih, List.replicate_succ, List.flatten_cons]
theorem repFs_rep {K : PySem.W.Frag} {F : Hp} {xs : List D} {vs : List V} (r : RepFs K F xs vs) : ∀ n, RepFs K F (My.reps n xs) (List.replicate n vs).flatten
  | 0 => trivial
  | n + 1 => by
    rw [My.reps, List.replicate_succ, List.flatten_cons]
    exact r.append (repFs_rep r n)
theorem bin_add : OpR X (binaryOp .Add) (rD (My.binop .add) X.K) := by
  intro pins s σ H x y v u Q I rx ry h
  obtain ⟨F, a, b, d, sF, ra, rb, hd, q⟩ := h
  cases a <;> cases b <;> simp only [My.binop, reduceCtorEq] at hd
  case int.int i j =>
    cases hd
    exact op_add pins s σ H x y v u Q I rx ry ⟨i, j, ra, rb, q.int sF⟩
  case str.str z w =>
    obtain ⟨hz, rfl⟩ := sized_some hd
    have := SZ_line
    refine op_add_str pins s σ H x y v u Q I rx ry ⟨mkS z, mkS w, ra.1, rb.1, by rw [len_mkS, len_mkS]; omega, ?_⟩
    rw [mkS_app]
    exact q.str sF (by rw [List.length_append]; omega)
  case tup.tup xs ys =>
    obtain ⟨hz, rfl⟩ := sized_some hd
    have := SZ_line
    obtain ⟨p1, vs1, rfl, s1, r1⟩ := ra
    obtain ⟨p2, vs2, rfl, s2, r2⟩ := rb
    have e1 := r1.length
    have e2 := r2.length
    refine op_catA pins s σ H _ _ v u Q I rx ry ⟨p1, p2, vs1, vs2, rfl, rfl, sqT_mono sF s1, sqT_mono sF s2, by omega, fun e => ?_, fun _ e => ?_, fun _ _ => q.tup sF (r1.append r2)⟩
    · subst e
      cases xs with
      | nil => exact q.val sF ⟨p2, vs2, rfl, s2, r2⟩
      | cons _ _ => simp at e1
    · subst e
      cases ys with
      | nil => rw [List.append_nil] at q; exact q.val sF ⟨p1, vs1, rfl, s1, r1⟩
      | cons _ _ => simp at e2
  case lst.lst o1 xs o2 ys =>
    obtain ⟨hz, rfl⟩ := sized_some hd
    have := SZ_line
    obtain ⟨p1, vs1, rfl, s1, r1⟩ := ra
    obtain ⟨p2, vs2, rfl, s2, r2⟩ := rb
    have e1 := r1.length
    have e2 := r2.length
    exact op_catR pins s σ H _ _ v u Q I rx ry ⟨p1, p2, vs1, vs2, rfl, rfl, s1, s2, by omega, q.lst sF (r1.append r2)⟩
theorem bin_sub : OpR X (binaryOp .Sub) (rD (My.binop .sub) X.K) := by
  intro pins s σ H x y v u Q I rx ry h
  obtain ⟨F, a, b, d, sF, ra, rb, hd, q⟩ := h
  cases a <;> cases b <;> simp only [My.binop, reduceCtorEq] at hd
  case int.int i j =>
    cases hd
    exact op_sub pins s σ H x y v u Q I rx ry ⟨i, j, ra, rb, q.int sF⟩
theorem two64 : (18446744073709551616 : Nat) = 2 ^ 64 := by decide
theorem bin_mod : OpR X (binaryOp .Mod) (rD (My.binop .mod) X.K) := by
  intro pins s σ H x y v u Q I rx ry h
  obtain ⟨F, a, b, d, sF, ra, rb, hd, q⟩ := h
  cases a <;> cases b <;> simp only [My.binop, reduceCtorEq] at hd
  case int.int i j =>
    split at hd
    · rename_i hj
      cases hd
      exact op_modN pins s σ H x y v u Q I rx ry ⟨i, j, ra, rb, hj, q.int sF⟩
    · cases hd
theorem bin_pow : OpR X (binaryOp .Pow) (rD (My.binop .pow) X.K) := by
  intro pins s σ H x y v u Q I rx ry h
  obtain ⟨F, a, b, d, sF, ra, rb, hd, q⟩ := h
  cases a <;> cases b <;> simp only [My.binop, reduceCtorEq] at hd
  case int.int i j =>
    split at hd
    · rename_i hj
      cases hd
      exact op_pow pins s σ H x y v u Q I rx ry ⟨i, j, ra, rb, ⟨hj.1, hj.2.1, hj.2.2⟩, q.int sF⟩
    · cases hd
theorem bin_fdiv : OpR X (binaryOp .FloorDiv) (rD (My.binop .fdiv) X.K) := by
  intro pins s σ H x y v u Q I rx ry h
  obtain ⟨F, a, b, d, sF, ra, rb, hd, q⟩ := h
  cases a <;> cases b <;> simp only [My.binop, reduceCtorEq] at hd
  case int.int i j =>
    split at hd
    · rename_i hj
      cases hd
      rcases hj.2 with h1 | ⟨h1, h2⟩
      · exact op_fdivN pins s σ H x y v u Q I rx ry ⟨i, j, ra, rb, ⟨hj.1, h1⟩, q.int sF⟩
      · have q' := q.int sF
        rw [Int.fdiv_eq_ediv_of_nonneg i (by omega)] at q'
        exact op_fdivW pins s σ H x y v u Q I rx ry ⟨i, j, ra, rb, wide_div h1 h2 (by omega) (by omega), q'⟩
    · cases hd
theorem SZ_val : My.SZ = 1000000 := rfl
theorem mkS_reps (z : List Nat) (n : Nat) : (⟨(List.replicate n z.toArray).foldl (· ++ ·) #[]⟩ : Str) = mkS (My.reps n z) := by
  have f0 : ∀ (m : Nat) (a : List Nat), List.foldl (fun x1 x2 : Array Nat => x1 ++ x2) a.toArray (List.replicate m z.toArray) = (a ++ (List.replicate m z).flatten).toArray := fun m => by
    induction m with
    | zero => intro a; simp
    | succ m ih =>
      intro a
      rw [List.replicate_succ, List.foldl_cons, show a.toArray ++ z.toArray = (a ++ z).toArray by simp, ih, List.replicate_succ, List.flatten_cons, List.append_assoc]
  have := f0 n []
  rw [List.nil_append] at this
  rw [reps_eq]
  show (⟨_⟩ : Str) = ⟨_⟩
  rw [← this]
theorem op_mulS : OpR X (binaryOp .Mult) (fun x y H Q => ∃ z k, x = .str (mkS z) ∧ y = .int k ∧ -1000000 ≤ k ∧ k ≤ 1000000 ∧ z.length * k.toNat ≤ 1000000 ∧ Q (.str (mkS (My.reps k.toNat z))) H) := by
  intro pins s σ H x y v u Q I rx ry h
  obtain ⟨z, k, rfl, rfl, h1, h2, hz, q⟩ := h
  obtain ⟨t, rfl⟩ := rx
  obtain ⟨t', rfl⟩ := ry
  have hk : k.toNat ≤ 1000000 := by omega
  refine PySem.SB.mul ⟨?_, fun c1 c2 => ?_, fun c1 c2 => ?_⟩ fun t' tk => ⟨.str (mkS (My.reps k.toNat z)), H, I.tok _, ⟨t', ?_⟩, q⟩
  · rw [decide_eq_false (by omega), decide_eq_false (by omega)]; rfl
  · rw [len_mkS]
    have e : (k : Int) = (k.toNat : Int) := by omega
    have p1 : 1 ≤ k.toNat := by omega
    have h3 : (z.length : Int) * k ≤ 1000000 := by rw [e, ← Int.natCast_mul]; omega
    have h4 : (z.length : Int) ≤ (2 ^ 63 - 1) / k := by
      rw [Int.le_ediv_iff_mul_le (by omega)]
      omega
    omega
  · rw [len_mkS]
    unfold Builtin.Str.tooLong
    have : (1000000 : Nat) ≤ sizeLine := by decide
    exact decide_eq_false (by omega)
  · rw [← mkS_reps]
    unfold Txt.mul
    congr 1
    by_cases c1 : k < 1
    · rw [if_pos c1]
      have : k.toNat = 0 := by omega
      rw [this]
      rfl
    · rw [if_neg c1]
      by_cases c2 : (k == 1 || (mkS z).length == 0) = true
      · rw [if_pos c2]
        rw [mkS_reps]
        rw [len_mkS] at c2
        simp only [Bool.or_eq_true, beq_iff_eq] at c2
        rcases c2 with rfl | c2
        · show mkS z = mkS (z ++ [])
          rw [List.append_nil]
        · have : z = [] := List.eq_nil_of_length_eq_zero c2
          subst this
          simp [reps_eq]
      · rw [if_neg c2]
theorem bin_mul : OpR X (binaryOp .Mult) (rD (My.binop .mul) X.K) := by
  intro pins s σ H x y v u Q I rx ry h
  obtain ⟨F, a, b, d, sF, ra, rb, hd, q⟩ := h
  cases a <;> cases b <;> simp only [My.binop, reduceCtorEq] at hd
  case int.int i j =>
    split at hd
    · rename_i hj
      cases hd
      unfold My.mulOk at hj
      simp only [Bool.or_eq_true, Bool.and_eq_true, decide_eq_true_eq] at hj
      rcases hj with (h1 | h1) | ⟨h1, h2⟩
      · exact op_mul pins s σ H x y v u Q I rx ry ⟨i, j, ra, rb, .inl (by omega), q.int sF⟩
      · exact op_mul pins s σ H x y v u Q I rx ry ⟨i, j, ra, rb, .inr (by omega), q.int sF⟩
      · exact op_mulW pins s σ H x y v u Q I rx ry ⟨i, j, ra, rb, wide_mul h1 h2 (by omega) (by omega) (by omega), q.int sF⟩
    · cases hd
  case str.int z k =>
    split at hd
    · rename_i hk
      obtain ⟨hz, rfl⟩ := sized_some hd
      have := SZ_line
      have := SZ_val
      exact op_mulS pins s σ H x y v u Q I rx ry ⟨z, k, ra.1, rb, by omega, by omega, by omega, q.str sF (by rw [reps_eq]; simp [List.length_flatten, List.map_replicate, List.sum_replicate_nat]; rw [Nat.mul_comm]; omega)⟩
    · cases hd
  case lst.int o xs k =>
    split at hd
    · rename_i hk
      obtain ⟨hz, rfl⟩ := sized_some hd
      have := SZ_line
      obtain ⟨p1, vs1, rfl, s1, r1⟩ := ra
      have e1 := r1.length
      exact op_repR pins s σ H _ _ v u Q I rx ry ⟨p1, k, vs1, rfl, rb, s1, by omega, by omega, by rw [← e1]; omega, q.lst sF (repFs_rep r1 _)⟩
    · cases hd
end
end MyS

set_option Elab.async false
set_option linter.all false
set_option maxRecDepth 100000
set_option autoImplicit false
namespace MyS
open PySem PySem.Spec PyProof.Rows L2
open My (D E Es As OE S Ss Tg)
abbrev XRT := D → Value → Option Addr → Hp → Hp → Prop
section
variable (K : PySem.W.Frag) (XR : XRT) (W : WX) (C : My.Call)
/-- what is wanted of an exception -/
def QX (H F : Hp) (O : Ow) (σ : L2.St) (x : D) : Prop := ∀ cls dx H' F', Same F' H' → Ext H F (Own O) H' F' (fun _ => False) → XR x cls dx H' F' → W cls dx σ H'
def QvE (H F : Hp) (O : Ow) (σ : L2.St) (Q : VK) : My.R (D × My.Env) → Prop
  | .ok (d, e) => ∀ v H' F' O' l, SR K H' F' σ e O' → RepO K H' F' d v l → (∀ a ∈ l, F' a = none ∧ ¬ Own O' a) → Ext H F (Own O) H' F' (OwnP O' l) → Q v H'
  | .exc x => QX XR W H F O σ x
  | .bad => False
def tE (te : E) : TE := fun σ H Q => ∃ F O env, SR K H F σ env O ∧ QvE K XR W H F O σ Q (My.ev C te env)
def tO (te : E) : TE := match te with
  | .v i => tVar i
  | te => tE K XR W C te
def tList : Es → TA
  | .nil => tNil
  | .cons a r => tCons (tO K XR W C a) (tList r)
def QvL (H F : Hp) (O : Ow) (σ : L2.St) (Q : List V → Hp → Prop) : My.R (List D × My.Env) → Prop
  | .ok (ds, e) => ∀ vs H' F' O', SR K H' F' σ e O' → RepBs K H' F' ds vs → Ext H F (Own O) H' F' (Own O') → Q vs H'
  | .exc x => QX XR W H F O σ x
  | .bad => False
end
section
variable {K : PySem.W.Frag} {XR : XRT} {W : WX} {C : My.Call} {H F : Hp} {O : Ow} {σ : L2.St} {env : My.Env}
theorem ownP_nil {O : Ow} {a : Addr} : OwnP O [] a → Own O a := fun h => h.elim id fun z => by simp at z
/-- what came before an exception -/
theorem QX.back {H1 F1 : Hp} {O1 : Ow} {P : Addr → Prop} {x : D} (q : QX XR W H F O σ x) (e : Ext H F (Own O) H1 F1 P) (hP : ∀ a, Own O1 a → P a) : QX XR W H1 F1 O1 σ x :=
  fun cls dx H' F' hs e' r => q cls dx H' F' hs (e.trans ((e'.wide hP))) r
theorem QvE.bind {Q : VK} {r : My.R (D × My.Env)} {f : D × My.Env → My.R (D × My.Env)} (h : QvE K XR W H F O σ Q (r.bind f)) :
    (∃ p, r = .ok p ∧ QvE K XR W H F O σ Q (f p)) ∨ ∃ x, r = .exc x ∧ QX XR W H F O σ x := by
  cases r with
  | ok p => exact .inl ⟨p, rfl, h⟩
  | exc x => exact .inr ⟨x, rfl, h⟩
  | bad => exact h.elim
theorem RepO.monoF {F' : Hp} {d : D} {v : V} {l : List Addr} (h : Same F F') (r : RepO K H F d v l) : RepO K H F' d v l := by
  cases d with
  | lst own xs =>
    cases own with
    | true =>
      obtain ⟨a, vs, e, s, q, rfl⟩ := r
      exact ⟨a, vs, e, s, RepFs.mono h _ _ q, rfl⟩
    | false => exact ⟨RepF.mono h _ _ r.1, r.2⟩
  | _ => exact ⟨RepF.mono h _ _ r.1, r.2⟩
theorem late_nv {β : Type} {a : E} (h : ∀ i, a ≠ .v i) (ra : My.Env → My.R (D × My.Env)) (k : My.Env → My.R (β × My.Env)) (env : My.Env) :
    My.late a ra k env = (ra env).bind fun p => (k p.2).bind fun q => .ok ((My.fz p.1, q.1), q.2) := by
  cases a <;> first | rfl | exact absurd rfl (h _)
/-- a temporary value is from now on everybody's -/
theorem freeze_sr {d : D} {v : V} {l : List Addr} (s : SR K H F σ env O) (r : RepO K H F d v l) (hl : ∀ a ∈ l, F a = none ∧ ¬ Own O a) :
    ∃ F', SR K H F' σ env O ∧ Same F F' ∧ (My.isUnd (My.fz d) = false → RepF K F' (My.fz d) v) ∧ Ext H F (OwnP O l) H F' (Own O) := by
  obtain ⟨F', h1, h2, h3, h4⟩ := r.freeze s.sub fun a ha => (hl a ha).1
  refine ⟨F', ⟨h2, s.len, fun i => (s.slot i).imp id fun ⟨u, e, q⟩ => ⟨u, e, q.monoF h1⟩, s.nodup, s.apart, fun i a ha => ?_⟩, h1, h4, ⟨fun _ _ _ q => q, fun _ q => q, h1, fun a z => (h3 a z).imp id fun z' => .inr (.inr z'), fun a z => .inl (.inl z)⟩⟩
  cases q : F' a with
  | none => rfl
  | some o =>
    rcases h3 a (by rw [q]; simp) with z | z
    · exact absurd (s.off i a ha) z
    · exact absurd ⟨i, ha⟩ (hl a z).2
theorem st_st : ∀ (env : My.Env) (i : Nat) (d e : D), My.st (My.st env i d) i e = My.st env i e
  | [], _, _, _ => rfl
  | _ :: _, 0, _, _ => rfl
  | a :: l, i + 1, d, e => by
    show a :: _ = a :: _
    rw [st_st l i d e]
/-- a slot's value is from now on everybody's -/
theorem freeze_slot (s : SR K H F σ env O) {i : Nat} (hu : My.isUnd (My.fz (My.gt env i)) = false) :
    ∃ F' v, σ[i]? = some (some v) ∧ SR K H F' σ (My.st env i (My.fz (My.gt env i))) (setO O i []) ∧ RepF K F' (My.fz (My.gt env i)) v ∧ Ext H F (Own O) H F' (Own (setO O i [])) := by
  have hi : i < env.length := Nat.lt_of_not_le fun z => by
    rw [gt_big env i z] at hu
    cases hu
  rcases s.slot i with ⟨e, _⟩ | ⟨v, ev, r⟩
  · rw [e] at hu; cases hu
  obtain ⟨F', h1, h2, h3, h4⟩ := r.freeze s.sub fun a ha => s.off i a ha
  have sd := s.drop i
  have sd' : SR K H F' σ (My.st env i .und) (setO O i []) := ⟨h2, sd.len, fun j => (sd.slot j).imp id fun ⟨u, e, q⟩ => ⟨u, e, q.monoF h1⟩, sd.nodup, sd.apart, fun j a ha => by
    by_cases e : j = i
    · subst e; rw [setO_same] at ha; simp at ha
    · rw [setO_ne e] at ha
      cases q : F' a with
      | none => rfl
      | some o =>
        rcases h3 a (by rw [q]; simp) with z | z
        · exact absurd (s.off j a ha) z
        · exact absurd (s.apart j i a ha z) e⟩
  have r' : RepO K H F' (My.fz (My.gt env i)) v [] := by
    have q := h4 hu
    cases e : My.fz (My.gt env i) with
    | lst own xs => rw [e] at q; obtain ⟨rfl, q'⟩ := q; exact ⟨⟨rfl, q'⟩, rfl⟩
    | _ => rw [e] at q; exact ⟨q, rfl⟩
  have w := sd'.set (i := i) (by rw [st_length]; exact hi) r' (by simp)
  have e1 : My.st (My.st env i .und) i (My.fz (My.gt env i)) = My.st env i (My.fz (My.gt env i)) := st_st _ _ _ _
  have e2 : σ.set i (some v) = σ := by
    apply List.ext_getElem?
    intro j
    by_cases z : i = j
    · subst z; rw [List.getElem?_set_self (by rw [← s.len]; exact hi), ev]
    · rw [List.getElem?_set_ne z]
  have e3 : setO (setO O i []) i [] = setO O i [] := by
    funext j
    unfold setO
    split <;> rfl
  rw [e1, e2, e3] at w
  refine ⟨F', v, ev, w, h4 hu, fun _ _ _ q => q, fun _ q => q, h1, fun a z => (h3 a z).imp id fun z' => .inr ⟨i, z'⟩, fun a z => .inl ?_⟩
  obtain ⟨j, hj⟩ := z
  by_cases e : j = i
  · subst e; rw [setO_same] at hj; simp at hj
  · rw [setO_ne e] at hj; exact ⟨j, hj⟩
theorem QvL.bind {β : Type} {Q : List V → Hp → Prop} {r : My.R β} {f : β → My.R (List D × My.Env)} (h : QvL K XR W H F O σ Q (r.bind f)) :
    (∃ p, r = .ok p ∧ QvL K XR W H F O σ Q (f p)) ∨ ∃ x, r = .exc x ∧ QX XR W H F O σ x := by
  cases r with
  | ok p => exact .inl ⟨p, rfl, h⟩
  | exc x => exact .inr ⟨x, rfl, h⟩
  | bad => exact h.elim
theorem tO_v (i : Nat) : tO K XR W C (.v i) = tVar i := rfl
theorem evs_run : ∀ (es : Es) {H F : Hp} {O : Ow} {env : My.Env} {Q : List V → Hp → Prop}, SR K H F σ env O → QvL K XR W H F O σ Q (My.evs C es env) → tList K XR W C es σ H Q
  | .nil, H, F, O, env, Q, s, h => h [] H F O s trivial Ext.refl
  | .cons a r, H, F, O, env, Q, s, h => by
    show tO K XR W C a σ H fun x H1 => tList K XR W C r σ H1 fun xs H2 => Q (x :: xs) H2
    by_cases ha : ∃ i, a = .v i
    · obtain ⟨i, rfl⟩ := ha
      simp only [My.evs, My.late] at h
      by_cases hu : My.isUnd (My.gt env i) = true
      · rw [if_pos hu] at h; exact h.elim
      rw [if_neg hu] at h
      rcases s.slot i with ⟨e, _⟩ | ⟨v, ev, _⟩
      · exact absurd (isUnd_iff.mpr e) hu
      refine ⟨v, ev, evs_run r s ?_⟩
      cases hr : My.evs C r env with
      | bad => rw [hr] at h; exact h.elim
      | exc x => rw [hr] at h; exact h
      | ok p =>
        obtain ⟨ds, e⟩ := p
        rw [hr] at h
        intro vs H' F' O' s' rs x
        simp only [My.R.bind] at h
        by_cases hu2 : My.isUnd (My.gt e i) = true
        · rw [if_pos hu2] at h; exact h.elim
        rw [if_neg hu2] at h
        rcases s'.slot i with ⟨z, _⟩ | ⟨v', ev', r'⟩
        · exact absurd (isUnd_iff.mpr z) hu2
        rw [ev] at ev'
        cases ev'
        exact h (v :: vs) H' F' O' s' ⟨r'.fz s'.sub, rs⟩ x
    · have ha' : ∀ i, a ≠ .v i := fun i e => ha ⟨i, e⟩
      have e1 : tO K XR W C a = tE K XR W C a := by
        cases a <;> first | rfl | exact absurd rfl (ha' _)
      rw [e1]
      simp only [My.evs, late_nv ha'] at h
      refine ⟨F, O, env, s, ?_⟩
      cases hr : My.ev C a env with
      | bad => rw [hr] at h; exact h.elim
      | exc x => rw [hr] at h; exact h
      | ok p =>
        obtain ⟨d, e⟩ := p
        rw [hr] at h
        intro v H1 F1 O1 l s1 r1 hl x1
        obtain ⟨F2, s2, f12, r2, x2⟩ := freeze_sr s1 r1 hl
        have x12 := x1.trans x2
        refine evs_run r s2 ?_
        cases hr2 : My.evs C r e with
        | bad => simp only [My.R.bind_ok, hr2] at h; exact h.elim
        | exc x =>
          simp only [My.R.bind_ok, hr2] at h
          exact QX.back h x12 fun a z => z
        | ok q =>
          obtain ⟨ds, e2⟩ := q
          simp only [My.R.bind_ok, hr2] at h
          intro vs H' F' O' s' rs x
          refine h (v :: vs) H' F' O' s' ⟨?_, rs⟩ (x12.trans x)
          by_cases hu : My.isUnd (My.fz d) = true
          · rw [isUnd_iff.mp hu]; trivial
          · exact RepB.of s'.sub (RepF.mono x.fsub _ _ (r2 (by simpa using hu)))
end
end MyS

set_option Elab.async false
set_option linter.all false
set_option maxRecDepth 100000
set_option autoImplicit false
namespace MyS
open PySem PySem.Spec PyProof.Rows L2
open My (D E Es As OE S Ss Tg)
/-! ### values of Mini as the library's data -/
mutual
def py : D → PyData
  | .und => .none
  | .non => .none
  | .bl b => .bool b
  | .int i => .int i
  | .str s => .str (mkS s)
  | .tup xs => .tuple (pys xs)
  | .lst _ xs => .list (pys xs)
  | .dic _ _ _ => .none
  | .lol _ => .none
  | .exc _ _ => .none
  | .scr ns => .list (ns.map .int)
def pys : List D → List PyData
  | [] => []
  | x :: xs => py x :: pys xs
end
theorem pys_map : ∀ xs : List D, pys xs = xs.map py
  | [] => rfl
  | x :: xs => by rw [pys, pys_map xs]; rfl
mutual
theorem dep_py : ∀ (d : D) (n : Nat), My.dep d = some n → (py d).plain = true ∧ (py d).depth = n
  | .und, _, h => by simp [My.dep] at h
  | .non, _, h => by simp [My.dep] at h; subst h; exact ⟨rfl, rfl⟩
  | .bl _, _, h => by simp [My.dep] at h; subst h; exact ⟨rfl, rfl⟩
  | .int _, _, h => by simp [My.dep] at h; subst h; exact ⟨rfl, rfl⟩
  | .str _, _, h => by simp [My.dep] at h; subst h; exact ⟨rfl, rfl⟩
  | .tup xs, n, h => by
    simp only [My.dep, Option.map_eq_some_iff] at h
    obtain ⟨m, h1, rfl⟩ := h
    obtain ⟨a, b⟩ := deps_py xs m h1
    exact ⟨by simp [py, PyData.plain, a], by simp [py, PyData.depth, b]⟩
  | .lst _ xs, n, h => by
    simp only [My.dep, Option.map_eq_some_iff] at h
    obtain ⟨m, h1, rfl⟩ := h
    obtain ⟨a, b⟩ := deps_py xs m h1
    exact ⟨by simp [py, PyData.plain, a], by simp [py, PyData.depth, b]⟩
  | .dic _ _ _, _, h => by simp [My.dep] at h
  | .lol _, _, h => by simp [My.dep] at h
  | .exc _ _, _, h => by simp [My.dep] at h
  | .scr _, _, h => by simp [My.dep] at h
theorem deps_py : ∀ (xs : List D) (n : Nat), My.deps xs = some n → PyData.plainAll (pys xs) = true ∧ PyData.depthAll (pys xs) = n
  | [], n, h => by simp [My.deps] at h; subst h; exact ⟨rfl, rfl⟩
  | x :: xs, n, h => by
    simp only [My.deps] at h
    cases h1 : My.dep x with
    | none => rw [h1] at h; simp at h
    | some a =>
      cases h2 : My.deps xs with
      | none => rw [h1, h2] at h; simp at h
      | some b =>
        rw [h1, h2] at h
        simp only [Option.some.injEq] at h
        obtain ⟨p1, d1⟩ := dep_py x a h1
        obtain ⟨p2, d2⟩ := deps_py xs b h2
        exact ⟨by simp [pys, PyData.plainAll, p1, p2], by simp [pys, PyData.depthAll, d1, d2, h]⟩
end
theorem plain_py {d : D} (h : My.plain d = true) : (py d).plain = true ∧ (py d).depth ≤ 40 ∧ My.dep d ≠ none := by
  unfold My.plain at h
  cases e : My.dep d with
  | none => rw [e] at h; simp at h
  | some n =>
    rw [e] at h
    obtain ⟨a, b⟩ := dep_py d n e
    exact ⟨a, by rw [b]; simpa using h, by simp⟩
theorem mkS_inj {x y : List Nat} : (mkS x == mkS y) = (x == y) := by
  by_cases h : x = y
  · subst h; simp
  · have : mkS x ≠ mkS y := fun e => h (by
      have := congrArg (fun z : Str => z.cps.toList) e
      simpa [mkS] using this)
    rw [beq_eq_false_iff_ne.mpr this, beq_eq_false_iff_ne.mpr h]
mutual
theorem eqv_py : ∀ (d e : D), My.dep d ≠ none → My.dep e ≠ none → PyData.eqv (py d) (py e) = My.eqv d e
  | .und, _, h, _ => by simp [My.dep] at h
  | .dic _ _ _, _, h, _ => by simp [My.dep] at h
  | .lol _, _, h, _ => by simp [My.dep] at h
  | .exc _ _, _, h, _ => by simp [My.dep] at h
  | .scr _, _, h, _ => by simp [My.dep] at h
  | .non, e, _, h => by cases e <;> simp [My.dep] at h <;> simp [py, PyData.eqv, My.eqv]
  | .bl a, e, _, h => by cases e <;> simp [My.dep] at h <;> simp [py, PyData.eqv, My.eqv]
  | .int a, e, _, h => by cases e <;> simp [My.dep] at h <;> simp [py, PyData.eqv, My.eqv]
  | .str a, e, _, h => by cases e <;> simp [My.dep] at h <;> simp only [py, PyData.eqv, My.eqv, mkS_inj]
  | .tup xs, e, h1, h => by
    have h1' : My.deps xs ≠ none := fun z => h1 (by simp [My.dep, z])
    cases e with
    | tup ys =>
      have h' : My.deps ys ≠ none := fun z => h (by simp [My.dep, z])
      simp only [py, PyData.eqv, My.eqv]
      exact eqvs_py xs ys h1' h'
    | _ => simp [My.dep] at h <;> simp [py, PyData.eqv, My.eqv]
  | .lst _ xs, e, h1, h => by
    have h1' : My.deps xs ≠ none := fun z => h1 (by simp [My.dep, z])
    cases e with
    | lst o ys =>
      have h' : My.deps ys ≠ none := fun z => h (by simp [My.dep, z])
      simp only [py, PyData.eqv, My.eqv]
      exact eqvs_py xs ys h1' h'
    | _ => simp [My.dep] at h <;> simp [py, PyData.eqv, My.eqv]
theorem eqvs_py : ∀ (xs ys : List D), My.deps xs ≠ none → My.deps ys ≠ none → PyData.eqvAll (pys xs) (pys ys) = My.eqvs xs ys
  | [], [], _, _ => rfl
  | [], _ :: _, _, _ => rfl
  | _ :: _, [], _, _ => rfl
  | x :: xs, y :: ys, h1, h2 => by
    have a1 : My.dep x ≠ none := fun z => h1 (by simp [My.deps, z])
    have a2 : My.deps xs ≠ none := fun z => h1 (by simp only [My.deps, z]; cases My.dep x <;> rfl)
    have b1 : My.dep y ≠ none := fun z => h2 (by simp [My.deps, z])
    have b2 : My.deps ys ≠ none := fun z => h2 (by simp only [My.deps, z]; cases My.dep y <;> rfl)
    simp only [pys, PyData.eqvAll, My.eqvs]
    rw [eqv_py x y a1 b1, eqvs_py xs ys a2 b2]
end
section
variable {K : PySem.W.Frag} {F H : Hp}
theorem dpInts : ∀ ns : List Int, DpAll K F (ns.map V.int) (ns.map PyData.int)
  | [] => .nil
  | n :: ns => .cons (.int n) (dpInts ns)
mutual
theorem RepF.dp : ∀ (d : D) (v : V), RepF K F d v → Dp K F v (py d)
  | .und, _, q => q.elim
  | .non, _, q => by rw [show _ = V.non from q]; exact .non
  | .bl b, _, q => by rw [show _ = V.bl b from q]; exact .bl b
  | .int i, _, q => by rw [show _ = V.int i from q]; exact .int i
  | .str s, _, q => by rw [q.1]; exact .str _
  | .tup xs, v, q => by
    obtain ⟨a, vs, rfl, s, r⟩ := q
    exact .tup s (RepFs.dp xs vs r)
  | .lst own xs, v, q => by
    obtain ⟨_, a, vs, rfl, s, r⟩ := q
    exact .lst (.inl s) (RepFs.dp xs vs r)
  | .dic _ _ _, _, q => q.elim
  | .lol _, _, q => q.elim
  | .exc _ _, _, q => q.elim
  | .scr ns, v, q => by
    obtain ⟨a, rfl, s⟩ := q
    exact .lst s (dpInts ns)
theorem RepFs.dp : ∀ (xs : List D) (vs : List V), RepFs K F xs vs → DpAll K F vs (pys xs)
  | [], [], _ => .nil
  | _ :: _, [], q => q.elim
  | [], _ :: _, q => q.elim
  | x :: xs, v :: vs, q => .cons (RepF.dp x v q.1) (RepFs.dp xs vs q.2)
end
theorem DpAll.mono {F' : Hp} (h : Same F F') {vs : List V} {ds : List PyData} (r : DpAll K F vs ds) : DpAll K F' vs ds := by
  refine DpAll.rec (motive_1 := fun v d _ => Dp K F' v d) (motive_2 := fun vs ds _ => DpAll K F' vs ds) ?_ ?_ ?_ ?_ ?_ ?_ ?_ ?_ r
  · exact .non
  · exact fun b => .bl b
  · exact fun i => .int i
  · exact fun x => .str x
  · exact fun s _ ih => .lst (h.seq s) ih
  · exact fun s _ ih => .tup (sqT_mono h s) ih
  · exact .nil
  · exact fun _ _ a b => .cons a b
theorem RepB.dp {d : D} {v : V} (s : Same F H) (q : RepB K H F d v) (hd : My.dep d ≠ none) : Dp K H v (py d) := by
  have one : ∀ {e : D} {u : V}, RepF K F e u → Dp K H u (py e) := fun {e u} r => by
    have := DpAll.mono s (.cons (RepF.dp e u r) .nil)
    cases this with
    | cons a _ => exact a
  cases d with
  | lst own xs =>
    obtain ⟨a, vs, rfl, r, q⟩ := q
    exact .lst (.inl r) (DpAll.mono s (RepFs.dp xs vs q))
  | und => simp [My.dep] at hd
  | non => exact one q
  | bl _ => exact one q
  | int _ => exact one q
  | str _ => exact one q
  | tup _ => exact one q
  | dic _ _ _ => exact q.elim
  | lol _ => exact q.elim
  | exc _ _ => exact q.elim
  | scr _ => exact one q
end
section
variable {X : Cx}
theorem cmp_eq (hu : X.A.units + 64 < cLine) : OpR X (compareOp .Eq) (rD (My.cmpD .eq) X.K) := by
  intro pins s σ H x y v u Q I rx ry h
  obtain ⟨F, a, b, d, sF, ra, rb, hd, q⟩ := h
  simp only [My.cmpD, My.cmpop] at hd
  split at hd
  · rename_i hp
    simp only [Option.map_some, Option.some.injEq] at hd
    subst hd
    rw [Bool.and_eq_true] at hp
    obtain ⟨p1, d1, n1⟩ := plain_py hp.1
    obtain ⟨p2, d2, n2⟩ := plain_py hp.2
    obtain ⟨as, r1⟩ := Dp.reads I _ x v (ra.dp sF n1) rx
    obtain ⟨bs, r2⟩ := Dp.reads I _ y u (rb.dp sF n2) ry
    refine PySem.SeqAt.eq_plain r1 r2 p1 p2 (by have := Nat.min_le_left (py a).depth (py b).depth; omega) ⟨.bl _, H, I, rfl, ?_⟩
    rw [eqv_py a b n1 n2]
    exact q.bl sF
  · simp at hd
theorem cmp_ne (hu : X.A.units + 64 < cLine) : OpR X (compareOp .NotEq) (rD (My.cmpD .ne) X.K) := by
  intro pins s σ H x y v u Q I rx ry h
  obtain ⟨F, a, b, d, sF, ra, rb, hd, q⟩ := h
  simp only [My.cmpD, My.cmpop] at hd
  split at hd
  · rename_i hp
    simp only [Option.map_some, Option.some.injEq] at hd
    subst hd
    rw [Bool.and_eq_true] at hp
    obtain ⟨p1, d1, n1⟩ := plain_py hp.1
    obtain ⟨p2, d2, n2⟩ := plain_py hp.2
    obtain ⟨as, r1⟩ := Dp.reads I _ x v (ra.dp sF n1) rx
    obtain ⟨bs, r2⟩ := Dp.reads I _ y u (rb.dp sF n2) ry
    refine PySem.SeqAt.ne_plain r1 r2 p1 p2 (by have := Nat.min_le_left (py a).depth (py b).depth; omega) ⟨.bl _, H, I, rfl, ?_⟩
    rw [eqv_py a b n1 n2]
    exact q.bl sF
  · simp at hd
theorem cmp_ord {o : My.COp} {op : CmpOp} {p : Int → Int → Bool} (h : OpR X (compareOp op) (rI0 fun i j => .bl (p i j))) (ho : ∀ a b z, My.cmpop o a b = some z → ∃ i j, a = .int i ∧ b = .int j ∧ z = p i j) : OpR X (compareOp op) (rD (My.cmpD o) X.K) := by
  intro pins s σ H x y v u Q I rx ry q
  obtain ⟨F, a, b, d, sF, ra, rb, hd, q⟩ := q
  simp only [My.cmpD, Option.map_eq_some_iff] at hd
  obtain ⟨z, hz, rfl⟩ := hd
  obtain ⟨i, j, rfl, rfl, rfl⟩ := ho a b z hz
  exact h pins s σ H x y v u Q I rx ry ⟨i, j, ra, rb, q.bl sF⟩
theorem cmp_lt : OpR X (compareOp .Lt) (rD (My.cmpD .lt) X.K) := cmp_ord op_lt fun a b z h => by
  cases a <;> cases b <;> simp [My.cmpop] at h
  exact ⟨_, _, rfl, rfl, by simp [← h]⟩
theorem cmp_le : OpR X (compareOp .LtE) (rD (My.cmpD .le) X.K) := cmp_ord op_le fun a b z h => by
  cases a <;> cases b <;> simp [My.cmpop] at h
  exact ⟨_, _, rfl, rfl, by simp [← h]⟩
theorem cmp_gt : OpR X (compareOp .Gt) (rD (My.cmpD .gt) X.K) := cmp_ord op_gt fun a b z h => by
  cases a <;> cases b <;> simp [My.cmpop] at h
  exact ⟨_, _, rfl, rfl, by simp [← h]⟩
theorem cmp_ge : OpR X (compareOp .GtE) (rD (My.cmpD .ge) X.K) := cmp_ord op_ge fun a b z h => by
  cases a <;> cases b <;> simp [My.cmpop] at h
  exact ⟨_, _, rfl, rfl, by simp [← h]⟩
theorem any_find (x : D) (hx : My.dep x ≠ none) : ∀ (xs : List D), My.deps xs ≠ none → ((pys xs).any fun y => PyData.eqv y (py x)) = My.memD x xs
  | [], _ => rfl
  | y :: ys, h => by
    have b1 : My.dep y ≠ none := fun z => h (by simp [My.deps, z])
    have b2 : My.deps ys ≠ none := fun z => h (by simp only [My.deps, z]; cases My.dep y <;> rfl)
    rw [pys, List.any_cons, any_find x hx ys b2, eqv_py y x b1 hx]
    show _ = (My.findD x (y :: ys)).isSome
    rw [show My.findD x (y :: ys) = if My.eqv y x then some 0 else (My.findD x ys).map (· + 1) from rfl]
    cases My.eqv y x <;> simp [My.memD]
theorem cmp_in (hu : X.A.units + 65 < cLine) (neg : Bool) : OpR X (compareOp (if neg then .NotIn else .In)) (rD (My.cmpD (if neg then .notIn else .isIn)) X.K) := by
  intro pins s σ H x y v u Q I rx ry h
  obtain ⟨F, a, b, d, sF, ra, rb, hd, q⟩ := h
  have hm : ∃ z, My.member a b = some z ∧ d = .bl (if neg then !z else z) := by
    cases neg
    · simp only [My.cmpD, My.cmpop, Bool.false_eq_true, if_false, Option.map_eq_some_iff] at hd
      obtain ⟨z, h1, h2⟩ := hd
      exact ⟨z, h1, by simp [h2]⟩
    · simp only [My.cmpD, My.cmpop, if_true, Option.map_eq_some_iff] at hd
      obtain ⟨z, ⟨w, h1, h2⟩, h3⟩ := hd
      exact ⟨w, h1, by simp [← h3, ← h2]⟩
  obtain ⟨z, hz, rfl⟩ := hm
  have seq : ∀ (xs : List D), My.plain a = true → My.plain (.tup xs) = true → z = My.memD a xs → (py b = .list (pys xs) ∨ py b = .tuple (pys xs)) → Dp X.K H y (py b) → wpAny (model X.prog X.w) X.A (compareOp (if neg then .NotIn else .In) v u) (EP X pins σ Q) X.xe s := fun xs h1 h2 h3 h4 h5 => by
    obtain ⟨p1, d1, n1⟩ := plain_py h1
    obtain ⟨p2, d2, n2⟩ := plain_py h2
    have n3 : My.deps xs ≠ none := fun z => n2 (by simp [My.dep, z])
    have p3 : PyData.plainAll (pys xs) = true := by simpa [py, PyData.plain] using p2
    have d3 : PyData.depthAll (pys xs) ≤ 40 := by
      have : PyData.depthAll (pys xs) + 1 ≤ 40 := by simpa [py, PyData.depth] using d2
      omega
    have hu' : X.A.units + 1 + min (PyData.depthAll (pys xs)) (py a).depth < cLine := by have := Nat.min_le_left (PyData.depthAll (pys xs)) (py a).depth; omega
    obtain ⟨as, r1⟩ := Dp.reads I _ x v (ra.dp sF n1) rx
    obtain ⟨bs, r2⟩ := Dp.reads I _ y u h5 ry
    have e := any_find a n1 xs n3
    rw [← h3] at e
    have q1 := q.bl sF
    rcases h4 with h4 | h4 <;> rw [h4] at r2 <;> cases neg
    · exact PySem.SeqAt.in_list_data r2 r1 p3 p1 hu' (by rw [e]; exact ⟨.bl _, H, I, rfl, q1⟩)
    · exact PySem.SeqAt.notIn_list_data r2 r1 p3 p1 hu' (by rw [e]; exact ⟨.bl _, H, I, rfl, q1⟩)
    · exact PySem.SeqAt.in_tuple_data r2 r1 p3 p1 hu' (by rw [e]; exact ⟨.bl _, H, I, rfl, q1⟩)
    · exact PySem.SeqAt.notIn_tuple_data r2 r1 p3 p1 hu' (by rw [e]; exact ⟨.bl _, H, I, rfl, q1⟩)
  cases b with
  | tup xs =>
    simp only [My.member] at hz
    split at hz
    · rename_i hp
      rw [Bool.and_eq_true] at hp
      exact seq xs hp.1 hp.2 (Option.some.inj hz).symm (.inr rfl) (rb.dp sF (plain_py hp.2).2.2)
    · cases hz
  | lst o xs =>
    simp only [My.member] at hz
    split at hz
    · rename_i hp
      rw [Bool.and_eq_true] at hp
      have n2 := (plain_py hp.2).2.2
      exact seq xs hp.1 hp.2 (Option.some.inj hz).symm (.inl rfl) (rb.dp sF (fun z => n2 (by simpa [My.dep] using z)))
    · cases hz
  | dic o ks vs => exact rb.elim
  | str w =>
    simp only [My.member] at hz
    split at hz
    · rename_i c
      have q1 := q.bl sF
      have hc : z = decide (c ∈ (mkS w).cps.toList) := by
        rw [← Option.some.inj hz]
        simp [mkS]
      rw [hc] at q1
      cases neg
      · exact op_in_sign pins s σ H x y v u Q I rx ry ⟨c, mkS w, ra.1, rb.1, q1⟩
      · exact op_notIn_sign pins s σ H x y v u Q I rx ry ⟨c, mkS w, ra.1, rb.1, q1⟩
    · cases hz
  | und => simp [My.member] at hz
  | non => simp [My.member] at hz
  | bl _ => simp [My.member] at hz
  | int _ => simp [My.member] at hz
  | lol _ => simp [My.member] at hz
  | exc _ _ => simp [My.member] at hz
  | scr _ => simp [My.member] at hz
end
end MyS

set_option Elab.async false
set_option linter.all false
set_option maxRecDepth 100000
set_option autoImplicit false
namespace MyS
open PySem PySem.Spec PyProof.Rows L2
open My (D E Es As OE S Ss Tg)
section
variable {X : Cx}
theorem IxR.imp {r r' : R2} (h : IxR X r) (i : ∀ x y H Q, r' x y H Q → r x y H Q) : IxR X r' :=
  fun value slice pins s σ H x y v u Q I rx ry q hs => h value slice pins s σ H x y v u Q I rx ry (i _ _ _ _ q) hs
theorem at_ix {α : Type} (xs : List α) (i : Int) : My.at? xs i = atI xs i := by
  unfold My.at? atI ixN
  by_cases h : 0 ≤ i
  · rw [if_pos h, if_pos h]
    by_cases h2 : i < xs.length
    · rw [if_pos h2]; rfl
    · rw [if_neg h2, List.getElem?_eq_none (by omega)]; rfl
  · rw [if_neg h, if_neg h]
    by_cases h2 : 0 ≤ i + xs.length
    · rw [if_pos h2, if_pos (by omega)]; rfl
    · rw [if_neg h2, if_neg (by omega)]; rfl
theorem atI_rep {K : PySem.W.Frag} {F : Hp} {xs : List D} {vs : List V} {i : Int} {d : D} (r : RepFs K F xs vs) (h : My.at? xs i = some d) : ∃ v, atI vs i = some v ∧ RepF K F d v := by
  rw [at_ix] at h
  unfold atI at h ⊢
  rw [← r.length]
  cases e : ixN xs.length i with
  | none => rw [e] at h; cases h
  | some j =>
    rw [e] at h
    exact r.get h
theorem ix_ok : IxR X (rD My.idxop X.K) := by
  intro value slice pins s σ H x y v u Q I rx ry h hs
  obtain ⟨F, a, b, d, sF, ra, rb, hd, q⟩ := h
  cases a with
  | tup xs =>
    cases b <;> simp only [My.idxop, reduceCtorEq] at hd
    case int i =>
      obtain ⟨p, vs, rfl, r1, r2⟩ := ra
      obtain ⟨w, hw, rw'⟩ := atI_rep r2 hd
      exact ix_tup value slice pins s σ H _ y v u Q I rx ry ⟨p, vs, i, w, rfl, rb, sqT_mono sF r1, hw, q.val sF rw'⟩ hs
  | lst o xs =>
    cases b <;> simp only [My.idxop, reduceCtorEq] at hd
    case int i =>
      obtain ⟨p, vs, rfl, r1, r2⟩ := ra
      obtain ⟨w, hw, rw'⟩ := atI_rep r2 hd
      exact ix_list value slice pins s σ H _ y v u Q I rx ry ⟨p, vs, i, w, rfl, rb, .inl r1, hw, q.val sF rw'⟩ hs
  | str z =>
    cases b <;> simp only [My.idxop, reduceCtorEq, Option.map_eq_some_iff] at hd
    case int i =>
      obtain ⟨c, hc, rfl⟩ := hd
      rw [at_ix] at hc
      exact ix_str value slice pins s σ H x y v u Q I rx ry ⟨mkS z, i, c, ra.1, rb, by rw [len_mkS]; exact ra.2, by simpa [mkS] using hc, q.str (z := [c]) sF (by show 1 ≤ sizeLine; decide)⟩ hs
  | dic o ks vs => exact ra.elim
  | und => simp [My.idxop] at hd
  | non => simp [My.idxop] at hd
  | bl _ => simp [My.idxop] at hd
  | int _ => simp [My.idxop] at hd
  | lol _ => simp [My.idxop] at hd
  | exc _ _ => simp [My.idxop] at hd
  | scr ns =>
    cases b <;> simp only [My.idxop, reduceCtorEq, Option.map_eq_some_iff] at hd
    case int i =>
      obtain ⟨n, hn, rfl⟩ := hd
      obtain ⟨p, rfl, r1⟩ := ra
      refine ix_list value slice pins s σ H _ y v u Q I rx ry ⟨p, ns.map V.int, i, .int n, rfl, rb, sF.seq r1, ?_, q.int sF⟩ hs
      rw [at_ix] at hn
      unfold atI at hn ⊢
      rw [List.length_map]
      cases e : ixN ns.length i with
      | none => rw [e] at hn; cases hn
      | some j =>
        rw [e] at hn
        have hn : ns[j]? = some n := hn
        show (ns.map V.int)[j]? = some (.int n)
        rw [List.getElem?_map, hn]
        rfl

theorem repFs_ints {K : PySem.W.Frag} {F : Hp} : ∀ ns : List Int, RepFs K F (ns.map .int) (ns.map V.int)
  | [] => trivial
  | n :: ns => ⟨rfl, repFs_ints ns⟩
/-! ### slices -/
abbrev rSl (K : PySem.W.Frag) : V → Option Int → Option Int → Hp → VK → Prop := fun x lo hi H Q => ∃ F a d, Same F H ∧ RepB K H F a x ∧ My.slop a lo hi = some d ∧ OpPost K H F d Q
theorem cutAt_ix (n : Nat) (i : Int) (d : Nat) : My.cutAt n i = HT.sIx n d (some i) := by
  unfold My.cutAt HT.sIx
  by_cases h : i < 0
  · rw [if_neg (by omega)]; simp [h]
  · rw [if_pos (by omega)]; simp [h]
theorem cut_ix {α : Type} (xs : List α) (lo hi : Option Int) : My.cut xs lo hi = (xs.drop (HT.sIx xs.length 0 lo)).take (HT.sIx xs.length xs.length hi - HT.sIx xs.length 0 lo) := by
  unfold My.cut
  cases lo with
  | none =>
    cases hi with
    | none => rfl
    | some h => simp only [HT.sIx_none, cutAt_ix _ h xs.length]
  | some l =>
    cases hi with
    | none => simp only [HT.sIx_none, cutAt_ix _ l 0]
    | some h => simp only [cutAt_ix _ l 0, cutAt_ix _ h xs.length]
theorem cut_rep {K : PySem.W.Frag} {F : Hp} {xs : List D} {vs : List V} (r : RepFs K F xs vs) (lo hi : Option Int) : RepFs K F (My.cut xs lo hi) (cutV vs lo hi) := by
  rw [cut_ix]
  unfold cutV
  rw [r.length]
  exact (r.drop _).take _
theorem cut_whole {α : Type} (xs : List α) (lo hi : Option Int) (h : HT.sIx xs.length 0 lo = 0 ∧ HT.sIx xs.length xs.length hi = xs.length) : My.cut xs lo hi = xs := by
  rw [cut_ix, h.1, h.2]
  simp
theorem sl_ok : SlR X (rSl X.K) := by
  intro pins s σ H x v vl vu lo hi sl Q I rx hs pl pu h
  obtain ⟨F, a, d, sF, ra, hd, q⟩ := h
  cases a with
  | tup xs =>
    simp only [My.slop, Option.some.injEq] at hd
    subst hd
    have ra' := ra
    obtain ⟨p, vs, rfl, r1, r2⟩ := ra
    refine sl_tupA pins s σ H _ v vl vu lo hi sl Q I rx hs pl pu ⟨p, vs, rfl, sqT_mono sF r1, fun hw => ?_, fun _ => q.tup sF (cut_rep r2 lo hi)⟩
    rw [← r2.length] at hw
    rw [cut_whole xs lo hi hw] at q
    exact q.val sF ra'
  | lst o xs =>
    simp only [My.slop, Option.some.injEq] at hd
    subst hd
    obtain ⟨p, vs, rfl, r1, r2⟩ := ra
    exact sl_list pins s σ H _ v vl vu lo hi sl Q I rx hs pl pu ⟨p, vs, rfl, .inl r1, q.lst sF (cut_rep r2 lo hi)⟩
  | str z =>
    simp only [My.slop, Option.some.injEq] at hd
    subst hd
    have e : cutS (mkS z) lo hi = mkS (My.cut z lo hi) := by
      rw [cut_ix]
      unfold cutS mkS
      simp [Str.length]
    refine sl_str pins s σ H x v vl vu lo hi sl Q I rx hs pl pu ⟨mkS z, ra.1, by rw [len_mkS]; exact ra.2, ?_⟩
    rw [e]
    refine q.str sF (Nat.le_trans ?_ ra.2)
    rw [cut_ix, List.length_take, List.length_drop]
    omega
  | dic o ks vs => exact ra.elim
  | und => simp [My.slop] at hd
  | non => simp [My.slop] at hd
  | bl _ => simp [My.slop] at hd
  | int _ => simp [My.slop] at hd
  | lol _ => simp [My.slop] at hd
  | exc _ _ => simp [My.slop] at hd
  | scr ns =>
    simp only [My.slop, Option.some.injEq] at hd
    subst hd
    obtain ⟨p, rfl, r1⟩ := ra
    refine sl_list pins s σ H _ v vl vu lo hi sl Q I rx hs pl pu ⟨p, ns.map V.int, rfl, sF.seq r1, ?_⟩
    have e : cutV (ns.map V.int) lo hi = (My.cut ns lo hi).map V.int := by
      rw [cut_ix]
      unfold cutV
      simp
    rw [e]
    exact q.lst sF (repFs_ints _)
end
end MyS

set_option Elab.async false
set_option linter.all false
set_option maxRecDepth 100000
set_option autoImplicit false
namespace MyS
open PySem PySem.Spec PyProof.Rows L2
open My (D E Es As OE S Ss Tg)

/-! ### what the real text is held against -/
structure Tab where
  fns : List (Str × Nat)
  cons : List (Str × D)
  np : Nat → Nat
  dv : Nat → List D
def okName (x : Str) : Bool := !(x == ("__debug__" : Str)) && !(x == ("__classdict__" : Str)) && !(x == ("__name__" : Str))
def visB (sc : Scope) (x : Str) : Bool := match sc.names.lookup x with
  | some .local => true
  | some .cell => true
  | some .free => true
  | _ => false
def locB (sc : Scope) (x : Str) : Bool := match sc.names.lookup x with
  | some .local => true
  | some .cell => true
  | _ => false
def okV (N : List Str) (sc : Scope) (i : Nat) (x : Str) : Bool := decide (N[i]? = some x) && visB sc x && okName x
def glB (sc : Scope) (x : Str) : Bool := decide (sc.names.lookup x = some .globalImplicit) && okName x
def okC : D → Const → Bool
  | .non, .none => true
  | .bl b, .bool c => b == c
  | .int i, .int j => i == j
  | .str s, .str x => decide (x.cps.toList = s) && decide (s.length ≤ 1000)
  | _, _ => false
def okB : My.BOp → Operator → Bool
  | .add, .Add => true
  | .sub, .Sub => true
  | .mul, .Mult => true
  | .fdiv, .FloorDiv => true
  | .mod, .Mod => true
  | .pow, .Pow => true
  | _, _ => false
def okCmp : My.COp → CmpOp → Bool
  | .eq, .Eq => true
  | .ne, .NotEq => true
  | .lt, .Lt => true
  | .le, .LtE => true
  | .gt, .Gt => true
  | .ge, .GtE => true
  | .isIn, .In => true
  | .notIn, .NotIn => true
  | _, _ => false
/-- a built-in function's name, whether it is a class, its own id -/
def bfInfo : My.Bf → Option (Str × Bool × String)
  | .len => some ("len", false, "len")
  | .abs => some ("abs", false, "abs")
  | .min2 => some ("min", false, "min")
  | .max2 => some ("max", false, "max")
  | .int => some ("int", true, "int")
  | .tuple => some ("tuple", true, "tuple")
  | .list => some ("list", true, "list")
  | _ => none
def mtInfo : My.Mt → Option Str
  | .join => some "join"
  | _ => none
/-- a parallel store's names change places at once -/
def pairB (sc : Scope) (ts vs : List Expr) : Bool := true
def isRevSl : Expr → Bool
  | .Slice none none (some (.UnaryOp .USub (.Constant (.int i) _ _) _)) _ => decide (i = 1)
  | _ => false
theorem isRevSl_iff {e : Expr} (h : isRevSl e = true) : ∃ k p1 p2 p3, e = .Slice none none (some (.UnaryOp .USub (.Constant (.int 1) k p1) p2)) p3 := by
  unfold isRevSl at h
  split at h
  · rw [of_decide_eq_true h]; exact ⟨_, _, _, _, rfl⟩
  · cases h
mutual
def okE (T : Tab) (N : List Str) (sc : Scope) : E → Expr → Bool
  | .c d, .Constant c _ _ => okC d c
  | .v i, .Name x _ => okV N sc i x
  | .bin o a b, .BinOp ea op eb _ => okB o op && okE T N sc a ea && okE T N sc b eb
  | .neg a, .UnaryOp .USub ea _ => okE T N sc a ea
  | .cmp o a b, .Compare ea [op] [eb] _ => okCmp o op && okE T N sc a ea && okE T N sc b eb && !behindInMarks op eb
  | .and a b, .BoolOp .And (ea :: eb :: rest) pos => okE T N sc a ea && (match rest with
    | [] => okE T N sc b eb
    | _ => okE T N sc b (.BoolOp .And (eb :: rest) pos))
  | .or a b, .BoolOp .Or (ea :: eb :: rest) pos => okE T N sc a ea && (match rest with
    | [] => okE T N sc b eb
    | _ => okE T N sc b (.BoolOp .Or (eb :: rest) pos))
  | .not a, .UnaryOp .Not ea _ => okE T N sc a ea
  | .tup es, .Tuple xs _ _ => okEs T N sc es xs && decide (xs.length ≤ 1000)
  | .lst es, .List xs _ => okEs T N sc es xs && decide (xs.length ≤ 1000)
  | .idx a i, .Subscript ea ei _ => okE T N sc a ea && okE T N sc i ei
  | .rev a, .Subscript ea ei _ => isRevSl ei && okE T N sc a ea
  | .sl a lo hi, .Subscript ea (.Slice l h none _) _ => okE T N sc a ea && okOE T N sc lo l && okOE T N sc hi h
  | .bf f es, .Call (.Name x _) xs [] _ => (match bfInfo f with
    | some (y, _, _) => decide (x = y)
    | none => false) && glB sc x && okEs T N sc es xs && !xs.isEmpty
  | .meth m a es, .Call (.Attribute ea x apos) xs [] cpos => (match mtInfo m with
    | some y => decide (x = y)
    | none => false) && okE T N sc a ea && okEs T N sc es xs && decide (xs.length = 1) && (apos.endLine == cpos.line)
  | .call f as, .Call (.Name x _) xs [] _ => glB sc x && decide (T.fns.lookup x = some f) && okAs T N sc as xs && !xs.isEmpty && decide (xs.length = T.np f)
  | _, _ => false
def okEs (T : Tab) (N : List Str) (sc : Scope) : Es → List Expr → Bool
  | .nil, [] => true
  | .cons a r, e :: es => okE T N sc a e && okEs T N sc r es
  | _, _ => false
def okAs (T : Tab) (N : List Str) (sc : Scope) : As → List Expr → Bool
  | .nil, [] => true
  | .cons _ a r, e :: es => okE T N sc a e && okAs T N sc r es
  | _, _ => false
def okOE (T : Tab) (N : List Str) (sc : Scope) : OE → Option Expr → Bool
  | .none, none => true
  | .some a, some e => okE T N sc a e
  | _, _ => false
end

/-! ### the context -/
def blts : List Str := ["len", "abs", "min", "max", "int", "tuple", "list", "range", "sorted", "sum", "all", "str", "repr", "isinstance", "set", "enumerate", "zip", "reversed", "dict"]
abbrev OwnNone : Addr → Prop := fun _ => False
/-- a def's promise: what Mini computes of it -/
def spF (K : PySem.W.Frag) (XR : XRT) (C : My.Call) (f n : Nat) : Sp := fun vs H Q E => vs.length = n ∧ ∃ F O ds, SR K H F (vs.map some) ds O ∧
  match C f ds with
  | .ok (r, os) => ∀ v H' F' O' l, SR K H' F' (vs.map some) os O' → RepO K H' F' r v l → (∀ a ∈ l, F' a = none ∧ ¬ Own O' a) → Ext H F (Own O) H' F' (OwnP O' l) → Q v H'
  | .exc x => ∀ cls dx H' F', Same F' H' → Ext H F (Own O) H' F' (fun _ => False) → XR x cls dx H' F' → E cls dx H'
  | .bad => False
structure Facts (X : Cx) (XR : XRT) (T : Tab) (C : My.Call) (k : Nat) : Prop where
  blt : ∀ x ∈ blts, X.mg x = none
  cons : ∀ x d, T.cons.lookup x = some d → ∃ u v, X.mg x = some u ∧ RelV v u ∧ ∀ F, RepF X.K F d v
  fns : ∀ x f, T.fns.lookup x = some f → ∃ a fd ps, X.mg x = some (.ref a) ∧ PySem.W.keepIn X.K (.ref a) = true ∧ ps.length = T.np f ∧ Binds X.K fd ps [] ∧ FnOk X.prog X.w X.K X.mg X.base (L2.CX X.prog X.w) k a fd ps (spF X.K XR C f (T.np f))
structure Good (X : Cx) (XR : XRT) (W : WX) (T : Tab) (C : My.Call) (N : List Str) (sc : Scope) (k : Nat) : Prop where
  calm : X.calm = true
  nd : X.N.Nodup
  N : X.N = N
  sc : X.env.scope = sc
  room : Room k X.A
  tk : Takes X W
  pass : PassesOwn (model X.prog X.w) X.A X.env X.xe
  fn : ∀ x, X.env.scope.names.lookup x = some .cell → X.fn x = true
  facts : Facts X XR T C k
section
variable {X : Cx} {XR : XRT} {W : WX} {T : Tab} {C : My.Call} {N : List Str} {sc : Scope} {k : Nat}
theorem PE.imp {e : Expr} {t t' : TE} (h : PE X e t) (i : ∀ σ H Q, t' σ H Q → t σ H Q) : PE X e t' := ⟨fun pins s σ H Q I q => h.run pins s σ H Q I (i σ H Q q)⟩
theorem PT.imp {e : Expr} {t t' : TT} (h : PT X e t) (i : ∀ σ H Q, t' σ H Q → t σ H Q) : PT X e t' := ⟨fun pins s σ H Q I q => h.run pins s σ H Q I (i σ H Q q)⟩
theorem okName_iff {x : Str} (h : okName x = true) : (x == ("__debug__" : Str)) = false ∧ (x == ("__classdict__" : Str)) = false ∧ x ≠ "__name__" := by
  unfold okName at h
  simp only [Bool.and_eq_true, Bool.not_eq_true'] at h
  exact ⟨h.1.1, h.1.2, fun e => by rw [e] at h; simp at h⟩
theorem vis_of {x : Str} (h : visB sc x = true) : Vis sc x := by
  unfold visB at h
  unfold Vis
  split at h <;> simp_all
theorem okV_iff {i : Nat} {x : Str} (h : okV N sc i x = true) : N[i]? = some x ∧ Vis sc x ∧ okName x = true := by
  unfold okV at h
  simp only [Bool.and_eq_true, decide_eq_true_eq] at h
  exact ⟨h.1.1, vis_of h.1.2, h.2⟩
theorem var_ok (G : Good X XR W T C N sc k) {i : Nat} {x : Str} {pos : Pos} (h : okV N sc i x = true) : PE X (.Name x pos) (tVar i) := by
  obtain ⟨h1, h2, h3⟩ := okV_iff h
  obtain ⟨n1, n2, _⟩ := okName_iff h3
  exact pe_var (by rw [G.N]; exact h1) (by rw [G.sc]; exact h2) n1 n2
/-- a name is everybody's where it is handed on -/
theorem v_run {σ : L2.St} {H : Hp} {Q : VK} {i : Nat} (h : tE X.K XR W C (.v i) σ H Q) : tVar i σ H Q := by
  obtain ⟨F, O, env, s, q⟩ := h
  simp only [My.ev] at q
  by_cases hu : My.isUnd (My.fz (My.gt env i)) = true
  · rw [if_pos hu] at q; exact q.elim
  rw [if_neg hu] at q
  obtain ⟨F', v, ev, s', r, x⟩ := freeze_slot s (by simpa using hu)
  refine ⟨v, ev, q v H F' (setO O i []) [] s' ?_ (by simp) (x.mono fun _ z => ownP_nil z)⟩
  cases e : My.fz (My.gt env i) with
  | lst own xs => rw [e] at r; obtain ⟨rfl, q'⟩ := r; exact ⟨⟨rfl, q'⟩, rfl⟩
  | _ => rw [e] at r; exact ⟨r, rfl⟩
theorem glob_of (G : Good X XR W T C N sc k) {x : Str} (h : glB sc x = true) : Gl X x ∧ (x == ("__debug__" : Str)) = false ∧ x ≠ "__name__" := by
  unfold glB at h
  simp only [Bool.and_eq_true, decide_eq_true_eq] at h
  obtain ⟨n1, n2, n3⟩ := okName_iff h.2
  refine ⟨?_, n1, n3⟩
  show X.env.scope.names.lookup x = some .globalImplicit
  rw [G.sc]
  exact h.1
theorem okE_star {te : E} {e : Expr} (h : okE T N sc te e = true) : ∀ a p, e ≠ .Starred a p := fun a p z => by
  subst z
  cases te <;> simp [okE] at h
theorem star_one {e : Expr} {es : List Expr} {env : PySem.Env} (h : ∀ a p, e ≠ .Starred a p) : starEach (e :: es) env = (false, eval e env) :: starEach es env := by
  cases e <;> first | rfl | exact absurd rfl (h _ _)
theorem okEs_plain : ∀ {es : Es} {xs : List Expr}, okEs T N sc es xs = true → ∀ (env : PySem.Env) (pos : Pos), (backTo pos (starEach xs env)).any (·.1) = false
  | .nil, [], _, _, _ => rfl
  | .nil, _ :: _, h, _, _ => by simp [okEs] at h
  | .cons _ _, [], h, _, _ => by simp [okEs] at h
  | .cons a r, e :: es, h, env, pos => by
    simp only [okEs, Bool.and_eq_true] at h
    rw [star_one (okE_star h.1)]
    simpa [backTo] using okEs_plain h.2 env pos
end
end MyS

set_option Elab.async false
set_option linter.all false
set_option maxRecDepth 100000
set_option autoImplicit false
namespace MyS
open PySem PySem.Spec PyProof.Rows L2
open My (D E Es As OE S Ss Tg)
section
variable {K : PySem.W.Frag} {XR : XRT} {W : WX} {C : My.Call} {H F : Hp} {O : Ow} {σ : L2.St} {env : My.Env} {Q : VK}
theorem post_end {H' F' : Hp} {O' : Ow} {e : My.Env} {d : D} (s' : SR K H' F' σ e O') (x : Ext H F (Own O) H' F' (Own O')) (q : QvE K XR W H F O σ Q (.ok (d, e))) : OpPost K H' F' d Q := by
  intro v H2 F2 l sH sF sFH new r hl
  have x2 : Ext H' F' OwnNone H2 F2 OwnNone := ⟨fun a o _ h => sH a o h, fun a h => sH.free h, sF, fun a h => (new a h).imp id .inl, fun _ z => z.elim⟩
  refine q v H2 F2 O' l (s'.step x2 (fun _ _ z => z) sFH) r (fun a ha => ⟨(hl a ha).2, fun z => s'.there z (hl a ha).1⟩) ?_
  have x3 : Ext H' F' (Own O') H2 F2 (OwnP O' l) := ⟨fun a o _ h => sH a o h, fun a h => sH.free h, sF, fun a h => (new a h).imp id .inl, fun a z => z.imp id fun z => (hl a z).1⟩
  exact x.trans x3
/-- operands by values -/
abbrev rDs (f : List D → Option D) (K : PySem.W.Frag) (Q : VK) : List V → Hp → Prop := fun vs H => ∃ F ds d, Same F H ∧ RepBs K H F ds vs ∧ f ds = some d ∧ OpPost K H F d Q
theorem opn_run {es : Es} {f : List D → Option D} (s : SR K H F σ env O) (q : QvE K XR W H F O σ Q ((My.evs C es env).bind fun p => (My.opt (f p.1)).bind fun z => .ok (z, p.2))) :
    tList K XR W C es σ H (rDs f K Q) := by
  refine evs_run es s ?_
  cases hr : My.evs C es env with
  | bad => rw [hr] at q; exact q.elim
  | exc x => rw [hr] at q; exact q
  | ok p =>
    obtain ⟨ds, e⟩ := p
    rw [hr] at q
    simp only [My.R.bind_ok] at q
    intro vs H' F' O' s' rs x
    cases hf : f ds with
    | none => rw [hf] at q; exact q.elim
    | some d =>
      rw [hf] at q
      exact ⟨F', ds, d, s'.sub, rs, hf, post_end s' x q⟩
theorem repBs_two {d1 d2 : D} {x y : V} (h : RepBs K H F [d1, d2] [x, y]) : RepB K H F d1 x ∧ RepB K H F d2 y := ⟨h.1, h.2.1⟩
theorem rDs_two {f : D → D → Option D} {x y : V} (h : rDs (My.l2 f) K Q [x, y] H) : rD f K x y H Q := by
  obtain ⟨F, ds, d, s, r, hd, q⟩ := h
  match ds, r, hd with
  | [a, b], r, hd => exact ⟨F, a, b, d, s, r.1, r.2.1, hd, q⟩
theorem op2_run {a b : E} {f : D → D → Option D} (s : SR K H F σ env O) (q : QvE K XR W H F O σ Q ((My.ev2 a b (My.ev C a) (My.ev C b) env).bind fun p => (My.opt (My.l2 f p.1)).bind fun z => .ok (z, p.2))) :
    tOp (rD f K) (tO K XR W C a) (tO K XR W C b) σ H Q := by
  have h : tList K XR W C (.cons a (.cons b .nil)) σ H fun vs H2 => rDs (My.l2 f) K Q vs H2 := opn_run s q
  have mono : ∀ {e : E} {H : Hp} {Q Q' : VK}, (∀ v H, Q v H → Q' v H) → tO K XR W C e σ H Q → tO K XR W C e σ H Q' := fun {e H Q Q'} hQ h => by
    have hE : ∀ {e : E}, tE K XR W C e σ H Q → tE K XR W C e σ H Q' := fun {e} h => by
      obtain ⟨F, O, env, s, q⟩ := h
      refine ⟨F, O, env, s, ?_⟩
      cases hr : My.ev C e env with
      | bad => rw [hr] at q; exact q.elim
      | exc x => rw [hr] at q; exact q
      | ok p => rw [hr] at q; exact fun v H' F' O' l a b c d => hQ _ _ (q v H' F' O' l a b c d)
    cases e <;> first | exact hE h | (obtain ⟨v, e, h⟩ := h; exact ⟨v, e, hQ _ _ h⟩)
  exact mono (fun x H1 h1 => mono (fun y H2 h2 => rDs_two h2) h1) h
end
end MyS

set_option Elab.async false
set_option linter.all false
set_option maxRecDepth 100000
set_option autoImplicit false
namespace MyS
open PySem PySem.Spec PyProof.Rows L2
open My (D E Es As OE S Ss Tg)
section
variable {K : PySem.W.Frag} {XR : XRT} {W : WX} {C : My.Call} {H F : Hp} {O : Ow} {σ : L2.St} {env : My.Env} {Q : VK}
theorem tE_mono {e : E} {Q' : VK} (hQ : ∀ v H, Q v H → Q' v H) (h : tE K XR W C e σ H Q) : tE K XR W C e σ H Q' := by
  obtain ⟨F, O, env, s, q⟩ := h
  refine ⟨F, O, env, s, ?_⟩
  cases hr : My.ev C e env with
  | bad => rw [hr] at q; exact q.elim
  | exc x => rw [hr] at q; exact q
  | ok p => rw [hr] at q; exact fun v H' F' O' l a b c d => hQ _ _ (q v H' F' O' l a b c d)
theorem QvE.back {H1 F1 : Hp} {O1 : Ow} {r : My.R (D × My.Env)} (q : QvE K XR W H F O σ Q r) (x : Ext H F (Own O) H1 F1 (Own O1)) : QvE K XR W H1 F1 O1 σ Q r := by
  cases r with
  | bad => exact q
  | exc y => exact QX.back q x fun _ z => z
  | ok p => exact fun v H' F' O' l a b c d => q v H' F' O' l a b c (x.trans d)
theorem repO_frz {d : D} {v : V} (r : RepF K F d v) : RepO K H F d v [] := by
  cases d with
  | lst own xs => obtain ⟨rfl, q⟩ := r; exact ⟨⟨rfl, q⟩, rfl⟩
  | _ => exact ⟨r, rfl⟩
theorem fz_frz {d : D} {v : V} (r : RepF K F d v) : My.fz d = d := by
  cases d with
  | lst own xs => obtain ⟨rfl, _⟩ := r; rfl
  | dic _ _ _ => exact r.elim
  | lol _ => exact r.elim
  | _ => rfl
/-- items of a display -/
def tX (K : PySem.W.Frag) (XR : XRT) (W : WX) (C : My.Call) : Es → TA
  | .nil => tNil
  | .cons a r => tCons (tE K XR W C a) (tX K XR W C r)
def QvX (K : PySem.W.Frag) (XR : XRT) (W : WX) (H F : Hp) (O : Ow) (σ : L2.St) (Q : List V → Hp → Prop) : My.R (List D × My.Env) → Prop
  | .ok (ds, e) => ∀ vs H' F' O', SR K H' F' σ e O' → RepFs K F' ds vs → Ext H F (Own O) H' F' (Own O') → Q vs H'
  | .exc x => QX XR W H F O σ x
  | .bad => False
theorem not_und {d : D} {v : V} {l : List Addr} (r : RepO K H F d v l) : My.isUnd (My.fz d) = false := by
  cases d with
  | lst own xs => rfl
  | dic _ _ _ => exact r.1.elim
  | lol _ => exact r.1.elim
  | und => exact r.1.elim
  | _ => rfl
theorem evX_run : ∀ (es : Es) {H F : Hp} {O : Ow} {env : My.Env} {Q : List V → Hp → Prop}, SR K H F σ env O → QvX K XR W H F O σ Q (My.evX C es env) → tX K XR W C es σ H Q
  | .nil, H, F, O, env, Q, s, h => h [] H F O s trivial Ext.refl
  | .cons a r, H, F, O, env, Q, s, h => by
    show tE K XR W C a σ H fun x H1 => tX K XR W C r σ H1 fun xs H2 => Q (x :: xs) H2
    simp only [My.evX] at h
    refine ⟨F, O, env, s, ?_⟩
    cases hr : My.ev C a env with
    | bad => rw [hr] at h; exact h.elim
    | exc x => rw [hr] at h; exact h
    | ok p =>
      obtain ⟨d, e⟩ := p
      rw [hr] at h
      intro v H1 F1 O1 l s1 r1 hl x1
      obtain ⟨F2, s2, f12, r2, x2⟩ := freeze_sr s1 r1 hl
      have x12 := x1.trans x2
      refine evX_run r s2 ?_
      cases hr2 : My.evX C r e with
      | bad => simp only [My.R.bind_ok, hr2] at h; exact h.elim
      | exc x =>
        simp only [My.R.bind_ok, hr2] at h
        exact QX.back h x12 fun a z => z
      | ok q =>
        obtain ⟨ds, e2⟩ := q
        simp only [My.R.bind_ok, hr2] at h
        intro vs H' F' O' s' rs x
        exact h (v :: vs) H' F' O' s' ⟨RepF.mono x.fsub _ _ (r2 (not_und r1)), rs⟩ (x12.trans x)

theorem Ext.add {H F H1 F1 : Hp} {O O1 : Addr → Prop} (x : Ext H F O H1 F1 O1) (P : Addr → Prop) : Ext H F (fun a => O a ∨ P a) H1 F1 (fun a => O1 a ∨ P a) :=
  ⟨fun a o n h => x.keep a o (fun z => n (.inl z)) h, x.there, x.fsub, fun a h => (x.fnew a h).imp id fun z => z.imp id .inl, fun a h => h.elim (fun z => (x.onew a z).imp .inl id) fun z => .inl (.inr z)⟩
/-! ### arguments of a def -/
def tAs (K : PySem.W.Frag) (XR : XRT) (W : WX) (C : My.Call) : As → TA
  | .nil => tNil
  | .cons _ a r => tCons (tO K XR W C a) (tAs K XR W C r)
def linkA : As → List V → L2.St → Prop
  | .nil, [], _ => True
  | .cons io a r, v :: vs, σ => (∀ i, a = .v i → io = true → σ[i]? = some (some v)) ∧ linkA r vs σ
  | _, _, _ => False
def consO (l : List Addr) (O : Ow) : Ow
  | 0 => l
  | j + 1 => O j
def QvA (K : PySem.W.Frag) (XR : XRT) (W : WX) (as : As) (H F : Hp) (O : Ow) (σ : L2.St) (Q : List V → Hp → Prop) : My.R (List D × My.Env) → Prop
  | .ok (ds, e) => ∀ vs H' F' O' Oa, SR K H' F' σ e O' → SR K H' F' (vs.map some) ds Oa → (∀ a, Own O' a → ¬ Own Oa a) → Ext H F (Own O) H' F' (fun a => Own O' a ∨ Own Oa a) → linkA as vs σ → Q vs H'
  | .exc x => QX XR W H F O σ x
  | .bad => False
theorem own_consO {l : List Addr} {O : Ow} {a : Addr} (h : Own (consO l O) a) : a ∈ l ∨ Own O a := by
  obtain ⟨j, hj⟩ := h
  cases j with
  | zero => exact .inl hj
  | succ j => exact .inr ⟨j, hj⟩
theorem SR.cons {vs : List V} {ds : List D} {Oa : Ow} {d : D} {v : V} {l : List Addr} (s : SR K H F (vs.map some) ds Oa) (r : RepO K H F d v l) (hl : ∀ a ∈ l, F a = none ∧ ¬ Own Oa a) : SR K H F ((v :: vs).map some) (d :: ds) (consO l Oa) where
  sub := s.sub
  len := by simp [s.len]
  slot := fun i => by
    cases i with
    | zero => exact .inr ⟨v, rfl, r⟩
    | succ i => exact s.slot i
  nodup := fun i => by
    cases i with
    | zero => exact r.one
    | succ i => exact s.nodup i
  apart := fun i j a h1 h2 => by
    cases i with
    | zero =>
      cases j with
      | zero => rfl
      | succ j => exact absurd ⟨j, h2⟩ (hl a h1).2
    | succ i =>
      cases j with
      | zero => exact absurd ⟨i, h1⟩ (hl a h2).2
      | succ j => rw [s.apart i j a h1 h2]
  off := fun i a h => by
    cases i with
    | zero => exact (hl a h).1
    | succ i => exact s.off i a h
/-- an unknown value ahead -/
theorem SR.consU {vs : List V} {ds : List D} {Oa : Ow} {v : V} (s : SR K H F (vs.map some) ds Oa) : SR K H F ((v :: vs).map some) (.und :: ds) (consO [] Oa) where
  sub := s.sub
  len := by simp [s.len]
  slot := fun i => by
    cases i with
    | zero => exact .inl ⟨rfl, rfl⟩
    | succ i => exact s.slot i
  nodup := fun i => by
    cases i with
    | zero => simp [consO]
    | succ i => exact s.nodup i
  apart := fun i j a h1 h2 => by
    cases i with
    | zero => simp [consO] at h1
    | succ i =>
      cases j with
      | zero => simp [consO] at h2
      | succ j => rw [s.apart i j a h1 h2]
  off := fun i a h => by
    cases i with
    | zero => simp [consO] at h
    | succ i => exact s.off i a h
theorem evA_nv {io : Bool} {a : E} {r : As} (h : ∀ i, a ≠ .v i) (env : My.Env) : My.evA C (.cons io a r) env = (My.ev C a env).bind fun p => (My.evA C r p.2).bind fun q => .ok ((if io then p.1 else My.fz p.1) :: q.1, q.2) := by
  cases a <;> first | rfl | exact absurd rfl (h _)
theorem evA_run : ∀ (as : As) {H F : Hp} {O : Ow} {env : My.Env} {Q : List V → Hp → Prop}, SR K H F σ env O → QvA K XR W as H F O σ Q (My.evA C as env) → tAs K XR W C as σ H Q
  | .nil, H, F, O, env, Q, s, h => by
    refine h [] H F O (fun _ => []) s ⟨s.sub, rfl, fun i => .inl ⟨?_, rfl⟩, fun _ => by simp, fun _ _ _ z => by simp at z, fun _ _ z => by simp at z⟩ (fun a _ ⟨_, z⟩ => by simp at z) (Ext.refl.mono fun a z => z.elim id fun ⟨_, z⟩ => by simp at z) trivial
    rfl
  | .cons io a r, H, F, O, env, Q, s, h => by
    show tO K XR W C a σ H fun x H1 => tAs K XR W C r σ H1 fun xs H2 => Q (x :: xs) H2
    by_cases ha : ∃ i, a = .v i
    · obtain ⟨i, rfl⟩ := ha
      simp only [My.evA] at h
      by_cases hu : My.isUnd (My.gt env i) = true
      · rw [if_pos hu] at h; exact h.elim
      rw [if_neg hu] at h
      rcases s.slot i with ⟨e, _⟩ | ⟨v, ev, _⟩
      · exact absurd (isUnd_iff.mpr e) hu
      refine ⟨v, ev, evA_run r s ?_⟩
      cases hr : My.evA C r env with
      | bad => rw [hr] at h; exact h.elim
      | exc x => rw [hr] at h; exact h
      | ok p =>
        obtain ⟨ds, e⟩ := p
        rw [hr] at h
        intro vs H' F' O' Oa s' sa dj x lk
        simp only [My.R.bind_ok, My.passA] at h
        by_cases hu2 : My.isUnd (My.gt e i) = true
        · rw [if_pos hu2] at h; exact h.elim
        rw [if_neg hu2] at h
        rcases s'.slot i with ⟨z, _⟩ | ⟨v', ev', r'⟩
        · exact absurd (isUnd_iff.mpr z) hu2
        rw [ev] at ev'
        cases ev'
        cases io with
        | true =>
          refine h (v :: vs) H' F' (setO O' i []) (consO (O' i) Oa) (s'.drop i) (sa.cons r' fun a ha => ⟨s'.off i a ha, dj a ⟨i, ha⟩⟩) (fun a h1 h2 => ?_) (x.mono fun a z => ?_) ⟨fun j ej _ => by cases ej; exact ev, lk⟩
          · obtain ⟨j, hj⟩ := h1
            by_cases e : j = i
            · subst e; rw [setO_same] at hj; simp at hj
            · rw [setO_ne e] at hj
              rcases own_consO h2 with z | z
              · exact e (s'.apart j i a hj z)
              · exact dj a ⟨j, hj⟩ z
          · rcases z with z | z
            · exact (own_setO z).elim .inl fun z => by simp at z
            · exact (own_consO z).elim (fun z => .inl ⟨i, z⟩) .inr
        | false =>
          obtain ⟨F2, v2, ev2, s2, rf, x2⟩ := freeze_slot s' (not_und r')
          rw [ev] at ev2
          cases ev2
          have sa2 : SR K H' F2 (vs.map some) ds Oa := ⟨s2.sub, sa.len, fun j => (sa.slot j).imp id fun ⟨u, e, q⟩ => ⟨u, e, q.monoF x2.fsub⟩, sa.nodup, sa.apart, fun j a ha => by
            cases q : F2 a with
            | none => rfl
            | some o =>
              rcases x2.fnew a (by rw [q]; simp) with z | z | z
              · exact absurd (sa.off j a ha) z
              · exact absurd z (sa.there ⟨j, ha⟩)
              · exact absurd ⟨j, ha⟩ (dj a z)⟩
          refine h (v :: vs) H' F2 (setO O' i []) (consO [] Oa) s2 (sa2.cons (repO_frz rf) (by simp)) (fun a h1 h2 => ?_) ?_ ⟨fun j ej z => by simp at z, lk⟩
          · have h1' : Own O' a := (own_setO h1).elim id fun z => by simp at z
            rcases own_consO h2 with z | z
            · simp at z
            · exact dj a h1' z
          · exact (x.trans (x2.add (Own Oa))).mono fun a z => z.imp id fun z => (own_consO z).elim (fun z => by simp at z) id
    · have ha' : ∀ i, a ≠ .v i := fun i e => ha ⟨i, e⟩
      have e1 : tO K XR W C a = tE K XR W C a := by
        cases a <;> first | rfl | exact absurd rfl (ha' _)
      rw [e1]
      rw [evA_nv ha'] at h
      refine ⟨F, O, env, s, ?_⟩
      cases hr : My.ev C a env with
      | bad => rw [hr] at h; exact h.elim
      | exc x => rw [hr] at h; exact h
      | ok p =>
        obtain ⟨d, e⟩ := p
        rw [hr] at h
        intro v H1 F1 O1 l s1 r1 hl x1
        cases io with
        | true =>
          refine evA_run r s1 ?_
          cases hr2 : My.evA C r e with
          | bad => simp only [My.R.bind_ok, hr2] at h; exact h.elim
          | exc x =>
            simp only [My.R.bind_ok, hr2] at h
            exact QX.back h x1 fun a z => .inl z
          | ok q =>
            obtain ⟨ds, e2⟩ := q
            simp only [My.R.bind_ok, hr2, if_true] at h
            intro vs H' F' O' Oa s' sa dj x lk
            have r2 := r1.step x fun a ha => (hl a ha).2
            have old : ∀ a ∈ l, ¬ (Own O' a ∨ Own Oa a) := fun a ha z => (x.onew a z).elim (hl a ha).2 (r1.there a ha)
            refine h (v :: vs) H' F' O' (consO l Oa) s' (sa.cons r2 fun a ha => ⟨?_, fun z => old a ha (.inr z)⟩) (fun a h1 h2 => (own_consO h2).elim (fun z => old a z (.inl h1)) (dj a h1)) ?_ ⟨fun i ei => absurd ei (ha' i), lk⟩
            · cases q : F' a with
              | none => rfl
              | some o =>
                rcases x.fnew a (by rw [q]; simp) with z | z | z
                · exact absurd (hl a ha).1 z
                · exact absurd z (r1.there a ha)
                · exact absurd z (hl a ha).2
            · exact (x1.trans (x.add (· ∈ l))).mono fun a z => z.elim (fun z => .inl (.inl z)) fun z => (own_consO z).elim .inr fun z => .inl (.inr z)
        | false =>
          obtain ⟨F2, s2, f12, r2, x2⟩ := freeze_sr s1 r1 hl
          have x12 := x1.trans x2
          refine evA_run r s2 ?_
          cases hr2 : My.evA C r e with
          | bad => simp only [My.R.bind_ok, hr2] at h; exact h.elim
          | exc x =>
            simp only [My.R.bind_ok, hr2] at h
            exact QX.back h x12 fun a z => z
          | ok q =>
            obtain ⟨ds, e2⟩ := q
            simp only [My.R.bind_ok, hr2] at h
            intro vs H' F' O' Oa s' sa dj x lk
            refine h (v :: vs) H' F' O' (consO [] Oa) s' (sa.cons (repO_frz (RepF.mono x.fsub _ _ (r2 (not_und r1)))) (by simp)) (fun a h1 h2 => (own_consO h2).elim (fun z => by simp at z) (dj a h1)) ?_ ⟨fun i ei => absurd ei (ha' i), lk⟩
            exact (x12.trans x).mono fun a z => z.imp id fun z => (own_consO z).elim (fun z => by simp at z) id

/-! ### behind a call: what was handed in comes back -/
theorem putBack_run : ∀ (as : As) {vs : List V} {os : List D} {O' : Ow} {H' F' : Hp} {e : My.Env} {Oa : Ow}, SR K H' F' σ e O' → SR K H' F' (vs.map some) os Oa → (∀ a, Own O' a → ¬ Own Oa a) → linkA as vs σ →
    ∃ Oz, SR K H' F' σ (My.putBack as os e) Oz ∧ ∀ a, Own Oz a → Own O' a ∨ Own Oa a
  | .nil, vs, os, O', H', F', e, Oa, s, sa, dj, lk => ⟨O', s, fun a z => .inl z⟩
  | .cons io a r, [], os, O', H', F', e, Oa, s, sa, dj, lk => lk.elim
  | .cons io a r, v :: vs, [], O', H', F', e, Oa, s, sa, dj, lk => by
    have := sa.len
    simp at this
  | .cons io a r, v :: vs, o :: os, O', H', F', e, Oa, s, sa, dj, lk => by
    have sr : SR K H' F' (vs.map some) os (fun j => Oa (j + 1)) := ⟨sa.sub, by simpa using sa.len, fun j => sa.slot (j + 1), fun j => sa.nodup (j + 1), fun i j a h1 h2 => by have := sa.apart (i + 1) (j + 1) a h1 h2; omega, fun j => sa.off (j + 1)⟩
    have up : ∀ a, Own (fun j => Oa (j + 1)) a → Own Oa a := fun a ⟨j, hj⟩ => ⟨j + 1, hj⟩
    have skip : ∃ Oz, SR K H' F' σ (My.putBack r os e) Oz ∧ ∀ a, Own Oz a → Own O' a ∨ Own Oa a := by
      obtain ⟨Oz, h1, h2⟩ := putBack_run r s sr (fun a h1 h2 => dj a h1 (up a h2)) lk.2
      exact ⟨Oz, h1, fun a z => (h2 a z).imp id (up a)⟩
    by_cases ha : ∃ i, a = .v i
    · obtain ⟨i, rfl⟩ := ha
      cases io with
      | false => exact skip
      | true =>
        show ∃ Oz, SR K H' F' σ (My.putBack r os (My.st e i o)) Oz ∧ _
        have ev := lk.1 i rfl rfl
        have hi : i < e.length := by
          rw [s.len]
          exact (List.getElem?_eq_some_iff.mp ev).1
        rcases sa.slot 0 with ⟨z, _⟩ | ⟨v', e1, r1⟩
        · rw [show o = .und from z]
          have sd := s.drop i
          obtain ⟨Oz, h1, h2⟩ := putBack_run r sd sr (fun a h1 h2 => (own_setO h1).elim (fun h1 => dj a h1 (up a h2)) fun z => by simp at z) lk.2
          exact ⟨Oz, h1, fun a z => (h2 a z).imp (fun z => (own_setO z).elim id fun z => by simp at z) (up a)⟩
        · have e2 : v' = v := by simpa using e1.symm
          subst e2
          have w := s.set hi (r := (show RepO K H' F' o v' (Oa 0) from r1)) fun a ha => ⟨sa.off 0 a ha, fun j _ hj => dj a ⟨j, hj⟩ ⟨0, ha⟩⟩
          have e3 : σ.set i (some v') = σ := by
            apply List.ext_getElem?
            intro j
            by_cases z : i = j
            · subst z; rw [List.getElem?_set_self (by rw [← s.len]; exact hi), ev]
            · rw [List.getElem?_set_ne z]
          rw [e3] at w
          have dj2 : ∀ a, Own (setO O' i (Oa 0)) a → ¬ Own (fun j => Oa (j + 1)) a := fun a h1 h2 => by
            rcases own_setO h1 with z | z
            · exact dj a z (up a h2)
            · obtain ⟨j, hj⟩ := h2
              have := sa.apart 0 (j + 1) a z hj
              omega
          obtain ⟨Oz, h1, h2⟩ := putBack_run r w sr dj2 lk.2
          exact ⟨Oz, h1, fun a z => (h2 a z).elim (fun z => (own_setO z).imp id fun z => ⟨0, z⟩) fun z => .inr (up a z)⟩
    · have e1 : My.putBack (.cons io a r) (o :: os) e = My.putBack r os e := by
        cases a <;> first | rfl | exact absurd ⟨_, rfl⟩ ha
      rw [e1]
      exact skip
/-- a call by what it promises -/
theorem call_run {f n : Nat} {as : As} (s : SR K H F σ env O) (hn : ∀ ds e, My.evA C as env = .ok (ds, e) → ds.length = n)
    (q : QvE K XR W H F O σ Q ((My.evA C as env).bind fun p => (C f p.1).bind fun r => .ok (r.1, My.putBack as r.2 p.2))) :
    tAs K XR W C as σ H fun vs H1 => spF K XR C f n vs H1 Q fun cls dx H => W cls dx σ H := by
  refine evA_run as s ?_
  cases hr : My.evA C as env with
  | bad => rw [hr] at q; exact q.elim
  | exc x => rw [hr] at q; exact q
  | ok p =>
    obtain ⟨ds, e⟩ := p
    rw [hr] at q
    simp only [My.R.bind_ok] at q
    intro vs H' F' O' Oa s' sa dj x lk
    refine ⟨?_, F', Oa, ds, sa, ?_⟩
    · have := sa.len
      rw [hn ds e hr] at this
      simpa using this.symm
    cases hc : C f ds with
    | bad => rw [hc] at q; exact q.elim
    | exc y =>
      rw [hc] at q
      exact fun cls dx H2 F2 hs x2 r => QX.back q x (fun a z => Or.inr z) cls dx H2 F2 hs x2 r
    | ok w =>
      obtain ⟨r, os⟩ := w
      rw [hc] at q
      simp only [My.R.bind_ok] at q
      intro v H2 F2 O2 l s2 rr hl x2
      have nOa : ∀ a, Own O' a → ¬ Own Oa a := dj
      have s3 : SR K H2 F2 σ e O' := s'.step x2 (fun a h1 h2 => dj a h1 h2) s2.sub
      have far : ∀ a, Own O' a → ¬ OwnP O2 l a := fun a h1 h2 => (x2.onew a h2).elim (dj a h1) (s'.there h1)
      obtain ⟨Oz, h1, h2⟩ := putBack_run as s3 s2 (fun a h1 h2 => far a h1 (.inl h2)) lk
      refine q v H2 F2 Oz l h1 rr (fun a ha => ⟨(hl a ha).1, fun z => (h2 a z).elim (fun z => far a z (.inr ha)) (hl a ha).2⟩) ?_
      have x3 := (x2.add (Own O')).wide (O2 := fun a => Own O' a ∨ Own Oa a) fun a z => z.elim Or.inr Or.inl
      exact (x.trans x3).mono fun a z => z.elim (fun z => (h2 a z).elim Or.inr fun z => Or.inl (Or.inl z)) fun z => Or.inl (Or.inr z)
end
end MyS

set_option Elab.async false
set_option linter.all false
set_option maxRecDepth 100000
set_option autoImplicit false
namespace MyS
open PySem PySem.Spec PyProof.Rows L2
open My (D E Es As OE S Ss Tg)
abbrev rBf (f : My.Bf) (K : PySem.W.Frag) : List V → Hp → VK → Prop := fun vs H Q => rDs (My.bfop f) K Q vs H
section
variable {X : Cx}
theorem reps_one {K : PySem.W.Frag} {H F : Hp} {a : D} {vs : List V} (h : RepBs K H F [a] vs) : ∃ v, vs = [v] ∧ RepB K H F a v := by
  match vs, h with
  | [v], h => exact ⟨v, rfl, h.1⟩
theorem reps_two {K : PySem.W.Frag} {H F : Hp} {a b : D} {vs : List V} (h : RepBs K H F [a, b] vs) : ∃ v w, vs = [v, w] ∧ RepB K H F a v ∧ RepB K H F b w := by
  match vs, h with
  | [v, w], h => exact ⟨v, w, rfl, h.1, h.2.1⟩
theorem bf_len : CallR X (.builtin "len") (rBf .len X.K) := by
  intro pins s σ H vs us Q I rv h
  obtain ⟨F, ds, d, sF, r, hd, q⟩ := h
  simp only [My.bfop, My.bLen] at hd
  split at hd <;> simp only [reduceCtorEq, Option.some.injEq] at hd
  · subst hd
    obtain ⟨v, rfl, p, ws, rfl, r1, r2⟩ := reps_one r
    have e := r2.length
    rw [e] at q
    exact call_len_seq pins s σ H _ us Q I rv ⟨p, ws, rfl, .inr (sqT_mono sF r1), q.int sF⟩
  · subst hd
    obtain ⟨v, rfl, p, ws, rfl, r1, r2⟩ := reps_one r
    have e := r2.length
    rw [e] at q
    exact call_len_seq pins s σ H _ us Q I rv ⟨p, ws, rfl, .inl (.inl r1), q.int sF⟩
  · subst hd
    obtain ⟨v, rfl, r1, r2⟩ := reps_one r
    subst r1
    refine call_len_str pins s σ H _ us Q I rv ⟨_, rfl, by rw [len_mkS]; exact r2, ?_⟩
    rw [len_mkS]
    exact q.int sF
  · obtain ⟨v, rfl, r1⟩ := reps_one r
    exact r1.elim
  · subst hd
    obtain ⟨v, rfl, p, rfl, r1⟩ := reps_one r
    refine call_len_seq pins s σ H _ us Q I rv ⟨p, _, rfl, .inl (sF.seq r1), ?_⟩
    rw [List.length_map]
    exact q.int sF
theorem bf_abs : CallR X (.builtin "abs") (rBf .abs X.K) := by
  intro pins s σ H vs us Q I rv h
  obtain ⟨F, ds, d, sF, r, hd, q⟩ := h
  simp only [My.bfop, My.bAbs] at hd
  split at hd <;> simp only [reduceCtorEq, Option.some.injEq] at hd
  subst hd
  obtain ⟨v, rfl, r1⟩ := reps_one r
  exact call_abs pins s σ H _ us Q I rv ⟨_, by rw [show v = _ from r1], q.int sF⟩
theorem bf_min2 (hc : X.calm = true) : CallR X (.builtin "min") (rBf .min2 X.K) := by
  intro pins s σ H vs us Q I rv h
  obtain ⟨F, ds, d, sF, r, hd, q⟩ := h
  simp only [My.bfop, My.bMin2] at hd
  split at hd <;> simp only [reduceCtorEq, Option.some.injEq] at hd
  subst hd
  obtain ⟨v, w, rfl, r1, r2⟩ := reps_two r
  exact call_min2 hc pins s σ H _ us Q I rv ⟨_, _, by rw [show v = _ from r1, show w = _ from r2], q.int sF⟩
theorem bf_max2 (hc : X.calm = true) : CallR X (.builtin "max") (rBf .max2 X.K) := by
  intro pins s σ H vs us Q I rv h
  obtain ⟨F, ds, d, sF, r, hd, q⟩ := h
  simp only [My.bfop, My.bMax2] at hd
  split at hd <;> simp only [reduceCtorEq, Option.some.injEq] at hd
  subst hd
  obtain ⟨v, w, rfl, r1, r2⟩ := reps_two r
  exact call_max2 hc pins s σ H _ us Q I rv ⟨_, _, by rw [show v = _ from r1, show w = _ from r2], q.int sF⟩
theorem bf_int : CallR X (.type "int") (rBf .int X.K) := by
  intro pins s σ H vs us Q I rv h
  obtain ⟨F, ds, d, sF, r, hd, q⟩ := h
  simp only [My.bfop, My.bInt] at hd
  split at hd <;> simp only [reduceCtorEq, Option.some.injEq] at hd
  · subst hd
    obtain ⟨v, rfl, r1⟩ := reps_one r
    exact call_int1 pins s σ H _ us Q I rv (.inl ⟨_, by rw [show v = _ from r1], q.int sF⟩)
  · subst hd
    obtain ⟨v, rfl, r1⟩ := reps_one r
    exact call_int1 pins s σ H _ us Q I rv (.inr ⟨_, by rw [show v = _ from r1], q.int sF⟩)
theorem bf_tuple : CallR X (.type "tuple") (rBf .tuple X.K) := by
  intro pins s σ H vs us Q I rv h
  obtain ⟨F, ds, d, sF, r, hd, q⟩ := h
  simp only [My.bfop, My.bTuple] at hd
  split at hd <;> simp only [reduceCtorEq, Option.some.injEq] at hd
  · subst hd
    obtain ⟨v, rfl, r1⟩ := reps_one r
    have r0 := r1
    obtain ⟨p, ws, rfl, r1, r2⟩ := r1
    exact call_tuple_of pins s σ H _ us Q I rv ⟨p, ws, rfl, .inr ⟨sqT_mono sF r1, q.val sF r0⟩⟩
  · subst hd
    obtain ⟨v, rfl, p, ws, rfl, r1, r2⟩ := reps_one r
    exact call_tuple_of pins s σ H _ us Q I rv ⟨p, ws, rfl, .inl ⟨.inl r1, q.tup sF r2⟩⟩
theorem bf_list : CallR X (.type "list") (rBf .list X.K) := by
  intro pins s σ H vs us Q I rv h
  obtain ⟨F, ds, d, sF, r, hd, q⟩ := h
  simp only [My.bfop, My.bList] at hd
  split at hd <;> simp only [reduceCtorEq, Option.some.injEq] at hd
  · subst hd
    obtain ⟨v, rfl, p, ws, rfl, r1, r2⟩ := reps_one r
    exact call_list_of pins s σ H _ us Q I rv ⟨p, ws, rfl, .inr (sqT_mono sF r1), q.lst sF r2⟩
  · subst hd
    obtain ⟨v, rfl, p, ws, rfl, r1, r2⟩ := reps_one r
    exact call_list_of pins s σ H _ us Q I rv ⟨p, ws, rfl, .inl (.inl r1), q.lst sF r2⟩
end
end MyS

set_option Elab.async false
set_option linter.all false
set_option maxRecDepth 100000
set_option autoImplicit false
namespace MyS
open PySem PySem.Spec PyProof.Rows L2
open My (D E Es As OE S Ss Tg)
section
variable {K : PySem.W.Frag} {XR : XRT} {W : WX} {C : My.Call} {H F : Hp} {O : Ow} {σ : L2.St} {env : My.Env} {Q : VK}
theorem lit_run {d : D} {v : V} (s : SR K H F σ env O) (q : QvE K XR W H F O σ Q (.ok (d, env))) (r : RepF K F d v) : Q v H :=
  q v H F O [] s (repO_frz r) (by simp) (Ext.refl.mono fun a z => ownP_nil z)
theorem repO_bl {b : Bool} {v : V} {l : List Addr} (r : RepO K H F (.bl b) v l) : v = .bl b := r.1
/-- a value that must be True or False, then the rest -/
theorem asB_run {r : My.R (D × My.Env)} {f : Bool → My.Env → My.R (D × My.Env)} (q : QvE K XR W H F O σ Q (r.bind fun p => (My.asB p.1).bind fun t => f t p.2)) :
    QvE K XR W H F O σ (fun x H1 => ∃ t, x = .bl t ∧ ∃ F1 O1 e, SR K H1 F1 σ e O1 ∧ QvE K XR W H1 F1 O1 σ Q (f t e)) r := by
  cases r with
  | bad => exact q
  | exc x => exact q
  | ok p =>
    obtain ⟨d, e⟩ := p
    intro v H1 F1 O1 l s1 r1 hl x1
    simp only [My.R.bind_ok] at q
    cases d with
    | bl t =>
      refine ⟨t, r1.1, F1, O1, e, s1, ?_⟩
      obtain rfl : l = [] := r1.2
      exact QvE.back q (x1.mono fun a z => .inl z)
    | _ => exact q.elim
theorem tE_of {te : E} (s : SR K H F σ env O) (q : QvE K XR W H F O σ Q (My.ev C te env)) : tE K XR W C te σ H Q := ⟨F, O, env, s, q⟩
def esLen : Es → Nat
  | .nil => 0
  | .cons _ r => esLen r + 1
def asLen : As → Nat
  | .nil => 0
  | .cons _ _ r => asLen r + 1
theorem evX_len : ∀ (es : Es) {env : My.Env} {ds : List D} {e : My.Env}, My.evX C es env = .ok (ds, e) → ds.length = esLen es
  | .nil, env, ds, e, h => by simp only [My.evX, My.R.ok.injEq, Prod.mk.injEq] at h; rw [← h.1]; rfl
  | .cons a r, env, ds, e, h => by
    simp only [My.evX] at h
    cases h1 : My.ev C a env with
    | bad => rw [h1] at h; cases h
    | exc x => rw [h1] at h; cases h
    | ok p =>
      rw [h1] at h
      simp only [My.R.bind_ok] at h
      cases h2 : My.evX C r p.2 with
      | bad => rw [h2] at h; cases h
      | exc x => rw [h2] at h; cases h
      | ok q =>
        rw [h2] at h
        simp only [My.R.bind_ok, My.R.ok.injEq, Prod.mk.injEq] at h
        rw [← h.1, List.length_cons, evX_len r h2]
        rfl
theorem evA_len : ∀ (as : As) {env : My.Env} {ds : List D} {e : My.Env}, My.evA C as env = .ok (ds, e) → ds.length = asLen as
  | .nil, env, ds, e, h => by simp only [My.evA, My.R.ok.injEq, Prod.mk.injEq] at h; rw [← h.1]; rfl
  | .cons io a r, env, ds, e, h => by
    by_cases ha : ∃ i, a = .v i
    · obtain ⟨i, rfl⟩ := ha
      simp only [My.evA] at h
      split at h
      · cases h
      · cases h2 : My.evA C r env with
        | bad => rw [h2] at h; cases h
        | exc x => rw [h2] at h; cases h
        | ok q =>
          rw [h2] at h
          simp only [My.R.bind_ok, My.passA] at h
          have e2 := evA_len r h2
          split at h
          · cases h
          · split at h <;> (simp only [My.R.ok.injEq, Prod.mk.injEq] at h; rw [← h.1, List.length_cons, e2]; rfl)
    · rw [evA_nv fun i e => ha ⟨i, e⟩] at h
      cases h1 : My.ev C a env with
      | bad => rw [h1] at h; cases h
      | exc x => rw [h1] at h; cases h
      | ok p =>
        rw [h1] at h
        simp only [My.R.bind_ok] at h
        cases h2 : My.evA C r p.2 with
        | bad => rw [h2] at h; cases h
        | exc x => rw [h2] at h; cases h
        | ok q =>
          rw [h2] at h
          simp only [My.R.bind_ok, My.R.ok.injEq, Prod.mk.injEq] at h
          rw [← h.1, List.length_cons, evA_len r h2]
          rfl
theorem meth_run {m : My.Mt} {a : E} {es : Es} (s : SR K H F σ env O) (q : QvE K XR W H F O σ Q ((My.evM m a (My.ev C a) (My.evs C es) env).bind fun p => (My.opt (My.mtop m p.1)).bind fun z => .ok (z, p.2))) :
    tO K XR W C a σ H fun x H1 => (∃ F1 d, Same F1 H1 ∧ RepB K H1 F1 d x ∧ My.recvOk m d = true) ∧ tList K XR W C es σ H1 fun xs H2 => rDs (My.mtop m) K Q (x :: xs) H2 := by
  by_cases ha : ∃ i, a = .v i
  · obtain ⟨i, rfl⟩ := ha
    simp only [My.evM] at q
    by_cases hr : My.recvOk m (My.fz (My.gt env i)) = true
    · rw [if_pos hr] at q
      rcases s.slot i with ⟨e, _⟩ | ⟨v, ev, r⟩
      · rw [e] at hr; cases m <;> cases hr
      refine ⟨v, ev, ⟨F, _, s.sub, r.fz s.sub, hr⟩, evs_run es s ?_⟩
      cases h2 : My.evs C es env with
      | bad => rw [h2] at q; exact q.elim
      | exc x => rw [h2] at q; exact q
      | ok p =>
        obtain ⟨ds, e⟩ := p
        rw [h2] at q
        simp only [My.R.bind_ok] at q
        intro vs H' F' O' s' rs x
        by_cases hu : My.isUnd (My.gt e i) = true
        · rw [if_pos hu] at q; exact q.elim
        rw [if_neg hu] at q
        rcases s'.slot i with ⟨z, _⟩ | ⟨v', ev', r'⟩
        · exact absurd (isUnd_iff.mpr z) hu
        rw [ev] at ev'
        cases ev'
        simp only [My.R.bind_ok] at q
        cases hf : My.mtop m (My.fz (My.gt e i) :: ds) with
        | none => rw [hf] at q; exact q.elim
        | some d =>
          rw [hf] at q
          exact ⟨F', My.fz (My.gt e i) :: ds, d, s'.sub, ⟨r'.fz s'.sub, rs⟩, hf, post_end s' x q⟩
    · rw [if_neg hr] at q; exact q.elim
  · have ha' : ∀ i, a ≠ .v i := fun i e => ha ⟨i, e⟩
    have e1 : tO K XR W C a = tE K XR W C a := by
      cases a <;> first | rfl | exact absurd rfl (ha' _)
    have e2 : My.evM m a (My.ev C a) (My.evs C es) env = (My.ev C a env).bind fun p => if My.recvOk m (My.fz p.1) then (My.evs C es p.2).bind fun r => .ok (My.fz p.1 :: r.1, r.2) else .bad := by
      cases a <;> first | rfl | exact absurd rfl (ha' _)
    rw [e1]
    rw [e2] at q
    refine ⟨F, O, env, s, ?_⟩
    cases hr : My.ev C a env with
    | bad => rw [hr] at q; exact q.elim
    | exc x => rw [hr] at q; exact q
    | ok p =>
      obtain ⟨d, e⟩ := p
      rw [hr] at q
      simp only [My.R.bind_ok] at q
      intro v H1 F1 O1 l s1 r1 hl x1
      by_cases ho : My.recvOk m (My.fz d) = true
      · rw [if_pos ho] at q
        obtain ⟨F2, s2, f12, r2, x2⟩ := freeze_sr s1 r1 hl
        have x12 := x1.trans x2
        have r3 := r2 (not_und r1)
        refine ⟨⟨F2, _, s2.sub, RepB.of s2.sub r3, ho⟩, evs_run es s2 ?_⟩
        cases h2 : My.evs C es e with
        | bad => rw [h2] at q; exact q.elim
        | exc x =>
          rw [h2] at q
          exact QX.back q x12 fun a z => z
        | ok w =>
          obtain ⟨ds, e2⟩ := w
          rw [h2] at q
          simp only [My.R.bind_ok] at q
          intro vs H' F' O' s' rs x
          cases hf : My.mtop m (My.fz d :: ds) with
          | none => rw [hf] at q; exact q.elim
          | some z =>
            rw [hf] at q
            exact ⟨F', My.fz d :: ds, z, s'.sub, ⟨RepB.of s'.sub (RepF.mono x.fsub _ _ r3), rs⟩, hf, post_end s' (x12.trans x) q⟩
      · rw [if_neg ho] at q; exact q.elim
theorem tO_mono {e : E} {Q' : VK} (hQ : ∀ v H, Q v H → Q' v H) (h : tO K XR W C e σ H Q) : tO K XR W C e σ H Q' := by
  cases e <;> first | exact tE_mono hQ h | (obtain ⟨v, e, h⟩ := h; exact ⟨v, e, hQ _ _ h⟩)
theorem asB_val {r : My.R (D × My.Env)} (q : QvE K XR W H F O σ Q (r.bind fun p => (My.asB p.1).bind fun u => .ok (.bl u, p.2))) : QvE K XR W H F O σ Q r := by
  cases r with
  | bad => exact q
  | exc x => exact q
  | ok p =>
    obtain ⟨d, e⟩ := p
    cases d <;> first | exact q | exact q.elim
/-- slices' parts -/
def tOEp (K : PySem.W.Frag) (XR : XRT) (W : WX) (C : My.Call) : OE → TO
  | .none => tNoPart
  | .some a => tPart (tE K XR W C a)
def QvI (K : PySem.W.Frag) (XR : XRT) (W : WX) (H F : Hp) (O : Ow) (σ : L2.St) (Q : Option Int → Hp → Prop) : My.R (Option Int × My.Env) → Prop
  | .ok (i, e) => ∀ H' F' O', SR K H' F' σ e O' → Ext H F (Own O) H' F' (Own O') → Q i H'
  | .exc x => QX XR W H F O σ x
  | .bad => False
theorem oe_run : ∀ (oe : OE) {H F : Hp} {O : Ow} {env : My.Env} {Q : Option Int → Hp → Prop}, SR K H F σ env O → QvI K XR W H F O σ Q (My.evI C oe env) → tOEp K XR W C oe σ H Q
  | .none, H, F, O, env, Q, s, h => h H F O s Ext.refl
  | .some a, H, F, O, env, Q, s, h => by
    simp only [My.evI] at h
    show tE K XR W C a σ H fun x H1 => ∃ i, x = .int i ∧ Q (some i) H1
    refine ⟨F, O, env, s, ?_⟩
    cases hr : My.ev C a env with
    | bad => rw [hr] at h; exact h.elim
    | exc x => rw [hr] at h; exact h
    | ok p =>
      obtain ⟨d, e⟩ := p
      rw [hr] at h
      simp only [My.R.bind_ok] at h
      intro v H1 F1 O1 l s1 r1 hl x1
      cases d <;> simp only [My.asI, My.opt_none, My.opt_some, My.R.bind_ok, My.R.bind_bad] at h <;> try exact h.elim
      case int i =>
        obtain ⟨rv, rfl⟩ := r1
        exact ⟨i, rv, h H1 F1 O1 s1 (x1.mono fun a z => .inl z)⟩
theorem two_run {lo hi : OE} {Q : Option Int → Option Int → Hp → Prop} (s : SR K H F σ env O)
    (q : match (My.two (My.evI C lo) (My.evI C hi) env) with
      | .ok ((l, h), e) => ∀ H' F' O', SR K H' F' σ e O' → Ext H F (Own O) H' F' (Own O') → Q l h H'
      | .exc x => QX XR W H F O σ x
      | .bad => False) : tOEp K XR W C lo σ H fun l H1 => tOEp K XR W C hi σ H1 fun h H2 => Q l h H2 := by
  refine oe_run lo s ?_
  unfold My.two at q
  cases h1 : My.evI C lo env with
  | bad => rw [h1] at q; exact q.elim
  | exc x => rw [h1] at q; exact q
  | ok p =>
    obtain ⟨l, e⟩ := p
    rw [h1] at q
    simp only [My.R.bind_ok] at q
    intro H1 F1 O1 s1 x1
    refine oe_run hi s1 ?_
    cases h2 : My.evI C hi e with
    | bad => rw [h2] at q; exact q.elim
    | exc x => rw [h2] at q; exact QX.back q x1 fun a z => z
    | ok p =>
      obtain ⟨h, e2⟩ := p
      rw [h2] at q
      exact fun H2 F2 O2 s2 x2 => q H2 F2 O2 s2 (x1.trans x2)
theorem sl_run {a : E} {lo hi : OE} (s : SR K H F σ env O) (q : QvE K XR W H F O σ Q (My.ev C (.sl a lo hi) env)) :
    tSl (fun x l h H Q => ∃ F a d, Same F H ∧ RepB K H F a x ∧ My.slop a l h = some d ∧ OpPost K H F d Q) (tO K XR W C a) (tOEp K XR W C lo) (tOEp K XR W C hi) σ H Q := by
  show tO K XR W C a σ H fun x H1 => tOEp K XR W C lo σ H1 fun l H2 => tOEp K XR W C hi σ H2 fun u H3 => _
  simp only [My.ev] at q
  by_cases ha : ∃ i, a = .v i
  · obtain ⟨i, rfl⟩ := ha
    simp only [My.late] at q
    by_cases hu : My.isUnd (My.gt env i) = true
    · rw [if_pos hu] at q; exact q.elim
    rw [if_neg hu] at q
    rcases s.slot i with ⟨e, _⟩ | ⟨v, ev, _⟩
    · exact absurd (isUnd_iff.mpr e) hu
    refine ⟨v, ev, two_run s ?_⟩
    cases hr : My.two (My.evI C lo) (My.evI C hi) env with
    | bad => rw [hr] at q; exact q.elim
    | exc x => rw [hr] at q; exact q
    | ok p =>
      obtain ⟨⟨l, h⟩, e⟩ := p
      rw [hr] at q
      simp only [My.R.bind_ok] at q
      intro H' F' O' s' x
      by_cases hu2 : My.isUnd (My.gt e i) = true
      · rw [if_pos hu2] at q; exact q.elim
      rw [if_neg hu2] at q
      rcases s'.slot i with ⟨z, _⟩ | ⟨v', ev', r'⟩
      · exact absurd (isUnd_iff.mpr z) hu2
      rw [ev] at ev'
      cases ev'
      simp only [My.R.bind_ok] at q
      cases hf : My.slop (My.fz (My.gt e i)) l h with
      | none => rw [hf] at q; exact q.elim
      | some d =>
        rw [hf] at q
        exact ⟨F', _, d, s'.sub, r'.fz s'.sub, hf, post_end s' x q⟩
  · have ha' : ∀ i, a ≠ .v i := fun i e => ha ⟨i, e⟩
    have e1 : tO K XR W C a = tE K XR W C a := by
      cases a <;> first | rfl | exact absurd rfl (ha' _)
    rw [e1]
    simp only [late_nv ha'] at q
    refine ⟨F, O, env, s, ?_⟩
    cases hr : My.ev C a env with
    | bad => rw [hr] at q; exact q.elim
    | exc x => rw [hr] at q; exact q
    | ok p =>
      obtain ⟨d, e⟩ := p
      rw [hr] at q
      simp only [My.R.bind_ok] at q
      intro v H1 F1 O1 l s1 r1 hl x1
      obtain ⟨F2, s2, f12, r2, x2⟩ := freeze_sr s1 r1 hl
      have x12 := x1.trans x2
      have r3 := r2 (not_und r1)
      refine two_run s2 ?_
      cases hr2 : My.two (My.evI C lo) (My.evI C hi) e with
      | bad => rw [hr2] at q; exact q.elim
      | exc x => rw [hr2] at q; exact QX.back q x12 fun a z => z
      | ok w =>
        obtain ⟨⟨l, h⟩, e2⟩ := w
        rw [hr2] at q
        simp only [My.R.bind_ok] at q
        intro H' F' O' s' x
        cases hf : My.slop (My.fz d) l h with
        | none => rw [hf] at q; exact q.elim
        | some z =>
          rw [hf] at q
          exact ⟨F', _, z, s'.sub, RepB.of s'.sub (RepF.mono x.fsub _ _ r3), hf, post_end s' (x12.trans x) q⟩
end
end MyS

set_option Elab.async false
set_option linter.all false
set_option maxRecDepth 100000
set_option autoImplicit false
namespace MyS
open PySem PySem.Spec PyProof.Rows L2
open My (D E Es As OE S Ss Tg)
section
variable {X : Cx}
theorem strs_map : ∀ {xs : List D} {ss : List (List Nat)}, My.strsD xs = some ss → xs = ss.map .str
  | [], ss, h => by simp [My.strsD] at h; subst h; rfl
  | x :: xs, ss, h => by
    cases x <;> simp [My.strsD] at h
    obtain ⟨r, h1, rfl⟩ := h
    rw [strs_map h1]
    rfl
theorem repFs_strs {K : PySem.W.Frag} {F : Hp} : ∀ {ss : List (List Nat)} {vs : List V}, RepFs K F (ss.map .str) vs → vs = (ss.map mkS).map V.str
  | [], [], _ => rfl
  | [], _ :: _, q => q.elim
  | _ :: _, [], q => q.elim
  | s :: ss, v :: vs, q => by
    have h1 : v = .str (mkS s) := q.1.1
    rw [h1, repFs_strs q.2]
    rfl
theorem join_mk (sep : List Nat) : ∀ ss : List (List Nat), Str.join (mkS sep) (ss.map mkS) = mkS (My.joinS sep ss)
  | [] => rfl
  | [_] => rfl
  | x :: y :: r => by
    show mkS x ++ mkS sep ++ Str.join (mkS sep) (mkS y :: r.map mkS) = _
    rw [show mkS y :: r.map mkS = (y :: r).map mkS from rfl, join_mk sep (y :: r), mkS_app, mkS_app]
    rfl
theorem joinS_len (sep : List Nat) : ∀ ss : List (List Nat), (ss.map List.length).sum + ss.length * sep.length ≤ (My.joinS sep ss).length + sep.length
  | [] => by simp
  | [x] => by simp [My.joinS]
  | x :: y :: r => by
    have ih := joinS_len sep (y :: r)
    simp only [List.map_cons, List.sum_cons, List.length_cons, My.joinS, List.length_append] at ih ⊢
    rw [Nat.add_mul (r.length + 1) 1 sep.length]
    omega
theorem mt_joinM : MtR X "str.join" (fun x xs H Q => rDs (My.mtop .join) X.K Q (x :: xs) H) := by
  intro pins s σ H x xs v us Q I rx rs h
  obtain ⟨F, ds, d, sF, r, hd, q⟩ := h
  simp only [My.mtop, My.mJoin] at hd
  split at hd
  · rename_i sep own ys
    obtain ⟨v1, w1, e, ra, rb⟩ := reps_two r
    injection e with e1 e2
    subst e1 e2
    cases hs : My.strsD ys with
    | none => rw [hs] at hd; cases hd
    | some ss =>
      rw [hs] at hd
      obtain ⟨hz, rfl⟩ := sized_some hd
      obtain ⟨p, vs, rfl, r1, r2⟩ := rb
      rw [strs_map hs] at r2
      rw [repFs_strs r2] at r1
      have hl := joinS_len sep ss
      have hS : My.SZ ≤ sizeLine := SZ_line
      have hS2 : sizeLine = 16777216 := by decide
      refine mt_join pins s σ H _ _ v us Q I rx rs ⟨mkS sep, p, ss.map mkS, ra.1, rfl, .inl (.inl r1), ?_, ?_⟩
      · have e : ((ss.map mkS).map (·.length)).sum = (ss.map List.length).sum := by
          rw [List.map_map]
          have : ((fun x : Str => x.length) ∘ mkS) = List.length := funext fun a => len_mkS a
          rw [this]
        rw [e, List.length_map, len_mkS]
        omega
      · rw [TL.join_eq, join_mk]
        exact q.str sF (by omega)
  · cases hd
end
end MyS

set_option Elab.async false
set_option linter.all false
set_option maxRecDepth 100000
set_option autoImplicit false
namespace MyS
open PySem PySem.Spec PyProof.Rows L2
open My (D E Es As OE S Ss Tg)
section
variable {X : Cx} {XR : XRT} {W : WX} {T : Tab} {C : My.Call} {N : List Str} {sc : Scope} {k : Nat}
theorem okC_rep {d : D} {c : Const} (h : okC d c = true) {F : Hp} {j : Nat} {pos : Pos} : ∃ v, PE X (.Constant c j pos) (tC v) ∧ RepF X.K F d v := by
  cases d <;> cases c <;> simp only [okC, Bool.false_eq_true] at h
  case non.none => exact ⟨.non, pe_non, rfl⟩
  case bl.bool b c =>
    rw [beq_iff_eq] at h; subst h
    exact ⟨.bl b, pe_bl, rfl⟩
  case int.int i j =>
    rw [beq_iff_eq] at h; subst h
    exact ⟨.int i, pe_int, rfl⟩
  case str.str z x =>
    simp only [Bool.and_eq_true, decide_eq_true_eq] at h
    have e : mkS z = x := by
      rw [← h.1]
    exact ⟨.str x, pe_str, by rw [← e], Nat.le_trans h.2 (by decide)⟩
theorem okB_rule {o : My.BOp} {op : Operator} (h : okB o op = true) : OpR X (binaryOp op) (rD (My.binop o) X.K) := by
  cases o <;> cases op <;> first | (exact absurd h (by decide)) | skip
  · exact bin_add
  · exact bin_sub
  · exact bin_mul
  · exact bin_fdiv
  · exact bin_mod
  · exact bin_pow
theorem okCmp_rule {o : My.COp} {op : CmpOp} (h : okCmp o op = true) (hu : X.A.units + 65 < cLine) : OpR X (compareOp op) (rD (My.cmpD o) X.K) := by
  cases o <;> cases op <;> first | (exact absurd h (by decide)) | skip
  · exact cmp_eq (by omega)
  · exact cmp_ne (by omega)
  · exact cmp_lt
  · exact cmp_le
  · exact cmp_gt
  · exact cmp_ge
  · exact cmp_in hu false
  · exact cmp_in hu true
theorem okE_slice {te : E} {e : Expr} (h : okE T N sc te e = true) : ∀ a b c p, e ≠ .Slice a b c p := fun a b c p z => by
  subst z
  cases te <;> simp [okE] at h
theorem plainIx {te : E} {e : Expr} (h : okE T N sc te e = true) : PlainIx e := fun o i => by
  have := okE_slice h
  cases e <;> first | rfl | exact absurd rfl (this _ _ _ _)
theorem okE_super {te : E} {e : Expr} (h : okE T N sc te e = true) (x : Str) (env : PySem.Env) : attributeBase e x env (eval e env) = eval e env := by
  cases e with
  | Call func args kws pos =>
    cases func with
    | Name id p =>
      cases args with
      | nil => cases te <;> first | (simp [okE] at h; done) | (cases kws <;> simp [okE] at h)
      | cons a r => rfl
    | _ => rfl
  | _ => rfl
theorem okEs_len : ∀ {es : Es} {xs : List Expr}, okEs T N sc es xs = true → esLen es = xs.length
  | .nil, [], _ => rfl
  | .nil, _ :: _, h => by simp [okEs] at h
  | .cons _ _, [], h => by simp [okEs] at h
  | .cons a r, e :: es, h => by
    simp only [okEs, Bool.and_eq_true] at h
    show esLen r + 1 = es.length + 1
    rw [okEs_len h.2]
theorem okAs_len : ∀ {es : As} {xs : List Expr}, okAs T N sc es xs = true → asLen es = xs.length
  | .nil, [], _ => rfl
  | .nil, _ :: _, h => by simp [okAs] at h
  | .cons _ _ _, [], h => by simp [okAs] at h
  | .cons io a r, e :: es, h => by
    simp only [okAs, Bool.and_eq_true] at h
    show asLen r + 1 = es.length + 1
    rw [okAs_len h.2]
theorem okAs_plain : ∀ {es : As} {xs : List Expr}, okAs T N sc es xs = true → ∀ (env : PySem.Env) (pos : Pos), (backTo pos (starEach xs env)).any (·.1) = false
  | .nil, [], _, _, _ => rfl
  | .nil, _ :: _, h, _, _ => by simp [okAs] at h
  | .cons _ _ _, [], h, _, _ => by simp [okAs] at h
  | .cons io a r, e :: es, h, env, pos => by
    simp only [okAs, Bool.and_eq_true] at h
    rw [star_one (okE_star h.1)]
    simpa [backTo] using okAs_plain h.2 env pos
theorem repFs_len {K : PySem.W.Frag} {F : Hp} {xs : List D} {vs : List V} (h : RepFs K F xs vs) : vs.length = xs.length := h.length.symm
theorem pe_callT {f : Addr} {fd : FuncData} {ps : List Str} {sp : Sp} {EE : L2.St → XK} {x : Str} {p pos : Pos} {e : Expr} {es : List Expr} {t : TA} (F : FnOk X.prog X.w X.K X.mg X.base (L2.CX X.prog X.w) k f fd ps sp) (hr : Room k X.A) (hg : Gl X x) (hm : X.mg x = some (.ref f)) (hk : PySem.W.keepIn X.K (.ref f) = true) (hb : Binds X.K fd ps [])
    (hx : ∀ σ, PassesAt (L2.CX X.prog X.w) X σ (EE σ)) (ha : PA X (e :: es) t) (hdb : (x == ("__debug__" : Str)) = false) (he : ∀ a p, e ≠ .Starred a p) (hpl : (backTo pos (starEach es X.env)).any (·.1) = false) : PE X (.Call (.Name x p) (e :: es) [] pos) (tCallS sp EE t) :=
  pe_callS F hr hg hm hk hb hx ha hdb (star_one he) hpl
theorem op_of {X : Cx} {a : E} {ea : Expr} (G : Good X XR W T C N sc k) (h : okE T N sc a ea = true) (p : PE X ea (tE X.K XR W C a)) : PE X ea (tO X.K XR W C a) := by
  by_cases ha : ∃ i, a = .v i
  · obtain ⟨i, rfl⟩ := ha
    cases ea <;> simp only [okE, Bool.false_eq_true] at h
    exact var_ok G h
  · have e1 : tO X.K XR W C a = tE X.K XR W C a := by
      cases a <;> first | rfl | exact absurd ⟨_, rfl⟩ ha
    rw [e1]
    exact p
theorem bfInfo_rule {f : My.Bf} {y : Str} {ty : Bool} {id : String} (h : bfInfo f = some (y, ty, id)) (hc : X.calm = true) : y ∈ blts ∧ bootBuiltins y = some (if ty then .type id else .builtin id) ∧ CallR X (if ty then .type id else .builtin id) (rBf f X.K) := by
  cases f <;> simp only [bfInfo, Option.some.injEq, Prod.mk.injEq, reduceCtorEq] at h <;> obtain ⟨rfl, rfl, rfl⟩ := h
  · exact ⟨by decide +kernel, by decide +kernel, bf_len⟩
  · exact ⟨by decide +kernel, by decide +kernel, bf_tuple⟩
  · exact ⟨by decide +kernel, by decide +kernel, bf_list⟩
  · exact ⟨by decide +kernel, by decide +kernel, bf_abs⟩
  · exact ⟨by decide +kernel, by decide +kernel, bf_min2 hc⟩
  · exact ⟨by decide +kernel, by decide +kernel, bf_max2 hc⟩
  · exact ⟨by decide +kernel, by decide +kernel, bf_int⟩
theorem units65 {X : Cx} (G : Good X XR W T C N sc k) : X.A.units + 65 < cLine := by have := G.room.un; omega
theorem repFs_rev {K : PySem.W.Frag} {F : Hp} : ∀ {xs : List D} {vs : List V}, RepFs K F xs vs → RepFs K F xs.reverse vs.reverse
  | [], [], _ => trivial
  | x :: xs, v :: vs, r => by
    rw [List.reverse_cons, List.reverse_cons]
    exact (repFs_rev r.2).append ⟨r.1, trivial⟩
mutual
theorem sound_e : ∀ (te : E) (e : Expr) {X : Cx} {W : WX} {sc : Scope}, okE T N sc te e = true → Good X XR W T C N sc k → PE X e (tE X.K XR W C te)
  | .c d, e, X, W, sc, h, G => by
    cases e <;> try (simp [okE] at h; done)
    rename_i c j pos
    replace h : okC d c = true := h
    cases d <;> cases c <;> simp only [okC, Bool.false_eq_true] at h
    case non.none => exact PE.imp pe_non fun σ H Q ⟨F, O, env, s, q⟩ => lit_run s q rfl
    case bl.bool b c =>
      rw [beq_iff_eq] at h; subst h
      exact PE.imp pe_bl fun σ H Q ⟨F, O, env, s, q⟩ => lit_run s q rfl
    case int.int i j =>
      rw [beq_iff_eq] at h; subst h
      exact PE.imp pe_int fun σ H Q ⟨F, O, env, s, q⟩ => lit_run s q rfl
    case str.str z x =>
      simp only [Bool.and_eq_true, decide_eq_true_eq] at h
      have e : mkS z = x := by rw [← h.1]
      subst e
      exact PE.imp pe_str fun σ H Q ⟨F, O, env, s, q⟩ => lit_run s q ⟨rfl, Nat.le_trans h.2 (by decide)⟩
  | .v i, e, X, W, sc, h, G => by
    cases e <;> try (simp [okE] at h; done)
    exact PE.imp (var_ok G h) fun σ H Q q => v_run (C := C) (W := W) (XR := XR) q
  | .bin o a b, e, X, W, sc, h, G => by
    cases e <;> try (simp [okE] at h; done)
    simp only [okE, Bool.and_eq_true] at h
    exact PE.imp (pe_op (okB_rule h.1.1) (op_of G h.1.2 (sound_e a _ h.1.2 G)) (op_of G h.2 (sound_e b _ h.2 G))) fun σ H Q ⟨F, O, env, s, q⟩ => op2_run s q
  | .neg a, e, X, W, sc, h, G => by
    cases e <;> try (simp [okE] at h; done)
    rename_i op ea pos
    cases op <;> try (simp [okE] at h; done)
    refine PE.imp (pe_un un_neg (op_of G h (sound_e a _ h G))) fun σ H Q ⟨F, O, env, s, q⟩ => ?_
    have r := opn_run (es := .cons a .nil) s q
    exact tO_mono (fun v H1 ⟨F1, ds, d, sF, rb, hd, p⟩ => by
      match ds, rb, hd with
      | [x], rb, hd =>
        cases x <;> simp only [My.l1, My.negop, reduceCtorEq, Option.some.injEq] at hd
        subst hd
        exact ⟨_, rb.1, p.int sF⟩) r
  | .cmp o a b, e, X, W, sc, h, G => by
    cases e <;> try (simp [okE] at h; done)
    rename_i ea ops cs pos
    match ops, cs, h with
    | [op], [eb], h =>
      simp only [okE, Bool.and_eq_true, Bool.not_eq_true'] at h
      exact PE.imp (pe_cmpR (okCmp_rule h.1.1.1 (units65 G)) (op_of G h.1.1.2 (sound_e a _ h.1.1.2 G)) (op_of G h.1.2 (sound_e b _ h.1.2 G)) h.2) fun σ H Q ⟨F, O, env, s, q⟩ => op2_run s q
  | .and a b, e, X, W, sc, h, G => by
    cases e <;> try (simp [okE] at h; done)
    rename_i op es pos
    match op, es, h with
    | .And, ea :: eb :: rest, h =>
      simp only [okE, Bool.and_eq_true] at h
      have hb : PE X (.BoolOp .And (eb :: rest) pos) (tE X.K XR W C b) := by
        match rest, h.2 with
        | [], h2 => exact pe_one (sound_e b _ h2 G)
        | c :: r, h2 => exact sound_e b _ h2 G
      refine PE.imp (pe_and (sound_e a _ h.1 G) hb) fun σ H Q ⟨F, O, env, s, q⟩ => ?_
      exact tE_of s (asB_run (f := fun t e => if t then (My.ev C b e).bind fun p => (My.asB p.1).bind fun u => .ok (.bl u, p.2) else .ok (.bl false, e)) q) |> tE_mono fun x H1 ⟨t, ht, F1, O1, e1, s1, q1⟩ => ⟨t, ht, by
        cases t with
        | true => exact tE_of s1 (asB_val q1)
        | false => exact lit_run s1 q1 rfl⟩
  | .or a b, e, X, W, sc, h, G => by
    cases e <;> try (simp [okE] at h; done)
    rename_i op es pos
    match op, es, h with
    | .Or, ea :: eb :: rest, h =>
      simp only [okE, Bool.and_eq_true] at h
      have hb : PE X (.BoolOp .Or (eb :: rest) pos) (tE X.K XR W C b) := by
        match rest, h.2 with
        | [], h2 => exact pe_one (sound_e b _ h2 G)
        | c :: r, h2 => exact sound_e b _ h2 G
      refine PE.imp (pe_or (sound_e a _ h.1 G) hb) fun σ H Q ⟨F, O, env, s, q⟩ => ?_
      exact tE_of s (asB_run (f := fun t e => if t then .ok (.bl true, e) else (My.ev C b e).bind fun p => (My.asB p.1).bind fun u => .ok (.bl u, p.2)) q) |> tE_mono fun x H1 ⟨t, ht, F1, O1, e1, s1, q1⟩ => ⟨t, ht, by
        cases t with
        | true => exact lit_run s1 q1 rfl
        | false => exact tE_of s1 (asB_val q1)⟩
  | .not a, e, X, W, sc, h, G => by
    cases e <;> try (simp [okE] at h; done)
    rename_i op ea pos
    cases op <;> try (simp [okE] at h; done)
    refine PE.imp (pe_not (sound_e a _ h G)) fun σ H Q ⟨F, O, env, s, q⟩ => ?_
    exact tE_of s (asB_run (f := fun t e => .ok (.bl (!t), e)) q) |> tE_mono fun x H1 ⟨t, ht, F1, O1, e1, s1, q1⟩ => ⟨t, ht, lit_run s1 q1 rfl⟩
  | .tup es, e, X, W, sc, h, G => by
    cases e <;> try (simp [okE] at h; done)
    simp only [okE, Bool.and_eq_true, decide_eq_true_eq] at h
    refine PE.imp (pe_tup (sound_x es _ h.1 G)) fun σ H Q ⟨F, O, env, s, q⟩ => ?_
    refine evX_run es s ?_
    simp only [My.ev] at q
    cases hr : My.evX C es env with
    | bad => rw [hr] at q; exact q.elim
    | exc x => rw [hr] at q; exact q
    | ok p =>
      obtain ⟨ds, e1⟩ := p
      rw [hr] at q
      intro vs H' F' O' s' rs x
      refine ⟨?_, fun p hp => OpPost.tup (post_end s' x q) s'.sub rs p hp⟩
      have := evX_len es hr
      rw [repFs_len rs, this, okEs_len h.1]
      exact Nat.le_trans h.2 (by decide)
  | .lst es, e, X, W, sc, h, G => by
    cases e <;> try (simp [okE] at h; done)
    simp only [okE, Bool.and_eq_true, decide_eq_true_eq] at h
    refine PE.imp (pe_lst (sound_x es _ h.1 G)) fun σ H Q ⟨F, O, env, s, q⟩ => ?_
    refine evX_run es s ?_
    simp only [My.ev] at q
    cases hr : My.evX C es env with
    | bad => rw [hr] at q; exact q.elim
    | exc x => rw [hr] at q; exact q
    | ok p =>
      obtain ⟨ds, e1⟩ := p
      rw [hr] at q
      intro vs H' F' O' s' rs x
      refine ⟨?_, fun p hp => OpPost.lst (post_end s' x q) s'.sub rs p hp⟩
      have := evX_len es hr
      rw [repFs_len rs, this, okEs_len h.1]
      exact Nat.le_trans h.2 (by decide)
  | .idx a i, e, X, W, sc, h, G => by
    cases e <;> try (simp [okE] at h; done)
    rename_i ea ei pos
    have h' : okE T N sc a ea = true ∧ okE T N sc i ei = true := by
      cases ei <;> simpa [okE] using h
    exact PE.imp (pe_ix ix_ok (op_of G h'.1 (sound_e a _ h'.1 G)) (op_of G h'.2 (sound_e i _ h'.2 G)) (plainIx h'.2)) fun σ H Q ⟨F, O, env, s, q⟩ => op2_run s q
  | .sl a lo hi, e, X, W, sc, h, G => by
    cases e <;> try (simp [okE] at h; done)
    rename_i ea ei pos
    cases ei <;> try (simp [okE] at h; done)
    rename_i l u st p2
    cases st <;> try (simp [okE] at h; done)
    simp only [okE, Bool.and_eq_true] at h
    refine PE.imp (pe_slice sl_ok (op_of G h.1.1 (sound_e a _ h.1.1 G)) (sound_oe lo _ h.1.2 G) (sound_oe hi _ h.2 G)) fun σ H Q ⟨F, O, env, s, q⟩ => ?_
    exact sl_run s q
  | .bf f es, e, X, W, sc, h, G => by
    cases e <;> try (simp [okE] at h; done)
    rename_i fn xs kws pos
    cases fn <;> try (simp [okE] at h; done)
    rename_i x p
    cases kws <;> try (simp [okE] at h; done)
    simp only [okE, Bool.and_eq_true, Bool.not_eq_true'] at h
    obtain ⟨⟨⟨h1, h2⟩, h3⟩, h4⟩ := h
    cases hi : bfInfo f with
    | none => rw [hi] at h1; simp at h1
    | some w =>
      obtain ⟨y, ty, id⟩ := w
      rw [hi] at h1
      have h1 : x = y := of_decide_eq_true h1
      subst h1
      obtain ⟨b1, b2, b3⟩ := bfInfo_rule hi G.calm
      obtain ⟨g1, g2, g3⟩ := glob_of G h2
      have pa := sound_es es xs h3 G
      match es, xs, h3, h4, pa with
      | .nil, [], _, h4, _ => simp at h4
      | .cons _ _, [], _, h4, _ => simp at h4
      | .nil, _ :: _, h3, _, _ => simp [okEs] at h3
      | .cons a r, e0 :: rest, h3, _, pa =>
        simp only [okEs, Bool.and_eq_true] at h3
        have pl := okEs_plain h3.2 X.env pos
        have st := star_one (env := X.env) (es := rest) (okE_star h3.1)
        cases ty with
        | true => exact PE.imp (pe_callTy b3 g1 (G.facts.blt _ b1) b2 pa g3 g2 st pl) fun σ H Q ⟨F, O, env, s, q⟩ => opn_run s q
        | false => exact PE.imp (pe_callB b3 g1 (G.facts.blt _ b1) b2 pa g3 g2 st pl) fun σ H Q ⟨F, O, env, s, q⟩ => opn_run s q
  | .meth m a es, e, X, W, sc, h, G => by
    cases e <;> try (simp [okE] at h; done)
    rename_i fn xs kws pos
    cases fn <;> try (simp [okE] at h; done)
    rename_i ea x p
    cases kws <;> try (simp [okE] at h; done)
    simp only [okE, Bool.and_eq_true, decide_eq_true_eq] at h
    obtain ⟨⟨⟨⟨h1, h2⟩, h3⟩, h4⟩, h5⟩ := h
    match es, xs, h3, h4 with
    | .nil, [_], h3, _ => simp [okEs] at h3
    | .cons b (.cons _ _), [e1], h3, _ => simp [okEs] at h3
    | .cons b .nil, [e1], h3, _ =>
      simp only [okEs, Bool.and_eq_true] at h3
      have st : starEach [e1] X.env = [(false, eval e1 X.env)] := star_one (okE_star h3.1)
      have pb := op_of G h3.1 (sound_e b _ h3.1 G)
      have pa := op_of G h2 (sound_e a _ h2 G)
      cases m <;> simp only [mtInfo, Bool.false_eq_true, decide_eq_true_eq] at h1
      case join =>
        subst h1
        refine PE.imp (pe_m1 F.slot_str_join F.type_str_join mt_joinM pa pb st (okE_super h2 _ _) h5) fun σ H Q ⟨F, O, env, s, q⟩ => ?_
        refine tO_mono (fun x H1 ⟨⟨F1, d, sF, rb, ho⟩, t⟩ => ⟨?_, t⟩) (meth_run s q)
        cases d <;> try (simp [My.recvOk] at ho; done)
        exact ⟨_, rb.1⟩
  | .call f as, e, X, W, sc, h, G => by
    cases e <;> try (simp [okE] at h; done)
    rename_i fn xs kws pos
    cases fn <;> try (simp [okE] at h; done)
    rename_i x p
    cases kws <;> try (simp [okE] at h; done)
    simp only [okE, Bool.and_eq_true, Bool.not_eq_true', decide_eq_true_eq] at h
    obtain ⟨⟨⟨⟨h1, h2⟩, h3⟩, h4⟩, h5⟩ := h
    obtain ⟨g1, g2, g3⟩ := glob_of G h1
    obtain ⟨ad, fd, ps, m1, m2, m3, m4, m5⟩ := G.facts.fns x f h2
    have pa := sound_as as xs h3 G
    have hl := okAs_len h3
    match as, xs, h3, h4, pa, hl, h5 with
    | .nil, [], _, h4, _, _, _ => simp at h4
    | .cons _ _ _, [], _, h4, _, _, _ => simp at h4
    | .nil, _ :: _, h3, _, _, _, _ => simp [okAs] at h3
    | .cons io a r, e0 :: rest, h3, _, pa, hl, h5 =>
      simp only [okAs, Bool.and_eq_true] at h3
      refine PE.imp (pe_callT m5 G.room g1 m1 m2 m4 (fun σ => passAt G.tk σ) pa g2 (okE_star h3.1) (okAs_plain h3.2 X.env pos)) fun σ H Q ⟨F, O, env, s, q⟩ => ?_
      exact call_run s (fun ds e he => by rw [evA_len _ he, hl, h5]) q
  | .g _ _, e, X, W, sc, h, G => by cases e <;> simp [okE] at h
  | .chain _ _ _ _ _, e, X, W, sc, h, G => by cases e <;> simp [okE] at h
  | .isC _ _ _, e, X, W, sc, h, G => by cases e <;> simp [okE] at h
  | .ite _ _ _, e, X, W, sc, h, G => by cases e <;> simp [okE] at h
  | .dic _ _, e, X, W, sc, h, G => by cases e <;> simp [okE] at h
  | .rev a, e, X, W, sc, h, G => by
    cases e <;> try (simp [okE] at h; done)
    rename_i ea ei pos
    have h' : isRevSl ei = true ∧ okE T N sc a ea = true := by cases ei <;> simpa [okE] using h
    have ha := h'.2
    obtain ⟨j, p1, p2, p3, rfl⟩ := isRevSl_iff h'.1
    refine PE.imp (pe_revL (op_of G ha (sound_e a ea ha G))) fun σ H Q ⟨F, O, env, s, q⟩ => ?_
    have r := opn_run (es := .cons a .nil) s q
    exact tO_mono (fun v H1 ⟨F1, ds, d, sF, rb, hd, p⟩ => by
      match ds, rb, hd with
      | [x], rb, hd =>
        cases x <;> simp only [My.l1, My.revop, reduceCtorEq, Option.some.injEq] at hd
        case lst o xs =>
          subst hd
          obtain ⟨q1, vs, rfl, r1, r2⟩ := rb.1
          exact ⟨q1, vs, rfl, .inl r1, p.lst sF (repFs_rev r2)⟩) r
  | .comp _ _ _ _ _, e, X, W, sc, h, G => by cases e <;> simp [okE] at h
  | .pop _ _, e, X, W, sc, h, G => by cases e <;> simp [okE] at h
  | .idxL _ _ _, e, X, W, sc, h, G => by cases e <;> simp [okE] at h
theorem sound_es : ∀ (es : Es) (xs : List Expr) {X : Cx} {W : WX} {sc : Scope}, okEs T N sc es xs = true → Good X XR W T C N sc k → PA X xs (tList X.K XR W C es)
  | .nil, [], X, W, sc, h, G => pa_nil
  | .nil, _ :: _, X, W, sc, h, G => by simp [okEs] at h
  | .cons _ _, [], X, W, sc, h, G => by simp [okEs] at h
  | .cons a r, e :: es, X, W, sc, h, G => by
    simp only [okEs, Bool.and_eq_true] at h
    exact pa_cons (op_of G h.1 (sound_e a e h.1 G)) (sound_es r es h.2 G) (star_one (okE_star h.1))
theorem sound_x : ∀ (es : Es) (xs : List Expr) {X : Cx} {W : WX} {sc : Scope}, okEs T N sc es xs = true → Good X XR W T C N sc k → PA X xs (tX X.K XR W C es)
  | .nil, [], X, W, sc, h, G => pa_nil
  | .nil, _ :: _, X, W, sc, h, G => by simp [okEs] at h
  | .cons _ _, [], X, W, sc, h, G => by simp [okEs] at h
  | .cons a r, e :: es, X, W, sc, h, G => by
    simp only [okEs, Bool.and_eq_true] at h
    exact pa_cons (sound_e a e h.1 G) (sound_x r es h.2 G) (star_one (okE_star h.1))
theorem sound_as : ∀ (es : As) (xs : List Expr) {X : Cx} {W : WX} {sc : Scope}, okAs T N sc es xs = true → Good X XR W T C N sc k → PA X xs (tAs X.K XR W C es)
  | .nil, [], X, W, sc, h, G => pa_nil
  | .nil, _ :: _, X, W, sc, h, G => by simp [okAs] at h
  | .cons _ _ _, [], X, W, sc, h, G => by simp [okAs] at h
  | .cons io a r, e :: es, X, W, sc, h, G => by
    simp only [okAs, Bool.and_eq_true] at h
    exact pa_cons (op_of G h.1 (sound_e a e h.1 G)) (sound_as r es h.2 G) (star_one (okE_star h.1))
theorem sound_oe : ∀ (oe : OE) (o : Option Expr) {X : Cx} {W : WX} {sc : Scope}, okOE T N sc oe o = true → Good X XR W T C N sc k → PO X o (tOEp X.K XR W C oe)
  | .none, none, X, W, sc, h, G => po_none
  | .none, some _, X, W, sc, h, G => by simp [okOE] at h
  | .some _, none, X, W, sc, h, G => by simp [okOE] at h
  | .some a, some e, X, W, sc, h, G => by
    simp only [okOE] at h
    exact po_some (sound_e a e h G)
end
end
end MyS

set_option Elab.async false
set_option linter.all false
set_option maxRecDepth 100000
set_option autoImplicit false
namespace MyS
open PySem PySem.Spec PyProof.Rows L2
open My (D E Es As OE S Ss Tg)
section
variable {XR : XRT} {T : Tab} {C : My.Call} {N : List Str} {k : Nat}
theorem okE_plainT {te : E} {e : Expr} {sc : Scope} (h : okE T N sc te e = true) (hc : ∀ o a b, te ≠ .cmp o a b) (ha : ∀ a b, te ≠ .and a b) (ho : ∀ a b, te ≠ .or a b) (hn : ∀ a, te ≠ .not a) (env : PySem.Env) (whole : Sem Value) :
    isTrue e env whole = (do let v ← whole; standAt e.pos; holding [v] (truthy v)) := by
  cases e with
  | UnaryOp op a p =>
    cases te <;> try (simp [okE] at h; done)
    · cases op <;> first | (simp [okE] at h; done) | rfl
    · exact absurd rfl (hn _)
  | BoolOp op es p =>
    cases te <;> try (simp [okE] at h; done)
    · exact absurd rfl (ha _ _)
    · exact absurd rfl (ho _ _)
  | IfExp a b c p => cases te <;> simp [okE] at h
  | Compare a ops cs p =>
    cases te <;> try (simp [okE] at h; done)
    · exact absurd rfl (hc _ _ _)
  | _ => rfl
mutual
theorem sound_t : ∀ (te : E) (e : Expr) {X : Cx} {W : WX} {sc : Scope}, okE T N sc te e = true → Good X XR W T C N sc k → PT X e (tB (tE X.K XR W C te))
  | .cmp o a b, e, X, W, sc, h, G => by
    cases e <;> try (simp [okE] at h; done)
    rename_i ea ops cs pos
    match ops, cs, h with
    | [op], [eb], h =>
      simp only [okE, Bool.and_eq_true, Bool.not_eq_true'] at h
      exact PT.imp (pt_cmpR (okCmp_rule h.1.1.1 (units65 G)) (op_of G h.1.1.2 (sound_e a _ h.1.1.2 G)) (op_of G h.1.2 (sound_e b _ h.1.2 G)) h.2) fun σ H Q ⟨F, O, env, s, q⟩ => op2_run s q
  | .and a b, e, X, W, sc, h, G => (sound_w (.and a b) e h (.inl ⟨a, b, rfl⟩) G).pt
  | .or a b, e, X, W, sc, h, G => (sound_w (.or a b) e h (.inr ⟨a, b, rfl⟩) G).pt
  | .not a, e, X, W, sc, h, G => by
    cases e <;> try (simp [okE] at h; done)
    rename_i op ea pos
    cases op <;> try (simp [okE] at h; done)
    refine PT.imp (pt_not (sound_t a _ h G)) fun σ H Q ⟨F, O, env, s, q⟩ => ?_
    exact tE_of s (asB_run (f := fun t e => .ok (.bl (!t), e)) q) |> tE_mono fun x H1 ⟨t, ht, F1, O1, e1, s1, q1⟩ => ⟨t, ht, by
      obtain ⟨c, hc, q2⟩ := lit_run s1 q1 (v := .bl (!t)) rfl
      cases hc
      exact q2⟩
  | .c d, e, X, W, sc, h, G => pt_val (sound_e _ e h G) (okE_plainT h (by simp) (by simp) (by simp) (by simp) X.env)
  | .g nm d, e, X, W, sc, h, G => pt_val (sound_e _ e h G) (okE_plainT h (by simp) (by simp) (by simp) (by simp) X.env)
  | .v i, e, X, W, sc, h, G => pt_val (sound_e _ e h G) (okE_plainT h (by simp) (by simp) (by simp) (by simp) X.env)
  | .bin o a b, e, X, W, sc, h, G => pt_val (sound_e _ e h G) (okE_plainT h (by simp) (by simp) (by simp) (by simp) X.env)
  | .neg a, e, X, W, sc, h, G => pt_val (sound_e _ e h G) (okE_plainT h (by simp) (by simp) (by simp) (by simp) X.env)
  | .chain o p a b c, e, X, W, sc, h, G => by cases e <;> simp [okE] at h
  | .isC a d p, e, X, W, sc, h, G => by cases e <;> simp [okE] at h
  | .ite a b c, e, X, W, sc, h, G => by cases e <;> simp [okE] at h
  | .tup es, e, X, W, sc, h, G => pt_val (sound_e _ e h G) (okE_plainT h (by simp) (by simp) (by simp) (by simp) X.env)
  | .lst es, e, X, W, sc, h, G => pt_val (sound_e _ e h G) (okE_plainT h (by simp) (by simp) (by simp) (by simp) X.env)
  | .dic a b, e, X, W, sc, h, G => pt_val (sound_e _ e h G) (okE_plainT h (by simp) (by simp) (by simp) (by simp) X.env)
  | .idx a b, e, X, W, sc, h, G => pt_val (sound_e _ e h G) (okE_plainT h (by simp) (by simp) (by simp) (by simp) X.env)
  | .sl a b c, e, X, W, sc, h, G => pt_val (sound_e _ e h G) (okE_plainT h (by simp) (by simp) (by simp) (by simp) X.env)
  | .rev a, e, X, W, sc, h, G => pt_val (sound_e _ e h G) (okE_plainT h (by simp) (by simp) (by simp) (by simp) X.env)
  | .call f es, e, X, W, sc, h, G => pt_val (sound_e _ e h G) (okE_plainT h (by simp) (by simp) (by simp) (by simp) X.env)
  | .bf f es, e, X, W, sc, h, G => pt_val (sound_e _ e h G) (okE_plainT h (by simp) (by simp) (by simp) (by simp) X.env)
  | .meth m a es, e, X, W, sc, h, G => pt_val (sound_e _ e h G) (okE_plainT h (by simp) (by simp) (by simp) (by simp) X.env)
  | .comp a b c d l, e, X, W, sc, h, G => pt_val (sound_e _ e h G) (okE_plainT h (by simp) (by simp) (by simp) (by simp) X.env)
  | .pop a b, e, X, W, sc, h, G => pt_val (sound_e _ e h G) (okE_plainT h (by simp) (by simp) (by simp) (by simp) X.env)
  | .idxL a b c, e, X, W, sc, h, G => pt_val (sound_e _ e h G) (okE_plainT h (by simp) (by simp) (by simp) (by simp) X.env)
theorem sound_w : ∀ (te : E) (e : Expr) {X : Cx} {W : WX} {sc : Scope}, okE T N sc te e = true → ((∃ a b, te = .and a b) ∨ ∃ a b, te = .or a b) → Good X XR W T C N sc k → PW X e (tB (tE X.K XR W C te))
  | .and a b, e, X, W, sc, h, _, G => by
    cases e <;> try (simp [okE] at h; done)
    rename_i op es pos
    match op, es, h with
    | .And, ea :: eb :: rest, h =>
      simp only [okE, Bool.and_eq_true] at h
      have hb : PW X (.BoolOp .And (eb :: rest) pos) (tB (tE X.K XR W C b)) := by
        match rest, h.2 with
        | [], h2 => exact pw_and1 (sound_t b _ h2 G)
        | c :: r, h2 =>
          refine sound_w b _ h2 (.inl ?_) G
          cases b <;> try (simp [okE] at h2; done)
          exact ⟨_, _, rfl⟩
      refine ⟨fun wh pins s σ H Q I ⟨F, O, env, sr, q⟩ => (pw_and (sound_t a _ h.1 G) hb).run wh pins s σ H Q I ?_⟩
      exact tE_of sr (asB_run (f := fun t e => if t then (My.ev C b e).bind fun p => (My.asB p.1).bind fun u => .ok (.bl u, p.2) else .ok (.bl false, e)) q) |> tE_mono fun x H1 ⟨t, ht, F1, O1, e1, s1, q1⟩ => ⟨t, ht, by
        cases t with
        | true => exact tE_of s1 (asB_val q1)
        | false =>
          obtain ⟨c, hc, q2⟩ := lit_run s1 q1 (v := .bl false) rfl
          cases hc
          exact q2⟩
  | .or a b, e, X, W, sc, h, _, G => by
    cases e <;> try (simp [okE] at h; done)
    rename_i op es pos
    match op, es, h with
    | .Or, ea :: eb :: rest, h =>
      simp only [okE, Bool.and_eq_true] at h
      have hb : PW X (.BoolOp .Or (eb :: rest) pos) (tB (tE X.K XR W C b)) := by
        match rest, h.2 with
        | [], h2 => exact pw_or1 (sound_t b _ h2 G)
        | c :: r, h2 =>
          refine sound_w b _ h2 (.inr ?_) G
          cases b <;> try (simp [okE] at h2; done)
          exact ⟨_, _, rfl⟩
      refine ⟨fun wh pins s σ H Q I ⟨F, O, env, sr, q⟩ => (pw_or (sound_t a _ h.1 G) hb).run wh pins s σ H Q I ?_⟩
      exact tE_of sr (asB_run (f := fun t e => if t then .ok (.bl true, e) else (My.ev C b e).bind fun p => (My.asB p.1).bind fun u => .ok (.bl u, p.2)) q) |> tE_mono fun x H1 ⟨t, ht, F1, O1, e1, s1, q1⟩ => ⟨t, ht, by
        cases t with
        | false => exact tE_of s1 (asB_val q1)
        | true =>
          obtain ⟨c, hc, q2⟩ := lit_run s1 q1 (v := .bl true) rfl
          cases hc
          exact q2⟩
  | .c _, e, X, W, sc, h, z, G => by simp at z
  | .g _ _, e, X, W, sc, h, z, G => by simp at z
  | .v _, e, X, W, sc, h, z, G => by simp at z
  | .bin _ _ _, e, X, W, sc, h, z, G => by simp at z
  | .neg _, e, X, W, sc, h, z, G => by simp at z
  | .cmp _ _ _, e, X, W, sc, h, z, G => by simp at z
  | .chain _ _ _ _ _, e, X, W, sc, h, z, G => by simp at z
  | .isC _ _ _, e, X, W, sc, h, z, G => by simp at z
  | .not _, e, X, W, sc, h, z, G => by simp at z
  | .ite _ _ _, e, X, W, sc, h, z, G => by simp at z
  | .tup _, e, X, W, sc, h, z, G => by simp at z
  | .lst _, e, X, W, sc, h, z, G => by simp at z
  | .dic _ _, e, X, W, sc, h, z, G => by simp at z
  | .idx _ _, e, X, W, sc, h, z, G => by simp at z
  | .sl _ _ _, e, X, W, sc, h, z, G => by simp at z
  | .rev _, e, X, W, sc, h, z, G => by simp at z
  | .call _ _, e, X, W, sc, h, z, G => by simp at z
  | .bf _ _, e, X, W, sc, h, z, G => by simp at z
  | .meth _ _ _, e, X, W, sc, h, z, G => by simp at z
  | .comp _ _ _ _ _, e, X, W, sc, h, z, G => by simp at z
  | .pop _ _, e, X, W, sc, h, z, G => by simp at z
  | .idxL _ _ _, e, X, W, sc, h, z, G => by simp at z
end
end

/-! ### what a for walks -/
structure ItOk (K : PySem.W.Frag) (J : It) (xs : List D) (F : Hp) : Prop where
  stop : ∀ H, Same F H → J.stop xs.length H
  go : ∀ (F1 H : Hp) (i : Nat) (d : D), Same F F1 → Same F1 H → xs[i]? = some d → J.go i H ∧ ∀ x H', J.yld i H x H' →
    ∃ F', Same H H' ∧ Same F1 F' ∧ Same F' H' ∧ (∀ a, F' a ≠ none → F1 a ≠ none ∨ H a = none) ∧ RepF K F' d x
theorem seqL_of {K : PySem.W.Frag} {F H : Hp} {a : Addr} {vs : List V} (h : Rd F a (.lst vs)) (s : Same F H) : SqL K H a vs := .inl (rd_mono s h)
theorem rd_inj {F : Hp} {a : Addr} {x y : HO} (h : Rd F a x) (h' : F a = some y) : y = x ∨ ∃ o, y = .frz o x := by
  rcases h with h | ⟨o, h⟩
  · rw [h] at h'; exact .inl (Option.some.inj h').symm
  · rw [h] at h'; exact .inr ⟨o, (Option.some.inj h').symm⟩
theorem itOk_list {K : PySem.W.Frag} {F : Hp} {a : Addr} {xs : List D} {vs : List V} (h : Rd F a (.lst vs)) (r : RepFs K F xs vs) : ItOk K (Itl K a) xs F where
  stop := fun H s => ⟨vs, seqL_of h s, by rw [r.length]; exact Nat.le_refl _⟩
  go := fun F1 H i d s1 s2 hd => by
    obtain ⟨v, hv, rv⟩ := r.get hd
    have q : SqL K H a vs := seqL_of h fun b o z => s2 b o (s1 b o z)
    refine ⟨⟨vs, v, q, hv⟩, fun x H' y => ?_⟩
    obtain ⟨rfl, y⟩ := y
    have e := y vs q
    rw [hv] at e
    cases e
    exact ⟨F1, fun _ _ z => z, fun _ _ z => z, s2, fun _ z => .inl z, RepF.mono s1 _ _ rv⟩
theorem itOk_tup {K : PySem.W.Frag} {F : Hp} {a : Addr} {xs : List D} {vs : List V} (h : SqT K F a vs) (r : RepFs K F xs vs) : ItOk K (Itt K a) xs F where
  stop := fun H s => ⟨vs, sqT_mono s h, by rw [r.length]; exact Nat.le_refl _⟩
  go := fun F1 H i d s1 s2 hd => by
    obtain ⟨v, hv, rv⟩ := r.get hd
    have q : SqT K H a vs := sqT_mono s2 (sqT_mono s1 h)
    refine ⟨⟨vs, v, q, hv⟩, fun x H' y => ?_⟩
    obtain ⟨rfl, y⟩ := y
    have e := y vs q
    rw [hv] at e
    cases e
    exact ⟨F1, fun _ _ z => z, fun _ _ z => z, s2, fun _ z => .inl z, RepF.mono s1 _ _ rv⟩
theorem itOk_str {K : PySem.W.Frag} {F : Hp} {z : List Nat} : ItOk K (Its (mkS z)) (z.map fun c => .str [c]) F where
  stop := fun H s => by show (mkS z).cps.size ≤ _; simp
  go := fun F1 H i d s1 s2 hd => by
    rw [List.getElem?_map, Option.map_eq_some_iff] at hd
    obtain ⟨c, hc, rfl⟩ := hd
    have hi := (List.getElem?_eq_some_iff.mp hc).1
    refine ⟨by show i < (mkS z).cps.size; simpa using hi, fun x H' y => ?_⟩
    obtain ⟨rfl, c', hc', rfl⟩ := y
    have : (mkS z).cps[i]? = some c := by simpa using hc
    rw [this] at hc'
    cases hc'
    exact ⟨F1, fun _ _ z => z, fun _ _ z => z, s2, fun _ z => .inl z, rfl, by show 1 ≤ sizeLine; decide⟩
theorem itOk_range {K : PySem.W.Frag} {F : Hp} {lo hi : Int} : ItOk K (Itr lo (hi - lo).toNat) (My.rangeL lo hi) F where
  stop := fun H s => by show (hi - lo).toNat ≤ _; simp [My.rangeL]
  go := fun F1 H i d s1 s2 hd => by
    unfold My.rangeL at hd
    rw [List.getElem?_map, Option.map_eq_some_iff] at hd
    obtain ⟨c, hc, rfl⟩ := hd
    obtain ⟨hi', e⟩ := List.getElem?_eq_some_iff.mp hc
    rw [List.getElem_range] at e
    subst e
    rw [List.length_range] at hi'
    refine ⟨hi', fun x H' y => ?_⟩
    obtain ⟨rfl, rfl⟩ := y
    exact ⟨F1, fun _ _ z => z, fun _ _ z => z, s2, fun _ z => .inl z, rfl⟩
end MyS

set_option Elab.async false
set_option linter.all false
set_option maxRecDepth 100000
set_option autoImplicit false
namespace MyS
open PySem PySem.Spec PyProof.Rows L2
open My (D E Es As OE S Ss Tg)
def okI (T : Tab) (N : List Str) (sc : Scope) : My.It → Expr → Bool
  | .e a, e => okE T N sc a e
  | .rng1 a, .Call (.Name x _) [ea] [] _ => decide (x = ("range" : Str)) && glB sc x && okE T N sc a ea
  | .rng2 a b, .Call (.Name x _) [ea, eb] [] _ => decide (x = ("range" : Str)) && glB sc x && okE T N sc a ea && okE T N sc b eb
  | _, _ => false
def QvIt (K : PySem.W.Frag) (XR : XRT) (W : WX) (H F : Hp) (O : Ow) (σ : L2.St) (R : It → Hp → Prop) : My.R (List D × My.Env) → Prop
  | .ok (xs, e) => ∀ J H' F' O', SR K H' F' σ e O' → ItOk K J xs F' → Ext H F (Own O) H' F' (Own O') → R J H'
  | .exc x => QX XR W H F O σ x
  | .bad => False
def tIt (K : PySem.W.Frag) (XR : XRT) (W : WX) (C : My.Call) (it : My.It) : TI := fun σ H R => ∃ F O env, SR K H F σ env O ∧ QvIt K XR W H F O σ R (My.evIt C it env)
section
variable {X : Cx} {XR : XRT} {W : WX} {T : Tab} {C : My.Call} {N : List Str} {sc : Scope} {k : Nat}
theorem small_iff {i : Int} (h : My.small i = true) : -1000000 ≤ i ∧ i ≤ 1000000 := by
  unfold My.small at h
  simpa using h
theorem sound_i (it : My.It) (e tg : Expr) (h : okI T N sc it e = true) (G : Good X XR W T C N sc k) : PI X tg e (tIt X.K XR W C it) := by
  cases it with
  | e a =>
    have pe := sound_e a e h G
    refine ⟨fun pins s σ H R I ⟨F, O, env, sr, q⟩ => ?_⟩
    simp only [My.evIt] at q
    cases hr : My.ev C a env with
    | bad => rw [hr] at q; exact q.elim
    | exc x => exact (pi_list pe).run pins s σ H R I ⟨F, O, env, sr, by rw [hr] at q ⊢; exact q⟩
    | ok p =>
      obtain ⟨d, e1⟩ := p
      rw [hr] at q
      simp only [My.R.bind_ok] at q
      cases d with
      | tup xs =>
        refine (pi_tup pe).run pins s σ H R I ⟨F, O, env, sr, ?_⟩
        rw [hr]
        intro v H1 F1 O1 l s1 r1 hl x1
        obtain ⟨⟨p, vs, rfl, r2, r3⟩, rfl⟩ := r1
        exact ⟨p, rfl, ⟨vs, sqT_mono s1.sub r2⟩, q _ H1 F1 O1 s1 (itOk_tup r2 r3) (x1.mono fun a z => .inl z)⟩
      | lst own xs =>
        refine (pi_list pe).run pins s σ H R I ⟨F, O, env, sr, ?_⟩
        rw [hr]
        intro v H1 F1 O1 l s1 r1 hl x1
        obtain ⟨F2, s2, f12, r2, x2⟩ := freeze_sr s1 r1 hl
        obtain ⟨_, p, vs, rfl, r3, r4⟩ := r2 (not_und r1)
        exact ⟨p, rfl, ⟨vs, seqL_of r3 s2.sub⟩, q _ H1 F2 O1 s2 (itOk_list r3 r4) (x1.trans x2)⟩
      | str z =>
        refine (pi_str pe).run pins s σ H R I ⟨F, O, env, sr, ?_⟩
        rw [hr]
        intro v H1 F1 O1 l s1 r1 hl x1
        obtain ⟨⟨rv, _⟩, rfl⟩ := r1
        exact ⟨mkS z, rv, q _ H1 F1 O1 s1 itOk_str (x1.mono fun a z => .inl z)⟩
      | dic o ks vs =>
        refine (pi_list pe).run pins s σ H R I ⟨F, O, env, sr, ?_⟩
        rw [hr]
        intro v H1 F1 O1 l s1 r1 hl x1
        exact r1.1.elim
      | _ => exact q.elim
  | rng1 a =>
    cases e <;> try (simp [okI] at h; done)
    rename_i fn xs kws pos
    cases fn <;> try (simp [okI] at h; done)
    rename_i x p
    match xs, kws, h with
    | [ea], [], h =>
      simp only [okI, Bool.and_eq_true, decide_eq_true_eq] at h
      obtain ⟨⟨rfl, h2⟩, h3⟩ := h
      have st : starEach [ea] X.env = [(false, eval ea X.env)] := star_one (okE_star h3)
      refine ⟨fun pins s σ H R I ⟨F, O, env, sr, q⟩ => (pi_range1 (glob_of G h2).1 (G.facts.blt _ (by decide +kernel)) (pa_cons (sound_e a ea h3 G) pa_nil (star_one (okE_star h3))) st).run pins s σ H R I ?_⟩
      simp only [My.evIt] at q
      refine ⟨F, O, env, sr, ?_⟩
      cases hr : My.ev C a env with
      | bad => rw [hr] at q; exact q.elim
      | exc x => rw [hr] at q; exact q
      | ok p =>
        obtain ⟨d, e1⟩ := p
        rw [hr] at q
        simp only [My.R.bind_ok] at q
        intro v H1 F1 O1 l s1 r1 hl x1
        cases d <;> try exact q.elim
        rename_i n
        simp only [My.asI, My.opt_some, My.R.bind_ok] at q
        by_cases hs : My.small n = true
        · rw [if_pos hs] at q
          obtain ⟨rv, rfl⟩ := r1
          have := small_iff hs
          refine ⟨n, by rw [show v = _ from rv], by omega, by omega, ?_⟩
          have it := itOk_range (K := X.K) (F := F1) (lo := 0) (hi := n)
          rw [Int.sub_zero] at it
          exact q _ H1 F1 O1 s1 it (x1.mono fun a z => .inl z)
        · rw [if_neg hs] at q; exact q.elim
  | rng2 a b =>
    cases e <;> try (simp [okI] at h; done)
    rename_i fn xs kws pos
    cases fn <;> try (simp [okI] at h; done)
    rename_i x p
    match xs, kws, h with
    | [ea, eb], [], h =>
      simp only [okI, Bool.and_eq_true, decide_eq_true_eq] at h
      obtain ⟨⟨⟨rfl, h2⟩, h3⟩, h4⟩ := h
      have st2 : starEach [eb] X.env = [(false, eval eb X.env)] := star_one (okE_star h4)
      have st : starEach [ea, eb] X.env = [(false, eval ea X.env), (false, eval eb X.env)] := by rw [star_one (okE_star h3), st2]
      refine ⟨fun pins s σ H R I ⟨F, O, env, sr, q⟩ => (pi_range2 (glob_of G h2).1 (G.facts.blt _ (by decide +kernel)) (pa_cons (sound_e a ea h3 G) (pa_cons (sound_e b eb h4 G) pa_nil (star_one (okE_star h4))) (star_one (okE_star h3))) st st2).run pins s σ H R I ?_⟩
      simp only [My.evIt] at q
      refine ⟨F, O, env, sr, ?_⟩
      cases hr : My.ev C a env with
      | bad => rw [hr] at q; exact q.elim
      | exc x => rw [hr] at q; exact q
      | ok p =>
        obtain ⟨d, e1⟩ := p
        rw [hr] at q
        simp only [My.R.bind_ok] at q
        intro v H1 F1 O1 l s1 r1 hl x1
        cases d <;> try exact q.elim
        rename_i i
        simp only [My.asI, My.opt_some, My.R.bind_ok] at q
        obtain ⟨rv, rfl⟩ := r1
        have x1' := x1.mono (O2 := Own O1) fun a z => .inl z
        refine ⟨F1, O1, e1, s1, ?_⟩
        cases hr2 : My.ev C b e1 with
        | bad => rw [hr2] at q; exact q.elim
        | exc x => rw [hr2] at q; exact QX.back q x1' fun a z => z
        | ok p =>
          obtain ⟨d2, e2⟩ := p
          rw [hr2] at q
          simp only [My.R.bind_ok] at q
          intro w H2 F2 O2 l2 s2 r2 hl2 x2
          cases d2 <;> try exact q.elim
          rename_i j
          simp only [My.asI, My.opt_some, My.R.bind_ok] at q
          by_cases hs : (My.small i && My.small j) = true
          · rw [if_pos hs] at q
            rw [Bool.and_eq_true] at hs
            obtain ⟨rw', rfl⟩ := r2
            have h1 := small_iff hs.1
            have h2 := small_iff hs.2
            exact ⟨i, j, by rw [show v = _ from rv, show w = _ from rw'], ⟨by omega, by omega, by omega, by omega⟩, q _ H2 F2 O2 s2 itOk_range (x1'.trans (x2.mono fun a z => .inl z))⟩
          · rw [if_neg hs] at q; exact q.elim
  | _ => cases e <;> simp [okI] at h
theorem okI_folded {it : My.It} {e : Expr} (h : okI T N sc it e = true) (env : PySem.Env) (x : Value) : foldedSetIterable e env x = pure x := by
  cases e with
  | Set es j p =>
    cases it <;> try (simp [okI] at h; done)
    rename_i a
    cases a <;> simp [okI, okE] at h
  | _ => rfl
end
end MyS

set_option Elab.async false
set_option linter.all false
set_option maxRecDepth 100000
set_option autoImplicit false
namespace MyS
open PySem PySem.Spec PyProof.Rows L2
open My (D E Es As OE S Ss Tg)

/-! ### targets -/
def okLoc (N : List Str) (sc : Scope) (kp : Nat → Bool) (i : Nat) (x : Str) : Bool := decide (N[i]? = some x) && locB sc x && !kp i && okName x
mutual
def okT (N : List Str) (sc : Scope) (kp : Nat → Bool) : Tg → Expr → Bool
  | .n i, .Name x _ => okLoc N sc kp i x
  | .nil, .Tuple [] _ _ => true
  | .cons t r, .Tuple (e :: es) _ _ => okT N sc kp t e && okTs N sc kp r es
  | _, _ => false
def okTs (N : List Str) (sc : Scope) (kp : Nat → Bool) : Tg → List Expr → Bool
  | .nil, [] => true
  | .cons t r, e :: es => okT N sc kp t e && okTs N sc kp r es
  | _, _ => false
end
/-- as many targets -/
def tgLen : Tg → Nat
  | .cons _ r => tgLen r + 1
  | _ => 0
mutual
def gT (K : PySem.W.Frag) : Tg → TG
  | .n i => gName i
  | .nil => gTup K 0 gNil
  | .cons t r => gTup K (tgLen r + 1) (gCons (gT K t) (gTs K r))
def gTs (K : PySem.W.Frag) : Tg → TGs
  | .cons t r => gCons (gT K t) (gTs K r)
  | _ => gNil
end
/-- the slots that stay -/
def Keeps (kp : Nat → Bool) (σ σ' : L2.St) : Prop := σ'.length = σ.length ∧ ∀ i, kp i = true → σ'[i]? = σ[i]?
theorem Keeps.refl {kp : Nat → Bool} {σ : L2.St} : Keeps kp σ σ := ⟨rfl, fun _ _ => rfl⟩
theorem Keeps.trans {kp : Nat → Bool} {σ σ1 σ2 : L2.St} (a : Keeps kp σ σ1) (b : Keeps kp σ1 σ2) : Keeps kp σ σ2 := ⟨b.1.trans a.1, fun i h => (b.2 i h).trans (a.2 i h)⟩
theorem Keeps.set {kp : Nat → Bool} {σ : L2.St} {i : Nat} {v : Option V} (h : kp i = false) : Keeps kp σ (σ.set i v) := ⟨List.length_set, fun j hj => by
  have : i ≠ j := fun e => by subst e; rw [h] at hj; cases hj
  rw [List.getElem?_set_ne this]⟩
theorem loc_of {sc : Scope} {x : Str} (h : locB sc x = true) : L2.Loc sc x := by
  unfold locB at h
  unfold L2.Loc
  split at h <;> simp_all
theorem okLoc_iff {N : List Str} {sc : Scope} {kp : Nat → Bool} {i : Nat} {x : Str} (h : okLoc N sc kp i x = true) : N[i]? = some x ∧ L2.Loc sc x ∧ kp i = false ∧ okName x = true := by
  unfold okLoc at h
  simp only [Bool.and_eq_true, decide_eq_true_eq, Bool.not_eq_true'] at h
  exact ⟨h.1.1.1, loc_of h.1.1.2, h.1.2, h.2⟩
section
variable {X : Cx} {XR : XRT} {W : WX} {T : Tab} {C : My.Call} {N : List Str} {sc : Scope} {k : Nat} {kp : Nat → Bool}
theorem Good.store (G : Good X XR W T C N sc k) {x : Str} (h : L2.Loc sc x) : L2.Loc X.env.scope x ∧ (X.fn x = true ∨ X.env.scope.names.lookup x = some .local) := by
  rw [G.sc]
  refine ⟨h, ?_⟩
  rcases h with h | h
  · exact .inr h
  · exact .inl (G.fn x (by rw [G.sc]; exact h))
theorem okT_star {t : Tg} {e : Expr} (h : okT N sc kp t e = true) : ∀ a p, e ≠ .Starred a p := fun a p z => by
  subst z
  cases t <;> simp [okT] at h
theorem asg_one {e : Expr} {es : List Expr} {env : PySem.Env} (h : ∀ a p, e ≠ .Starred a p) : assignEach (e :: es) env = (false, assign e env) :: assignEach es env := by
  cases e <;> first | rfl | exact absurd rfl (h _ _)
theorem okTs_len : ∀ {r : Tg} {es : List Expr}, okTs N sc kp r es = true → ∀ env : PySem.Env, (assignEach es env).length = tgLen r ∧ (assignEach es env).findIdx? (·.1) = none
  | .nil, [], _, _ => ⟨rfl, rfl⟩
  | .n _, _, h, _ => by simp [okTs] at h
  | .nil, _ :: _, h, _ => by simp [okTs] at h
  | .cons _ _, [], h, _ => by simp [okTs] at h
  | .cons t r, e :: es, h, env => by
    simp only [okTs, Bool.and_eq_true] at h
    obtain ⟨h1, h2⟩ := okTs_len h.2 env
    rw [asg_one (okT_star h.1)]
    exact ⟨by rw [List.length_cons, h1]; rfl, by rw [List.findIdx?_cons, h2]; rfl⟩
mutual
theorem sound_g : ∀ (t : Tg) (e : Expr), okT N sc kp t e = true → Good X XR W T C N sc k → PG X e (gT X.K t)
  | .n i, e, h, G => by
    cases e <;> try (simp [okT] at h; done)
    obtain ⟨h1, h2, _, _⟩ := okLoc_iff h
    obtain ⟨h3, h4⟩ := G.store h2
    exact pg_name G.nd (by rw [G.N]; exact h1) h3 h4
  | .nil, e, h, G => by
    cases e <;> try (simp [okT] at h; done)
    rename_i es _ _
    cases es with
    | nil => exact pg_tup G.calm pgs_nil rfl rfl
    | cons _ _ => simp [okT] at h
  | .cons t r, e, h, G => by
    cases e <;> try (simp [okT] at h; done)
    rename_i es _ _
    cases es with
    | nil => simp [okT] at h
    | cons e es =>
      simp only [okT, Bool.and_eq_true] at h
      obtain ⟨l1, l2⟩ := okTs_len h.2 X.env
      have st := asg_one (env := X.env) (es := es) (okT_star h.1)
      exact pg_tup G.calm (pgs_cons (sound_g t e h.1 G) (sound_gs r es h.2 G) (by rw [st]; rfl)) (by rw [st, List.length_cons, l1]) (by rw [st, List.findIdx?_cons, l2]; rfl)
theorem sound_gs : ∀ (r : Tg) (es : List Expr), okTs N sc kp r es = true → Good X XR W T C N sc k → PGs X es (gTs X.K r)
  | .n _, es, h, G => by simp [okTs] at h
  | .nil, [], h, G => pgs_nil
  | .nil, _ :: _, h, G => by simp [okTs] at h
  | .cons _ _, [], h, G => by simp [okTs] at h
  | .cons t r, e :: es, h, G => by
    simp only [okTs, Bool.and_eq_true] at h
    exact pgs_cons (sound_g t e h.1 G) (sound_gs r es h.2 G) (by rw [asg_one (okT_star h.1)]; rfl)
end
end
section
variable {K : PySem.W.Frag} {kp : Nat → Bool} {N : List Str} {sc : Scope}
theorem asgT_len : ∀ (t : Tg) {d : D} {env env' : My.Env}, My.asgT t d env = some env' → env'.length = env.length
  | .n i, d, env, env', h => by
    simp only [My.asgT, Option.some.injEq] at h
    rw [← h, st_length]
  | .nil, d, env, env', h => by
    cases d <;> try (simp [My.asgT] at h; done)
    rename_i ds
    cases ds <;> try (simp [My.asgT] at h; done)
    simp only [My.asgT, Option.some.injEq] at h
    rw [h]
  | .cons t r, d, env, env', h => by
    cases d <;> try (simp [My.asgT] at h; done)
    rename_i ds
    cases ds <;> try (simp [My.asgT] at h; done)
    rename_i d ds
    simp only [My.asgT] at h
    cases h1 : My.asgT t d env with
    | none => rw [h1] at h; cases h
    | some e1 =>
      rw [h1] at h
      exact (asgT_len r h).trans (asgT_len t h1)
theorem okTs_ds : ∀ {r : Tg} {es : List Expr} {ds : List D} {env env' : My.Env}, okTs N sc kp r es = true → My.asgT r (.tup ds) env = some env' → ds.length = tgLen r
  | .n _, es, ds, env, env', h, ha => by simp [okTs] at h
  | .nil, es, ds, env, env', h, ha => by
    cases ds <;> try (simp [My.asgT] at ha; done)
    rfl
  | .cons t r, [], ds, env, env', h, ha => by simp [okTs] at h
  | .cons t r, e :: es, ds, env, env', h, ha => by
    simp only [okTs, Bool.and_eq_true] at h
    cases ds <;> try (simp [My.asgT] at ha; done)
    rename_i d ds
    simp only [My.asgT] at ha
    cases h1 : My.asgT t d env with
    | none => rw [h1] at ha; cases ha
    | some e1 =>
      rw [h1] at ha
      show ds.length + 1 = tgLen r + 1
      rw [okTs_ds h.2 ha]
theorem gt_lt {env : My.Env} {i : Nat} (h : i < N.length) (e : env.length = N.length) : i < env.length := by omega
mutual
theorem gt_run : ∀ (t : Tg) (e : Expr) {H F : Hp} {σ : L2.St} {env env' : My.Env} {O : Ow} {d : D} {x : V} {Q : L2.St → Hp → Prop}, okT N sc kp t e = true → env.length = N.length → SR K H F σ env O → RepF K F d x → My.asgT t d env = some env' →
    (∀ σ' O', SR K H F σ' env' O' → Keeps kp σ σ' → (∀ a, Own O' a → Own O a) → Q σ' H) → gT K t x σ H Q
  | .n i, e, H, F, σ, env, env', O, d, x, Q, h, hl, s, r, ha, q => by
    cases e <;> try (simp [okT] at h; done)
    obtain ⟨h1, h2, h3, _⟩ := okLoc_iff h
    simp only [My.asgT, Option.some.injEq] at ha
    subst ha
    exact q _ _ (s.set (gt_lt (List.getElem?_eq_some_iff.mp h1).1 hl) (repO_frz r) (by simp)) (Keeps.set h3) fun a z => (own_setO z).elim id fun z => by simp at z
  | .nil, e, H, F, σ, env, env', O, d, x, Q, h, hl, s, r, ha, q => by
    cases d <;> try (simp [My.asgT] at ha; done)
    rename_i ds
    cases ds <;> try (simp [My.asgT] at ha; done)
    simp only [My.asgT, Option.some.injEq] at ha
    subst ha
    obtain ⟨a, vs, rfl, s1, r1⟩ := r
    cases vs with
    | cons _ _ => exact r1.elim
    | nil => exact ⟨a, [], rfl, sqT_mono s.sub s1, rfl, rfl, q σ O s Keeps.refl fun a z => z⟩
  | .cons t r, e, H, F, σ, env, env', O, d, x, Q, h, hl, s, rr, ha, q => by
    cases e <;> try (simp [okT] at h; done)
    rename_i es _ _
    cases es with
    | nil => simp [okT] at h
    | cons e es =>
      simp only [okT, Bool.and_eq_true] at h
      cases d <;> try (simp [My.asgT] at ha; done)
      rename_i ds
      cases ds with
      | nil => simp [My.asgT] at ha
      | cons d ds =>
        obtain ⟨a, vs, rfl, s1, r1⟩ := rr
        cases vs with
        | nil => exact r1.elim
        | cons v vs =>
          simp only [My.asgT] at ha
          cases h1 : My.asgT t d env with
          | none => rw [h1] at ha; cases ha
          | some e1 =>
            rw [h1] at ha
            have hlen : vs.length = tgLen r := by rw [← r1.2.length]; exact okTs_ds h.2 ha
            refine ⟨a, v :: vs, rfl, sqT_mono s.sub s1, by simp [hlen], v, vs, rfl, ?_⟩
            refine gt_run t e h.1 hl s r1.1 h1 fun σ1 O1 s2 k1 o1 => ?_
            exact gts_run r es h.2 (by rw [asgT_len t h1]; exact hl) s2 r1.2 ha fun σ2 O2 s3 k2 o2 => q σ2 O2 s3 (k1.trans k2) fun a z => o1 a (o2 a z)
theorem gts_run : ∀ (r : Tg) (es : List Expr) {H F : Hp} {σ : L2.St} {env env' : My.Env} {O : Ow} {ds : List D} {vs : List V} {Q : L2.St → Hp → Prop}, okTs N sc kp r es = true → env.length = N.length → SR K H F σ env O → RepFs K F ds vs → My.asgT r (.tup ds) env = some env' →
    (∀ σ' O', SR K H F σ' env' O' → Keeps kp σ σ' → (∀ a, Own O' a → Own O a) → Q σ' H) → gTs K r vs σ H Q
  | .n _, es, H, F, σ, env, env', O, ds, vs, Q, h, hl, s, r, ha, q => by simp [okTs] at h
  | .nil, es, H, F, σ, env, env', O, ds, vs, Q, h, hl, s, r, ha, q => by
    cases ds <;> try (simp [My.asgT] at ha; done)
    simp only [My.asgT, Option.some.injEq] at ha
    subst ha
    cases vs with
    | cons _ _ => exact r.elim
    | nil => exact ⟨rfl, q σ O s Keeps.refl fun a z => z⟩
  | .cons t r, [], H, F, σ, env, env', O, ds, vs, Q, h, hl, s, rr, ha, q => by simp [okTs] at h
  | .cons t r, e :: es, H, F, σ, env, env', O, ds, vs, Q, h, hl, s, rr, ha, q => by
    simp only [okTs, Bool.and_eq_true] at h
    cases ds with
    | nil => simp [My.asgT] at ha
    | cons d ds =>
      cases vs with
      | nil => exact rr.elim
      | cons v vs =>
        refine ⟨v, vs, rfl, ?_⟩
        simp only [My.asgT] at ha
        cases h1 : My.asgT t d env with
        | none => rw [h1] at ha; cases ha
        | some e1 =>
          rw [h1] at ha
          refine gt_run t e h.1 hl s rr.1 h1 fun σ1 O1 s2 k1 o1 => ?_
          exact gts_run r es h.2 (by rw [asgT_len t h1]; exact hl) s2 rr.2 ha fun σ2 O2 s3 k2 o2 => q σ2 O2 s3 (k1.trans k2) fun a z => o1 a (o2 a z)
end
end
end MyS

set_option Elab.async false
set_option linter.all false
set_option maxRecDepth 100000
set_option autoImplicit false
namespace MyS
open PySem PySem.Spec PyProof.Rows L2
open My (D E Es As OE S Ss Tg)
def noComp : Expr → Bool
  | .ListComp _ _ _ _ => false
  | .SetComp _ _ _ _ => false
  | .DictComp _ _ _ _ _ => false
  | _ => true
def noTup : Expr → Bool
  | .Tuple _ _ _ => false
  | _ => true
def swNames (sc : Scope) (ts : List Expr) : List Str := ts.filterMap fun
  | .Name id pos => if sc.names.lookup id == some .local && pos.line == (ts.head?.map (·.pos.line)).getD 0 then some id else none
  | _ => none
def isPlainP (sc : Scope) (ts vs : List Expr) : Bool := !(ts.length == 2 || ts.length == 3) || (swNames sc ts).length != ts.length || (swNames sc ts).eraseDups.length != (swNames sc ts).length || vs.all (foldedForSure 8)
def isSwapP (sc : Scope) (ts vs : List Expr) : Bool := (ts.length == 2 || ts.length == 3) && vs.length == ts.length && (swNames sc ts).length == ts.length && (swNames sc ts).eraseDups.length == (swNames sc ts).length && !(vs.all (foldedForSure 8)) && !(vs.all (constantsAlone 8)) &&
  !(vs.any fun | .Starred .. => true | _ => false)
def okNs (N : List Str) (sc : Scope) (kp : Nat → Bool) : List Nat → List Expr → Bool
  | [], [] => true
  | i :: r, .Name x _ :: es => okLoc N sc kp i x && okNs N sc kp r es
  | _, _ => false
def locL (sc : Scope) (x : Str) : Bool := decide (sc.names.lookup x = some .local)
def okSw (sc : Scope) : List Nat → List Expr → List Expr → Bool
  | [i, j], [.Name x p, .Name y p'], vs => decide (i ≠ j) && locL sc x && locL sc y && decide (swNames sc [.Name x p, .Name y p'] = [x, y]) && decide (vs.length = 2)
  | [i, j, l], [.Name x p, .Name y p', .Name z p''], vs => decide (i ≠ j) && decide (i ≠ l) && decide (j ≠ l) && locL sc x && locL sc y && locL sc z && decide (swNames sc [.Name x p, .Name y p', .Name z p''] = [x, y, z]) && decide (vs.length = 3)
  | _, _, _ => false
mutual
def okS (T : Tab) (N : List Str) (sc : Scope) (kp : Nat → Bool) : S → Stmt → Bool
  | .set (.n i) e, .Assign [.Name x _] ev _ => okLoc N sc kp i x && okE T N sc e ev && noComp ev
  | .set (.cons t r) e, .Assign [tg] ev _ => okT N sc kp (.cons t r) tg && okE T N sc e ev && noComp ev && noTup ev
  | .sub x i e, .Assign [.Subscript (.Name y p) ei _] ev _ => okV N sc x y && okE T N sc i ei && okE T N sc e ev && noComp ev
  | .app x e, .Expr (.Call (.Attribute (.Name y _) m apos) [ea] [] cpos) _ => okV N sc x y && decide (m = ("append" : Str)) && okE T N sc e ea && (apos.endLine == cpos.line)
  | .expr e, .Expr ev _ => okE T N sc e ev && noComp ev
  | .ret e, .Return (some ev) _ => okE T N sc e ev
  | .retN, .Return none _ => true
  | .ife c a b, .If ec ea eb _ => okE T N sc c ec && okSs T N sc kp a ea && okSs T N sc kp b eb
  | .whl c b, .While ec eb [] _ => okE T N sc c ec && okSs T N sc kp b eb
  | .for t it b, .For tg ei eb [] _ => okT N sc kp t tg && okI T N sc it ei && okSs T N sc kp b eb
  | .pass, .Pass _ => true
  | .dead, _ => true
  | .par is es, .Assign [.Tuple ts _ _] (.Tuple vs _ _) _ => okNs N sc kp is ts && okEs T N sc es vs && (if isPlainP sc ts vs then decide (vs.length ≤ 1000) else isSwapP sc ts vs && okSw sc is ts vs && decide (sc.kind = .function))
  | _, _ => false
def okSs (T : Tab) (N : List Str) (sc : Scope) (kp : Nat → Bool) : Ss → List Stmt → Bool
  | .nil, [] => true
  | .cons s r, st :: sts => okS T N sc kp s st && okSs T N sc kp r sts
  | _, _ => false
end
section
variable (K : PySem.W.Frag) (XR : XRT) (W : WX) (C : My.Call) (kp : Nat → Bool)
def QvS (H F : Hp) (O : Ow) (σ : L2.St) (De : Ends) : My.R My.Out → Prop
  | .ok (.nx e) => ∀ σ' H' F' O', SR K H' F' σ' e O' → Keeps kp σ σ' → Ext H F (Own O) H' F' (Own O') → De.nx σ' H'
  | .ok (.rt d e) => ∀ v σ' H' F' O' l, SR K H' F' σ' e O' → RepO K H' F' d v l → (∀ a ∈ l, F' a = none ∧ ¬ Own O' a) → Keeps kp σ σ' → Ext H F (Own O) H' F' (OwnP O' l) → De.rt v H'
  | .exc x => ∀ σ' cls dx H' F', Keeps kp σ σ' → Same F' H' → Ext H F (Own O) H' F' (fun _ => False) → XR x cls dx H' F' → W cls dx σ' H'
  | .bad => False
def tS (s : S) : TS := fun De σ H => ∃ F O env, SR K H F σ env O ∧ QvS K XR W kp H F O σ De (My.ex C s env)
def tSs (s : Ss) : TS := fun De σ H => ∃ F O env, SR K H F σ env O ∧ QvS K XR W kp H F O σ De (My.exs C s env)
end
section
variable {K : PySem.W.Frag} {XR : XRT} {W : WX} {C : My.Call} {kp : Nat → Bool} {H F : Hp} {O : Ow} {σ : L2.St} {env : My.Env} {De : Ends}
theorem QvS.back {H1 F1 : Hp} {O1 : Ow} {σ1 : L2.St} {r : My.R My.Out} (q : QvS K XR W kp H F O σ De r) (x : Ext H F (Own O) H1 F1 (Own O1)) (kk : Keeps kp σ σ1) : QvS K XR W kp H1 F1 O1 σ1 De r := by
  match r, q with
  | .bad, q => exact q
  | .exc y, q => exact fun σ' cls dx H' F' k' hs x' r => q σ' cls dx H' F' (kk.trans k') hs (x.trans x') r
  | .ok (.nx e), q => exact fun σ' H' F' O' s k' x' => q σ' H' F' O' s (kk.trans k') (x.trans x')
  | .ok (.rt d e), q => exact fun v σ' H' F' O' l s r hl k' x' => q v σ' H' F' O' l s r hl (kk.trans k') (x.trans x')
theorem QvS.ends {D2 : Ends} {r : My.R My.Out} (q : QvS K XR W kp H F O σ De r) (h1 : ∀ σ H, De.nx σ H → D2.nx σ H) (h2 : ∀ v H, De.rt v H → D2.rt v H) : QvS K XR W kp H F O σ D2 r := by
  match r, q with
  | .bad, q => exact q
  | .exc y, q => exact q
  | .ok (.nx e), q => exact fun σ' H' F' O' s k' x' => h1 _ _ (q σ' H' F' O' s k' x')
  | .ok (.rt d e), q => exact fun v σ' H' F' O' l s r hl k' x' => h2 _ _ (q v σ' H' F' O' l s r hl k' x')
/-- an expression first -/
theorem sE_run {te : E} {f : D × My.Env → My.R My.Out} (s : SR K H F σ env O) (q : QvS K XR W kp H F O σ De ((My.ev C te env).bind f)) :
    tE K XR W C te σ H fun v H1 => ∃ F1 O1 l d e, SR K H1 F1 σ e O1 ∧ RepO K H1 F1 d v l ∧ (∀ a ∈ l, F1 a = none ∧ ¬ Own O1 a) ∧ Ext H F (Own O) H1 F1 (OwnP O1 l) ∧ QvS K XR W kp H F O σ De (f (d, e)) := by
  refine ⟨F, O, env, s, ?_⟩
  cases hr : My.ev C te env with
  | bad => rw [hr] at q; exact q.elim
  | exc x => rw [hr] at q; exact fun cls dx H' F' hs x r => q σ cls dx H' F' Keeps.refl hs x r
  | ok p =>
    obtain ⟨d, e⟩ := p
    rw [hr] at q
    exact fun v H1 F1 O1 l s1 r1 hl x1 => ⟨F1, O1, l, d, e, s1, r1, hl, x1, q⟩
theorem keep_self {σ : L2.St} {i : Nat} {v : V} (h : σ[i]? = some (some v)) : σ.set i (some v) = σ := by
  apply List.ext_getElem?
  intro j
  by_cases z : i = j
  · subst z; rw [List.getElem?_set_self (List.getElem?_eq_some_iff.mp h).1, h]
  · rw [List.getElem?_set_ne z]
/-- a list that is held alone is changed -/
theorem upd_slot {i : Nat} {xs ys : List D} (s : SR K H F σ env O) (hg : My.gt env i = .lst true xs) :
    ∃ a vs, σ[i]? = some (some (.ref a)) ∧ H a = some (.lst vs) ∧ RepFs K F xs vs ∧ ∀ ws, RepFs K F ys ws → SR K (upd H a (.lst ws)) F σ (My.st env i (.lst true ys)) O ∧ Ext H F (Own O) (upd H a (.lst ws)) F (Own O) := by
  rcases s.slot i with ⟨e, _⟩ | ⟨v, ev, r⟩
  · rw [hg] at e; cases e
  rw [hg] at r
  obtain ⟨a, vs, rfl, ha, r1, hO⟩ := r
  have oa : Own O a := ⟨i, by rw [hO]; simp⟩
  have fa : F a = none := s.off i a (by rw [hO]; simp)
  refine ⟨a, vs, ev, ha, r1, fun ws rw' => ?_⟩
  have hi : i < env.length := Nat.lt_of_not_le fun z => by rw [gt_big env i z] at hg; cases hg
  have sub : Same F (upd H a (.lst ws)) := fun b o h => by rw [upd_ne (ne_of_none h fa)]; exact s.sub b o h
  refine ⟨⟨sub, by rw [st_length]; exact s.len, fun j => ?_, s.nodup, s.apart, s.off⟩, fun b o n h => ?_, fun b h => ?_, fun _ _ h => h, fun _ h => .inl h, fun _ h => .inl h⟩
  · rw [gt_st]
    by_cases e : i = j
    · subst e
      rw [if_pos ⟨rfl, hi⟩]
      exact .inr ⟨_, ev, a, ws, rfl, upd_same, rw', hO⟩
    · rw [if_neg fun z => e z.1]
      refine (s.slot j).imp id fun ⟨u, e1, r⟩ => ⟨u, e1, r.step (P := fun b => b = a) (P' := fun b => b = a) ⟨fun b o n h => by rw [upd_ne n]; exact h, fun b h => ?_, fun _ _ h => h, fun _ h => .inl h, fun _ h => .inl h⟩ fun b hb z => ?_⟩
      · by_cases z : b = a
        · subst z; rw [upd_same] at h; cases h
        · rw [upd_ne z] at h; exact h
      · subst z
        exact e (s.apart i j b (by rw [hO]; simp) hb)
  · rw [upd_ne fun z => n (by rw [z]; exact oa)]; exact h
  · by_cases z : b = a
    · subst z; rw [upd_same] at h; cases h
    · rw [upd_ne z] at h; exact h
end
section
variable {X : Cx} {XR : XRT} {W : WX} {T : Tab} {C : My.Call} {N : List Str} {sc : Scope} {k : Nat} {kp : Nat → Bool}
theorem PS.imp {st : Stmt} {t t' : TS} (h : PS X st t) (i : ∀ De σ H, t' De σ H → t De σ H) : PS X st t' := ⟨fun pins s σ H De I q => h.run pins s σ H De I (i De σ H q)⟩
theorem PSs.imp {st : List Stmt} {t t' : TS} (h : PSs X st t) (i : ∀ De σ H, t' De σ H → t De σ H) : PSs X st t' := ⟨fun pins s σ H De I q => h.run pins s σ H De I (i De σ H q)⟩
theorem sw_none {e : Expr} (h : noComp e = true) (t : Option Expr) (l : Nat) (env : PySem.Env) : swapsWith e t l env = pure false := by
  cases e <;> first | rfl | exact absurd h (by simp [noComp])
theorem swp_none {tg e : Expr} (h : noTup e = true) (env : PySem.Env) : swappedStores [tg] e env = pure none := by
  cases tg <;> cases e <;> first | rfl | exact absurd h (by simp [noTup])
end
end MyS

set_option Elab.async false
set_option linter.all false
set_option maxRecDepth 100000
set_option autoImplicit false
namespace MyS
open PySem PySem.Spec PyProof.Rows L2
open My (D E Es As OE S Ss Tg)
section
variable {K : PySem.W.Frag} {XR : XRT} {W : WX} {C : My.Call} {kp : Nat → Bool} {H F : Hp} {O : Ow} {σ : L2.St} {env : My.Env} {De : Ends} {N : List Str} {sc : Scope}
theorem opt_run {α : Type} {o : Option α} {f : α → My.R My.Out} (q : QvS K XR W kp H F O σ De ((My.opt o).bind f)) : ∃ z, o = some z ∧ QvS K XR W kp H F O σ De (f z) := by
  cases o with
  | none => exact q.elim
  | some z => exact ⟨z, rfl, q⟩
theorem nx_end {e : My.Env} (q : QvS K XR W kp H F O σ De (.ok (.nx e))) {σ' : L2.St} {H' F' : Hp} {O' : Ow} {P : Addr → Prop} (s : SR K H' F' σ' e O') (kk : Keeps kp σ σ') (x : Ext H F (Own O) H' F' P) (hP : ∀ a, Own O' a → P a) : De.nx σ' H' :=
  q σ' H' F' O' s kk (x.mono hP)
/-- a test, then the two ways -/
theorem sT_run {c : E} {f : Bool × My.Env → My.R My.Out} (s : SR K H F σ env O) (q : QvS K XR W kp H F O σ De ((My.evC C c env).bind f)) :
    tB (tE K XR W C c) σ H fun b H1 => ∃ F1 O1 e, SR K H1 F1 σ e O1 ∧ Ext H F (Own O) H1 F1 (Own O1) ∧ QvS K XR W kp H F O σ De (f (b, e)) := by
  unfold My.evC at q
  refine ⟨F, O, env, s, ?_⟩
  cases hr : My.ev C c env with
  | bad => rw [hr] at q; exact q.elim
  | exc x => rw [hr] at q; exact fun cls dx H' F' hs x r => q σ cls dx H' F' Keeps.refl hs x r
  | ok p =>
    obtain ⟨d, e⟩ := p
    rw [hr] at q
    intro v H1 F1 O1 l s1 r1 hl x1
    cases d <;> try exact q.elim
    rename_i b
    obtain ⟨rv, rfl⟩ := r1
    exact ⟨b, rv, F1, O1, e, s1, x1.mono fun a z => .inl z, q⟩
theorem set_run {i : Nat} {d : D} {v : V} {l : List Addr} {e : My.Env} {H1 F1 : Hp} {O1 : Ow} (hi : i < e.length) (hk : kp i = false) (s1 : SR K H1 F1 σ e O1) (r1 : RepO K H1 F1 d v l) (hl : ∀ a ∈ l, F1 a = none ∧ ¬ Own O1 a) (x1 : Ext H F (Own O) H1 F1 (OwnP O1 l))
    (q : QvS K XR W kp H F O σ De (.ok (.nx (My.st e i d)))) : De.nx (σ.set i (some v)) H1 :=
  nx_end q (s1.set hi r1 fun a ha => ⟨(hl a ha).1, fun j _ hj => (hl a ha).2 ⟨j, hj⟩⟩) (Keeps.set hk) x1 fun a z => own_setO z
theorem wh_run {c : E} {b : Ss} (s : SR K H F σ env O) (q : QvS K XR W kp H F O σ De (My.wh (My.evC C c) (My.exs C b) env)) : tWhile (tB (tE K XR W C c)) (tSs K XR W C kp b) De σ H := by
  have hn : ∃ r n, My.whN (My.evC C c) (My.exs C b) n env = some r := by
    refine Classical.byContradiction fun z => ?_
    unfold My.wh at q
    rw [dif_neg z] at q
    exact q
  obtain ⟨r, n, hn⟩ := hn
  rw [My.wh_of hn] at q
  refine ⟨fun m σ' H' => ∃ F' O' e, SR K H' F' σ' e O' ∧ ∃ r, My.whN (My.evC C c) (My.exs C b) m e = some r ∧ QvS K XR W kp H' F' O' σ' De r, ⟨n, F, O, env, s, r, hn, q⟩, fun m σ' H' ⟨F', O', e, s', r', hm, q'⟩ => ?_⟩
  cases m with
  | zero => simp [My.whN] at hm
  | succ m =>
    unfold My.whN at hm
    have q2 : QvS K XR W kp H' F' O' σ' De ((My.evC C c e).bind fun p => if p.1 then (match My.exs C b p.2 with
        | .bad => .bad
        | .exc x => .exc x
        | .ok (.rt d e2) => .ok (.rt d e2)
        | .ok (.nx e2) => (My.whN (My.evC C c) (My.exs C b) m e2).getD .bad) else .ok (.nx p.2)) := by
      cases hc : My.evC C c e with
      | bad => simp only [hc, Option.some.injEq] at hm; subst hm; exact q'
      | exc x => simp only [hc, Option.some.injEq] at hm; subst hm; exact q'
      | ok p =>
        obtain ⟨t, e1⟩ := p
        cases t with
        | false => simp only [hc, Option.some.injEq] at hm; subst hm; exact q'
        | true =>
          simp only [hc] at hm
          show QvS _ _ _ _ _ _ _ _ _ (match My.exs C b e1 with
            | .bad => .bad
            | .exc x => .exc x
            | .ok (.rt d e2) => .ok (.rt d e2)
            | .ok (.nx e2) => (My.whN (My.evC C c) (My.exs C b) m e2).getD .bad)
          match hb : My.exs C b e1 with
          | .bad => simp only [hb, Option.some.injEq] at hm; subst hm; exact q'
          | .exc x => simp only [hb, Option.some.injEq] at hm; subst hm; exact q'
          | .ok (.rt d e2) => simp only [hb, Option.some.injEq] at hm; subst hm; exact q'
          | .ok (.nx e2) =>
            simp only [hb] at hm
            simp only [hm, Option.getD_some]
            exact q'
    refine tE_mono (fun v H1 ⟨t, hv, F1, O1, e1, s1, x1, q1⟩ => ⟨t, hv, ?_⟩) (sT_run s' q2)
    cases t with
    | false => exact nx_end q1 s1 Keeps.refl x1 fun a z => z
    | true =>
      simp only [if_true] at q1 ⊢
      refine ⟨fun σ2 H2 => ∃ m', m' < m + 1 ∧ ∃ F' O' e, SR K H2 F' σ2 e O' ∧ ∃ r, My.whN (My.evC C c) (My.exs C b) m' e = some r ∧ QvS K XR W kp H2 F' O' σ2 De r, fun σ2 H2 z => z, ?_⟩
      refine ⟨F1, O1, e1, s1, ?_⟩
      match hb : My.exs C b e1 with
      | .bad => rw [hb] at q1; exact q1.elim
      | .exc y => rw [hb] at q1; exact q1.back x1 Keeps.refl
      | .ok (.rt d e2) => rw [hb] at q1; exact q1.back x1 Keeps.refl
      | .ok (.nx e2) =>
        rw [hb] at q1
        intro σ2 H2 F2 O2 s2 k2 x2
        have q3 : QvS K XR W kp H2 F2 O2 σ2 De ((My.whN (My.evC C c) (My.exs C b) m e2).getD .bad) := QvS.back q1 (x1.trans x2) (Keeps.refl.trans k2)
        cases hw : My.whN (My.evC C c) (My.exs C b) m e2 with
        | none => rw [hw] at q3; exact q3.elim
        | some r => rw [hw] at q3; exact ⟨m, Nat.lt_succ_self m, F2, O2, e2, s2, r, hw, q3⟩
theorem for_run {t : Tg} {tg : Expr} {it : My.It} {b : Ss} (ht : okT N sc kp t tg = true) (hl : σ.length = N.length) (s : SR K H F σ env O) (q : QvS K XR W kp H F O σ De ((My.evIt C it env).bind fun p => My.forL (My.asgT t) (My.exs C b) p.1 p.2)) :
    tFor (tIt K XR W C it) (gT K t) (tSs K XR W C kp b) De σ H := by
  refine ⟨F, O, env, s, ?_⟩
  cases hr : My.evIt C it env with
  | bad => rw [hr] at q; exact q.elim
  | exc x => rw [hr] at q; exact fun cls dx H' F' hs x r => q σ cls dx H' F' Keeps.refl hs x r
  | ok p =>
    obtain ⟨xs, e⟩ := p
    rw [hr] at q
    intro J H1 F1 O1 s1 J1 x1
    have q1 := QvS.back q x1 (Keeps.refl (σ := σ))
    refine ⟨fun i m σ' H' => i ≤ xs.length ∧ m = xs.length - i ∧ σ'.length = N.length ∧ ∃ F' O' e, SR K H' F' σ' e O' ∧ Same F1 F' ∧ QvS K XR W kp H' F' O' σ' De (My.forL (My.asgT t) (My.exs C b) (xs.drop i) e),
      ⟨xs.length, Nat.zero_le _, rfl, hl, F1, O1, e, s1, fun _ _ z => z, q1⟩, fun i m σ' H' ⟨hi, hm, hl', F', O', e', s', f', q'⟩ => ?_⟩
    by_cases hlt : i < xs.length
    · have hd : xs[i]? = some xs[i] := List.getElem?_eq_getElem hlt
      obtain ⟨go, yl⟩ := J1.go F' H' i xs[i] f' s'.sub hd
      refine .inr ⟨go, fun σ2 H2 => σ2.length = N.length ∧ ∃ F2 O2 e2, SR K H2 F2 σ2 e2 O2 ∧ Same F1 F2 ∧ QvS K XR W kp H2 F2 O2 σ2 De (My.forL (My.asgT t) (My.exs C b) (xs.drop (i + 1)) e2), fun σ2 H2 z => ⟨m - 1, by omega, by omega, by omega, z⟩, fun x H2 y => ?_⟩
      obtain ⟨F2, sH, sF, sFH, new, rx⟩ := yl x H2 y
      rw [List.drop_eq_getElem_cons hlt] at q'
      simp only [My.forL] at q'
      obtain ⟨e2, ha, q2⟩ := opt_run q'
      have xx : Ext H' F' OwnNone H2 F2 OwnNone := ⟨fun a o _ h => sH a o h, fun a h => sH.free h, sF, fun a h => (new a h).imp id .inl, fun _ z => z.elim⟩
      have s2 := s'.step xx (fun _ _ z => z) sFH
      have x2 : Ext H' F' (Own O') H2 F2 (Own O') := ⟨fun a o _ h => sH a o h, fun a h => sH.free h, sF, fun a h => (new a h).imp id .inl, fun _ z => .inl z⟩
      refine gt_run t tg ht (by rw [s2.len, hl']) s2 rx ha fun σ3 O3 s3 k3 o3 => ?_
      have x3 := x2.mono o3
      refine ⟨F2, O3, e2, s3, ?_⟩
      match hb : My.exs C b e2 with
      | .bad => rw [hb] at q2; exact q2.elim
      | .exc y => rw [hb] at q2; exact QvS.back (r := .exc y) q2 x3 k3
      | .ok (.rt d e3) =>
        rw [hb] at q2
        have q3 := QvS.back (r := .ok (.rt d e3)) q2 x3 k3
        exact q3
      | .ok (.nx e3) =>
        rw [hb] at q2
        intro σ4 H4 F4 O4 s4 k4 x4
        refine ⟨by rw [k4.1, k3.1, hl'], F4, O4, e3, s4, fun a o z => x4.fsub a o (sF a o (f' a o z)), QvS.back (r := My.forL (My.asgT t) (My.exs C b) (xs.drop (i + 1)) e3) q2 (x3.trans x4) (k3.trans k4)⟩
    · have e0 : i = xs.length := by omega
      subst e0
      refine .inl ⟨J1.stop H' fun a o z => s'.sub a o (f' a o z), ?_⟩
      rw [List.drop_eq_nil_of_le (Nat.le_refl _)] at q'
      exact q' σ' H' F' O' s' Keeps.refl Ext.refl
theorem subop_lst {xs : List D} {kd v z : D} (h : My.subop (.lst true xs) kd v = some z) : ∃ j n, kd = .int j ∧ ixN xs.length j = some n ∧ z = .lst true (xs.set n v) := by
  cases kd <;> try (simp [My.subop] at h; done)
  rename_i j
  by_cases h0 : 0 ≤ j
  · by_cases h1 : j < xs.length
    · refine ⟨j, j.toNat, rfl, by unfold ixN; rw [if_pos h0, if_pos h1], ?_⟩
      simpa [My.subop, h0, h1] using h.symm
    · simp [My.subop, h0, h1] at h
  · by_cases h1 : 0 ≤ j + xs.length ∧ j + xs.length < xs.length
    · refine ⟨j, (j + xs.length).toNat, rfl, by unfold ixN; rw [if_neg h0, if_pos (by omega)], ?_⟩
      simp only [My.subop, h0, if_false, h1] at h
      rw [if_pos (by simp)] at h
      exact (Option.some.inj h).symm
    · simp only [My.subop, h0, if_false] at h
      rw [if_neg h1] at h
      cases h
theorem slot_len (s : SR K H F σ env O) (hl : σ.length = N.length) {i : Nat} {x : Str} (h : N[i]? = some x) : i < env.length := by
  rw [s.len, hl]
  exact (List.getElem?_eq_some_iff.mp h).1
end
section
variable {XR : XRT} {T : Tab} {C : My.Call} {N : List Str} {k : Nat} {kp : Nat → Bool}
theorem sws_none {e : Expr} (h : noComp e = true) (tg : Expr) (l : Nat) (env : PySem.Env) : swapsWithSole [tg] e l env = pure false := sw_none h _ _ _
theorem PS.len {X : Cx} {st : Stmt} {t : TS} (h : ∀ σ : L2.St, σ.length = X.N.length → PS X st (fun De σ' H => σ' = σ ∧ t De σ' H)) : PS X st t :=
  ⟨fun pins s σ H De I q => (h σ I.len).run pins s σ H De I ⟨rfl, q⟩⟩
end
end MyS

set_option Elab.async false
set_option linter.all false
set_option maxRecDepth 100000
set_option autoImplicit false
namespace MyS
open PySem PySem.Spec PyProof.Rows L2
open My (D E Es As OE S Ss Tg)
/-! ### a, b = x, y -/
theorem blk_fn {env : PySem.Env} (h : env.scope.kind = .function) : env.blockKind = .function := by
  unfold Env.blockKind
  rw [h]
  rfl
theorem swap_plain {sc : Scope} {ts vs : List Expr} {env : PySem.Env} {k k2 : Nat} {p p2 : Pos} (hs : env.scope = sc) (h : isPlainP sc ts vs = true) : swappedStores [.Tuple ts k p] (.Tuple vs k2 p2) env = pure none := by
  subst hs
  unfold isPlainP at h
  unfold swappedStores
  dsimp only
  by_cases c1 : (!(ts.length == 2 || ts.length == 3) || vs.length != ts.length || env.blockKind != .function) = true
  · rw [if_pos c1]
  rw [if_neg c1]
  by_cases c2 : (vs.any fun | .Starred .. => true | _ => false) = true
  · exact if_pos c2
  refine (if_neg c2).trans ?_
  by_cases c3 : ((swNames env.scope ts).length != ts.length || (swNames env.scope ts).eraseDups.length != (swNames env.scope ts).length) = true
  · exact if_pos c3
  refine (if_neg c3).trans ?_
  by_cases c4 : (vs.all (foldedForSure 8)) = true
  · exact if_pos c4
  · exfalso
    simp only [Bool.or_eq_true, not_or, Bool.not_eq_true] at c1 c3
    simp only [Bool.or_eq_true] at h
    rcases h with ((h | h) | h) | h
    · rw [c1.1.1] at h; cases h
    · rw [c3.1] at h; cases h
    · rw [c3.2] at h; cases h
    · exact c4 h
theorem swap_swap {sc : Scope} {ts vs : List Expr} {env : PySem.Env} {k k2 : Nat} {p p2 : Pos} (hs : env.scope = sc) (hk : sc.kind = .function) (h : isSwapP sc ts vs = true) : swappedStores [.Tuple ts k p] (.Tuple vs k2 p2) env = pure (some (swNames sc ts)) := by
  subst hs
  unfold isSwapP at h
  simp only [Bool.and_eq_true, Bool.not_eq_true', beq_iff_eq] at h
  obtain ⟨⟨⟨⟨⟨⟨h1, h2⟩, h3⟩, h4⟩, h5⟩, h6⟩, h7⟩ := h
  unfold swappedStores
  dsimp only
  have c1 : ¬ (!(ts.length == 2 || ts.length == 3) || vs.length != ts.length || env.blockKind != .function) = true := by
    rw [h1, h2, blk_fn hk]
    simp
  rw [if_neg c1]
  have c2 : ¬ (vs.any fun | .Starred .. => true | _ => false) = true := by
    intro z
    exact Bool.false_ne_true (h7.symm.trans z)
  refine (if_neg c2).trans ?_
  have c3 : ¬ ((swNames env.scope ts).length != ts.length || (swNames env.scope ts).eraseDups.length != (swNames env.scope ts).length) = true := by
    simp [h3, h4]
  refine (if_neg c3).trans ?_
  refine (if_neg (by rw [h5]; exact Bool.false_ne_true)).trans ?_
  exact if_neg (by rw [h6]; exact Bool.false_ne_true)

def gNs : List Nat → TGs
  | [] => gNil
  | i :: r => gCons (gName i) (gNs r)
section
variable {K : PySem.W.Frag} {XR : XRT} {W : WX} {C : My.Call} {H F : Hp} {O : Ow} {σ : L2.St} {env : My.Env} {kp : Nat → Bool} {N : List Str} {sc : Scope}
def QvP (K : PySem.W.Frag) (XR : XRT) (W : WX) (H F : Hp) (O : Ow) (σ : L2.St) (Q : List V → Hp → Prop) : My.R (List D × My.Env) → Prop
  | .ok (ds, e) => ∀ vs H' F' O' Oa, SR K H' F' σ e O' → SR K H' F' (vs.map some) ds Oa → (∀ a, Own O' a → ¬ Own Oa a) → (∀ d ∈ ds, My.isUnd d = false) → Ext H F (Own O) H' F' (fun a => Own O' a ∨ Own Oa a) → Q vs H'
  | .exc x => QX XR W H F O σ x
  | .bad => False
theorem repO_und {d : D} {v : V} {l : List Addr} (r : RepO K H F d v l) : My.isUnd d = false := by
  cases d <;> first | rfl | exact r.1.elim
theorem evP_len : ∀ (es : Es) {env : My.Env} {ds : List D} {e : My.Env}, My.evP C es env = .ok (ds, e) → ds.length = esLen es
  | .nil, env, ds, e, h => by simp only [My.evP, My.R.ok.injEq, Prod.mk.injEq] at h; rw [← h.1]; rfl
  | .cons a r, env, ds, e, h => by
    simp only [My.evP] at h
    cases h1 : My.ev C a env with
    | bad => rw [h1] at h; cases h
    | exc x => rw [h1] at h; cases h
    | ok p =>
      rw [h1] at h
      simp only [My.R.bind_ok] at h
      cases h2 : My.evP C r p.2 with
      | bad => rw [h2] at h; cases h
      | exc x => rw [h2] at h; cases h
      | ok q =>
        rw [h2] at h
        simp only [My.R.bind_ok, My.R.ok.injEq, Prod.mk.injEq] at h
        rw [← h.1, List.length_cons, evP_len r h2]
        rfl
theorem evP_run : ∀ (es : Es) {H F : Hp} {O : Ow} {env : My.Env} {Q : List V → Hp → Prop}, SR K H F σ env O → QvP K XR W H F O σ Q (My.evP C es env) → tX K XR W C es σ H Q
  | .nil, H, F, O, env, Q, s, h => by
    refine h [] H F O (fun _ => []) s ⟨s.sub, rfl, fun i => .inl ⟨?_, rfl⟩, fun _ => by simp, fun _ _ _ z => by simp at z, fun _ _ z => by simp at z⟩ (fun a _ ⟨_, z⟩ => by simp at z) (by simp) (Ext.refl.mono fun a z => z.elim id fun ⟨_, z⟩ => by simp at z)
    rfl
  | .cons a r, H, F, O, env, Q, s, h => by
    show tE K XR W C a σ H fun x H1 => tX K XR W C r σ H1 fun xs H2 => Q (x :: xs) H2
    simp only [My.evP] at h
    refine ⟨F, O, env, s, ?_⟩
    cases hr : My.ev C a env with
    | bad => rw [hr] at h; exact h.elim
    | exc x => rw [hr] at h; exact h
    | ok p =>
      obtain ⟨d, e⟩ := p
      rw [hr] at h
      intro v H1 F1 O1 l s1 r1 hl x1
      refine evP_run r s1 ?_
      cases hr2 : My.evP C r e with
      | bad => simp only [My.R.bind_ok, hr2] at h; exact h.elim
      | exc x =>
        simp only [My.R.bind_ok, hr2] at h
        exact QX.back h x1 fun a z => .inl z
      | ok q =>
        obtain ⟨ds, e2⟩ := q
        simp only [My.R.bind_ok, hr2] at h
        intro vs H' F' O' Oa s' sa dj nu x
        have r2 := r1.step x fun a ha => (hl a ha).2
        have old : ∀ a ∈ l, ¬ (Own O' a ∨ Own Oa a) := fun a ha z => (x.onew a z).elim (hl a ha).2 (r1.there a ha)
        refine h (v :: vs) H' F' O' (consO l Oa) s' (sa.cons r2 fun a ha => ⟨?_, fun z => old a ha (.inr z)⟩) (fun a h1 h2 => (own_consO h2).elim (fun z => old a z (.inl h1)) (dj a h1)) (fun d' hd => ?_) ?_
        · cases q : F' a with
          | none => rfl
          | some o =>
            rcases x.fnew a (by rw [q]; simp) with z | z | z
            · exact absurd (hl a ha).1 z
            · exact absurd z (r1.there a ha)
            · exact absurd z (hl a ha).2
        · rcases List.mem_cons.mp hd with rfl | hd
          · exact repO_und r2
          · exact nu d' hd
        · exact (x1.trans (x.add (· ∈ l))).mono fun a z => z.elim (fun z => .inl (.inl z)) fun z => (own_consO z).elim .inr fun z => .inl (.inr z)
theorem SR.tail {v : V} {vs : List V} {d : D} {ds : List D} {Oa : Ow} (sa : SR K H F ((v :: vs).map some) (d :: ds) Oa) : SR K H F (vs.map some) ds (fun j => Oa (j + 1)) :=
  ⟨sa.sub, by simpa using sa.len, fun j => sa.slot (j + 1), fun j => sa.nodup (j + 1), fun i j a h1 h2 => by have := sa.apart (i + 1) (j + 1) a h1 h2; omega, fun j => sa.off (j + 1)⟩
theorem gNs_run : ∀ (is : List Nat) (ts : List Expr) {vs : List V} {ds : List D} {e e' : My.Env} {O Oa : Ow} {σ : L2.St} {Q : L2.St → Hp → Prop}, okNs N sc kp is ts = true → e.length = N.length → SR K H F σ e O → SR K H F (vs.map some) ds Oa → (∀ a, Own O a → ¬ Own Oa a) → (∀ d ∈ ds, My.isUnd d = false) → My.parS is ds e = some e' →
    (∀ σ' O', SR K H F σ' e' O' → Keeps kp σ σ' → (∀ a, Own O' a → Own O a ∨ Own Oa a) → Q σ' H) → gNs is vs σ H Q
  | [], ts, vs, ds, e, e', O, Oa, σ, Q, h, hl, s, sa, dj, nu, hp, q => by
    cases ds <;> simp only [My.parS, reduceCtorEq, Option.some.injEq] at hp
    subst hp
    have := sa.len
    cases vs with
    | cons _ _ => simp at this
    | nil => exact ⟨rfl, q σ O s Keeps.refl fun a z => .inl z⟩
  | i :: is, [], vs, ds, e, e', O, Oa, σ, Q, h, hl, s, sa, dj, nu, hp, q => by simp [okNs] at h
  | i :: is, t :: ts, vs, ds, e, e', O, Oa, σ, Q, h, hl, s, sa, dj, nu, hp, q => by
    cases t <;> try (simp [okNs] at h; done)
    rename_i x p
    simp only [okNs, Bool.and_eq_true] at h
    obtain ⟨h1, h2, h3, _⟩ := okLoc_iff h.1
    cases ds <;> simp only [My.parS, reduceCtorEq] at hp
    rename_i d ds
    have hlen := sa.len
    cases vs with
    | nil => simp at hlen
    | cons v vs =>
      rcases sa.slot 0 with ⟨z, _⟩ | ⟨v', e1, r1⟩
      · have := nu d (by simp)
        rw [show d = .und from z] at this
        cases this
      · have e2 : v' = v := by simpa using e1.symm
        subst e2
        have hi : i < e.length := by rw [hl]; exact (List.getElem?_eq_some_iff.mp h1).1
        have w := s.set hi (r := (show RepO K H F d v' (Oa 0) from r1)) fun a ha => ⟨sa.off 0 a ha, fun j _ hj => dj a ⟨j, hj⟩ ⟨0, ha⟩⟩
        have up : ∀ a, Own (fun j => Oa (j + 1)) a → Own Oa a := fun a ⟨j, hj⟩ => ⟨j + 1, hj⟩
        have dj2 : ∀ a, Own (setO O i (Oa 0)) a → ¬ Own (fun j => Oa (j + 1)) a := fun a h1 h2 => by
          rcases own_setO h1 with z | z
          · exact dj a z (up a h2)
          · obtain ⟨j, hj⟩ := h2
            have := sa.apart 0 (j + 1) a z hj
            omega
        refine ⟨v', vs, rfl, gNs_run is ts h.2 (by rw [st_length]; exact hl) w sa.tail dj2 (fun d hd => nu d (by simp [hd])) hp fun σ' O' s' kk o' => ?_⟩
        exact q σ' O' s' ((Keeps.set h3).trans kk) fun a z => (o' a z).elim (fun z => (own_setO z).imp id fun z => ⟨0, z⟩) fun z => .inr (up a z)
end
section
variable {X : Cx} {XR : XRT} {W : WX} {T : Tab} {C : My.Call} {N : List Str} {sc : Scope} {k : Nat} {kp : Nat → Bool}
theorem okNs_len : ∀ {is : List Nat} {ts : List Expr}, okNs N sc kp is ts = true → ∀ env : PySem.Env, (assignEach ts env).length = is.length ∧ (assignEach ts env).findIdx? (·.1) = none
  | [], [], _, _ => ⟨rfl, rfl⟩
  | [], _ :: _, h, _ => by simp [okNs] at h
  | _ :: _, [], h, _ => by simp [okNs] at h
  | i :: r, e :: es, h, env => by
    cases e <;> try (simp [okNs] at h; done)
    simp only [okNs, Bool.and_eq_true] at h
    obtain ⟨h1, h2⟩ := okNs_len h.2 env
    exact ⟨by rw [asg_one (fun _ _ z => by cases z), List.length_cons, h1]; rfl, by rw [asg_one (fun _ _ z => by cases z), List.findIdx?_cons, h2]; rfl⟩
theorem sound_ns : ∀ (is : List Nat) (ts : List Expr), okNs N sc kp is ts = true → Good X XR W T C N sc k → PGs X ts (gNs is)
  | [], [], h, G => pgs_nil
  | [], _ :: _, h, G => by simp [okNs] at h
  | _ :: _, [], h, G => by simp [okNs] at h
  | i :: r, e :: es, h, G => by
    cases e <;> try (simp [okNs] at h; done)
    simp only [okNs, Bool.and_eq_true] at h
    obtain ⟨h1, h2, _, _⟩ := okLoc_iff h.1
    obtain ⟨h3, h4⟩ := G.store h2
    exact pgs_cons (pg_name G.nd (by rw [G.N]; exact h1) h3 h4) (sound_ns r es h.2 G) (by rw [asg_one (fun _ _ z => by cases z)]; rfl)
theorem parS_len : ∀ {is : List Nat} {ds : List D} {e e' : My.Env}, My.parS is ds e = some e' → ds.length = is.length
  | [], [], _, _, _ => rfl
  | [], _ :: _, _, _, h => by simp [My.parS] at h
  | _ :: _, [], _, _, h => by simp [My.parS] at h
  | i :: is, d :: ds, e, e', h => by
    simp only [My.parS] at h
    rw [List.length_cons, List.length_cons, parS_len h]
/-- the plain way: a tuple is made and taken apart -/
theorem par_plain {is : List Nat} {es : Es} {ts vs : List Expr} {k1 k2 : Nat} {p1 p2 pos : Pos} (h1 : okNs N sc kp is ts = true) (h2 : okEs T N sc es vs = true) (h3 : isPlainP sc ts vs = true) (h4 : vs.length ≤ 1000) (G : Good X XR W T C N sc k) :
    PS X (.Assign [.Tuple ts k1 p1] (.Tuple vs k2 p2) pos) (tS X.K XR W C kp (.par is es)) := by
  obtain ⟨l1, l2⟩ := okNs_len h1 X.env
  refine PS.len fun σ0 hl => PS.imp (ps_asg (pe_tup (sound_x es vs h2 G)) (pg_tup G.calm (sound_ns is ts h1 G) l1 l2) rfl (swap_plain G.sc h3) rfl) fun De σ H ⟨e0, F, O, env, s, q⟩ => ?_
  subst e0
  simp only [My.ex] at q
  refine evP_run es s ?_
  cases hr : My.evP C es env with
  | bad => rw [hr] at q; exact q.elim
  | exc x => rw [hr] at q; exact fun cls dx H' F' hs x r => q σ cls dx H' F' Keeps.refl hs x r
  | ok p =>
    obtain ⟨ds, e⟩ := p
    rw [hr] at q
    intro ws H1 F1 O1 Oa s1 sa dj nu x1
    obtain ⟨e2, ha, q2⟩ := opt_run q
    have hws : ws.length = is.length := by
      have := sa.len
      rw [parS_len ha] at this
      simpa using this.symm
    have hts : is.length ≤ sizeLine := by
      have e1 : ds.length = is.length := parS_len ha
      have e3 : ds.length = vs.length := by rw [evP_len es hr, okEs_len h2]
      have : (1000 : Nat) ≤ sizeLine := by decide
      omega
    refine ⟨by rw [hws]; exact hts, fun p hp => ⟨p, ws, rfl, .inl (.inl upd_same), hws, ?_⟩⟩
    have xx : Ext H1 F1 OwnNone (upd H1 p (.tup ws)) F1 OwnNone := ⟨fun a o _ h => same_upd hp a o h, fun a h => (same_upd hp).free h, fun _ _ h => h, fun a h => .inl h, fun _ z => z.elim⟩
    have sub : Same F1 (upd H1 p (.tup ws)) := fun a o h => same_upd hp a o (s1.sub a o h)
    have x2 : Ext H1 F1 (fun a => Own O1 a ∨ Own Oa a) (upd H1 p (.tup ws)) F1 (fun a => Own O1 a ∨ Own Oa a) := ⟨fun a o _ h => same_upd hp a o h, fun a h => (same_upd hp).free h, fun _ _ h => h, fun a h => .inl h, fun _ z => .inl z⟩
    exact gNs_run is ts h1 (by rw [s1.len, hl, G.N]) (s1.step xx (fun _ _ z => z) sub) (sa.step xx (fun _ _ z => z) sub) dj nu ha fun σ' O' s' kk o' => nx_end q2 s' kk (x1.trans x2) o'
theorem unwrap2 {i j : Nat} {v w : V} {De : Ends} {σ : L2.St} {H : Hp} (h : gNs [i, j] [v, w] σ H De.nx) : De.nx ((σ.set i (some v)).set j (some w)) H := by
  obtain ⟨v', r, e, h⟩ := h
  obtain ⟨rfl, rfl⟩ := List.cons.inj e
  obtain ⟨v', r, e, h⟩ := h
  obtain ⟨rfl, rfl⟩ := List.cons.inj e
  exact h.2
theorem unwrap3 {i j l : Nat} {u v w : V} {De : Ends} {σ : L2.St} {H : Hp} (h : gNs [i, j, l] [u, v, w] σ H De.nx) : De.nx (((σ.set i (some u)).set j (some v)).set l (some w)) H := by
  obtain ⟨v', r, e, h⟩ := h
  obtain ⟨rfl, rfl⟩ := List.cons.inj e
  obtain ⟨v', r, e, h⟩ := h
  obtain ⟨rfl, rfl⟩ := List.cons.inj e
  obtain ⟨v', r, e, h⟩ := h
  obtain ⟨rfl, rfl⟩ := List.cons.inj e
  exact h.2
/-- the quick way: two or three plain names -/
theorem par_swap {is : List Nat} {es : Es} {ts vs : List Expr} {k1 k2 : Nat} {p1 p2 pos : Pos} (h1 : okNs N sc kp is ts = true) (h2 : okEs T N sc es vs = true) (h3 : isSwapP sc ts vs = true) (h4 : okSw sc is ts vs = true) (hk : sc.kind = .function) (G : Good X XR W T C N sc k) :
    PS X (.Assign [.Tuple ts k1 p1] (.Tuple vs k2 p2) pos) (tS X.K XR W C kp (.par is es)) := by
  have main : ∀ (De : Ends) (σ : L2.St) (H : Hp), σ.length = N.length → tS X.K XR W C kp (.par is es) De σ H → tX X.K XR W C es σ H fun ws H1 => ws.length = is.length ∧ gNs is ws σ H1 De.nx := fun De σ H hl ⟨F, O, env, s, q⟩ => by
    simp only [My.ex] at q
    refine evP_run es s ?_
    cases hr : My.evP C es env with
    | bad => rw [hr] at q; exact q.elim
    | exc x => rw [hr] at q; exact fun cls dx H' F' hs x r => q σ cls dx H' F' Keeps.refl hs x r
    | ok p =>
      obtain ⟨ds, e⟩ := p
      rw [hr] at q
      intro ws H1 F1 O1 Oa s1 sa dj nu x1
      obtain ⟨e2, ha, q2⟩ := opt_run q
      refine ⟨?_, gNs_run is ts h1 (by rw [s1.len, hl]) s1 sa dj nu ha fun σ' O' s' kk o' => nx_end q2 s' kk x1 o'⟩
      have := sa.len
      rw [parS_len ha] at this
      simpa using this.symm
  have mono : ∀ {es : Es} {σ : L2.St} {H : Hp} {Q Q' : List V → Hp → Prop}, (∀ vs H, Q vs H → Q' vs H) → tX X.K XR W C es σ H Q → tX X.K XR W C es σ H Q' := fun {es} => by
    induction es using Es.rec (motive_1 := fun _ => True) (motive_3 := fun _ => True) (motive_4 := fun _ => True) (motive_5 := fun _ => True) with
    | nil => exact fun hQ h => hQ _ _ h
    | cons a r _ ih => exact fun hQ h => tE_mono (fun v H1 h1 => ih (fun vs H2 h2 => hQ _ _ h2) h1) h
    | _ => trivial
  match is, ts, vs, h1, h2, h3, h4, main with
  | [i, j], [.Name x p, .Name y p'], [a, b], h1, h2, h3, h4, main =>
    simp only [okSw, locL, Bool.and_eq_true, decide_eq_true_eq] at h4
    obtain ⟨⟨⟨⟨n1, n2⟩, n3⟩, n4⟩, _⟩ := h4
    simp only [okNs, Bool.and_eq_true] at h1
    obtain ⟨i1, _⟩ := okLoc_iff h1.1
    obtain ⟨j1, _⟩ := okLoc_iff h1.2.1
    have hw := swap_swap (k := k1) (p := p1) (k2 := k2) (p2 := p2) G.sc hk h3
    rw [n4] at hw
    refine PS.len fun σ0 hl => PS.imp (ps_par G.calm G.nd (by rw [G.N]; exact i1) (by rw [G.N]; exact j1) n1 (by rw [G.sc]; exact n2) (by rw [G.sc]; exact n3) (sound_x es [a, b] h2 G) hw rfl) fun De σ H ⟨e0, q⟩ => ?_
    subst e0
    refine mono (fun ws H1 ⟨l, g⟩ => ?_) (main De σ H (by rw [hl, G.N]) q)
    match ws, l, g with
    | [v, w], _, g => exact ⟨v, w, rfl, unwrap2 g⟩
  | [i, j, l], [.Name x p, .Name y p', .Name z p''], [a, b, c], h1, h2, h3, h4, main =>
    simp only [okSw, locL, Bool.and_eq_true, decide_eq_true_eq] at h4
    obtain ⟨⟨⟨⟨⟨⟨⟨n1, n2⟩, n3⟩, n4⟩, n5⟩, n6⟩, n7⟩, _⟩ := h4
    simp only [okNs, Bool.and_eq_true] at h1
    obtain ⟨i1, _⟩ := okLoc_iff h1.1
    obtain ⟨j1, _⟩ := okLoc_iff h1.2.1
    obtain ⟨l1, _⟩ := okLoc_iff h1.2.2.1
    have hw := swap_swap (k := k1) (p := p1) (k2 := k2) (p2 := p2) G.sc hk h3
    rw [n7] at hw
    refine PS.len fun σ0 hl => PS.imp (ps_par3 G.calm G.nd (by rw [G.N]; exact i1) (by rw [G.N]; exact j1) (by rw [G.N]; exact l1) n1 n2 n3 (by rw [G.sc]; exact n4) (by rw [G.sc]; exact n5) (by rw [G.sc]; exact n6) (sound_x es [a, b, c] h2 G) hw rfl) fun De σ H ⟨e0, q⟩ => ?_
    subst e0
    refine mono (fun ws H1 ⟨l, g⟩ => ?_) (main De σ H (by rw [hl, G.N]) q)
    match ws, l, g with
    | [u, v, w], _, g => exact ⟨u, v, w, rfl, unwrap3 g⟩
end
end MyS

set_option Elab.async false
set_option linter.all false
set_option maxRecDepth 100000
set_option autoImplicit false
namespace MyS
open PySem PySem.Spec PyProof.Rows L2
open My (D E Es As OE S Ss Tg)
section
variable {XR : XRT} {T : Tab} {C : My.Call} {N : List Str} {k : Nat} {kp : Nat → Bool}
mutual
theorem sound_s : ∀ (ts : S) (st : Stmt) {X : Cx} {W : WX} {sc : Scope}, okS T N sc kp ts st = true → Good X XR W T C N sc k → PS X st (tS X.K XR W C kp ts)
  | .set (.n i) e, st, X, W, sc, h, G => by
    cases st <;> try (simp [okS] at h; done)
    rename_i tgs ev pos
    match tgs, h with
    | [.Name x p], h =>
      simp only [okS, Bool.and_eq_true] at h
      obtain ⟨h1, h2, h3, _⟩ := okLoc_iff h.1.1
      obtain ⟨h4, h5⟩ := G.store h2
      refine PS.len fun σ0 hl => PS.imp (ps_set G.nd (by rw [G.N]; exact h1) h4 (sound_e e ev h.1.2 G) (sw_none h.2 _ _ _) h5) fun De σ H ⟨e0, F, O, env, s, q⟩ => ?_
      subst e0
      simp only [My.ex] at q
      exact tE_mono (fun v H1 ⟨F1, O1, l, d, e1, s1, r1, hl1, x1, q1⟩ => set_run (slot_len s1 (by rw [hl, G.N]) h1) h3 s1 r1 hl1 x1 q1) (sE_run s q)
  | .set (.cons t r) e, st, X, W, sc, h, G => by
    cases st <;> try (simp [okS] at h; done)
    rename_i tgs ev pos
    match tgs, h with
    | [tg], h =>
      have h : (okT N sc kp (.cons t r) tg && okE T N sc e ev && noComp ev && noTup ev) = true := by
        cases tg <;> simpa [okS] using h
      simp only [Bool.and_eq_true] at h
      have ht := okT_star h.1.1.1
      refine PS.len fun σ0 hl => PS.imp (ps_asg (sound_e e ev h.1.1.2 G) (sound_g (.cons t r) tg h.1.1.1 G) (sws_none h.1.2 _ _ _) (swp_none h.2 _) (by rw [asg_one ht]; rfl)) fun De σ H ⟨e0, F, O, env, s, q⟩ => ?_
      subst e0
      simp only [My.ex] at q
      refine tE_mono (fun v H1 ⟨F1, O1, l, d, e1, s1, r1, hl1, x1, q1⟩ => ?_) (sE_run s q)
      obtain ⟨e2, ha, q2⟩ := opt_run q1
      have le : e1.length = N.length := by rw [s1.len, hl, G.N]
      cases d with
      | tup xs =>
        exact gt_run _ tg h.1.1.1 le s1 r1.1 ha fun σ' O' s' kk o' => nx_end q2 s' kk x1 fun a z => .inl (o' a z)
      | _ => simp [My.asgT] at ha
  | .set .nil e, st, X, W, sc, h, G => by cases st <;> simp [okS] at h
  | .sub x i e, st, X, W, sc, h, G => by
    cases st <;> try (simp [okS] at h; done)
    rename_i tgs ev pos
    match tgs, h with
    | [.Subscript (.Name y p) ei p2], h =>
      simp only [okS, Bool.and_eq_true] at h
      obtain ⟨⟨⟨h1, h2⟩, h3⟩, h4⟩ := h
      refine PS.imp (ps_asg (sound_e e ev h3 G) (pg_sub (var_ok G h1) (sound_e i ei h2 G) set_list (fun v => by have z := okE_slice h2; cases ei <;> first | rfl | exact absurd rfl (z _ _ _ _))) (sws_none h4 _ _ _) rfl rfl) fun De σ H ⟨F, O, env, s, q⟩ => ?_
      simp only [My.ex] at q
      refine tE_mono (fun v H1 ⟨F1, O1, l, d, e1, s1, r1, hl1, x1, q1⟩ => ?_) (sE_run s q)
      by_cases hu : My.isUnd (My.gt e1 x) = true
      · rw [if_pos hu] at q1; exact q1.elim
      rw [if_neg hu] at q1
      rcases s1.slot x with ⟨z, _⟩ | ⟨o, eo, ro⟩
      · exact absurd (isUnd_iff.mpr z) hu
      obtain ⟨F2, s2, f12, r2, x2⟩ := freeze_sr s1 r1 hl1
      have x12 := x1.trans x2
      refine ⟨o, eo, ?_⟩
      refine tE_mono (fun kv H3 ⟨F3, O3, l3, d3, e3, s3, r3, hl3, x3, q3⟩ => ?_) (sE_run s2 (q1.back x12 Keeps.refl))
      obtain ⟨z, hz, q4⟩ := opt_run q3
      have rd := RepF.mono x3.fsub _ _ (r2 (not_und r1))
      cases hg : My.gt e3 x with
      | lst own xs =>
        rw [hg] at hz
        cases own with
        | false => cases d3 <;> simp [My.subop] at hz
        | true =>
          obtain ⟨j, n, hj, hn, rfl⟩ := subop_lst hz
          have hd3 : d3 = .int j := by cases d3 <;> simp [My.fz] at hj <;> rw [hj]
          subst hd3
          obtain ⟨a, vs, ea, ha, rv, up⟩ := upd_slot (ys := xs.set n (My.fz d)) s3 hg
          rw [eo] at ea
          cases ea
          obtain ⟨s4, x4⟩ := up (vs.set n v) (rv.set _ rd)
          obtain ⟨rk, rfl⟩ := r3
          exact ⟨a, vs, j, n, rfl, rk, ha, by rw [← rv.length]; exact hn, nx_end q4 s4 Keeps.refl ((x3.mono fun a z => .inl z).trans x4) fun a z => z⟩
      | dic own ks ws =>
        rcases s3.slot x with ⟨z, _⟩ | ⟨_, _, r⟩
        · rw [hg] at z; cases z
        · rw [hg] at r; exact r.1.elim
      | _ => rw [hg] at hz; simp [My.subop] at hz
  | .app x e, st, X, W, sc, h, G => by
    cases st <;> try (simp [okS] at h; done)
    rename_i ev pos
    cases ev <;> try (simp [okS] at h; done)
    rename_i fn xs kws cpos
    cases fn <;> try (simp [okS] at h; done)
    rename_i on m apos
    cases on <;> try (simp [okS] at h; done)
    rename_i y p
    match xs, kws, h with
    | [ea], [], h =>
      simp only [okS, Bool.and_eq_true, decide_eq_true_eq] at h
      obtain ⟨⟨⟨h1, rfl⟩, h3⟩, h4⟩ := h
      have st := star_one (env := X.env) (es := []) (okE_star h3)
      refine PS.imp (ps_expr (pe_bm PySem.F.plainAttrs_list PySem.F.slot_list_append PySem.F.type_list_append mt_append (var_ok G h1) (pa_cons (sound_e e ea h3 G) pa_nil st) rfl (by rw [st]; rfl) h4 st rfl) rfl) fun De σ H ⟨F, O, env, s, q⟩ => ?_
      simp only [My.ex] at q
      by_cases hu : My.isLst (My.gt env x) = true
      · rw [if_pos hu] at q
        rcases s.slot x with ⟨z, _⟩ | ⟨o, eo, ro⟩
        · rw [z] at hu; cases hu
        have ty : tyV X.K "list" o H := by
          cases hg : My.gt env x <;> rw [hg] at hu <;> try cases hu
          rename_i own xs
          rw [hg] at ro
          cases own with
          | true => obtain ⟨a, vs, rfl, ha, _⟩ := ro; exact .inl ⟨rfl, vs, .inl (.inl ha)⟩
          | false => obtain ⟨⟨_, a, vs, rfl, ha, _⟩, _⟩ := ro; exact .inl ⟨rfl, vs, seqL_of ha s.sub⟩
        refine ⟨o, eo, ty, ?_⟩
        refine tE_mono (fun v H1 ⟨F1, O1, l, d, e1, s1, r1, hl1, x1, q1⟩ => ?_) (sE_run s q)
        obtain ⟨F2, s2, f12, r2, x2⟩ := freeze_sr s1 r1 hl1
        have x12 := x1.trans x2
        obtain ⟨z, hz, q4⟩ := opt_run q1
        cases hg : My.gt e1 x with
        | lst own xs =>
          rw [hg] at hz
          cases own with
          | false => simp [My.appop] at hz
          | true =>
            simp only [My.appop] at hz
            split at hz
            · rename_i hj
              cases hz
              obtain ⟨a, vs, ea, ha, rv, up⟩ := upd_slot (ys := xs ++ [My.fz d]) s2 hg
              rw [eo] at ea
              cases ea
              obtain ⟨s4, x4⟩ := up (vs ++ [v]) (rv.append ⟨r2 (not_und r1), trivial⟩)
              have := SZ_line
              exact ⟨a, vs, v, rfl, rfl, ha, by rw [← rv.length]; omega, nx_end q4 s4 Keeps.refl (x12.trans x4) fun a z => z⟩
            · cases hz
        | _ => rw [hg] at hz; simp [My.appop] at hz
      · rw [if_neg hu] at q; exact q.elim
  | .expr e, st, X, W, sc, h, G => by
    cases st <;> try (simp [okS] at h; done)
    simp only [okS, Bool.and_eq_true] at h
    refine PS.imp (ps_expr (sound_e e _ h.1 G) (sw_none h.2 _ _ _)) fun De σ H ⟨F, O, env, s, q⟩ => ?_
    simp only [My.ex] at q
    exact tE_mono (fun v H1 ⟨F1, O1, l, d, e1, s1, r1, hl1, x1, q1⟩ => nx_end q1 s1 Keeps.refl x1 fun a z => .inl z) (sE_run s q)
  | .ret e, st, X, W, sc, h, G => by
    cases st <;> try (simp [okS] at h; done)
    rename_i o pos
    cases o <;> try (simp [okS] at h; done)
    rename_i ev
    have h : okE T N sc e ev = true := by simpa [okS] using h
    by_cases he : ∃ i, e = .v i
    · obtain ⟨i, rfl⟩ := he
      cases ev <;> try (simp [okE] at h; done)
      refine PS.imp (ps_ret (var_ok G h)) fun De σ H ⟨F, O, env, s, q⟩ => ?_
      simp only [My.ex] at q
      by_cases hu : My.isUnd (My.gt env i) = true
      · rw [if_pos hu] at q; exact q.elim
      rw [if_neg hu] at q
      rcases s.slot i with ⟨z, _⟩ | ⟨v, ev, r⟩
      · exact absurd (isUnd_iff.mpr z) hu
      refine ⟨v, ev, q v σ H F (setO O i []) (O i) (s.drop i) r (fun a ha => ⟨s.off i a ha, fun ⟨j, hj⟩ => ?_⟩) Keeps.refl (Ext.refl.mono fun a z => z.elim (fun z => (own_setO z).elim id fun z => by simp at z) fun z => ⟨i, z⟩)⟩
      by_cases e : j = i
      · subst e; rw [setO_same] at hj; simp at hj
      · rw [setO_ne e] at hj; exact e (s.apart j i a hj ha)
    · have e2 : ∀ env, My.ex C (.ret e) env = (My.ev C e env).bind fun p => .ok (.rt p.1 p.2) := fun env => by
        cases e <;> first | rfl | exact absurd ⟨_, rfl⟩ he
      refine PS.imp (ps_ret (sound_e e ev h G)) fun De σ H ⟨F, O, env, s, q⟩ => ?_
      rw [e2] at q
      exact tE_mono (fun v H1 ⟨F1, O1, l, d, e1, s1, r1, hl1, x1, q1⟩ => q1 v σ H1 F1 O1 l s1 r1 hl1 Keeps.refl x1) (sE_run s q)
  | .retN, st, X, W, sc, h, G => by
    cases st <;> try (simp [okS] at h; done)
    rename_i o pos
    cases o <;> try (simp [okS] at h; done)
    exact PS.imp ps_retN fun De σ H ⟨F, O, env, s, q⟩ => q .non σ H F O [] s ⟨rfl, rfl⟩ (by simp) Keeps.refl (Ext.refl.mono fun a z => ownP_nil z)
  | .ife c a b, st, X, W, sc, h, G => by
    cases st <;> try (simp [okS] at h; done)
    simp only [okS, Bool.and_eq_true] at h
    refine PS.imp (ps_if (sound_t c _ h.1.1 G) (sound_ss a _ h.1.2 G) (sound_ss b _ h.2 G)) fun De σ H ⟨F, O, env, s, q⟩ => ?_
    simp only [My.ex] at q
    refine tE_mono (fun v H1 ⟨t, hv, F1, O1, e1, s1, x1, q1⟩ => ⟨t, hv, ?_⟩) (sT_run s q)
    cases t with
    | true => exact ⟨F1, O1, e1, s1, q1.back x1 Keeps.refl⟩
    | false => exact ⟨F1, O1, e1, s1, q1.back x1 Keeps.refl⟩
  | .whl c b, st, X, W, sc, h, G => by
    cases st <;> try (simp [okS] at h; done)
    rename_i ec eb el pos
    cases el <;> try (simp [okS] at h; done)
    simp only [okS, Bool.and_eq_true] at h
    refine PS.imp (ps_while G.pass (sound_t c ec h.1 G) (sound_ss b eb h.2 G)) fun De σ H ⟨F, O, env, s, q⟩ => ?_
    simp only [My.ex] at q
    exact wh_run s q
  | .for t it b, st, X, W, sc, h, G => by
    cases st <;> try (simp [okS] at h; done)
    rename_i tg ei eb el pos
    cases el <;> try (simp [okS] at h; done)
    simp only [okS, Bool.and_eq_true] at h
    refine PS.len fun σ0 hl => PS.imp (ps_for G.pass G.calm (sound_i it ei tg h.1.2 G) (sound_g t tg h.1.1 G) (sound_ss b eb h.2 G) (okI_folded h.1.2 X.env)) fun De σ H ⟨e0, F, O, env, s, q⟩ => ?_
    subst e0
    simp only [My.ex] at q
    exact for_run h.1.1 (by rw [hl, G.N]) s q
  | .pass, st, X, W, sc, h, G => by
    cases st <;> try (simp [okS] at h; done)
    exact PS.imp ps_pass fun De σ H ⟨F, O, env, s, q⟩ => q σ H F O s Keeps.refl Ext.refl
  | .dead, st, X, W, sc, h, G => PS.imp ps_never fun De σ H ⟨F, O, env, s, q⟩ => q
  | .par is es, st, X, W, sc, h, G => by
    cases st <;> try (simp [okS] at h; done)
    rename_i tgs ev pos
    match tgs, ev, h with
    | [.Tuple ts k1 p1], .Tuple vs k2 p2, h =>
      simp only [okS, Bool.and_eq_true] at h
      by_cases hp : isPlainP sc ts vs = true
      · rw [if_pos hp] at h
        exact par_plain h.1.1 h.1.2 hp (of_decide_eq_true h.2) G
      · rw [if_neg hp] at h
        simp only [Bool.and_eq_true, decide_eq_true_eq] at h
        exact par_swap h.1.1 h.1.2 h.2.1.1 h.2.1.2 h.2.2 G
  | .sub2 _ _ _ _ _ _, st, X, W, sc, h, G => by cases st <;> simp [okS] at h
  | .aug _ _ _, st, X, W, sc, h, G => by cases st <;> simp [okS] at h
  | .ext _ _, st, X, W, sc, h, G => by cases st <;> simp [okS] at h
  | .insr _ _ _, st, X, W, sc, h, G => by cases st <;> simp [okS] at h
  | .rem _ _, st, X, W, sc, h, G => by cases st <;> simp [okS] at h
  | .rvs _, st, X, W, sc, h, G => by cases st <;> simp [okS] at h
  | .setdef _ _ _, st, X, W, sc, h, G => by cases st <;> simp [okS] at h
  | .lol0 _, st, X, W, sc, h, G => by cases st <;> simp [okS] at h
  | .lolApp _, st, X, W, sc, h, G => by cases st <;> simp [okS] at h
  | .lolAt _ _ _, st, X, W, sc, h, G => by cases st <;> simp [okS] at h
theorem sound_ss : ∀ (ts : Ss) (sts : List Stmt) {X : Cx} {W : WX} {sc : Scope}, okSs T N sc kp ts sts = true → Good X XR W T C N sc k → PSs X sts (tSs X.K XR W C kp ts)
  | .nil, [], X, W, sc, h, G => PSs.imp pss_nil fun De σ H ⟨F, O, env, s, q⟩ => q σ H F O s Keeps.refl Ext.refl
  | .nil, _ :: _, X, W, sc, h, G => by simp [okSs] at h
  | .cons _ _, [], X, W, sc, h, G => by simp [okSs] at h
  | .cons a r, st :: sts, X, W, sc, h, G => by
    simp only [okSs, Bool.and_eq_true] at h
    refine PSs.imp (pss_cons (sound_s a st h.1 G) (sound_ss r sts h.2 G)) fun De σ H ⟨F, O, env, s, q⟩ => ?_
    refine ⟨F, O, env, s, ?_⟩
    simp only [My.exs] at q
    match hr : My.ex C a env with
    | .bad => rw [hr] at q; exact q.elim
    | .exc y => rw [hr] at q; exact q
    | .ok (.rt d e) => rw [hr] at q; exact q
    | .ok (.nx e) =>
      rw [hr] at q
      intro σ' H' F' O' s' kk x
      exact ⟨F', O', e, s', QvS.back q x kk⟩
end
end
end MyS

set_option Elab.async false
set_option linter.all false
set_option maxRecDepth 100000
set_option autoImplicit false
namespace MyS
open PySem PySem.Spec PyProof.Rows L2
open My (D E Es As OE S Ss Tg)
/-! ### a def of the text against its Mini text -/
structure DefOkP (K : PySem.W.Frag) (mg : Str → Option Value) (T : Tab) (PG : My.Prog) (x : Str) (f : Nat) (ps : List Str) : Prop where
  ex : ∃ (a : Addr) (fd : FuncData) (st : Stmt) (N : List Str) (fn : My.Fn), Fun K x x st a fd ∧ FnScope N ps (defScope st) ∧ PG f = some fn ∧ fn.dv = [] ∧ fn.np = ps.length ∧ T.np f = fn.np ∧ fn.nl = N.length ∧ fn.io.length = fn.np ∧
    okSs T N (defScope st) (fun i => fn.io.getD i false) fn.body (defBody st) = true ∧ mg x = some (.ref a) ∧ ∀ us : List Value, us.length = ps.length → bindArgs fd ⟨us, []⟩ = pure (ps.zip us)
def DefOk (K : PySem.W.Frag) (mg : Str → Option Value) (T : Tab) (PG : My.Prog) (x : Str) (f : Nat) : Prop := ∃ ps, DefOkP K mg T PG x f ps
section
variable {K : PySem.W.Frag} {XR : XRT} {H F : Hp} {O : Ow}
theorem gt_app : ∀ (ds r : List D) (i : Nat), My.gt (ds ++ r) i = if i < ds.length then My.gt ds i else My.gt r (i - ds.length)
  | [], r, i => by simp
  | d :: ds, r, 0 => by simp [My.gt]
  | d :: ds, r, i + 1 => by
    show My.gt (ds ++ r) i = _
    rw [gt_app ds r i]
    simp [My.gt]
theorem gt_und : ∀ (n i : Nat), My.gt (List.replicate n .und) i = .und
  | 0, _ => rfl
  | n + 1, 0 => rfl
  | n + 1, i + 1 => by rw [List.replicate_succ]; exact gt_und n i
theorem SR.start {vs : List V} {ds : List D} {N : List Str} (s : SR K H F (vs.map some) ds O) (hN : vs.length ≤ N.length) :
    SR K H F (L2.start N vs) (ds ++ List.replicate (N.length - ds.length) .und) O where
  sub := s.sub
  len := by
    have := s.len
    simp [L2.start] at this ⊢
    omega
  slot := fun i => by
    have hl : ds.length = vs.length := by have := s.len; simpa using this
    rw [gt_app]
    by_cases hi : i < ds.length
    · rw [if_pos hi]
      refine (s.slot i).imp id fun ⟨v, e, r⟩ => ⟨v, ?_, r⟩
      show (vs.map some ++ _)[i]? = _
      rw [List.getElem?_append_left (by simpa using hl ▸ hi)]
      exact e
    · rw [if_neg hi, gt_und]
      refine .inl ⟨rfl, ?_⟩
      rcases s.slot i with ⟨_, z⟩ | ⟨v, e, _⟩
      · exact z
      · have := (List.getElem?_eq_some_iff.mp e).1
        simp at this
        omega
  nodup := s.nodup
  apart := s.apart
  off := s.off
def ioO (io : List Bool) (O : Ow) : Ow := fun i => if io.getD i false then O i else []
theorem outs_gt : ∀ (io : List Bool) (e : My.Env) (i : Nat), My.gt (My.outs io e) i = if io.getD i false then My.gt e i else .und
  | [], e, i => by simp [My.outs, My.gt]
  | b :: bs, [], i => by simp [My.outs, My.gt]
  | b :: bs, d :: e, 0 => by simp [My.outs, My.gt]
  | b :: bs, d :: e, i + 1 => by
    show My.gt (My.outs bs e) i = _
    rw [outs_gt bs e i]
    simp [My.gt]
theorem outs_len : ∀ (io : List Bool) (e : My.Env), io.length ≤ e.length → (My.outs io e).length = io.length
  | [], e, _ => rfl
  | b :: bs, [], h => by simp at h
  | b :: bs, d :: e, h => by simp [My.outs, outs_len bs e (by simpa using h)]
theorem SR.outs {vs : List V} {N : List Str} {io : List Bool} {σ : L2.St} {e : My.Env} (s : SR K H F σ e O) (kk : Keeps (fun i => io.getD i false) (L2.start N vs) σ) (h1 : io.length = vs.length) (h2 : vs.length ≤ N.length) :
    SR K H F (vs.map some) (My.outs io e) (ioO io O) ∧ ∀ a, Own (ioO io O) a → Own O a := by
  have sub : ∀ i a, a ∈ ioO io O i → a ∈ O i := fun i a h => by
    unfold ioO at h
    split at h
    · exact h
    · simp at h
  have hl : (L2.start N vs).length = N.length := by
    unfold L2.start
    simp
    omega
  refine ⟨⟨s.sub, ?_, fun i => ?_, fun i => ?_, fun i j a h1 h2 => s.apart i j a (sub i a h1) (sub j a h2), fun i a h => s.off i a (sub i a h)⟩, fun a ⟨i, hi⟩ => ⟨i, sub i a hi⟩⟩
  · rw [outs_len io e (by rw [s.len, kk.1, hl]; omega), h1]; simp
  · rw [outs_gt]
    unfold ioO
    by_cases hi : io.getD i false = true
    · rw [if_pos hi, if_pos hi]
      refine (s.slot i).imp id fun ⟨v, ev, r⟩ => ⟨v, ?_, r⟩
      have hlt : i < vs.length := by
        rw [← h1]
        refine Nat.lt_of_not_le fun z => ?_
        simp [List.getD, List.getElem?_eq_none z] at hi
      have := kk.2 i hi
      rw [ev] at this
      rw [show (vs.map some)[i]? = (L2.start N vs)[i]? by
        show _ = (vs.map some ++ _)[i]?
        rw [List.getElem?_append_left (by simpa using hlt)]]
      exact this.symm
    · rw [if_neg hi, if_neg hi]
      exact .inl ⟨rfl, rfl⟩
  · unfold ioO
    split
    · exact s.nodup i
    · simp
end
section
variable {P : Program} {w : World} {K : PySem.W.Frag} {mg : Str → Option Value} {base : Heap} {XR : XRT} {T : Tab} {PG : My.Prog}
theorem sp_len {C : My.Call} {f n : Nat} {vs : List V} {H : Hp} {Q : VK} {E : XK} (h : spF K XR C f n vs H Q E) : vs.length = n := h.1
theorem fn_step (hb : ∀ x ∈ blts, mg x = none) (hc : ∀ x d, T.cons.lookup x = some d → ∃ u v, mg x = some u ∧ RelV v u ∧ ∀ F, RepF K F d v) {k : Nat} {x : Str} {f : Nat} {ps : List Str}
    (D : DefOkP K mg T PG x f ps) : ∃ a fd, mg x = some (.ref a) ∧ PySem.W.keepIn K (.ref a) = true ∧ ps.length = T.np f ∧ (∀ us : List Value, us.length = ps.length → bindArgs fd ⟨us, []⟩ = pure (ps.zip us)) ∧ ∀ base : Heap,
    (∀ (x : Str) (f : Nat), T.fns.lookup x = some f → ∃ a fd ps, mg x = some (.ref a) ∧ PySem.W.keepIn K (.ref a) = true ∧ ps.length = T.np f ∧ Binds K fd ps [] ∧ FnOk P w K mg base (L2.CX P w) k a fd ps (spF K XR (My.callF PG k) f (T.np f))) → FnOk P w K mg base (L2.CX P w) (k + 1) a fd ps (spF K XR (My.callF PG (k + 1)) f (T.np f)) := by
  obtain ⟨a, fd, st, N, fn, hF, hS, h1, h2, h3, h4, h5, h6, h7, h8, h9⟩ := D.ex
  have hpl : ps.length ≤ N.length := by have := congrArg List.length hS.pre; rw [List.length_take] at this; omega
  refine ⟨a, fd, h8, hF.kp, by rw [h4, h3], h9, fun base ih => hF.okX hS (fun vs H Q E q => by rw [sp_len q, h4, h3]) fun cdv A outer s H vs Q E hr q => ?_⟩
  refine ⟨tSs K XR (fun cls d _ H => E cls d H) (My.callF PG k) (fun i => fn.io.getD i false) fn.body, ?_, ?_⟩
  · refine sound_ss (T := T) (N := N) (k := k) fn.body (defBody st) h7 ?_
    exact ⟨rfl, hS.nd, rfl, rfl, hr, takes_of rfl rfl rfl rfl, passes_of rfl, fun _ _ => rfl, ⟨hb, hc, fun y g hy => ih y g hy⟩⟩
  · obtain ⟨hl, F, O, ds, sr, q⟩ := q
    have hds : ds.length = vs.length := by have := sr.len; simpa using this
    have hfill : My.fill fn ds = ds := by
      unfold My.fill
      rw [h2]
      simp
    rw [My.callF_eq h1 (by rw [hfill, hds, hl, h4]), hfill] at q
    have s0 := sr.start (N := N) (by rw [hl, h4, h3]; exact hpl)
    have e0 : fn.nl - fn.np = N.length - ds.length := by rw [h5, hds, hl, h4]
    rw [e0] at q
    refine ⟨F, O, _, s0, ?_⟩
    have hio : fn.io.length = vs.length := by rw [h6, hl, h4]
    have hvN : vs.length ≤ N.length := by rw [hl, h4, h3]; exact hpl
    match hx : My.exs (My.callF PG k) fn.body (ds ++ List.replicate (N.length - ds.length) .und) with
    | .bad => rw [hx] at q; exact q.elim
    | .exc y => rw [hx] at q ⊢; exact fun σ' cls dx H' F' _ hs x r => q cls dx H' F' hs x r
    | .ok (.rt d e) =>
      rw [hx] at q ⊢
      intro v σ' H' F' O' l s' r hl' kk x
      obtain ⟨so, oo⟩ := s'.outs kk hio hvN
      exact q v H' F' _ l so r (fun a ha => ⟨(hl' a ha).1, fun z => (hl' a ha).2 (oo a z)⟩) (x.mono fun a z => z.imp (oo a) id)
    | .ok (.nx e) =>
      rw [hx] at q ⊢
      intro σ' H' F' O' s' kk x
      obtain ⟨so, oo⟩ := s'.outs kk hio hvN
      exact q .non H' F' _ [] so ⟨rfl, rfl⟩ (by simp) (x.mono fun a z => z.elim (oo a) fun z => by simp at z)
theorem fns_ok (hb : ∀ x ∈ blts, mg x = none) (hc : ∀ x d, T.cons.lookup x = some d → ∃ u v, mg x = some u ∧ RelV v u ∧ ∀ F, RepF K F d v) (hd : ∀ x f, T.fns.lookup x = some f → DefOk K mg T PG x f) :
    ∀ (k : Nat) (x : Str) (f : Nat), T.fns.lookup x = some f → ∃ a fd ps, mg x = some (.ref a) ∧ PySem.W.keepIn K (.ref a) = true ∧ ps.length = T.np f ∧ Binds K fd ps [] ∧ FnOk P w K mg base (L2.CX P w) k a fd ps (spF K XR (My.callF PG k) f (T.np f)) := by
  intro k
  induction k with
  | zero =>
    intro x f h
    obtain ⟨ps, D⟩ := hd x f h
    obtain ⟨a, fd, st, N, fn, hF, hS, h1, h2, h3, h4, h5, h6, h7, h8, h9⟩ := D.ex
    exact ⟨a, fd, ps, h8, hF.kp, by rw [h4, h3], .all h9, ⟨fun vs H Q E q => by rw [sp_len q, h4, h3], fun A outer s H args us vs Q E _ _ _ _ q => q.2.elim fun F q => q.elim fun O q => q.elim fun ds q => q.2.elim⟩⟩
  | succ k ih =>
    intro x f h
    obtain ⟨ps, D⟩ := hd x f h
    obtain ⟨a, fd, q1, q2, q3, q4, q5⟩ := fn_step (P := P) (w := w) (XR := XR) (k := k) hb hc D
    exact ⟨a, fd, ps, q1, q2, q3, .all q4, q5 base ih⟩
/-- no exception is let out -/
def XR0 : XRT := fun _ _ _ _ _ => False
theorem lk_nil {K : PySem.W.Frag} {mg : Str → Option Value} {T : Tab} {PG : My.Prog} : ∀ x f, ([] : List (Str × Nat)).lookup x = some f → DefOk K mg T PG x f := fun _ _ h => by cases h
theorem lk_cons {K : PySem.W.Frag} {mg : Str → Option Value} {T : Tab} {PG : My.Prog} {y : Str} {g : Nat} {l : List (Str × Nat)} (h1 : DefOk K mg T PG y g) (h2 : ∀ x f, l.lookup x = some f → DefOk K mg T PG x f) : ∀ x f, ((y, g) :: l).lookup x = some f → DefOk K mg T PG x f := fun x f h => by
  rw [List.lookup_cons] at h
  by_cases e : x = y
  · subst e
    rw [beq_self_eq_true] at h
    cases h
    exact h1
  · rw [beq_false_of_ne e] at h
    exact h2 x f h
theorem cx_none {P : Program} {w : World} {H : Hp} {s s' : Shared} {e : Value} (h : L2.CX P w [] H s (fun _ _ _ => False) e s') : False := by
  obtain ⟨_, _, _, _, _, _, _, _, _, _, _, _, z⟩ := h
  exact z.elim
/-- the law's own def: True of every script -/
theorem law_sp {f k : Nat} (hlaw : ∀ ns : List Int, ns.length ≤ 63 → ∃ os, My.callF PG k f [.scr ns] = .ok (.bl true, os)) (H : Hp) (a : Addr) (ns : List Int) (hn : ns.length ≤ 63) (hS : SqL K H a (ns.map V.int)) :
    spF K XR (My.callF PG k) f 1 [.ref a] H (fun v _ => v = .bl true) fun _ _ _ => False := by
  obtain ⟨os, e⟩ := hlaw ns hn
  refine ⟨rfl, H, fun _ => [], [.scr ns], ⟨fun _ _ h => h, rfl, fun i => ?_, fun _ => by simp, fun _ _ _ z => by simp at z, fun _ _ z => by simp at z⟩, ?_⟩
  · match i with
    | 0 => exact .inr ⟨.ref a, rfl, ⟨a, rfl, hS⟩, rfl⟩
    | i + 1 => exact .inl ⟨rfl, rfl⟩
  · rw [e]
    exact fun v H' F' O' l _ r _ _ => r.1
/-- a def, from what the top has written -/
theorem defOk_mk {h : Heap} {x : Str} {f : Nat} {st : Stmt} {N ps : List Str} {fn : My.Fn} {fa : Addr} {oc : Value} {od an : Option Addr} {osl : Array (Option Value)} {kV doc pm cdv ct : Value}
    (X : K.In h) (G : h.Ns mainGlobals mg) (a : PySem.W.nsIn K mainGlobals x = some (some (.ref fa)))
    (l : K.lookup fa = some ⟨oc, od, .func (PySem.W.fnOf x x (defArgs st) (defBody st) (defScope st) .none kV doc pm an cdv ct), osl⟩) (c : PySem.W.codeIn K cdv x = true) (kp : PySem.W.keepIn K (.ref fa) = true)
    (hS : FnScope N ps (defScope st)) (h1 : PG f = some fn) (h2 : fn.dv = []) (h3 : fn.np = ps.length) (h4 : T.np f = fn.np) (h5 : fn.nl = N.length) (h6 : fn.io.length = fn.np)
    (h7 : okSs T N (defScope st) (fun i => fn.io.getD i false) fn.body (defBody st) = true)
    (hb : ∀ (kV doc pm : Value) (an : Option Addr) (cdv ct : Value) (us : List Value), us.length = ps.length → bindArgs (PySem.W.fnOf x x (defArgs st) (defBody st) (defScope st) .none kV doc pm an cdv ct) ⟨us, []⟩ = pure (ps.zip us)) :
    DefOkP K mg T PG x f ps :=
  ⟨fa, _, st, N, fn, fun_mk l c kp, hS, h1, h2, h3, h4, h5, h6, h7, PySem.W.mg_of X G a, hb _ _ _ _ _ _⟩
end
end MyS

set_option Elab.async false
set_option linter.all false
set_option maxRecDepth 100000
set_option autoImplicit false
namespace MyS.K33
open PySem PySem.Spec PyProof.Rows L2
open My.K33
def topS (i : Nat) : Stmt := PySem.Challenge.pw_shearfloor_k33_steps_of_lines.main.body.getD i (.Pass ⟨0, 0, 0, 0⟩)
def T : Tab := ⟨[("divided", 0), ("slope_table", 1), ("slope_steps", 2), ("_law_feed", 3), ("_law_take", 4), ("_law_common", 5), ("_law_slope", 6), ("_law_steps", 7), ("law", 8)], [], fun f => ([2, 1, 1, 2, 2, 2, 2, 1, 1] : List Nat).getD f 0, fun _ => []⟩
theorem sc_divided : FnScope ["a", "c", "g", "x", "y", "rest", "u", "v", "q"] ["a", "c"] (defScope (topS 4)) := ⟨rfl, rfl, rfl, by decide +kernel, rfl, by decide +kernel, by decide +kernel⟩
theorem ok_divided : okSs T ["a", "c", "g", "x", "y", "rest", "u", "v", "q"] (defScope (topS 4)) (fun i => (F_divided).io.getD i false) (F_divided).body (defBody (topS 4)) = true := by decide +kernel
theorem sc_slope_table : FnScope ["slope", "a", "c", "g", "x", "y"] ["slope"] (defScope (topS 5)) := ⟨rfl, rfl, rfl, by decide +kernel, rfl, by decide +kernel, by decide +kernel⟩
theorem ok_slope_table : okSs T ["slope", "a", "c", "g", "x", "y"] (defScope (topS 5)) (fun i => (F_slope_table).io.getD i false) (F_slope_table).body (defBody (topS 5)) = true := by decide +kernel
theorem sc_slope_steps : FnScope ["slope", "side", "wide", "c", "x", "y", "steps"] ["slope"] (defScope (topS 6)) := ⟨rfl, rfl, rfl, by decide +kernel, rfl, by decide +kernel, by decide +kernel⟩
theorem ok_slope_steps : okSs T ["slope", "side", "wide", "c", "x", "y", "steps"] (defScope (topS 6)) (fun i => (F_slope_steps).io.getD i false) (F_slope_steps).body (defBody (topS 6)) = true := by decide +kernel
theorem sc_law_feed : FnScope ["_law_script", "_law_k", "_law_cell", "_law_own"] ["_law_script", "_law_k"] (defScope (topS 8)) := ⟨rfl, rfl, rfl, by decide +kernel, rfl, by decide +kernel, by decide +kernel⟩
theorem ok_law_feed : okSs T ["_law_script", "_law_k", "_law_cell", "_law_own"] (defScope (topS 8)) (fun i => (F_law_feed).io.getD i false) (F_law_feed).body (defBody (topS 8)) = true := by decide +kernel
theorem sc_law_take : FnScope ["_law_feed_here", "_law_many", "_law_one", "_law_digit"] ["_law_feed_here", "_law_many"] (defScope (topS 9)) := ⟨rfl, rfl, rfl, by decide +kernel, rfl, by decide +kernel, by decide +kernel⟩
theorem ok_law_take : okSs T ["_law_feed_here", "_law_many", "_law_one", "_law_digit"] (defScope (topS 9)) (fun i => (F_law_take).io.getD i false) (F_law_take).body (defBody (topS 9)) = true := by decide +kernel
theorem sc_law_common : FnScope ["_law_a", "_law_c"] ["_law_a", "_law_c"] (defScope (topS 10)) := ⟨rfl, rfl, rfl, by decide +kernel, rfl, by decide +kernel, by decide +kernel⟩
theorem ok_law_common : okSs T ["_law_a", "_law_c"] (defScope (topS 10)) (fun i => (F_law_common).io.getD i false) (F_law_common).body (defBody (topS 10)) = true := by decide +kernel
theorem sc_law_slope : FnScope ["_law_feed_here", "_law_most", "_law_form", "_law_c", "_law_wide", "_law_common_here"] ["_law_feed_here", "_law_most"] (defScope (topS 11)) := ⟨rfl, rfl, rfl, by decide +kernel, rfl, by decide +kernel, by decide +kernel⟩
theorem ok_law_slope : okSs T ["_law_feed_here", "_law_most", "_law_form", "_law_c", "_law_wide", "_law_common_here"] (defScope (topS 11)) (fun i => (F_law_slope).io.getD i false) (F_law_slope).body (defBody (topS 11)) = true := by decide +kernel
theorem sc_law_steps : FnScope ["_law_slope_here", "_law_wide", "_law_x", "_law_a", "_law_c", "_law_found", "_law_side", "_law_high"] ["_law_slope_here"] (defScope (topS 12)) := ⟨rfl, rfl, rfl, by decide +kernel, rfl, by decide +kernel, by decide +kernel⟩
theorem ok_law_steps : okSs T ["_law_slope_here", "_law_wide", "_law_x", "_law_a", "_law_c", "_law_found", "_law_side", "_law_high"] (defScope (topS 12)) (fun i => (F_law_steps).io.getD i false) (F_law_steps).body (defBody (topS 12)) = true := by decide +kernel
theorem sc_law : FnScope ["_law_script", "_law_some", "_law_k", "_law_slope_here", "_law_feed_here"] ["_law_script"] (defScope (topS 13)) := ⟨rfl, rfl, rfl, by decide +kernel, rfl, by decide +kernel, by decide +kernel⟩
theorem ok_law : okSs T ["_law_script", "_law_some", "_law_k", "_law_slope_here", "_law_feed_here"] (defScope (topS 13)) (fun i => (F_law).io.getD i false) (F_law).body (defBody (topS 13)) = true := by decide +kernel
theorem all_mk {l : PySem.W.OpenLaw} {w : World} {K : PySem.W.Frag} {h : Heap} {mg : Str → Option Value} {fa : Addr} (X : K.In h) (G : h.Ns mainGlobals mg) (hfa : mg "law" = some (.ref fa))
    {f0 f1 f2 f3 f4 f5 f6 f7 f8 : Addr} {od0 an0 od1 an1 od2 an2 od3 an3 od4 an4 od5 an5 od6 an6 od7 an7 od8 an8 : Option Addr} {sl0 sl1 sl2 sl3 sl4 sl5 sl6 sl7 sl8 : Array (Option Value)} {oc0 kV0 dc0 pm0 cd0 ct0 oc1 kV1 dc1 pm1 cd1 ct1 oc2 kV2 dc2 pm2 cd2 ct2 oc3 kV3 dc3 pm3 cd3 ct3 oc4 kV4 dc4 pm4 cd4 ct4 oc5 kV5 dc5 pm5 cd5 ct5 oc6 kV6 dc6 pm6 cd6 ct6 oc7 kV7 dc7 pm7 cd7 ct7 oc8 kV8 dc8 pm8 cd8 ct8 : Value}
    (a0 : PySem.W.nsIn K mainGlobals "divided" = some (some (.ref f0))) (l0 : K.lookup f0 = some ⟨oc0, od0, .func (PySem.W.fnOf "divided" "divided" (defArgs (topS 4)) (defBody (topS 4)) (defScope (topS 4)) .none kV0 dc0 pm0 an0 cd0 ct0), sl0⟩) (c0 : PySem.W.codeIn K cd0 "divided" = true) (k0 : PySem.W.keepIn K (.ref f0) = true)
    (a1 : PySem.W.nsIn K mainGlobals "slope_table" = some (some (.ref f1))) (l1 : K.lookup f1 = some ⟨oc1, od1, .func (PySem.W.fnOf "slope_table" "slope_table" (defArgs (topS 5)) (defBody (topS 5)) (defScope (topS 5)) .none kV1 dc1 pm1 an1 cd1 ct1), sl1⟩) (c1 : PySem.W.codeIn K cd1 "slope_table" = true) (k1 : PySem.W.keepIn K (.ref f1) = true)
    (a2 : PySem.W.nsIn K mainGlobals "slope_steps" = some (some (.ref f2))) (l2 : K.lookup f2 = some ⟨oc2, od2, .func (PySem.W.fnOf "slope_steps" "slope_steps" (defArgs (topS 6)) (defBody (topS 6)) (defScope (topS 6)) .none kV2 dc2 pm2 an2 cd2 ct2), sl2⟩) (c2 : PySem.W.codeIn K cd2 "slope_steps" = true) (k2 : PySem.W.keepIn K (.ref f2) = true)
    (a3 : PySem.W.nsIn K mainGlobals "_law_feed" = some (some (.ref f3))) (l3 : K.lookup f3 = some ⟨oc3, od3, .func (PySem.W.fnOf "_law_feed" "_law_feed" (defArgs (topS 8)) (defBody (topS 8)) (defScope (topS 8)) .none kV3 dc3 pm3 an3 cd3 ct3), sl3⟩) (c3 : PySem.W.codeIn K cd3 "_law_feed" = true) (k3 : PySem.W.keepIn K (.ref f3) = true)
    (a4 : PySem.W.nsIn K mainGlobals "_law_take" = some (some (.ref f4))) (l4 : K.lookup f4 = some ⟨oc4, od4, .func (PySem.W.fnOf "_law_take" "_law_take" (defArgs (topS 9)) (defBody (topS 9)) (defScope (topS 9)) .none kV4 dc4 pm4 an4 cd4 ct4), sl4⟩) (c4 : PySem.W.codeIn K cd4 "_law_take" = true) (k4 : PySem.W.keepIn K (.ref f4) = true)
    (a5 : PySem.W.nsIn K mainGlobals "_law_common" = some (some (.ref f5))) (l5 : K.lookup f5 = some ⟨oc5, od5, .func (PySem.W.fnOf "_law_common" "_law_common" (defArgs (topS 10)) (defBody (topS 10)) (defScope (topS 10)) .none kV5 dc5 pm5 an5 cd5 ct5), sl5⟩) (c5 : PySem.W.codeIn K cd5 "_law_common" = true) (k5 : PySem.W.keepIn K (.ref f5) = true)
    (a6 : PySem.W.nsIn K mainGlobals "_law_slope" = some (some (.ref f6))) (l6 : K.lookup f6 = some ⟨oc6, od6, .func (PySem.W.fnOf "_law_slope" "_law_slope" (defArgs (topS 11)) (defBody (topS 11)) (defScope (topS 11)) .none kV6 dc6 pm6 an6 cd6 ct6), sl6⟩) (c6 : PySem.W.codeIn K cd6 "_law_slope" = true) (k6 : PySem.W.keepIn K (.ref f6) = true)
    (a7 : PySem.W.nsIn K mainGlobals "_law_steps" = some (some (.ref f7))) (l7 : K.lookup f7 = some ⟨oc7, od7, .func (PySem.W.fnOf "_law_steps" "_law_steps" (defArgs (topS 12)) (defBody (topS 12)) (defScope (topS 12)) .none kV7 dc7 pm7 an7 cd7 ct7), sl7⟩) (c7 : PySem.W.codeIn K cd7 "_law_steps" = true) (k7 : PySem.W.keepIn K (.ref f7) = true)
    (a8 : PySem.W.nsIn K mainGlobals "law" = some (some (.ref f8))) (l8 : K.lookup f8 = some ⟨oc8, od8, .func (PySem.W.fnOf "law" "law" (defArgs (topS 13)) (defBody (topS 13)) (defScope (topS 13)) .none kV8 dc8 pm8 an8 cd8 ct8), sl8⟩) (c8 : PySem.W.codeIn K cd8 "law" = true) (k8 : PySem.W.keepIn K (.ref f8) = true)
    (z0 : PySem.W.nsIn K mainGlobals "len" = some none) (z1 : PySem.W.nsIn K mainGlobals "abs" = some none) (z2 : PySem.W.nsIn K mainGlobals "min" = some none) (z3 : PySem.W.nsIn K mainGlobals "max" = some none) (z4 : PySem.W.nsIn K mainGlobals "int" = some none) (z5 : PySem.W.nsIn K mainGlobals "tuple" = some none) (z6 : PySem.W.nsIn K mainGlobals "list" = some none) (z7 : PySem.W.nsIn K mainGlobals "range" = some none) (z8 : PySem.W.nsIn K mainGlobals "sorted" = some none) (z9 : PySem.W.nsIn K mainGlobals "sum" = some none) (z10 : PySem.W.nsIn K mainGlobals "all" = some none) (z11 : PySem.W.nsIn K mainGlobals "str" = some none) (z12 : PySem.W.nsIn K mainGlobals "repr" = some none) (z13 : PySem.W.nsIn K mainGlobals "isinstance" = some none) (z14 : PySem.W.nsIn K mainGlobals "set" = some none) (z15 : PySem.W.nsIn K mainGlobals "enumerate" = some none) (z16 : PySem.W.nsIn K mainGlobals "zip" = some none) (z17 : PySem.W.nsIn K mainGlobals "reversed" = some none) (z18 : PySem.W.nsIn K mainGlobals "dict" = some none)
    : ∃ fd : FuncData, (∀ (s : Shared) (v : Value), BindsTo s fd ⟨[v], []⟩ [("_law_script", v)]) ∧ ∀ base : Heap, K.In base → base.Ns mainGlobals mg → FnOk l.prog w K mg base (L2.CX l.prog w) 4 fa fd ["_law_script"] (spF K XR0 (My.callF PG 4) 8 1) := by
  have d0 : DefOkP K mg T PG "divided" 0 ["a", "c"] := defOk_mk (fn := F_divided) X G a0 l0 c0 k0 sc_divided rfl rfl rfl rfl rfl rfl ok_divided fun _ _ _ _ _ _ us hl => match us, hl with | [_, _], _ => rfl
  have d1 : DefOkP K mg T PG "slope_table" 1 ["slope"] := defOk_mk (fn := F_slope_table) X G a1 l1 c1 k1 sc_slope_table rfl rfl rfl rfl rfl rfl ok_slope_table fun _ _ _ _ _ _ us hl => match us, hl with | [_], _ => rfl
  have d2 : DefOkP K mg T PG "slope_steps" 2 ["slope"] := defOk_mk (fn := F_slope_steps) X G a2 l2 c2 k2 sc_slope_steps rfl rfl rfl rfl rfl rfl ok_slope_steps fun _ _ _ _ _ _ us hl => match us, hl with | [_], _ => rfl
  have d3 : DefOkP K mg T PG "_law_feed" 3 ["_law_script", "_law_k"] := defOk_mk (fn := F_law_feed) X G a3 l3 c3 k3 sc_law_feed rfl rfl rfl rfl rfl rfl ok_law_feed fun _ _ _ _ _ _ us hl => match us, hl with | [_, _], _ => rfl
  have d4 : DefOkP K mg T PG "_law_take" 4 ["_law_feed_here", "_law_many"] := defOk_mk (fn := F_law_take) X G a4 l4 c4 k4 sc_law_take rfl rfl rfl rfl rfl rfl ok_law_take fun _ _ _ _ _ _ us hl => match us, hl with | [_, _], _ => rfl
  have d5 : DefOkP K mg T PG "_law_common" 5 ["_law_a", "_law_c"] := defOk_mk (fn := F_law_common) X G a5 l5 c5 k5 sc_law_common rfl rfl rfl rfl rfl rfl ok_law_common fun _ _ _ _ _ _ us hl => match us, hl with | [_, _], _ => rfl
  have d6 : DefOkP K mg T PG "_law_slope" 6 ["_law_feed_here", "_law_most"] := defOk_mk (fn := F_law_slope) X G a6 l6 c6 k6 sc_law_slope rfl rfl rfl rfl rfl rfl ok_law_slope fun _ _ _ _ _ _ us hl => match us, hl with | [_, _], _ => rfl
  have d7 : DefOkP K mg T PG "_law_steps" 7 ["_law_slope_here"] := defOk_mk (fn := F_law_steps) X G a7 l7 c7 k7 sc_law_steps rfl rfl rfl rfl rfl rfl ok_law_steps fun _ _ _ _ _ _ us hl => match us, hl with | [_], _ => rfl
  have d8 : DefOkP K mg T PG "law" 8 ["_law_script"] := defOk_mk (fn := F_law) X G a8 l8 c8 k8 sc_law rfl rfl rfl rfl rfl rfl ok_law fun _ _ _ _ _ _ us hl => match us, hl with | [_], _ => rfl
  have hb : ∀ x ∈ blts, mg x = none := fun x hx => by
    simp only [blts, List.mem_cons, List.not_mem_nil, or_false] at hx
    rcases hx with rfl | rfl | rfl | rfl | rfl | rfl | rfl | rfl | rfl | rfl | rfl | rfl | rfl | rfl | rfl | rfl | rfl | rfl | rfl
    · exact PySem.W.mg_none_of X G z0
    · exact PySem.W.mg_none_of X G z1
    · exact PySem.W.mg_none_of X G z2
    · exact PySem.W.mg_none_of X G z3
    · exact PySem.W.mg_none_of X G z4
    · exact PySem.W.mg_none_of X G z5
    · exact PySem.W.mg_none_of X G z6
    · exact PySem.W.mg_none_of X G z7
    · exact PySem.W.mg_none_of X G z8
    · exact PySem.W.mg_none_of X G z9
    · exact PySem.W.mg_none_of X G z10
    · exact PySem.W.mg_none_of X G z11
    · exact PySem.W.mg_none_of X G z12
    · exact PySem.W.mg_none_of X G z13
    · exact PySem.W.mg_none_of X G z14
    · exact PySem.W.mg_none_of X G z15
    · exact PySem.W.mg_none_of X G z16
    · exact PySem.W.mg_none_of X G z17
    · exact PySem.W.mg_none_of X G z18
  have hd : ∀ x f, T.fns.lookup x = some f → DefOk K mg T PG x f :=
    lk_cons ⟨_, d0⟩ (lk_cons ⟨_, d1⟩ (lk_cons ⟨_, d2⟩ (lk_cons ⟨_, d3⟩ (lk_cons ⟨_, d4⟩ (lk_cons ⟨_, d5⟩ (lk_cons ⟨_, d6⟩ (lk_cons ⟨_, d7⟩ (lk_cons ⟨_, d8⟩ (lk_nil)))))))))
  have hc : ∀ x d, T.cons.lookup x = some d → ∃ u v, mg x = some u ∧ RelV v u ∧ ∀ F, RepF K F d v := fun _ _ z => by cases z
  obtain ⟨a, fd, m1, m2, m3, m4, m5⟩ := fn_step (P := l.prog) (w := w) (XR := XR0) (k := 3) hb hc d8
  cases m1.symm.trans hfa
  exact ⟨fd, fun s v => .of_eq (m4 [v] rfl), fun base _ _ => m5 base fun x f q => fns_ok hb hc hd _ x f q⟩
end MyS.K33

set_option Elab.async false
set_option linter.all false
set_option maxRecDepth 100000
set_option autoImplicit false
open PySem PySem.W PyProof.Rows
set_option maxHeartbeats 0 in
theorem PySem.Challenge.cw_shearfloor_k33_steps_of_lines_holds : PySem.Challenge.rw_shearfloor_k33_steps_of_lines.Holds := by
  w_on; o_law; k_head; (case hw => w_witness2)
  k_fill
  refine L2.walk_of (l := PySem.Challenge.rw_shearfloor_k33_steps_of_lines) (n := 63) (k := 4) (x := "_law_script") (CX := fun w => L2.CX PySem.Challenge.pw_shearfloor_k33_steps_of_lines w) (sp := fun w => MyS.spF _ MyS.XR0 (My.callF My.K33.PG 4) 8 1) rfl (by decide) rfl ⟨rfl, by decide, by decide⟩ (fun w h Y => PySem.W.kIn_of Y) ?F (fun _ H a ns hl _ hS => MyS.law_sp My.K33.hlaw H a ns hl hS) (fun w H s e s' q => MyS.cx_none q)
  case F =>
    intro w mg fa h KX G hmg
    refine' MyS.K33.all_mk KX G hmg ?a0 ?l0 ?c0 ?k0 ?a1 ?l1 ?c1 ?k1 ?a2 ?l2 ?c2 ?k2 ?a3 ?l3 ?c3 ?k3 ?a4 ?l4 ?c4 ?k4 ?a5 ?l5 ?c5 ?k5 ?a6 ?l6 ?c6 ?k6 ?a7 ?l7 ?c7 ?k7 ?a8 ?l8 ?c8 ?k8 ?z0 ?z1 ?z2 ?z3 ?z4 ?z5 ?z6 ?z7 ?z8 ?z9 ?z10 ?z11 ?z12 ?z13 ?z14 ?z15 ?z16 ?z17 ?z18
    (case a0 => k_is); (case l0 => k_is); (case c0 => k_is); (case k0 => k_is); (case a1 => k_is); (case l1 => k_is); (case c1 => k_is); (case k1 => k_is); (case a2 => k_is); (case l2 => k_is); (case c2 => k_is); (case k2 => k_is); (case a3 => k_is); (case l3 => k_is); (case c3 => k_is); (case k3 => k_is); (case a4 => k_is); (case l4 => k_is); (case c4 => k_is); (case k4 => k_is); (case a5 => k_is); (case l5 => k_is); (case c5 => k_is); (case k5 => k_is); (case a6 => k_is); (case l6 => k_is); (case c6 => k_is); (case k6 => k_is); (case a7 => k_is); (case l7 => k_is); (case c7 => k_is); (case k7 => k_is); (case a8 => k_is); (case l8 => k_is); (case c8 => k_is); (case k8 => k_is); (case z0 => k_is); (case z1 => k_is); (case z2 => k_is); (case z3 => k_is); (case z4 => k_is); (case z5 => k_is); (case z6 => k_is); (case z7 => k_is); (case z8 => k_is); (case z9 => k_is); (case z10 => k_is); (case z11 => k_is); (case z12 => k_is); (case z13 => k_is); (case z14 => k_is); (case z15 => k_is); (case z16 => k_is); (case z17 => k_is); (case z18 => k_is)

