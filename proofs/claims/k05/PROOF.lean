import PyProof.Rows.All
import Wide.All
import OpenK.AllK
import Wide.FinOn
import HandS.ForMost
import HandS.TupAny
import HandS.TupMul
import HandS.TupLe
import HandS.IsInst
import HandS.Conv
import HandS.Zip
import HandS.Deep
import HandS.CallLocal
import HandS.DictComp
import HandS.Style
import HandS.SetFor
import HandS.Small
import HandS.More
import HandS.Strs
import HandS.Sort
import KE.KDictKeyed
import KE.KeyNested
import KE.GoesEnum
import PySem.Challenge.RW_thinlog_k05_first_differences_by_all_log

set_option autoImplicit false
set_option linter.all false
set_option Elab.async false
set_option maxRecDepth 1000000
set_option maxHeartbeats 8000000

/-! The data, the store, the small language and its evaluator. -/
namespace TL

inductive D where
  | non | bl (b : Bool) | int (i : Int) | str (c : Nat) | tup (xs : List D) | ref (n : Nat) | fn (f : Nat) | ty (c : Nat)
  deriving Inhabited

mutual
def D.dec : (a b : D) → Decidable (a = b)
  | .non, .non => .isTrue rfl
  | .bl a, .bl b => if h : a = b then .isTrue (by rw [h]) else .isFalse fun e => h (by injection e)
  | .int a, .int b => if h : a = b then .isTrue (by rw [h]) else .isFalse fun e => h (by injection e)
  | .str a, .str b => if h : a = b then .isTrue (by rw [h]) else .isFalse fun e => h (by injection e)
  | .ref a, .ref b => if h : a = b then .isTrue (by rw [h]) else .isFalse fun e => h (by injection e)
  | .fn a, .fn b => if h : a = b then .isTrue (by rw [h]) else .isFalse fun e => h (by injection e)
  | .ty a, .ty b => if h : a = b then .isTrue (by rw [h]) else .isFalse fun e => h (by injection e)
  | .tup a, .tup b => match D.decs a b with
    | .isTrue h => .isTrue (by rw [h])
    | .isFalse h => .isFalse fun e => h (by injection e)
  | .non, .bl _ | .non, .int _ | .non, .str _ | .non, .tup _ | .non, .ref _ | .non, .fn _ | .non, .ty _ => .isFalse fun e => nomatch e
  | .bl _, .non | .bl _, .int _ | .bl _, .str _ | .bl _, .tup _ | .bl _, .ref _ | .bl _, .fn _ | .bl _, .ty _ => .isFalse fun e => nomatch e
  | .int _, .non | .int _, .bl _ | .int _, .str _ | .int _, .tup _ | .int _, .ref _ | .int _, .fn _ | .int _, .ty _ => .isFalse fun e => nomatch e
  | .str _, .non | .str _, .bl _ | .str _, .int _ | .str _, .tup _ | .str _, .ref _ | .str _, .fn _ | .str _, .ty _ => .isFalse fun e => nomatch e
  | .tup _, .non | .tup _, .bl _ | .tup _, .int _ | .tup _, .str _ | .tup _, .ref _ | .tup _, .fn _ | .tup _, .ty _ => .isFalse fun e => nomatch e
  | .ref _, .non | .ref _, .bl _ | .ref _, .int _ | .ref _, .str _ | .ref _, .tup _ | .ref _, .fn _ | .ref _, .ty _ => .isFalse fun e => nomatch e
  | .fn _, .non | .fn _, .bl _ | .fn _, .int _ | .fn _, .str _ | .fn _, .tup _ | .fn _, .ref _ | .fn _, .ty _ => .isFalse fun e => nomatch e
  | .ty _, .non | .ty _, .bl _ | .ty _, .int _ | .ty _, .str _ | .ty _, .tup _ | .ty _, .ref _ | .ty _, .fn _ => .isFalse fun e => nomatch e
def D.decs : (a b : List D) → Decidable (a = b)
  | [], [] => .isTrue rfl
  | x :: xs, y :: ys => match D.dec x y, D.decs xs ys with
    | .isTrue h, .isTrue k => .isTrue (by rw [h, k])
    | .isFalse h, _ => .isFalse fun e => h (by injection e)
    | _, .isFalse k => .isFalse fun e => k (by injection e)
  | [], _ :: _ => .isFalse fun e => nomatch e
  | _ :: _, [] => .isFalse fun e => nomatch e
end
instance : DecidableEq D := D.dec

/-- a mutable object -/
inductive DO where
  | lst (xs : List D) | rol (xs : List D) | dct (kvs : List (D × D)) | dlk (kvs : List (D × D))
abbrev Sto := List DO
abbrev Env := List (Option D)

/-- the longest list, tuple, dict -/
def LIM : Nat := 16777216

/-! ### the language -/
inductive Bop where | add | sub | mul | fdiv | mod | pow
inductive Cop where | eq | ne | lt | le | gt | ge | is | isnot | mem | nmem
inductive Bi where | len | list | tuple | max | min | sum | any | all | int | bool | isinst | sortp | sortset | dict | sumv | minv
inductive Me where | append | get | setdefault | count
mutual
inductive Tg where
  | n (i : Nat) | t (ts : List Tg) | sub (o i : E)
inductive E where
  | var (i : Nat) | int (i : Int) | bl (b : Bool) | non | str (c : Nat) | ty (c : Nat) | fnv (f : Nat)
  | tup (es : List E) | lst (es : List E) | dct (kvs : List E)
  | bin (o : Bop) (a b : E) | neg (a : E) | not (a : E)
  | cmp (o : Cop) (a b : E) | chain (o1 o2 : Cop) (a b c : E)
  | and (a b : E) | or (a b : E) | ife (c a b : E)
  | idx (a b : E) | slc (a lo hi : E) | rev (a : E)
  | call (f : Nat) (es : List E) | callv (i : Nat) (es : List E)
  | bi (b : Bi) (es : List E) | meth (m : Me) (o : E) (es : List E)
  | lrng (es : List E) | trng (es : List E)
  | comp (vs : List Nat) (tg : Tg) (it : Itx) (cond : List E) (elt : E)
  | comp2 (vs vs1 : List Nat) (tg : Tg) (it : Itx) (tg1 : Tg) (it1 : Itx) (elt : E)
  | dcomp (vs : List Nat) (tg : Tg) (it : Itx) (k v : E)
inductive Itx where
  | ex (e : E) | rng (es : List E) | zip (a b : E) | enum (a : E) | enumz (a b : E) | items (a : E)
end
inductive S where
  | asg (tg : Tg) (e : E) | par (is : List Nat) (es : List E) | aug (i : Nat) (o : Bop) (e : E) | ex (e : E) | ret (e : E)
  | ife (c : E) (a b : List S) | for_ (tg : Tg) (it : Itx) (body : List S) | while_ (c : E) (body : List S)
def E.isNon : E → Bool
  | .non => true
  | _ => false
structure Def where
  np : Nat
  ns : Nat
  body : List S

/-! ### the monad -/
def M (α : Type) := Sto → Option (α × Sto)
namespace M
variable {α β : Type}
def pure (a : α) : M α := fun st => some (a, st)
def fail : M α := fun _ => none
def bind (m : M α) (f : α → M β) : M β := fun st => match m st with
  | some (a, st') => f a st'
  | none => none
def lift (o : Option α) : M α := fun st => match o with
  | some a => some (a, st)
  | none => none
/-- read the store -/
def rd (f : Sto → Option α) : M α := fun st => match f st with
  | some a => some (a, st)
  | none => none
end M
instance : Monad M where
  pure := M.pure
  bind := M.bind
def alloc (o : DO) : M D := fun st => some (.ref st.length, st ++ [o])
def put (n : Nat) (o : DO) : M Unit := fun st => some ((), st.set n o)

/-! ### values -/
/-- dicts, and what else the proofs may leave out -/
def XON : Bool := false
/-- tuples as keys -/
def XK : Bool := true
/-- data without identity, of bounded depth -/
def okd : Nat → D → Bool
  | 0, _ => false
  | n + 1, .tup xs => xs.all (okd n)
  | _ + 1, .non | _ + 1, .bl _ | _ + 1, .int _ | _ + 1, .str _ => true
  | _ + 1, _ => false
/-- keys -/
def okk : Nat → D → Bool
  | 0, _ => false
  | n + 1, .tup xs => xs.all (okk n)
  | _ + 1, .int _ => true
  | _ + 1, _ => false
def flat : D → Bool
  | .non | .bl _ | .int _ | .str _ => true
  | _ => false
def b2i (b : Bool) : Int := if b then 1 else 0
mutual
/-- == of data -/
def eqv : D → D → Bool
  | .non, .non => true
  | .bl a, .bl b => a == b
  | .int a, .int b => a == b
  | .bl a, .int b => b2i a == b
  | .int a, .bl b => a == b2i b
  | .str a, .str b => a == b
  | .tup xs, .tup ys => eqvs xs ys
  | _, _ => false
def eqvs : List D → List D → Bool
  | [], [] => true
  | x :: xs, y :: ys => eqv x y && eqvs xs ys
  | _, _ => false
end
def isKeyT : D → Bool
  | .tup _ => true
  | _ => false
/-- the list at n -/
def getL (st : Sto) (n : Nat) : Option (List D) := match st[n]? with
  | some (.lst xs) => some xs
  | some (.rol xs) => some xs
  | _ => none
def getD (st : Sto) (n : Nat) : Option (List (D × D)) := match st[n]? with
  | some (.dct kvs) => some kvs
  | some (.dlk kvs) => some kvs
  | _ => none
def getDX (st : Sto) (n : Nat) : Option (List (D × D)) := if XON = true then getD st n else none
/-- a tuple of any items against the empty one -/
def eqTup : D → D → Option Bool
  | .tup xs, .tup [] => if XON = true then some xs.isEmpty else none
  | _, _ => none
def pyEq (st : Sto) : D → D → Option Bool
  | .ref m, .ref n => match getL st m, getL st n with
    | some xs, some ys => if xs.all (okd 20) && ys.all (okd 20) then some (eqvs xs ys) else none
    | none, none => match getDX st m, getDX st n with
      | some kvs, some [] => some kvs.isEmpty
      | some [], some kvs => some kvs.isEmpty
      | _, _ => none
    | _, _ => none
  | x, y => if okd 20 x && okd 20 y then some (eqv x y) else eqTup x y
def hasD (kvs : List (D × D)) (k : D) : Bool := kvs.any fun p => decide (p.1 = k)
/-- keys that are no tuples -/
def plainK : D → Bool
  | .int _ => true
  | _ => false
/-- k may be asked of, or put into, this dict -/
def keyFor (kvs : List (D × D)) (k : D) : Bool := okk 8 k && (XK || plainK k) && match kvs with
  | [] => true
  | p :: _ => isKeyT p.1 == isKeyT k
def inFor (kvs : List (D × D)) (x : D) : Bool := keyFor kvs x && isKeyT x
/-- x in y -/
def pyIn (st : Sto) (x : D) : D → Option Bool
  | .tup ys => if flat x && ys.all flat then some (ys.any fun y => eqv y x) else none
  | .ref n => match getL st n with
    | some ys => if okd 20 x && ys.all (okd 20) then some (ys.any fun y => eqv y x) else none
    | none => match getD st n with
      | some kvs => if inFor kvs x then some (hasD kvs x) else none
      | none => none
  | _ => none
def pyIs : D → D → Option Bool
  | x, .non => some (decide (x = .non))
  | .bl a, .bl b => some (decide (a = b))
  | _, _ => none
mutual
/-- < of data of one shape -/
def ltv : D → D → Option Bool
  | .int a, .int b => some (decide (a < b))
  | .tup xs, .tup ys => ltvs xs ys
  | _, _ => none
def ltvs : List D → List D → Option Bool
  | [], [] => some false
  | [], _ :: _ => some true
  | _ :: _, [] => some false
  | x :: xs, y :: ys => if x = y then ltvs xs ys else ltv x y
end
def ltT (xs ys : List D) : Option Bool := if XON = true then ltvs xs ys else none
def cop (st : Sto) : Cop → D → D → Option D
  | .eq, x, y => (pyEq st x y).map D.bl
  | .ne, x, y => (pyEq st x y).map fun b => D.bl !b
  | .lt, .int a, .int b => some (.bl (decide (a < b)))
  | .lt, .tup xs, .tup ys => (ltT xs ys).map D.bl
  | .le, .int a, .int b => some (.bl (decide (a ≤ b)))
  | .gt, .int a, .int b => some (.bl (decide (b < a)))
  | .ge, .int a, .int b => some (.bl (decide (b ≤ a)))
  | .is, x, y => (pyIs x y).map D.bl
  | .isnot, x, y => (pyIs x y).map fun b => D.bl !b
  | .mem, x, y => (pyIn st x y).map D.bl
  | .nmem, x, y => (pyIn st x y).map fun b => D.bl !b
  | _, _, _ => none
def mulOk (a b : Int) : Bool := (decide (-(2 ^ 64) < a) && decide (a < 2 ^ 64)) || (decide (-(2 ^ 64) < b) && decide (b < 2 ^ 64))
def bop : Bop → D → D → M D
  | .add, .int a, .int b => pure (.int (a + b))
  | .add, .tup xs, .tup ys => if xs.length + ys.length ≤ LIM then pure (.tup (xs ++ ys)) else M.fail
  | .add, .ref m, .ref n => fun st => match st[m]?, st[n]? with
    | some (.lst xs), some (.lst ys) => if xs.length + ys.length ≤ LIM then alloc (.lst (xs ++ ys)) st else none
    | _, _ => none
  | .sub, .int a, .int b => pure (.int (a - b))
  | .mul, .int a, .int b => if mulOk a b then pure (.int (a * b)) else M.fail
  | .mul, .tup xs, .int k => if 2 ≤ k ∧ k ≤ 1000 ∧ xs.length ≤ 1000 ∧ xs ≠ [] then pure (.tup (List.replicate k.toNat xs).flatten) else M.fail
  | .fdiv, .int a, .int b => if 0 < b ∧ b < 1073741824 then pure (.int (a / b)) else M.fail
  | .mod, .int a, .int b => if 0 < b then pure (.int (a % b)) else M.fail
  | .pow, .int a, .int b => if 0 ≤ b ∧ b ≤ 1000000 ∧ a.natAbs < 2 ^ 64 then pure (.int (a ^ b.toNat)) else M.fail
  | _, _, _ => M.fail
def atI {α : Type} (xs : List α) (i : Int) : Option α := if 0 ≤ i then xs[i.toNat]? else if -(xs.length : Int) ≤ i then xs[(i + xs.length).toNat]? else none
def ixI (n : Nat) (i : Int) : Option Nat := if 0 ≤ i then (if i < n then some i.toNat else none) else if -(n : Int) ≤ i then some (i + n).toNat else none
def clip (n : Nat) (i : Int) : Nat := if i < 0 then (i + (n : Int)).toNat else min i.toNat n
def cut {α : Type} (xs : List α) (lo hi : Option Int) : List α :=
  let a := match lo with | none => 0 | some i => clip xs.length i
  let b := match hi with | none => xs.length | some i => clip xs.length i
  (xs.drop a).take (b - a)
def lookD (kvs : List (D × D)) (k : D) : Option D := (kvs.find? fun p => decide (p.1 = k)).map (·.2)
def putD (kvs : List (D × D)) (k v : D) : List (D × D) := if hasD kvs k then kvs.map fun p => if p.1 = k then (p.1, v) else p else kvs ++ [(k, v)]
def getItem (x i : D) : M D := match x, i with
  | .tup xs, .int k => M.lift (atI xs k)
  | .ref n, i => M.rd fun st => match getL st n, i with
    | some xs, .int k => atI xs k
    | _, _ => match getD st n with
      | some kvs => if keyFor kvs i then lookD kvs i else none
      | none => none
  | _, _ => M.fail
def setItem (x i v : D) : M Unit := match x with
  | .ref n => fun st => match st[n]?, i with
    | some (.lst xs), .int k => match ixI xs.length k with
      | some j => some ((), st.set n (.lst (xs.set j v)))
      | none => none
    | some (.dct kvs), k => if keyFor kvs k && decide (kvs.length < LIM) then some ((), st.set n (.dct (putD kvs k v))) else none
    | _, _ => none
  | _ => M.fail
def setDct (x i v : D) : M Unit := match x with
  | .ref n => fun st => match st[n]? with
    | some (.dct kvs) => if keyFor kvs i && decide (kvs.length < LIM) then some ((), st.set n (.dct (putD kvs i v))) else none
    | _ => none
  | _ => M.fail
def dctFill (L : D) : List D → M Unit
  | [] => pure ()
  | k :: v :: r => M.bind (setDct L k v) fun _ => dctFill L r
  | _ => M.fail
def optI : D → Option (Option Int)
  | .int i => some (some i)
  | _ => none
def slice (x : D) (lo hi : Option Int) : M D := match x with
  | .tup xs => pure (.tup (cut xs lo hi))
  | .ref n => fun st => match getL st n with
    | some xs => alloc (.lst (cut xs lo hi)) st
    | none => none
  | _ => M.fail
def revs (x : D) : M D := match x with
  | .tup xs => pure (.tup xs.reverse)
  | .ref n => fun st => match getL st n with
    | some xs => alloc (.lst xs.reverse) st
    | none => none
  | _ => M.fail
def intsOf : List D → Option (List Int)
  | [] => some []
  | .int i :: r => (intsOf r).map (i :: ·)
  | _ => none
def boolsOf : List D → Option (List Bool)
  | [] => some []
  | .bl i :: r => (boolsOf r).map (i :: ·)
  | _ => none
/-- class codes: 0 int, 1 bool, 2 str, 3 list, 4 tuple -/
def isTy (st : Sto) : D → Nat → Option Bool
  | .non, _ => some false
  | .bl _, c => some (c == 0 || c == 1)
  | .int _, c => some (c == 0)
  | .str _, c => some (c == 2)
  | .tup _, c => some (c == 4)
  | .ref n, c => match getL st n with
    | some _ => some (c == 3)
    | none => none
  | _, _ => none
def isInst (st : Sto) (x : D) : D → Option Bool
  | .ty c => isTy st x c
  | .tup [.ty c, .ty e] => match isTy st x c, isTy st x e with
    | some a, some b => some (a || b)
    | _, _ => none
  | _ => none
def maxI : Int → List Int → Int
  | a, [] => a
  | a, b :: r => maxI (if b > a then b else a) r
def minI : Int → List Int → Int
  | a, [] => a
  | a, b :: r => minI (if b < a then b else a) r
/-- insertion of pairs (size, tuple of intsOf) -/
def insP (x : D) : List D → List D
  | [] => [x]
  | y :: r => match ltv y x with
    | some true => y :: insP x r
    | _ => if x = y then y :: insP x r else x :: y :: r
def sortP : List D → List D
  | [] => []
  | x :: r => insP x (sortP r)
def pairOk : D → Bool
  | .tup [.int _, .tup xs] => (intsOf xs).isSome
  | _ => false
def insI (x : Int) : List Int → List Int
  | [] => [x]
  | y :: r => if x < y then x :: y :: r else if x = y then y :: r else y :: insI x r
def sortSet : List Int → List Int
  | [] => []
  | x :: r => insI x (sortSet r)
def minP : D → List D → Option D
  | a, [] => some a
  | a, b :: r => match ltv b a with
    | some true => minP b r
    | some false => minP a r
    | none => none
def dictOf : List D → List (D × D) → Option (List (D × D))
  | [], acc => some acc
  | .tup [k, v] :: r, acc => if keyFor acc k then dictOf r (putD acc k v) else none
  | _, _ => none
/-- keys and values in turn -/
def dictUp : List D → List (D × D) → Option (List (D × D))
  | [], acc => some acc
  | k :: v :: r, acc => if keyFor acc k then dictUp r (putD acc k v) else none
  | _, _ => none
def lenF : List D → M D
  | [.tup ys] => pure (.int ys.length)
  | [.ref n] => M.rd fun st => match getL st n with
    | some ys => some (.int ys.length)
    | none => (getDX st n).map fun kvs => .int kvs.length
  | _ => M.fail
def listF (xs : List D) : M D := fun st => match xs with
  | [.tup ys] => alloc (.lst ys) st
  | [.ref n] => match getL st n with
    | some ys => alloc (.lst ys) st
    | none => match getDX st n with
      | some kvs => alloc (.lst (kvs.map (·.1))) st
      | none => none
  | _ => none
def tupleF : List D → M D
  | [.tup ys] => pure (.tup ys)
  | [.ref n] => M.rd fun st => (getL st n).map D.tup
  | _ => M.fail
def maxF : List D → M D
  | [.int a, .int b] => pure (.int (if b > a then b else a))
  | [.ref n] => M.rd fun st => match (getL st n).bind intsOf with
    | some (a :: r) => some (.int (maxI a r))
    | _ => none
  | _ => M.fail
def minF : List D → M D
  | [.int a, .int b] => pure (.int (if b < a then b else a))
  | [.ref n] => M.rd fun st => match (getL st n).bind intsOf with
    | some (a :: r) => some (.int (minI a r))
    | _ => none
  | _ => M.fail
def anyF : List D → M D
  | [.ref n] => M.rd fun st => ((getL st n).bind boolsOf).map fun bs => .bl (bs.any id)
  | _ => M.fail
def allF : List D → M D
  | [.ref n] => M.rd fun st => ((getL st n).bind boolsOf).map fun bs => .bl (bs.all id)
  | _ => M.fail
def intF : List D → M D
  | [.int a] => pure (.int a)
  | [.bl b] => pure (.int (b2i b))
  | _ => M.fail
def boolF : List D → M D
  | [.int a] => pure (.bl (a != 0))
  | [.bl b] => pure (.bl b)
  | _ => M.fail
def isinstF : List D → M D
  | [x, t] => M.rd fun st => (isInst st x t).map D.bl
  | _ => M.fail
def sortpF (xs : List D) : M D := fun st => match xs with
  | [.ref n] => match getL st n with
    | some ys => if ys.all pairOk then alloc (.lst (sortP ys)) st else none
    | none => none
  | _ => none
def sortsetF (xs : List D) : M D := fun st => match xs with
  | [.tup ys] => match intsOf ys with
    | some is => if is.length ≤ 60 then alloc (.lst ((sortSet is).map D.int)) st else none
    | none => none
  | _ => none
def dictF (xs : List D) : M D := fun st => match xs with
  | [.ref n] => match (getL st n).bind (dictOf · []) with
    | some kvs => alloc (.dct kvs) st
    | none => none
  | _ => none
def sumvF : List D → M D
  | [.ref n] => M.rd fun st => ((getDX st n).bind fun kvs => intsOf (kvs.map (·.2))).map fun is => .int is.sum
  | _ => M.fail
def minvF : List D → M D
  | [.ref n] => M.rd fun st => match (getDX st n).map fun kvs => kvs.map (·.2) with
    | some (a :: r) => if (a :: r).all pairOk then minP a r else none
    | _ => none
  | _ => M.fail
def bifn : Bi → List D → M D
  | .len => lenF | .list => listF | .tuple => tupleF | .max => maxF | .min => minF | .any => anyF | .all => allF | .int => intF | .bool => boolF
  | .isinst => isinstF | .sortp => sortpF | .sortset => sortsetF | .dict => dictF | .sumv => sumvF | .minv => minvF | .sum => fun _ => M.fail
def append (n : Nat) (v : D) : M Unit := fun st => match st[n]? with
  | some (.lst xs) => if xs.length < LIM then some ((), st.set n (.lst (xs ++ [v]))) else none
  | _ => none
def dictGet (n : Nat) (k dv : D) : M D := M.rd fun st => match getD st n with
  | some kvs => if keyFor kvs k then some ((lookD kvs k).getD dv) else none
  | none => none
/-- the method's own kind of object -/
def mchk (st : Sto) : Me → D → Option Unit
  | .append, .ref n | .count, .ref n => (getL st n).map fun _ => ()
  | .get, .ref n | .setdefault, .ref n => (getD st n).map fun _ => ()
  | _, _ => none
def method (m : Me) (x : D) (xs : List D) : M D := match m, x, xs with
  | .append, .ref n, [v] => M.bind (append n v) fun _ => pure .non
  | .get, .ref n, [k, d] => dictGet n k d
  | .setdefault, .ref n, [k, d] => fun st => match st[n]? with
    | some (.dct kvs) => if inFor kvs k && decide (kvs.length < LIM) then (match lookD kvs k with
      | some v => some (v, st)
      | none => some (d, st.set n (.dct (kvs ++ [(k, d)])))) else none
    | _ => none
  | .count, .ref n, [.bl b] => M.rd fun st => ((getL st n).bind boolsOf).map fun bs => .int (bs.count b)
  | _, _, _ => M.fail

/-! ### what is walked -/
inductive DIt where
  | tup (ds : List D) | lst (n : Nat) | rng (lo c : Int) (n : Nat) | keys (n : Nat) | items (n : Nat) | zip (a b : DIt) | enum (a : DIt)
/-- the item at turn i: no word (past the end), the end, an item -/
def seqAt (xs : List D) (i : Nat) : Option (Option D) := if i ≤ xs.length then some xs[i]? else none
def DIt.get : DIt → Nat → Sto → Option (Option D)
  | .tup ds, i, _ => seqAt ds i
  | .lst n, i, st => (getL st n).bind fun xs => seqAt xs i
  | .rng lo c n, i, _ => some (if i < n then some (.int (lo + c * (i : Nat))) else none)
  | .keys n, i, st => match st[n]? with
    | some (.dlk kvs) => seqAt (kvs.map (·.1)) i
    | _ => none
  | .items n, i, st => match st[n]? with
    | some (.dlk kvs) => seqAt (kvs.map fun p => .tup [p.1, p.2]) i
    | _ => none
  | .zip a b, i, st => match a.get i st, b.get i st with
    | some (some x), some (some y) => some (some (.tup [x, y]))
    | some none, some _ => some none
    | some (some _), some none => some none
    | _, _ => none
  | .enum a, i, st => (a.get i st).map fun o => o.map fun x => .tup [.int (i : Nat), x]
def lock (n : Nat) : M Unit := fun st => match st[n]? with
  | some (.dct kvs) => if (kvs.all fun p => isKeyT p.1) = true then some ((), st.set n (.dlk kvs)) else none
  | _ => none
def unlock : DIt → M Unit
  | .keys n | .items n => fun st => match st[n]? with
    | some (.dlk kvs) => some ((), st.set n (.dct kvs))
    | _ => none
  | _ => pure ()
def seqIt : D → M DIt
  | .tup ds => pure (.tup ds)
  | .ref n => M.rd fun st => (getL st n).map fun _ => .lst n
  | _ => M.fail
def iterOf : D → M DIt
  | .tup ds => pure (.tup ds)
  | .ref n => fun st => match getL st n with
    | some _ => some (.lst n, st)
    | none => M.bind (lock n) (fun _ => pure (.keys n)) st
  | _ => M.fail
def itemsOf : D → M DIt
  | .ref n => M.bind (lock n) fun _ => pure (.items n)
  | _ => M.fail
def rngOk (i : Int) : Bool := decide (-(2 ^ 40) ≤ i) && decide (i ≤ 2 ^ 40)
def rangeOf : List D → M DIt
  | [.int j] => if rngOk j then pure (.rng 0 1 j.toNat) else M.fail
  | [.int i, .int j] => if rngOk i && rngOk j then pure (.rng i 1 (j - i).toNat) else M.fail
  | [.int i, .int j, .int c] => if rngOk i && rngOk j && decide (c = -1) then pure (.rng i (-1) (i - j).toNat) else M.fail
  | _ => M.fail
def rangeL : List D → Option (List D)
  | [.int j] => if 0 ≤ j ∧ j ≤ LIM then some ((List.range j.toNat).map fun (k : Nat) => .int (k : Int)) else none
  | [.int i, .int j] => if 0 ≤ i ∧ i ≤ LIM ∧ 0 ≤ j ∧ j ≤ LIM then some ((List.range (j - i).toNat).map fun (k : Nat) => .int (i + (k : Int))) else none
  | _ => none

/-! ### loops -/
inductive Fl where
  | nx (σ : Env) | rt (d : D)
def forGo (it : DIt) (step : D → Env → M Fl) : Nat → Nat → Env → M Fl
  | 0, _, _ => M.fail
  | w + 1, i, σ => fun st => match it.get i st with
    | none => none
    | some none => some (.nx σ, st)
    | some (some d) => match step d σ st with
      | none => none
      | some (.rt v, st') => some (.rt v, st')
      | some (.nx σ', st') => forGo it step w (i + 1) σ' st'
def compGo (it : DIt) (step : D → M Unit) : Nat → Nat → M Unit
  | 0, _ => M.fail
  | w + 1, i => fun st => match it.get i st with
    | none => none
    | some none => some ((), st)
    | some (some d) => match step d st with
      | none => none
      | some ((), st') => compGo it step w (i + 1) st'
def whileGo (c : Env → M D) (body : Env → M Fl) : Nat → Env → M Fl
  | 0, _ => M.fail
  | w + 1, σ => fun st => match c σ st with
    | some (.bl true, st1) => match body σ st1 with
      | none => none
      | some (.rt v, st') => some (.rt v, st')
      | some (.nx σ', st') => whileGo c body w σ' st'
    | some (.bl false, st1) => some (.nx σ, st1)
    | _ => none
def wipe (σ : Env) : List Nat → Env
  | [] => σ
  | v :: vs => (wipe σ vs).set v none

/-! ### the evaluator: w turns of loops, cf the calls -/
def tst : D → M Bool
  | .bl b => pure b
  | _ => M.fail
section
variable (w : Nat) (cf : Nat → List D → M D)
mutual
def ev : E → Env → M D
  | .var i, σ => M.lift (σ[i]?.bind id)
  | .int i, _ => pure (.int i)
  | .bl b, _ => pure (.bl b)
  | .non, _ => pure .non
  | .str c, _ => pure (.str c)
  | .ty c, _ => pure (.ty c)
  | .fnv f, _ => pure (.fn f)
  | .tup es, σ => M.bind (evs es σ) fun xs => pure (.tup xs)
  | .lst es, σ => M.bind (evs es σ) fun xs => alloc (.lst xs)
  | .dct es, σ => M.bind (alloc (.dct [])) fun L => M.bind (evs es σ) fun xs => M.bind (dctFill L xs) fun _ => pure L
  | .bin o a b, σ => M.bind (ev a σ) fun x => M.bind (ev b σ) fun y => bop o x y
  | .neg a, σ => M.bind (ev a σ) fun x => match x with
    | .int i => pure (.int (-i))
    | _ => M.fail
  | .not a, σ => M.bind (ev a σ) fun x => M.bind (tst x) fun b => pure (.bl !b)
  | .cmp o a b, σ => M.bind (ev a σ) fun x => M.bind (ev b σ) fun y => M.rd fun st => cop st o x y
  | .chain o1 o2 a b c, σ => M.bind (ev a σ) fun x => M.bind (ev b σ) fun y => M.bind (M.rd fun st => cop st o1 x y) fun r => M.bind (tst r) fun k =>
      if k = true then M.bind (ev c σ) fun z => M.rd fun st => cop st o2 y z else pure (.bl false)
  | .and a b, σ => M.bind (ev a σ) fun x => M.bind (tst x) fun k => if k = true then ev b σ else pure (.bl false)
  | .or a b, σ => M.bind (ev a σ) fun x => M.bind (tst x) fun k => if k = true then pure (.bl true) else ev b σ
  | .ife c a b, σ => M.bind (ev c σ) fun x => M.bind (tst x) fun k => if k = true then ev a σ else ev b σ
  | .idx a b, σ => M.bind (ev a σ) fun x => M.bind (ev b σ) fun y => getItem x y
  | .slc a lo hi, σ => M.bind (ev a σ) fun x => M.bind (if lo.isNon = true then pure none else M.bind (ev lo σ) fun v => M.lift (optI v)) fun l => M.bind (if hi.isNon = true then pure none else M.bind (ev hi σ) fun v => M.lift (optI v)) fun h => slice x l h
  | .rev a, σ => M.bind (ev a σ) fun x => revs x
  | .call f es, σ => M.bind (evs es σ) fun xs => cf f xs
  | .callv i es, σ => M.bind (M.lift (σ[i]?.bind id)) fun g => M.bind (evs es σ) fun xs => match g with
    | .fn f => cf f xs
    | _ => M.fail
  | .bi b es, σ => M.bind (evs es σ) fun xs => bifn b xs
  | .meth m o es, σ => M.bind (ev o σ) fun x => M.bind (M.rd fun st => mchk st m x) fun _ => M.bind (evs es σ) fun xs => method m x xs
  | .lrng es, σ => M.bind (evs es σ) fun xs => M.bind (M.lift (rangeL xs)) fun ys => alloc (.lst ys)
  | .trng es, σ => M.bind (evs es σ) fun xs => M.bind (M.lift (rangeL xs)) fun ys => pure (.tup ys)
  | .comp vs tg it cond elt, σ => M.bind (evIt it σ) fun J => M.bind (alloc (.lst [])) fun L => match L with
    | .ref n => M.bind (compGo J (fun d => M.bind (asgn tg d (wipe σ vs)) fun σ1 => M.bind (tests cond σ1) fun k => if k = true then M.bind (ev elt σ1) fun y => append n y else pure ()) w 0) fun _ =>
        M.bind (unlock J) fun _ => pure (.ref n)
    | _ => M.fail
  | .comp2 vs vs1 tg it tg1 it1 elt, σ => M.bind (evIt it σ) fun J => M.bind (alloc (.lst [])) fun L => match L with
    | .ref n => M.bind (compGo J (fun d => M.bind (asgn tg d (wipe σ vs)) fun σ1 => M.bind (evIt it1 σ1) fun J1 =>
          M.bind (compGo J1 (fun d1 => M.bind (asgn tg1 d1 (wipe σ1 vs1)) fun σ2 => M.bind (ev elt σ2) fun y => append n y) w 0) fun _ => unlock J1) w 0) fun _ =>
        M.bind (unlock J) fun _ => pure (.ref n)
    | _ => M.fail
  | .dcomp vs tg it k v, σ => M.bind (evIt it σ) fun J => M.bind (alloc (.dct [])) fun L => match L with
    | .ref n => M.bind (compGo J (fun d => M.bind (asgn tg d (wipe σ vs)) fun σ1 => M.bind (ev k σ1) fun x => M.bind (ev v σ1) fun y => setItem (.ref n) x y) w 0) fun _ =>
        M.bind (unlock J) fun _ => pure (.ref n)
    | _ => M.fail
def evs : List E → Env → M (List D)
  | [], _ => pure []
  | e :: es, σ => M.bind (ev e σ) fun x => M.bind (evs es σ) fun xs => pure (x :: xs)
def evIt : Itx → Env → M DIt
  | .ex e, σ => M.bind (ev e σ) fun x => iterOf x
  | .rng es, σ => M.bind (evs es σ) fun xs => rangeOf xs
  | .zip a b, σ => M.bind (ev a σ) fun x => M.bind (ev b σ) fun y => M.bind (seqIt x) fun i => M.bind (seqIt y) fun j => pure (.zip i j)
  | .enum a, σ => M.bind (ev a σ) fun x => M.bind (seqIt x) fun i => pure (.enum i)
  | .enumz a b, σ => M.bind (ev a σ) fun x => M.bind (ev b σ) fun y => M.bind (seqIt x) fun i => M.bind (seqIt y) fun j => pure (.enum (.zip i j))
  | .items a, σ => M.bind (ev a σ) fun x => itemsOf x
def asgn : Tg → D → Env → M Env
  | .n i, d, σ => pure (σ.set i (some d))
  | .t ts, d, σ => match d with
    | .tup ds => if ds.length = ts.length then asgns ts ds σ else M.fail
    | _ => M.fail
  | .sub o i, d, σ => M.bind (ev o σ) fun x => M.bind (ev i σ) fun k => M.bind (setItem x k d) fun _ => pure σ
def asgns : List Tg → List D → Env → M Env
  | t :: ts, d :: ds, σ => M.bind (asgn t d σ) fun σ1 => asgns ts ds σ1
  | [], [], σ => pure σ
  | _, _, _ => M.fail
def tests : List E → Env → M Bool
  | [], _ => pure true
  | c :: _, σ => M.bind (ev c σ) fun x => tst x
end
def augD (i : Nat) (o : Bop) (σ : Env) : D → D → M Fl
  | .int a, .int b => M.bind (bop o (.int a) (.int b)) fun z => pure (.nx (σ.set i (some z)))
  | _, _ => M.fail
def setAll : List Nat → List D → Env → Env
  | i :: is, d :: ds, σ => setAll is ds (σ.set i (some d))
  | _, _, σ => σ
mutual
def evS : S → Env → M Fl
  | .asg tg e, σ => M.bind (ev w cf e σ) fun x => M.bind (asgn w cf tg x σ) fun σ1 => pure (.nx σ1)
  | .par is es, σ => M.bind (evs w cf es σ) fun xs => pure (.nx (setAll is xs σ))
  | .aug i o e, σ => M.bind (M.lift (σ[i]?.bind id)) fun x => M.bind (ev w cf e σ) fun y => augD i o σ x y
  | .ex e, σ => M.bind (ev w cf e σ) fun _ => pure (.nx σ)
  | .ret e, σ => M.bind (ev w cf e σ) fun x => pure (.rt x)
  | .ife c a b, σ => M.bind (ev w cf c σ) fun x => M.bind (tst x) fun k => if k = true then evSs a σ else evSs b σ
  | .for_ tg it body, σ => M.bind (evIt w cf it σ) fun J => M.bind (forGo J (fun d σ => M.bind (asgn w cf tg d σ) fun σ1 => evSs body σ1) w 0 σ) fun r => M.bind (unlock J) fun _ => pure r
  | .while_ c body, σ => whileGo (fun σ => ev w cf c σ) (fun σ => evSs body σ) w σ
def evSs : List S → Env → M Fl
  | [], σ => pure (.nx σ)
  | s :: r, σ => M.bind (evS s σ) fun f => match f with
    | .nx σ1 => evSs r σ1
    | .rt d => pure (.rt d)
end
end
/-- a call, k deep: G the defs -/
def callF (G : Nat → Option Def) (w : Nat) : Nat → Nat → List D → M D
  | 0, _, _ => M.fail
  | k + 1, f, xs => match G f with
    | none => M.fail
    | some d => if xs.length = d.np then M.bind (evSs w (callF G w k) d.body (xs.map some ++ List.replicate (d.ns - d.np) none)) fun r => match r with
        | .nx _ => pure .non
        | .rt v => pure v
      else M.fail
end TL

namespace TL
def d_memory : Def := ⟨1, 1,
  [(.ife (.cmp .eq (.idx (.var 0) (.int 0)) (.str 2))
    [(.ret (.int 1))]
    []),
  (.ret (.ife (.cmp .eq (.idx (.var 0) (.int 0)) (.str 1)) (.bin .add (.idx (.var 0) (.int 1)) (.int 1)) (.idx (.var 0) (.neg (.int 1)))))]⟩
def d_widest : Def := ⟨1, 2,
  [(.ret (.bi .max [(.bin .add (.lst [(.int 1)]) (.comp [1] (.n 1) (.ex (.var 0)) [] (.call 24 [(.var 1)])))]))]⟩
def d_initial : Def := ⟨1, 3,
  [(.asg (.n 1) (.lst [])),
  (.for_ (.n 2) (.ex (.var 0))
    [(.ife (.cmp .eq (.idx (.var 2) (.int 0)) (.str 2))
      [(.ex (.meth .append (.var 1) [(.int 0)]))]
      [(.ex (.meth .append (.var 1) [(.ife (.cmp .eq (.idx (.var 2) (.int 0)) (.str 3)) (.tup []) (.call 24 [(.var 2)]))]))])]),
  (.ret (.bi .tuple [(.var 1)]))]⟩
def d_later : Def := ⟨3, 7,
  [(.asg (.n 3) (.lst [])),
  (.for_ (.t [(.n 4), (.n 5)]) (.zip (.var 0) (.var 1))
    [(.ife (.cmp .eq (.idx (.var 4) (.int 0)) (.str 2))
      [(.ex (.meth .append (.var 3) [(.var 5)]))]
      [(.ife (.cmp .eq (.idx (.var 4) (.int 0)) (.str 3))
        [(.ex (.meth .append (.var 3) [(.bi .tuple [(.comp [6] (.n 6) (.ex (.var 5)) [(.cmp .lt (.bin .add (.var 6) (.var 2)) (.idx (.var 4) (.int 2)))] (.bin .add (.var 6) (.var 2)))])]))]
        [(.ex (.meth .append (.var 3) [(.bi .min [(.call 24 [(.var 4)]), (.bin .add (.var 5) (.var 2))])]))])])]),
  (.ret (.bi .tuple [(.var 3)]))]⟩
def d_decide_ : Def := ⟨2, 2,
  [(.ife (.cmp .eq (.idx (.var 0) (.int 0)) (.str 0))
    [(.ret (.ife (.cmp .ge (.var 1) (.idx (.var 0) (.int 1))) (.tup [(.bl true), (.int 0)]) (.tup [(.bl false), (.var 1)])))]
    []),
  (.ife (.cmp .eq (.idx (.var 0) (.int 0)) (.str 1))
    [(.ret (.tup [(.cmp .gt (.var 1) (.idx (.var 0) (.int 1))), (.int 0)]))]
    []),
  (.ife (.cmp .eq (.idx (.var 0) (.int 0)) (.str 2))
    [(.ret (.tup [(.cmp .eq (.var 1) (.idx (.var 0) (.int 2))), (.bin .mod (.bin .add (.var 1) (.int 1)) (.idx (.var 0) (.int 1)))]))]
    []),
  (.ret (.ife (.cmp .lt (.bi .len [(.var 1)]) (.idx (.var 0) (.int 1))) (.tup [(.bl true), (.bin .add (.var 1) (.tup [(.int 0)]))]) (.tup [(.bl false), (.var 1)])))]⟩
def d_read : Def := ⟨2, 6,
  [(.asg (.n 2) (.bi .list [(.var 1)])),
  (.for_ (.t [(.n 3), (.n 4)]) (.enum (.var 0))
    [(.asg (.t [(.n 5), (.sub (.var 2) (.var 3))]) (.call 27 [(.var 4), (.idx (.var 1) (.var 3))])),
    (.ife (.not (.var 5))
      [(.ret (.tup [(.bi .tuple [(.var 2)]), (.var 3)]))]
      [])]),
  (.ret (.tup [(.bi .tuple [(.var 2)]), .non]))]⟩
def d_step : Def := ⟨3, 3,
  [(.ret (.call 28 [(.var 0), (.call 26 [(.var 0), (.var 1), (.var 2)])]))]⟩
def d_search : Def := ⟨3, 16,
  [(.asg (.t [(.n 3), (.n 4)]) (.call 28 [(.var 0), (.call 25 [(.var 0)])])),
  (.asg (.t [(.n 5), (.n 6)]) (.call 28 [(.var 1), (.call 25 [(.var 1)])])),
  (.ife (.callv 2 [(.cmp .is (.var 4) .non), (.cmp .is (.var 6) .non)])
    [(.ret (.tup [(.int 0)]))]
    []),
  (.par [7, 8] [(.lst [(.tup [(.tup [(.int 0)]), (.var 3), (.var 5)])]), (.dct [(.tup [(.var 3), (.var 5)]), (.bl true)])]),
  (.asg (.n 9) (.bi .max [(.call 40 [(.var 0)]), (.call 40 [(.var 1)])])),
  (.while_ (.cmp .ne (.var 7) (.lst []))
    [(.asg (.n 10) (.lst [])),
    (.for_ (.t [(.n 11), (.n 3), (.n 5)]) (.ex (.var 7))
      [(.for_ (.n 12) (.rng [(.int 1), (.bin .add (.var 9) (.int 1))])
        [(.asg (.t [(.n 13), (.n 4)]) (.call 41 [(.var 0), (.var 3), (.var 12)])),
        (.asg (.t [(.n 14), (.n 6)]) (.call 41 [(.var 1), (.var 5), (.var 12)])),
        (.asg (.n 15) (.bin .add (.var 11) (.tup [(.bin .add (.idx (.var 11) (.neg (.int 1))) (.var 12))]))),
        (.ife (.callv 2 [(.cmp .is (.var 4) .non), (.cmp .is (.var 6) .non)])
          [(.ret (.var 15))]
          []),
        (.ife (.cmp .nmem (.tup [(.var 13), (.var 14)]) (.var 8))
          [(.asg (.sub (.var 8) (.tup [(.var 13), (.var 14)])) (.bl true)),
          (.ex (.meth .append (.var 10) [(.tup [(.var 15), (.var 13), (.var 14)])]))]
          [])])]),
    (.asg (.n 7) (.var 10))]),
  (.ret .non)]⟩
def d_unlike : Def := ⟨2, 2,
  [(.ret (.cmp .ne (.var 0) (.var 1)))]⟩
def d_first_difference : Def := ⟨2, 2,
  [(.ret (.call 42 [(.var 0), (.var 1), (.fnv 43)]))]⟩
def d_law_cell : Def := ⟨2, 2,
  [(.ife (.cmp .lt (.var 1) (.bi .len [(.var 0)]))
    [(.ret (.idx (.var 0) (.var 1)))]
    []),
  (.ife (.cmp .eq (.bi .len [(.var 0)]) (.int 0))
    [(.ret (.bin .add (.bin .mul (.int 7919) (.var 1)) (.int 101)))]
    []),
  (.ret (.bin .add (.bin .mod (.idx (.var 0) (.bin .mod (.var 1) (.bi .len [(.var 0)]))) (.int 1000003)) (.bin .mul (.int 7919) (.var 1))))]⟩
def d_law_digits : Def := ⟨4, 10,
  [(.asg (.n 4) (.tup [(.int 2147483647), (.int 2147483629), (.int 2147483587), (.int 2147483579), (.int 2147483563), (.int 2147483549), (.int 2147483543), (.int 2147483497)])),
  (.asg (.n 5) (.call 5 [(.var 0), (.var 1)])),
  (.asg (.n 6) (.ife (.cmp .ge (.var 5) (.bin .pow (.int 10) (.int 18))) (.var 5) (.int 0))),
  (.asg (.n 7) (.lst [])),
  (.for_ (.n 8) (.rng [(.var 2)])
    [(.asg (.n 9) (.bin .mul (.bin .mod (.var 5) (.idx (.var 4) (.bin .mod (.var 8) (.int 8)))) (.bin .add (.int 48271) (.bin .mul (.bin .mul (.int 2) (.var 8)) (.var 8))))),
    (.asg (.n 9) (.bin .add (.bin .add (.var 9) (.bin .mul (.bin .mul (.int 7919) (.bin .add (.var 8) (.int 1))) (.bin .add (.var 8) (.int 1)))) (.bin .mul (.int 104729) (.var 1)))),
    (.asg (.n 9) (.bin .mod (.var 9) (.idx (.var 4) (.bin .mod (.bin .add (.bin .mul (.int 3) (.var 8)) (.var 1)) (.int 8))))),
    (.asg (.n 9) (.bin .mod (.bin .mul (.bin .mul (.var 9) (.var 9)) (.var 9)) (.idx (.var 4) (.bin .mod (.bin .add (.var 8) (.int 5)) (.int 8))))),
    (.ife (.cmp .gt (.var 6) (.int 0))
      [(.asg (.n 9) (.var 6))]
      []),
    (.ex (.meth .append (.var 7) [(.bin .mod (.var 9) (.var 3))])),
    (.asg (.n 6) (.bin .fdiv (.var 6) (.var 3)))]),
  (.ret (.var 7))]⟩
def d_law_weight : Def := ⟨1, 1,
  [(.ife (.cmp .eq (.idx (.var 0) (.int 0)) (.str 3))
    [(.ret (.bin .mul (.idx (.var 0) (.int 1)) (.idx (.var 0) (.int 2))))]
    []),
  (.ret (.ife (.cmp .eq (.idx (.var 0) (.int 0)) (.str 1)) (.bin .add (.idx (.var 0) (.int 1)) (.int 1)) (.idx (.var 0) (.int 1))))]⟩
def d_law_filter : Def := ⟨1, 2,
  [(.ife (.cmp .eq (.bin .mod (.idx (.var 0) (.int 0)) (.int 4)) (.int 0))
    [(.ret (.tup [(.str 0), (.bin .add (.int 1) (.bin .mod (.idx (.var 0) (.int 1)) (.int 8)))]))]
    []),
  (.ife (.cmp .eq (.bin .mod (.idx (.var 0) (.int 0)) (.int 4)) (.int 1))
    [(.ret (.tup [(.str 1), (.bin .add (.int 1) (.bin .mod (.idx (.var 0) (.int 1)) (.int 8)))]))]
    []),
  (.ife (.cmp .eq (.bin .mod (.idx (.var 0) (.int 0)) (.int 4)) (.int 2))
    [(.asg (.n 1) (.bin .add (.int 2) (.bin .mod (.idx (.var 0) (.int 1)) (.int 3)))),
    (.ret (.tup [(.str 2), (.var 1), (.bin .mod (.idx (.var 0) (.int 2)) (.var 1))]))]
    []),
  (.ret (.tup [(.str 3), (.bin .add (.int 1) (.bin .mod (.idx (.var 0) (.int 1)) (.int 3))), (.bin .add (.int 1) (.bin .mod (.idx (.var 0) (.int 2)) (.int 6)))]))]⟩
def d_law_pipeline : Def := ⟨3, 7,
  [(.par [3, 4] [(.tup []), (.var 2)]),
  (.for_ (.n 5) (.rng [(.bin .mod (.idx (.var 0) (.int 0)) (.bin .add (.var 1) (.int 1)))])
    [(.asg (.n 6) (.call 16 [(.slc (.var 0) (.bin .add (.int 1) (.bin .mul (.int 3) (.var 5))) (.bin .add (.int 4) (.bin .mul (.int 3) (.var 5))))])),
    (.ife (.cmp .le (.call 15 [(.var 6)]) (.var 4))
      [(.asg (.n 3) (.bin .add (.var 3) (.tup [(.var 6)]))),
      (.asg (.n 4) (.bin .fdiv (.var 4) (.call 15 [(.var 6)])))]
      [])]),
  (.ret (.var 3))]⟩
def d_law_kept : Def := ⟨2, 7,
  [(.asg (.n 2) (.lst [])),
  (.for_ (.t [(.n 3), (.n 4)]) (.enum (.var 1))
    [(.ife (.cmp .eq (.idx (.var 0) (.int 0)) (.str 0))
      [(.asg (.n 5) (.or (.cmp .eq (.var 2) (.lst [])) (.cmp .ge (.bin .sub (.var 4) (.idx (.var 2) (.neg (.int 1)))) (.idx (.var 0) (.int 1)))))]
      [(.ife (.cmp .eq (.idx (.var 0) (.int 0)) (.str 1))
        [(.asg (.n 5) (.or (.cmp .eq (.var 3) (.int 0)) (.cmp .gt (.bin .sub (.var 4) (.idx (.var 1) (.bin .sub (.var 3) (.int 1)))) (.idx (.var 0) (.int 1)))))]
        [(.ife (.cmp .eq (.idx (.var 0) (.int 0)) (.str 2))
          [(.asg (.n 5) (.cmp .eq (.bin .mod (.var 3) (.idx (.var 0) (.int 1))) (.idx (.var 0) (.int 2))))]
          [(.asg (.n 5) (.cmp .lt (.bi .len [(.comp [6] (.n 6) (.ex (.var 2)) [(.cmp .gt (.var 6) (.bin .sub (.var 4) (.idx (.var 0) (.int 2))))] (.var 6))]) (.idx (.var 0) (.int 1))))])])]),
    (.ife (.var 5)
      [(.ex (.meth .append (.var 2) [(.var 4)]))]
      [])]),
  (.ret (.var 2))]⟩
def d_law_result : Def := ⟨2, 4,
  [(.asg (.n 2) (.bi .list [(.var 1)])),
  (.for_ (.n 3) (.ex (.var 0))
    [(.asg (.n 2) (.call 33 [(.var 3), (.var 2)]))]),
  (.ret (.bi .tuple [(.var 2)]))]⟩
def d_law_reach : Def := ⟨1, 3,
  [(.asg (.n 1) (.int 1)),
  (.for_ (.n 2) (.ex (.var 0))
    [(.ife (.cmp .ne (.idx (.var 2) (.int 0)) (.str 2))
      [(.asg (.n 1) (.bi .max [(.var 1), (.bin .add (.idx (.var 2) (.neg (.int 1))) (.bi .int [(.cmp .eq (.idx (.var 2) (.int 0)) (.str 1))]))]))]
      [])]),
  (.ret (.var 1))]⟩
def d_law_logs_k05 : Def := ⟨2, 7,
  [(.asg (.n 2) (.lst [(.tup [(.int 0)])])),
  (.for_ (.n 3) (.rng [(.bin .sub (.var 0) (.int 1))])
    [(.asg (.n 4) (.lst [])),
    (.for_ (.n 5) (.ex (.var 2))
      [(.asg (.n 4) (.bin .add (.var 4) (.comp [6] (.n 6) (.rng [(.int 1), (.bin .add (.var 1) (.int 1))]) [] (.bin .add (.var 5) (.tup [(.bin .add (.idx (.var 5) (.neg (.int 1))) (.var 6))])))))]),
    (.asg (.n 2) (.var 4))]),
  (.ret (.var 2))]⟩
def d_law_small_filter : Def := ⟨1, 1,
  [(.ife (.cmp .eq (.idx (.var 0) (.int 0)) (.str 3))
    [(.ret (.tup [(.str 3), (.bi .min [(.int 2), (.idx (.var 0) (.int 1))]), (.bi .min [(.int 3), (.idx (.var 0) (.int 2))])]))]
    []),
  (.ret (.ife (.cmp .eq (.idx (.var 0) (.int 0)) (.str 2)) (.var 0) (.tup [(.idx (.var 0) (.int 0)), (.bin .add (.int 1) (.bin .mod (.idx (.var 0) (.int 1)) (.int 3)))])))]⟩
def d_law_k05 : Def := ⟨1, 11,
  [(.for_ (.n 1) (.rng [(.int 8)])
    [(.asg (.n 2) (.call 6 [(.var 0), (.var 1), (.int 60), (.int 27720)])),
    (.asg (.n 3) (.bi .tuple [(.comp [4] (.n 4) (.ex (.call 17 [(.var 2), (.int 2), (.int 60)])) [] (.call 53 [(.var 4)]))])),
    (.asg (.n 5) (.bi .tuple [(.comp [4] (.n 4) (.ex (.call 17 [(.slc (.var 2) (.int 20) .non), (.int 2), (.int 60)])) [] (.call 53 [(.var 4)]))])),
    (.par [6, 7] [(.bi .max [(.call 37 [(.var 3)]), (.call 37 [(.var 5)])]), .non]),
    (.for_ (.n 8) (.ex (.tup [(.int 1), (.int 2), (.int 3), (.int 4), (.int 5)]))
      [(.for_ (.n 9) (.ex (.call 52 [(.var 8), (.var 6)]))
        [(.ife (.and (.cmp .is (.var 7) .non) (.cmp .ne (.call 34 [(.var 3), (.var 9)]) (.call 34 [(.var 5), (.var 9)])))
          [(.asg (.n 7) (.var 9))]
          [])])]),
    (.asg (.n 10) (.call 44 [(.var 3), (.var 5)])),
    (.ife (.cmp .is (.var 7) .non)
      [(.ife (.and (.cmp .isnot (.var 10) .non) (.cmp .lt (.bi .len [(.var 10)]) (.int 6)))
        [(.ret (.bl false))]
        [])]
      [(.ife (.cmp .ne (.var 10) (.var 7))
        [(.ret (.bl false))]
        [])])]),
  (.ret (.cmp .eq (.call 44 [(.tup [(.tup [(.str 0), (.int 2)])]), (.tup [(.tup [(.str 1), (.int 1)])])]) (.tup [(.int 0), (.int 1), (.int 2)])))]⟩
def d_contains : Def := ⟨2, 2,
  [(.ret (.cmp .is (.call 56 [(.var 0), (.var 1)]) .non))]⟩
def d_counterexample : Def := ⟨2, 2,
  [(.ret (.call 42 [(.var 0), (.var 1), (.fnv 55)]))]⟩
def d_equal : Def := ⟨2, 2,
  [(.ret (.cmp .is (.call 44 [(.var 0), (.var 1)]) .non))]⟩
def d_influential : Def := ⟨2, 8,
  [(.par [2, 3] [(.call 31 [(.var 0), (.var 1)]), (.lst [])]),
  (.for_ (.t [(.n 4), (.n 5)]) (.enum (.var 1))
    [(.asg (.n 6) (.bi .tuple [(.comp [7] (.n 7) (.ex (.var 2)) [(.cmp .ne (.var 7) (.var 5))] (.var 7))])),
    (.ife (.cmp .ne (.call 31 [(.var 0), (.bin .add (.slc (.var 1) .non (.var 4)) (.slc (.var 1) (.bin .add (.var 4) (.int 1)) .non))]) (.var 6))
      [(.ex (.meth .append (.var 3) [(.var 4)]))]
      [])]),
  (.ret (.bi .tuple [(.var 3)]))]⟩
def d_keep : Def := ⟨2, 4,
  [(.ret (.bi .tuple [(.comp [2, 3] (.t [(.n 2), (.n 3)]) (.zip (.var 1) (.call 29 [(.var 0), (.var 1)])) [(.cmp .is (.var 3) .non)] (.var 2))]))]⟩
def d_law_log : Def := ⟨2, 5,
  [(.asg (.n 2) (.idx (.lst [(.int 2), (.int 4), (.int 10), (.int 30)]) (.bin .mod (.idx (.var 0) (.int 0)) (.int 4)))),
  (.asg (.n 3) (.tup [(.bin .mod (.idx (.var 0) (.int 1)) (.int 50))])),
  (.for_ (.n 4) (.ex (.slc (.var 0) (.int 3) (.bin .add (.int 3) (.bin .mod (.idx (.var 0) (.int 2)) (.var 1)))))
    [(.asg (.n 3) (.bin .add (.var 3) (.tup [(.bin .add (.bin .add (.idx (.var 3) (.neg (.int 1))) (.int 1)) (.bin .mod (.var 4) (.var 2)))])))]),
  (.ret (.var 3))]⟩
def d_loses : Def := ⟨2, 2,
  [(.ret (.and (.var 1) (.not (.var 0))))]⟩
def d_run : Def := ⟨2, 7,
  [(.par [2, 3, 4] [(.lst []), (.call 25 [(.var 0)]), .non]),
  (.for_ (.n 5) (.ex (.var 1))
    [(.ife (.cmp .isnot (.var 4) .non)
      [(.asg (.n 3) (.call 26 [(.var 0), (.var 3), (.bin .sub (.var 5) (.var 4))]))]
      []),
    (.asg (.t [(.n 3), (.n 6)]) (.call 28 [(.var 0), (.var 3)])),
    (.ex (.meth .append (.var 2) [(.var 6)])),
    (.asg (.n 4) (.var 5))]),
  (.ret (.var 2))]⟩
def G : Nat → Option Def
  | 5 => some d_law_cell
  | 6 => some d_law_digits
  | 15 => some d_law_weight
  | 16 => some d_law_filter
  | 17 => some d_law_pipeline
  | 18 => some d_law_log
  | 24 => some d_memory
  | 25 => some d_initial
  | 26 => some d_later
  | 27 => some d_decide_
  | 28 => some d_read
  | 29 => some d_run
  | 31 => some d_keep
  | 33 => some d_law_kept
  | 34 => some d_law_result
  | 37 => some d_law_reach
  | 40 => some d_widest
  | 41 => some d_step
  | 42 => some d_search
  | 43 => some d_unlike
  | 44 => some d_first_difference
  | 45 => some d_equal
  | 52 => some d_law_logs_k05
  | 53 => some d_law_small_filter
  | 54 => some d_law_k05
  | 55 => some d_loses
  | 56 => some d_counterexample
  | 57 => some d_contains
  | 121 => some d_influential
  | _ => none
end TL

/-! The data and the store over the abstract heap. -/
namespace TL
open PySem PySem.Spec PyProof.Rows L2

/-- the texts by their codes -/
def symL : List Str := ["spaced", "fresh", "every", "limit", "0", "", "a", "ax", "3", "none", "A", "~", "Spaced", "any", "lost"]
def tyL : List String := ["int", "bool", "str", "list", "tuple"]

section
variable (K : PySem.W.Frag) (fa : Nat → Option Addr) (ρ : List Addr) (H : Hp)
mutual
/-- the value stands for the data -/
def RD : D → V → Prop
  | .non, v => v = .non
  | .bl b, v => v = .bl b
  | .int i, v => v = .int i
  | .str c, v => ∃ s, symL[c]? = some s ∧ v = .str s
  | .tup xs, v => ∃ a vs, v = .ref a ∧ SqT K H a vs ∧ RDs xs vs
  | .ref n, v => ∃ a, ρ[n]? = some a ∧ v = .ref a
  | .fn f, v => ∃ a, fa f = some a ∧ v = .ref a
  | .ty c, v => ∃ t, tyL[c]? = some t ∧ v = .ty t
def RDs : List D → List V → Prop
  | [], vs => vs = []
  | x :: xs, vs => ∃ v r, vs = v :: r ∧ RD x v ∧ RDs xs r
end
end
/-- more tuples, more names -/
structure Gr (K : PySem.W.Frag) (ρ : List Addr) (H : Hp) (ρ' : List Addr) (H' : Hp) : Prop where
  pre : ∀ (n : Nat) (a : Addr), ρ[n]? = some a → ρ'[n]? = some a
  tup : ∀ (a : Addr) (xs : List V), SqT K H a xs → SqT K H' a xs
  frz : ∀ (a : Addr) (o : Obj) (u : HO), H a = some (.frz o u) → H' a = some (.frz o u)
section
variable {K : PySem.W.Frag} {fa : Nat → Option Addr} {ρ ρ1 ρ2 : List Addr} {H H1 H2 : Hp}
theorem Gr.refl : Gr K ρ H ρ H := ⟨fun _ _ h => h, fun _ _ h => h, fun _ _ _ h => h⟩
theorem Gr.trans (a : Gr K ρ H ρ1 H1) (b : Gr K ρ1 H1 ρ2 H2) : Gr K ρ H ρ2 H2 := ⟨fun n x h => b.pre n x (a.pre n x h), fun x xs h => b.tup x xs (a.tup x xs h), fun x o u h => b.frz x o u (a.frz x o u h)⟩
mutual
theorem RD.monoT (hp : ∀ (n : Nat) (a : Addr), ρ[n]? = some a → ρ1[n]? = some a) (ht : ∀ (a : Addr) (xs : List V), SqT K H a xs → SqT K H1 a xs) : ∀ {d : D} {v : V}, RD K fa ρ H d v → RD K fa ρ1 H1 d v
  | .non, _, h => h
  | .bl _, _, h => h
  | .int _, _, h => h
  | .str _, _, h => h
  | .tup xs, _, h => by
    obtain ⟨a, vs, e, q, r⟩ := h
    exact ⟨a, vs, e, ht _ _ q, RDs.monoT hp ht r⟩
  | .ref _, _, h => by
    obtain ⟨a, e, q⟩ := h
    exact ⟨a, hp _ _ e, q⟩
  | .fn _, _, h => h
  | .ty _, _, h => h
theorem RDs.monoT (hp : ∀ (n : Nat) (a : Addr), ρ[n]? = some a → ρ1[n]? = some a) (ht : ∀ (a : Addr) (xs : List V), SqT K H a xs → SqT K H1 a xs) : ∀ {ds : List D} {vs : List V}, RDs K fa ρ H ds vs → RDs K fa ρ1 H1 ds vs
  | [], _, h => h
  | _ :: _, _, h => by
    obtain ⟨v, r, e, q, t⟩ := h
    exact ⟨v, r, e, RD.monoT hp ht q, RDs.monoT hp ht t⟩
end
theorem RD.mono (g : Gr K ρ H ρ1 H1) {d : D} {v : V} (h : RD K fa ρ H d v) : RD K fa ρ1 H1 d v := RD.monoT g.pre g.tup h
theorem RDs.mono (g : Gr K ρ H ρ1 H1) {ds : List D} {vs : List V} (h : RDs K fa ρ H ds vs) : RDs K fa ρ1 H1 ds vs := RDs.monoT g.pre g.tup h
theorem RDs.cons {d : D} {v : V} {ds : List D} {vs : List V} (h : RD K fa ρ H d v) (t : RDs K fa ρ H ds vs) : RDs K fa ρ H (d :: ds) (v :: vs) := ⟨v, vs, rfl, h, t⟩
theorem RDs.nil : RDs K fa ρ H [] [] := rfl
theorem RDs.length : ∀ {ds : List D} {vs : List V}, RDs K fa ρ H ds vs → ds.length = vs.length
  | [], _, h => by cases h; rfl
  | _ :: _, _, h => by
    obtain ⟨v, r, rfl, _, t⟩ := h
    exact congrArg (· + 1) (RDs.length t)
theorem RDs.get : ∀ {ds : List D} {vs : List V} {i : Nat} {d : D}, RDs K fa ρ H ds vs → ds[i]? = some d → ∃ v, vs[i]? = some v ∧ RD K fa ρ H d v
  | [], _, _, _, _, e => by simp at e
  | x :: xs, _, 0, d, h, e => by
    obtain ⟨v, r, rfl, q, _⟩ := h
    simp only [List.getElem?_cons_zero, Option.some.injEq] at e
    subst e
    exact ⟨v, rfl, q⟩
  | x :: xs, _, i + 1, d, h, e => by
    obtain ⟨v, r, rfl, _, t⟩ := h
    exact RDs.get (i := i) t (by simpa using e)
theorem RDs.append : ∀ {ds : List D} {vs : List V} {es : List D} {us : List V}, RDs K fa ρ H ds vs → RDs K fa ρ H es us → RDs K fa ρ H (ds ++ es) (vs ++ us)
  | [], _, _, _, h, t => by cases h; exact t
  | _ :: _, _, _, _, h, t => by
    obtain ⟨v, r, rfl, q, s⟩ := h
    exact RDs.cons q (RDs.append s t)
theorem RDs.set {x : D} {u : V} (q : RD K fa ρ H x u) : ∀ {ds : List D} {vs : List V} (i : Nat), RDs K fa ρ H ds vs → RDs K fa ρ H (ds.set i x) (vs.set i u)
  | [], _, i, h => by cases h; exact rfl
  | _ :: _, _, 0, h => by
    obtain ⟨v, r, rfl, _, t⟩ := h
    exact RDs.cons q t
  | _ :: _, _, i + 1, h => by
    obtain ⟨v, r, rfl, p, t⟩ := h
    exact RDs.cons p (RDs.set q i t)
theorem RDs.take : ∀ {ds : List D} {vs : List V} (n : Nat), RDs K fa ρ H ds vs → RDs K fa ρ H (ds.take n) (vs.take n)
  | _, _, 0, _ => rfl
  | [], _, _ + 1, h => by cases h; exact rfl
  | _ :: _, _, n + 1, h => by
    obtain ⟨v, r, rfl, p, t⟩ := h
    exact RDs.cons p (RDs.take n t)
theorem RDs.drop : ∀ {ds : List D} {vs : List V} (n : Nat), RDs K fa ρ H ds vs → RDs K fa ρ H (ds.drop n) (vs.drop n)
  | _, _, 0, h => h
  | [], _, _ + 1, h => by cases h; exact rfl
  | _ :: _, _, n + 1, h => by
    obtain ⟨v, r, rfl, p, t⟩ := h
    exact RDs.drop n t
theorem RDs.reverse : ∀ {ds : List D} {vs : List V}, RDs K fa ρ H ds vs → RDs K fa ρ H ds.reverse vs.reverse
  | [], _, h => by cases h; exact rfl
  | _ :: _, _, h => by
    obtain ⟨v, r, rfl, p, t⟩ := h
    rw [List.reverse_cons, List.reverse_cons]
    exact RDs.append (RDs.reverse t) (RDs.cons p rfl)
theorem RDs.rep {ds : List D} {vs : List V} (h : RDs K fa ρ H ds vs) : ∀ n : Nat, RDs K fa ρ H (List.replicate n ds).flatten (List.replicate n vs).flatten
  | 0 => rfl
  | n + 1 => by
    rw [List.replicate_succ, List.replicate_succ, List.flatten_cons, List.flatten_cons]
    exact RDs.append h (RDs.rep h n)
theorem RDs.nil_iff {ds : List D} {vs : List V} (h : RDs K fa ρ H ds vs) : ds = [] ↔ vs = [] := by
  have q := h.length
  constructor
  · rintro rfl
    exact List.length_eq_zero_iff.mp q.symm
  · rintro rfl
    exact List.length_eq_zero_iff.mp q
end

/-! ### dicts -/
/-- the dict at a, its entries as they stand: hash, key, value -/
def dHO (a : Addr) (raw : List (Int × V × V)) : HO := .ext fun h => (a == sysModules) = false ∧ raw.length ≤ sizeLine ∧
  ∃ o es ep, h.get? a = some o ∧ o.ExactDict ∧ o.data = .dict es ep ∧ Paired (fun (r : Int × V × V) (e : DictEntry) => e.hash = r.1 ∧ RelV r.2.1 e.key ∧ RelV r.2.2 e.val) raw es.toList

section
variable (K : PySem.W.Frag) (fa : Nat → Option Addr) (hs : D → Int) (ρ : List Addr) (H : Hp)
def RKs (kvs : List (D × D)) (raw : List (Int × V × V)) : Prop := Paired (fun (p : D × D) (r : Int × V × V) => r.1 = hs p.1 ∧ RD K fa ρ H p.1 r.2.1 ∧ RD K fa ρ H p.2 r.2.2) kvs raw
/-- what a dict's keys are -/
structure KvOk (kvs : List (D × D)) : Prop where
  ok : ∀ p ∈ kvs, okk 8 p.1 = true
  nd : (kvs.map (·.1)).Nodup
  one : ∀ p ∈ kvs, isKeyT p.1 = true
/-- the plain keys -/
def keyOf : D → Option Key
  | .int i => some (.inl i)
  | _ => none
def PKs (kvs : List (D × D)) (kk : List (Key × V)) : Prop := Paired (fun (p : D × D) (q : Key × V) => keyOf p.1 = some q.1 ∧ RD K fa ρ H p.2 q.2) kvs kk
def RO : DO → Addr → Prop
  | .lst xs, a => ∃ vs, H a = some (.lst vs) ∧ RDs K fa ρ H xs vs
  | .rol xs, a => ∃ vs, ((∃ o, H a = some (.frz o (.lst vs))) ∨ ∃ (o : Obj) (its : Array Value) (n : Nat), K.lookup a = some o ∧ o.cls = .type "list" ∧ o.dict = none ∧ o.data = .seq its n ∧ its.size ≤ sizeLine ∧ Vals vs its.toList) ∧ RDs K fa ρ H xs vs
  | .dct kvs, a => (∃ kk, H a = some (.dK kk) ∧ PKs K fa ρ H kvs kk ∧ kvs ≠ []) ∨ ∃ raw, H a = some (dHO a raw) ∧ RKs K fa hs ρ H kvs raw ∧ KvOk kvs
  | .dlk kvs, a => ∃ raw o, H a = some (.frz o (dHO a raw)) ∧ RKs K fa hs ρ H kvs raw ∧ KvOk kvs
def isRol : DO → Bool
  | .rol _ => true
  | _ => false
/-- the store -/
structure RH (st : Sto) : Prop where
  len : st.length = ρ.length
  obj : ∀ (n : Nat) (o : DO) (a : Addr), st[n]? = some o → ρ[n]? = some a → RO K fa hs ρ H o a
  inj : ∀ (n m : Nat) (o u : DO) (a : Addr), st[n]? = some o → st[m]? = some u → ρ[n]? = some a → ρ[m]? = some a → isRol o = false → isRol u = false → n = m
/-- the slots -/
structure RS (σd : Env) (σ : L2.St) : Prop where
  len : σd.length = σ.length
  get : ∀ (i : Nat) (d : D), σd[i]? = some (some d) → ∃ v : V, σ[i]? = some (some v) ∧ RD K fa ρ H d v
end
section
variable {K : PySem.W.Frag} {fa : Nat → Option Addr} {hs : D → Int} {ρ ρ1 ρ2 : List Addr} {H H1 H2 : Hp}
theorem RKs.monoT (hp : ∀ (n : Nat) (a : Addr), ρ[n]? = some a → ρ1[n]? = some a) (ht : ∀ (a : Addr) (xs : List V), SqT K H a xs → SqT K H1 a xs) {kvs : List (D × D)} {raw : List (Int × V × V)} (h : RKs K fa hs ρ H kvs raw) : RKs K fa hs ρ1 H1 kvs raw := Paired.mapP h fun _ _ q => ⟨q.1, q.2.1.monoT hp ht, q.2.2.monoT hp ht⟩
theorem PKs.monoT (hp : ∀ (n : Nat) (a : Addr), ρ[n]? = some a → ρ1[n]? = some a) (ht : ∀ (a : Addr) (xs : List V), SqT K H a xs → SqT K H1 a xs) {kvs : List (D × D)} {kk : List (Key × V)} (h : PKs K fa ρ H kvs kk) : PKs K fa ρ1 H1 kvs kk := Paired.mapP h fun _ _ q => ⟨q.1, q.2.monoT hp ht⟩
theorem RS.monoT (hp : ∀ (n : Nat) (a : Addr), ρ[n]? = some a → ρ1[n]? = some a) (ht : ∀ (a : Addr) (xs : List V), SqT K H a xs → SqT K H1 a xs) {σd : Env} {σ : L2.St} (h : RS K fa ρ H σd σ) : RS K fa ρ1 H1 σd σ := ⟨h.len, fun i d e => let ⟨v, q, r⟩ := h.get i d e; ⟨v, q, r.monoT hp ht⟩⟩
theorem RKs.mono (g : Gr K ρ H ρ1 H1) {kvs : List (D × D)} {raw : List (Int × V × V)} (h : RKs K fa hs ρ H kvs raw) : RKs K fa hs ρ1 H1 kvs raw := Paired.mapP h fun _ _ q => ⟨q.1, q.2.1.mono g, q.2.2.mono g⟩
theorem RS.mono (g : Gr K ρ H ρ1 H1) {σd : Env} {σ : L2.St} (h : RS K fa ρ H σd σ) : RS K fa ρ1 H1 σd σ := ⟨h.len, fun i d e => let ⟨v, q, r⟩ := h.get i d e; ⟨v, q, r.mono g⟩⟩
theorem RS.set {σd : Env} {σ : L2.St} (h : RS K fa ρ H σd σ) {d : D} {v : V} (i : Nat) (r : RD K fa ρ H d v) : RS K fa ρ H (σd.set i (some d)) (σ.set i (some v)) := by
  refine ⟨by rw [List.length_set, List.length_set, h.len], fun j x e => ?_⟩
  by_cases hij : i = j
  · subst hij
    by_cases hi : i < σd.length
    · rw [List.getElem?_set_self hi] at e
      cases e
      exact ⟨v, by rw [List.getElem?_set_self (by rw [← h.len]; exact hi)], r⟩
    · rw [List.getElem?_eq_none (by rw [List.length_set]; omega)] at e
      cases e
  · rw [List.getElem?_set_ne hij] at e ⊢
    exact h.get j x e
theorem RS.wipe {σd : Env} {σ : L2.St} (h : RS K fa ρ H σd σ) : ∀ vs : List Nat, RS K fa ρ H (TL.wipe σd vs) (L2.wipe σ vs)
  | [] => h
  | v :: vs => by
    have q := RS.wipe h vs
    refine ⟨by show (List.set _ _ _).length = (List.set _ _ _).length; rw [List.length_set, List.length_set, q.len], fun j x e => ?_⟩
    have e' : ((TL.wipe σd vs).set v none)[j]? = some (some x) := e
    show ∃ u, ((L2.wipe σ vs).set v none)[j]? = some (some u) ∧ _
    by_cases hij : v = j
    · subst hij
      by_cases hi : v < (TL.wipe σd vs).length
      · rw [List.getElem?_set_self hi] at e'
        cases e'
      · rw [List.getElem?_eq_none (by rw [List.length_set]; omega)] at e'
        cases e'
    · rw [List.getElem?_set_ne hij] at e' ⊢
      exact q.get j x e'
theorem Gr.laid {p : Addr} {o : HO} (h : H p = none) : Gr K ρ H ρ (upd H p o) := by
  refine ⟨fun _ _ e => e, fun a xs q => ?_, fun a z u q => by rw [upd_ne (ne_of_none q h)]; exact q⟩
  rcases q with (q | ⟨u, q⟩) | q
  · exact .inl (.inl (by rw [upd_ne (ne_of_none q h)]; exact q))
  · exact .inl (.inr ⟨u, by rw [upd_ne (ne_of_none q h)]; exact q⟩)
  · exact .inr q
theorem Gr.push {p : Addr} : Gr K ρ H (ρ ++ [p]) H := ⟨fun n a e => by rw [List.getElem?_append_left (List.getElem?_eq_some_iff.mp e).1]; exact e, fun _ _ q => q, fun _ _ _ q => q⟩
/-- a write at an object that is no tuple -/
theorem Gr.write {p : Addr} {o u : HO} (h : H p = some u) (hu : ∀ xs, u ≠ .tup xs) (hf : ∀ o w, u ≠ .frz o w) : Gr K ρ H ρ (upd H p o) := by
  refine ⟨fun _ _ e => e, fun a xs q => ?_, fun a z w q => by rw [upd_ne (ne_of q h (Ne.symm (hf z w)))]; exact q⟩
  rcases q with (q | ⟨z, q⟩) | q
  · exact .inl (.inl (by rw [upd_ne (ne_of q h (Ne.symm (hu xs)))]; exact q))
  · exact .inl (.inr ⟨z, by rw [upd_ne (ne_of q h (Ne.symm (hf z _)))]; exact q⟩)
  · exact .inr q
/-- the tuples stand through any write at what is none -/
theorem tup_write {p : Addr} {o u : HO} (h : H p = some u) (hu : ∀ xs, u ≠ .tup xs) (hf : ∀ o xs, u ≠ .frz o (.tup xs)) (a : Addr) (xs : List V) (q : SqT K H a xs) : SqT K (upd H p o) a xs := by
  rcases q with (q | ⟨z, q⟩) | q
  · exact .inl (.inl (by rw [upd_ne (ne_of q h (Ne.symm (hu xs)))]; exact q))
  · exact .inl (.inr ⟨z, by rw [upd_ne (ne_of q h (Ne.symm (hf z xs)))]; exact q⟩)
  · exact .inr q
/-- an object's reading from its own cell and the tuples -/
theorem RO.monoT {o : DO} {a : Addr} (hp : ∀ (n : Nat) (a : Addr), ρ[n]? = some a → ρ1[n]? = some a) (ht : ∀ (a : Addr) (xs : List V), SqT K H a xs → SqT K H1 a xs) (e : H1 a = H a) (h : RO K fa hs ρ H o a) : RO K fa hs ρ1 H1 o a := by
  cases o with
  | lst xs => obtain ⟨vs, q, r⟩ := h; exact ⟨vs, e.trans q, r.monoT hp ht⟩
  | rol xs =>
    obtain ⟨vs, q, r⟩ := h
    refine ⟨vs, ?_, r.monoT hp ht⟩
    rcases q with ⟨o, q⟩ | q
    · exact .inl ⟨o, e.trans q⟩
    · exact .inr q
  | dct kvs =>
    rcases h with ⟨kk, q, r, z⟩ | ⟨raw, q, r, k⟩
    · exact .inl ⟨kk, e.trans q, PKs.monoT hp ht r, z⟩
    · exact .inr ⟨raw, e.trans q, r.monoT hp ht, k⟩
  | dlk kvs => obtain ⟨raw, o, q, r, k⟩ := h; exact ⟨raw, o, e.trans q, r.monoT hp ht, k⟩
theorem RO.mono {o : DO} {a : Addr} (g : Gr K ρ H ρ1 H1) (e : H1 a = H a) (h : RO K fa hs ρ H o a) : RO K fa hs ρ1 H1 o a := h.monoT g.pre g.tup e
/-- a read-only object stands whatever is done to what may be written -/
theorem RO.rolK {xs : List D} {a : Addr} {u : HO} (hp : ∀ (n : Nat) (a : Addr), ρ[n]? = some a → ρ1[n]? = some a) (ht : ∀ (a : Addr) (xs : List V), SqT K H a xs → SqT K H1 a xs) (e : ∀ b, b ≠ a → H1 b = H b) (hu : H a = some u) (hf : ∀ o vs, u ≠ .frz o (.lst vs)) (h : RO K fa hs ρ H (.rol xs) a) : RO K fa hs ρ1 H1 (.rol xs) a := by
  obtain ⟨vs, q, r⟩ := h
  refine ⟨vs, ?_, r.monoT hp ht⟩
  rcases q with ⟨o, q⟩ | q
  · rw [hu] at q; cases q; exact absurd rfl (hf _ _)
  · exact .inr q
theorem RO.some_of {o : DO} {a : Addr} (h : RO K fa hs ρ H o a) (hr : isRol o = false) : ∃ u, H a = some u := by
  cases o with
  | lst xs => obtain ⟨vs, q, r⟩ := h; exact ⟨_, q⟩
  | rol xs => cases hr
  | dct kvs =>
    rcases h with ⟨kk, q, r, z⟩ | ⟨raw, q, r, k⟩
    · exact ⟨_, q⟩
    · exact ⟨_, q⟩
  | dlk kvs => obtain ⟨raw, o, q, r, k⟩ := h; exact ⟨_, q⟩
theorem RH.get {st : Sto} {n : Nat} {a : Addr} (h : RH K fa hs ρ H st) (e : ρ[n]? = some a) : ∃ o, st[n]? = some o ∧ RO K fa hs ρ H o a := by
  have hn : n < st.length := by rw [h.len]; exact (List.getElem?_eq_some_iff.mp e).1
  exact ⟨st[n], List.getElem?_eq_getElem hn, h.obj n _ a (List.getElem?_eq_getElem hn) e⟩
/-- a new tuple, or any object that the store does not name -/
theorem RH.laid {st : Sto} {p : Addr} {o : HO} (h : RH K fa hs ρ H st) (hp : H p = none) : RH K fa hs ρ (upd H p o) st := by
  refine ⟨h.len, fun n u a e1 e2 => ?_, h.inj⟩
  have q := h.obj n u a e1 e2
  have g : Gr K ρ H ρ (upd H p o) := Gr.laid hp
  by_cases ha : a = p
  · cases u with
    | rol xs =>
      obtain ⟨vs, q, r⟩ := q
      refine ⟨vs, ?_, r.mono g⟩
      rcases q with ⟨o', q⟩ | q
      · rw [ha, hp] at q; cases q
      · exact .inr q
    | lst xs => obtain ⟨u, hu⟩ := q.some_of rfl; rw [ha, hp] at hu; cases hu
    | dct xs => obtain ⟨u, hu⟩ := q.some_of rfl; rw [ha, hp] at hu; cases hu
    | dlk xs => obtain ⟨u, hu⟩ := q.some_of rfl; rw [ha, hp] at hu; cases hu
  · exact q.mono g (upd_ne ha)
/-- a new object of the store -/
theorem RH.alloc {st : Sto} {p : Addr} {u : HO} {o : DO} (h : RH K fa hs ρ H st) (hp : H p = none) (ho : RO K fa hs (ρ ++ [p]) (upd H p u) o p) : RH K fa hs (ρ ++ [p]) (upd H p u) (st ++ [o]) := by
  have h1 := h.laid (o := u) hp
  have low : ∀ {n : Nat} {x : DO}, (st ++ [o])[n]? = some x → (n < st.length ∧ st[n]? = some x) ∨ (n = st.length ∧ x = o) := fun {n x} e => by
    by_cases hn : n < st.length
    · exact .inl ⟨hn, by rw [List.getElem?_append_left hn] at e; exact e⟩
    · have hl := (List.getElem?_eq_some_iff.mp e).1
      rw [List.length_append] at hl
      have : n = st.length := by simp at hl; omega
      subst this
      rw [List.getElem?_append_right (Nat.le_refl _), Nat.sub_self] at e
      cases e
      exact .inr ⟨rfl, rfl⟩
  have lowA : ∀ {n : Nat} {a : Addr}, n < st.length → (ρ ++ [p])[n]? = some a → ρ[n]? = some a := fun {n a} hn e => by
    rw [List.getElem?_append_left (by rw [← h.len]; exact hn)] at e; exact e
  have newA : ∀ {a : Addr}, (ρ ++ [p])[st.length]? = some a → a = p := fun {a} e => by
    rw [h.len, List.getElem?_append_right (Nat.le_refl _), Nat.sub_self] at e
    cases e; rfl
  have fresh : ∀ {n : Nat} {x : DO} {a : Addr}, st[n]? = some x → ρ[n]? = some a → isRol x = false → a ≠ p := fun {n x a} e1 e2 hr z => by
    obtain ⟨u', hu⟩ := (h.obj n x a e1 e2).some_of hr
    rw [z, hp] at hu; cases hu
  refine ⟨by rw [List.length_append, List.length_append, h.len]; rfl, fun n x a e1 e2 => ?_, fun n m x y a e1 e2 e3 e4 r1 r2 => ?_⟩
  · rcases low e1 with ⟨hn, e⟩ | ⟨rfl, rfl⟩
    · exact (h1.obj n x a e (lowA hn e2)).mono Gr.push rfl
    · rw [newA e2]; exact ho
  · rcases low e1 with ⟨hn, e⟩ | ⟨rfl, rfl⟩
    · rcases low e2 with ⟨hm, e'⟩ | ⟨rfl, rfl⟩
      · exact h.inj n m x y a e e' (lowA hn e3) (lowA hm e4) r1 r2
      · exact absurd (newA e4) (fresh e (lowA hn e3) r1)
    · rcases low e2 with ⟨hm, e'⟩ | ⟨rfl, rfl⟩
      · exact absurd (newA e3) (fresh e' (lowA hm e4) r2)
      · rfl
/-- an object of the store is changed -/
theorem RH.write {st : Sto} {n : Nat} {a : Addr} {o o' : DO} {u u' : HO} (h : RH K fa hs ρ H st) (e1 : st[n]? = some o) (e2 : ρ[n]? = some a) (hr : isRol o = false) (hr' : isRol o' = false) (hu : H a = some u)
    (ht : ∀ xs, u ≠ .tup xs) (hf : ∀ o xs, u ≠ .frz o (.tup xs)) (hl : ∀ o xs, u ≠ .frz o (.lst xs)) (ho : RO K fa hs ρ (upd H a u') o' a) : RH K fa hs ρ (upd H a u') (st.set n o') := by
  have tw : ∀ (b : Addr) (xs : List V), SqT K H b xs → SqT K (upd H a u') b xs := tup_write hu ht hf
  have hn : n < st.length := (List.getElem?_eq_some_iff.mp e1).1
  have low : ∀ {m : Nat} {x : DO}, (st.set n o')[m]? = some x → (m = n ∧ x = o') ∨ (m ≠ n ∧ st[m]? = some x) := fun {m x} e => by
    by_cases hm : n = m
    · subst hm
      rw [List.getElem?_set_self hn] at e
      cases e; exact .inl ⟨rfl, rfl⟩
    · rw [List.getElem?_set_ne hm] at e
      exact .inr ⟨Ne.symm hm, e⟩
  refine ⟨by rw [List.length_set]; exact h.len, fun m x b q1 q2 => ?_, fun m k x y b q1 q2 q3 q4 r1 r2 => ?_⟩
  · rcases low q1 with ⟨rfl, rfl⟩ | ⟨hm, q⟩
    · rw [e2] at q2; cases q2; exact ho
    · have hx := h.obj m x b q q2
      by_cases hb : b = a
      · subst hb
        by_cases hrx : isRol x = true
        · cases x with
          | rol xs => exact RO.rolK (fun _ _ z => z) tw (fun c hc => upd_ne hc) hu hl hx
          | _ => cases hrx
        · exact absurd (h.inj m n x o b q e1 q2 e2 (by simpa using hrx) hr) hm
      · exact hx.monoT (fun _ _ z => z) tw (upd_ne hb)
  · rcases low q1 with ⟨rfl, rfl⟩ | ⟨hm, q⟩
    · rcases low q2 with ⟨rfl, rfl⟩ | ⟨hk, q'⟩
      · rfl
      · exact h.inj _ k o y b e1 q' q3 q4 hr r2
    · rcases low q2 with ⟨rfl, rfl⟩ | ⟨hk, q'⟩
      · exact h.inj m _ x o b q e1 q3 q4 r1 hr
      · exact h.inj m k x y b q q' q3 q4 r1 r2
end
end TL

/-! Values' operations: what the readings of the hand layer ask, from the evaluator's answer. -/
namespace TL
open PySem PySem.Spec PyProof.Rows L2

/-- the written part, the defs' places, the keys' hashes -/
structure LC where
  K : PySem.W.Frag
  fa : Nat → Option Addr
  hs : D → Int
abbrev LC.d (c : LC) : List Addr → Hp → D → V → Prop := RD c.K c.fa
abbrev LC.ds (c : LC) : List Addr → Hp → List D → List V → Prop := RDs c.K c.fa
abbrev LC.h (c : LC) : List Addr → Hp → Sto → Prop := RH c.K c.fa c.hs
abbrev LC.s (c : LC) : List Addr → Hp → Env → L2.St → Prop := RS c.K c.fa
/-- what follows, from the evaluator's end -/
def Then (c : LC) (ρ : List Addr) (H : Hp) (d : D) (st' : Sto) (Q : VK) : Prop := ∀ v H' ρ', Gr c.K ρ H ρ' H' → c.h ρ' H' st' → c.d ρ' H' d v → Q v H'

theorem bindS {α β : Type} {m : M α} {f : α → M β} {st st' : Sto} {b : β} (h : M.bind m f st = some (b, st')) : ∃ a st1, m st = some (a, st1) ∧ f a st1 = some (b, st') := by
  unfold M.bind at h
  cases hm : m st with
  | none => rw [hm] at h; cases h
  | some r =>
    obtain ⟨a, st1⟩ := r
    rw [hm] at h
    exact ⟨a, st1, rfl, h⟩
theorem pureS {α : Type} {a b : α} {st st' : Sto} (h : (pure a : M α) st = some (b, st')) : a = b ∧ st = st' := by
  have h' : some (a, st) = some (b, st') := h
  cases h'
  exact ⟨rfl, rfl⟩
theorem liftS {α : Type} {o : Option α} {b : α} {st st' : Sto} (h : M.lift o st = some (b, st')) : o = some b ∧ st = st' := by
  unfold M.lift at h
  cases o with
  | none => cases h
  | some a => cases h; exact ⟨rfl, rfl⟩
theorem rdS {α : Type} {f : Sto → Option α} {b : α} {st st' : Sto} (h : M.rd f st = some (b, st')) : f st = some b ∧ st = st' := by
  unfold M.rd at h
  cases hf : f st with
  | none => rw [hf] at h; cases h
  | some a => rw [hf] at h; cases h; exact ⟨rfl, rfl⟩
theorem failS {α : Type} {b : α} {st st' : Sto} (h : (M.fail : M α) st = some (b, st')) : False := by cases h
theorem iteS {α : Type} {p : Prop} [Decidable p] {m : M α} {b : α} {st st' : Sto} (h : (if p then m else M.fail) st = some (b, st')) : p ∧ m st = some (b, st') := by
  by_cases hp : p
  · rw [if_pos hp] at h; exact ⟨hp, h⟩
  · rw [if_neg hp] at h; cases h
theorem allocS {o : DO} {d : D} {st st' : Sto} (h : alloc o st = some (d, st')) : d = .ref st.length ∧ st' = st ++ [o] := by cases h; exact ⟨rfl, rfl⟩

theorem sizeLIM : sizeLine = LIM := sizeLine_eq
section
variable {c : LC} {X : Cx} {ρ : List Addr} {H : Hp} {st st' : Sto} {d : D} {Q : VK}

/-- a list of the store, to be read -/
theorem RH.list {xs : List D} {n : Nat} {a : Addr} (h : c.h ρ H st) (e : getL st n = some xs) (ea : ρ[n]? = some a) : ∃ vs, SqL c.K H a vs ∧ c.ds ρ H xs vs := by
  unfold getL at e
  cases hn : st[n]? with
  | none => rw [hn] at e; cases e
  | some o =>
    rw [hn] at e
    have q := h.obj n o a hn ea
    cases o with
    | lst ys => cases e; obtain ⟨vs, q, r⟩ := q; exact ⟨vs, .inl (.inl q), r⟩
    | rol ys =>
      cases e
      obtain ⟨vs, q, r⟩ := q
      rcases q with ⟨o, q⟩ | q
      · exact ⟨vs, .inl (.inr ⟨o, q⟩), r⟩
      · exact ⟨vs, .inr q, r⟩
    | dct kvs => cases e
    | dlk kvs => cases e
theorem RH.lst {xs : List D} {n : Nat} {a : Addr} (h : c.h ρ H st) (e : st[n]? = some (.lst xs)) (ea : ρ[n]? = some a) : ∃ vs, H a = some (.lst vs) ∧ c.ds ρ H xs vs := h.obj n _ a e ea
/-- a new list is laid -/
theorem new_lst {xs : List D} {vs : List V} (h : c.h ρ H st) (r : c.ds ρ H xs vs) (q : Then c ρ H (.ref st.length) (st ++ [.lst xs]) Q) : ∀ p, H p = none → Q (.ref p) (upd H p (.lst vs)) := by
  intro p hp
  have g : Gr c.K ρ H (ρ ++ [p]) (upd H p (.lst vs)) := (Gr.push).trans (Gr.laid hp)
  refine q _ _ (ρ ++ [p]) g (h.alloc hp ⟨vs, upd_same, RDs.mono g r⟩) ⟨p, ?_, rfl⟩
  rw [h.len, List.getElem?_append_right (Nat.le_refl _), Nat.sub_self]
  rfl
theorem new_tup {xs : List D} {vs : List V} (h : c.h ρ H st) (r : c.ds ρ H xs vs) (q : Then c ρ H (.tup xs) st Q) : ∀ p, H p = none → Q (.ref p) (upd H p (.tup vs)) := by
  intro p hp
  have g : Gr c.K ρ H ρ (upd H p (.tup vs)) := Gr.laid hp
  exact q _ _ ρ g (h.laid hp) ⟨p, vs, rfl, .inl (.inl upd_same), RDs.mono g r⟩
/-- the value is at hand -/
theorem Then.here {v : V} (q : Then c ρ H d st Q) (h : c.h ρ H st) (r : c.d ρ H d v) : Q v H := q v H ρ Gr.refl h r

/-! ### a op b -/
def bopP : Bop → Operator
  | .add => .Add | .sub => .Sub | .mul => .Mult | .fdiv => .FloorDiv | .mod => .Mod | .pow => .Pow
def bopR (K : PySem.W.Frag) : Bop → R2
  | .add => fun x y H Q => rI0 (fun i j => .int (i + j)) x y H Q ∨ (rCatA K x y H Q ∨ rCat x y H Q)
  | .sub => rI0 fun i j => .int (i - j)
  | .mul => fun x y H Q => rI CMul (fun i j => .int (i * j)) x y H Q ∨ rRepT K x y H Q
  | .fdiv => rI CDiv fun i j => .int (i / j)
  | .mod => rI (fun _ j => 0 < j) fun i j => .int (i % j)
  | .pow => rI CPow fun i j => .int (i ^ j.toNat)
theorem bop_op (o : Bop) : OpR X (binaryOp (bopP o)) (bopR X.K o) := by
  cases o with
  | add => exact op_add.or (op_catA.or op_cat)
  | sub => exact op_sub
  | mul => exact op_mul.or op_repT
  | fdiv => exact op_fdiv
  | mod => exact op_mod
  | pow => exact op_pow
theorem bop_ok {o : Bop} {x y : D} {vx vy : V} (h : c.h ρ H st) (rx : c.d ρ H x vx) (ry : c.d ρ H y vy) (e : bop o x y st = some (d, st')) (q : Then c ρ H d st' Q) : bopR c.K o vx vy H Q := by
  cases o with
  | add =>
    cases x with
    | int a =>
      cases y with
      | int b =>
        obtain ⟨rfl, rfl⟩ := pureS e
        cases rx; cases ry
        exact .inl ⟨a, b, rfl, rfl, q.here h rfl⟩
      | _ => cases e
    | tup xs =>
      cases y with
      | tup ys =>
        obtain ⟨hz, e⟩ := iteS e
        obtain ⟨rfl, rfl⟩ := pureS e
        obtain ⟨a, vs, rfl, ha, ra⟩ := rx
        obtain ⟨b, us, rfl, hb, rb⟩ := ry
        refine .inr (.inl ⟨a, b, vs, us, rfl, rfl, ha, hb, ?_, fun z => ?_, fun z1 z2 => ?_, fun z1 z2 => ?_⟩)
        · rw [← ra.length, ← rb.length, sizeLIM]; exact hz
        · have z' := ra.nil_iff.mpr z
          subst z'
          exact q.here h ⟨b, us, rfl, hb, rb⟩
        · have z' := rb.nil_iff.mpr z2
          subst z'
          rw [List.append_nil] at q
          exact q.here h ⟨a, vs, rfl, ha, ra⟩
        · exact new_tup h (RDs.append ra rb) q
      | _ => cases e
    | ref m =>
      cases y with
      | ref n =>
        have e' : (match st[m]?, st[n]? with
          | some (.lst xs), some (.lst ys) => if xs.length + ys.length ≤ LIM then alloc (.lst (xs ++ ys)) st else none
          | _, _ => none) = some (d, st') := e
        split at e'
        · rename_i xs ys hm hn
          split at e'
          · rename_i hz
            obtain ⟨rfl, rfl⟩ := allocS e'
            obtain ⟨a, ea, rfl⟩ := rx
            obtain ⟨b, eb, rfl⟩ := ry
            obtain ⟨vs, ha, ra⟩ := h.lst hm ea
            obtain ⟨us, hb, rb⟩ := h.lst hn eb
            exact .inr (.inr ⟨a, b, vs, us, rfl, rfl, ha, hb, by rw [← ra.length, ← rb.length, sizeLIM]; exact hz, new_lst h (RDs.append ra rb) q⟩)
          · cases e'
        · cases e'
      | _ => cases e
    | _ => cases y <;> cases e
  | sub =>
    cases x with
    | int a =>
      cases y with
      | int b =>
        obtain ⟨rfl, rfl⟩ := pureS e
        cases rx; cases ry
        exact ⟨a, b, rfl, rfl, q.here h rfl⟩
      | _ => cases e
    | _ => cases y <;> cases e
  | mul =>
    cases x with
    | int a =>
      cases y with
      | int b =>
        obtain ⟨hz, e⟩ := iteS e
        obtain ⟨rfl, rfl⟩ := pureS e
        cases rx; cases ry
        refine .inl ⟨a, b, rfl, rfl, ?_, q.here h rfl⟩
        unfold mulOk at hz
        simp only [Bool.or_eq_true, Bool.and_eq_true, decide_eq_true_eq] at hz
        exact hz
      | _ => cases e
    | tup xs =>
      cases y with
      | int k =>
        obtain ⟨⟨h1, h2, h3, h4⟩, e⟩ := iteS e
        obtain ⟨rfl, rfl⟩ := pureS e
        obtain ⟨a, vs, rfl, ha, ra⟩ := rx
        cases ry
        exact .inr ⟨a, k, vs, rfl, rfl, ha, fun z => h4 (ra.nil_iff.mpr z), h1, h2, by rw [← ra.length]; exact h3, new_tup h (RDs.rep ra _) q⟩
      | _ => cases e
    | _ => cases y <;> cases e
  | fdiv =>
    cases x with
    | int a =>
      cases y with
      | int b =>
        obtain ⟨hz, e⟩ := iteS e
        obtain ⟨rfl, rfl⟩ := pureS e
        cases rx; cases ry
        exact ⟨a, b, rfl, rfl, hz, q.here h rfl⟩
      | _ => cases e
    | _ => cases y <;> cases e
  | mod =>
    cases x with
    | int a =>
      cases y with
      | int b =>
        obtain ⟨hz, e⟩ := iteS e
        obtain ⟨rfl, rfl⟩ := pureS e
        cases rx; cases ry
        exact ⟨a, b, rfl, rfl, hz, q.here h rfl⟩
      | _ => cases e
    | _ => cases y <;> cases e
  | pow =>
    cases x with
    | int a =>
      cases y with
      | int b =>
        obtain ⟨hz, e⟩ := iteS e
        obtain ⟨rfl, rfl⟩ := pureS e
        cases rx; cases ry
        exact ⟨a, b, rfl, rfl, hz, q.here h rfl⟩
      | _ => cases e
    | _ => cases y <;> cases e

/-! ### x[i] of tuples and lists -/
theorem atI_ok {xs : List D} {vs : List V} {i : Int} {x : D} (r : c.ds ρ H xs vs) (e : TL.atI xs i = some x) : ∃ v, L2.atI vs i = some v ∧ c.d ρ H x v := by
  have hl := r.length
  unfold TL.atI at e
  unfold L2.atI ixN
  by_cases h0 : 0 ≤ i
  · rw [if_pos h0] at e
    rw [if_pos h0]
    obtain ⟨v, hv, q⟩ := r.get e
    have hi : i.toNat < vs.length := (List.getElem?_eq_some_iff.mp hv).1
    rw [if_pos (by omega)]
    exact ⟨v, hv, q⟩
  · rw [if_neg h0] at e
    rw [if_neg h0]
    split at e
    · rename_i h1
      obtain ⟨v, hv, q⟩ := r.get e
      rw [if_pos (by omega)]
      refine ⟨v, ?_, q⟩
      rw [hl] at hv
      exact hv
    · cases e
theorem cut_eq (n : Nat) (lo : Option Int) (dflt : Nat) : HT.sIx n dflt lo = (match lo with | none => dflt | some i => clip n i) := by
  cases lo with
  | none => rfl
  | some i => unfold HT.sIx clip; rfl
theorem cut_ok {xs : List D} {vs : List V} {lo hi : Option Int} (r : c.ds ρ H xs vs) : c.ds ρ H (cut xs lo hi) (cutV vs lo hi) := by
  have hl := r.length
  unfold cut cutV
  rw [cut_eq, cut_eq, ← hl]
  exact (r.drop _).take _
end
end TL

namespace TL
open PySem PySem.Spec PyProof.Rows L2

/-! ### data as the library's data -/
mutual
def toPy : D → PyData
  | .non => .none
  | .bl b => .bool b
  | .int i => .int i
  | .str k => .str (symL.getD k "")
  | .tup xs => .tuple (toPys xs)
  | _ => .none
def toPys : List D → List PyData
  | [] => []
  | x :: xs => toPy x :: toPys xs
end
theorem symL_inj : ∀ a b : Nat, a < symL.length → b < symL.length → (symL.getD a "" == symL.getD b "") = (a == b) := by
  have h : (List.range symL.length).all (fun a => (List.range symL.length).all fun b => (symL.getD a "" == symL.getD b "") == (a == b)) = true := by decide +kernel
  intro a b ha hb
  have h1 := List.all_eq_true.mp h a (List.mem_range.mpr ha)
  exact eq_of_beq (List.all_eq_true.mp h1 b (List.mem_range.mpr hb))
theorem symL_ok : ∀ a : Nat, PyData.canLay0 (.str (symL.getD a "")) = true := by
  have h : symL.all (fun x => PyData.canLay0 (.str x)) = true := by
    simp only [PyData.canLay0]
    decide +kernel
  intro a
  by_cases ha : a < symL.length
  · rw [show symL.getD a "" = symL[a] by simp [List.getD, ha]]
    exact List.all_eq_true.mp h _ (List.getElem_mem ha)
  · rw [show symL.getD a "" = ("" : Str) by simp [List.getD, List.getElem?_eq_none (Nat.le_of_not_lt ha)]]
    simp only [PyData.canLay0]
    decide +kernel
section
variable {c : LC} {X : Cx} {ρ : List Addr} {H : Hp} {st st' : Sto} {d : D} {Q : VK}
theorem str_lt {k : Nat} {v : V} (h : c.d ρ H (.str k) v) : k < symL.length ∧ v = .str (symL.getD k "") := by
  obtain ⟨s, e, rfl⟩ := h
  obtain ⟨hk, e'⟩ := List.getElem?_eq_some_iff.mp e
  exact ⟨hk, by simp [List.getD, e]⟩
theorem all_cons {n : Nat} {x : D} {xs : List D} (h : (x :: xs).all (okd n) = true) : okd n x = true ∧ xs.all (okd n) = true := by
  rw [List.all_cons, Bool.and_eq_true] at h
  exact h
theorem okd_tup {n : Nat} {xs : List D} (h : okd (n + 1) (.tup xs) = true) : xs.all (okd n) = true := h
theorem pys_of {n : Nat} (one : ∀ (d : D) (v : V), okd n d = true → c.d ρ H d v → Dp c.K H v (toPy d)) : ∀ (ds : List D) (vs : List V), ds.all (okd n) = true → c.ds ρ H ds vs → DpAll c.K H vs (toPys ds)
  | [], _, _, r => by cases r; exact .nil
  | x :: xs, _, ho, r => by
    obtain ⟨h1, h2⟩ := all_cons ho
    obtain ⟨v, t, rfl, rx, rt⟩ := r
    exact .cons (one x v h1 rx) (pys_of one xs t h2 rt)
theorem py_of : ∀ (n : Nat) (d : D) (v : V), okd n d = true → c.d ρ H d v → Dp c.K H v (toPy d)
  | 0, _, _, h, _ => by cases h
  | n + 1, d, v, ho, r => by
    cases d with
    | non => cases r; exact .non
    | bl b => cases r; exact .bl b
    | int i => cases r; exact .int i
    | str k => obtain ⟨_, rfl⟩ := str_lt r; exact .str _
    | tup xs =>
      obtain ⟨a, vs, rfl, ha, rs⟩ := r
      exact .tup ha (pys_of (py_of n) xs vs (okd_tup ho) rs)
    | ref n => cases ho
    | fn f => cases ho
    | ty t => cases ho
theorem lay_all {n : Nat} (one : ∀ d : D, okd n d = true → (toPy d).canLay0 = true ∧ (toPy d).depth ≤ n) : ∀ ds : List D, ds.all (okd n) = true → PyData.canLayAll0 (toPys ds) = true ∧ PyData.depthAll (toPys ds) ≤ n
  | [], _ => by simp [toPys, PyData.canLayAll0, PyData.depthAll]
  | x :: xs, ho => by
    obtain ⟨h1, h2⟩ := all_cons ho
    obtain ⟨q1, q2⟩ := one x h1
    obtain ⟨p1, p2⟩ := lay_all one xs h2
    simp only [toPys, PyData.canLayAll0, PyData.depthAll, q1, p1, Bool.and_self, true_and]
    omega
theorem lay_of : ∀ (n : Nat) (d : D), okd n d = true → (toPy d).canLay0 = true ∧ (toPy d).depth ≤ n
  | 0, _, h => by cases h
  | n + 1, d, ho => by
    cases d with
    | non => simp [toPy, PyData.canLay0, PyData.depth]
    | bl b => simp [toPy, PyData.canLay0, PyData.depth]
    | int i => simp [toPy, PyData.canLay0, PyData.depth]
    | str k => exact ⟨by simp only [toPy]; exact symL_ok k, by simp [toPy, PyData.depth]⟩
    | tup xs =>
      obtain ⟨p1, p2⟩ := lay_all (lay_of n) xs (okd_tup ho)
      simp only [toPy, PyData.canLay0, PyData.depth, p1, true_and]
      omega
    | ref n => cases ho
    | fn f => cases ho
    | ty t => cases ho
theorem shaped_of {n : Nat} (hn : n ≤ 64) {d : D} (h : okd n d = true) : SeqAt.shaped (toPy d) = true := by
  obtain ⟨q1, q2⟩ := lay_of n d h
  unfold SeqAt.shaped
  rw [q1, decide_eq_true (by omega)]
  rfl
theorem shapedL {n : Nat} (hn : n ≤ 63) {ds : List D} (h : ds.all (okd n) = true) : SeqAt.shaped (.list (toPys ds)) = true := by
  obtain ⟨q1, q2⟩ := lay_all (lay_of n) ds h
  unfold SeqAt.shaped
  simp only [PyData.canLay0, PyData.depth, q1, Bool.true_and]
  exact decide_eq_true (by omega)
theorem eqvs_of {n : Nat} (one : ∀ (d e : D) (v u : V), okd n d = true → okd n e = true → c.d ρ H d v → c.d ρ H e u → PyData.eqv (toPy d) (toPy e) = eqv d e) :
    ∀ (ds es : List D) (vs us : List V), ds.all (okd n) = true → es.all (okd n) = true → c.ds ρ H ds vs → c.ds ρ H es us → PyData.eqvAll (toPys ds) (toPys es) = eqvs ds es
  | [], [], _, _, _, _, _, _ => by simp [toPys, PyData.eqvAll, eqvs]
  | [], _ :: _, _, _, _, _, _, _ => by simp [toPys, PyData.eqvAll, eqvs]
  | _ :: _, [], _, _, _, _, _, _ => by simp [toPys, PyData.eqvAll, eqvs]
  | x :: xs, y :: ys, _, _, h1, h2, r1, r2 => by
    obtain ⟨a1, a2⟩ := all_cons h1
    obtain ⟨b1, b2⟩ := all_cons h2
    obtain ⟨v, t, rfl, rx, rt⟩ := r1
    obtain ⟨u, s, rfl, ry, rs⟩ := r2
    simp only [toPys, PyData.eqvAll, eqvs]
    rw [one x y v u a1 b1 rx ry, eqvs_of one xs ys t s a2 b2 rt rs]
theorem eqv_of : ∀ (n : Nat) (d e : D) (v u : V), okd n d = true → okd n e = true → c.d ρ H d v → c.d ρ H e u → PyData.eqv (toPy d) (toPy e) = eqv d e
  | 0, _, _, _, _, h, _, _, _ => by cases h
  | n + 1, d, e, v, u, h1, h2, r1, r2 => by
    cases d with
    | tup xs =>
      cases e with
      | tup ys =>
        obtain ⟨a, vs, _, _, rs⟩ := r1
        obtain ⟨b, us, _, _, ru⟩ := r2
        simp only [toPy, PyData.eqv, eqv]
        exact eqvs_of (eqv_of n) xs ys vs us (okd_tup h1) (okd_tup h2) rs ru
      | ref n => cases h2
      | fn f => cases h2
      | ty t => cases h2
      | _ => simp [toPy, PyData.eqv, eqv]
    | str k =>
      cases e with
      | str j =>
        simp only [toPy, PyData.eqv, eqv]
        exact symL_inj k j (str_lt r1).1 (str_lt r2).1
      | ref n => cases h2
      | fn f => cases h2
      | ty t => cases h2
      | _ => simp [toPy, PyData.eqv, eqv]
    | ref n => cases h1
    | fn f => cases h1
    | ty t => cases h1
    | _ =>
      cases e with
      | ref n => cases h2
      | fn f => cases h2
      | ty t => cases h2
      | _ => simp [toPy, PyData.eqv, eqv, b2i]

/-! ### comparisons -/
/-- the list at n as data -/
theorem dpL {n : Nat} {a : Addr} {xs : List D} (h : c.h ρ H st) (e : getL st n = some xs) (ea : ρ[n]? = some a) (ho : xs.all (okd 20) = true) : ∃ vs, c.ds ρ H xs vs ∧ SqL c.K H a vs ∧ Dp c.K H (.ref a) (.list (toPys xs)) := by
  obtain ⟨vs, q, r⟩ := h.list e ea
  exact ⟨vs, r, q, .lst q (pys_of (py_of 20) xs vs ho r)⟩

theorem flat_okd {x : D} (h : flat x = true) : okd 20 x = true := by cases x <;> first | rfl | cases h
theorem flat_V {x : D} {v : V} (h : flat x = true) (r : c.d ρ H x v) : flatV v = true := by
  cases x with
  | non => cases r; rfl
  | bl b => cases r; rfl
  | int b => cases r; rfl
  | str b => obtain ⟨s, _, rfl⟩ := r; rfl
  | _ => cases h
theorem eqV_of {x y : D} {v u : V} (hx : flat x = true) (hy : flat y = true) (r : c.d ρ H x v) (s : c.d ρ H y u) : eqV v u = eqv x y := by
  cases x with
  | non => cases r; cases y <;> first | (cases s; rfl) | (obtain ⟨_, _, rfl⟩ := s; rfl) | cases hy
  | bl b => cases r; cases y <;> first | (cases s; rfl) | (obtain ⟨_, _, rfl⟩ := s; rfl) | cases hy
  | int b => cases r; cases y <;> first | (cases s; rfl) | (obtain ⟨_, _, rfl⟩ := s; rfl) | cases hy
  | str b =>
    obtain ⟨h1, rfl⟩ := str_lt r
    cases y with
    | str k =>
      obtain ⟨h2, rfl⟩ := str_lt s
      exact symL_inj b k h1 h2
    | non => cases s; rfl
    | bl k => cases s; rfl
    | int k => cases s; rfl
    | _ => cases hy
  | _ => cases hx
theorem flats_V : ∀ {ys : List D} {vs : List V}, ys.all flat = true → c.ds ρ H ys vs → vs.all flatV = true
  | [], _, _, r => by cases r; rfl
  | y :: ys, _, h, r => by
    rw [List.all_cons, Bool.and_eq_true] at h
    obtain ⟨v, t, rfl, ry, rt⟩ := r
    rw [List.all_cons, flat_V h.1 ry, flats_V h.2 rt]
    rfl
theorem inV_of {x : D} {v : V} (hx : flat x = true) (rx : c.d ρ H x v) : ∀ {ys : List D} {vs : List V}, ys.all flat = true → c.ds ρ H ys vs → inV v vs = ys.any fun y => eqv y x
  | [], _, _, r => by cases r; rfl
  | y :: ys, _, h, r => by
    rw [List.all_cons, Bool.and_eq_true] at h
    obtain ⟨u, t, rfl, ry, rt⟩ := r
    have ih := inV_of hx rx h.2 rt
    unfold inV at ih ⊢
    rw [List.any_cons, List.any_cons, ih, eqV_of h.1 hx ry rx]
theorem any_of {x : D} {v : V} {n : Nat} (hx : okd n x = true) (rx : c.d ρ H x v) : ∀ {ys : List D} {vs : List V}, ys.all (okd n) = true → c.ds ρ H ys vs → ((toPys ys).any fun z => PyData.eqv z (toPy x)) = ys.any fun y => eqv y x
  | [], _, _, r => by cases r; rfl
  | y :: ys, _, h, r => by
    obtain ⟨h1, h2⟩ := all_cons h
    obtain ⟨u, t, rfl, ry, rt⟩ := r
    simp only [toPys, List.any_cons]
    rw [any_of hx rx h2 rt, eqv_of n y x u v h1 hx ry rx]

def copP : Cop → CmpOp
  | .eq => .Eq | .ne => .NotEq | .lt => .Lt | .le => .LtE | .gt => .Gt | .ge => .GtE | .is => .Is | .isnot => .IsNot | .mem => .In | .nmem => .NotIn
/-- the place of == that the dicts fill -/
def rNo : R2 := fun _ _ _ _ => False
theorem op_no {f : Value → Value → Sem Value} : OpR X f rNo := fun _ _ _ _ _ _ _ _ _ _ _ _ h => False.elim h
/-- further rules: dicts -/
structure MoreR (c : LC) where
  eq : Bool → R2
  mem : Bool → R2
  lt : R2
def copR (K : PySem.W.Frag) (m : Cop → R2) : Cop → R2
  | .eq => fun x y H Q => rEqD K x y H Q ∨ m .eq x y H Q
  | .ne => fun x y H Q => rNeD K x y H Q ∨ m .ne x y H Q
  | .lt => fun x y H Q => rI0 (fun i j => .bl (decide (i < j))) x y H Q ∨ m .lt x y H Q
  | .le => rI0 fun i j => .bl (decide (i ≤ j))
  | .gt => rI0 fun i j => .bl (decide (j < i))
  | .ge => rI0 fun i j => .bl (decide (j ≤ i))
  | .is => fun x y H Q => (y = .non ∧ Q (.bl (decide (x = .non))) H) ∨ ∃ a b, x = .bl a ∧ y = .bl b ∧ Q (.bl (decide (a = b))) H
  | .isnot => fun x y H Q => (y = .non ∧ Q (.bl (!decide (x = .non))) H) ∨ ∃ a b, x = .bl a ∧ y = .bl b ∧ Q (.bl (!decide (a = b))) H
  | .mem => fun x y H Q => rIn K false x y H Q ∨ (rInD K x y H Q ∨ m .mem x y H Q)
  | .nmem => fun x y H Q => rIn K true x y H Q ∨ (rNotInD K x y H Q ∨ m .nmem x y H Q)
/-- what the dicts' rules must give -/
structure MoreOk (X : Cx) (m : Cop → R2) : Prop where
  op : ∀ o, OpR X (compareOp (copP o)) (m o)
theorem cop_op {m : Cop → R2} (mo : MoreOk X m) (hu : X.A.units + 65 < cLine) (o : Cop) : OpR X (compareOp (copP o)) (copR X.K m o) := by
  cases o with
  | eq => exact (op_eqD (by omega)).or (mo.op .eq)
  | ne => exact (op_neD (by omega)).or (mo.op .ne)
  | lt => exact op_lt.or (mo.op .lt)
  | le => exact op_le
  | gt => exact op_gt
  | ge => exact op_ge
  | is => exact op_isN.or op_is_bl
  | isnot => exact op_notN.or op_isnot_bl
  | mem => exact op_in_seq.or ((op_inD hu).or (mo.op .mem))
  | nmem => exact op_notIn_seq.or ((op_notInD hu).or (mo.op .nmem))
theorem non_iff {x : D} {v : V} (r : c.d ρ H x v) : decide (v = .non) = decide (x = .non) := by
  cases x with
  | non => cases r; rfl
  | bl b => cases r; rfl
  | int b => cases r; rfl
  | str b => obtain ⟨_, _, rfl⟩ := r; rfl
  | tup xs => obtain ⟨_, _, rfl, _⟩ := r; rfl
  | ref n => obtain ⟨_, _, rfl⟩ := r; rfl
  | fn n => obtain ⟨_, _, rfl⟩ := r; rfl
  | ty n => obtain ⟨_, _, rfl⟩ := r; rfl
/-- what the evaluator's further answers ask -/
def pyEqM (st : Sto) : D → D → Option Bool
  | .ref m, .ref n => match getL st m, getL st n with
    | none, none => match TL.getDX st m, TL.getDX st n with
      | some kvs, some [] => some kvs.isEmpty
      | some [], some kvs => some kvs.isEmpty
      | _, _ => none
    | _, _ => none
  | x, y => eqTup x y
def pyInM (st : Sto) (x : D) : D → Option Bool
  | .ref n => match TL.getD st n with
    | some kvs => if inFor kvs x then some (hasD kvs x) else none
    | none => none
  | _ => none
structure MoreAns (c : LC) (m : Cop → R2) : Prop where
  eq : ∀ {ρ : List Addr} {H : Hp} {st : Sto} {x y : D} {vx vy : V} {b : Bool} {Q : VK}, c.h ρ H st → c.d ρ H x vx → c.d ρ H y vy → pyEqM st x y = some b → (Q (.bl b) H → m .eq vx vy H Q) ∧ (Q (.bl !b) H → m .ne vx vy H Q)
  mem : ∀ {ρ : List Addr} {H : Hp} {st : Sto} {x y : D} {vx vy : V} {b : Bool} {Q : VK}, c.h ρ H st → c.d ρ H x vx → c.d ρ H y vy → pyInM st x y = some b → (Q (.bl b) H → m .mem vx vy H Q) ∧ (Q (.bl !b) H → m .nmem vx vy H Q)
  lt : ∀ {ρ : List Addr} {H : Hp} {st : Sto} {xs ys : List D} {vx vy : V} {b : Bool} {Q : VK}, c.h ρ H st → c.d ρ H (.tup xs) vx → c.d ρ H (.tup ys) vy → ltT xs ys = some b → Q (.bl b) H → m .lt vx vy H Q
theorem getL_none {n : Nat} (e : getL st n = none) : ∀ kvs, TL.getDX st n = some kvs → True := fun _ _ => trivial
theorem eq_ok {m : Cop → R2} (mo : MoreAns c m) {x y : D} {vx vy : V} {b : Bool} (h : c.h ρ H st) (rx : c.d ρ H x vx) (ry : c.d ρ H y vy) (e : pyEq st x y = some b) :
    (Q (.bl b) H → copR c.K m .eq vx vy H Q) ∧ (Q (.bl !b) H → copR c.K m .ne vx vy H Q) := by
  -- data on both sides
  have data : okd 20 x = true → okd 20 y = true → eqv x y = b → (Q (.bl b) H → copR c.K m .eq vx vy H Q) ∧ (Q (.bl !b) H → copR c.K m .ne vx vy H Q) := fun h1 h2 hb => by
    have q := eqv_of 20 x y vx vy h1 h2 rx ry
    subst hb
    exact ⟨fun z => .inl ⟨_, _, py_of 20 x vx h1 rx, py_of 20 y vy h2 ry, shaped_of (by decide) h1, shaped_of (by decide) h2, by rw [q]; exact z⟩, fun z => .inl ⟨_, _, py_of 20 x vx h1 rx, py_of 20 y vy h2 ry, shaped_of (by decide) h1, shaped_of (by decide) h2, by rw [q]; exact z⟩⟩
  have more : pyEqM st x y = some b → (Q (.bl b) H → copR c.K m .eq vx vy H Q) ∧ (Q (.bl !b) H → copR c.K m .ne vx vy H Q) := fun z => by
    obtain ⟨q1, q2⟩ := mo.eq (Q := Q) h rx ry z
    exact ⟨fun w => .inr (q1 w), fun w => .inr (q2 w)⟩
  have plain : (∀ m n, ¬ (x = .ref m ∧ y = .ref n)) → (Q (.bl b) H → copR c.K m .eq vx vy H Q) ∧ (Q (.bl !b) H → copR c.K m .ne vx vy H Q) := fun nr => by
    have e' : (if okd 20 x && okd 20 y then some (eqv x y) else eqTup x y) = some b := by
      unfold pyEq at e
      split at e
      · exact absurd ⟨rfl, rfl⟩ (nr _ _)
      · exact e
    split at e'
    · rename_i hok
      rw [Bool.and_eq_true] at hok
      exact data hok.1 hok.2 (Option.some.inj e')
    · refine more ?_
      unfold pyEqM
      split
      · exact absurd ⟨rfl, rfl⟩ (nr _ _)
      · exact e'
  cases x with
  | ref i =>
    cases y with
    | ref j =>
      obtain ⟨a, ea, rfl⟩ := rx
      obtain ⟨a', ea', rfl⟩ := ry
      have e' : (match getL st i, getL st j with
        | some xs, some ys => if xs.all (okd 20) && ys.all (okd 20) then some (eqvs xs ys) else none
        | none, none => match TL.getDX st i, TL.getDX st j with
          | some kvs, some [] => some kvs.isEmpty
          | some [], some kvs => some kvs.isEmpty
          | _, _ => none
        | _, _ => none) = some b := e
      split at e'
      · rename_i xs ys h1 h2
        split at e'
        · rename_i hok
          rw [Bool.and_eq_true] at hok
          cases e'
          obtain ⟨vs, r1, q1, d1⟩ := dpL h h1 ea hok.1
          obtain ⟨us, r2, q2, d2⟩ := dpL h h2 ea' hok.2
          have q : PyData.eqv (.list (toPys xs)) (.list (toPys ys)) = eqvs xs ys := by
            simp only [PyData.eqv]
            exact eqvs_of (eqv_of 20) xs ys vs us hok.1 hok.2 r1 r2
          exact ⟨fun z => .inl ⟨_, _, d1, d2, shapedL (by decide) hok.1, shapedL (by decide) hok.2, by rw [q]; exact z⟩, fun z => .inl ⟨_, _, d1, d2, shapedL (by decide) hok.1, shapedL (by decide) hok.2, by rw [q]; exact z⟩⟩
        · cases e'
      · rename_i h1 h2
        refine more ?_
        show (match getL st i, getL st j with
          | none, none => match TL.getDX st i, TL.getDX st j with
            | some kvs, some [] => some kvs.isEmpty
            | some [], some kvs => some kvs.isEmpty
            | _, _ => none
          | _, _ => none) = some b
        rw [h1, h2]
        exact e'
      · cases e'
    | _ => exact plain fun m n z => nomatch z.2
  | _ => exact plain fun m n z => nomatch z.1
theorem mem_ok {m : Cop → R2} (mo : MoreAns c m) {x y : D} {vx vy : V} {b : Bool} (h : c.h ρ H st) (rx : c.d ρ H x vx) (ry : c.d ρ H y vy) (e : pyIn st x y = some b) :
    (Q (.bl b) H → copR c.K m .mem vx vy H Q) ∧ (Q (.bl !b) H → copR c.K m .nmem vx vy H Q) := by
  cases y with
  | tup ys =>
    have e' : (if flat x && ys.all flat then some (ys.any fun y => eqv y x) else none) = some b := e
    split at e'
    · rename_i hf
      rw [Bool.and_eq_true] at hf
      cases e'
      obtain ⟨a, vs, rfl, ha, ra⟩ := ry
      have q := inV_of hf.1 rx hf.2 ra
      exact ⟨fun z => .inl ⟨a, vs, rfl, .inr ha, flat_V hf.1 rx, flats_V hf.2 ra, by show Q (.bl (inV vx vs)) H; rw [q]; exact z⟩, fun z => .inl ⟨a, vs, rfl, .inr ha, flat_V hf.1 rx, flats_V hf.2 ra, by show Q (.bl (!inV vx vs)) H; rw [q]; exact z⟩⟩
    · cases e'
  | ref n =>
    obtain ⟨a, ea, rfl⟩ := ry
    have e' : (match getL st n with
      | some ys => if okd 20 x && ys.all (okd 20) then some (ys.any fun y => eqv y x) else none
      | none => match TL.getD st n with
        | some kvs => if inFor kvs x then some (hasD kvs x) else none
        | none => none) = some b := e
    split at e'
    · rename_i ys hy
      split at e'
      · rename_i hok
        rw [Bool.and_eq_true] at hok
        cases e'
        obtain ⟨vs, r, _, dd⟩ := dpL h hy ea hok.2
        have q := any_of hok.1 rx hok.2 r
        exact ⟨fun z => .inr (.inl ⟨_, _, py_of 20 x vx hok.1 rx, dd, shaped_of (by decide) hok.1, shapedL (by decide) hok.2, by rw [q]; exact z⟩), fun z => .inr (.inl ⟨_, _, py_of 20 x vx hok.1 rx, dd, shaped_of (by decide) hok.1, shapedL (by decide) hok.2, by rw [q]; exact z⟩)⟩
      · cases e'
    · obtain ⟨q1, q2⟩ := mo.mem (Q := Q) h rx (show c.d ρ H (.ref n) (.ref a) from ⟨a, ea, rfl⟩) e'
      exact ⟨fun w => .inr (.inr (q1 w)), fun w => .inr (.inr (q2 w))⟩
  | _ => cases e
theorem cop_ok {m : Cop → R2} (mo : MoreAns c m) {o : Cop} {x y : D} {vx vy : V} (h : c.h ρ H st) (rx : c.d ρ H x vx) (ry : c.d ρ H y vy) (e : cop st o x y = some d) (q : Then c ρ H d st Q) : copR c.K m o vx vy H Q := by
  have fin : ∀ b, d = .bl b → Q (.bl b) H := fun b z => by subst z; exact q.here h rfl
  have ii : ∀ (g : Int → Int → Bool), (∀ a b, x = .int a → y = .int b → d = .bl (g a b)) → (∃ a b, x = .int a ∧ y = .int b) → rI0 (fun i j => .bl (g i j)) vx vy H Q := fun g hg ⟨a, b, e1, e2⟩ => by
    have z := hg a b e1 e2
    subst e1 e2
    cases rx; cases ry
    exact ⟨a, b, rfl, rfl, fin _ z⟩
  cases o with
  | eq =>
    cases hb : pyEq st x y with
    | none => rw [show cop st .eq x y = (pyEq st x y).map D.bl from rfl, hb] at e; cases e
    | some b =>
      rw [show cop st .eq x y = (pyEq st x y).map D.bl from rfl, hb] at e
      exact (eq_ok mo h rx ry hb).1 (fin b (Option.some.inj e).symm)
  | ne =>
    cases hb : pyEq st x y with
    | none => rw [show cop st .ne x y = (pyEq st x y).map fun b => D.bl !b from rfl, hb] at e; cases e
    | some b =>
      rw [show cop st .ne x y = (pyEq st x y).map fun b => D.bl !b from rfl, hb] at e
      exact (eq_ok mo h rx ry hb).2 (fin (!b) (Option.some.inj e).symm)
  | lt =>
    cases x with
    | int a =>
      cases y with
      | int b => cases e; cases rx; cases ry; exact .inl ⟨a, b, rfl, rfl, fin _ rfl⟩
      | _ => cases e
    | tup xs =>
      cases y with
      | tup ys =>
        cases hb : ltT xs ys with
        | none => rw [show cop st .lt (.tup xs) (.tup ys) = (ltT xs ys).map D.bl from rfl, hb] at e; cases e
        | some b =>
          rw [show cop st .lt (.tup xs) (.tup ys) = (ltT xs ys).map D.bl from rfl, hb] at e
          exact .inr (mo.lt h rx ry hb (fin b (Option.some.inj e).symm))
      | _ => cases e
    | _ => cases y <;> cases e
  | le =>
    cases x with
    | int a =>
      cases y with
      | int b => cases e; cases rx; cases ry; exact ⟨a, b, rfl, rfl, fin _ rfl⟩
      | _ => cases e
    | _ => cases y <;> cases e
  | gt =>
    cases x with
    | int a =>
      cases y with
      | int b => cases e; cases rx; cases ry; exact ⟨a, b, rfl, rfl, fin _ rfl⟩
      | _ => cases e
    | _ => cases y <;> cases e
  | ge =>
    cases x with
    | int a =>
      cases y with
      | int b => cases e; cases rx; cases ry; exact ⟨a, b, rfl, rfl, fin _ rfl⟩
      | _ => cases e
    | _ => cases y <;> cases e
  | is =>
    cases hb : pyIs x y with
    | none => rw [show cop st .is x y = (pyIs x y).map D.bl from rfl, hb] at e; cases e
    | some b =>
      rw [show cop st .is x y = (pyIs x y).map D.bl from rfl, hb] at e
      have f := fin b (Option.some.inj e).symm
      unfold pyIs at hb
      split at hb
      · cases hb; cases ry; exact .inl ⟨rfl, by rw [non_iff rx]; exact f⟩
      · cases hb; cases rx; cases ry; exact .inr ⟨_, _, rfl, rfl, f⟩
      · cases hb
  | isnot =>
    cases hb : pyIs x y with
    | none => rw [show cop st .isnot x y = (pyIs x y).map fun b => D.bl !b from rfl, hb] at e; cases e
    | some b =>
      rw [show cop st .isnot x y = (pyIs x y).map fun b => D.bl !b from rfl, hb] at e
      have f := fin (!b) (Option.some.inj e).symm
      unfold pyIs at hb
      split at hb
      · cases hb; cases ry; exact .inl ⟨rfl, by rw [non_iff rx]; exact f⟩
      · cases hb; cases rx; cases ry; exact .inr ⟨_, _, rfl, rfl, f⟩
      · cases hb
  | mem =>
    cases hb : pyIn st x y with
    | none => rw [show cop st .mem x y = (pyIn st x y).map D.bl from rfl, hb] at e; cases e
    | some b =>
      rw [show cop st .mem x y = (pyIn st x y).map D.bl from rfl, hb] at e
      exact (mem_ok mo h rx ry hb).1 (fin b (Option.some.inj e).symm)
  | nmem =>
    cases hb : pyIn st x y with
    | none => rw [show cop st .nmem x y = (pyIn st x y).map fun b => D.bl !b from rfl, hb] at e; cases e
    | some b =>
      rw [show cop st .nmem x y = (pyIn st x y).map fun b => D.bl !b from rfl, hb] at e
      exact (mem_ok mo h rx ry hb).2 (fin (!b) (Option.some.inj e).symm)
end
end TL

/-! The evaluator's words as readings of the hand layer: expressions. -/
namespace TL
open PySem PySem.Spec PyProof.Rows L2

section
variable (c : LC)
def liftE (m : Env → M D) : TE := fun σ H Q => ∃ σd ρ st d st', c.s ρ H σd σ ∧ c.h ρ H st ∧ m σd st = some (d, st') ∧ Then c ρ H d st' Q
def liftA (m : Env → M (List D)) : TA := fun σ H Q => ∃ σd ρ st ds st', c.s ρ H σd σ ∧ c.h ρ H st ∧ m σd st = some (ds, st') ∧ ∀ vs H' ρ', Gr c.K ρ H ρ' H' → c.h ρ' H' st' → c.ds ρ' H' ds vs → Q vs H'
/-- a test: the value a bool -/
def liftT (m : Env → M D) : TT := fun σ H Q => ∃ σd ρ st b st', c.s ρ H σd σ ∧ c.h ρ H st ∧ m σd st = some (.bl b, st') ∧ ∀ H' ρ', Gr c.K ρ H ρ' H' → c.h ρ' H' st' → Q b H'
end
theorem _root_.L2.PE.imp {X : Cx} {e : Expr} {t t' : TE} (h : PE X e t) (q : ∀ σ H Q, t' σ H Q → t σ H Q) : PE X e t' := ⟨fun pins s σ H Q I w => h.run pins s σ H Q I (q _ _ _ w)⟩
theorem _root_.L2.PT.imp {X : Cx} {e : Expr} {t t' : TT} (h : PT X e t) (q : ∀ σ H Q, t' σ H Q → t σ H Q) : PT X e t' := ⟨fun pins s σ H Q I w => h.run pins s σ H Q I (q _ _ _ w)⟩
theorem _root_.L2.PW.imp {X : Cx} {e : Expr} {t t' : TT} (h : PW X e t) (q : ∀ σ H Q, t' σ H Q → t σ H Q) : PW X e t' := ⟨fun wh pins s σ H Q I w => h.run wh pins s σ H Q I (q _ _ _ w)⟩
theorem _root_.L2.PA.imp {X : Cx} {e : List Expr} {t t' : TA} (h : PA X e t) (q : ∀ σ H Q, t' σ H Q → t σ H Q) : PA X e t' := ⟨fun pos pins s σ H Q I w => h.run pos pins s σ H Q I (q _ _ _ w)⟩
theorem Then.trans {c : LC} {ρ ρ1 : List Addr} {H H1 : Hp} {d : D} {st : Sto} {Q : VK} (q : Then c ρ H d st Q) (g : Gr c.K ρ H ρ1 H1) : Then c ρ1 H1 d st Q := fun v H' ρ' g' h r => q v H' ρ' (g.trans g') h r

/-- the letters of a body -/
abbrev cx (X : Cx) (fa : Nat → Option Addr) (hs : D → Int) : LC := ⟨X.K, fa, hs⟩
section
variable {X : Cx} {fa : Nat → Option Addr} {hs : D → Int} {e a b o : Expr} {es : List Expr} {pos : Pos} {m ma mb mc : Env → M D} {ms : Env → M (List D)}
abbrev DE (X : Cx) (fa : Nat → Option Addr) (hs : D → Int) (e : Expr) (m : Env → M D) : Prop := PE X e (liftE (cx X fa hs) m)
abbrev DT (X : Cx) (fa : Nat → Option Addr) (hs : D → Int) (e : Expr) (m : Env → M D) : Prop := PT X e (liftT (cx X fa hs) m)
abbrev DA (X : Cx) (fa : Nat → Option Addr) (hs : D → Int) (es : List Expr) (m : Env → M (List D)) : Prop := PA X es (liftA (cx X fa hs) m)
abbrev CH (X : Cx) (fa : Nat → Option Addr) (hs : D → Int) : List Addr → Hp → Sto → Prop := (cx X fa hs).h
abbrev CD (X : Cx) (fa : Nat → Option Addr) (hs : D → Int) : List Addr → Hp → D → V → Prop := (cx X fa hs).d

/-- the pieces of a lift -/
theorem liftE.mk {σ : L2.St} {H : Hp} {Q : VK} {σd : Env} {ρ : List Addr} {st : Sto} {d : D} {st' : Sto} {c : LC} (h1 : c.s ρ H σd σ) (h2 : c.h ρ H st) (h3 : m σd st = some (d, st')) (q : Then c ρ H d st' Q) : liftE c m σ H Q := ⟨σd, ρ, st, d, st', h1, h2, h3, q⟩

/-! ### names, constants -/
theorem de_var {i : Nat} {x : Str} (hN : X.N[i]? = some x) (hv : Vis X.env.scope x) (hd : (x == ("__debug__" : Str)) = false) (hcd : (x == ("__classdict__" : Str)) = false) : DE X fa hs (.Name x pos) (fun σ => M.lift (σ[i]?.bind id)) :=
  (pe_var hN hv hd hcd).imp fun σ H Q ⟨σd, ρ, st, d, st', h1, h2, h3, q⟩ => by
    obtain ⟨e, rfl⟩ := liftS h3
    cases hi : σd[i]? with
    | none => rw [hi] at e; cases e
    | some o =>
      rw [hi] at e
      have e' : o = some d := e
      subst e'
      obtain ⟨v, hv, r⟩ := h1.get i d hi
      exact ⟨v, hv, q.here h2 r⟩
theorem de_const {t : TE} {v : V} {d : D} (h : PE X e t) (ht : ∀ σ H Q, Q v H → t σ H Q) (r : ∀ ρ H, CD X fa hs ρ H d v) : DE X fa hs e (fun _ => pure d) :=
  h.imp fun σ H Q ⟨σd, ρ, st, d', st', h1, h2, h3, q⟩ => by
    obtain ⟨rfl, rfl⟩ := pureS h3
    exact ht σ H Q (q.here h2 (r ρ H))
theorem de_int {i : Int} {j : Nat} : DE X fa hs (.Constant (.int i) j pos) (fun _ => pure (.int i)) := de_const pe_int (fun _ _ _ h => h) fun _ _ => rfl
theorem de_bl {i : Bool} {j : Nat} : DE X fa hs (.Constant (.bool i) j pos) (fun _ => pure (.bl i)) := de_const pe_bl (fun _ _ _ h => h) fun _ _ => rfl
theorem de_non {j : Nat} : DE X fa hs (.Constant .none j pos) (fun _ => pure .non) := de_const pe_non (fun _ _ _ h => h) fun _ _ => rfl
theorem de_str {x : Str} {k j : Nat} (hk : symL[k]? = some x) : DE X fa hs (.Constant (.str x) j pos) (fun _ => pure (.str k)) := de_const pe_str (fun _ _ _ h => h) fun _ _ => ⟨x, hk, rfl⟩
theorem de_ty {x : Str} {k : Nat} {t : String} (hk : tyL[k]? = some t) (hg : Gl X x) (hm : X.mg x = none) (hv : bootBuiltins x = some (.type t)) (hn : x ≠ "__name__") (hd : (x == ("__debug__" : Str)) = false) : DE X fa hs (.Name x pos) (fun _ => pure (.ty k)) :=
  de_const (pe_bltn (v := .ty t) hg hm hv rfl hn hd) (fun _ _ _ h => h) fun _ _ => ⟨t, hk, rfl⟩
theorem de_fnv {x : Str} {k : Nat} {f : Addr} (hk : fa k = some f) (hg : Gl X x) (hm : X.mg x = some (.ref f)) (hd : (x == ("__debug__" : Str)) = false) : DE X fa hs (.Name x pos) (fun _ => pure (.fn k)) :=
  de_const (pe_glob (v := .ref f) hg hm rfl hd) (fun _ _ _ h => h) fun _ _ => ⟨f, hk, rfl⟩

/-! ### argument lists, displays -/
theorem da_nil : DA X fa hs [] (fun _ => pure []) := pa_nil.imp fun σ H Q ⟨σd, ρ, st, ds, st', h1, h2, h3, q⟩ => by
  obtain ⟨rfl, rfl⟩ := pureS h3
  exact q [] H ρ Gr.refl h2 rfl
theorem da_cons (ha : DE X fa hs e m) (hr : DA X fa hs es ms) (hst : starEach (e :: es) X.env = (false, eval e X.env) :: starEach es X.env) : DA X fa hs (e :: es) (fun σ => M.bind (m σ) fun x => M.bind (ms σ) fun xs => pure (x :: xs)) :=
  (pa_cons ha hr hst).imp fun σ H Q ⟨σd, ρ, st, ds, st', h1, h2, h3, q⟩ => by
    obtain ⟨x, st1, e1, h3⟩ := bindS h3
    obtain ⟨xs, st2, e2, h3⟩ := bindS h3
    obtain ⟨rfl, rfl⟩ := pureS h3
    refine .mk h1 h2 e1 fun v H1 ρ1 g1 k1 r1 => ⟨σd, ρ1, st1, xs, st2, h1.mono g1, k1, e2, fun vs H2 ρ2 g2 k2 r2 => ?_⟩
    exact q (v :: vs) H2 ρ2 (g1.trans g2) k2 (RDs.cons (r1.mono g2) r2)
/-- a list of arguments, then a rule on the values -/
theorem liftA.then {m2 : List D → M D} {r : List V → Hp → VK → Prop} {c : LC} (hm : ∀ ρ H st ds vs d st' Q, c.h ρ H st → c.ds ρ H ds vs → m2 ds st = some (d, st') → Then c ρ H d st' Q → r vs H Q) {σ : L2.St} {H : Hp} {Q : VK}
    (h : liftE c (fun σ => M.bind (ms σ) fun xs => m2 xs) σ H Q) : liftA c ms σ H fun vs H1 => r vs H1 Q := by
  obtain ⟨σd, ρ, st, d, st', h1, h2, h3, q⟩ := h
  obtain ⟨xs, st1, e1, h3⟩ := bindS h3
  exact ⟨σd, ρ, st, xs, st1, h1, h2, e1, fun vs H1 ρ1 g1 k1 r1 => hm ρ1 H1 st1 xs vs d st' Q k1 r1 h3 (q.trans g1)⟩
theorem de_tup {x1 : Nat} (h : DA X fa hs es ms) (hz : es.length ≤ 1000) (hl : ∀ σ st ds st', ms σ st = some (ds, st') → ds.length = es.length) : DE X fa hs (.Tuple es x1 pos) (fun σ => M.bind (ms σ) fun xs => pure (.tup xs)) :=
  (pe_tup h).imp fun σ H Q ⟨σd, ρ, st, d, st', h1, h2, h3, q⟩ => by
    obtain ⟨xs, st1, e1, h3⟩ := bindS h3
    obtain ⟨rfl, rfl⟩ := pureS h3
    refine ⟨σd, ρ, st, xs, st1, h1, h2, e1, fun vs H1 ρ1 g1 k1 r1 => ⟨?_, new_tup k1 r1 (q.trans g1)⟩⟩
    rw [← r1.length, hl _ _ _ _ e1, sizeLine_eq]; omega
theorem de_lst (h : DA X fa hs es ms) (hz : es.length ≤ 1000) (hl : ∀ σ st ds st', ms σ st = some (ds, st') → ds.length = es.length) : DE X fa hs (.List es pos) (fun σ => M.bind (ms σ) fun xs => alloc (.lst xs)) :=
  (pe_lst h).imp fun σ H Q ⟨σd, ρ, st, d, st', h1, h2, h3, q⟩ => by
    obtain ⟨xs, st1, e1, h3⟩ := bindS h3
    obtain ⟨rfl, rfl⟩ := allocS h3
    refine ⟨σd, ρ, st, xs, st1, h1, h2, e1, fun vs H1 ρ1 g1 k1 r1 => ⟨?_, new_lst k1 r1 (q.trans g1)⟩⟩
    rw [← r1.length, hl _ _ _ _ e1, sizeLine_eq]; omega

/-! ### operators -/
/-- two values, then a rule -/
theorem lift2 {m2 : D → D → M D} {r : R2} {c : LC} (hm : ∀ ρ H st x y vx vy d st' Q, c.h ρ H st → c.d ρ H x vx → c.d ρ H y vy → m2 x y st = some (d, st') → Then c ρ H d st' Q → r vx vy H Q) {σ : L2.St} {H : Hp} {Q : VK}
    (h : liftE c (fun σ => M.bind (ma σ) fun x => M.bind (mb σ) fun y => m2 x y) σ H Q) : liftE c ma σ H fun x H1 => liftE c mb σ H1 fun y H2 => r x y H2 Q := by
  obtain ⟨σd, ρ, st, d, st', h1, h2, h3, q⟩ := h
  obtain ⟨x, st1, e1, h3⟩ := bindS h3
  obtain ⟨y, st2, e2, h3⟩ := bindS h3
  refine .mk h1 h2 e1 fun vx H1 ρ1 g1 k1 r1 => .mk (h1.mono g1) k1 e2 fun vy H2 ρ2 g2 k2 r2 => ?_
  exact hm ρ2 H2 st2 x y vx vy d st' Q k2 (r1.mono g2) r2 h3 (q.trans (g1.trans g2))
theorem lift1 {m1 : D → M D} {r : V → Hp → VK → Prop} {c : LC} (hm : ∀ ρ H st x vx d st' Q, c.h ρ H st → c.d ρ H x vx → m1 x st = some (d, st') → Then c ρ H d st' Q → r vx H Q) {σ : L2.St} {H : Hp} {Q : VK}
    (h : liftE c (fun σ => M.bind (ma σ) fun x => m1 x) σ H Q) : liftE c ma σ H fun x H1 => r x H1 Q := by
  obtain ⟨σd, ρ, st, d, st', h1, h2, h3, q⟩ := h
  obtain ⟨x, st1, e1, h3⟩ := bindS h3
  exact .mk h1 h2 e1 fun vx H1 ρ1 g1 k1 r1 => hm ρ1 H1 st1 x vx d st' Q k1 r1 h3 (q.trans g1)
theorem de_bin {op : Bop} (ha : DE X fa hs a ma) (hb : DE X fa hs b mb) : DE X fa hs (.BinOp a (bopP op) b pos) (fun σ => M.bind (ma σ) fun x => M.bind (mb σ) fun y => bop op x y) :=
  (pe_op (bop_op op) ha hb).imp fun σ H Q h => lift2 (fun _ _ _ _ _ _ _ _ _ _ k rx ry e q => bop_ok k rx ry e q) h
def negD (x : D) : M D := match x with
  | .int i => pure (.int (-i))
  | _ => M.fail
theorem de_neg (ha : DE X fa hs a ma) : DE X fa hs (.UnaryOp .USub a pos) (fun σ => M.bind (ma σ) fun x => negD x) :=
  (pe_un un_neg ha).imp fun σ H Q h => lift1 (fun ρ H st x vx d st' Q k rx e q => by
    cases x with
    | int i =>
      obtain ⟨rfl, rfl⟩ := pureS e
      cases rx
      exact ⟨i, rfl, q.here k rfl⟩
    | _ => cases e) h

/-! ### comparisons -/
section
variable {mr : Cop → R2} (mo : MoreOk X mr) (ma' : MoreAns (cx X fa hs) mr) (hu : X.A.units + 65 < cLine)
def cmpD (op : Cop) (x y : D) : M D := M.rd fun st => cop st op x y
/-- a test from the value's lift -/
theorem liftT.toE {c : LC} {σ : L2.St} {H : Hp} {Q : Bool → Hp → Prop} (h : liftT c m σ H Q) : liftE c m σ H fun x H1 => ∃ k, x = .bl k ∧ Q k H1 := by
  obtain ⟨σd, ρ, st, b, st', h1, h2, h3, q⟩ := h
  refine .mk h1 h2 h3 fun v H' ρ' g k r => ?_
  cases r
  exact ⟨b, rfl, q H' ρ' g k⟩
def chainD (o1 o2 : Cop) (x y : D) (mz : M D) : M D := M.bind (M.rd fun st => cop st o1 x y) fun r => M.bind (tst r) fun k => if k = true then M.bind mz fun z => M.rd fun st => cop st o2 y z else pure (.bl false)
include mo ma' hu
theorem de_cmp {op : Cop} (ha : DE X fa hs a ma) (hb : DE X fa hs b mb) (hm : behindInMarks (copP op) b = false) : DE X fa hs (.Compare a [copP op] [b] pos) (fun σ => M.bind (ma σ) fun x => M.bind (mb σ) fun y => cmpD op x y) :=
  (pe_cmpR (cop_op mo hu op) ha hb hm).imp fun σ H Q h => lift2 (fun ρ H st x y vx vy d st' Q k rx ry e q => by
    obtain ⟨f, z⟩ := rdS e
    subst z
    exact cop_ok ma' k rx ry f q) h
theorem dt_cmp {op : Cop} (ha : DE X fa hs a ma) (hb : DE X fa hs b mb) (hm : behindInMarks (copP op) b = false) : DT X fa hs (.Compare a [copP op] [b] pos) (fun σ => M.bind (ma σ) fun x => M.bind (mb σ) fun y => cmpD op x y) :=
  (pt_cmpR (cop_op mo hu op) ha hb hm).imp fun σ H Q h => lift2 (m2 := cmpD op) (r := fun x y H2 Q' => copR X.K mr op x y H2 Q') (fun ρ H st x y vx vy d st' Q k rx ry e q => by
    obtain ⟨f, z⟩ := rdS e
    subst z
    exact cop_ok ma' k rx ry f q) h.toE
theorem lift_chain {o1 o2 : Cop} {σ : L2.St} {H : Hp} {Q : VK} (h : liftE (cx X fa hs) (fun σ => M.bind (ma σ) fun x => M.bind (mb σ) fun y => chainD o1 o2 x y (mc σ)) σ H Q) :
    tChain (copR X.K mr o1) (copR X.K mr o2) (liftE (cx X fa hs) ma) (liftE (cx X fa hs) mb) (liftE (cx X fa hs) mc) σ H Q := by
  obtain ⟨σd, ρ, st, d, st', h1, h2, h3, q⟩ := h
  obtain ⟨x, st1, e1, h3⟩ := bindS h3
  obtain ⟨y, st2, e2, h3⟩ := bindS h3
  refine .mk h1 h2 e1 fun vx H1 ρ1 g1 k1 r1 => .mk (h1.mono g1) k1 e2 fun vy H2 ρ2 g2 k2 r2 => ?_
  obtain ⟨r, st3, e3, h3⟩ := bindS h3
  obtain ⟨f3, z3⟩ := rdS e3
  subst z3
  obtain ⟨k, st4, e4, h3⟩ := bindS h3
  refine cop_ok ma' k2 (r1.mono g2) r2 f3 fun v H3 ρ3 g3 k3 r3 => ?_
  cases r with
  | bl b =>
    have e4' : (pure b : M Bool) st2 = some (k, st4) := e4
    obtain ⟨rfl, rfl⟩ := pureS e4'
    cases r3
    refine ⟨b, rfl, ?_⟩
    cases b with
    | false =>
      obtain ⟨rfl, rfl⟩ := pureS h3
      exact iteF (q _ _ ρ3 (g1.trans (g2.trans g3)) k3 rfl)
    | true =>
      obtain ⟨z, st5, e5, h3⟩ := bindS h3
      obtain ⟨f5, z5⟩ := rdS h3
      subst z5
      exact iteT (.mk (h1.mono (g1.trans (g2.trans g3))) k3 e5 fun vz H4 ρ4 g4 k4 r4 => cop_ok ma' k4 (r2.mono (g3.trans g4)) r4 f5 (q.trans (g1.trans (g2.trans (g3.trans g4)))))
  | _ => cases e4
theorem de_chain {o1 o2 : Cop} {b2 : Expr} (ha : DE X fa hs a ma) (hb : DE X fa hs b mb) (hc : DE X fa hs b2 mc) (hm : lastMarks [copP o1, copP o2] [b, b2] = false) :
    DE X fa hs (.Compare a [copP o1, copP o2] [b, b2] pos) (fun σ => M.bind (ma σ) fun x => M.bind (mb σ) fun y => chainD o1 o2 x y (mc σ)) :=
  (pe_chain (cop_op mo hu o1) (cop_op mo hu o2) ha hb hc hm).imp fun σ H Q h => lift_chain mo ma' hu h
theorem dt_chain {o1 o2 : Cop} {b2 : Expr} (ha : DE X fa hs a ma) (hb : DE X fa hs b mb) (hc : DE X fa hs b2 mc) (hm : lastMarks [copP o1, copP o2] [b, b2] = false) :
    DT X fa hs (.Compare a [copP o1, copP o2] [b, b2] pos) (fun σ => M.bind (ma σ) fun x => M.bind (mb σ) fun y => chainD o1 o2 x y (mc σ)) :=
  (pt_chain (cop_op mo hu o1) (cop_op mo hu o2) ha hb hc hm).imp fun σ H Q h => lift_chain mo ma' hu h.toE
end

/-! ### and, or, not, a if t else b -/
theorem dt_val (ha : DE X fa hs a ma) (he : ∀ whole, isTrue a X.env whole = (do let v ← whole; standAt a.pos; holding [v] (truthy v))) : DT X fa hs a ma := (pt_val ha he).imp fun σ H Q h => h.toE
/-- the value of a test as the evaluator has it -/
theorem tstS {x : D} {st st' : Sto} {k : Bool} (e : tst x st = some (k, st')) : x = .bl k ∧ st = st' := by
  cases x with
  | bl b =>
    have e' : (pure b : M Bool) st = some (k, st') := e
    obtain ⟨rfl, rfl⟩ := pureS e'
    exact ⟨rfl, rfl⟩
  | _ => cases e
def notM (ma : Env → M D) : Env → M D := fun σ => M.bind (ma σ) fun x => M.bind (tst x) fun b => pure (.bl !b)
def andM (ma mb : Env → M D) : Env → M D := fun σ => M.bind (ma σ) fun x => M.bind (tst x) fun k => if k = true then mb σ else pure (.bl false)
def orM (ma mb : Env → M D) : Env → M D := fun σ => M.bind (ma σ) fun x => M.bind (tst x) fun k => if k = true then pure (.bl true) else mb σ
def ifM (mc ma mb : Env → M D) : Env → M D := fun σ => M.bind (mc σ) fun x => M.bind (tst x) fun k => if k = true then ma σ else mb σ
theorem de_not (ha : DE X fa hs a ma) : DE X fa hs (.UnaryOp .Not a pos) (notM ma) := (pe_not ha).imp fun σ H Q ⟨σd, ρ, st, d, st', h1, h2, h3, q⟩ => by
  obtain ⟨x, st1, e1, h3⟩ := bindS h3
  obtain ⟨k, st2, e2, h3⟩ := bindS h3
  obtain ⟨rfl, rfl⟩ := tstS e2
  obtain ⟨rfl, rfl⟩ := pureS h3
  refine .mk h1 h2 e1 fun v H1 ρ1 g1 k1 r1 => ?_
  cases r1
  exact ⟨k, rfl, (q.trans g1).here k1 rfl⟩
theorem dt_not (ha : DT X fa hs a ma) : DT X fa hs (.UnaryOp .Not a pos) (notM ma) := (pt_not ha).imp fun σ H Q ⟨σd, ρ, st, b, st', h1, h2, h3, q⟩ => by
  obtain ⟨x, st1, e1, h3⟩ := bindS h3
  obtain ⟨k, st2, e2, h3⟩ := bindS h3
  obtain ⟨rfl, rfl⟩ := tstS e2
  obtain ⟨h3, rfl⟩ := pureS h3
  cases h3
  exact ⟨σd, ρ, st, k, st1, h1, h2, e1, q⟩
theorem de_and {rest : List Expr} (ha : DE X fa hs a ma) (hb : DE X fa hs (.BoolOp .And (b :: rest) pos) mb) : DE X fa hs (.BoolOp .And (a :: b :: rest) pos) (andM ma mb) := (pe_and ha hb).imp fun σ H Q ⟨σd, ρ, st, d, st', h1, h2, h3, q⟩ => by
  obtain ⟨x, st1, e1, h3⟩ := bindS h3
  obtain ⟨k, st2, e2, h3⟩ := bindS h3
  obtain ⟨rfl, rfl⟩ := tstS e2
  refine .mk h1 h2 e1 fun v H1 ρ1 g1 k1 r1 => ?_
  cases r1
  refine ⟨k, rfl, ?_⟩
  cases k with
  | true => exact iteT (.mk (h1.mono g1) k1 h3 (q.trans g1))
  | false => obtain ⟨rfl, rfl⟩ := pureS h3; exact iteF ((q.trans g1).here k1 rfl)
theorem de_or {rest : List Expr} (ha : DE X fa hs a ma) (hb : DE X fa hs (.BoolOp .Or (b :: rest) pos) mb) : DE X fa hs (.BoolOp .Or (a :: b :: rest) pos) (orM ma mb) := (pe_or ha hb).imp fun σ H Q ⟨σd, ρ, st, d, st', h1, h2, h3, q⟩ => by
  obtain ⟨x, st1, e1, h3⟩ := bindS h3
  obtain ⟨k, st2, e2, h3⟩ := bindS h3
  obtain ⟨rfl, rfl⟩ := tstS e2
  refine .mk h1 h2 e1 fun v H1 ρ1 g1 k1 r1 => ?_
  cases r1
  refine ⟨k, rfl, ?_⟩
  cases k with
  | false => exact iteF (.mk (h1.mono g1) k1 h3 (q.trans g1))
  | true => obtain ⟨rfl, rfl⟩ := pureS h3; exact iteT ((q.trans g1).here k1 rfl)
theorem de_one {op : BoolOp} (ha : DE X fa hs a ma) : DE X fa hs (.BoolOp op [a] pos) ma := pe_one ha
abbrev DW (X : Cx) (fa : Nat → Option Addr) (hs : D → Int) (e : Expr) (m : Env → M D) : Prop := PW X e (liftT (cx X fa hs) m)
theorem dw_and1 (ha : DT X fa hs a ma) : DW X fa hs (.BoolOp .And [a] pos) ma := pw_and1 ha
theorem dw_or1 (ha : DT X fa hs a ma) : DW X fa hs (.BoolOp .Or [a] pos) ma := pw_or1 ha
theorem dw_and {rest : List Expr} (ha : DT X fa hs a ma) (hb : DW X fa hs (.BoolOp .And (b :: rest) pos) mb) : DW X fa hs (.BoolOp .And (a :: b :: rest) pos) (andM ma mb) := (pw_and ha hb).imp fun σ H Q ⟨σd, ρ, st, bb, st', h1, h2, h3, q⟩ => by
  obtain ⟨x, st1, e1, h3⟩ := bindS h3
  obtain ⟨k, st2, e2, h3⟩ := bindS h3
  obtain ⟨rfl, rfl⟩ := tstS e2
  refine ⟨σd, ρ, st, k, st1, h1, h2, e1, fun H1 ρ1 g1 k1 => ?_⟩
  cases k with
  | true => exact iteT ⟨σd, ρ1, st1, bb, st', h1.mono g1, k1, h3, fun H2 ρ2 g2 k2 => q H2 ρ2 (g1.trans g2) k2⟩
  | false => obtain ⟨h3, rfl⟩ := pureS h3; cases h3; exact iteF (q H1 ρ1 g1 k1)
theorem dw_or {rest : List Expr} (ha : DT X fa hs a ma) (hb : DW X fa hs (.BoolOp .Or (b :: rest) pos) mb) : DW X fa hs (.BoolOp .Or (a :: b :: rest) pos) (orM ma mb) := (pw_or ha hb).imp fun σ H Q ⟨σd, ρ, st, bb, st', h1, h2, h3, q⟩ => by
  obtain ⟨x, st1, e1, h3⟩ := bindS h3
  obtain ⟨k, st2, e2, h3⟩ := bindS h3
  obtain ⟨rfl, rfl⟩ := tstS e2
  refine ⟨σd, ρ, st, k, st1, h1, h2, e1, fun H1 ρ1 g1 k1 => ?_⟩
  cases k with
  | false => exact iteF ⟨σd, ρ1, st1, bb, st', h1.mono g1, k1, h3, fun H2 ρ2 g2 k2 => q H2 ρ2 (g1.trans g2) k2⟩
  | true => obtain ⟨h3, rfl⟩ := pureS h3; cases h3; exact iteT (q H1 ρ1 g1 k1)
theorem de_if {t : Expr} (hc : DT X fa hs t mc) (ha : DE X fa hs a ma) (hb : DE X fa hs b mb) : DE X fa hs (.IfExp t a b pos) (ifM mc ma mb) := (pe_ifExp hc ha hb).imp fun σ H Q ⟨σd, ρ, st, d, st', h1, h2, h3, q⟩ => by
  obtain ⟨x, st1, e1, h3⟩ := bindS h3
  obtain ⟨k, st2, e2, h3⟩ := bindS h3
  obtain ⟨rfl, rfl⟩ := tstS e2
  refine ⟨σd, ρ, st, k, st1, h1, h2, e1, fun H1 ρ1 g1 k1 => ?_⟩
  cases k with
  | true => exact iteT (.mk (h1.mono g1) k1 h3 (q.trans g1))
  | false => exact iteF (.mk (h1.mono g1) k1 h3 (q.trans g1))
end
end TL

/-! Subscripts, slices, calls, built-ins. -/
namespace TL
open PySem PySem.Spec PyProof.Rows L2
section
variable {X : Cx} {fa : Nat → Option Addr} {hs : D → Int} {e a b o : Expr} {es : List Expr} {pos p p2 apos cpos : Pos} {m ma mb mc : Env → M D} {ms : Env → M (List D)}

/-! ### x[i] -/
/-- what a dict's subscript must give -/
structure IxMore (X : Cx) (fa : Nat → Option Addr) (hs : D → Int) (mi : R2) : Prop where
  op : IxR X mi
  ans : ∀ {ρ : List Addr} {H : Hp} {st : Sto} {n : Nat} {i d : D} {kvs : List (D × D)} {vx vi : V} {Q : VK}, CH X fa hs ρ H st → CD X fa hs ρ H (.ref n) vx → CD X fa hs ρ H i vi → TL.getD st n = some kvs → keyFor kvs i = true → lookD kvs i = some d →
    Then (cx X fa hs) ρ H d st Q → mi vx vi H Q
theorem getItem_ok {mi : R2} (mo : IxMore X fa hs mi) {ρ : List Addr} {H : Hp} {st st' : Sto} {x i d : D} {vx vi : V} {Q : VK} (h : CH X fa hs ρ H st) (rx : CD X fa hs ρ H x vx) (ri : CD X fa hs ρ H i vi) (e : getItem x i st = some (d, st'))
    (q : Then (cx X fa hs) ρ H d st' Q) : rIxL X.K vx vi H Q ∨ (rIxT X.K vx vi H Q ∨ mi vx vi H Q) := by
  cases x with
  | tup xs =>
    cases i with
    | int k =>
      obtain ⟨f, z⟩ := liftS (show M.lift (TL.atI xs k) st = some (d, st') from e)
      subst z
      obtain ⟨a, vs, rfl, ha, ra⟩ := rx
      cases ri
      obtain ⟨v, hv, rv⟩ := atI_ok ra f
      exact .inr (.inl ⟨a, vs, k, v, rfl, rfl, ha, hv, q.here h rv⟩)
    | _ => cases e
  | ref n =>
    obtain ⟨f, z⟩ := rdS (show M.rd (fun st => match getL st n, i with
      | some xs, .int k => TL.atI xs k
      | _, _ => match TL.getD st n with
        | some kvs => if keyFor kvs i then lookD kvs i else none
        | none => none) st = some (d, st') from e)
    subst z
    have dict : (match TL.getD st n with
        | some kvs => if keyFor kvs i then lookD kvs i else none
        | none => none) = some d → rIxL X.K vx vi H Q ∨ (rIxT X.K vx vi H Q ∨ mi vx vi H Q) := fun f => by
      cases hg : TL.getD st n with
      | none => rw [hg] at f; cases f
      | some kvs =>
        rw [hg] at f
        have f' : (if keyFor kvs i then lookD kvs i else none) = some d := f
        split at f'
        · rename_i hk
          exact .inr (.inr (mo.ans h rx ri hg hk f' q))
        · cases f'
    split at f
    · rename_i xs k hg
      obtain ⟨a, ea, rfl⟩ := rx
      cases ri
      obtain ⟨vs, ha, ra⟩ := RH.list h hg ea
      obtain ⟨v, hv, rv⟩ := atI_ok ra f
      exact .inl ⟨a, vs, k, v, rfl, rfl, ha, hv, q.here h rv⟩
    · exact dict f
  | _ => cases e
theorem de_idx {mi : R2} (mo : IxMore X fa hs mi) (ha : DE X fa hs a ma) (hb : DE X fa hs b mb) (hp : PlainIx b) : DE X fa hs (.Subscript a b pos) (fun σ => M.bind (ma σ) fun x => M.bind (mb σ) fun y => getItem x y) :=
  (pe_ix (ix_list.or (ix_tup.or mo.op)) ha hb hp).imp fun σ H Q h => lift2 (fun ρ H st x y vx vy d st' Q k rx ry e q => getItem_ok mo k rx ry e q) h

/-! ### slices -/
def liftO (c : LC) (m : Env → M (Option Int)) : TO := fun σ H Q => ∃ σd ρ st i st', c.s ρ H σd σ ∧ c.h ρ H st ∧ m σd st = some (i, st') ∧ ∀ H' ρ', Gr c.K ρ H ρ' H' → c.h ρ' H' st' → Q i H'
abbrev DO_ (X : Cx) (fa : Nat → Option Addr) (hs : D → Int) (e : Option Expr) (m : Env → M (Option Int)) : Prop := PO X e (liftO (cx X fa hs) m)
theorem _root_.L2.PO.imp {X : Cx} {e : Option Expr} {t t' : TO} (h : PO X e t) (q : ∀ σ H Q, t' σ H Q → t σ H Q) : PO X e t' := ⟨fun pins s σ H Q I w => h.run pins s σ H Q I (q _ _ _ w)⟩
theorem do_none : DO_ X fa hs none (fun _ => pure none) := po_none.imp fun σ H Q ⟨σd, ρ, st, i, st', h1, h2, h3, q⟩ => by
  obtain ⟨rfl, rfl⟩ := pureS h3
  exact q H ρ Gr.refl h2
theorem do_some (h : DE X fa hs e m) : DO_ X fa hs (some e) (fun σ => M.bind (m σ) fun v => M.lift (optI v)) := (po_some h).imp fun σ H Q ⟨σd, ρ, st, i, st', h1, h2, h3, q⟩ => by
  obtain ⟨d, st1, e1, h3⟩ := bindS h3
  obtain ⟨f, rfl⟩ := liftS h3
  refine .mk h1 h2 e1 fun v H' ρ' g k r => ?_
  cases d with
  | int j => cases f; cases r; exact ⟨j, rfl, q H' ρ' g k⟩
  | _ => cases f
def sliceM (ma : Env → M D) (ml mh : Env → M (Option Int)) : Env → M D := fun σ => M.bind (ma σ) fun x => M.bind (ml σ) fun l => M.bind (mh σ) fun h => slice x l h
theorem slice_ok {ρ : List Addr} {H : Hp} {st st' : Sto} {x d : D} {vx : V} {lo hi : Option Int} {Q : VK} (h : CH X fa hs ρ H st) (rx : CD X fa hs ρ H x vx) (e : slice x lo hi st = some (d, st')) (q : Then (cx X fa hs) ρ H d st' Q) :
    rSlL X.K vx lo hi H Q ∨ rSlA X.K vx lo hi H Q := by
  cases x with
  | tup xs =>
    obtain ⟨rfl, z⟩ := pureS (show (pure (D.tup (cut xs lo hi)) : M D) st = some (d, st') from e)
    subst z
    obtain ⟨a, vs, rfl, ha, ra⟩ := rx
    have rc : (cx X fa hs).ds ρ H (cut xs lo hi) (cutV vs lo hi) := cut_ok (lo := lo) (hi := hi) ra
    refine .inr ⟨a, vs, rfl, ha, fun ⟨z1, z2⟩ => ?_, fun _ => new_tup h rc q⟩
    refine q.here h ⟨a, vs, rfl, ha, ?_⟩
    have e1 : cutV vs lo hi = vs := by
      unfold cutV
      rw [z1, z2, List.drop_zero, Nat.sub_zero, List.take_length]
    rw [e1] at rc
    exact rc
  | ref n =>
    have e' : (match getL st n with
      | some xs => alloc (.lst (cut xs lo hi)) st
      | none => none) = some (d, st') := e
    split at e'
    · rename_i xs hg
      obtain ⟨rfl, rfl⟩ := allocS e'
      obtain ⟨a, ea, rfl⟩ := rx
      obtain ⟨vs, ha, ra⟩ := RH.list h hg ea
      exact .inl ⟨a, vs, rfl, ha, new_lst h (cut_ok ra) q⟩
    · cases e'
  | _ => cases e
theorem de_slc {lo hi : Option Expr} {ml mh : Env → M (Option Int)} (ha : DE X fa hs a ma) (hl : DO_ X fa hs lo ml) (hh : DO_ X fa hs hi mh) : DE X fa hs (.Subscript a (.Slice lo hi none p2) pos) (sliceM ma ml mh) :=
  (pe_slice (sl_list.or sl_tupA) ha hl hh).imp fun σ H Q ⟨σd, ρ, st, d, st', h1, h2, h3, q⟩ => by
    obtain ⟨x, st1, e1, h3⟩ := bindS h3
    obtain ⟨l, st2, e2, h3⟩ := bindS h3
    obtain ⟨u, st3, e3, h3⟩ := bindS h3
    refine .mk h1 h2 e1 fun vx H1 ρ1 g1 k1 r1 => ⟨σd, ρ1, st1, l, st2, h1.mono g1, k1, e2, fun H2 ρ2 g2 k2 => ⟨σd, ρ2, st2, u, st3, h1.mono (g1.trans g2), k2, e3, fun H3 ρ3 g3 k3 => ?_⟩⟩
    exact slice_ok k3 (r1.mono (g2.trans g3)) h3 (q.trans (g1.trans (g2.trans g3)))

/-! ### calls of the text's own defs -/
/-- a def's promise: the evaluator's answer -/
def spF (c : LC) (cf : Nat → List D → M D) (np f : Nat) : Sp := fun vs H Q _ => ∃ ρ st ds d st', c.h ρ H st ∧ c.ds ρ H ds vs ∧ ds.length = np ∧ cf f ds st = some (d, st') ∧ Then c ρ H d st' Q
theorem da_len : ∀ {es : List E} {w : Nat} {cf : Nat → List D → M D} {σ : Env} {st st' : Sto} {ds : List D}, evs w cf es σ st = some (ds, st') → ds.length = es.length
  | [], _, _, _, _, _, _, h => by
    obtain ⟨rfl, _⟩ := pureS (show (pure [] : M (List D)) _ = _ from h)
    rfl
  | e :: es, w, cf, σ, st, st', ds, h => by
    obtain ⟨x, st1, e1, h⟩ := bindS (show M.bind (ev w cf e σ) (fun x => M.bind (evs w cf es σ) fun xs => pure (x :: xs)) st = some (ds, st') from h)
    obtain ⟨xs, st2, e2, h⟩ := bindS h
    obtain ⟨rfl, rfl⟩ := pureS h
    rw [List.length_cons, List.length_cons, da_len e2]
theorem call_ok {np f k : Nat} {cf : Nat → List D → M D} {σ : L2.St} {H : Hp} {Q : VK} (hl : ∀ σ st ds st', ms σ st = some (ds, st') → ds.length = np)
    (h : liftE (cx X fa hs) (fun σ => M.bind (ms σ) fun xs => cf f xs) σ H Q) : tCall (spF (cx X fa hs) cf np f) [] E0 (liftA (cx X fa hs) ms) σ H Q := by
  obtain ⟨σd, ρ, st, d, st', h1, h2, h3, q⟩ := h
  obtain ⟨xs, st1, e1, h3⟩ := bindS h3
  refine ⟨σd, ρ, st, xs, st1, h1, h2, e1, fun vs H1 ρ1 g1 k1 r1 => ?_⟩
  show spF (cx X fa hs) cf np f (vs ++ []) H1 Q E0
  rw [List.append_nil]
  exact ⟨ρ1, st1, xs, d, st', k1, r1, hl _ _ _ _ e1, h3, q.trans g1⟩
theorem de_call {x : Str} {np k f : Nat} {A : Addr} {fd : FuncData} {ps : List Str} {cf : Nat → List D → M D} (F : FnOk X.prog X.w X.K X.mg X.base CX0 k A fd ps (spF (cx X fa hs) cf np f)) (hr : Room k X.A) (hg : Gl X x) (hm : X.mg x = some (.ref A)) (hk : PySem.W.keepIn X.K (.ref A) = true)
    (hb : Binds X.K fd ps []) (ha : DA X fa hs (e :: es) ms) (hl : ∀ σ st ds st', ms σ st = some (ds, st') → ds.length = np) (hdb : (x == ("__debug__" : Str)) = false)
    (he : starEach (e :: es) X.env = (false, eval e X.env) :: starEach es X.env) (hpl : (backTo pos (starEach es X.env)).any (·.1) = false) : DE X fa hs (.Call (.Name x p) (e :: es) [] pos) (fun σ => M.bind (ms σ) fun xs => cf f xs) :=
  (pe_call F hr hg hm hk hb .nil pass0 ha hdb he hpl).imp fun σ H Q h => call_ok (k := k) hl h
theorem de_call0 {x : Str} {k f : Nat} {A : Addr} {fd : FuncData} {ps : List Str} {cf : Nat → List D → M D} (F : FnOk X.prog X.w X.K X.mg X.base CX0 k A fd ps (spF (cx X fa hs) cf 0 f)) (hr : Room k X.A) (hg : Gl X x) (hm : X.mg x = some (.ref A)) (hk : PySem.W.keepIn X.K (.ref A) = true)
    (hb : Binds X.K fd ps []) (hdb : (x == ("__debug__" : Str)) = false) : DE X fa hs (.Call (.Name x p) [] [] pos) (fun σ => M.bind (pure []) fun xs => cf f xs) :=
  (pe_call0 F hr hg hm hk hb .nil pass0 hdb).imp fun σ H Q ⟨σd, ρ, st, d, st', h1, h2, h3, q⟩ => ⟨ρ, st, [], d, st', h2, rfl, rfl, h3, q⟩
theorem de_call' {x : Str} {np k f : Nat} {A : Addr} {fd : FuncData} {ps : List Str} {cf : Nat → List D → M D} (F : FnOk X.prog X.w X.K X.mg X.base CX0 k A fd ps (spF (cx X fa hs) cf np f)) (hr : Room k X.A) (hg : Gl X x) (hm : X.mg x = some (.ref A)) (hk : PySem.W.keepIn X.K (.ref A) = true)
    (hb : Binds X.K fd ps []) (ha : DA X fa hs (e :: es) ms) (hl : ∀ xs st r, cf f xs st = some r → xs.length = np) (hdb : (x == ("__debug__" : Str)) = false)
    (he : starEach (e :: es) X.env = (false, eval e X.env) :: starEach es X.env) (hpl : (backTo pos (starEach es X.env)).any (·.1) = false) : DE X fa hs (.Call (.Name x p) (e :: es) [] pos) (fun σ => M.bind (ms σ) fun xs => cf f xs) :=
  (pe_call F hr hg hm hk hb .nil pass0 ha hdb he hpl).imp fun σ H Q ⟨σd, ρ, st, d, st', h1, h2, h3, q⟩ => by
    obtain ⟨xs, st1, e1, h3⟩ := bindS h3
    refine ⟨σd, ρ, st, xs, st1, h1, h2, e1, fun vs H1 ρ1 g1 k1 r1 => ?_⟩
    show spF (cx X fa hs) cf np f (vs ++ []) H1 Q E0
    rw [List.append_nil]
    exact ⟨ρ1, st1, xs, d, st', k1, r1, hl _ _ _ h3, h3, q.trans g1⟩
theorem de_call0' {x : Str} {np k f : Nat} {A : Addr} {fd : FuncData} {ps : List Str} {cf : Nat → List D → M D} (F : FnOk X.prog X.w X.K X.mg X.base CX0 k A fd ps (spF (cx X fa hs) cf np f)) (hr : Room k X.A) (hg : Gl X x) (hm : X.mg x = some (.ref A)) (hk : PySem.W.keepIn X.K (.ref A) = true)
    (hb : Binds X.K fd ps []) (hl : ∀ xs st r, cf f xs st = some r → xs.length = np) (hdb : (x == ("__debug__" : Str)) = false) : DE X fa hs (.Call (.Name x p) [] [] pos) (fun σ => M.bind (pure []) fun xs => cf f xs) :=
  (pe_call0 F hr hg hm hk hb .nil pass0 hdb).imp fun σ H Q ⟨σd, ρ, st, d, st', h1, h2, h3, q⟩ => ⟨ρ, st, [], d, st', h2, rfl, hl _ _ _ h3, h3, q⟩
/-- a def that a local name holds -/
theorem de_callv {x : Str} {i k : Nat} {cf : Nat → List D → M D} (hN : X.N[i]? = some x) (hv : Vis X.env.scope x)
    (hf : ∀ f A, fa f = some A → ∃ np, Held X.prog X.w X.K X.mg X.base k A (spF (cx X fa hs) cf np f) ∧ ∀ xs st r, cf f xs st = some r → xs.length = np) (hr : Room k X.A) (ha : DA X fa hs (e :: es) ms)
    (hdb : (x == ("__debug__" : Str)) = false) (hcd : (x == ("__classdict__" : Str)) = false)
    (he : starEach (e :: es) X.env = (false, eval e X.env) :: starEach es X.env) (hpl : (backTo pos (starEach es X.env)).any (·.1) = false) :
    DE X fa hs (.Call (.Name x p) (e :: es) [] pos) (fun σ => M.bind (M.lift (σ[i]?.bind id)) fun g => M.bind (ms σ) fun xs => match g with
      | .fn f => cf f xs
      | _ => M.fail) := by
  refine ⟨fun pins s σ H Q I ⟨σd, ρ, st, d, st', h1, h2, h3, q⟩ => ?_⟩
  obtain ⟨g, st1, e1, h3⟩ := bindS h3
  obtain ⟨f1, z1⟩ := liftS e1
  subst z1
  obtain ⟨xs, st2, e2, h3⟩ := bindS h3
  cases hi : σd[i]? with
  | none => rw [hi] at f1; cases f1
  | some og =>
    rw [hi] at f1
    have f1' : og = some g := f1
    subst f1'
    obtain ⟨v, hv', r⟩ := h1.get i g hi
    cases g with
    | fn f =>
      obtain ⟨A, hA, rfl⟩ := r
      obtain ⟨np, ⟨fd, ps, F, hk, hb⟩, hnp⟩ := hf f A hA
      refine (pe_callL (i := i) (f := A) (dvs := []) (E := E0) F hr hN hv hk hb .nil pass0 ha hdb hcd he hpl).run pins s σ H Q I ⟨hv', ?_⟩
      refine ⟨σd, ρ, st, xs, st2, h1, h2, e2, fun vs H1 ρ1 g1 k1 r1 => ?_⟩
      show spF (cx X fa hs) cf np f (vs ++ []) H1 Q E0
      rw [List.append_nil]
      exact ⟨ρ1, st2, xs, d, st', k1, r1, hnp _ _ _ h3, h3, q.trans g1⟩
    | _ => cases h3

/-! ### built-ins -/
theorem ints_V {c : LC} {ρ : List Addr} {H : Hp} : ∀ {ys : List D} {is : List Int} {vs : List V}, intsOf ys = some is → c.ds ρ H ys vs → vs = is.map V.int
  | [], _, _, e, r => by cases e; cases r; rfl
  | .int i :: ys, is, _, e, r => by
    have e' : (intsOf ys).map (i :: ·) = some is := e
    cases h : intsOf ys with
    | none => rw [h] at e'; cases e'
    | some js =>
      rw [h] at e'
      cases e'
      obtain ⟨v, t, rfl, rx, rt⟩ := r
      cases rx
      rw [ints_V h rt]
      rfl
  | .non :: _, _, _, e, _ => by cases e
  | .bl _ :: _, _, _, e, _ => by cases e
  | .str _ :: _, _, _, e, _ => by cases e
  | .tup _ :: _, _, _, e, _ => by cases e
  | .ref _ :: _, _, _, e, _ => by cases e
  | .fn _ :: _, _, _, e, _ => by cases e
  | .ty _ :: _, _, _, e, _ => by cases e
theorem bools_V {c : LC} {ρ : List Addr} {H : Hp} : ∀ {ys : List D} {is : List Bool} {vs : List V}, boolsOf ys = some is → c.ds ρ H ys vs → vs = is.map V.bl
  | [], _, _, e, r => by cases e; cases r; rfl
  | .bl i :: ys, is, _, e, r => by
    have e' : (boolsOf ys).map (i :: ·) = some is := e
    cases h : boolsOf ys with
    | none => rw [h] at e'; cases e'
    | some js =>
      rw [h] at e'
      cases e'
      obtain ⟨v, t, rfl, rx, rt⟩ := r
      cases rx
      rw [bools_V h rt]
      rfl
  | .non :: _, _, _, e, _ => by cases e
  | .int _ :: _, _, _, e, _ => by cases e
  | .str _ :: _, _, _, e, _ => by cases e
  | .tup _ :: _, _, _, e, _ => by cases e
  | .ref _ :: _, _, _, e, _ => by cases e
  | .fn _ :: _, _, _, e, _ => by cases e
  | .ty _ :: _, _, _, e, _ => by cases e
theorem maxI_mem : ∀ (a : Int) (r : List Int), maxI a r ∈ a :: r ∧ ∀ y ∈ a :: r, y ≤ maxI a r
  | a, [] => ⟨by simp [maxI], fun y hy => by simp at hy; subst hy; simp [maxI]⟩
  | a, b :: r => by
    obtain ⟨h1, h2⟩ := maxI_mem (if b > a then b else a) r
    have hle := h2 _ List.mem_cons_self
    show maxI (if b > a then b else a) r ∈ _ ∧ ∀ y ∈ _, y ≤ maxI (if b > a then b else a) r
    refine ⟨?_, fun y hy => ?_⟩
    · rcases List.mem_cons.mp h1 with h | h
      · rw [h]; split <;> simp
      · exact List.mem_cons_of_mem _ (List.mem_cons_of_mem _ h)
    · rcases List.mem_cons.mp hy with rfl | hy
      · split at hle <;> split <;> omega
      · rcases List.mem_cons.mp hy with rfl | hy
        · split at hle <;> split <;> omega
        · exact h2 y (List.mem_cons_of_mem _ hy)
theorem minI_mem : ∀ (a : Int) (r : List Int), minI a r ∈ a :: r ∧ ∀ y ∈ a :: r, minI a r ≤ y
  | a, [] => ⟨by simp [minI], fun y hy => by simp at hy; subst hy; simp [minI]⟩
  | a, b :: r => by
    obtain ⟨h1, h2⟩ := minI_mem (if b < a then b else a) r
    have hle := h2 _ List.mem_cons_self
    show minI (if b < a then b else a) r ∈ _ ∧ ∀ y ∈ _, minI (if b < a then b else a) r ≤ y
    refine ⟨?_, fun y hy => ?_⟩
    · rcases List.mem_cons.mp h1 with h | h
      · rw [h]; split <;> simp
      · exact List.mem_cons_of_mem _ (List.mem_cons_of_mem _ h)
    · rcases List.mem_cons.mp hy with rfl | hy
      · split at hle <;> split <;> omega
      · rcases List.mem_cons.mp hy with rfl | hy
        · split at hle <;> split <;> omega
        · exact h2 y (List.mem_cons_of_mem _ hy)
end
end TL

/-! Built-ins, methods of lists, ranges as values. -/
namespace TL
open PySem PySem.Spec PyProof.Rows L2
section
variable {X : Cx} {fa : Nat → Option Addr} {hs : D → Int} {e a b o : Expr} {es : List Expr} {pos p p2 apos cpos : Pos} {m ma mb mc : Env → M D} {ms : Env → M (List D)}
variable {ρ : List Addr} {H : Hp} {st st' : Sto} {d : D} {Q : VK} {ds : List D} {vs : List V}

/-- what a built-in's rule must give -/
def BiOk (X : Cx) (fa : Nat → Option Addr) (hs : D → Int) (b : Bi) (r : List V → Hp → VK → Prop) : Prop :=
  ∀ {ρ : List Addr} {H : Hp} {st st' : Sto} {ds : List D} {vs : List V} {d : D} {Q : VK}, CH X fa hs ρ H st → (cx X fa hs).ds ρ H ds vs → bifn b ds st = some (d, st') → Then (cx X fa hs) ρ H d st' Q → r vs H Q
theorem de_biB {b : Bi} {x : Str} {id : String} {r : List V → Hp → VK → Prop} (hc : CallR X (.builtin id) r) (ok : BiOk X fa hs b r) (hg : Gl X x) (hm : X.mg x = none) (hv : bootBuiltins x = some (.builtin id)) (ha : DA X fa hs (e :: es) ms) (hn : x ≠ "__name__") (hdb : (x == ("__debug__" : Str)) = false)
    (he : starEach (e :: es) X.env = (false, eval e X.env) :: starEach es X.env) (hpl : (backTo pos (starEach es X.env)).any (·.1) = false) : DE X fa hs (.Call (.Name x p) (e :: es) [] pos) (fun σ => M.bind (ms σ) fun xs => bifn b xs) :=
  (pe_callB hc hg hm hv ha hn hdb he hpl).imp fun σ H Q h => liftA.then (m2 := bifn b) (fun ρ H st ds vs d st' Q k r e q => ok k r e q) h
theorem de_biT {b : Bi} {x : Str} {T : String} {r : List V → Hp → VK → Prop} (hc : CallR X (.type T) r) (ok : BiOk X fa hs b r) (hg : Gl X x) (hm : X.mg x = none) (hv : bootBuiltins x = some (.type T)) (ha : DA X fa hs (e :: es) ms) (hn : x ≠ "__name__") (hdb : (x == ("__debug__" : Str)) = false)
    (he : starEach (e :: es) X.env = (false, eval e X.env) :: starEach es X.env) (hpl : (backTo pos (starEach es X.env)).any (·.1) = false) : DE X fa hs (.Call (.Name x p) (e :: es) [] pos) (fun σ => M.bind (ms σ) fun xs => bifn b xs) :=
  (pe_callTy hc hg hm hv ha hn hdb he hpl).imp fun σ H Q h => liftA.then (m2 := bifn b) (fun ρ H st ds vs d st' Q k r e q => ok k r e q) h

theorem RDs.one {c : LC} {x : D} (r : c.ds ρ H [x] vs) : ∃ v, vs = [v] ∧ c.d ρ H x v := by
  obtain ⟨v, t, rfl, rx, rt⟩ := r
  cases rt
  exact ⟨v, rfl, rx⟩
theorem RDs.two {c : LC} {x y : D} (r : c.ds ρ H [x, y] vs) : ∃ v u, vs = [v, u] ∧ c.d ρ H x v ∧ c.d ρ H y u := by
  obtain ⟨v, t, rfl, rx, rt⟩ := r
  obtain ⟨u, rfl, ry⟩ := RDs.one rt
  exact ⟨v, u, rfl, rx, ry⟩
/-- a rule for a dict beside -/
abbrev RL := List V → Hp → VK → Prop
def rNoL : RL := fun _ _ _ => False
theorem cr_no {f : Value} : CallR X f rNoL := fun _ _ _ _ _ _ _ _ _ h => h.elim
/-- len and list of a dict -/
structure LenMore (X : Cx) (fa : Nat → Option Addr) (hs : D → Int) (ml mi : RL) : Prop where
  opLen : CallR X (.builtin "len") ml
  opList : CallR X (.type "list") mi
  len : ∀ {ρ : List Addr} {H : Hp} {st : Sto} {n : Nat} {kvs : List (D × D)} {v : V} {Q : VK}, CH X fa hs ρ H st → CD X fa hs ρ H (.ref n) v → TL.getDX st n = some kvs → Q (.int kvs.length) H → ml [v] H Q
  list : ∀ {ρ : List Addr} {H : Hp} {st : Sto} {n : Nat} {kvs : List (D × D)} {v : V} {Q : VK}, CH X fa hs ρ H st → CD X fa hs ρ H (.ref n) v → TL.getDX st n = some kvs →
    Then (cx X fa hs) ρ H (.ref st.length) (st ++ [.lst (kvs.map (·.1))]) Q → mi [v] H Q
def lenR (K : PySem.W.Frag) (ml : RL) : RL := fun xs H Q => (∃ x n, xs = [x] ∧ LenV K x H n ∧ Q (.int n) H) ∨ ml xs H Q
theorem len_ok {ml mi : RL} (mo : LenMore X fa hs ml mi) : BiOk X fa hs .len (lenR X.K ml) := by
  intro ρ H st st' ds vs d Q h r e q
  have e' : lenF ds st = some (d, st') := e
  unfold lenF at e'
  split at e'
  · obtain ⟨rfl, rfl⟩ := pureS e'
    obtain ⟨v, rfl, a, us, rfl, ha, ra⟩ := RDs.one r
    exact .inl ⟨_, us.length, rfl, .inr ⟨us, ha, rfl⟩, by rw [← ra.length]; exact q.here h rfl⟩
  · rename_i n
    obtain ⟨v, rfl, rx⟩ := RDs.one r
    obtain ⟨f, z⟩ := rdS e'
    subst z
    split at f
    · rename_i ys hg
      cases f
      obtain ⟨a, ea, rfl⟩ := rx
      obtain ⟨us, ha, ra⟩ := RH.list h hg ea
      exact .inl ⟨_, us.length, rfl, .inl ⟨us, ha, rfl⟩, by rw [← ra.length]; exact q.here h rfl⟩
    · rename_i hn
      cases hd : TL.getDX st n with
      | none => rw [hd] at f; cases f
      | some kvs =>
        rw [hd] at f
        cases f
        exact .inr (mo.len h rx hd (q.here h rfl))
  · cases e'
def listR (K : PySem.W.Frag) (mi : RL) : RL := fun xs H Q => (∃ p ys, xs = [.ref p] ∧ (SqL K H p ys ∨ SqT K H p ys) ∧ ∀ l, H l = none → Q (.ref l) (upd H l (.lst ys))) ∨ mi xs H Q
theorem list_ok {ml mi : RL} (mo : LenMore X fa hs ml mi) : BiOk X fa hs .list (listR X.K mi) := by
  intro ρ H st st' ds vs d Q h r e q
  have e' : listF ds st = some (d, st') := e
  unfold listF at e'
  split at e'
  · obtain ⟨rfl, rfl⟩ := allocS e'
    obtain ⟨v, rfl, a, us, rfl, ha, ra⟩ := RDs.one r
    exact .inl ⟨a, us, rfl, .inr ha, new_lst h ra q⟩
  · obtain ⟨v, rfl, rx⟩ := RDs.one r
    split at e'
    · rename_i ys hg
      obtain ⟨rfl, rfl⟩ := allocS e'
      obtain ⟨a, ea, rfl⟩ := rx
      obtain ⟨us, ha, ra⟩ := RH.list h hg ea
      exact .inl ⟨a, us, rfl, .inl ha, new_lst h ra q⟩
    · split at e'
      · rename_i kvs hd
        obtain ⟨rfl, rfl⟩ := allocS e'
        exact .inr (mo.list h rx hd q)
      · cases e'
  · cases e'
theorem tuple_ok : BiOk X fa hs .tuple (fun xs H Q => ∃ p ys, xs = [.ref p] ∧ ((SqL X.K H p ys ∧ ∀ l, H l = none → Q (.ref l) (upd H l (.tup ys))) ∨ (SqT X.K H p ys ∧ Q (.ref p) H))) := by
  intro ρ H st st' ds vs d Q h r e q
  have e' : tupleF ds st = some (d, st') := e
  unfold tupleF at e'
  split at e'
  · obtain ⟨rfl, rfl⟩ := pureS e'
    obtain ⟨v, rfl, a, us, rfl, ha, ra⟩ := RDs.one r
    exact ⟨a, us, rfl, .inr ⟨ha, q.here h ⟨a, us, rfl, ha, ra⟩⟩⟩
  · rename_i n
    obtain ⟨v, rfl, rx⟩ := RDs.one r
    obtain ⟨f, z⟩ := rdS e'
    subst z
    cases hg : getL st n with
    | none => rw [hg] at f; cases f
    | some ys =>
      rw [hg] at f
      cases f
      obtain ⟨a, ea, rfl⟩ := rx
      obtain ⟨us, ha, ra⟩ := RH.list h hg ea
      exact ⟨a, us, rfl, .inl ⟨ha, new_tup h ra q⟩⟩
  · cases e'
def maxR (K : PySem.W.Frag) : RL := fun xs H Q => (∃ i j, xs = [.int i, .int j] ∧ Q (.int (if j > i then j else i)) H) ∨ rMax K xs H Q
def minR (K : PySem.W.Frag) : RL := fun xs H Q => (∃ i j, xs = [.int i, .int j] ∧ Q (.int (if j < i then j else i)) H) ∨ rMin K xs H Q
/-- the list of ints at x -/
theorem intList {n : Nat} {v : V} {is : List Int} (h : CH X fa hs ρ H st) (r : CD X fa hs ρ H (.ref n) v) (e : (getL st n).bind intsOf = some is) : ∃ a, v = .ref a ∧ SqL X.K H a (is.map V.int) := by
  obtain ⟨a, ea, rfl⟩ := r
  cases hg : getL st n with
  | none => rw [hg] at e; cases e
  | some ys =>
    rw [hg] at e
    obtain ⟨us, ha, ra⟩ := RH.list h hg ea
    rw [ints_V e ra] at ha
    exact ⟨a, rfl, ha⟩
theorem boolList {n : Nat} {v : V} {is : List Bool} (h : CH X fa hs ρ H st) (r : CD X fa hs ρ H (.ref n) v) (e : (getL st n).bind boolsOf = some is) : ∃ a, v = .ref a ∧ SqL X.K H a (is.map V.bl) := by
  obtain ⟨a, ea, rfl⟩ := r
  cases hg : getL st n with
  | none => rw [hg] at e; cases e
  | some ys =>
    rw [hg] at e
    obtain ⟨us, ha, ra⟩ := RH.list h hg ea
    rw [bools_V e ra] at ha
    exact ⟨a, rfl, ha⟩
theorem max_ok : BiOk X fa hs .max (maxR X.K) := by
  intro ρ H st st' ds vs d Q h r e q
  have e' : maxF ds st = some (d, st') := e
  unfold maxF at e'
  split at e'
  · rename_i a b
    obtain ⟨rfl, rfl⟩ := pureS e'
    obtain ⟨v, u, rfl, rx, ry⟩ := RDs.two r
    cases rx; cases ry
    exact .inl ⟨a, b, rfl, q.here h rfl⟩
  · rename_i n
    obtain ⟨v, rfl, rx⟩ := RDs.one r
    obtain ⟨f, z⟩ := rdS e'
    subst z
    split at f
    · rename_i a rest hg
      cases f
      obtain ⟨A, rfl, hl⟩ := intList h rx hg
      obtain ⟨m1, m2⟩ := maxI_mem a rest
      refine .inr ⟨A, a :: rest, rfl, hl, Nat.succ_pos _, fun m h1 h2 => ?_⟩
      have e1 : m = maxI a rest := Int.le_antisymm (m2 m h1) (h2 _ m1)
      rw [e1]
      exact q.here h rfl
    · cases f
  · cases e'
theorem min_ok : BiOk X fa hs .min (minR X.K) := by
  intro ρ H st st' ds vs d Q h r e q
  have e' : minF ds st = some (d, st') := e
  unfold minF at e'
  split at e'
  · rename_i a b
    obtain ⟨rfl, rfl⟩ := pureS e'
    obtain ⟨v, u, rfl, rx, ry⟩ := RDs.two r
    cases rx; cases ry
    exact .inl ⟨a, b, rfl, q.here h rfl⟩
  · rename_i n
    obtain ⟨v, rfl, rx⟩ := RDs.one r
    obtain ⟨f, z⟩ := rdS e'
    subst z
    split at f
    · rename_i a rest hg
      cases f
      obtain ⟨A, rfl, hl⟩ := intList h rx hg
      obtain ⟨m1, m2⟩ := minI_mem a rest
      refine .inr ⟨A, a :: rest, rfl, hl, Nat.succ_pos _, fun m h1 h2 => ?_⟩
      have e1 : m = minI a rest := Int.le_antisymm (h2 _ m1) (m2 m h1)
      rw [e1]
      exact q.here h rfl
    · cases f
  · cases e'
theorem any_ok : BiOk X fa hs .any (rAny X.K) := by
  intro ρ H st st' ds vs d Q h r e q
  have e' : anyF ds st = some (d, st') := e
  unfold anyF at e'
  split at e'
  · rename_i n
    obtain ⟨v, rfl, rx⟩ := RDs.one r
    obtain ⟨f, z⟩ := rdS e'
    subst z
    cases hg : (getL st n).bind boolsOf with
    | none => rw [hg] at f; cases f
    | some bs =>
      rw [hg] at f
      cases f
      obtain ⟨A, rfl, hl⟩ := boolList h rx hg
      exact ⟨A, bs, rfl, hl, q.here h rfl⟩
  · cases e'
theorem all_ok : BiOk X fa hs .all (rAll X.K) := by
  intro ρ H st st' ds vs d Q h r e q
  have e' : allF ds st = some (d, st') := e
  unfold allF at e'
  split at e'
  · rename_i n
    obtain ⟨v, rfl, rx⟩ := RDs.one r
    obtain ⟨f, z⟩ := rdS e'
    subst z
    cases hg : (getL st n).bind boolsOf with
    | none => rw [hg] at f; cases f
    | some bs =>
      rw [hg] at f
      cases f
      obtain ⟨A, rfl, hl⟩ := boolList h rx hg
      exact ⟨A, bs, rfl, hl, q.here h rfl⟩
  · cases e'
theorem int_ok : BiOk X fa hs .int (fun xs H Q => (∃ i, xs = [.int i] ∧ Q (.int i) H) ∨ ∃ k, xs = [.bl k] ∧ Q (.int (if k then 1 else 0)) H) := by
  intro ρ H st st' ds vs d Q h r e q
  have e' : intF ds st = some (d, st') := e
  unfold intF at e'
  split at e'
  · rename_i a
    obtain ⟨rfl, rfl⟩ := pureS e'
    obtain ⟨v, rfl, rx⟩ := RDs.one r
    cases rx
    exact .inl ⟨a, rfl, q.here h rfl⟩
  · rename_i k
    obtain ⟨rfl, rfl⟩ := pureS e'
    obtain ⟨v, rfl, rx⟩ := RDs.one r
    cases rx
    exact .inr ⟨k, rfl, q.here h rfl⟩
  · cases e'
theorem bool_ok : BiOk X fa hs .bool (fun xs H Q => (∃ i, xs = [.int i] ∧ Q (.bl (i != 0)) H) ∨ ∃ k, xs = [.bl k] ∧ Q (.bl k) H) := by
  intro ρ H st st' ds vs d Q h r e q
  have e' : boolF ds st = some (d, st') := e
  unfold boolF at e'
  split at e'
  · rename_i a
    obtain ⟨rfl, rfl⟩ := pureS e'
    obtain ⟨v, rfl, rx⟩ := RDs.one r
    cases rx
    exact .inl ⟨a, rfl, q.here h rfl⟩
  · rename_i k
    obtain ⟨rfl, rfl⟩ := pureS e'
    obtain ⟨v, rfl, rx⟩ := RDs.one r
    cases rx
    exact .inr ⟨k, rfl, q.here h rfl⟩
  · cases e'

/-! ### isinstance -/
def tyNo : D → Option Nat
  | .non => some 9
  | .bl _ => some 1
  | .int _ => some 0
  | .str _ => some 2
  | .tup _ => some 4
  | .ref _ => some 3
  | _ => none
def tyN (k : Nat) : String := if k = 9 then "NoneType" else tyL.getD k ""
/-- every answer among the classes -/
theorem kits : ∀ k ∈ [0, 1, 2, 3, 4, 9], ∀ c ∈ [0, 1, 2, 3, 4], kitB (tyN k) (tyN c) = some (k == c || (k == 1 && c == 0)) := by decide +kernel
theorem beq_lem (n k : Nat) (h : n ∈ [0, 2, 3, 4]) : (n == k) = (n == k || (n == 1 && k == 0)) := by
  have : (n == 1) = false := by
    simp only [List.mem_cons, List.not_mem_nil, or_false] at h
    rcases h with rfl | rfl | rfl | rfl <;> rfl
  rw [this, Bool.false_and, Bool.or_false]
theorem isTy_ty {x : D} {v : V} {k : Nat} {r : Bool} (h : CH X fa hs ρ H st) (rx : CD X fa hs ρ H x v) (e : isTy st x k = some r) :
    ∃ n, n ∈ [0, 1, 2, 3, 4, 9] ∧ TyX X.K H v (.type (tyN n)) ∧ ∀ k r, k ∈ [0, 1, 2, 3, 4] → isTy st x k = some r → r = (n == k || (n == 1 && k == 0)) := by
  cases x with
  | non =>
    cases rx
    refine ⟨9, by decide, .base .non, fun k r hk e => ?_⟩
    cases e
    simp only [List.mem_cons, List.not_mem_nil, or_false] at hk
    rcases hk with rfl | rfl | rfl | rfl | rfl <;> rfl
  | bl b =>
    cases rx
    refine ⟨1, by decide, .base (.bl b), fun k r hk e => ?_⟩
    cases e
    simp only [List.mem_cons, List.not_mem_nil, or_false] at hk
    rcases hk with rfl | rfl | rfl | rfl | rfl <;> rfl
  | int b => cases rx; exact ⟨0, by decide, .base (.int b), fun k r _ e => by cases e; rw [← beq_lem 0 k (by decide), Bool.beq_comm]⟩
  | str b => obtain ⟨s, _, rfl⟩ := rx; exact ⟨2, by decide, .base (.str s), fun k r _ e => by cases e; rw [← beq_lem 2 k (by decide), Bool.beq_comm]⟩
  | tup xs =>
    obtain ⟨a, vs, rfl, ha, _⟩ := rx
    refine ⟨4, by decide, ?_, fun k r _ e => by cases e; rw [← beq_lem 4 k (by decide), Bool.beq_comm]⟩
    rcases ha with (ha | ⟨o, ha⟩) | ⟨o, its, n, ho, hc, _⟩
    · exact .base (.tup ha)
    · exact .fTuple ha
    · exact .kTuple ho hc
  | ref n =>
    have e' : (match getL st n with
      | some _ => some (k == 3)
      | none => none) = some r := e
    split at e'
    · rename_i ys hg
      obtain ⟨a, ea, rfl⟩ := rx
      obtain ⟨vs, ha, _⟩ := RH.list h hg ea
      refine ⟨3, by decide, ?_, fun k r _ e => ?_⟩
      · rcases ha with (ha | ⟨o, ha⟩) | ⟨o, its, n, ho, hc, _⟩
        · exact .base (.lst ha)
        · exact .base (.frz ha)
        · exact .kList ho hc
      · have e2 : (match getL st n with
          | some _ => some (k == 3)
          | none => none) = some r := e
        rw [hg] at e2
        cases e2
        rw [← beq_lem 3 k (by decide), Bool.beq_comm]
    · cases e'
  | fn f => cases e
  | ty t => cases e
theorem ty_lt {k : Nat} {v : V} (r : CD X fa hs ρ H (.ty k) v) : k ∈ [0, 1, 2, 3, 4] ∧ v = .ty (tyN k) := by
  obtain ⟨t, e, rfl⟩ := r
  obtain ⟨hk, e'⟩ := List.getElem?_eq_some_iff.mp e
  have hk' : k < 5 := hk
  have hm : k ∈ [0, 1, 2, 3, 4] := by
    simp only [List.mem_cons, List.not_mem_nil, or_false]
    omega
  refine ⟨hm, ?_⟩
  have : ¬ k = 9 := by omega
  unfold tyN
  rw [if_neg this]
  simp [List.getD, e]
def rIsiS (K : PySem.W.Frag) : RL := fun xs H Q => ∃ (x : V) (tp : Addr) (cs : List V) (t : Value) (us : List Value) (b : Bool), xs = [x, .ref tp] ∧ SqT K H tp cs ∧ Paired ClsV cs us ∧ TyX K H x t ∧ PySem.W.kitAny K t us = some b ∧ Q (.bl b) H
theorem call_isiS : CallR X (.builtin "isinstance") (rIsiS X.K) := by
  intro pins s σ H xs us Q I r h
  obtain ⟨x, tp, cs, t, ws, b, rfl, hT, k, ty, e, q⟩ := h
  obtain ⟨u1, u2, rfl, r1, r2⟩ := vals2 r
  cases (show u2 = Value.ref tp from r2)
  obtain ⟨Pk, Z, hp, hx⟩ := kit_of I r1 ty
  obtain ⟨its, rv, ⟨ob, h1, h2, n, h3⟩, _⟩ := I.tuple hT
  have e3 := ClsV.all k rv
  subst e3
  obtain ⟨oc, od, dt, sl⟩ := ob
  simp only at h2 h3
  subst h2 h3
  exact PySem.W.kia_tup Z I.kIn hp h1 e hx fun tk => ⟨.bl b, H, I.tok tk, rfl, q⟩
def isR (K : PySem.W.Frag) : RL := fun xs H Q => rIsi K xs H Q ∨ rIsiS K xs H Q
theorem isinst_ok : BiOk X fa hs .isinst (isR X.K) := by
  intro ρ H st st' ds vs d Q h r e q
  have e' : isinstF ds st = some (d, st') := e
  unfold isinstF at e'
  split at e'
  · rename_i x t
    obtain ⟨v, u, rfl, rx, rt⟩ := RDs.two r
    obtain ⟨f, z⟩ := rdS e'
    subst z
    cases hb : isInst st x t with
    | none => rw [hb] at f; cases f
    | some b =>
      rw [hb] at f
      cases f
      have fin : Q (.bl b) H := q.here h rfl
      unfold isInst at hb
      split at hb
      · rename_i k
        obtain ⟨hk, rfl⟩ := ty_lt rt
        obtain ⟨n, hn, ht, hall⟩ := isTy_ty h rx hb
        rw [hall k _ hk hb] at fin
        exact .inl ⟨v, .ty (tyN k), .type (tyN n), .type (tyN k), _, rfl, .ty _, ht, kit_ty (kits n hn k hk), fin⟩
      · rename_i k1 k2
        split at hb
        · rename_i b1 b2 h1 h2
          cases hb
          obtain ⟨a, us, rfl, ha, ra⟩ := rt
          obtain ⟨u1, u2, rfl, r1, r2⟩ := RDs.two ra
          obtain ⟨hk1, rfl⟩ := ty_lt r1
          obtain ⟨hk2, rfl⟩ := ty_lt r2
          obtain ⟨n, hn, ht, hall⟩ := isTy_ty h rx h1
          have e1 := hall k1 _ hk1 h1
          have e2 := hall k2 _ hk2 h2
          refine .inr ⟨v, a, _, .type (tyN n), [.type (tyN k1), .type (tyN k2)], b1 || b2, rfl, ha, .cons (.ty _) (.cons (.ty _) .nil), ht, ?_, fin⟩
          have q1 := kit_ty (K := X.K) (kits n hn k1 hk1)
          have q2 := kit_ty (K := X.K) (kits n hn k2 hk2)
          rw [← e1] at q1
          rw [← e2] at q2
          refine kitAny_cons q1 (fun z => kitAny_cons q2 (fun z2 => ?_) fun z2 => ?_) fun z => ?_
          · rw [z, z2]; rfl
          · rw [z2, Bool.or_true]
          · rw [z, Bool.true_or]
        · cases hb
      · cases hb
  · cases e'
end
end TL

/-! Targets, statements, loops. -/
namespace TL
open PySem PySem.Spec PyProof.Rows L2

/-- the slots that a target stores -/
def tgS : Tg → List Nat
  | .n i => [i]
  | .t ts => tgsS ts
  | .sub _ _ => []
where tgsS : List Tg → List Nat
  | [] => []
  | t :: ts => tgS t ++ tgsS ts
theorem wipe_set {σ : L2.St} {i : Nat} {v : Option V} : ∀ {vs : List Nat}, i ∈ vs → L2.wipe (σ.set i v) vs = L2.wipe σ vs := by
  intro vs
  induction vs with
  | nil => intro h; cases h
  | cons w ws ih =>
    intro h
    show (L2.wipe (σ.set i v) ws).set w none = (L2.wipe σ ws).set w none
    by_cases hm : i ∈ ws
    · rw [ih hm]
    · have hw : i = w := by
        rcases List.mem_cons.mp h with e | e
        · exact e
        · exact absurd e hm
      subst hw
      clear ih h
      have gen : ∀ (ws : List Nat), i ∉ ws → L2.wipe (σ.set i v) ws = (L2.wipe σ ws).set i v := by
        intro ws
        induction ws with
        | nil => intro _; rfl
        | cons u us ih =>
          intro h
          simp only [List.mem_cons, not_or] at h
          show (L2.wipe (σ.set i v) us).set u none = ((L2.wipe σ us).set u none).set i v
          rw [ih h.2, List.set_comm _ _ h.1]
      rw [gen ws hm, List.set_set]

section
variable {X : Cx} {fa : Nat → Option Addr} {hs : D → Int} {e a b o : Expr} {es : List Expr} {pos p p2 apos cpos : Pos} {m ma mb mc : Env → M D} {ms : Env → M (List D)}

/-! ### targets -/
def liftG (c : LC) (sl : List Nat) (m : D → Env → M Env) : TG := fun v σ H Q => ∃ σd ρ st d σd' st', c.s ρ H σd σ ∧ c.h ρ H st ∧ c.d ρ H d v ∧ m d σd st = some (σd', st') ∧
  ∀ σ' H' ρ', Gr c.K ρ H ρ' H' → c.s ρ' H' σd' σ' → c.h ρ' H' st' → (∀ vs, (∀ i ∈ sl, i ∈ vs) → L2.wipe σ' vs = L2.wipe σ vs) → Q σ' H'
def liftGs (c : LC) (sl : List Nat) (m : List D → Env → M Env) : TGs := fun v σ H Q => ∃ σd ρ st d σd' st', c.s ρ H σd σ ∧ c.h ρ H st ∧ c.ds ρ H d v ∧ m d σd st = some (σd', st') ∧
  ∀ σ' H' ρ', Gr c.K ρ H ρ' H' → c.s ρ' H' σd' σ' → c.h ρ' H' st' → (∀ vs, (∀ i ∈ sl, i ∈ vs) → L2.wipe σ' vs = L2.wipe σ vs) → Q σ' H'
abbrev DG (X : Cx) (fa : Nat → Option Addr) (hs : D → Int) (t : Expr) (sl : List Nat) (m : D → Env → M Env) : Prop := PG X t (liftG (cx X fa hs) sl m)
abbrev DGs (X : Cx) (fa : Nat → Option Addr) (hs : D → Int) (t : List Expr) (sl : List Nat) (m : List D → Env → M Env) : Prop := PGs X t (liftGs (cx X fa hs) sl m)
theorem _root_.L2.PG.imp {X : Cx} {e : Expr} {t t' : TG} (h : PG X e t) (q : ∀ v σ H Q, t' v σ H Q → t v σ H Q) : PG X e t' := ⟨fun pins s σ H v u Q I r w => h.run pins s σ H v u Q I r (q _ _ _ _ w)⟩
theorem _root_.L2.PGs.imp {X : Cx} {e : List Expr} {t t' : TGs} (h : PGs X e t) (q : ∀ v σ H Q, t' v σ H Q → t v σ H Q) : PGs X e t' := ⟨fun pins s σ H v u Q I r w => h.run pins s σ H v u Q I r (q _ _ _ _ w)⟩
theorem dg_name {i : Nat} {x : Str} (hN : X.N.Nodup) (hi : X.N[i]? = some x) (hx : Loc X.env.scope x) (hf : X.fn x = true ∨ X.env.scope.names.lookup x = some .local) : DG X fa hs (.Name x pos) [i] (fun d σ => pure (σ.set i (some d))) :=
  (pg_name hN hi hx hf).imp fun v σ H Q ⟨σd, ρ, st, d, σd', st', h1, h2, h3, h4, q⟩ => by
    obtain ⟨rfl, rfl⟩ := pureS h4
    exact q _ H ρ Gr.refl (h1.set i h3) h2 fun vs hv => wipe_set (hv i (by simp))
theorem dgs_nil : DGs X fa hs [] [] (fun ds σ => match ds with | [] => pure σ | _ => M.fail) := pgs_nil.imp fun v σ H Q ⟨σd, ρ, st, d, σd', st', h1, h2, h3, h4, q⟩ => by
  cases d with
  | nil =>
    cases h3
    obtain ⟨rfl, rfl⟩ := pureS h4
    exact ⟨rfl, q σ H ρ Gr.refl h1 h2 fun _ _ => rfl⟩
  | cons _ _ => cases h4
def consG (m1 : D → Env → M Env) (m2 : List D → Env → M Env) : List D → Env → M Env := fun ds σ => match ds with
  | d :: r => M.bind (m1 d σ) fun σ1 => m2 r σ1
  | [] => M.fail
theorem dgs_cons {t : Expr} {ts : List Expr} {s1 s2 : List Nat} {m1 : D → Env → M Env} {m2 : List D → Env → M Env} (h1 : DG X fa hs t s1 m1) (h2 : DGs X fa hs ts s2 m2) (hst : (assignEach (t :: ts) X.env).map (·.2) = assign t X.env :: (assignEach ts X.env).map (·.2)) :
    DGs X fa hs (t :: ts) (s1 ++ s2) (consG m1 m2) := (pgs_cons h1 h2 hst).imp fun v σ H Q ⟨σd, ρ, st, d, σd', st', g1, g2, g3, g4, q⟩ => by
  cases d with
  | nil => cases g4
  | cons x r =>
    obtain ⟨v1, vr, rfl, rx, rr⟩ := g3
    obtain ⟨σ1, st1, e1, g4⟩ := bindS g4
    refine ⟨v1, vr, rfl, σd, ρ, st, x, σ1, st1, g1, g2, rx, e1, fun σ2 H2 ρ2 gr k1 k2 k3 => ⟨σ1, ρ2, st1, r, σd', st', k1, k2, RDs.mono gr rr, g4, fun σ3 H3 ρ3 gr2 l1 l2 l3 => ?_⟩⟩
    refine q σ3 H3 ρ3 (gr.trans gr2) l1 l2 fun vs hv => ?_
    rw [l3 vs fun i hi => hv i (List.mem_append_right _ hi), k3 vs fun i hi => hv i (List.mem_append_left _ hi)]
def tupG (n : Nat) (m : List D → Env → M Env) : D → Env → M Env := fun d σ => match d with
  | .tup ds => if ds.length = n then m ds σ else M.fail
  | _ => M.fail
theorem dg_tup {ts : List Expr} {k n : Nat} {sl : List Nat} {m : List D → Env → M Env} (hc : X.calm = true) (h : DGs X fa hs ts sl m) (hn : (assignEach ts X.env).length = n) (hst : (assignEach ts X.env).findIdx? (·.1) = none) :
    DG X fa hs (.Tuple ts k pos) sl (tupG n m) := (pg_tup hc h hn hst).imp fun v σ H Q ⟨σd, ρ, st, d, σd', st', g1, g2, g3, g4, q⟩ => by
  cases d with
  | tup ds =>
    obtain ⟨hl, g4⟩ := iteS (show (if ds.length = n then m ds σd else M.fail) st = some (σd', st') from g4)
    obtain ⟨a, vs, rfl, ha, ra⟩ := g3
    exact ⟨a, vs, rfl, ha, by rw [← ra.length]; exact hl, σd, ρ, st, ds, σd', st', g1, g2, ra, g4, q⟩
  | _ => cases g4
/-- o[i] = v: a list's, and what a dict's rule must give -/
structure SetMore (X : Cx) (fa : Nat → Option Addr) (hs : D → Int) (ms : TSet) : Prop where
  op : PSet X ms
  ans : ∀ {ρ : List Addr} {H : Hp} {st : Sto} {n : Nat} {i d : D} {kvs : List (D × D)} {vx vi vd : V} {Q : Hp → Prop}, CH X fa hs ρ H st → CD X fa hs ρ H (.ref n) vx → CD X fa hs ρ H i vi → CD X fa hs ρ H d vd → st[n]? = some (.dct kvs) → keyFor kvs i = true → kvs.length < LIM →
    (∀ H' ρ', Gr X.K ρ H ρ' H' → CH X fa hs ρ' H' (st.set n (.dct (putD kvs i d))) → Q H') → ms vx vi vd H Q
theorem PSet.or {t t' : TSet} (h : PSet X t) (h' : PSet X t') : PSet X (fun o i v H Q => t o i v H Q ∨ t' o i v H Q) := by
  intro pins s σ H o i v ov iv u Q I r1 r2 r3 q
  rcases q with q | q
  · exact h pins s σ H o i v ov iv u Q I r1 r2 r3 q
  · exact h' pins s σ H o i v ov iv u Q I r1 r2 r3 q
theorem ixI_ok {n : Nat} {i : Int} {j : Nat} (h : ixI n i = some j) : ixN n i = some j := h
theorem setItem_ok {mst : TSet} (mo : SetMore X fa hs mst) {ρ : List Addr} {H : Hp} {st st' : Sto} {x i d : D} {vx vi vd : V} {Q : Hp → Prop} {u : Unit} (h : CH X fa hs ρ H st) (rx : CD X fa hs ρ H x vx) (ri : CD X fa hs ρ H i vi) (rd : CD X fa hs ρ H d vd)
    (e : TL.setItem x i d st = some (u, st')) (q : ∀ H' ρ', Gr X.K ρ H ρ' H' → CH X fa hs ρ' H' st' → Q H') : rSetL vx vi vd H Q ∨ mst vx vi vd H Q := by
  cases x with
  | ref n =>
    have e' := e
    unfold TL.setItem at e'
    clear e
    simp only at e'
    split at e'
    · rename_i xs k hn
      split at e'
      · rename_i j hj
        cases e'
        obtain ⟨a, ea, rfl⟩ := rx
        cases ri
        obtain ⟨vs, ha, ra⟩ := RH.lst h hn ea
        refine .inl ⟨a, vs, k, j, rfl, rfl, ha, by rw [← ra.length]; exact hj, ?_⟩
        have g : Gr X.K ρ H ρ (upd H a (.lst (vs.set j vd))) := Gr.write ha (fun _ z => nomatch z) fun _ _ z => nomatch z
        exact q _ ρ g (RH.write h hn ea rfl rfl ha (fun _ z => nomatch z) (fun _ _ z => nomatch z) (fun _ _ z => nomatch z) ⟨_, upd_same, RDs.set (rd.mono g) j (RDs.mono g ra)⟩)
      · cases e'
    · rename_i kvs hn
      split at e'
      · rename_i hk
        rw [Bool.and_eq_true, decide_eq_true_eq] at hk
        cases e'
        exact .inr (mo.ans h rx ri rd hn hk.1 hk.2 q)
      · cases e'
    · cases e'
  | _ => cases e
theorem dg_sub {mst : TSet} (mo : SetMore X fa hs mst) (ho : DE X fa hs o ma) (hi : DE X fa hs b mb)
    (hasg : ∀ v, assign (.Subscript o b pos) X.env v = (do
      let ov ← holding [v] (eval o X.env)
      let iv ← holding [v, ov] (eval b X.env)
      standAt pos
      holding [v, ov, iv] (PySem.setItem ov iv v)
      release [v, ov, iv] [])) : DG X fa hs (.Subscript o b pos) [] (fun d σ => M.bind (ma σ) fun x => M.bind (mb σ) fun k => M.bind (TL.setItem x k d) fun _ => pure σ) :=
  (pg_sub ho hi (PSet.or set_list mo.op) hasg).imp fun v σ H Q ⟨σd, ρ, st, d, σd', st', g1, g2, g3, g4, q⟩ => by
    obtain ⟨x, st1, e1, g4⟩ := bindS g4
    obtain ⟨k, st2, e2, g4⟩ := bindS g4
    obtain ⟨u, st3, e3, g4⟩ := bindS g4
    obtain ⟨rfl, rfl⟩ := pureS g4
    refine .mk g1 g2 e1 fun vx H1 ρ1 gr1 k1 r1 => .mk (g1.mono gr1) k1 e2 fun vk H2 ρ2 gr2 k2 r2 => ?_
    have gr := gr1.trans gr2
    exact setItem_ok mo k2 (r1.mono gr2) r2 (g3.mono gr) e3 fun H3 ρ3 gr3 k3 => q σ H3 ρ3 (gr.trans gr3) (g1.mono (gr.trans gr3)) k3 fun _ _ => rfl

/-! ### statements -/
/-- what is wanted of the end -/
def EndOf (c : LC) (ρ : List Addr) (H : Hp) (st' : Sto) (D : Ends) : Fl → Prop
  | .nx σd' => ∀ σ' H' ρ', Gr c.K ρ H ρ' H' → c.s ρ' H' σd' σ' → c.h ρ' H' st' → D.nx σ' H'
  | .rt d => Then c ρ H d st' D.rt
def liftSt (c : LC) (m : Env → M Fl) : TS := fun D σ H => ∃ σd ρ st fl st', c.s ρ H σd σ ∧ c.h ρ H st ∧ m σd st = some (fl, st') ∧ EndOf c ρ H st' D fl
abbrev DS (X : Cx) (fa : Nat → Option Addr) (hs : D → Int) (s : Stmt) (m : Env → M Fl) : Prop := PS X s (liftSt (cx X fa hs) m)
abbrev DSs (X : Cx) (fa : Nat → Option Addr) (hs : D → Int) (s : List Stmt) (m : Env → M Fl) : Prop := PSs X s (liftSt (cx X fa hs) m)
theorem _root_.L2.PS.imp {X : Cx} {e : Stmt} {t t' : TS} (h : PS X e t) (q : ∀ D σ H, t' D σ H → t D σ H) : PS X e t' := ⟨fun pins s σ H D I w => h.run pins s σ H D I (q _ _ _ w)⟩
theorem _root_.L2.PSs.imp {X : Cx} {e : List Stmt} {t t' : TS} (h : PSs X e t) (q : ∀ D σ H, t' D σ H → t D σ H) : PSs X e t' := ⟨fun pins s σ H D I w => h.run pins s σ H D I (q _ _ _ w)⟩
theorem EndOf.trans {c : LC} {ρ ρ1 : List Addr} {H H1 : Hp} {st : Sto} {D : Ends} {f : Fl} (q : EndOf c ρ H st D f) (g : Gr c.K ρ H ρ1 H1) : EndOf c ρ1 H1 st D f := by
  cases f with
  | nx σd => exact fun σ' H' ρ' g' => q σ' H' ρ' (g.trans g')
  | rt d => exact Then.trans q g
/-- an end at hand: the slots σ -/
theorem EndOf.here {c : LC} {ρ : List Addr} {H : Hp} {st : Sto} {D : Ends} {σd : Env} {σ : L2.St} (q : EndOf c ρ H st D (.nx σd)) (h1 : c.s ρ H σd σ) (h2 : c.h ρ H st) : D.nx σ H := q σ H ρ Gr.refl h1 h2
theorem dss_nil : DSs X fa hs [] (fun σ => pure (.nx σ)) := pss_nil.imp fun D σ H ⟨σd, ρ, st, fl, st', h1, h2, h3, q⟩ => by
  obtain ⟨rfl, rfl⟩ := pureS h3
  exact EndOf.here q h1 h2
def seqM (m1 m2 : Env → M Fl) : Env → M Fl := fun σ => M.bind (m1 σ) fun f => match f with
  | .nx σ1 => m2 σ1
  | .rt d => pure (.rt d)
theorem dss_cons {s : Stmt} {r : List Stmt} {m1 m2 : Env → M Fl} (h1 : DS X fa hs s m1) (h2 : DSs X fa hs r m2) : DSs X fa hs (s :: r) (seqM m1 m2) := (pss_cons h1 h2).imp fun D σ H ⟨σd, ρ, st, fl, st', g1, g2, g3, q⟩ => by
  obtain ⟨f, st1, e1, g3⟩ := bindS g3
  refine ⟨σd, ρ, st, f, st1, g1, g2, e1, ?_⟩
  cases f with
  | nx σ1 => exact fun σ' H' ρ' g k1 k2 => ⟨σ1, ρ', st1, fl, st', k1, k2, g3, q.trans g⟩
  | rt d => obtain ⟨rfl, rfl⟩ := pureS g3; exact q
theorem ds_ex (h : DE X fa hs e m) (hsw : swapsWith e none pos.line X.env = pure false) : DS X fa hs (.Expr e pos) (fun σ => M.bind (m σ) fun _ => pure (.nx σ)) := (ps_expr h hsw).imp fun D σ H ⟨σd, ρ, st, fl, st', g1, g2, g3, q⟩ => by
  obtain ⟨x, st1, e1, g3⟩ := bindS g3
  obtain ⟨rfl, rfl⟩ := pureS g3
  exact .mk g1 g2 e1 fun v H1 ρ1 gr k r => q σ H1 ρ1 gr (g1.mono gr) k
theorem ds_ret (h : DE X fa hs e m) : DS X fa hs (.Return (some e) pos) (fun σ => M.bind (m σ) fun x => pure (.rt x)) := (ps_ret h).imp fun D σ H ⟨σd, ρ, st, fl, st', g1, g2, g3, q⟩ => by
  obtain ⟨x, st1, e1, g3⟩ := bindS g3
  obtain ⟨rfl, rfl⟩ := pureS g3
  exact .mk g1 g2 e1 q
def ifS (mc : Env → M D) (m1 m2 : Env → M Fl) : Env → M Fl := fun σ => M.bind (mc σ) fun x => M.bind (tst x) fun k => if k = true then m1 σ else m2 σ
theorem ds_if {s1 s2 : List Stmt} {m1 m2 : Env → M Fl} (hc : DT X fa hs e mc) (h1 : DSs X fa hs s1 m1) (h2 : DSs X fa hs s2 m2) : DS X fa hs (.If e s1 s2 pos) (ifS mc m1 m2) := (ps_if hc h1 h2).imp fun D σ H ⟨σd, ρ, st, fl, st', g1, g2, g3, q⟩ => by
  obtain ⟨x, st1, e1, g3⟩ := bindS g3
  obtain ⟨k, st2, e2, g3⟩ := bindS g3
  obtain ⟨rfl, rfl⟩ := tstS e2
  refine ⟨σd, ρ, st, k, st1, g1, g2, e1, fun H1 ρ1 gr k1 => ?_⟩
  cases k with
  | true => exact iteT ⟨σd, ρ1, st1, fl, st', g1.mono gr, k1, g3, q.trans gr⟩
  | false => exact iteF ⟨σd, ρ1, st1, fl, st', g1.mono gr, k1, g3, q.trans gr⟩
/-- target = value -/
def asgM (m : Env → M D) (mg : D → Env → M Env) : Env → M Fl := fun σ => M.bind (m σ) fun x => M.bind (mg x σ) fun σ1 => pure (.nx σ1)
theorem lift_asg {mg : D → Env → M Env} {sl : List Nat} {c : LC} {D : Ends} {σ : L2.St} {H : Hp} (h : liftSt c (asgM m mg) D σ H) : tAsg (liftE c m) (liftG c sl mg) D σ H := by
  obtain ⟨σd, ρ, st, fl, st', g1, g2, g3, q⟩ := h
  obtain ⟨x, st1, e1, g3⟩ := bindS g3
  obtain ⟨σ1, st2, e2, g3⟩ := bindS g3
  obtain ⟨rfl, rfl⟩ := pureS g3
  refine .mk g1 g2 e1 fun v H1 ρ1 gr k r => ⟨σd, ρ1, st1, x, σ1, st2, g1.mono gr, k, r, e2, fun σ' H' ρ' gr2 k1 k2 _ => q σ' H' ρ' (gr.trans gr2) k1 k2⟩
theorem ds_asg {tg : Expr} {mg : D → Env → M Env} {sl : List Nat} (he : DE X fa hs e m) (hg : DG X fa hs tg sl mg) (h1 : swapsWithSole [tg] e pos.line X.env = pure false) (h2 : swappedStores [tg] e X.env = pure none)
    (h3 : (assignEach [tg] X.env).map (·.2) = [assign tg X.env]) : DS X fa hs (.Assign [tg] e pos) (asgM m mg) := (ps_asg he hg h1 h2 h3).imp fun D σ H h => lift_asg h
theorem ds_set {i : Nat} {x : Str} (hN : X.N.Nodup) (hi : X.N[i]? = some x) (hx : Loc X.env.scope x) (he : DE X fa hs e m) (hsw : swapsWith e (some (.Name x p)) pos.line X.env = pure false) (hf : X.fn x = true ∨ X.env.scope.names.lookup x = some .local) :
    DS X fa hs (.Assign [.Name x p] e pos) (asgM m (fun d σ => pure (σ.set i (some d)))) := (ps_set hN hi hx he hsw hf).imp fun D σ H h => by
  obtain ⟨σd, ρ, st, fl, st', g1, g2, g3, q⟩ := h
  obtain ⟨y, st1, e1, g3⟩ := bindS g3
  obtain ⟨σ1, st2, e2, g3⟩ := bindS g3
  obtain ⟨rfl, rfl⟩ := pureS e2
  obtain ⟨rfl, rfl⟩ := pureS g3
  refine .mk g1 g2 e1 fun v H1 ρ1 gr k r => q _ H1 ρ1 gr ((g1.mono gr).set i r) k
def augM (i : Nat) (op : Bop) (m : Env → M D) : Env → M Fl := fun σ => M.bind (M.lift (σ[i]?.bind id)) fun x => M.bind (m σ) fun y => augD i op σ x y
theorem ds_aug {i : Nat} {x : Str} {op : Bop} (hop : op = .add ∨ op = .sub) (hN : X.N.Nodup) (hi : X.N[i]? = some x) (hx : Loc X.env.scope x) (he : DE X fa hs e m) (hf : X.fn x = true ∨ X.env.scope.names.lookup x = some .local) :
    DS X fa hs (.AugAssign (.Name x p) (bopP op) e pos) (augM i op m) := by
  have core : ∀ {ti : TIp} (f : Int → Int → Int), (∀ a b st, bop op (.int a) (.int b) st = (pure (D.int (f a b)) : M D) st) → (∀ x y H Q, ipI f x y H Q → ti x y H Q) → PIp X (bopP op) ti → DS X fa hs (.AugAssign (.Name x p) (bopP op) e pos) (augM i op m) := fun {ti} f hf' hti hp =>
    (ps_aug hN hi hx he hp hf).imp fun D σ H h => by
      obtain ⟨σd, ρ, st, fl, st', g1, g2, g3, q⟩ := h
      obtain ⟨y, st1, e1, g3⟩ := bindS g3
      obtain ⟨f1, z1⟩ := liftS e1
      subst z1
      obtain ⟨z, st2, e2, g3⟩ := bindS g3
      cases hy : σd[i]? with
      | none => rw [hy] at f1; cases f1
      | some og =>
        rw [hy] at f1
        have f1' : og = some y := f1
        subst f1'
        obtain ⟨v, hv, r⟩ := g1.get i y hy
        cases y with
        | int a =>
          cases r
          cases z with
          | int b =>
            obtain ⟨w, st3, e3, g3⟩ := bindS (show M.bind (bop op (.int a) (.int b)) (fun z => pure (Fl.nx (σd.set i (some z)))) st2 = some (fl, st') from g3)
            rw [hf'] at e3
            obtain ⟨rfl, rfl⟩ := pureS e3
            obtain ⟨rfl, rfl⟩ := pureS g3
            refine ⟨.int a, hv, .mk g1 g2 e2 fun u H1 ρ1 gr k r => ?_⟩
            cases r
            exact hti _ _ _ _ ⟨a, b, rfl, rfl, q _ H1 ρ1 gr ((g1.mono gr).set i rfl) k⟩
          | _ => cases g3
        | _ => cases z <;> cases g3
  rcases hop with rfl | rfl
  · exact core (fun a b => a + b) (fun _ _ _ => rfl) (fun _ _ _ _ h => h) ip_add
  · exact core (fun a b => a - b) (fun _ _ _ => rfl) (fun _ _ _ _ h => h) ip_sub
end
end TL

/-! What is walked, loops, comprehensions. -/
namespace TL
open PySem PySem.Spec PyProof.Rows L2
section
variable {X : Cx} {fa : Nat → Option Addr} {hs : D → Int} {e a b o : Expr} {es : List Expr} {pos p p2 apos cpos : Pos} {m ma mb mc : Env → M D} {ms : Env → M (List D)}

/-- the walked thing, from the evaluator's -/
def ItOk (c : LC) (ρ0 : List Addr) (H0 : Hp) (J : DIt) (Jc : It) : Prop := ∀ ρ H st i, Gr c.K ρ0 H0 ρ H → c.h ρ H st →
  (J.get i st = some none → Jc.stop i H) ∧ ∀ d, J.get i st = some (some d) → Jc.go i H ∧ ∀ x H', Jc.yld i H x H' → Gr c.K ρ H ρ H' ∧ c.h ρ H' st ∧ c.d ρ H' d x
/-- the dict that is locked while it is walked -/
def lkOf : DIt → Option Nat
  | .keys n | .items n => some n
  | _ => none
def NoFrz (X : Cx) (H0 : Hp) (J : DIt) (ρ : List Addr) : Prop := ∀ n, lkOf J = some n → ∃ a, ρ[n]? = some a ∧ (∀ o u, X.H_0 a ≠ some (.frz o u)) ∧ ∀ o u, H0 a ≠ some (.frz o u)
theorem NoFrz.mono {K : PySem.W.Frag} {J : DIt} {ρ ρ' : List Addr} {H0 H H' : Hp} (h : NoFrz X H0 J ρ) (g : Gr K ρ H ρ' H') : NoFrz X H0 J ρ' := fun n hn => let ⟨a, ha, q⟩ := h n hn; ⟨a, g.pre n a ha, q⟩
theorem wipe_setn {σ : L2.St} {i : Nat} : ∀ vs : List Nat, L2.wipe (σ.set i none) vs = (L2.wipe σ vs).set i none
  | [] => rfl
  | v :: vs => by
    show (L2.wipe (σ.set i none) vs).set v none = ((L2.wipe σ vs).set v none).set i none
    rw [wipe_setn vs]
    by_cases h : i = v
    · subst h; rfl
    · rw [List.set_comm _ _ h]
theorem wipe_wipe {σ : L2.St} : ∀ vs : List Nat, L2.wipe (L2.wipe σ vs) vs = L2.wipe σ vs
  | [] => rfl
  | v :: vs => by
    show (L2.wipe ((L2.wipe σ vs).set v none) vs).set v none = (L2.wipe σ vs).set v none
    rw [wipe_setn, wipe_wipe vs, List.set_set]
def liftI (X : Cx) (c : LC) (m : Env → M DIt) : TI := fun σ H R => ∃ σd ρ st J st', c.s ρ H σd σ ∧ c.h ρ H st ∧ m σd st = some (J, st') ∧ ∀ Jc H' ρ', Gr c.K ρ H ρ' H' → c.h ρ' H' st' → ItOk c ρ' H' J Jc → NoFrz X H J ρ' → R Jc H'
abbrev DI (X : Cx) (fa : Nat → Option Addr) (hs : D → Int) (tg it : Expr) (m : Env → M DIt) : Prop := PI X tg it (liftI X (cx X fa hs) m)
theorem _root_.L2.PI.imp {X : Cx} {tg e : Expr} {t t' : TI} (h : PI X tg e t) (q : ∀ σ H R, t' σ H R → t σ H R) : PI X tg e t' := ⟨fun pins s σ H R I w => h.run pins s σ H R I (q _ _ _ w)⟩

theorem unlockS {J : DIt} {st st' : Sto} {u : Unit} (h : unlock J st = some (u, st')) : (lkOf J = none ∧ st = st') ∨ ∃ n kvs, lkOf J = some n ∧ st[n]? = some (.dlk kvs) ∧ st' = st.set n (.dct kvs) := by
  cases J with
  | keys n =>
    have h' : (match st[n]? with
      | some (.dlk kvs) => some ((), st.set n (.dct kvs))
      | _ => none) = some (u, st') := h
    split at h'
    · rename_i kvs hn
      cases h'
      exact .inr ⟨n, kvs, rfl, hn, rfl⟩
    · cases h'
  | items n =>
    have h' : (match st[n]? with
      | some (.dlk kvs) => some ((), st.set n (.dct kvs))
      | _ => none) = some (u, st') := h
    split at h'
    · rename_i kvs hn
      cases h'
      exact .inr ⟨n, kvs, rfl, hn, rfl⟩
    · cases h'
  | tup ds => obtain ⟨_, rfl⟩ := pureS (show (pure () : M Unit) st = some (u, st') from h); exact .inl ⟨rfl, rfl⟩
  | lst n => obtain ⟨_, rfl⟩ := pureS (show (pure () : M Unit) st = some (u, st') from h); exact .inl ⟨rfl, rfl⟩
  | rng l s n => obtain ⟨_, rfl⟩ := pureS (show (pure () : M Unit) st = some (u, st') from h); exact .inl ⟨rfl, rfl⟩
  | zip x y => obtain ⟨_, rfl⟩ := pureS (show (pure () : M Unit) st = some (u, st') from h); exact .inl ⟨rfl, rfl⟩
  | enum x => obtain ⟨_, rfl⟩ := pureS (show (pure () : M Unit) st = some (u, st') from h); exact .inl ⟨rfl, rfl⟩
/-- the state with the lock let go -/
theorem unlock_inv {c : LC} (hK : c.K = X.K) {pins : List (Addr × Obj)} {σ : L2.St} {ρ0 ρ : List Addr} {H0 H : Hp} {s : Shared} {J : DIt} {st st' : Sto} {u : Unit} (I : Inv X pins σ H s) (g0 : Gr c.K ρ0 H0 ρ H) (h : c.h ρ H st) (nf : NoFrz X H0 J ρ) (e : unlock J st = some (u, st')) :
    ∃ H', Inv X pins σ H' s ∧ Gr c.K ρ0 H0 ρ H' ∧ c.h ρ H' st' ∧ (∀ d v, c.d ρ H d v → c.d ρ H' d v) ∧ ∀ σd σ, c.s ρ H σd σ → c.s ρ H' σd σ := by
  rcases unlockS e with ⟨_, rfl⟩ | ⟨n, kvs, hn, hl, rfl⟩
  · exact ⟨H, I, g0, h, fun _ _ z => z, fun _ _ z => z⟩
  · obtain ⟨a, ha, nz, nz0⟩ := nf n hn
    obtain ⟨raw, o, ho, rk, ok⟩ := h.obj n _ a hl ha
    have tw : ∀ (b : Addr) (xs : List V), SqT c.K H b xs → SqT c.K (upd H a (dHO a raw)) b xs := tup_write ho (fun _ z => nomatch z) fun _ xs z => by cases z
    refine ⟨_, I.unlock ho nz, ⟨g0.pre, fun b xs q => tw b xs (g0.tup b xs q), fun b z w q => ?_⟩, ?_, fun d v z => RD.monoT (fun _ _ q => q) tw z, fun σd σ z => RS.monoT (fun _ _ q => q) tw z⟩
    · have hb : b ≠ a := fun z' => nz0 _ _ (by rw [z'] at q; exact q)
      rw [upd_ne hb]
      exact g0.frz b z w q
    · exact RH.write h hl ha rfl rfl ho (fun _ z => nomatch z) (fun _ _ z => by cases z) (fun _ _ z => by cases z) (.inr ⟨raw, upd_same, rk.monoT (fun _ _ q => q) tw, ok⟩)

/-! ### for -/
def forM (w : Nat) (mi : Env → M DIt) (mg : D → Env → M Env) (mb : Env → M Fl) : Env → M Fl := fun σ => M.bind (mi σ) fun J => M.bind (forGo J (fun d σ => M.bind (mg d σ) fun σ1 => mb σ1) w 0 σ) fun r => M.bind (unlock J) fun _ => pure r
theorem forGo_succ {it : DIt} {step : D → Env → M Fl} {w i : Nat} {σ : Env} {st st' : Sto} {r : Fl} (h : forGo it step (w + 1) i σ st = some (r, st')) :
    (it.get i st = some none ∧ r = .nx σ ∧ st = st') ∨ ∃ d f st1, it.get i st = some (some d) ∧ step d σ st = some (f, st1) ∧ ((∃ v, f = .rt v ∧ r = .rt v ∧ st1 = st') ∨ ∃ σ1, f = .nx σ1 ∧ forGo it step w (i + 1) σ1 st1 = some (r, st')) := by
  have h' : (match it.get i st with
    | none => none
    | some none => some (.nx σ, st)
    | some (some d) => match step d σ st with
      | none => none
      | some (.rt v, st') => some (.rt v, st')
      | some (.nx σ', st') => forGo it step w (i + 1) σ' st') = some (r, st') := h
  split at h'
  · cases h'
  · rename_i hg
    cases h'
    exact .inl ⟨hg, rfl, rfl⟩
  · rename_i d hg
    split at h'
    · cases h'
    · rename_i v st1 hs
      cases h'
      exact .inr ⟨d, _, _, hg, hs, .inl ⟨v, rfl, rfl, rfl⟩⟩
    · rename_i σ1 st1 hs
      exact .inr ⟨d, _, _, hg, hs, .inr ⟨σ1, rfl, h'⟩⟩
theorem ds_for {w : Nat} {tg iter : Expr} {body : List Stmt} {sl : List Nat} {mi : Env → M DIt} {mg : D → Env → M Env} {mb : Env → M Fl} (hc : X.calm = true) (hx : X.xe = fun _ _ => False) (hi : DI X fa hs tg iter mi) (hg : DG X fa hs tg sl mg) (hb : DSs X fa hs body mb)
    (hfs : ∀ x, foldedSetIterable iter X.env x = pure x) : DS X fa hs (.For tg iter body [] pos) (forM w mi mg mb) := by
  have hp : PassesOwn (model X.prog X.w) X.A X.env X.xe := by rw [hx]; exact PassesOwn.never
  refine ⟨fun pins s σ H D I ⟨σd, ρ, st, fl, st', g1, g2, g3, q⟩ => ?_⟩
  obtain ⟨J, st1, e1, g3⟩ := bindS g3
  obtain ⟨r, st2, e2, g3⟩ := bindS g3
  obtain ⟨u, st3, e3, g3⟩ := bindS g3
  obtain ⟨rfl, rfl⟩ := pureS g3
  -- the ends while the walked thing is locked
  let D' : Ends := { nx := fun σ' H' => ∃ σd' ρ', r = .nx σd' ∧ Gr X.K ρ H ρ' H' ∧ (cx X fa hs).s ρ' H' σd' σ' ∧ (cx X fa hs).h ρ' H' st2 ∧ NoFrz X H J ρ', rt := fun v H' => ∃ dv ρ', r = .rt dv ∧ Gr X.K ρ H ρ' H' ∧ (cx X fa hs).h ρ' H' st2 ∧ (cx X fa hs).d ρ' H' dv v ∧ NoFrz X H J ρ' }
  have core : tFor (liftI X (cx X fa hs) mi) (liftG (cx X fa hs) sl mg) (liftSt (cx X fa hs) mb) D' σ H := by
    refine ⟨σd, ρ, st, J, st1, g1, g2, e1, fun Jc H1 ρ1 gr1 k1 iok nf => ?_⟩
    refine ⟨fun i m σ Hc => ∃ σd ρ' st, Gr X.K ρ1 H1 ρ' Hc ∧ (cx X fa hs).s ρ' Hc σd σ ∧ (cx X fa hs).h ρ' Hc st ∧ NoFrz X H J ρ' ∧ forGo J (fun d σ => M.bind (mg d σ) fun σ1 => mb σ1) m i σd st = some (r, st2),
      ⟨w, σd, ρ1, st1, Gr.refl, g1.mono gr1, k1, nf, e2⟩, ?_⟩
    rintro i m σ3 H3 ⟨σd3, ρ3, st3, gr3, s3, k3, nf3, e3⟩
    cases m with
    | zero => cases e3
    | succ m =>
      obtain ⟨i1, i2⟩ := iok ρ3 H3 st3 i gr3 k3
      rcases forGo_succ e3 with ⟨hg, hr, hst⟩ | ⟨d, f, st4, hg, hstep, hrest⟩
      · subst hst
        exact .inl ⟨i1 hg, ⟨σd3, ρ3, hr, gr1.trans gr3, s3, k3, nf3⟩⟩
      · obtain ⟨hgo, hy⟩ := i2 d hg
        refine .inr ⟨hgo, fun σ' H' => ∃ m', m' < m + 1 ∧ ∃ σd ρ' st, Gr X.K ρ1 H1 ρ' H' ∧ (cx X fa hs).s ρ' H' σd σ' ∧ (cx X fa hs).h ρ' H' st ∧ NoFrz X H J ρ' ∧ forGo J (fun d σ => M.bind (mg d σ) fun σ1 => mb σ1) m' (i + 1) σd st = some (r, st2), fun σ' H' h => h, fun x H4 y => ?_⟩
        obtain ⟨gr4, k4, r4⟩ := hy x H4 y
        obtain ⟨σ1, st5, e5, hstep⟩ := bindS hstep
        refine ⟨σd3, ρ3, st3, d, σ1, st5, s3.mono gr4, k4, r4, e5, fun σ5 H5 ρ5 gr5 s5 k5 _ => ⟨σ1, ρ5, st5, f, st4, s5, k5, hstep, ?_⟩⟩
        rcases hrest with ⟨v, rfl, hr, hst⟩ | ⟨σ6, rfl, hgo'⟩
        · subst hst
          exact fun v' H' ρ' g k r => ⟨v, ρ', hr, gr1.trans (gr3.trans (gr4.trans (gr5.trans g))), k, r, nf3.mono (gr4.trans (gr5.trans g))⟩
        · exact fun σ' H' ρ' g s' k' => ⟨m, Nat.lt_succ_self _, σ6, ρ', st4, gr3.trans (gr4.trans (gr5.trans g)), s', k', nf3.mono (gr4.trans (gr5.trans g)), hgo'⟩
  refine thn ((ps_for hp hc hi hg hb hfs).run pins s σ H D' I core) fun f s' hf => ?_
  cases f with
  | next =>
    obtain ⟨σ', H', I', σd', ρ', rfl, gr, s', k', nf⟩ := hf
    obtain ⟨H2, I2, gr2, k2, _, ms⟩ := unlock_inv (c := cx X fa hs) rfl I' gr k' nf e3
    exact ⟨σ', H2, I2, q σ' H2 ρ' gr2 (ms _ _ s') k2⟩
  | ret v =>
    obtain ⟨x, σ', H', I', rv, dv, ρ', rfl, gr, k', rd, nf⟩ := hf
    obtain ⟨H2, I2, gr2, k2, md, _⟩ := unlock_inv (c := cx X fa hs) rfl I' gr k' nf e3
    exact ⟨x, σ', H2, I2, rv, q x H2 ρ' gr2 k2 (md _ _ rd)⟩
  | brk => obtain ⟨_, _, _, z⟩ := hf; exact False.elim z
  | cont => obtain ⟨_, _, _, z⟩ := hf; exact False.elim z

/-! ### while -/
theorem whileGo_succ {c : Env → M D} {body : Env → M Fl} {w : Nat} {σ : Env} {st st' : Sto} {r : Fl} (h : whileGo c body (w + 1) σ st = some (r, st')) :
    ∃ k st1, c σ st = some (.bl k, st1) ∧ ((k = false ∧ r = .nx σ ∧ st1 = st') ∨ (k = true ∧ ∃ f st2, body σ st1 = some (f, st2) ∧ ((∃ v, f = .rt v ∧ r = .rt v ∧ st2 = st') ∨ ∃ σ1, f = .nx σ1 ∧ whileGo c body w σ1 st2 = some (r, st')))) := by
  have h' : (match c σ st with
    | some (.bl true, st1) => match body σ st1 with
      | none => none
      | some (.rt v, st') => some (.rt v, st')
      | some (.nx σ', st') => whileGo c body w σ' st'
    | some (.bl false, st1) => some (.nx σ, st1)
    | _ => none) = some (r, st') := h
  split at h'
  · rename_i st1 hc
    split at h'
    · cases h'
    · rename_i v st2 hb
      cases h'
      exact ⟨true, st1, hc, .inr ⟨rfl, _, _, hb, .inl ⟨v, rfl, rfl, rfl⟩⟩⟩
    · rename_i σ1 st2 hb
      exact ⟨true, st1, hc, .inr ⟨rfl, _, _, hb, .inr ⟨σ1, rfl, h'⟩⟩⟩
  · rename_i st1 hc
    cases h'
    exact ⟨false, _, hc, .inl ⟨rfl, rfl, rfl⟩⟩
  · cases h'
theorem ds_while {w : Nat} {body : List Stmt} {mb : Env → M Fl} (hx : X.xe = fun _ _ => False) (hc : DT X fa hs e mc) (hb : DSs X fa hs body mb) : DS X fa hs (.While e body [] pos) (fun σ => whileGo mc mb w σ) := by
  have hp : PassesOwn (model X.prog X.w) X.A X.env X.xe := by rw [hx]; exact PassesOwn.never
  refine (ps_while hp hc hb).imp fun D σ H ⟨σd, ρ, st, fl, st', g1, g2, g3, q⟩ => ?_
  refine ⟨fun m σ H1 => ∃ σd ρ' st, Gr X.K ρ H ρ' H1 ∧ (cx X fa hs).s ρ' H1 σd σ ∧ (cx X fa hs).h ρ' H1 st ∧ whileGo mc mb m σd st = some (fl, st'), ⟨w, σd, ρ, st, Gr.refl, g1, g2, g3⟩, ?_⟩
  rintro m σ3 H3 ⟨σd3, ρ3, st3, gr3, s3, k3, e3⟩
  cases m with
  | zero => cases e3
  | succ m =>
    obtain ⟨k, st4, ec, hrest⟩ := whileGo_succ e3
    refine ⟨σd3, ρ3, st3, k, st4, s3, k3, ec, fun H4 ρ4 gr4 k4 => ?_⟩
    rcases hrest with ⟨rfl, rfl, rfl⟩ | ⟨rfl, f, st5, eb, hrest⟩
    · exact iteF (q σ3 H4 ρ4 (gr3.trans gr4) (s3.mono gr4) k4)
    · refine iteT ⟨fun σ' H' => ∃ m', m' < m + 1 ∧ ∃ σd ρ' st, Gr X.K ρ H ρ' H' ∧ (cx X fa hs).s ρ' H' σd σ' ∧ (cx X fa hs).h ρ' H' st ∧ whileGo mc mb m' σd st = some (fl, st'), fun _ _ h => h, ?_⟩
      refine ⟨σd3, ρ4, st4, f, st5, s3.mono gr4, k4, eb, ?_⟩
      rcases hrest with ⟨v, rfl, rfl, rfl⟩ | ⟨σ1, rfl, hgo⟩
      · exact Then.trans q (gr3.trans gr4)
      · exact fun σ' H' ρ' g s' k' => ⟨m, Nat.lt_succ_self _, σ1, ρ', st5, gr3.trans (gr4.trans g), s', k', hgo⟩

/-! ### comprehensions -/
def liftC (c : LC) (m : Env → M Bool) : TT := fun σ H Q => ∃ σd ρ st b st', c.s ρ H σd σ ∧ c.h ρ H st ∧ m σd st = some (b, st') ∧ ∀ H' ρ', Gr c.K ρ H ρ' H' → c.h ρ' H' st' → Q b H'
abbrev DC (X : Cx) (fa : Nat → Option Addr) (hs : D → Int) (ifs : List Expr) (m : Env → M Bool) : Prop := PTs X ifs (liftC (cx X fa hs) m)
theorem _root_.L2.PTs.imp {X : Cx} {e : List Expr} {t t' : TT} (h : PTs X e t) (q : ∀ σ H Q, t' σ H Q → t σ H Q) : PTs X e t' := ⟨fun pins s σ H Q I w => h.run pins s σ H Q I (q _ _ _ w)⟩
theorem dc_nil : DC X fa hs [] (fun _ => pure true) := pts_nil.imp fun σ H Q ⟨σd, ρ, st, b, st', g1, g2, g3, q⟩ => by
  obtain ⟨rfl, rfl⟩ := pureS g3
  exact q H ρ Gr.refl g2
theorem dc_one (h : DT X fa hs e m) : DC X fa hs [e] (fun σ => M.bind (m σ) fun x => tst x) := (pts_one h).imp fun σ H Q ⟨σd, ρ, st, b, st', g1, g2, g3, q⟩ => by
  obtain ⟨x, st1, e1, g3⟩ := bindS g3
  obtain ⟨rfl, rfl⟩ := tstS g3
  exact ⟨σd, ρ, st, b, st1, g1, g2, e1, q⟩
theorem compGo_succ {it : DIt} {step : D → M Unit} {w i : Nat} {st st' : Sto} {u : Unit} (h : compGo it step (w + 1) i st = some (u, st')) :
    (it.get i st = some none ∧ st = st') ∨ ∃ d st1, it.get i st = some (some d) ∧ step d st = some ((), st1) ∧ compGo it step w (i + 1) st1 = some (u, st') := by
  have h' : (match it.get i st with
    | none => none
    | some none => some ((), st)
    | some (some d) => match step d st with
      | none => none
      | some ((), st') => compGo it step w (i + 1) st') = some (u, st') := h
  split at h'
  · cases h'
  · rename_i hg
    cases h'
    exact .inl ⟨hg, rfl⟩
  · rename_i d hg
    split at h'
    · cases h'
    · rename_i st1 hs
      exact .inr ⟨d, st1, hg, hs, h'⟩
def compM (w : Nat) (vs : List Nat) (mi : Env → M DIt) (mg : D → Env → M Env) (mt : Env → M Bool) (me : Env → M D) : Env → M D := fun σ =>
  M.bind (mi σ) fun J => M.bind (alloc (.lst [])) fun L => match L with
    | .ref n => M.bind (compGo J (fun d => M.bind (mg d (TL.wipe σ vs)) fun σ1 => M.bind (mt σ1) fun k => if k = true then M.bind (me σ1) fun y => append n y else pure ()) w 0) fun _ =>
        M.bind (unlock J) fun _ => pure (.ref n)
    | _ => M.fail
theorem appendS {n : Nat} {v : D} {st st' : Sto} {u : Unit} (h : append n v st = some (u, st')) : ∃ xs, st[n]? = some (.lst xs) ∧ xs.length < LIM ∧ st' = st.set n (.lst (xs ++ [v])) := by
  have h' : (match st[n]? with
    | some (.lst xs) => if xs.length < LIM then some ((), st.set n (.lst (xs ++ [v]))) else none
    | _ => none) = some (u, st') := h
  split at h'
  · rename_i xs hn
    split at h'
    · rename_i hl
      cases h'
      exact ⟨xs, hn, hl, rfl⟩
    · cases h'
  · cases h'
theorem lift_comp {w : Nat} {vs sl : List Nat} {mi : Env → M DIt} {mg : D → Env → M Env} {mt : Env → M Bool} {me : Env → M D} (hsl : ∀ i ∈ sl, i ∈ vs) {σ : L2.St} {H : Hp} {Q : VK}
    {σd : Env} {ρ : List Addr} {st st1 st3 : Sto} {J : DIt} {u : Unit} (g1 : (cx X fa hs).s ρ H σd σ) (g2 : (cx X fa hs).h ρ H st) (e1 : mi σd st = some (J, st1))
    (e3 : compGo J (fun d => M.bind (mg d (TL.wipe σd vs)) fun σ1 => M.bind (mt σ1) fun k => if k = true then M.bind (me σ1) fun y => append st1.length y else pure ()) w 0 (st1 ++ [.lst []]) = some (u, st3))
    (q : ∀ H' ρ' a, Gr X.K ρ H ρ' H' → (cx X fa hs).h ρ' H' st3 → NoFrz X H J ρ' → ρ'[st1.length]? = some a → Q (.ref a) H') :
    tLc (liftI X (cx X fa hs) mi) (liftG (cx X fa hs) sl mg) (liftC (cx X fa hs) mt) (liftE (cx X fa hs) me) vs σ H Q := by
  refine ⟨σd, ρ, st, J, st1, g1, g2, e1, fun Jc H1 ρ1 gr1 k1 iok nf => fun L hL => ?_⟩
  have gL : Gr X.K ρ1 H1 (ρ1 ++ [L]) (upd H1 L (.lst [])) := Gr.push.trans (Gr.laid hL)
  have kL : (cx X fa hs).h (ρ1 ++ [L]) (upd H1 L (.lst [])) (st1 ++ [.lst []]) := RH.alloc k1 hL ⟨[], upd_same, rfl⟩
  have nL : (ρ1 ++ [L])[st1.length]? = some L := by
    rw [k1.len, List.getElem?_append_right (Nat.le_refl _), Nat.sub_self]
    rfl
  refine ⟨fun i m H => ∃ ρ' st, Gr X.K (ρ1 ++ [L]) (upd H1 L (.lst [])) ρ' H ∧ (cx X fa hs).h ρ' H st ∧
    compGo J (fun d => M.bind (mg d (TL.wipe σd vs)) fun σ1 => M.bind (mt σ1) fun k => if k = true then M.bind (me σ1) fun y => append st1.length y else pure ()) m i st = some (u, st3),
    ⟨w, ρ1 ++ [L], st1 ++ [.lst []], Gr.refl, kL, e3⟩, ?_⟩
  rintro i m H3 ⟨ρ3, st4, gr3, k3, e4⟩
  have grT : Gr X.K ρ H ρ3 H3 := gr1.trans (gL.trans gr3)
  cases m with
  | zero => cases e4
  | succ m =>
    obtain ⟨i1, i2⟩ := iok ρ3 H3 st4 i (gL.trans gr3) k3
    rcases compGo_succ e4 with ⟨hg, rfl⟩ | ⟨d, st5, hg, hstep, hrest⟩
    · refine .inl ⟨i1 hg, q H3 ρ3 L grT k3 (nf.mono (gL.trans gr3)) (gr3.pre _ _ nL)⟩
    · obtain ⟨hgo, hy⟩ := i2 d hg
      refine .inr ⟨hgo, fun H' => ∃ m', m' < m + 1 ∧ ∃ ρ' st, Gr X.K (ρ1 ++ [L]) (upd H1 L (.lst [])) ρ' H' ∧ (cx X fa hs).h ρ' H' st ∧
        compGo J (fun d => M.bind (mg d (TL.wipe σd vs)) fun σ1 => M.bind (mt σ1) fun k => if k = true then M.bind (me σ1) fun y => append st1.length y else pure ()) m' (i + 1) st = some (u, st3), fun _ h => h, fun x H4 y => ?_⟩
      obtain ⟨gr4, k4, r4⟩ := hy x H4 y
      obtain ⟨σ1, st6, e6, hstep⟩ := bindS hstep
      refine ⟨TL.wipe σd vs, ρ3, st4, d, σ1, st6, ((g1.mono grT).mono gr4).wipe vs, k4, r4, e6, fun σ6 H6 ρ6 gr6 s6 k6 hw => ⟨?_, ?_⟩⟩
      · rw [hw vs hsl]
        exact wipe_wipe vs
      · obtain ⟨k, st7, e7, hstep⟩ := bindS hstep
        refine ⟨σ1, ρ6, st6, k, st7, s6, k6, e7, fun H7 ρ7 gr7 k7 => ?_⟩
        have gr37 := gr4.trans (gr6.trans gr7)
        cases k with
        | false =>
          obtain ⟨_, rfl⟩ := pureS hstep
          exact iteF ⟨m, Nat.lt_succ_self _, ρ7, st7, gr3.trans gr37, k7, hrest⟩
        | true =>
          obtain ⟨y', st8, e8, hstep⟩ := bindS (show M.bind (me σ1) (fun y => append st1.length y) st7 = some ((), st5) from hstep)
          refine iteT ⟨σ1, ρ7, st7, y', st8, s6.mono gr7, k7, e8, fun v8 H8 ρ8 gr8 k8 r8 => ?_⟩
          obtain ⟨xs, hx, hlen, rfl⟩ := appendS hstep
          have ha : ρ8[st1.length]? = some L := (gr3.trans (gr37.trans gr8)).pre _ _ nL
          obtain ⟨us, hu, ru⟩ := RH.lst k8 hx ha
          have gw : Gr X.K ρ8 H8 ρ8 (upd H8 L (.lst (us ++ [v8]))) := Gr.write hu (fun _ z => nomatch z) fun _ _ z => nomatch z
          refine ⟨us, hu, by rw [← RDs.length ru, sizeLIM]; exact hlen, m, Nat.lt_succ_self _, ρ8, _, gr3.trans (gr37.trans (gr8.trans gw)), ?_, hrest⟩
          exact RH.write k8 hx ha rfl rfl hu (fun _ z => nomatch z) (fun _ _ z => nomatch z) (fun _ _ z => nomatch z) ⟨_, upd_same, RDs.append (RDs.mono gw ru) (RDs.cons (r8.mono gw) rfl)⟩
theorem de_comp {w : Nat} {elt tg iter : Expr} {ifs : List Expr} {scope : Scope} {own : List (Str × Nat)} {sl : List Nat} {mi : Env → M DIt} {mg : D → Env → M Env} {mt : Env → M Bool} {me : Env → M D} (hc : X.calm = true) (hN : X.N.Nodup) (hi : DI X fa hs tg iter mi)
    (ok : BlkOk X.N X.env.scope scope own) (hsl : ∀ i ∈ sl, i ∈ own.map (·.2))
    (hg : ∀ (s : Shared) (H : Hp) (C : Addr) (cl : List (Str × Addr)) (fp : List Addr), DG (X.blk s H scope (compEnvC scope cl C X.env) fp) fa hs tg sl mg)
    (ht : ∀ (s : Shared) (H : Hp) (C : Addr) (cl : List (Str × Addr)) (fp : List Addr), DC (X.blk s H scope (compEnvC scope cl C X.env) fp) fa hs ifs mt)
    (he : ∀ (s : Shared) (H : Hp) (C : Addr) (cl : List (Str × Addr)) (fp : List Addr), DE (X.blk s H scope (compEnvC scope cl C X.env) fp) fa hs elt me)
    (hfs : ∀ x, foldedSetIterable iter X.env x = pure x) : DE X fa hs (.ListComp elt [⟨tg, iter, ifs, 0⟩] scope pos) (compM w (own.map (·.2)) mi mg mt me) := by
  have base := pe_lc (pos := pos) (g := liftG (cx X fa hs) sl mg) (tt := liftC (cx X fa hs) mt) (te := liftE (cx X fa hs) me) hc hN hi ok hg ht he hfs
  refine ⟨fun pins s σ H Q I ⟨σd, ρ, st, d, st', g1, g2, g3, q⟩ => ?_⟩
  obtain ⟨J, st1, e1, g3⟩ := bindS g3
  obtain ⟨L, st2, e2, g3⟩ := bindS g3
  obtain ⟨rfl, rfl⟩ := allocS e2
  obtain ⟨u, st3, e3, g3⟩ := bindS g3
  obtain ⟨u', st4, e4, g3⟩ := bindS g3
  obtain ⟨rfl, rfl⟩ := pureS g3
  have tl := lift_comp (X := X) (fa := fa) (hs := hs) (w := w) (Q := fun v H' => ∃ ρ' a, v = .ref a ∧ Gr X.K ρ H ρ' H' ∧ (cx X fa hs).h ρ' H' st3 ∧ NoFrz X H J ρ' ∧ ρ'[st1.length]? = some a) hsl g1 g2 e1 e3
    fun H' ρ' a g k nf ha => ⟨ρ', a, rfl, g, k, nf, ha⟩
  refine thn (base.run pins s σ H _ I tl) fun v s' ⟨x, H', I', rv, ρ', a, hx, g, k, nf, ha⟩ => ?_
  subst hx
  obtain ⟨H2, I2, gr2, k2, _, _⟩ := unlock_inv (c := cx X fa hs) rfl I' g k nf e4
  exact ⟨.ref a, H2, I2, rv, q _ H2 ρ' gr2 k2 ⟨a, ha, rfl⟩⟩
/-- name = [..] on one line, the name a local -/
theorem ds_setComp {w i : Nat} {y : Str} {py spos : Pos} {elt tg iter : Expr} {ifs : List Expr} {scope : Scope} {own : List (Str × Nat)} {sl : List Nat} {mi : Env → M DIt} {mg : D → Env → M Env} {mt : Env → M Bool} {me : Env → M D} (hc : X.calm = true) (hN : X.N.Nodup)
    (hy : X.N[i]? = some y) (hyl : X.env.scope.names.lookup y = some .local) (hsw : swapsWith (.ListComp elt [⟨tg, iter, ifs, 0⟩] scope pos) (some (.Name y py)) spos.line X.env = pure true) (hi : DI X fa hs tg iter mi)
    (ok : BlkOk X.N X.env.scope scope own) (hsl : ∀ i ∈ sl, i ∈ own.map (·.2))
    (hg : ∀ (s : Shared) (H : Hp) (C : Addr) (cl : List (Str × Addr)) (fp : List Addr), DG (X.blk s H scope (compEnvC scope cl C X.env) fp) fa hs tg sl mg)
    (ht : ∀ (s : Shared) (H : Hp) (C : Addr) (cl : List (Str × Addr)) (fp : List Addr), DC (X.blk s H scope (compEnvC scope cl C X.env) fp) fa hs ifs mt)
    (he : ∀ (s : Shared) (H : Hp) (C : Addr) (cl : List (Str × Addr)) (fp : List Addr), DE (X.blk s H scope (compEnvC scope cl C X.env) fp) fa hs elt me)
    (hfs : ∀ x, foldedSetIterable iter X.env x = pure x) : DS X fa hs (.Assign [.Name y py] (.ListComp elt [⟨tg, iter, ifs, 0⟩] scope pos) spos) (asgM (compM w (own.map (·.2)) mi mg mt me) (fun d σ => pure (σ.set i (some d)))) := by
  have base := ps_setLc (pos := pos) (py := py) (g := liftG (cx X fa hs) sl mg) (tt := liftC (cx X fa hs) mt) (te := liftE (cx X fa hs) me) hc hN hy hyl hsw hi ok hg ht he hfs
  refine ⟨fun pins s σ H D I ⟨σd, ρ, st, fl, st', g1, g2, g3, q⟩ => ?_⟩
  obtain ⟨d, st5, e5, g3⟩ := bindS g3
  obtain ⟨σ1, st6, e6, g3⟩ := bindS g3
  obtain ⟨rfl, rfl⟩ := pureS e6
  obtain ⟨rfl, rfl⟩ := pureS g3
  obtain ⟨J, st1, e1, e5⟩ := bindS e5
  obtain ⟨L, st2, e2, e5⟩ := bindS e5
  obtain ⟨rfl, rfl⟩ := allocS e2
  obtain ⟨u, st3, e3, e5⟩ := bindS e5
  obtain ⟨u', st4, e4, e5⟩ := bindS e5
  obtain ⟨rfl, rfl⟩ := pureS e5
  let D' : Ends := { nx := fun σ' H' => ∃ ρ' a, σ' = σ.set i (some (.ref a)) ∧ Gr X.K ρ H ρ' H' ∧ (cx X fa hs).h ρ' H' st3 ∧ NoFrz X H J ρ' ∧ ρ'[st1.length]? = some a, rt := fun _ _ => False }
  have tl : tAsg (tLc (liftI X (cx X fa hs) mi) (liftG (cx X fa hs) sl mg) (liftC (cx X fa hs) mt) (liftE (cx X fa hs) me) (own.map (·.2))) (gName i) D' σ H :=
    lift_comp (X := X) (fa := fa) (hs := hs) (w := w) hsl g1 g2 e1 e3 fun H' ρ' a g k nf ha => ⟨ρ', a, rfl, g, k, nf, ha⟩
  refine thn (base.run pins s σ H D' I tl) fun f s' hf => ?_
  cases f with
  | next =>
    obtain ⟨σ', H', I', ρ', a, rfl, g, k, nf, ha⟩ := hf
    obtain ⟨H2, I2, gr2, k2, _, _⟩ := unlock_inv (c := cx X fa hs) rfl I' g k nf e4
    exact ⟨_, H2, I2, q _ H2 ρ' gr2 ((g1.mono gr2).set i ⟨a, ha, rfl⟩) k2⟩
  | ret v => obtain ⟨x, σ', H', I', rv, z⟩ := hf; exact False.elim z
  | brk => obtain ⟨_, _, _, z⟩ := hf; exact False.elim z
  | cont => obtain ⟨_, _, _, z⟩ := hf; exact False.elim z
end
end TL

/-! zip and enumerate of lists and tuples in any mix; ranges; what an expression walks. -/
namespace TL
open PySem PySem.Spec PyProof.Rows L2

/-- a tuple (true) or a list (false) -/
def SqK (K : PySem.W.Frag) (t : Bool) (H : Hp) (a : Addr) (xs : List V) : Prop := if t = true then SqT K H a xs else SqL K H a xs
def IsK (t : Bool) (h : Heap) (a : Addr) (its : Array Value) : Prop := if t = true then h.IsTuple a its else h.IsList a its
def ItK (t : Bool) (h : Heap) (it a : Addr) (i : Nat) : Prop := if t = true then h.IsTupleIter it a i else h.IsListIter it a i
def objK (t : Bool) (a : Addr) : Obj := { cls := .type (if t = true then "tuple_iterator" else "list_iterator"), data := .fields #[.ref a, .int 0 0] }
theorem ItK.rec {t : Bool} {h : Heap} {it a : Addr} {i : Nat} (x : ItK t h it a i) : ∃ o, h.get? it = some o ∧ ∀ v, o.data ≠ .cell v := by
  cases t with
  | true => obtain ⟨o, e, _, d⟩ := (show h.IsTupleIter it a i from x); exact ⟨o, e, fun v z => by rw [d] at z; cases z⟩
  | false => obtain ⟨o, e, _, d⟩ := (show h.IsListIter it a i from x); exact ⟨o, e, fun v z => by rw [d] at z; cases z⟩
theorem ItK.at {t : Bool} {h h' : Heap} {it a : Addr} {i : Nat} (x : ItK t h it a i) (k : ∀ o, h.get? it = some o → h'.get? it = some o) : ItK t h' it a i := by
  cases t with
  | true => exact Heap.IsTupleIter.at (show h.IsTupleIter it a i from x) k
  | false => exact Heap.IsListIter.at (show h.IsListIter it a i from x) k
theorem ItK.new {t : Bool} {h : Heap} {it a : Addr} (e : h.get? it = some (objK t a)) : ItK t h it a 0 := by
  cases t with
  | true => exact ⟨_, e, rfl, rfl⟩
  | false => exact ⟨_, e, rfl, rfl⟩
theorem drawsK {prog : Program} {w : World} {A : Around} (t : Bool) (hh : A.handled = none) (it l : Addr) (hne : l ≠ it) (items : Array Value) :
    Draws prog w A it [it, l] items.size (fun i v => items[i]? = some v) (fun i h => ItK t h it l i ∧ IsK t h l items) := by
  cases t with
  | true => exact Draws.tuple hh it l hne items
  | false => exact Draws.list hh it l hne items
theorem beginsK (t : Bool) (l : Addr) (items : Array Value) : Begins (.ref l) (objK t l) fun h => IsK t h l items := by
  cases t with
  | true => exact begins_tuple l items
  | false => exact begins_list l items
section
variable {X : Cx} {pins : List (Addr × Obj)} {σ : L2.St} {H : Hp} {s : Shared}
theorem inv_seqK {t : Bool} {a : Addr} {xs : List V} (I : Inv X pins σ H s) (h : SqK X.K t H a xs) : ∃ its : List Value, Vals xs its ∧ IsK t s.heap a its.toArray ∧ a < s.heap.objs.size := by
  cases t with
  | true => obtain ⟨its, r, p, _⟩ := I.tuple (show SqT X.K H a xs from h); exact ⟨its, r, p, p.lt⟩
  | false => obtain ⟨its, r, p, _⟩ := I.list (show SqL X.K H a xs from h); exact ⟨its, r, p.isList, p.lt⟩
theorem inv_injK {t : Bool} {a : Addr} {xs ys : List V} (I : Inv X pins σ H s) (h : SqK X.K t H a xs) (h' : SqK X.K t H a ys) : xs = ys := by
  cases t with
  | true => exact I.tuple_inj (show SqT X.K H a xs from h) h'
  | false => exact I.list_inj (show SqL X.K H a xs from h) h'
end
theorem getArr {its : List Value} {i : Nat} {u : Value} (h : its[i]? = some u) : i < its.toArray.size ∧ its.toArray[i]? = some u := by
  obtain ⟨hl, _⟩ := List.getElem?_eq_some_iff.mp h
  exact ⟨by simpa using hl, by simpa using h⟩

theorem IsK.ne {t t' : Bool} {h : Heap} {a it x : Addr} {i : Nat} {its : Array Value} (p : IsK t h a its) (k : ItK t' h it x i) : a ≠ it := by
  intro e
  subst e
  have h1 : ∃ o, h.get? a = some o ∧ o.cls = .type (if t = true then "tuple" else "list") := by
    cases t with
    | true => obtain ⟨o, e, c, _⟩ := (show h.IsTuple a its from p); exact ⟨o, e, c⟩
    | false => obtain ⟨o, e, c, _⟩ := (show h.IsList a its from p); exact ⟨o, e, c⟩
  have h2 : ∃ o, h.get? a = some o ∧ o.cls = .type (if t' = true then "tuple_iterator" else "list_iterator") := by
    cases t' with
    | true => obtain ⟨o, e, c, _⟩ := (show h.IsTupleIter a x i from k); exact ⟨o, e, c⟩
    | false => obtain ⟨o, e, c, _⟩ := (show h.IsListIter a x i from k); exact ⟨o, e, c⟩
  obtain ⟨o, e1, c1⟩ := h1
  obtain ⟨o2, e2, c2⟩ := h2
  rw [e1] at e2
  cases e2
  have z := Value.type.inj (c1.symm.trans c2)
  cases t <;> cases t' <;> exact absurd z (by decide)

/-! ### zip -/
def ItzK (K : PySem.W.Frag) (t1 t2 : Bool) (a b : Addr) : It :=
  ⟨fun i H => ∃ (xs ys : List V) (x y : V), SqK K t1 H a xs ∧ SqK K t2 H b ys ∧ xs[i]? = some x ∧ ys[i]? = some y,
    fun i H v H' => ∃ T x y, v = .ref T ∧ H T = none ∧ H' = upd H T (.tup [x, y]) ∧ (∀ xs, SqK K t1 H a xs → xs[i]? = some x) ∧ ∀ ys, SqK K t2 H b ys → ys[i]? = some y,
    fun i H => ∃ xs ys : List V, SqK K t1 H a xs ∧ SqK K t2 H b ys ∧ i ≤ xs.length ∧ i ≤ ys.length ∧ (i = xs.length ∨ i = ys.length)⟩
theorem turn_zipK {P : Program} {w : World} {K : PySem.W.Frag} {elts : List Expr} {kk : Nat} {tpos : Pos} {t1 t2 : Bool} {a b z TI TO i1 i2 : Addr} (S : ZipSep2 z TI TO i1 i2 [i1, a] [i2, b]) :
    Turn P w K (.Tuple elts kk tpos) (ItzK K t1 t2 a b) [z, TI, TO, i1, i2] z (fun i h => IsZip h z TI TO .none ∧ IsTupOf2 h TI (.ref i1) (.ref i2) ∧ (∃ x y, IsTupOf2 h TO x y) ∧ ItK t1 h i1 a i ∧ ItK t2 h i2 b i) where
  mem := List.mem_cons_self
  obj := fun i h ⟨hz, hTI, ⟨x, y, hTO⟩, k1, k2⟩ c hc => by
    simp only [List.mem_cons, List.not_mem_nil, or_false] at hc
    rcases hc with rfl | rfl | rfl | rfl | rfl
    · exact ⟨_, hz, fun v q => nomatch q⟩
    · exact ⟨_, hTI, fun v q => nomatch q⟩
    · exact ⟨_, hTO, fun v q => nomatch q⟩
    · exact k1.rec
    · exact k2.rec
  keep := fun i h h' ⟨hz, hTI, ⟨x, y, hTO⟩, k1, k2⟩ k => ⟨k z (by simp) _ hz, k TI (by simp) _ hTI, ⟨x, y, k TO (by simp) _ hTO⟩, k1.at fun o q => k i1 (by simp) o q, k2.at fun o q => k i2 (by simp) o q⟩
  item := by
    intro X hP hw hK hc i pins s σ H E I hf st hg
    subst hP hw hK
    obtain ⟨hz, hTI, ⟨x0, y0, hTO⟩, k1, k2⟩ := st
    obtain ⟨xs, ys, x, y, q1, q2, hx, hy⟩ := hg
    obtain ⟨its, r1, p1, la⟩ := inv_seqK I q1
    obtain ⟨jts, r2, p2, lb⟩ := inv_seqK I q2
    obtain ⟨u, hu, ru⟩ := r1.get hx
    obtain ⟨v, hv, rv⟩ := r2.get hy
    obtain ⟨b1, e1⟩ := getArr hu
    obtain ⟨b2, e2⟩ := getArr hv
    have hh : X.A.in1.handled = none := I.ok.hd hc
    refine wpAny_pyNext_zipD2_item S (drawsK t1 hh i1 a (p1.ne k1) its.toArray) (drawsK t2 hh i2 b (p2.ne k2) jts.toArray) hz hTI hTO ⟨k1, p1⟩ ⟨k2, p2⟩ b1 b2 fun u' v' h' tk f1 f2 z' TO' n1 n2 hT hsz hk => ?_
    rw [e1] at f1
    rw [e2] at f2
    cases f1
    cases f2
    have hzl : z < s.heap.objs.size := Heap.lt_size hz
    refine ⟨_, rfl, wpAny_letOwnedTupleGo_zip (s := { s with heap := h', toks := tk }) z' fun h'' z'' sb => ?_⟩
    have hT2 : h''.get? s.heap.objs.size = some { cls := .type "tuple", data := .seq #[u, v] } := (sb.2 _ (Nat.ne_of_gt hzl)).trans hT
    have new : ObjOk X.prog X.w (upd H s.heap.objs.size (.tup [x, y])) h'' s.heap.objs.size (.tup [x, y]) :=
      ⟨by show 2 ≤ sizeLine; decide, [u, v], .cons ru (.cons rv .nil), ⟨_, hT2, rfl, _, rfl⟩⟩
    have I1 : Inv X pins σ (upd H s.heap.objs.size (.tup [x, y])) { s with heap := h'', toks := tk } := by
      refine I.turnedNew (t' := tk) (ch := [z, TI, TO, i1, i2]) (fun c o hb q => ?_) hf (Nat.le_refl _) new
      simp only [List.mem_cons, List.not_mem_nil, or_false, not_or] at hb
      exact (sb.2 c hb.1).trans (hk c o hb.1 hb.2.2.1 hb.2.2.2.1 hb.2.2.2.2 q)
    refine ⟨.ref s.heap.objs.size, _, I1, rfl, ⟨_, x, y, rfl, I.hok.fresh (Nat.le_refl _), rfl, fun l hl => by rw [inv_injK I hl q1]; exact hx, fun l hl => by rw [inv_injK I hl q2]; exact hy⟩, ⟨z'', ?_, ⟨u, v, ?_⟩, ?_, ?_⟩, fun c hcm => ?_⟩
    · exact (sb.2 _ S.TIz).trans (hk _ _ S.TIz S.TITO S.TIi1 S.TIi2 hTI)
    · exact (sb.2 _ S.TOz).trans TO'
    · exact n1.1.at fun o q => (sb.2 _ S.zi1.symm).trans q
    · exact n2.1.at fun o q => (sb.2 _ S.zi2.symm).trans q
    · have hlt : c < s.heap.objs.size := by
        simp only [List.mem_cons, List.not_mem_nil, or_false] at hcm
        rcases hcm with rfl | rfl | rfl | rfl | rfl
        · exact hzl
        · exact Heap.lt_size hTI
        · exact Heap.lt_size hTO
        · obtain ⟨_, e, _⟩ := k1.rec; exact Heap.lt_size e
        · obtain ⟨_, e, _⟩ := k2.rec; exact Heap.lt_size e
      rw [upd_ne (Nat.ne_of_lt hlt)]
      exact (hf c hcm).1
  done := by
    intro X hP hw hK hc i pins s σ H E I hf st hg
    subst hP hw hK
    obtain ⟨hz, hTI, ⟨x0, y0, hTO⟩, k1, k2⟩ := st
    obtain ⟨xs, ys, q1, q2, l1, l2, hend⟩ := hg
    obtain ⟨its, r1, p1, la⟩ := inv_seqK I q1
    obtain ⟨jts, r2, p2, lb⟩ := inv_seqK I q2
    have z1 : its.toArray.size = xs.length := by rw [List.size_toArray, ← r1.length]
    have z2 : jts.toArray.size = ys.length := by rw [List.size_toArray, ← r2.length]
    have hh : X.A.in1.handled = none := I.ok.hd hc
    refine wpAny_pyNext_zipD2_end S (drawsK t1 hh i1 a (p1.ne k1) its.toArray) (drawsK t2 hh i2 b (p2.ne k2) jts.toArray) hz hTI hTO ⟨k1, p1⟩ ⟨k2, p2⟩ (by omega) (by omega) (by omega) fun h' tk hk => ⟨rfl, ?_⟩
    refine I.turnedL (t' := tk) (ch := [z, TI, TO, i1, i2]) (fun c o hb q => ?_) hf
    simp only [List.mem_cons, List.not_mem_nil, or_false, not_or] at hb
    exact hk c o hb.1 hb.2.2.1 hb.2.2.2.1 hb.2.2.2.2 q
  self := fun A i s Q E st h => wpAny_pyIter_zip st.1 h

section
variable {X : Cx} {e e2 : Expr} {te : TE} {ta : TA} {p pos tpos : Pos} {elts : List Expr} {kk : Nat}
/-- new cells are ours -/
theorem fresh_fp {pins : List (Addr × Obj)} {σ : L2.St} {H : Hp} {s : Shared} (I : Inv X pins σ H s) {fp : List Addr} (h : ∀ c ∈ fp, s.heap.objs.size ≤ c) : ∀ c ∈ fp, FpOk X pins H c := fun c hc => I.fpOk (h c hc) (I.hok.fresh (h c hc))
def iZipK (K : PySem.W.Frag) (ta : TA) : TI := fun σ H R => ta σ H fun vs H1 => ∃ t1 t2 a b xs ys, vs = [.ref a, .ref b] ∧ SqK K t1 H1 a xs ∧ SqK K t2 H1 b ys ∧ R (ItzK K t1 t2 a b) H1
theorem pi_zipK (hg : Gl X "zip") (hm : X.mg "zip" = none) (ha : PA X [e, e2] ta) (hs : starEach [e, e2] X.env = (false, eval e X.env) :: starEach [e2] X.env) (hpl : (backTo pos (starEach [e2] X.env)).any (·.1) = false) :
    PI X (.Tuple elts kk tpos) (.Call (.Name "zip" p) [e, e2] [] pos) (iZipK X.K ta) := by
  refine ⟨fun pins s σ H R I h => ?_⟩
  refine Call_ (ld_blt I hg hm PyProof.Rows.boot_zip (PyProof.Rows.callWith_type1 (thn (ha.run pos pins s σ H _ I h) fun us s1 ⟨vs, H1, I1, r1, q1⟩ => ?_) hs hpl))
  obtain ⟨t1, t2, a, b, xs, ys, rfl, h1, h2, q⟩ := q1
  cases r1 with
  | cons r rr =>
    cases rr with
    | cons r' rr =>
      cases rr
      cases r
      cases r'
      obtain ⟨its, rv1, p1, la⟩ := inv_seqK I1 h1
      obtain ⟨jts, rv2, p2, lb⟩ := inv_seqK I1 h2
      refine zip_begins2 (beginsK t1 a its.toArray) (beginsK t2 b jts.toArray) p1 p2 fun h' hz hTI hTO o1 o2 hsz hk => wpAny_pyIter_zip hz ?_
      have I2 : Inv X pins σ H1 { s1 with heap := h' } := I1.kept (t' := s1.toks) hk
      refine ⟨s1.heap.objs.size + 4, [s1.heap.objs.size + 4, s1.heap.objs.size + 2, s1.heap.objs.size + 3, s1.heap.objs.size, s1.heap.objs.size + 1], _, _, H1, rfl, I2,
        turn_zipK (t1 := t1) (t2 := t2) (zip_sep2 (fp1 := [a]) (fp2 := [b]) (fun c hc => by rw [List.mem_singleton.mp hc]; exact la) fun c hc => by rw [List.mem_singleton.mp hc]; exact lb), ⟨hz, hTI, ⟨_, _, hTO⟩, .new o1, .new o2⟩, fresh_fp I1 fun c hc => ?_, q⟩
      simp only [List.mem_cons, List.not_mem_nil, or_false] at hc
      rcases hc with rfl | rfl | rfl | rfl | rfl
      · exact Nat.le_add_right s1.heap.objs.size 4
      · exact Nat.le_add_right s1.heap.objs.size 2
      · exact Nat.le_add_right s1.heap.objs.size 3
      · exact Nat.le_refl s1.heap.objs.size
      · exact Nat.le_add_right s1.heap.objs.size 1

/-! ### enumerate -/
def IteK (K : PySem.W.Frag) (t : Bool) (a : Addr) : It :=
  ⟨fun i H => ∃ (xs : List V) (x : V), SqK K t H a xs ∧ xs[i]? = some x,
    fun i H v H' => ∃ T x, v = .ref T ∧ H T = none ∧ H' = upd H T (.tup [.int (i : Nat), x]) ∧ ∀ xs, SqK K t H a xs → xs[i]? = some x,
    fun i H => ∃ xs : List V, SqK K t H a xs ∧ xs.length = i⟩
theorem turn_enumK {P : Program} {w : World} {K : PySem.W.Frag} {t : Bool} {a z it : Addr} (hzi : z ≠ it) (hza : z ≠ a) :
    Turn P w K (.Tuple elts kk tpos) (IteK K t a) [z, it] z (fun i h => (∃ old, IsEnum h z it ((i : Nat) : Int) old) ∧ ItK t h it a i) where
  mem := List.mem_cons_self
  obj := fun i h ⟨⟨old, hz⟩, k⟩ c hc => by
    simp only [List.mem_cons, List.not_mem_nil, or_false] at hc
    rcases hc with rfl | rfl
    · exact ⟨_, hz, fun v q => nomatch q⟩
    · exact k.rec
  keep := fun i h h' ⟨⟨old, hz⟩, k⟩ kp => ⟨⟨old, kp z (by simp) _ hz⟩, k.at fun o q => kp it (by simp) o q⟩
  item := by
    intro X hP hw hK hc i pins s σ H E I hf st hg
    subst hP hw hK
    obtain ⟨⟨old, hz⟩, k⟩ := st
    obtain ⟨xs, x, q1, hx⟩ := hg
    obtain ⟨its, r1, p1, la⟩ := inv_seqK I q1
    obtain ⟨u, hu, ru⟩ := r1.get hx
    obtain ⟨b1, e1⟩ := getArr hu
    have hh : X.A.in1.handled = none := I.ok.hd hc
    have hzf : z ∉ [it, a] := by simp only [List.mem_cons, List.not_mem_nil, or_false, not_or]; exact ⟨hzi, hza⟩
    refine wpAny_pyNext_enum_itemD (drawsK t hh it a (p1.ne k) its.toArray) hz ⟨k, p1⟩ b1 hzi hzf fun u' h' tk f1 z' n1 hT hsz hk => ?_
    rw [e1] at f1
    cases f1
    have hzl : z < s.heap.objs.size := Heap.lt_size hz
    refine ⟨_, rfl, wpAny_letOwnedTupleGo_enum (s := { s with heap := h', toks := tk + 1 }) z' fun h'' z'' sb => ?_⟩
    have hT2 : h''.get? s.heap.objs.size = some { cls := .type "tuple", data := .seq #[.int i tk, u] } := (sb.2 _ (Nat.ne_of_gt hzl)).trans hT
    have new : ObjOk X.prog X.w (upd H s.heap.objs.size (.tup [.int (i : Nat), x])) h'' s.heap.objs.size (.tup [.int (i : Nat), x]) :=
      ⟨by show 2 ≤ sizeLine; decide, [.int i tk, u], .cons ⟨_, rfl⟩ (.cons ru .nil), ⟨_, hT2, rfl, _, rfl⟩⟩
    have I1 : Inv X pins σ (upd H s.heap.objs.size (.tup [.int (i : Nat), x])) { s with heap := h'', toks := tk + 1 } := by
      refine I.turnedNew (t' := tk + 1) (ch := [z, it]) (fun c o hb q => ?_) hf (Nat.le_refl _) new
      simp only [List.mem_cons, List.not_mem_nil, or_false, not_or] at hb
      exact (sb.2 c hb.1).trans (hk c o hb.1 hb.2 q)
    refine ⟨.ref s.heap.objs.size, _, I1, rfl, ⟨_, x, rfl, I.hok.fresh (Nat.le_refl _), rfl, fun l hl => by rw [inv_injK I hl q1]; exact hx⟩, ⟨⟨u, ?_⟩, n1.1.at fun o q => (sb.2 _ hzi.symm).trans q⟩, fun c hcm => ?_⟩
    · have e2 : ((i + 1 : Nat) : Int) = (i : Int) + 1 := by omega
      rw [e2]; exact z''
    · have hlt : c < s.heap.objs.size := by
        simp only [List.mem_cons, List.not_mem_nil, or_false] at hcm
        rcases hcm with rfl | rfl
        · exact hzl
        · obtain ⟨_, e, _⟩ := k.rec; exact Heap.lt_size e
      rw [upd_ne (Nat.ne_of_lt hlt)]
      exact (hf c hcm).1
  done := by
    intro X hP hw hK hc i pins s σ H E I hf st hg
    subst hP hw hK
    obtain ⟨⟨old, hz⟩, k⟩ := st
    obtain ⟨xs, q1, rfl⟩ := hg
    obtain ⟨its, r1, p1, la⟩ := inv_seqK I q1
    obtain ⟨f0, f1, f2, f3, f4, f5⟩ := hf it (by simp)
    have hh : X.A.in1.handled = none := I.ok.hd hc
    have z1 : xs.length = its.toArray.size := by rw [List.size_toArray, r1.length]
    have kk' : ItK t s.heap it a its.toArray.size := by rw [← z1]; exact k
    exact wpAny_pyNext_enum_endD (drawsK t hh it a (p1.ne k) its.toArray) hz ⟨kk', p1⟩ fun h' eb => ⟨rfl, I.turned (t' := s.toks) (fun b o hb q => eb b o hb q) f0 f1 f3 f4 f5⟩
  self := fun A i s Q E st h => let ⟨⟨_, hz⟩, _⟩ := st; wpAny_pyIter_enum hz h
theorem meets_enum1 {v : Value} {o : Obj} {C : Heap → Prop} (B : Begins v o C) :
    Meets (Builtin.«enumerate.__new__» ⟨[.type "enumerate", v], []⟩) (fun _ R s => C s.heap ∧
      R (.ok (.ret (.ref (s.heap.push o).objs.size))) { s with heap := (s.heap.push o).push { cls := .type "enumerate", data := .fields #[.none, .bool false, .ref s.heap.objs.size, rawInt 0, .none, .none] } }) :=
  .of_wp fun prog w A R s ⟨hC, fin⟩ => by
    obtain ⟨hp, gn, dr, tk, os⟩ := s
    have sub1 := sub_enumerate
    have it1 : ∀ {A' : Around} {E' : Value → Shared → Prop} {Q' : Value → Shared → Prop}, Q' (.ref hp.objs.size) ⟨hp.push o, gn, dr, tk, os⟩ → wpAny (model prog w) A' (pyIter v) Q' E' ⟨hp, gn, dr, tk, os⟩ :=
      fun q => B.iter prog w _ _ ⟨hp, gn, dr, tk, os⟩ _ hC q
    wp_walk using it1
    refine wpAny_stack_any fun stk => wpAny_pure ?_
    split
    · rename_i c _ _ _ _ _
      cases (c == Value.type "enumerate") <;> (wp_walk using it1; exact ⟨_, rfl, fin⟩)
    · wp_walk using it1
      exact ⟨_, rfl, fin⟩
theorem enum_begins1 {prog : Program} {w : World} {A : Around} {E : Value → Shared → Prop} {s : Shared} {v : Value} {o : Obj} {C : Heap → Prop} {Q : Value → Shared → Prop} (B : Begins v o C) (hC : C s.heap)
    (fin : ∀ h', IsEnum h' (s.heap.objs.size + 1) s.heap.objs.size 0 .none → h'.get? s.heap.objs.size = some o → (∀ b o, s.heap.get? b = some o → h'.get? b = some o) → Q (.ref (s.heap.objs.size + 1)) { s with heap := h' }) :
    wpAny (model prog w) A (call (.type "enumerate") [v]) Q E s := by
  have z1 : (s.heap.push o).objs.size = s.heap.objs.size + 1 := Heap.size_push ..
  have en : IsEnum ((s.heap.push o).push { cls := .type "enumerate", data := .fields #[.none, .bool false, .ref s.heap.objs.size, rawInt 0, .none, .none] }) (s.heap.push o).objs.size s.heap.objs.size 0 .none := Heap.get?_push_size _ rfl
  refine callType_new F.called_enumerate (by decide) (F.typeCall_enumerate_1 _) (F.newCall_enumerate_1 _) (fun ob => F.args_object_init_2 ob _) F.entry_enumerate_new (meets_enum1 B) ⟨hC, ⟨_, en, rfl⟩, ?_⟩
  rw [z1] at en ⊢
  exact fin _ en (Heap.get?_push_of_some _ (Heap.get?_push_size _ B.free)) fun b ob q => Heap.get?_push_of_some _ (Heap.get?_push_of_some _ q)
def iEnumK (K : PySem.W.Frag) (ta : TA) : TI := fun σ H R => ta σ H fun vs H1 => ∃ t a xs, vs = [.ref a] ∧ SqK K t H1 a xs ∧ R (IteK K t a) H1
theorem pi_enumK (hg : Gl X "enumerate") (hm : X.mg "enumerate" = none) (ha : PA X [e] ta) (hs : starEach [e] X.env = [(false, eval e X.env)]) :
    PI X (.Tuple elts kk tpos) (.Call (.Name "enumerate" p) [e] [] pos) (iEnumK X.K ta) := by
  refine ⟨fun pins s σ H R I h => ?_⟩
  refine Call_ (ld_blt I hg hm boot_enumerate (PyProof.Rows.callWith_type1 (thn (ha.run pos pins s σ H _ I h) fun us s1 ⟨vs, H1, I1, r1, q1⟩ => ?_) hs rfl))
  obtain ⟨t, a, xs, rfl, h1, q⟩ := q1
  cases r1 with
  | cons r rr =>
    cases rr
    cases r
    obtain ⟨its, rv1, p1, la⟩ := inv_seqK I1 h1
    refine enum_begins1 (beginsK t a its.toArray) p1 fun h' hz o1 hk => wpAny_pyIter_enum hz ?_
    have I2 : Inv X pins σ H1 { s1 with heap := h' } := I1.kept (t' := s1.toks) hk
    refine ⟨s1.heap.objs.size + 1, [s1.heap.objs.size + 1, s1.heap.objs.size], _, _, H1, rfl, I2, turn_enumK (t := t) (a := a) (Nat.succ_ne_self _) (fun z => ?_), ⟨⟨.none, hz⟩, .new o1⟩, fresh_fp I1 fun c hc => ?_, q⟩
    · have : s1.heap.objs.size + 1 < s1.heap.objs.size := by rw [z]; exact la
      omega
    · simp only [List.mem_cons, List.not_mem_nil, or_false] at hc
      rcases hc with rfl | rfl
      · exact Nat.le_add_right s1.heap.objs.size 1
      · exact Nat.le_refl s1.heap.objs.size
end
end TL

/-! enumerate over zip: the zip's own tuple stays out. -/
namespace TL
open PySem PySem.Spec PyProof.Rows L2
/-- a zip, its own tuple at home or out -/
abbrev ZA (h : Heap) (zc ta tb : Addr) (v : Value) (b : Bool) : Prop :=
  h.get? zc = some { cls := .type "zip", dict := none, data := .fields #[v, .bool b, .bool false, .ref ta, .ref tb], slots := #[] }
section
variable {prog : Program} {w : World} {A : Around} {E : Value → Shared → Prop} {s : Shared}
theorem dead_load {a : Addr} {Q : Option Obj → Shared → Prop} (ho : s.heap.get? a = none) (h : Q none s) : wpAny (model prog w) A (loadIfAlive a) Q E s := by
  have q : Q (s.heap.get? a) s := by rw [ho]; exact h
  exact fun _ _ _ => q
theorem live_load {a : Addr} {o : Obj} {Q : Option Obj → Shared → Prop} (ho : s.heap.get? a = some o) (h : Q (some o) s) : wpAny (model prog w) A (loadIfAlive a) Q E s := by
  have q : Q (s.heap.get? a) s := by rw [ho]; exact h
  exact fun _ _ _ => q
/-- the own tuple may be used -/
def AtHome (h : Heap) (v : Value) : Prop := v = .none ∨ ∃ T : Addr, v = rawInt T ∧ h.get? T = none
theorem free_zip {zc ta tb : Addr} {v : Value} {b : Bool} {Q : Bool → Shared → Prop} (hz : ZA s.heap zc ta tb v b) (hf : AtHome s.heap v) (q : Q true s) : wpAny (model prog w) A (Builtin.SmallTypes.ownedTupleIsFree (.ref zc)) Q E s := by
  unfold Builtin.SmallTypes.ownedTupleIsFree
  refine wpAny_bind (wpAny_field hz rfl (x := v) rfl ?_)
  rcases hf with rfl | ⟨T, rfl, hT⟩
  · exact wpAny_pure q
  · show wpAny _ _ (loadIfAlive ((T : Int).toNat) >>= _) _ _ _
    rw [Int.toNat_natCast]
    exact wpAny_bind (dead_load hT (wpAny_pure q))
theorem held_zip {zc ta tb T : Addr} {oT : Obj} {b : Bool} {Q : Bool → Shared → Prop} (hz : ZA s.heap zc ta tb (rawInt T) b) (hT : s.heap.get? T = some oT) (q : ∀ h', ZA h' zc ta tb (rawInt T) true → Heap.SameBut zc s.heap h' → Q false { s with heap := h' }) :
    wpAny (model prog w) A (Builtin.SmallTypes.ownedTupleIsFree (.ref zc)) Q E s := by
  unfold Builtin.SmallTypes.ownedTupleIsFree
  refine wpAny_bind (wpAny_field hz rfl (x := rawInt T) rfl ?_)
  show wpAny _ _ (loadIfAlive ((T : Int).toNat) >>= _) _ _ _
  rw [Int.toNat_natCast]
  refine wpAny_bind (live_load hT ?_)
  simp only [Option.isNone_some, Bool.false_eq_true, if_false]
  refine wpAny_bind (wpAny_field hz rfl (x := .bool b) rfl ?_)
  cases b with
  | true => rw [if_neg (show ¬ ((Value.bool true != Value.bool true) = true) from Bool.false_ne_true)]; exact wpAny_pure (q s.heap hz (Heap.SameBut.refl _ _))
  | false => rw [if_pos (show (Value.bool false != Value.bool true) = true from rfl)]; exact wpAny_bind (wpAny_setField_rec hz (by simp) fun h1 z1 e1 => wpAny_pure (q h1 z1 e1))
variable {zc ta tb j1 j2 : Addr} {f1 f2 : List Addr} {m1 m2 i : Nat} {P1 P2 : Nat → Value → Prop} {St1 St2 : Nat → Heap → Prop} {c1 c2 v : Value} {b : Bool}
/-- what a zip's draw leaves -/
structure ZipGot (s : Shared) (zc ta tb j1 j2 : Addr) (St1 St2 : Nat → Heap → Prop) (i : Nat) (x y : Value) (h : Heap) : Prop where
  z : ∃ (T : Addr) (b : Bool), ZA h zc ta tb (rawInt T) b
  own : ∃ p q, IsTupOf2 h tb p q
  s1 : St1 (i + 1) h
  s2 : St2 (i + 1) h
  new : IsTupOf2 h s.heap.objs.size x y
  size : h.objs.size = s.heap.objs.size + 1
  keep : ∀ c o, c ≠ zc → c ≠ tb → c ≠ j1 → c ≠ j2 → s.heap.get? c = some o → h.get? c = some o
theorem zip_got_free {Q : Value → Shared → Prop} (S : ZipSep2 zc ta tb j1 j2 f1 f2) (D1 : Draws prog w A j1 f1 m1 P1 St1) (D2 : Draws prog w A j2 f2 m2 P2 St2) (hz : ZA s.heap zc ta tb v b) (hf : AtHome s.heap v)
    (hI : IsTupOf2 s.heap ta (.ref j1) (.ref j2)) (hO : IsTupOf2 s.heap tb c1 c2) (t1 : St1 i s.heap) (t2 : St2 i s.heap) (l1 : i < m1) (l2 : i < m2)
    (q : ∀ x y h' tk, P1 i x → P2 i y → ZipGot s zc ta tb j1 j2 St1 St2 i x y h' → Q (.ref s.heap.objs.size) { s with heap := h', toks := tk }) :
    wpAny (model prog w) A (Builtin.«zip.__next__» ⟨[.ref zc], []⟩) (fun fin s' => ∃ v, fin = .done (.ret v) ∧ Q v s') E s := by
  obtain ⟨hp, gg, dd, k0, oo⟩ := s
  show wpAny _ _ (field (.ref zc) 2 >>= _) _ _ _
  refine wpAny_bind (wpAny_field hz rfl (x := .bool false) rfl ?_)
  show wpAny _ _ (field (.ref zc) 3 >>= _) _ _ _
  refine wpAny_bind (wpAny_field hz rfl (x := .ref ta) rfl (wpAny_bind (wpAny_seqItems hI rfl ?_)))
  show wpAny _ _ (Builtin.SmallTypes.ownedTupleIsFree (.ref zc) >>= _) _ _ _
  refine wpAny_bind (free_zip hz hf ?_)
  simp only [if_true]
  refine wpAny_bind (wpAny_rule (wpAny_bind (wpAny_field hz rfl (x := .ref tb) rfl (wpAny_bind (wpAny_setField_rec hz (by simp) fun g0 z0 e0 => ?_)))))
  replace z0 : ZA g0 zc ta tb .ellipsis b := z0
  replace e0 : Heap.SameBut zc hp g0 := e0
  refine wpAny_bind ?_
  simp only [List.zipIdx_cons, List.zipIdx_nil, List.forIn_cons, List.forIn_nil]
  refine wpAny_bind (wpAny_bind (wpAny_onRaise ?_))
  show wpAny _ _ (Builtin.SmallTypes.nextOf (.ref j1) >>= _) _ _ ⟨g0, gg, dd, k0, oo⟩
  refine wpAny_bind (D1.item i _ _ _ l1 (D1.over t1 e0 S.zf1) fun x p1 k1 hx n1 e1 => wpAny_pure ?_)
  replace e1 : Heap.SameBut j1 g0 p1 := e1
  have u1 : IsTupOf2 p1 tb c1 c2 := e1.extBut _ _ S.Ti1 (e0.extBut _ _ S.TOz hO)
  refine wpAny_bind (wpAny_seqItems (s := ⟨p1, gg, dd, k1, oo⟩) u1 rfl (wpAny_bind (updateSeq_IsTupOf2 (s := ⟨p1, gg, dd, k1, oo⟩) u1 fun g1 w1 d1 => ?_)))
  replace w1 : IsTupOf2 g1 tb x c2 := w1
  replace d1 : Heap.SameBut tb p1 g1 := d1
  refine wpAny_bind (wpAny_letGo (wpAny_pure ?_))
  refine wpAny_bind (wpAny_bind (wpAny_onRaise ?_))
  show wpAny _ _ (Builtin.SmallTypes.nextOf (.ref j2) >>= _) _ _ ⟨g1, gg, dd, k1, oo⟩
  refine wpAny_bind (D2.item i _ _ _ l2 (D2.over (D2.over (D2.over t2 e0 S.zf2) e1 S.sep1_2) d1 S.Tf2) fun y p2 k2 hy n2 e2 => wpAny_pure ?_)
  replace e2 : Heap.SameBut j2 g1 p2 := e2
  have u2 : IsTupOf2 p2 tb x c2 := e2.extBut _ _ S.Ti2 w1
  refine wpAny_bind (wpAny_seqItems (s := ⟨p2, gg, dd, k2, oo⟩) u2 rfl (wpAny_bind (updateSeq_IsTupOf2 (s := ⟨p2, gg, dd, k2, oo⟩) u2 fun g2 w2 d2 => ?_)))
  replace w2 : IsTupOf2 g2 tb x y := w2
  replace d2 : Heap.SameBut tb p2 g2 := d2
  refine wpAny_bind (wpAny_letGo (wpAny_pure (wpAny_pure ?_)))
  refine wpAny_bind (wpAny_seqItems (s := ⟨g2, gg, dd, k2, oo⟩) w2 rfl (wpAny_bind (wpAny_newTuple ?_)))
  have sz : g2.objs.size = hp.objs.size := by rw [d2.1, e2.1, d1.1, e1.1, e0.1]
  have zz : ZA g2 zc ta tb .ellipsis b := d2.extBut _ _ S.TOz.symm (e2.extBut _ _ S.zi2 (d1.extBut _ _ S.TOz.symm (e1.extBut _ _ S.zi1 z0)))
  have kk : ∀ c o, c ≠ zc → c ≠ tb → c ≠ j1 → c ≠ j2 → hp.get? c = some o → g2.get? c = some o := fun c o a1 a2 a3 a4 h => d2.extBut _ _ a2 (e2.extBut _ _ a4 (d1.extBut _ _ a2 (e1.extBut _ _ a3 (e0.extBut _ _ a1 h))))
  have r1 : St1 (i + 1) g2 := D1.over (D1.over (D1.over n1 d1 S.Tf1) e2 S.sep2_1) d2 S.Tf1
  have r2 : St2 (i + 1) g2 := D2.over n2 d2 S.Tf2
  have zl : zc < g2.objs.size := Heap.lt_size zz
  show wpAny _ _ (Builtin.SmallTypes.ownedTupleHandOut (.ref zc) (.ref g2.objs.size) >>= _) _ _ ⟨g2.push { cls := .type "tuple", data := .seq #[x, y] }, gg, dd, k2, oo⟩
  refine wpAny_bind ?_
  unfold Builtin.SmallTypes.ownedTupleHandOut
  have z6 : ZA (g2.push { cls := .type "tuple", data := .seq #[x, y] }) zc ta tb .ellipsis b := Heap.get?_push_of_some _ zz
  refine wpAny_bind (wpAny_setField_rec z6 (by simp) fun h7 z7 d7 => ?_)
  replace z7 : ZA h7 zc ta tb (rawInt g2.objs.size) b := z7
  refine wpAny_setField_rec z7 (by simp) fun h8 z8 d8 => ?_
  replace z8 : ZA h8 zc ta tb (rawInt g2.objs.size) false := z8
  replace d7 : Heap.SameBut zc (g2.push { cls := .type "tuple", data := .seq #[x, y] }) h7 := d7
  replace d8 : Heap.SameBut zc h7 h8 := d8
  have up : ∀ c o, c ≠ zc → g2.get? c = some o → h8.get? c = some o := fun c o a h => d8.extBut _ _ a (d7.extBut _ _ a (Heap.get?_push_of_some _ h))
  have t8 : IsTupOf2 h8 g2.objs.size x y := d8.extBut _ _ (Nat.ne_of_gt zl) (d7.extBut _ _ (Nat.ne_of_gt zl) (Heap.get?_push_size _ rfl))
  have s8 : h8.objs.size = g2.objs.size + 1 := by rw [d8.1, d7.1, Heap.size_push]
  rw [sz] at t8 s8
  refine wpAny_pure ⟨_, rfl, ?_⟩
  show Q (.ref g2.objs.size) ⟨h8, gg, dd, k2, oo⟩
  rw [sz]
  exact q x y h8 k2 hx hy ⟨⟨_, _, z8⟩, ⟨_, _, up _ _ S.TOz w2⟩, D1.frame _ _ _ r1 fun c hc o h => up c o (fun z => S.zf1 (z ▸ hc)) h, D2.frame _ _ _ r2 fun c hc o h => up c o (fun z => S.zf2 (z ▸ hc)) h, t8, s8, fun c o a1 a2 a3 a4 h => up c o a1 (kk c o a1 a2 a3 a4 h)⟩
theorem zip_got_held {T : Addr} {oT : Obj} {Q : Value → Shared → Prop} (S : ZipSep2 zc ta tb j1 j2 f1 f2) (D1 : Draws prog w A j1 f1 m1 P1 St1) (D2 : Draws prog w A j2 f2 m2 P2 St2) (hz : ZA s.heap zc ta tb (rawInt T) b) (hT : s.heap.get? T = some oT)
    (hI : IsTupOf2 s.heap ta (.ref j1) (.ref j2)) (hO : IsTupOf2 s.heap tb c1 c2) (t1 : St1 i s.heap) (t2 : St2 i s.heap) (l1 : i < m1) (l2 : i < m2)
    (q : ∀ x y h' tk, P1 i x → P2 i y → ZipGot s zc ta tb j1 j2 St1 St2 i x y h' → Q (.ref s.heap.objs.size) { s with heap := h', toks := tk }) :
    wpAny (model prog w) A (Builtin.«zip.__next__» ⟨[.ref zc], []⟩) (fun fin s' => ∃ v, fin = .done (.ret v) ∧ Q v s') E s := by
  obtain ⟨hp, gg, dd, k0, oo⟩ := s
  show wpAny _ _ (field (.ref zc) 2 >>= _) _ _ _
  refine wpAny_bind (wpAny_field hz rfl (x := .bool false) rfl ?_)
  show wpAny _ _ (field (.ref zc) 3 >>= _) _ _ _
  refine wpAny_bind (wpAny_field hz rfl (x := .ref ta) rfl (wpAny_bind (wpAny_seqItems hI rfl ?_)))
  show wpAny _ _ (Builtin.SmallTypes.ownedTupleIsFree (.ref zc) >>= _) _ _ _
  refine wpAny_bind (held_zip hz hT fun g0 z0 e0 => ?_)
  replace e0 : Heap.SameBut zc hp g0 := e0
  simp only [Bool.false_eq_true, if_false]
  refine wpAny_bind ?_
  rw [← Array.forIn_toList]
  simp only [List.forIn_cons, List.forIn_nil]
  refine wpAny_bind (wpAny_bind (wpAny_holding ?_))
  show wpAny _ _ (Builtin.SmallTypes.nextOf (.ref j1) >>= _) _ _ ⟨g0, gg, dd, k0, oo⟩
  refine wpAny_bind (D1.item i _ _ _ l1 (D1.over t1 e0 S.zf1) fun x p1 k1 hx n1 e1 => wpAny_pure ?_)
  replace e1 : Heap.SameBut j1 g0 p1 := e1
  refine wpAny_pure (wpAny_bind (wpAny_bind (wpAny_holding ?_)))
  show wpAny _ _ (Builtin.SmallTypes.nextOf (.ref j2) >>= _) _ _ ⟨p1, gg, dd, k1, oo⟩
  refine wpAny_bind (D2.item i _ _ _ l2 (D2.over (D2.over t2 e0 S.zf2) e1 S.sep1_2) fun y p2 k2 hy n2 e2 => wpAny_pure ?_)
  replace e2 : Heap.SameBut j2 p1 p2 := e2
  refine wpAny_pure (wpAny_pure ?_)
  show wpAny _ _ (newTuple [x, y] >>= _) _ _ ⟨p2, gg, dd, k2, oo⟩
  refine wpAny_bind (wpAny_newTuple ?_)
  have sz : p2.objs.size = hp.objs.size := by rw [e2.1, e1.1, e0.1]
  have zz : ZA p2 zc ta tb (rawInt T) true := e2.extBut _ _ S.zi2 (e1.extBut _ _ S.zi1 z0)
  have kk : ∀ c o, c ≠ zc → c ≠ j1 → c ≠ j2 → hp.get? c = some o → p2.get? c = some o := fun c o a1 a3 a4 h => e2.extBut _ _ a4 (e1.extBut _ _ a3 (e0.extBut _ _ a1 h))
  have r1 : St1 (i + 1) p2 := D1.over n1 e2 S.sep2_1
  refine wpAny_pure ⟨_, rfl, ?_⟩
  show Q (.ref p2.objs.size) _
  have t8 : IsTupOf2 (p2.push { cls := .type "tuple", data := .seq #[x, y] }) p2.objs.size x y := Heap.get?_push_size _ rfl
  have s8 : (p2.push { cls := .type "tuple", data := .seq #[x, y] }).objs.size = p2.objs.size + 1 := Heap.size_push ..
  rw [sz] at t8 s8 ⊢
  exact q x y _ k2 hx hy ⟨⟨_, _, Heap.get?_push_of_some _ zz⟩, ⟨_, _, Heap.get?_push_of_some _ (kk _ _ S.TOz S.Ti1 S.Ti2 hO)⟩, D1.frame _ _ _ r1 fun c hc o h => Heap.get?_push_of_some _ h, D2.frame _ _ _ n2 fun c hc o h => Heap.get?_push_of_some _ h, t8, s8, fun c o a1 a2 a3 a4 h => Heap.get?_push_of_some _ (kk c o a1 a3 a4 h)⟩
/-- its tuple at home, or out -/
def ZOut (v : Value) : Prop := v = .none ∨ ∃ T : Addr, v = rawInt T
theorem zip_got {Q : Value → Shared → Prop} (S : ZipSep2 zc ta tb j1 j2 f1 f2) (D1' : Draws prog w A.in1 j1 f1 m1 P1 St1) (D2' : Draws prog w A.in1 j2 f2 m2 P2 St2) (hz : ZA s.heap zc ta tb v b) (hv : ZOut v)
    (hI : IsTupOf2 s.heap ta (.ref j1) (.ref j2)) (hO : IsTupOf2 s.heap tb c1 c2) (t1 : St1 i s.heap) (t2 : St2 i s.heap) (l1 : i < m1) (l2 : i < m2)
    (q : ∀ x y h' tk, P1 i x → P2 i y → ZipGot s zc ta tb j1 j2 St1 St2 i x y h' → Q (.ref s.heap.objs.size) { s with heap := h', toks := tk }) :
    wpAny (model prog w) A (Builtin.SmallTypes.nextOf (.ref zc)) Q E s := by
  have hT : s.TypeIs (.ref zc) "zip" := ⟨_, hz, rfl⟩
  unfold Builtin.SmallTypes.nextOf
  refine wpAny_bind (wpAny_callSpecial?_slot (name := Str.ofString "__next__") hT F.slot_zip_next (wpAny_call_entry F.slot_zip_next hT F.entry_zip_next ?_ (F.args_zip_next_1 _)))
  rcases hv with rfl | ⟨T, rfl⟩
  · exact zip_got_free S D1' D2' hz (.inl rfl) hI hO t1 t2 l1 l2 fun x y h' tk hx hy g => wpAny_pure (q x y h' tk hx hy g)
  · cases hg : s.heap.get? T with
    | none => exact zip_got_free S D1' D2' hz (.inr ⟨T, rfl, hg⟩) hI hO t1 t2 l1 l2 fun x y h' tk hx hy g => wpAny_pure (q x y h' tk hx hy g)
    | some oT => exact zip_got_held S D1' D2' hz hg hI hO t1 t2 l1 l2 fun x y h' tk hx hy g => wpAny_pure (q x y h' tk hx hy g)
/-- where the shorter one ends -/
abbrev ZEnd (s : Shared) (zc tb j1 j2 : Addr) (E : Value → Shared → Prop) : Prop :=
  ∀ h' tk e, (∀ c o, c ≠ zc → c ≠ tb → c ≠ j1 → c ≠ j2 → s.heap.get? c = some o → h'.get? c = some o) → (∃ o, h'.get? e = some o ∧ o.cls = .type "StopIteration") → E (.ref e) { s with heap := h', toks := tk }
theorem zip_stop_free {Q : Fin → Shared → Prop} (S : ZipSep2 zc ta tb j1 j2 f1 f2) (D1 : Draws prog w A j1 f1 m1 P1 St1) (D2 : Draws prog w A j2 f2 m2 P2 St2) (hz : ZA s.heap zc ta tb v b) (hf : AtHome s.heap v)
    (hI : IsTupOf2 s.heap ta (.ref j1) (.ref j2)) (hO : IsTupOf2 s.heap tb c1 c2) (t1 : St1 i s.heap) (t2 : St2 i s.heap) (l1 : i ≤ m1) (l2 : i ≤ m2) (he : i = m1 ∨ i = m2) (hE : ZEnd s zc tb j1 j2 E) :
    wpAny (model prog w) A (Builtin.«zip.__next__» ⟨[.ref zc], []⟩) Q E s := by
  obtain ⟨hp, gg, dd, k0, oo⟩ := s
  show wpAny _ _ (field (.ref zc) 2 >>= _) _ _ _
  refine wpAny_bind (wpAny_field hz rfl (x := .bool false) rfl ?_)
  show wpAny _ _ (field (.ref zc) 3 >>= _) _ _ _
  refine wpAny_bind (wpAny_field hz rfl (x := .ref ta) rfl (wpAny_bind (wpAny_seqItems hI rfl ?_)))
  show wpAny _ _ (Builtin.SmallTypes.ownedTupleIsFree (.ref zc) >>= _) _ _ _
  refine wpAny_bind (free_zip hz hf ?_)
  simp only [if_true]
  refine wpAny_bind (wpAny_rule (wpAny_bind (wpAny_field hz rfl (x := .ref tb) rfl (wpAny_bind (wpAny_setField_rec hz (by simp) fun g0 z0 e0 => ?_)))))
  replace z0 : ZA g0 zc ta tb .ellipsis b := z0
  replace e0 : Heap.SameBut zc hp g0 := e0
  refine wpAny_bind ?_
  simp only [List.zipIdx_cons, List.zipIdx_nil, List.forIn_cons, List.forIn_nil]
  refine wpAny_bind (wpAny_bind (wpAny_onRaise ?_))
  show wpAny _ _ (Builtin.SmallTypes.nextOf (.ref j1) >>= _) _ _ ⟨g0, gg, dd, k0, oo⟩
  by_cases lt : i < m1
  · refine wpAny_bind (D1.item i _ _ _ lt (D1.over t1 e0 S.zf1) fun x p1 k1 hx n1 e1 => wpAny_pure ?_)
    replace e1 : Heap.SameBut j1 g0 p1 := e1
    have u1 : IsTupOf2 p1 tb c1 c2 := e1.extBut _ _ S.Ti1 (e0.extBut _ _ S.TOz hO)
    refine wpAny_bind (wpAny_seqItems (s := ⟨p1, gg, dd, k1, oo⟩) u1 rfl (wpAny_bind (updateSeq_IsTupOf2 (s := ⟨p1, gg, dd, k1, oo⟩) u1 fun g1 w1 d1 => ?_)))
    replace d1 : Heap.SameBut tb p1 g1 := d1
    have i2 : i = m2 := by omega
    refine wpAny_bind (wpAny_letGo (wpAny_pure (wpAny_bind (wpAny_bind (wpAny_onRaise ?_)))))
    show wpAny _ _ (Builtin.SmallTypes.nextOf (.ref j2) >>= _) _ _ ⟨g1, gg, dd, k1, oo⟩
    refine wpAny_bind (D2.done ⟨g1, gg, dd, k1, oo⟩ _ _ (by rw [← i2]; exact D2.over (D2.over (D2.over t2 e0 S.zf2) e1 S.sep1_2) d1 S.Tf2) fun r ee er ⟨oe, ho, hc⟩ => ?_)
    replace er : Heap.ExtBut j2 g1 r := er
    replace ho : r.get? ee = some oe := ho
    have zr : ZA r zc ta tb .ellipsis b := er _ _ S.zi2 (d1.extBut _ _ S.TOz.symm (e1.extBut _ _ S.zi1 z0))
    have ne : ee ≠ zc := fun x => by subst x; rw [zr] at ho; cases ho; simp at hc
    refine wpAny_setField_rec (s := ⟨r, gg, dd, k1, oo⟩) zr (by simp) fun r' _ er' => ?_
    replace er' : Heap.SameBut zc r r' := er'
    exact hE r' k1 ee (fun c o a1 a2 a3 a4 h => er'.extBut _ _ a1 (er _ _ a4 (d1.extBut _ _ a2 (e1.extBut _ _ a3 (e0.extBut _ _ a1 h))))) ⟨oe, er'.extBut _ _ ne ho, hc⟩
  · have i1 : i = m1 := by omega
    refine wpAny_bind (D1.done ⟨g0, gg, dd, k0, oo⟩ _ _ (by rw [← i1]; exact D1.over t1 e0 S.zf1) fun r ee er ⟨oe, ho, hc⟩ => ?_)
    replace er : Heap.ExtBut j1 g0 r := er
    replace ho : r.get? ee = some oe := ho
    have zr : ZA r zc ta tb .ellipsis b := er _ _ S.zi1 z0
    have ne : ee ≠ zc := fun x => by subst x; rw [zr] at ho; cases ho; simp at hc
    refine wpAny_setField_rec (s := ⟨r, gg, dd, k0, oo⟩) zr (by simp) fun r' _ er' => ?_
    replace er' : Heap.SameBut zc r r' := er'
    exact hE r' k0 ee (fun c o a1 a2 a3 a4 h => er'.extBut _ _ a1 (er _ _ a3 (e0.extBut _ _ a1 h))) ⟨oe, er'.extBut _ _ ne ho, hc⟩
theorem zip_stop_held {T : Addr} {oT : Obj} {Q : Fin → Shared → Prop} (S : ZipSep2 zc ta tb j1 j2 f1 f2) (D1 : Draws prog w A j1 f1 m1 P1 St1) (D2 : Draws prog w A j2 f2 m2 P2 St2) (hz : ZA s.heap zc ta tb (rawInt T) b) (hT : s.heap.get? T = some oT)
    (hI : IsTupOf2 s.heap ta (.ref j1) (.ref j2)) (t1 : St1 i s.heap) (t2 : St2 i s.heap) (l1 : i ≤ m1) (l2 : i ≤ m2) (he : i = m1 ∨ i = m2) (hE : ZEnd s zc tb j1 j2 E) :
    wpAny (model prog w) A (Builtin.«zip.__next__» ⟨[.ref zc], []⟩) Q E s := by
  obtain ⟨hp, gg, dd, k0, oo⟩ := s
  show wpAny _ _ (field (.ref zc) 2 >>= _) _ _ _
  refine wpAny_bind (wpAny_field hz rfl (x := .bool false) rfl ?_)
  show wpAny _ _ (field (.ref zc) 3 >>= _) _ _ _
  refine wpAny_bind (wpAny_field hz rfl (x := .ref ta) rfl (wpAny_bind (wpAny_seqItems hI rfl ?_)))
  show wpAny _ _ (Builtin.SmallTypes.ownedTupleIsFree (.ref zc) >>= _) _ _ _
  refine wpAny_bind (held_zip hz hT fun g0 z0 e0 => ?_)
  replace e0 : Heap.SameBut zc hp g0 := e0
  simp only [Bool.false_eq_true, if_false]
  refine wpAny_bind ?_
  rw [← Array.forIn_toList]
  simp only [List.forIn_cons, List.forIn_nil]
  refine wpAny_bind (wpAny_bind (wpAny_holding ?_))
  show wpAny _ _ (Builtin.SmallTypes.nextOf (.ref j1) >>= _) _ _ ⟨g0, gg, dd, k0, oo⟩
  by_cases lt : i < m1
  · refine wpAny_bind (D1.item i _ _ _ lt (D1.over t1 e0 S.zf1) fun x p1 k1 hx n1 e1 => wpAny_pure ?_)
    replace e1 : Heap.SameBut j1 g0 p1 := e1
    have i2 : i = m2 := by omega
    refine wpAny_pure (wpAny_bind (wpAny_bind (wpAny_holding ?_)))
    show wpAny _ _ (Builtin.SmallTypes.nextOf (.ref j2) >>= _) _ _ ⟨p1, gg, dd, k1, oo⟩
    refine wpAny_bind (D2.done ⟨p1, gg, dd, k1, oo⟩ _ _ (by rw [← i2]; exact D2.over (D2.over t2 e0 S.zf2) e1 S.sep1_2) fun r ee er hc => ?_)
    replace er : Heap.ExtBut j2 p1 r := er
    exact hE r k1 ee (fun c o a1 a2 a3 a4 h => er _ _ a4 (e1.extBut _ _ a3 (e0.extBut _ _ a1 h))) hc
  · have i1 : i = m1 := by omega
    refine wpAny_bind (D1.done ⟨g0, gg, dd, k0, oo⟩ _ _ (by rw [← i1]; exact D1.over t1 e0 S.zf1) fun r ee er hc => ?_)
    replace er : Heap.ExtBut j1 g0 r := er
    exact hE r k0 ee (fun c o a1 a2 a3 a4 h => er _ _ a3 (e0.extBut _ _ a1 h)) hc
theorem zip_stop {Q : Value → Shared → Prop} (S : ZipSep2 zc ta tb j1 j2 f1 f2) (D1' : Draws prog w A.in1 j1 f1 m1 P1 St1) (D2' : Draws prog w A.in1 j2 f2 m2 P2 St2) (hz : ZA s.heap zc ta tb v b) (hv : ZOut v)
    (hI : IsTupOf2 s.heap ta (.ref j1) (.ref j2)) (hO : IsTupOf2 s.heap tb c1 c2) (t1 : St1 i s.heap) (t2 : St2 i s.heap) (l1 : i ≤ m1) (l2 : i ≤ m2) (he : i = m1 ∨ i = m2) (hE : ZEnd s zc tb j1 j2 E) :
    wpAny (model prog w) A (Builtin.SmallTypes.nextOf (.ref zc)) Q E s := by
  have hT : s.TypeIs (.ref zc) "zip" := ⟨_, hz, rfl⟩
  unfold Builtin.SmallTypes.nextOf
  refine wpAny_bind (wpAny_callSpecial?_slot (name := Str.ofString "__next__") hT F.slot_zip_next (wpAny_call_entry F.slot_zip_next hT F.entry_zip_next ?_ (F.args_zip_next_1 _)))
  rcases hv with rfl | ⟨T, rfl⟩
  · exact zip_stop_free S D1' D2' hz (.inl rfl) hI hO t1 t2 l1 l2 he hE
  · cases hg : s.heap.get? T with
    | none => exact zip_stop_free S D1' D2' hz (.inr ⟨T, rfl, hg⟩) hI hO t1 t2 l1 l2 he hE
    | some oT => exact zip_stop_held S D1' D2' hz hg hI t1 t2 l1 l2 he hE
/-! ### enumerate over it -/
theorem enz_next {e : Addr} {n : Int} {old : Value} {Q : Option Value → Shared → Prop} {St : Heap → Prop} {xs : Value → Prop} {ff cc : List Addr} (hef : e ∉ ff) (hec : e ∉ cc) (he : IsEnum s.heap e zc n old) (hfr : ∀ h h', St h → (∀ c ∈ ff, ∀ o, h.get? c = some o → h'.get? c = some o) → St h')
    (draw : ∀ (Q' : Value → Shared → Prop) (E' : Value → Shared → Prop), (∀ x h' tk, xs x → St h' → h'.objs.size = s.heap.objs.size + 1 → (∀ c o, c ∉ cc → s.heap.get? c = some o → h'.get? c = some o) → Q' x { s with heap := h', toks := tk }) → wpAny (model prog w) A.in1 (Builtin.SmallTypes.nextOf (.ref zc)) Q' E' s)
    (q : ∀ x h' tk, xs x → IsEnumOut h' e zc (n + 1) x (s.heap.objs.size + 1) → St h' → h'.get? (s.heap.objs.size + 1) = some { cls := .type "tuple", data := .seq #[.int n tk, x] } → h'.objs.size = s.heap.objs.size + 2 →
      (∃ h1, St h1 ∧ h1.objs.size = s.heap.objs.size + 1 ∧ (∀ c o, c ∉ cc → s.heap.get? c = some o → h1.get? c = some o) ∧ ∀ c o, c ≠ e → h1.get? c = some o → h'.get? c = some o) → Q (some (.ref (s.heap.objs.size + 1))) { s with heap := h', toks := tk + 1 }) :
    wpAny (model prog w) A (pyNext (.ref e)) Q E s := by
  have hT : s.TypeIs (.ref e) "enumerate" := ⟨_, he, rfl⟩
  unfold pyNext
  refine wpAny_bind (wpAny_attempt (wpAny_callSpecial?_slot (name := Str.ofString "__next__") hT F.slot_enumerate_next (wpAny_call_entry F.slot_enumerate_next hT F.entry_enumerate_next ?_ (F.args_enumerate_next_1 _))))
  obtain ⟨hp, gg, dd, k0, oo⟩ := s
  show wpAny _ _ (field (.ref e) 2 >>= _) _ _ _
  refine wpAny_bind (wpAny_field he rfl (x := .ref zc) rfl (wpAny_bind (draw _ _ fun x h1 tk px s1 z1 k1 => ?_)))
  replace z1 : h1.objs.size = hp.objs.size + 1 := z1
  replace k1 : ∀ c o, c ∉ cc → hp.get? c = some o → h1.get? c = some o := k1
  have a1 : IsEnum h1 e zc n old := k1 e _ hec he
  show wpAny _ _ (field (.ref e) 3 >>= _) _ _ ⟨h1, gg, dd, tk, oo⟩
  refine wpAny_bind (wpAny_field a1 rfl (x := rawInt n) rfl ?_)
  show wpAny _ _ (field (.ref e) 4 >>= _) _ _ ⟨h1, gg, dd, tk, oo⟩
  refine wpAny_bind (wpAny_field a1 rfl (x := .none) rfl ?_)
  show wpAny _ _ (mkInt n >>= _) _ _ ⟨h1, gg, dd, tk, oo⟩
  refine wpAny_bind (wpAny_mkInt ?_)
  show wpAny _ _ (setField (.ref e) 3 (rawInt (n + 1)) >>= _) _ _ ⟨h1, gg, dd, tk + 1, oo⟩
  refine wpAny_bind (wpAny_setField_rec a1 (by simp) fun h2 a2 d2 => ?_)
  replace d2 : Heap.SameBut e h1 h2 := d2
  replace a2 : IsEnum h2 e zc (n + 1) old := a2
  show wpAny _ _ (setField (.ref e) 4 .none >>= _) _ _ ⟨h2, gg, dd, tk + 1, oo⟩
  refine wpAny_bind (wpAny_setField_rec a2 (by simp) fun h3 a3 d3 => ?_)
  replace d3 : Heap.SameBut e h2 h3 := d3
  replace a3 : IsEnum h3 e zc (n + 1) old := a3
  show wpAny _ _ (newTuple [.int n tk, x] >>= _) _ _ ⟨h3, gg, dd, tk + 1, oo⟩
  refine wpAny_bind (wpAny_newTuple ?_)
  have a4 : IsEnum (h3.push { cls := .type "tuple", data := .seq #[.int n tk, x] }) e zc (n + 1) old := Heap.get?_push_of_some _ a3
  generalize e4 : h3.push { cls := .type "tuple", data := .seq #[.int n tk, x] } = h4 at a4
  have z3 : h3.objs.size = hp.objs.size + 1 := by rw [d3.1, d2.1, z1]
  have le : e < hp.objs.size + 1 := Nat.lt_succ_of_lt (Heap.lt_size he)
  have t4 : h4.get? (hp.objs.size + 1) = some { cls := .type "tuple", data := .seq #[.int n tk, x] } := by rw [← e4, ← z3]; exact Heap.get?_push_size _ rfl
  have z4 : h4.objs.size = hp.objs.size + 2 := by rw [← e4, Heap.size_push, z3]
  have k4 : ∀ c o, c ≠ e → h1.get? c = some o → h4.get? c = some o := fun c o hc h => by rw [← e4]; exact Heap.get?_push_of_some _ (d3.extBut c o hc (d2.extBut c o hc h))
  show wpAny _ _ (Builtin.SmallTypes.ownedTupleIsFree (.ref e) >>= _) _ _ ⟨h4, gg, dd, tk + 1, oo⟩
  rw [z3]
  clear e4 a3 d3 a2 d2 z3
  refine wpAny_bind ?_
  unfold Builtin.SmallTypes.ownedTupleIsFree
  refine wpAny_bind (wpAny_field a4 rfl (x := .none) rfl (wpAny_pure ?_))
  simp only [if_true]
  refine wpAny_bind (wpAny_rule (wpAny_bind (wpAny_field a4 rfl (x := old) rfl (wpAny_bind (wpAny_setField_rec a4 (by simp) fun h5 a5 d5 => ?_)))))
  replace d5 : Heap.SameBut e h4 h5 := d5
  replace a5 : IsEnum h5 e zc (n + 1) x := a5
  show wpAny _ _ (Builtin.SmallTypes.ownedTupleHandOut (.ref e) (.ref (hp.objs.size + 1)) >>= _) _ _ ⟨h5, gg, dd, tk + 1, oo⟩
  refine wpAny_bind ?_
  unfold Builtin.SmallTypes.ownedTupleHandOut
  refine wpAny_bind (wpAny_setField_rec a5 (by simp) fun h6 a6 d6 => ?_)
  replace d6 : Heap.SameBut e h5 h6 := d6
  replace a6 : IsEnumOut h6 e zc (n + 1) x (hp.objs.size + 1) := a6
  refine wpAny_setField_rec a6 (by simp) fun h7 a7 d7 => ?_
  replace d7 : Heap.SameBut e h6 h7 := d7
  replace a7 : IsEnumOut h7 e zc (n + 1) x (hp.objs.size + 1) := a7
  have k7 : ∀ c o, c ≠ e → h1.get? c = some o → h7.get? c = some o := fun c o hc h => d7.extBut c o hc (d6.extBut c o hc (d5.extBut c o hc (k4 c o hc h)))
  refine wpAny_bind (wpAny_letGo (wpAny_pure ⟨_, rfl, wpAny_pure (q x h7 tk px a7 (hfr h1 h7 s1 fun c hc o h => k7 c o (fun z => hef (z ▸ hc)) h) ?_ ?_ ⟨h1, s1, z1, k1, k7⟩)⟩))
  · exact d7.extBut _ _ (Nat.ne_of_gt le) (d6.extBut _ _ (Nat.ne_of_gt le) (d5.extBut _ _ (Nat.ne_of_gt le) t4))
  · rw [d7.1, d6.1, d5.1, z4]
theorem enz_stop {e : Addr} {n : Int} {old : Value} {Q : Option Value → Shared → Prop} (he : IsEnum s.heap e zc n old)
    (draw : ∀ (Q' : Value → Shared → Prop) (E' : Value → Shared → Prop), ZEnd s zc tb j1 j2 E' → wpAny (model prog w) A.in1 (Builtin.SmallTypes.nextOf (.ref zc)) Q' E' s)
    (q : ∀ h' tk, (∀ c o, c ≠ zc → c ≠ tb → c ≠ j1 → c ≠ j2 → s.heap.get? c = some o → h'.get? c = some o) → Q none { s with heap := h', toks := tk }) : wpAny (model prog w) A (pyNext (.ref e)) Q E s := by
  have hT : s.TypeIs (.ref e) "enumerate" := ⟨_, he, rfl⟩
  unfold pyNext
  refine wpAny_bind (wpAny_attempt (wpAny_callSpecial?_slot (name := Str.ofString "__next__") hT F.slot_enumerate_next (wpAny_call_entry F.slot_enumerate_next hT F.entry_enumerate_next ?_ (F.args_enumerate_next_1 _))))
  show wpAny _ _ (field (.ref e) 2 >>= _) _ _ _
  refine wpAny_bind (wpAny_field he rfl (x := .ref zc) rfl (wpAny_bind (draw _ _ fun h' tk x hk ⟨o, ho, hc⟩ => ?_)))
  refine wpAny_bind (wpAny_isInstance (T := "StopIteration") (b := true) ⟨o, ho, hc⟩ isSubtype_stop ?_)
  exact wpAny_pure (q _ _ hk)
end
/-- the turns of enumerate over zip -/
def ItezK (K : PySem.W.Frag) (t1 t2 : Bool) (a b : Addr) : It :=
  ⟨fun i H => ∃ (xs ys : List V) (x y : V), SqK K t1 H a xs ∧ SqK K t2 H b ys ∧ xs[i]? = some x ∧ ys[i]? = some y,
    fun i H v H' => ∃ N T x y, v = .ref T ∧ H N = none ∧ (upd H N (.tup [x, y])) T = none ∧ H' = upd (upd H N (.tup [x, y])) T (.tup [.int (i : Nat), .ref N]) ∧ (∀ xs, SqK K t1 H a xs → xs[i]? = some x) ∧ ∀ ys, SqK K t2 H b ys → ys[i]? = some y,
    fun i H => ∃ xs ys : List V, SqK K t1 H a xs ∧ SqK K t2 H b ys ∧ i ≤ xs.length ∧ i ≤ ys.length ∧ (i = xs.length ∨ i = ys.length)⟩
theorem IsK.at {t : Bool} {h h' : Heap} {a : Addr} {its : Array Value} (p : IsK t h a its) (k : ∀ o, h.get? a = some o → h'.get? a = some o) : IsK t h' a its := by
  cases t with
  | true => obtain ⟨o, e, c, d⟩ := (show h.IsTuple a its from p); exact ⟨o, k o e, c, d⟩
  | false => obtain ⟨o, e, c, d⟩ := (show h.IsList a its from p); exact ⟨o, k o e, c, d⟩
theorem IsK.lt {t : Bool} {h : Heap} {a : Addr} {its : Array Value} (p : IsK t h a its) : a < h.objs.size := by
  cases t with
  | true => obtain ⟨o, e, c, d⟩ := (show h.IsTuple a its from p); exact Heap.lt_size e
  | false => obtain ⟨o, e, c, d⟩ := (show h.IsList a its from p); exact Heap.lt_size e
section
variable {elts : List Expr} {kk : Nat} {tpos : Pos}
theorem turn_enzK {P : Program} {w : World} {K : PySem.W.Frag} {t1 t2 : Bool} {a b e z TI TO i1 i2 : Addr} (S : ZipSep2 z TI TO i1 i2 [i1, a] [i2, b]) (hea : e ∉ [z, TI, TO, i1, i2, a, b]) :
    Turn P w K (.Tuple elts kk tpos) (ItezK K t1 t2 a b) [e, z, TI, TO, i1, i2] e (fun i h => (∃ old, IsEnum h e z ((i : Nat) : Int) old) ∧ (∃ v bb, ZA h z TI TO v bb ∧ ZOut v) ∧ IsTupOf2 h TI (.ref i1) (.ref i2) ∧ (∃ x y, IsTupOf2 h TO x y) ∧ ItK t1 h i1 a i ∧ ItK t2 h i2 b i) where
  mem := List.mem_cons_self
  obj := fun i h ⟨⟨old, he⟩, ⟨v, bb, hz, _⟩, hTI, ⟨x, y, hTO⟩, k1, k2⟩ c hc => by
    simp only [List.mem_cons, List.not_mem_nil, or_false] at hc
    rcases hc with rfl | rfl | rfl | rfl | rfl | rfl
    · exact ⟨_, he, fun v q => nomatch q⟩
    · exact ⟨_, hz, fun v q => nomatch q⟩
    · exact ⟨_, hTI, fun v q => nomatch q⟩
    · exact ⟨_, hTO, fun v q => nomatch q⟩
    · exact k1.rec
    · exact k2.rec
  keep := fun i h h' ⟨⟨old, he⟩, ⟨v, bb, hz, hv⟩, hTI, ⟨x, y, hTO⟩, k1, k2⟩ k => ⟨⟨old, k e (by simp) _ he⟩, ⟨v, bb, k z (by simp) _ hz, hv⟩, k TI (by simp) _ hTI, ⟨x, y, k TO (by simp) _ hTO⟩, k1.at fun o q => k i1 (by simp) o q, k2.at fun o q => k i2 (by simp) o q⟩
  item := by
    intro X hP hw hK hc i pins s σ H E I hf st hg
    subst hP hw hK
    obtain ⟨⟨old, hen⟩, ⟨v0, bb, hz, hv⟩, hTI, ⟨x0, y0, hTO⟩, k1, k2⟩ := st
    obtain ⟨xs, ys, x, y, q1, q2, hx, hy⟩ := hg
    obtain ⟨its, r1, p1, la⟩ := inv_seqK I q1
    obtain ⟨jts, r2, p2, lb⟩ := inv_seqK I q2
    obtain ⟨u, hu, ru⟩ := r1.get hx
    obtain ⟨v, hv', rv⟩ := r2.get hy
    obtain ⟨b1, e1⟩ := getArr hu
    obtain ⟨b2, e2⟩ := getArr hv'
    have hh : X.A.in1.in1.handled = none := I.ok.hd hc
    have hel : e < s.heap.objs.size := Heap.lt_size hen
    simp only [List.mem_cons, List.not_mem_nil, or_false, not_or] at hea
    obtain ⟨n1, n2, n3, n4, n5, n6, n7⟩ := hea
    refine enz_next (zc := z) (n := ((i : Nat) : Int)) (ff := [z, TI, TO, i1, i2, a, b, s.heap.objs.size]) (cc := [z, TO, i1, i2]) (xs := fun w => w = .ref s.heap.objs.size)
      (St := fun h => (∃ (T : Addr) (bb : Bool), ZA h z TI TO (rawInt T) bb) ∧ IsTupOf2 h TI (.ref i1) (.ref i2) ∧ (∃ p q, IsTupOf2 h TO p q) ∧ (ItK t1 h i1 a (i + 1) ∧ IsK t1 h a its.toArray) ∧ (ItK t2 h i2 b (i + 1) ∧ IsK t2 h b jts.toArray) ∧ IsTupOf2 h s.heap.objs.size u v)
      ?_ ?_ hen ?_ (fun Q' E' k => ?_) fun u' h' tk hu' ho hst hT hsz ⟨h1, s1, z1, kp1, kp7⟩ => ?_
    · simp only [List.mem_cons, List.not_mem_nil, or_false, not_or]
      exact ⟨n1, n2, n3, n4, n5, n6, n7, Nat.ne_of_lt hel⟩
    · simp only [List.mem_cons, List.not_mem_nil, or_false, not_or]
      exact ⟨n1, n3, n4, n5⟩
    · rintro h h' ⟨⟨T, bb, y1⟩, y2, ⟨p, q, y3⟩, ⟨y4, y5⟩, ⟨y6, y7⟩, y8⟩ k
      exact ⟨⟨T, bb, k z (by simp) _ y1⟩, k TI (by simp) _ y2, ⟨p, q, k TO (by simp) _ y3⟩, ⟨y4.at fun o q => k i1 (by simp) o q, y5.at fun o q => k a (by simp) o q⟩, ⟨y6.at fun o q => k i2 (by simp) o q, y7.at fun o q => k b (by simp) o q⟩, k _ (by simp) _ y8⟩
    · refine zip_got S (drawsK t1 hh i1 a (p1.ne k1) its.toArray) (drawsK t2 hh i2 b (p2.ne k2) jts.toArray) hz hv hTI hTO ⟨k1, p1⟩ ⟨k2, p2⟩ b1 b2 fun x' y' h' tk f1 f2 g => ?_
      rw [e1] at f1
      rw [e2] at f2
      cases f1
      cases f2
      refine k _ h' tk rfl ⟨g.z, g.keep _ _ S.TIz S.TITO S.TIi1 S.TIi2 hTI, g.own, g.s1, g.s2, g.new⟩ g.size fun c o hc h => ?_
      simp only [List.mem_cons, List.not_mem_nil, or_false, not_or] at hc
      exact g.keep c o hc.1 hc.2.1 hc.2.2.1 hc.2.2.2 h
    · subst hu'
      refine ⟨_, rfl, wpAny_letOwnedTupleGo_enum (s := { s with heap := h', toks := tk + 1 }) ho fun h'' z'' sb => ?_⟩
      obtain ⟨⟨T, bb', y1⟩, y2, ⟨p, q, y3⟩, ⟨y4, y5⟩, ⟨y6, y7⟩, y8⟩ := hst
      have new1 : ObjOk X.prog X.w (upd H s.heap.objs.size (.tup [x, y])) h1 s.heap.objs.size (.tup [x, y]) := ⟨by show 2 ≤ sizeLine; decide, [u, v], .cons ru (.cons rv .nil), ⟨_, s1.2.2.2.2.2, rfl, _, rfl⟩⟩
      have hn1 : H s.heap.objs.size = none := I.hok.fresh (Nat.le_refl _)
      have I1 : Inv X pins σ (upd H s.heap.objs.size (.tup [x, y])) { s with heap := h1, toks := tk } := by
        refine I.turnedNew (t' := tk) (ch := [e, z, TI, TO, i1, i2]) (fun c o hb q => kp1 c o ?_ q) hf (Nat.le_refl _) new1
        simp only [List.mem_cons, List.not_mem_nil, or_false, not_or] at hb ⊢
        exact ⟨hb.2.1, hb.2.2.2.1, hb.2.2.2.2.1, hb.2.2.2.2.2⟩
      have hfe : FpOk X pins (upd H s.heap.objs.size (.tup [x, y])) e := by
        obtain ⟨g1, g2⟩ := hf e (by simp)
        exact ⟨by rw [upd_ne (Nat.ne_of_lt hel)]; exact g1, g2⟩
      have hT2 : h''.get? (s.heap.objs.size + 1) = some { cls := .type "tuple", data := .seq #[.int ((i : Nat) : Int) tk, .ref s.heap.objs.size] } := (sb.2 _ (Nat.ne_of_gt (Nat.lt_succ_of_lt hel))).trans hT
      have new2 : ObjOk X.prog X.w (upd (upd H s.heap.objs.size (.tup [x, y])) (s.heap.objs.size + 1) (.tup [.int (i : Nat), .ref s.heap.objs.size])) h'' (s.heap.objs.size + 1) (.tup [.int (i : Nat), .ref s.heap.objs.size]) :=
        ⟨by show 2 ≤ sizeLine; decide, [.int ((i : Nat) : Int) tk, .ref s.heap.objs.size], .cons ⟨_, rfl⟩ (.cons rfl .nil), ⟨_, hT2, rfl, _, rfl⟩⟩
      have keep2 : ∀ c o, c ∉ [e] → h1.get? c = some o → h''.get? c = some o := fun c o hb q => by
        have hce : c ≠ e := fun z => hb (by rw [z]; exact List.mem_cons_self)
        exact (sb.2 c hce).trans (kp7 c o hce q)
      have I2 : Inv X pins σ (upd (upd H s.heap.objs.size (.tup [x, y])) (s.heap.objs.size + 1) (.tup [.int (i : Nat), .ref s.heap.objs.size])) { s with heap := h'', toks := tk + 1 } :=
        I1.turnedNew (t' := tk + 1) (ch := [e]) keep2 (fun c hc => by rw [List.mem_singleton.mp hc]; exact hfe) (by show h1.objs.size ≤ _; rw [z1]; exact Nat.le_refl _) new2
      have hn2 : (upd H s.heap.objs.size (.tup [x, y])) (s.heap.objs.size + 1) = none := I1.hok.fresh (by show h1.objs.size ≤ _; rw [z1]; exact Nat.le_refl _)
      refine ⟨.ref (s.heap.objs.size + 1), _, I2, rfl, ⟨_, _, x, y, rfl, hn1, hn2, rfl, fun l hl => by rw [inv_injK I hl q1]; exact hx, fun l hl => by rw [inv_injK I hl q2]; exact hy⟩, ⟨⟨.ref s.heap.objs.size, ?_⟩, ⟨rawInt T, bb', ?_, .inr ⟨T, rfl⟩⟩, ?_, ⟨p, q, ?_⟩, ?_, ?_⟩, fun c hcm => ?_⟩
      · have e2 : ((i + 1 : Nat) : Int) = (i : Int) + 1 := by omega
        rw [e2]
        exact z''
      · exact (sb.2 _ (Ne.symm n1)).trans y1
      · exact (sb.2 _ (Ne.symm n2)).trans y2
      · exact (sb.2 _ (Ne.symm n3)).trans y3
      · exact y4.at fun o q => (sb.2 _ (Ne.symm n4)).trans q
      · exact y6.at fun o q => (sb.2 _ (Ne.symm n5)).trans q
      · have hlt : c < s.heap.objs.size := by
          simp only [List.mem_cons, List.not_mem_nil, or_false] at hcm
          rcases hcm with rfl | rfl | rfl | rfl | rfl | rfl
          · exact hel
          · exact Heap.lt_size hz
          · exact Heap.lt_size hTI
          · exact Heap.lt_size hTO
          · obtain ⟨_, q, _⟩ := k1.rec; exact Heap.lt_size q
          · obtain ⟨_, q, _⟩ := k2.rec; exact Heap.lt_size q
        rw [upd_ne (Nat.ne_of_lt (Nat.lt_succ_of_lt hlt)), upd_ne (Nat.ne_of_lt hlt)]
        exact (hf c hcm).1
  done := by
    intro X hP hw hK hc i pins s σ H E I hf st hg
    subst hP hw hK
    obtain ⟨⟨old, hen⟩, ⟨v0, bb, hz, hv⟩, hTI, ⟨x0, y0, hTO⟩, k1, k2⟩ := st
    obtain ⟨xs, ys, q1, q2, l1, l2, hend⟩ := hg
    obtain ⟨its, r1, p1, la⟩ := inv_seqK I q1
    obtain ⟨jts, r2, p2, lb⟩ := inv_seqK I q2
    have z1 : its.toArray.size = xs.length := by rw [List.size_toArray, ← r1.length]
    have z2 : jts.toArray.size = ys.length := by rw [List.size_toArray, ← r2.length]
    have hh : X.A.in1.in1.handled = none := I.ok.hd hc
    refine enz_stop (zc := z) (tb := TO) (j1 := i1) (j2 := i2) hen (fun Q' E' k => zip_stop S (drawsK t1 hh i1 a (p1.ne k1) its.toArray) (drawsK t2 hh i2 b (p2.ne k2) jts.toArray) hz hv hTI hTO ⟨k1, p1⟩ ⟨k2, p2⟩ (by omega) (by omega) (by omega) k) fun h' tk hk => ⟨rfl, ?_⟩
    refine I.turnedL (t' := tk) (ch := [e, z, TI, TO, i1, i2]) (fun c o hb q => ?_) hf
    simp only [List.mem_cons, List.not_mem_nil, or_false, not_or] at hb
    exact hk c o hb.2.1 hb.2.2.2.1 hb.2.2.2.2.1 hb.2.2.2.2.2 q
  self := fun A i s Q E st h => let ⟨⟨_, hz⟩, _⟩ := st; wpAny_pyIter_enum hz h
theorem meets_enumZ {z ta tb : Addr} {v : Value} {b : Bool} :
    Meets (Builtin.«enumerate.__new__» ⟨[.type "enumerate", .ref z], []⟩) (fun _ R s => ZA s.heap z ta tb .none false ∧
      R (.ok (.ret (.ref s.heap.objs.size))) { s with heap := s.heap.push { cls := .type "enumerate", data := .fields #[.none, .bool false, .ref z, rawInt 0, .none, .none] } }) :=
  .of_wp fun prog w A R s ⟨hC, fin⟩ => by
    obtain ⟨hp, gn, dr, tk, os⟩ := s
    have sub1 := sub_enumerate
    have it1 : ∀ {A' : Around} {E' : Value → Shared → Prop} {Q' : Value → Shared → Prop}, Q' (.ref z) ⟨hp, gn, dr, tk, os⟩ → wpAny (model prog w) A' (pyIter (.ref z)) Q' E' ⟨hp, gn, dr, tk, os⟩ := fun q => wpAny_pyIter_zip hC q
    wp_walk using it1
    refine wpAny_stack_any fun stk => wpAny_pure ?_
    split
    · rename_i c _ _ _ _ _
      cases (c == Value.type "enumerate") <;> (wp_walk using it1; exact ⟨_, rfl, fin⟩)
    · wp_walk using it1
      exact ⟨_, rfl, fin⟩
theorem enumZ_begins {prog : Program} {w : World} {A : Around} {E : Value → Shared → Prop} {s : Shared} {z ta tb : Addr} {Q : Value → Shared → Prop} (hz : ZA s.heap z ta tb .none false)
    (fin : ∀ h', IsEnum h' s.heap.objs.size z 0 .none → h'.objs.size = s.heap.objs.size + 1 → (∀ b o, s.heap.get? b = some o → h'.get? b = some o) → Q (.ref s.heap.objs.size) { s with heap := h' }) :
    wpAny (model prog w) A (call (.type "enumerate") [.ref z]) Q E s := by
  have en : IsEnum (s.heap.push { cls := .type "enumerate", data := .fields #[.none, .bool false, .ref z, rawInt 0, .none, .none] }) s.heap.objs.size z 0 .none := Heap.get?_push_size _ rfl
  refine callType_new F.called_enumerate (by decide) (F.typeCall_enumerate_1 _) (F.newCall_enumerate_1 _) (fun ob => F.args_object_init_2 ob _) F.entry_enumerate_new (meets_enumZ (v := .none) (b := false)) ⟨hz, ⟨_, en, rfl⟩, ?_⟩
  exact fin _ en (Heap.size_push ..) fun b ob q => Heap.get?_push_of_some _ q
variable {X : Cx} {e e2 : Expr} {ta : TA} {p p2 pos pos2 : Pos}
def iEnzK (K : PySem.W.Frag) (ta : TA) : TI := fun σ H R => ta σ H fun vs H1 => ∃ t1 t2 a b xs ys, vs = [.ref a, .ref b] ∧ SqK K t1 H1 a xs ∧ SqK K t2 H1 b ys ∧ R (ItezK K t1 t2 a b) H1
theorem pi_enzK (hg : Gl X "enumerate") (hm : X.mg "enumerate" = none) (hg2 : Gl X "zip") (hm2 : X.mg "zip" = none) (ha : PA X [e, e2] ta) (hs : starEach [e, e2] X.env = (false, eval e X.env) :: starEach [e2] X.env) (hpl : (backTo pos2 (starEach [e2] X.env)).any (·.1) = false) :
    PI X (.Tuple elts kk tpos) (.Call (.Name "enumerate" p) [.Call (.Name "zip" p2) [e, e2] [] pos2] [] pos) (iEnzK X.K ta) := by
  refine ⟨fun pins s σ H R I h => ?_⟩
  refine Call_ (ld_blt I hg hm boot_enumerate (PyProof.Rows.callWith_type1 (Calls.spliced_cons ?_) rfl rfl))
  refine Call_ (ld_blt I hg2 hm2 PyProof.Rows.boot_zip (PyProof.Rows.callWith_type1 (thn (ha.run pos2 pins s σ H _ I h) fun us s1 ⟨vs, H1, I1, r1, q1⟩ => ?_) hs hpl))
  obtain ⟨t1, t2, a, b, xs, ys, rfl, h1, h2, q⟩ := q1
  cases r1 with
  | cons r rr =>
    cases rr with
    | cons r' rr =>
      cases rr
      cases r
      cases r'
      obtain ⟨its, rv1, p1, la⟩ := inv_seqK I1 h1
      obtain ⟨jts, rv2, p2, lb⟩ := inv_seqK I1 h2
      refine zip_begins2 (beginsK t1 a its.toArray) (beginsK t2 b jts.toArray) p1 p2 fun h' hz hTI hTO o1 o2 hsz hk => Calls.spliced_nil ?_
      refine enumZ_begins (s := { s1 with heap := h' }) hz fun h'' hen hsz2 hk2 => wpAny_pyIter_enum hen ?_
      have I2 : Inv X pins σ H1 { s1 with heap := h'' } := I1.kept (t' := s1.toks) fun c o q => hk2 c o (hk c o q)
      have hsz' : (h'.objs.size : Nat) = s1.heap.objs.size + 5 := hsz
      refine ⟨h'.objs.size, [h'.objs.size, s1.heap.objs.size + 4, s1.heap.objs.size + 2, s1.heap.objs.size + 3, s1.heap.objs.size, s1.heap.objs.size + 1], _, _, H1, rfl, I2,
        turn_enzK (t1 := t1) (t2 := t2) (zip_sep2 (fp1 := [a]) (fp2 := [b]) (fun c hc => by rw [List.mem_singleton.mp hc]; exact la) fun c hc => by rw [List.mem_singleton.mp hc]; exact lb) ?_,
        ⟨⟨_, hen⟩, ⟨_, _, hk2 _ _ hz, .inl rfl⟩, hk2 _ _ hTI, ⟨_, _, hk2 _ _ hTO⟩, (ItK.new o1).at fun o q => hk2 _ o q, (ItK.new o2).at fun o q => hk2 _ o q⟩, fresh_fp I1 fun c hc => ?_, q⟩
      · have key : ∀ c : Addr, c < s1.heap.objs.size + 5 → h'.objs.size ≠ c := fun c hc z => by
          rw [← z, hsz'] at hc
          exact Nat.lt_irrefl _ hc
        simp only [List.mem_cons, List.not_mem_nil, or_false, not_or]
        exact ⟨key _ (Nat.add_lt_add_left (by decide) _), key _ (Nat.add_lt_add_left (by decide) _), key _ (Nat.add_lt_add_left (by decide) _), key _ (Nat.lt_add_of_pos_right (by decide)), key _ (Nat.add_lt_add_left (by decide) _), key _ (Nat.lt_of_lt_of_le la (Nat.le_add_right _ _)), key _ (Nat.lt_of_lt_of_le lb (Nat.le_add_right _ _))⟩
      · simp only [List.mem_cons, List.not_mem_nil, or_false] at hc
        rcases hc with rfl | rfl | rfl | rfl | rfl | rfl
        · rw [hsz']; exact Nat.le_add_right s1.heap.objs.size 5
        · exact Nat.le_add_right s1.heap.objs.size 4
        · exact Nat.le_add_right s1.heap.objs.size 2
        · exact Nat.le_add_right s1.heap.objs.size 3
        · exact Nat.le_refl s1.heap.objs.size
        · exact Nat.le_add_right s1.heap.objs.size 1
end
end TL

/-! Dicts walked. -/
namespace TL
open PySem PySem.Spec PyProof.Rows L2

theorem pairGet {α β : Type} {F : α → β → Prop} : ∀ {l1 : List α} {l2 : List β} {i : Nat} {x : α}, Paired F l1 l2 → l1[i]? = some x → ∃ y, l2[i]? = some y ∧ F x y
  | _, _, i, x, .nil, h => by simp at h
  | _, _, 0, x, .cons r t, h => ⟨_, rfl, by simp at h; subst h; exact r⟩
  | _, _, i + 1, x, .cons r t, h => by
    obtain ⟨y, q, f⟩ := pairGet (i := i) t (by simpa using h)
    exact ⟨y, by simpa using q, f⟩
theorem pairLen {α β : Type} {F : α → β → Prop} : ∀ {l1 : List α} {l2 : List β}, Paired F l1 l2 → l1.length = l2.length
  | _, _, .nil => rfl
  | _, _, .cons _ t => congrArg (· + 1) (pairLen t)
theorem pairGetR {α β : Type} {F : α → β → Prop} : ∀ {l1 : List α} {l2 : List β} {i : Nat} {y : β}, Paired F l1 l2 → l2[i]? = some y → ∃ x, l1[i]? = some x ∧ F x y
  | _, _, i, x, .nil, h => by simp at h
  | _, _, 0, x, .cons r t, h => ⟨_, rfl, by simp at h; subst h; exact r⟩
  | _, _, i + 1, x, .cons r t, h => by
    obtain ⟨y, q, f⟩ := pairGetR (i := i) t (by simpa using h)
    exact ⟨y, by simpa using q, f⟩
def entR (r : Int × V × V) (e : DictEntry) : Prop := e.hash = r.1 ∧ RelV r.2.1 e.key ∧ RelV r.2.2 e.val
section
variable {X : Cx} {pins : List (Addr × Obj)} {σ : L2.St} {H : Hp} {s : Shared} {a : Addr} {o : Obj} {raw : List (Int × V × V)}
/-- a dict that stands there -/
theorem inv_dct (I : Inv X pins σ H s) (h : H a = some (dHO a raw)) : (a == sysModules) = false ∧ raw.length ≤ sizeLine ∧ ∃ o es ep, s.heap.get? a = some o ∧ o.ExactDict ∧ o.data = .dict es ep ∧ Paired entR raw es.toList := (I.hok a _ h).1
/-- .. a locked one -/
theorem inv_dlk (I : Inv X pins σ H s) (h : H a = some (.frz o (dHO a raw))) : (a == sysModules) = false ∧ s.heap.get? a = some o ∧ ∃ es ep, o.data = .dict es ep ∧ s.heap.DictRaw a es ep ∧ es.size = raw.length ∧ Paired entR raw es.toList := by
  obtain ⟨ho, x⟩ := I.hok a _ h
  obtain ⟨⟨h1, h2, o', es, ep, g, hx, hd, pr⟩, _⟩ := x
  rw [ho] at g
  cases g
  refine ⟨h1, ho, es, ep, hd, ⟨o, ho, hx, hd⟩, ?_, pr⟩
  have q := pairLen pr
  rw [Array.length_toList] at q
  exact q.symm
theorem dlk_same {raw' : List (Int × V × V)} (I : Inv X pins σ H s) (h : H a = some (.frz o (dHO a raw))) (h' : H a = some (.frz o (dHO a raw'))) {i : Nat} {r r' : Int × V × V} (e : raw[i]? = some r) (e' : raw'[i]? = some r') : r = r' := by
  obtain ⟨_, _, es, ep, hd, _, _, pr⟩ := inv_dlk I h
  obtain ⟨_, _, es', ep', hd', _, _, pr'⟩ := inv_dlk I h'
  obtain ⟨rfl, rfl⟩ := dict_ep hd hd'
  obtain ⟨x, hx, f1, f2, f3⟩ := pairGet pr e
  obtain ⟨y, hy, f4, f5, f6⟩ := pairGet pr' e'
  rw [hx] at hy
  cases hy
  obtain ⟨r1, r2, r3⟩ := r
  obtain ⟨s1, s2, s3⟩ := r'
  have z1 : r1 = s1 := f1.symm.trans f4
  have z2 : r2 = s2 := RelV.inj f2 f5
  have z3 : r3 = s3 := RelV.inj f3 f6
  rw [z1, z2, z3]
theorem dlk_len {raw' : List (Int × V × V)} (I : Inv X pins σ H s) (h : H a = some (.frz o (dHO a raw))) (h' : H a = some (.frz o (dHO a raw'))) : raw.length = raw'.length := by
  obtain ⟨_, _, es, ep, hd, _, z, _⟩ := inv_dlk I h
  obtain ⟨_, _, es', ep', hd', _, z', _⟩ := inv_dlk I h'
  obtain ⟨rfl, rfl⟩ := dict_ep hd hd'
  omega
end
/-! ### for k in d -/
def ItkD (d : Addr) (o : Obj) : It :=
  ⟨fun i H => ∃ raw, H d = some (.frz o (dHO d raw)) ∧ i < raw.length,
    fun i H x H' => H' = H ∧ ∀ raw, H d = some (.frz o (dHO d raw)) → ∃ r, raw[i]? = some r ∧ x = r.2.1,
    fun i H => ∃ raw, H d = some (.frz o (dHO d raw)) ∧ raw.length = i⟩
theorem ne_frz {X : Cx} {pins : List (Addr × Obj)} {H : Hp} {d it : Addr} {u : HO} (h : H d = some u) (f : FpOk X pins H it) : d ≠ it := fun e => by
  have q := f.1
  rw [← e, h] at q
  cases q
theorem turn_keyD {P : Program} {w : World} {K : PySem.W.Frag} {tg : Expr} {d it : Addr} {o : Obj} {es : Array DictEntry} {ep : Nat} (hod : o.data = .dict es ep) : Turn P w K tg (ItkD d o) [it] it (fun i h => h.IsKeyIter it d i es.size ep) where
  mem := List.mem_cons_self
  obj := fun i h st b hb => by
    obtain ⟨oi, e, c, dd⟩ := st
    rw [List.mem_singleton.mp hb]
    exact ⟨oi, e, fun v z => by rw [dd] at z; cases z⟩
  keep := fun i h h' st k => st.at fun oi e => k it (by simp) oi e
  item := by
    intro X hP hw hK hc i pins s σ H E I hf st hg
    subst hP hw hK
    obtain ⟨raw, hd, hi⟩ := hg
    obtain ⟨hs, hgd, es', ep', hdt, hraw, hz, pr⟩ := inv_dlk I hd
    obtain ⟨rfl, rfl⟩ := dict_ep hod hdt
    have f := hf it (by simp)
    obtain ⟨f0, f1, f2, f3, f4, f5⟩ := f
    have hlt : i < es'.size := by omega
    refine (Walks.rawKeys (I.ok.hd hc) it d (ne_frz hd (hf it (by simp))) es' ep').item i s _ _ hlt ⟨st, hraw⟩ fun v h' tk hv st' hk => ?_
    obtain ⟨_, rfl⟩ := hv
    obtain ⟨oi, ei, ci, di⟩ := id st'.1
    have I1 : Inv X pins σ H { s with heap := h', toks := tk } := I.turned (fun b ob hb q => hk b ob (by simpa using hb) q) f0 f1 f3 f4 f5
    have hr : raw[i]? = some raw[i] := List.getElem?_eq_getElem hi
    obtain ⟨y, hy, _, ry, _⟩ := pairGet pr hr
    have hy' : y = es'[i] := by
      rw [Array.getElem?_toList, Array.getElem?_eq_getElem hlt] at hy
      exact (Option.some.inj hy).symm
    subst hy'
    exact ⟨_, rfl, go_of (s := { s with heap := h', toks := tk }) ei ci di (by decide) ⟨raw[i].2.1, H, I1, ry, ⟨rfl, fun raw' h2 => by
      have hi' : i < raw'.length := by rw [dlk_len I h2 hd]; exact hi
      exact ⟨raw'[i], List.getElem?_eq_getElem hi', by rw [dlk_same I h2 hd (List.getElem?_eq_getElem hi') hr]⟩⟩, st'.1, fun b hb => (hf b hb).1⟩⟩
  done := by
    intro X hP hw hK hc i pins s σ H E I hf st hg
    subst hP hw hK
    obtain ⟨raw, hd, hi⟩ := hg
    obtain ⟨hs, hgd, es', ep', hdt, hraw, hz, pr⟩ := inv_dlk I hd
    obtain ⟨rfl, rfl⟩ := dict_ep hod hdt
    obtain ⟨f0, f1, f2, f3, f4, f5⟩ := hf it (by simp)
    have he : i = es'.size := by omega
    subst he
    exact (Walks.rawKeys (I.ok.hd hc) it d (ne_frz hd (hf it (by simp))) es' ep').done s _ _ ⟨st, hraw⟩ fun h' tk hk => ⟨rfl, I.turned (t' := tk) (fun b ob hb q => hk b ob (by simpa using hb) q) f0 f1 f3 f4 f5⟩
  self := fun A i s Q E st h => wpAny_pyIter_keyiter st h
/-! ### for k, v in d.items() -/
def ItiD (d : Addr) (o : Obj) : It :=
  ⟨fun i H => ∃ raw, H d = some (.frz o (dHO d raw)) ∧ i < raw.length,
    fun i H x H' => ∃ T k v, x = .ref T ∧ H T = none ∧ H' = upd H T (.tup [k, v]) ∧ ∀ raw, H d = some (.frz o (dHO d raw)) → ∃ r, raw[i]? = some r ∧ k = r.2.1 ∧ v = r.2.2,
    fun i H => ∃ raw, H d = some (.frz o (dHO d raw)) ∧ raw.length = i⟩
theorem turn_itemD {P : Program} {w : World} {K : PySem.W.Frag} {elts : List Expr} {kk : Nat} {tpos : Pos} {d it : Addr} {o : Obj} {es : Array DictEntry} {ep : Nat} (hod : o.data = .dict es ep) :
    Turn P w K (.Tuple elts kk tpos) (ItiD d o) [it] it (fun i h => ∃ ok ov, IsItemIter h it d i es.size ep ok ov) where
  mem := List.mem_cons_self
  obj := fun i h ⟨ok, ov, e⟩ b hb => by
    rw [List.mem_singleton.mp hb]
    exact ⟨_, e, fun v z => nomatch z⟩
  keep := fun i h h' ⟨ok, ov, e⟩ k => ⟨ok, ov, k it (by simp) _ e⟩
  item := by
    intro X hP hw hK hc i pins s σ H E I hf st hg
    subst hP hw hK
    obtain ⟨raw, hd, hi⟩ := hg
    obtain ⟨hs, hgd, es', ep', hdt, hraw, hz, pr⟩ := inv_dlk I hd
    obtain ⟨rfl, rfl⟩ := dict_ep hod hdt
    obtain ⟨ok, ov, st⟩ := st
    have hlt : i < es'.size := by omega
    have hr : raw[i]? = some raw[i] := List.getElem?_eq_getElem hi
    obtain ⟨y, hy, _, ry, rv⟩ := pairGet pr hr
    have hy' : y = es'[i] := by
      rw [Array.getElem?_toList, Array.getElem?_eq_getElem hlt] at hy
      exact (Option.some.inj hy).symm
    subst hy'
    have hil : it < s.heap.objs.size := Heap.lt_size st
    refine wpAny_pyNext_items_item_raw st hraw hlt fun h' st' hT hsz hk => ?_
    refine ⟨_, rfl, wpAny_letOwnedTupleGo_items (s := { s with heap := h' }) st' fun h'' st2 sb => ?_⟩
    have hT2 : h''.get? s.heap.objs.size = some { cls := .type "tuple", data := .seq #[es'[i].key, es'[i].val] } := (sb.2 _ (Nat.ne_of_gt hil)).trans hT
    have new : ObjOk X.prog X.w (upd H s.heap.objs.size (.tup [raw[i].2.1, raw[i].2.2])) h'' s.heap.objs.size (.tup [raw[i].2.1, raw[i].2.2]) :=
      ⟨by show 2 ≤ sizeLine; decide, [es'[i].key, es'[i].val], .cons ry (.cons rv .nil), ⟨_, hT2, rfl, _, rfl⟩⟩
    have I1 : Inv X pins σ (upd H s.heap.objs.size (.tup [raw[i].2.1, raw[i].2.2])) { s with heap := h'' } := by
      refine I.turnedNew (t' := s.toks) (ch := [it]) (fun c o hb q => ?_) hf (Nat.le_refl _) new
      simp only [List.mem_cons, List.not_mem_nil, or_false] at hb
      exact (sb.2 c hb).trans (hk c o hb q)
    refine ⟨.ref s.heap.objs.size, _, I1, rfl, ⟨_, raw[i].2.1, raw[i].2.2, rfl, I.hok.fresh (Nat.le_refl _), rfl, fun raw' h2 => ?_⟩, ⟨_, _, st2⟩, fun c hcm => ?_⟩
    · have hi' : i < raw'.length := by rw [dlk_len I h2 hd]; exact hi
      have z := dlk_same I h2 hd (List.getElem?_eq_getElem hi') hr
      exact ⟨raw'[i], List.getElem?_eq_getElem hi', by rw [z], by rw [z]⟩
    · rw [List.mem_singleton.mp hcm, upd_ne (Nat.ne_of_lt hil)]
      exact (hf it (by simp)).1
  done := by
    intro X hP hw hK hc i pins s σ H E I hf st hg
    subst hP hw hK
    obtain ⟨raw, hd, hi⟩ := hg
    obtain ⟨hs, hgd, es', ep', hdt, hraw, hz, pr⟩ := inv_dlk I hd
    obtain ⟨rfl, rfl⟩ := dict_ep hod hdt
    obtain ⟨ok, ov, st⟩ := st
    obtain ⟨f0, f1, f2, f3, f4, f5⟩ := hf it (by simp)
    exact wpAny_pyNext_items_end_raw (I.ok.hd hc) st hraw (by omega) fun h' eb => ⟨rfl, I.turned (t' := s.toks) (fun b ob hb q => eb b ob hb q) f0 f1 f3 f4 f5⟩
  self := fun A i s Q E ⟨ok, ov, st⟩ h => wpAny_pyIter_itemiter st h
section
variable {X : Cx} {tg e : Expr} {te : TE} {apos cpos tpos : Pos} {elts : List Expr} {kk : Nat}
/-- what any expression walks: a list, a tuple, a dict (locked from here) -/
def iAny (X : Cx) (te : TE) : TI := fun σ H R => te σ H fun v H1 => ∃ a, v = .ref a ∧ (((∃ xs, SqL X.K H1 a xs) ∧ R (Itl X.K a) H1) ∨ ((∃ xs, SqT X.K H1 a xs) ∧ R (Itt X.K a) H1) ∨ ∃ raw, H1 a = some (dHO a raw) ∧ ∀ o, (∀ o' u', X.H_0 a ≠ some (.frz o' u')) → R (ItkD a o) (upd H1 a (.frz o (dHO a raw))))
theorem pi_any (he : PE X e te) : PI X tg e (iAny X te) := by
  refine ⟨fun pins s σ H R I h => ?_⟩
  refine thn (he.run pins s σ H _ I h) fun v s1 ⟨x, H1, I1, r1, a, ex, q1⟩ => ?_
  subst ex
  cases r1
  rcases q1 with ⟨⟨xs, hq⟩, q⟩ | ⟨⟨xs, hq⟩, q⟩ | ⟨raw, hd, q⟩
  · obtain ⟨its, rv, p, hz⟩ := I1.list hq
    exact wpAny_pyIter_list p.isList (pi_one (tk := s1.toks) I1 _ (turn_list a _) ⟨_, Heap.get?_push_size _ rfl, rfl, rfl⟩ q)
  · obtain ⟨its, rv, p, hz⟩ := I1.tuple hq
    exact wpAny_pyIter_tuple (show s1.heap.IsTuple a its.toArray from p) (pi_one (tk := s1.toks) I1 _ (turn_tuple a _) ⟨_, Heap.get?_push_size _ rfl, rfl, rfl⟩ q)
  · obtain ⟨od, I2⟩ := I1.lock hd trivial
    obtain ⟨hs, hgd, es, ep, hdt, hraw, hz, pr⟩ := inv_dlk I2 upd_same
    exact wpAny_pyIter_dict_raw hs hraw (pi_one (tk := s1.toks) I2 _ (turn_keyD hdt) ⟨_, Heap.get?_push_size _ rfl, rfl, rfl⟩ (q od (I1.nofrz hd trivial)))
def iItD (X : Cx) (te : TE) : TI := fun σ H R => te σ H fun v H1 => ∃ a raw, v = .ref a ∧ H1 a = some (dHO a raw) ∧ ∀ o, (∀ o' u', X.H_0 a ≠ some (.frz o' u')) → R (ItiD a o) (upd H1 a (.frz o (dHO a raw)))
theorem pi_itemsD (he : PE X e te) (hbase : attributeBase e "items" X.env (eval e X.env) = eval e X.env) (hline : (apos.endLine == cpos.line) = true) :
    PI X (.Tuple elts kk tpos) (.Call (.Attribute e "items" apos) [] [] cpos) (iItD X te) := by
  refine ⟨fun pins s σ H R I h => ?_⟩
  refine wpAny_Call_method (T := "dict") (id := "dict.items") hbase rfl hline F.plainAttrs_dict F.slot_dict_items F.type_dict_items (thn (he.run pins s σ H _ I h) fun u s1 ⟨x, H1, I1, rx, a, raw, ex, hd, q⟩ => ?_)
  subst ex
  obtain rfl : u = Value.ref a := rx
  obtain ⟨od, I2⟩ := I1.lock hd trivial
  obtain ⟨hs, hgd, es, ep, hdt, hraw, hz, pr⟩ := inv_dlk I2 upd_same
  obtain ⟨od', ho', hx', hd'⟩ := id hraw
  refine ⟨hraw.typeIs, fun a1 e1 => by cases e1; exact ⟨_, ho', hx'.2.1⟩, ?_⟩
  have I3 : Inv X pins σ (upd H1 a (.frz od (dHO a raw))) { s1 with heap := s1.heap.push { cls := .type "dict_items", data := .fields #[.ref a] } } := I2.kept (t' := s1.toks) fun b ob q => Heap.get?_push_of_some _ q
  have fin : wpAny (model X.prog X.w) X.A (pyIter (.ref s1.heap.objs.size)) (PIE X pins σ (.Tuple elts kk tpos) R) X.xe { s1 with heap := s1.heap.push { cls := .type "dict_items", data := .fields #[.ref a] } } := by
    refine wpAny_pyIter_items_raw (d := a) ⟨_, Heap.get?_push_size _ rfl, rfl, rfl⟩ (hraw.at fun o e => Heap.get?_push_of_some _ e) ?_
    exact pi_one (tk := s1.toks) I3 _ (turn_itemD hdt) ⟨.none, .none, Heap.get?_push_size _ rfl⟩ (q od (I1.nofrz hd trivial))
  show wpAny _ _ (callWith cpos (.builtin "dict.items") [.ref a] [] []) _ X.xe s1
  exact method_meetsIn F.slot_dict_items F.entry_dict_items rfl (PySem.evalArgs_none ⟨rfl, hraw.typeIs, F.args_dict_items_1 _, _, meets_dict_items_raw a hs, ⟨es, ep, hraw⟩, fin⟩)
end
end TL

/-! What the evaluator walks, as readings. -/
namespace TL
open PySem PySem.Spec PyProof.Rows L2
section
variable {X : Cx} {fa : Nat → Option Addr} {hs : D → Int} {e e2 tg : Expr} {es : List Expr} {pos p tpos apos cpos : Pos} {elts : List Expr} {kk : Nat} {m ma mb : Env → M D} {ms : Env → M (List D)}
variable {ρ : List Addr} {H : Hp} {st : Sto}

theorem bindE {α β : Type} {m : M α} {f : α → M β} {st st1 : Sto} {a : α} {r : Option (β × Sto)} (h : m st = some (a, st1)) (q : f a st1 = r) : M.bind m f st = r := by
  unfold M.bind
  rw [h]
  exact q
theorem len2 {α : Type} {l : List α} (h : l.length = 2) : ∃ x y, l = [x, y] := match l, h with
  | [x, y], _ => ⟨x, y, rfl⟩
theorem len3 {α : Type} {l : List α} (h : l.length = 3) : ∃ x y z, l = [x, y, z] := match l, h with
  | [x, y, z], _ => ⟨x, y, z, rfl⟩
/-- a sequence's own walk -/
def IsSeq (J : DIt) : Prop := (∃ ds, J = .tup ds) ∨ ∃ n, J = .lst n
/-- the sequence J stands at a -/
def SeqHere (c : LC) (ρ : List Addr) (H : Hp) (J : DIt) (t : Bool) (a : Addr) : Prop := match J with
  | .tup ds => t = true ∧ ∃ vs, SqT c.K H a vs ∧ c.ds ρ H ds vs
  | .lst n => t = false ∧ ρ[n]? = some a
  | _ => False
theorem SeqHere.mono {c : LC} {ρ ρ' : List Addr} {H H' : Hp} {J : DIt} {t : Bool} {a : Addr} (h : SeqHere c ρ H J t a) (g : Gr c.K ρ H ρ' H') : SeqHere c ρ' H' J t a := by
  cases J with
  | tup ds => obtain ⟨rfl, vs, q, r⟩ := h; exact ⟨rfl, vs, g.tup _ _ q, RDs.mono g r⟩
  | lst n => obtain ⟨rfl, q⟩ := h; exact ⟨rfl, g.pre _ _ q⟩
  | _ => exact h
/-- what stands there, at any later time, by the evaluator's own turn -/
theorem seqAtS {xs : List D} {i : Nat} {r : Option D} (e : seqAt xs i = some r) : r = xs[i]? ∧ i ≤ xs.length := by
  unfold seqAt at e
  split at e
  · rename_i h; cases e; exact ⟨rfl, h⟩
  · cases e
theorem SeqHere.at {c : LC} {ρ : List Addr} {H : Hp} {st : Sto} {J : DIt} {t : Bool} {a : Addr} {i : Nat} {r : Option D} (h : SeqHere c ρ H J t a) (k : c.h ρ H st) (e : J.get i st = some r) :
    ∃ xs vs, SqK c.K t H a vs ∧ c.ds ρ H xs vs ∧ r = xs[i]? ∧ i ≤ xs.length := by
  cases J with
  | tup ds =>
    obtain ⟨rfl, vs, q, rr⟩ := h
    obtain ⟨z1, z2⟩ := seqAtS (show seqAt ds i = some r from e)
    exact ⟨ds, vs, q, rr, z1, z2⟩
  | lst n =>
    obtain ⟨rfl, q⟩ := h
    have e' : (getL st n).bind (fun xs => seqAt xs i) = some r := e
    cases hg : getL st n with
    | none => rw [hg] at e'; cases e'
    | some xs =>
      rw [hg] at e'
      obtain ⟨z1, z2⟩ := seqAtS (show seqAt xs i = some r from e')
      obtain ⟨vs, hv, rr⟩ := RH.list k hg q
      exact ⟨xs, vs, hv, rr, z1, z2⟩
  | _ => exact h.elim
theorem seqItS {x : D} {J : DIt} {st st' : Sto} (e : seqIt x st = some (J, st')) : st = st' ∧ ((∃ ds, x = .tup ds ∧ J = .tup ds) ∨ ∃ n xs, x = .ref n ∧ J = .lst n ∧ getL st n = some xs) := by
  cases x with
  | tup ds => obtain ⟨rfl, rfl⟩ := pureS (show (pure (DIt.tup ds) : M DIt) st = some (J, st') from e); exact ⟨rfl, .inl ⟨ds, rfl, rfl⟩⟩
  | ref n =>
    obtain ⟨f, rfl⟩ := rdS (show M.rd (fun st => (getL st n).map fun _ => DIt.lst n) st = some (J, st') from e)
    cases hg : getL st n with
    | none => rw [hg] at f; cases f
    | some xs => rw [hg] at f; cases f; exact ⟨rfl, .inr ⟨n, xs, rfl, rfl, hg⟩⟩
  | _ => cases e
theorem seqHere_of {c : LC} {ρ : List Addr} {H : Hp} {st st' : Sto} {x : D} {J : DIt} {v : V} (k : c.h ρ H st) (r : c.d ρ H x v) (e : seqIt x st = some (J, st')) : st = st' ∧ ∃ t a xs, v = .ref a ∧ SqK c.K t H a xs ∧ SeqHere c ρ H J t a := by
  obtain ⟨rfl, h⟩ := seqItS e
  refine ⟨rfl, ?_⟩
  rcases h with ⟨ds, rfl, rfl⟩ | ⟨n, xs, rfl, rfl, hg⟩
  · obtain ⟨a, vs, rfl, q, rr⟩ := r
    exact ⟨true, a, vs, rfl, q, rfl, vs, q, rr⟩
  · obtain ⟨a, ea, rfl⟩ := r
    obtain ⟨vs, hv, rr⟩ := RH.list k hg ea
    exact ⟨false, a, vs, rfl, hv, rfl, ea⟩
theorem SqK.toL {K : PySem.W.Frag} {H : Hp} {a : Addr} {xs : List V} (h : SqK K false H a xs) : SqL K H a xs := h
theorem SqK.toT {K : PySem.W.Frag} {H : Hp} {a : Addr} {xs : List V} (h : SqK K true H a xs) : SqT K H a xs := h
/-- the end -/
theorem stopLen {c : LC} {ρ : List Addr} {H : Hp} {xs : List D} {vs : List V} {i : Nat} (r : c.ds ρ H xs vs) (e : none = xs[i]?) (hi : i ≤ xs.length) : i = vs.length := by
  have z := List.getElem?_eq_none_iff.mp e.symm
  have l := RDs.length r
  omega
/-- a list or a tuple, walked alone -/
theorem seq_itok {ρ1 : List Addr} {H1 : Hp} {J : DIt} {t : Bool} {a : Addr} (h : SeqHere (cx X fa hs) ρ1 H1 J t a) : ItOk (cx X fa hs) ρ1 H1 J (if t = true then Itt X.K a else Itl X.K a) := by
  intro ρ2 H2 st2 i g2 k2
  refine ⟨fun hg => ?_, fun d hg => ?_⟩
  · obtain ⟨xs, us, hu, ru, z, hi⟩ := SeqHere.at (h.mono g2) k2 hg
    have z' := stopLen ru z hi
    cases t with
    | true => exact ⟨us, hu, by omega⟩
    | false => exact ⟨us, hu, by omega⟩
  · obtain ⟨xs, us, hu, ru, z, hi⟩ := SeqHere.at (h.mono g2) k2 hg
    obtain ⟨w, hw, rw'⟩ := ru.get z.symm
    cases t with
    | true =>
      refine ⟨⟨us, w, hu, hw⟩, fun y H' ⟨z1, z2⟩ => ?_⟩
      subst z1
      have z3 := z2 us hu
      rw [hw] at z3
      cases z3
      exact ⟨Gr.refl, k2, rw'⟩
    | false =>
      refine ⟨⟨us, w, hu, hw⟩, fun y H' ⟨z1, z2⟩ => ?_⟩
      subst z1
      have z3 := z2 us hu
      rw [hw] at z3
      cases z3
      exact ⟨Gr.refl, k2, rw'⟩
/-- the locked dict at a, as the store has it -/
theorem dlk_at {ρ2 : List Addr} {H2 : Hp} {st2 : Sto} {n : Nat} {a : Addr} {o : Obj} {raw : List (Int × V × V)} {kvs : List (D × D)} (k2 : CH X fa hs ρ2 H2 st2) (ea : ρ2[n]? = some a) (ha : H2 a = some (.frz o (dHO a raw))) (hn : st2[n]? = some (.dlk kvs)) :
    ∃ raw2, H2 a = some (.frz o (dHO a raw2)) ∧ RKs X.K fa hs ρ2 H2 kvs raw2 := by
  obtain ⟨raw2, o2, ho2, rk2, _⟩ := k2.obj n _ a hn ea
  have z := ho2
  rw [ha] at z
  injection z with z
  injection z with z1 z2
  subst z1
  exact ⟨raw2, ho2, rk2⟩
theorem lockS {n : Nat} {st st' : Sto} {u : Unit} (e : lock n st = some (u, st')) : ∃ kvs, st[n]? = some (.dct kvs) ∧ st' = st.set n (.dlk kvs) ∧ ∀ p ∈ kvs, isKeyT p.1 = true := by
  have e' : (match st[n]? with
    | some (.dct kvs) => if (kvs.all fun p => isKeyT p.1) = true then some ((), st.set n (.dlk kvs)) else none
    | _ => none) = some (u, st') := e
  split at e'
  · rename_i kvs hn
    split at e'
    · rename_i hk
      cases e'
      exact ⟨kvs, hn, rfl, List.all_eq_true.mp hk⟩
    · cases e'
  · cases e'
/-- the lock taken -/
theorem lock_ok {ρ1 : List Addr} {H1 : Hp} {st1 st2 : Sto} {n : Nat} {a : Addr} {u : Unit} (k1 : CH X fa hs ρ1 H1 st1) (ea : ρ1[n]? = some a) (e : lock n st1 = some (u, st2)) :
    ∃ raw, H1 a = some (dHO a raw) ∧ ∀ o, Gr X.K ρ1 H1 ρ1 (upd H1 a (.frz o (dHO a raw))) ∧ CH X fa hs ρ1 (upd H1 a (.frz o (dHO a raw))) st2 := by
  obtain ⟨kvs, hn, rfl, hk⟩ := lockS e
  rcases k1.obj n _ a hn ea with ⟨kk, hd, pk, ne⟩ | ⟨raw, hd, rk, ok⟩
  · cases pk with
    | nil => exact absurd rfl ne
    | @cons p q l1 l2 h t =>
      have z := hk p List.mem_cons_self
      have z2 : keyOf p.1 = some q.1 := h.1
      cases hp1 : p.1 with
      | int i => rw [hp1] at z; cases z
      | _ => rw [hp1] at z2; cases z2
  · refine ⟨raw, hd, fun o => ?_⟩
    have gw : Gr X.K ρ1 H1 ρ1 (upd H1 a (.frz o (dHO a raw))) := Gr.write hd (fun _ z => nomatch z) fun _ _ z => nomatch z
    exact ⟨gw, RH.write k1 hn ea rfl rfl hd (fun _ z => nomatch z) (fun _ _ z => nomatch z) (fun _ _ z => nomatch z) ⟨raw, o, upd_same, rk.mono gw, ok⟩⟩
theorem keys_itok {ρ1 : List Addr} {H1 : Hp} {n : Nat} {a : Addr} {o : Obj} {raw : List (Int × V × V)} (ea : ρ1[n]? = some a) (ha : H1 a = some (.frz o (dHO a raw))) : ItOk (cx X fa hs) ρ1 H1 (.keys n) (ItkD a o) := by
  intro ρ2 H2 st2 i g2 k2
  have dict : ∀ r, (DIt.keys n).get i st2 = some r → ∃ kvs2 raw2, H2 a = some (.frz o (dHO a raw2)) ∧ RKs X.K fa hs ρ2 H2 kvs2 raw2 ∧ r = (kvs2.map (·.1))[i]? ∧ i ≤ kvs2.length := fun r hr => by
    have hr' : (match st2[n]? with
      | some (.dlk kvs) => seqAt (kvs.map (·.1)) i
      | _ => none) = some r := hr
    split at hr'
    · rename_i kvs2 hn2
      obtain ⟨z1, z2⟩ := seqAtS hr'
      obtain ⟨raw2, h1, h2⟩ := dlk_at k2 (g2.pre _ _ ea) (g2.frz a o _ ha) hn2
      exact ⟨kvs2, raw2, h1, h2, z1, by simpa using z2⟩
    · cases hr'
  refine ⟨fun hg => ?_, fun d hg => ?_⟩
  · obtain ⟨kvs2, raw2, h1, h2, z, hi⟩ := dict _ hg
    have l := pairLen h2
    rw [List.getElem?_map, eq_comm, Option.map_eq_none_iff, List.getElem?_eq_none_iff] at z
    exact ⟨raw2, h1, by omega⟩
  · obtain ⟨kvs2, raw2, h1, h2, z, hi⟩ := dict _ hg
    rw [List.getElem?_map, eq_comm, Option.map_eq_some_iff] at z
    obtain ⟨p, hp, rfl⟩ := z
    obtain ⟨r, hr, _, rk, _⟩ := pairGet h2 hp
    refine ⟨⟨raw2, h1, (List.getElem?_eq_some_iff.mp hr).1⟩, fun y H' ⟨y1, y2⟩ => ?_⟩
    subst y1
    obtain ⟨r', hr', rfl⟩ := y2 raw2 h1
    rw [hr] at hr'
    cases hr'
    exact ⟨Gr.refl, k2, rk⟩
theorem items_itok {ρ1 : List Addr} {H1 : Hp} {n : Nat} {a : Addr} {o : Obj} {raw : List (Int × V × V)} (ea : ρ1[n]? = some a) (ha : H1 a = some (.frz o (dHO a raw))) : ItOk (cx X fa hs) ρ1 H1 (.items n) (ItiD a o) := by
  intro ρ2 H2 st2 i g2 k2
  have dict : ∀ r, (DIt.items n).get i st2 = some r → ∃ kvs2 raw2, H2 a = some (.frz o (dHO a raw2)) ∧ RKs X.K fa hs ρ2 H2 kvs2 raw2 ∧ r = (kvs2.map fun p => D.tup [p.1, p.2])[i]? ∧ i ≤ kvs2.length := fun r hr => by
    have hr' : (match st2[n]? with
      | some (.dlk kvs) => seqAt (kvs.map fun p => D.tup [p.1, p.2]) i
      | _ => none) = some r := hr
    split at hr'
    · rename_i kvs2 hn2
      obtain ⟨z1, z2⟩ := seqAtS hr'
      obtain ⟨raw2, h1, h2⟩ := dlk_at k2 (g2.pre _ _ ea) (g2.frz a o _ ha) hn2
      exact ⟨kvs2, raw2, h1, h2, z1, by simpa using z2⟩
    · cases hr'
  refine ⟨fun hg => ?_, fun d hg => ?_⟩
  · obtain ⟨kvs2, raw2, h1, h2, z, hi⟩ := dict _ hg
    have l := pairLen h2
    rw [List.getElem?_map, eq_comm, Option.map_eq_none_iff, List.getElem?_eq_none_iff] at z
    exact ⟨raw2, h1, by omega⟩
  · obtain ⟨kvs2, raw2, h1, h2, z, hi⟩ := dict _ hg
    rw [List.getElem?_map, eq_comm, Option.map_eq_some_iff] at z
    obtain ⟨p, hp, rfl⟩ := z
    obtain ⟨r, hr, _, rk, rv⟩ := pairGet h2 hp
    refine ⟨⟨raw2, h1, (List.getElem?_eq_some_iff.mp hr).1⟩, fun y H' ⟨T, k, v, y1, y2, y3, y4⟩ => ?_⟩
    subst y1 y3
    obtain ⟨r', hr', rfl, rfl⟩ := y4 raw2 h1
    rw [hr] at hr'
    cases hr'
    have g : Gr X.K ρ2 H2 ρ2 (upd H2 T (.tup [r.2.1, r.2.2])) := Gr.laid y2
    exact ⟨g, k2.laid y2, T, _, rfl, .inl (.inl upd_same), RDs.cons (rk.mono g) (RDs.cons (rv.mono g) rfl)⟩

/-! ### an expression's value walked -/
theorem di_ex (he : DE X fa hs e m) : DI X fa hs tg e (fun σ => M.bind (m σ) fun x => iterOf x) := (pi_any he).imp fun σ H R ⟨σd, ρ, st, J, st', h1, h2, h3, q⟩ => by
  obtain ⟨x, st1, e1, h3⟩ := bindS h3
  refine .mk h1 h2 e1 fun v H1 ρ1 g1 k1 r1 => ?_
  have seq : ∀ {st2 : Sto} {J' : DIt}, seqIt x st1 = some (J', st2) → J = J' → st2 = st' → ∃ a, v = .ref a ∧ (((∃ xs, SqL X.K H1 a xs) ∧ R (Itl X.K a) H1) ∨ ((∃ xs, SqT X.K H1 a xs) ∧ R (Itt X.K a) H1) ∨ ∃ raw, H1 a = some (dHO a raw) ∧ ∀ o, (∀ o' u', X.H_0 a ≠ some (.frz o' u')) → R (ItkD a o) (upd H1 a (.frz o (dHO a raw)))) := fun {st2 J'} e2 e3 e4 => by
    subst e3 e4
    obtain ⟨rfl, t, a, xs, rfl, hv, sh⟩ := seqHere_of k1 r1 e2
    refine ⟨a, rfl, ?_⟩
    have it := q _ H1 ρ1 g1 k1 (seq_itok sh) fun n hn => by
      cases J with
      | tup _ => cases hn
      | lst _ => cases hn
      | _ => exact sh.elim
    cases t with
    | true => exact .inr (.inl ⟨⟨xs, hv⟩, it⟩)
    | false => exact .inl ⟨⟨xs, hv⟩, it⟩
  cases x with
  | tup ds =>
    obtain ⟨z1, z2⟩ := pureS (show (pure (DIt.tup ds) : M DIt) st1 = some (J, st') from h3)
    exact seq (st2 := st1) (J' := .tup ds) rfl z1.symm z2
  | ref n =>
    have h3' : (match getL st1 n with
      | some _ => some (DIt.lst n, st1)
      | none => M.bind (lock n) (fun _ => pure (DIt.keys n)) st1) = some (J, st') := h3
    split at h3'
    · rename_i xs hg0
      cases h3'
      refine seq (J' := .lst n) ?_ rfl rfl
      show M.rd (fun st => (getL st n).map fun _ => DIt.lst n) _ = _
      unfold M.rd
      dsimp only
      rw [hg0]
      rfl
    · obtain ⟨a, ea, rfl⟩ := r1
      obtain ⟨u, st2, e2, h4⟩ := bindS h3'
      obtain ⟨rfl, rfl⟩ := pureS h4
      obtain ⟨raw, hd, lk⟩ := lock_ok k1 ea e2
      refine ⟨a, rfl, .inr (.inr ⟨raw, hd, fun o nf => ?_⟩)⟩
      obtain ⟨gw, kw⟩ := lk o
      refine q _ _ ρ1 (g1.trans gw) kw (keys_itok ea upd_same) fun n' hn' => ?_
      cases hn'
      refine ⟨a, ea, nf, fun o' u' z => ?_⟩
      have z' := g1.frz a o' u' z
      rw [hd] at z'
      cases z'
  | _ => cases h3
theorem di_items (he : DE X fa hs e m) (hbase : attributeBase e "items" X.env (eval e X.env) = eval e X.env) (hline : (apos.endLine == cpos.line) = true) :
    DI X fa hs (.Tuple elts kk tpos) (.Call (.Attribute e "items" apos) [] [] cpos) (fun σ => M.bind (m σ) fun x => itemsOf x) := (pi_itemsD he hbase hline).imp fun σ H R ⟨σd, ρ, st, J, st', h1, h2, h3, q⟩ => by
  obtain ⟨x, st1, e1, h3⟩ := bindS h3
  refine .mk h1 h2 e1 fun v H1 ρ1 g1 k1 r1 => ?_
  cases x with
  | ref n =>
    obtain ⟨a, ea, rfl⟩ := r1
    obtain ⟨u, st2, e2, h4⟩ := bindS (show M.bind (lock n) (fun _ => pure (DIt.items n)) st1 = some (J, st') from h3)
    obtain ⟨rfl, rfl⟩ := pureS h4
    obtain ⟨raw, hd, lk⟩ := lock_ok k1 ea e2
    refine ⟨a, raw, rfl, hd, fun o nf => ?_⟩
    obtain ⟨gw, kw⟩ := lk o
    refine q _ _ ρ1 (g1.trans gw) kw (items_itok ea upd_same) fun n' hn' => ?_
    cases hn'
    refine ⟨a, ea, nf, fun o' u' z => ?_⟩
    have z' := g1.frz a o' u' z
    rw [hd] at z'
    cases z'
  | _ => cases h3
/-! ### zip, enumerate -/
theorem zip_itok {ρ1 : List Addr} {H1 : Hp} {J1 J2 : DIt} {t1 t2 : Bool} {a b : Addr} (h1 : SeqHere (cx X fa hs) ρ1 H1 J1 t1 a) (h2 : SeqHere (cx X fa hs) ρ1 H1 J2 t2 b) : ItOk (cx X fa hs) ρ1 H1 (.zip J1 J2) (ItzK X.K t1 t2 a b) := by
  intro ρ2 H2 st2 i g2 k2
  have both : ∀ r, (DIt.zip J1 J2).get i st2 = some r → ∃ xs ys us ws, SqK X.K t1 H2 a us ∧ SqK X.K t2 H2 b ws ∧ (cx X fa hs).ds ρ2 H2 xs us ∧ (cx X fa hs).ds ρ2 H2 ys ws ∧ i ≤ xs.length ∧ i ≤ ys.length ∧
      ((r = none ∧ (xs.length = i ∨ ys.length = i)) ∨ ∃ x y, xs[i]? = some x ∧ ys[i]? = some y ∧ r = some (.tup [x, y])) := fun r hr => by
    have hr' : (match J1.get i st2, J2.get i st2 with
      | some (some x), some (some y) => some (some (D.tup [x, y]))
      | some none, some _ => some none
      | some (some _), some none => some none
      | _, _ => none) = some r := hr
    cases e1 : J1.get i st2 with
    | none => rw [e1] at hr'; cases hr'
    | some r1 =>
      cases e2 : J2.get i st2 with
      | none => rw [e1, e2] at hr'; cases r1 <;> cases hr'
      | some r2 =>
        rw [e1, e2] at hr'
        obtain ⟨xs, us, hu, ru, zu, hi⟩ := SeqHere.at (h1.mono g2) k2 e1
        obtain ⟨ys, ws, hw, rw', zw, hj⟩ := SeqHere.at (h2.mono g2) k2 e2
        refine ⟨xs, ys, us, ws, hu, hw, ru, rw', hi, hj, ?_⟩
        cases r1 with
        | none =>
          have z := List.getElem?_eq_none_iff.mp zu.symm
          cases hr'
          exact .inl ⟨rfl, .inl (by omega)⟩
        | some x =>
          cases r2 with
          | none =>
            have z := List.getElem?_eq_none_iff.mp zw.symm
            cases hr'
            exact .inl ⟨rfl, .inr (by omega)⟩
          | some y =>
            cases hr'
            exact .inr ⟨x, y, zu.symm, zw.symm, rfl⟩
  refine ⟨fun hg => ?_, fun d hg => ?_⟩
  · obtain ⟨xs, ys, us, ws, hu, hw, ru, rw', hi, hj, h⟩ := both _ hg
    have l1 := RDs.length ru
    have l2 := RDs.length rw'
    rcases h with ⟨_, h⟩ | ⟨_, _, _, _, z⟩
    · exact ⟨us, ws, hu, hw, by omega, by omega, by omega⟩
    · cases z
  · obtain ⟨xs, ys, us, ws, hu, hw, ru, rw', hi, hj, h⟩ := both _ hg
    rcases h with ⟨z, _⟩ | ⟨x, y, hx, hy, z⟩
    · cases z
    · cases z
      obtain ⟨v1, hv1, r1⟩ := RDs.get ru hx
      obtain ⟨v2, hv2, r2⟩ := RDs.get rw' hy
      refine ⟨⟨us, ws, v1, v2, hu, hw, hv1, hv2⟩, fun v H' ⟨T, x', y', y1, y2, y3, y4, y5⟩ => ?_⟩
      subst y1 y3
      have z1 := y4 us hu
      have z2 := y5 ws hw
      rw [hv1] at z1
      rw [hv2] at z2
      cases z1
      cases z2
      have g : Gr X.K ρ2 H2 ρ2 (upd H2 T (.tup [v1, v2])) := Gr.laid y2
      exact ⟨g, k2.laid y2, T, _, rfl, .inl (.inl upd_same), RDs.cons (r1.mono g) (RDs.cons (r2.mono g) rfl)⟩
theorem enum_itok {ρ1 : List Addr} {H1 : Hp} {J1 : DIt} {t : Bool} {a : Addr} (h1 : SeqHere (cx X fa hs) ρ1 H1 J1 t a) : ItOk (cx X fa hs) ρ1 H1 (.enum J1) (IteK X.K t a) := by
  intro ρ2 H2 st2 i g2 k2
  have one : ∀ r, (DIt.enum J1).get i st2 = some r → ∃ xs us, SqK X.K t H2 a us ∧ (cx X fa hs).ds ρ2 H2 xs us ∧ i ≤ xs.length ∧ r = (xs[i]?).map fun x => D.tup [.int (i : Nat), x] := fun r hr => by
    have hr' : (J1.get i st2).map (fun o => o.map fun x => D.tup [.int (i : Nat), x]) = some r := hr
    cases e1 : J1.get i st2 with
    | none => rw [e1] at hr'; cases hr'
    | some r1 =>
      rw [e1] at hr'
      cases hr'
      obtain ⟨xs, us, hu, ru, zu, hi⟩ := SeqHere.at (h1.mono g2) k2 e1
      exact ⟨xs, us, hu, ru, hi, by rw [zu]⟩
  refine ⟨fun hg => ?_, fun d hg => ?_⟩
  · obtain ⟨xs, us, hu, ru, hi, z⟩ := one _ hg
    rw [eq_comm, Option.map_eq_none_iff, List.getElem?_eq_none_iff] at z
    have l1 := RDs.length ru
    exact ⟨us, hu, by omega⟩
  · obtain ⟨xs, us, hu, ru, hi, z⟩ := one _ hg
    rw [eq_comm, Option.map_eq_some_iff] at z
    obtain ⟨x, hx, rfl⟩ := z
    obtain ⟨v1, hv1, r1⟩ := RDs.get ru hx
    refine ⟨⟨us, v1, hu, hv1⟩, fun v H' ⟨T, x', y1, y2, y3, y4⟩ => ?_⟩
    subst y1 y3
    have z1 := y4 us hu
    rw [hv1] at z1
    cases z1
    have g : Gr X.K ρ2 H2 ρ2 (upd H2 T (.tup [.int (i : Nat), v1])) := Gr.laid y2
    exact ⟨g, k2.laid y2, T, _, rfl, .inl (.inl upd_same), RDs.cons rfl (RDs.cons (r1.mono g) rfl)⟩
def zipM (ma mb : Env → M D) : Env → M DIt := fun σ => M.bind (ma σ) fun x => M.bind (mb σ) fun y => M.bind (seqIt x) fun i => M.bind (seqIt y) fun j => pure (.zip i j)
theorem di_zip (hg : Gl X "zip") (hm : X.mg "zip" = none) (ha : DE X fa hs e ma) (hb : DE X fa hs e2 mb) (hst : starEach [e, e2] X.env = (false, eval e X.env) :: starEach [e2] X.env) (hst2 : starEach [e2] X.env = (false, eval e2 X.env) :: starEach [] X.env) (hpl : (backTo pos (starEach [e2] X.env)).any (·.1) = false) :
    DI X fa hs (.Tuple elts kk tpos) (.Call (.Name "zip" p) [e, e2] [] pos) (zipM ma mb) := (pi_zipK hg hm (da_cons ha (da_cons hb da_nil hst2) hst) hst hpl).imp fun σ H R ⟨σd, ρ, st, J, st', h1, h2, h3, q⟩ => by
  obtain ⟨x, st1, e1, h3⟩ := bindS h3
  obtain ⟨y, st2, e2', h3⟩ := bindS h3
  obtain ⟨J1, st3, e3, h3⟩ := bindS h3
  obtain ⟨J2, st4, e4, h3⟩ := bindS h3
  obtain ⟨rfl, rfl⟩ := pureS h3
  refine ⟨σd, ρ, st, [x, y], st2, h1, h2, ?_, fun vs H1 ρ1 g1 k1 r1 => ?_⟩
  · exact bindE e1 (bindE (bindE e2' (bindE rfl rfl)) rfl)
  · obtain ⟨v1, v2, rfl, rx, ry⟩ := RDs.two r1
    obtain ⟨rfl, t1, a, xs, rfl, hv, sh⟩ := seqHere_of k1 rx e3
    obtain ⟨rfl, t2, b, ys, rfl, hw, sh2⟩ := seqHere_of k1 ry e4
    exact ⟨t1, t2, a, b, xs, ys, rfl, hv, hw, q _ H1 ρ1 g1 k1 (zip_itok sh sh2) fun n hn => by cases hn⟩
def enumM (ma : Env → M D) : Env → M DIt := fun σ => M.bind (ma σ) fun x => M.bind (seqIt x) fun i => pure (.enum i)
theorem di_enum (hg : Gl X "enumerate") (hm : X.mg "enumerate" = none) (ha : DE X fa hs e ma) (hst : starEach [e] X.env = [(false, eval e X.env)]) (hst2 : starEach [e] X.env = (false, eval e X.env) :: starEach [] X.env) :
    DI X fa hs (.Tuple elts kk tpos) (.Call (.Name "enumerate" p) [e] [] pos) (enumM ma) := (pi_enumK hg hm (da_cons ha da_nil hst2) hst).imp fun σ H R ⟨σd, ρ, st, J, st', h1, h2, h3, q⟩ => by
  obtain ⟨x, st1, e1, h3⟩ := bindS h3
  obtain ⟨J1, st3, e3, h3⟩ := bindS h3
  obtain ⟨rfl, rfl⟩ := pureS h3
  refine ⟨σd, ρ, st, [x], st1, h1, h2, ?_, fun vs H1 ρ1 g1 k1 r1 => ?_⟩
  · exact bindE e1 (bindE rfl rfl)
  · obtain ⟨v1, rfl, rx⟩ := RDs.one r1
    obtain ⟨rfl, t1, a, xs, rfl, hv, sh⟩ := seqHere_of k1 rx e3
    exact ⟨t1, a, xs, rfl, hv, q _ H1 ρ1 g1 k1 (enum_itok sh) fun n hn => by cases hn⟩
/-! ### range -/
theorem rng_itok {ρ1 : List Addr} {H1 : Hp} {lo : Int} {n : Nat} : ItOk (cx X fa hs) ρ1 H1 (.rng lo 1 n) (Itr lo n) := by
  intro ρ2 H2 st2 i g2 k2
  refine ⟨fun hg => ?_, fun d hg => ?_⟩
  · have e : some (if i < n then some (D.int (lo + 1 * (i : Nat))) else none) = some none := hg
    by_cases hi : i < n
    · rw [if_pos hi] at e; cases e
    · exact Nat.le_of_not_lt hi
  · have e : some (if i < n then some (D.int (lo + 1 * (i : Nat))) else none) = some (some d) := hg
    by_cases hi : i < n
    · rw [if_pos hi] at e
      cases e
      refine ⟨hi, fun y H' ⟨y1, y2⟩ => ?_⟩
      subst y1 y2
      exact ⟨Gr.refl, k2, by show V.int _ = _; rw [Int.one_mul]⟩
    · rw [if_neg hi] at e; cases e
theorem rngc_itok {ρ1 : List Addr} {H1 : Hp} {lo c : Int} {n : Nat} : ItOk (cx X fa hs) ρ1 H1 (.rng lo c n) (Itc lo c n) := by
  intro ρ2 H2 st2 i g2 k2
  refine ⟨fun hg => ?_, fun d hg => ?_⟩
  · have e : some (if i < n then some (D.int (lo + c * (i : Nat))) else none) = some none := hg
    by_cases hi : i < n
    · rw [if_pos hi] at e; cases e
    · exact Nat.le_of_not_lt hi
  · have e : some (if i < n then some (D.int (lo + c * (i : Nat))) else none) = some (some d) := hg
    by_cases hi : i < n
    · rw [if_pos hi] at e
      cases e
      refine ⟨hi, fun y H' ⟨y1, y2⟩ => ?_⟩
      subst y1 y2
      exact ⟨Gr.refl, k2, by show V.int _ = _; rw [Int.mul_comm]⟩
    · rw [if_neg hi] at e; cases e
theorem rngOk_b {i : Int} (h : rngOk i = true) : -(2 ^ 62) ≤ i ∧ i < 2 ^ 62 := by
  unfold rngOk at h
  rw [Bool.and_eq_true, decide_eq_true_eq, decide_eq_true_eq] at h
  omega
def rngM (ms : Env → M (List D)) : Env → M DIt := fun σ => M.bind (ms σ) fun xs => rangeOf xs
theorem di_rng1 (hg : Gl X "range") (hm : X.mg "range" = none) (ha : DA X fa hs [e] ms) (hl : ∀ σ st ds st', ms σ st = some (ds, st') → ds.length = 1) (hst : starEach [e] X.env = [(false, eval e X.env)]) :
    DI X fa hs tg (.Call (.Name "range" p) [e] [] pos) (rngM ms) := (pi_range1 hg hm ha hst).imp fun σ H R ⟨σd, ρ, st, J, st', h1, h2, h3, q⟩ => by
  obtain ⟨xs, st1, e1, h3⟩ := bindS h3
  refine ⟨σd, ρ, st, xs, st1, h1, h2, e1, fun vs H1 ρ1 g1 k1 r1 => ?_⟩
  have hl := hl _ _ _ _ e1
  obtain ⟨x, rfl⟩ := List.length_eq_one_iff.mp hl
  obtain ⟨v, rfl, rx⟩ := RDs.one r1
  cases x with
  | int j =>
    obtain ⟨hr, h3⟩ := iteS (show (if rngOk j then pure (DIt.rng 0 1 j.toNat) else M.fail : M DIt) st1 = some (J, st') from h3)
    obtain ⟨rfl, rfl⟩ := pureS h3
    cases rx
    exact ⟨j, rfl, (rngOk_b hr).1, (rngOk_b hr).2, q _ H1 ρ1 g1 k1 rng_itok fun n hn => by cases hn⟩
  | _ => cases h3
theorem di_rng2 (hg : Gl X "range") (hm : X.mg "range" = none) (ha : DA X fa hs [e, e2] ms) (hl : ∀ σ st ds st', ms σ st = some (ds, st') → ds.length = 2) (hst : starEach [e, e2] X.env = [(false, eval e X.env), (false, eval e2 X.env)]) (hst2 : starEach [e2] X.env = [(false, eval e2 X.env)]) :
    DI X fa hs tg (.Call (.Name "range" p) [e, e2] [] pos) (rngM ms) := (pi_range2 hg hm ha hst hst2).imp fun σ H R ⟨σd, ρ, st, J, st', h1, h2, h3, q⟩ => by
  obtain ⟨xs, st1, e1, h3⟩ := bindS h3
  refine ⟨σd, ρ, st, xs, st1, h1, h2, e1, fun vs H1 ρ1 g1 k1 r1 => ?_⟩
  have hl := hl _ _ _ _ e1
  obtain ⟨x, y, rfl⟩ := len2 hl
  obtain ⟨v, w, rfl, rx, ry⟩ := RDs.two r1
  cases x with
  | int i =>
    cases y with
    | int j =>
      obtain ⟨hr, h3⟩ := iteS (show (if (rngOk i && rngOk j) = true then pure (DIt.rng i 1 (j - i).toNat) else M.fail : M DIt) st1 = some (J, st') from h3)
      obtain ⟨rfl, rfl⟩ := pureS h3
      rw [Bool.and_eq_true] at hr
      cases rx
      cases ry
      exact ⟨i, j, rfl, ⟨(rngOk_b hr.1).1, (rngOk_b hr.1).2, (rngOk_b hr.2).1, (rngOk_b hr.2).2⟩, q _ H1 ρ1 g1 k1 rng_itok fun n hn => by cases hn⟩
    | _ => cases h3
  | _ => cases y <;> cases h3
theorem di_rng3 {e3 : Expr} (hg : Gl X "range") (hm : X.mg "range" = none) (ha : DA X fa hs [e, e2, e3] ms) (hl : ∀ σ st ds st', ms σ st = some (ds, st') → ds.length = 3) (hst : starEach [e, e2, e3] X.env = (false, eval e X.env) :: starEach [e2, e3] X.env) (hpl : (backTo pos (starEach [e2, e3] X.env)).any (·.1) = false) :
    DI X fa hs tg (.Call (.Name "range" p) [e, e2, e3] [] pos) (rngM ms) := (pi_range3 hg hm ha hst hpl).imp fun σ H R ⟨σd, ρ, st, J, st', h1, h2, h3, q⟩ => by
  obtain ⟨xs, st1, e1, h3⟩ := bindS h3
  refine ⟨σd, ρ, st, xs, st1, h1, h2, e1, fun vs H1 ρ1 g1 k1 r1 => ?_⟩
  have hl := hl _ _ _ _ e1
  obtain ⟨x, y, z, rfl⟩ := len3 hl
  obtain ⟨v, t, rfl, rx, rt⟩ := r1
  obtain ⟨w, u, rfl, ry, rz⟩ := RDs.two rt
  cases x with
  | int i =>
    cases y with
    | int j =>
      cases z with
      | int k =>
        obtain ⟨hr, h3⟩ := iteS (show (if (rngOk i && rngOk j && decide (k = -1)) = true then pure (DIt.rng i (-1) (i - j).toNat) else M.fail : M DIt) st1 = some (J, st') from h3)
        obtain ⟨rfl, rfl⟩ := pureS h3
        rw [Bool.and_eq_true, Bool.and_eq_true, decide_eq_true_eq] at hr
        obtain ⟨⟨hr1, hr2⟩, rfl⟩ := hr
        cases rx
        cases ry
        cases rz
        exact ⟨i, j, -1, _, rfl, RgC.neg (rngOk_b hr1).1 (rngOk_b hr1).2 (rngOk_b hr2).1 (rngOk_b hr2).2, q _ H1 ρ1 g1 k1 rngc_itok fun n hn => by cases hn⟩
      | _ => cases h3
    | _ => cases z <;> cases h3
  | _ => cases y <;> cases z <;> cases h3
end
end TL

/-! enumerate over zip, by the evaluator. -/
namespace TL
open PySem PySem.Spec PyProof.Rows L2
section
variable {X : Cx} {fa : Nat → Option Addr} {hs : D → Int} {e e2 : Expr} {pos pos2 p p2 tpos : Pos} {ma mb : Env → M D} {elts : List Expr} {kk : Nat}
theorem enz_itok {ρ1 : List Addr} {H1 : Hp} {J1 J2 : DIt} {t1 t2 : Bool} {a b : Addr} (h1 : SeqHere (cx X fa hs) ρ1 H1 J1 t1 a) (h2 : SeqHere (cx X fa hs) ρ1 H1 J2 t2 b) : ItOk (cx X fa hs) ρ1 H1 (.enum (.zip J1 J2)) (ItezK X.K t1 t2 a b) := by
  intro ρ2 H2 st2 i g2 k2
  have both : ∀ r, (DIt.enum (.zip J1 J2)).get i st2 = some r → ∃ xs ys us ws, SqK X.K t1 H2 a us ∧ SqK X.K t2 H2 b ws ∧ (cx X fa hs).ds ρ2 H2 xs us ∧ (cx X fa hs).ds ρ2 H2 ys ws ∧ i ≤ xs.length ∧ i ≤ ys.length ∧
      ((r = none ∧ (xs.length = i ∨ ys.length = i)) ∨ ∃ x y, xs[i]? = some x ∧ ys[i]? = some y ∧ r = some (.tup [.int (i : Nat), .tup [x, y]])) := fun r hr => by
    have hr' : (match J1.get i st2, J2.get i st2 with
      | some (some x), some (some y) => some (some (D.tup [x, y]))
      | some none, some _ => some none
      | some (some _), some none => some none
      | _, _ => none : Option (Option D)).map (fun (o : Option D) => o.map fun x => D.tup [.int (i : Nat), x]) = some r := hr
    cases e1 : J1.get i st2 with
    | none => rw [e1] at hr'; cases hr'
    | some r1 =>
      cases e2 : J2.get i st2 with
      | none => rw [e1, e2] at hr'; cases r1 <;> cases hr'
      | some r2 =>
        rw [e1, e2] at hr'
        obtain ⟨xs, us, hu, ru, zu, hi⟩ := SeqHere.at (h1.mono g2) k2 e1
        obtain ⟨ys, ws, hw, rw', zw, hj⟩ := SeqHere.at (h2.mono g2) k2 e2
        refine ⟨xs, ys, us, ws, hu, hw, ru, rw', hi, hj, ?_⟩
        cases r1 with
        | none =>
          have z := List.getElem?_eq_none_iff.mp zu.symm
          cases hr'
          exact .inl ⟨rfl, .inl (by omega)⟩
        | some x =>
          cases r2 with
          | none =>
            have z := List.getElem?_eq_none_iff.mp zw.symm
            cases hr'
            exact .inl ⟨rfl, .inr (by omega)⟩
          | some y =>
            cases hr'
            exact .inr ⟨x, y, zu.symm, zw.symm, rfl⟩
  refine ⟨fun hg => ?_, fun d hg => ?_⟩
  · obtain ⟨xs, ys, us, ws, hu, hw, ru, rw', hi, hj, h⟩ := both _ hg
    have l1 := RDs.length ru
    have l2 := RDs.length rw'
    rcases h with ⟨_, h⟩ | ⟨_, _, _, _, z⟩
    · exact ⟨us, ws, hu, hw, by omega, by omega, by omega⟩
    · cases z
  · obtain ⟨xs, ys, us, ws, hu, hw, ru, rw', hi, hj, h⟩ := both _ hg
    rcases h with ⟨z, _⟩ | ⟨x, y, hx, hy, z⟩
    · cases z
    · cases z
      obtain ⟨v1, hv1, r1⟩ := RDs.get ru hx
      obtain ⟨v2, hv2, r2⟩ := RDs.get rw' hy
      refine ⟨⟨us, ws, v1, v2, hu, hw, hv1, hv2⟩, fun v H' ⟨N, T, x', y', y1, y2, y2', y3, y4, y5⟩ => ?_⟩
      subst y1 y3
      have z1 := y4 us hu
      have z2 := y5 ws hw
      rw [hv1] at z1
      rw [hv2] at z2
      cases z1
      cases z2
      have g : Gr X.K ρ2 H2 ρ2 (upd H2 N (.tup [v1, v2])) := Gr.laid y2
      have g' : Gr X.K ρ2 (upd H2 N (.tup [v1, v2])) ρ2 (upd (upd H2 N (.tup [v1, v2])) T (.tup [.int (i : Nat), .ref N])) := Gr.laid y2'
      have gg := g.trans g'
      refine ⟨gg, (k2.laid y2).laid y2', T, _, rfl, .inl (.inl upd_same), RDs.cons rfl (RDs.cons ⟨N, [v1, v2], rfl, g'.tup _ _ (.inl (.inl upd_same)), RDs.cons (r1.mono gg) (RDs.cons (r2.mono gg) rfl)⟩ rfl)⟩
def enzM (ma mb : Env → M D) : Env → M DIt := fun σ => M.bind (ma σ) fun x => M.bind (mb σ) fun y => M.bind (seqIt x) fun i => M.bind (seqIt y) fun j => pure (.enum (.zip i j))
theorem di_enz (hg : Gl X "enumerate") (hm : X.mg "enumerate" = none) (hg2 : Gl X "zip") (hm2 : X.mg "zip" = none) (ha : DE X fa hs e ma) (hb : DE X fa hs e2 mb) (hst : starEach [e, e2] X.env = (false, eval e X.env) :: starEach [e2] X.env) (hst2 : starEach [e2] X.env = (false, eval e2 X.env) :: starEach [] X.env) (hpl : (backTo pos2 (starEach [e2] X.env)).any (·.1) = false) :
    DI X fa hs (.Tuple elts kk tpos) (.Call (.Name "enumerate" p) [.Call (.Name "zip" p2) [e, e2] [] pos2] [] pos) (enzM ma mb) := (pi_enzK hg hm hg2 hm2 (da_cons ha (da_cons hb da_nil hst2) hst) hst hpl).imp fun σ H R ⟨σd, ρ, st, J, st', h1, h2, h3, q⟩ => by
  obtain ⟨x, st1, e1, h3⟩ := bindS h3
  obtain ⟨y, st2, e2', h3⟩ := bindS h3
  obtain ⟨J1, st3, e3, h3⟩ := bindS h3
  obtain ⟨J2, st4, e4, h3⟩ := bindS h3
  obtain ⟨rfl, rfl⟩ := pureS h3
  refine ⟨σd, ρ, st, [x, y], st2, h1, h2, ?_, fun vs H1 ρ1 g1 k1 r1 => ?_⟩
  · exact bindE e1 (bindE (bindE e2' (bindE rfl rfl)) rfl)
  · obtain ⟨v1, v2, rfl, rx, ry⟩ := RDs.two r1
    obtain ⟨rfl, t1, a, xs, rfl, hv, sh⟩ := seqHere_of k1 rx e3
    obtain ⟨rfl, t2, b, ys, rfl, hw, sh2⟩ := seqHere_of k1 ry e4
    exact ⟨t1, t2, a, b, xs, ys, rfl, hv, hw, q _ H1 ρ1 g1 k1 (enz_itok sh sh2) fun n hn => by cases hn⟩
end
end TL

/-! Methods; several names at once; tests. -/
namespace TL
open PySem PySem.Spec PyProof.Rows L2
section
variable {X : Cx} {fa : Nat → Option Addr} {hs : D → Int} {e a b o : Expr} {es : List Expr} {pos p p2 apos cpos : Pos} {m ma mb mc mo : Env → M D} {ms : Env → M (List D)}
variable {ρ : List Addr} {H : Hp} {st st' : Sto} {d : D} {Q : VK} {ds : List D} {vs : List V}

theorem pt_of_pw {t : TT} (h : PW X e t) : PT X e t := ⟨fun pins s σ H Q I w => h.run _ pins s σ H Q I w⟩
theorem dt_of_dw (h : DW X fa hs e m) : DT X fa hs e m := pt_of_pw h

/-! ### o.m(..) -/
def methM (k : Me) (mo : Env → M D) (ms : Env → M (List D)) : Env → M D := fun σ => M.bind (mo σ) fun x => M.bind (M.rd fun st => mchk st k x) fun _ => M.bind (ms σ) fun xs => method k x xs
theorem de_append (ho : DE X fa hs o mo) (ha : DA X fa hs (e :: es) ms) (hbase : attributeBase o "append" X.env (eval o X.env) = eval o X.env)
    (hfew : ((backTo cpos (starEach (e :: es) X.env)).all (fun x => !x.1) && (backToKw cpos (keywordEach [] X.env)).all (fun x => x.1.isSome)
      && decide ((e :: es).length + ([] : List Keyword).length + (if ([] : List Keyword).isEmpty then 0 else 1) < 30)) = true)
    (hline : (apos.endLine == cpos.line) = true) (hst : starEach (e :: es) X.env = (false, eval e X.env) :: starEach es X.env) (hpl : (backTo cpos (starEach es X.env)).any (·.1) = false) :
    DE X fa hs (.Call (.Attribute o "append" apos) (e :: es) [] cpos) (methM .append mo ms) :=
  (pe_bm PySem.F.plainAttrs_list PySem.F.slot_list_append PySem.F.type_list_append mt_append ho ha hbase hfew hline hst hpl).imp fun σ H Q ⟨σd, ρ, st, d, st', h1, h2, h3, q⟩ => by
    obtain ⟨x, st1, e1, h3⟩ := bindS h3
    obtain ⟨u, st2, e2, h3⟩ := bindS h3
    obtain ⟨f2, rfl⟩ := rdS e2
    obtain ⟨xs, st3, e3, h3⟩ := bindS h3
    refine .mk h1 h2 e1 fun v H1 ρ1 g1 k1 r1 => ?_
    cases x with
    | ref n =>
      have f2' : (getL st1 n).map (fun _ => ()) = some u := f2
      cases hg : getL st1 n with
      | none => rw [hg] at f2'; cases f2'
      | some ys =>
        obtain ⟨A, eA, rfl⟩ := r1
        obtain ⟨us, hu, _⟩ := RH.list k1 hg eA
        refine ⟨.inl ⟨rfl, us, hu⟩, σd, ρ1, st1, xs, st3, h1.mono g1, k1, e3, fun vs H2 ρ2 g2 k2 r2 => ?_⟩
        cases xs with
        | nil => cases h3
        | cons v1 tl =>
          cases tl with
          | cons _ _ => cases h3
          | nil =>
            obtain ⟨w, rfl, rw'⟩ := RDs.one r2
            obtain ⟨u4, st4, e4, h4⟩ := bindS (show M.bind (append n v1) (fun _ => pure D.non) st3 = some (d, st') from h3)
            obtain ⟨rfl, rfl⟩ := pureS h4
            obtain ⟨zs, hz, hl, rfl⟩ := appendS e4
            have eA2 := g2.pre _ _ eA
            obtain ⟨us2, hu2, ru2⟩ := RH.lst k2 hz eA2
            have gw : Gr X.K ρ2 H2 ρ2 (upd H2 A (.lst (us2 ++ [w]))) := Gr.write hu2 (fun _ z => nomatch z) fun _ _ z => nomatch z
            refine ⟨A, us2, w, rfl, rfl, hu2, by rw [← RDs.length ru2, sizeLIM]; exact hl, q _ _ ρ2 (g1.trans (g2.trans gw)) ?_ rfl⟩
            exact RH.write k2 hz eA2 rfl rfl hu2 (fun _ z => nomatch z) (fun _ _ z => nomatch z) (fun _ _ z => nomatch z) ⟨_, upd_same, RDs.append (RDs.mono gw ru2) (RDs.cons (rw'.mono gw) rfl)⟩
    | _ => cases f2

/-! ### a, b, .. = x, y, .. -/
def parM (is : List Nat) (ms : Env → M (List D)) : Env → M Fl := fun σ => M.bind (ms σ) fun xs => pure (.nx (setAll is xs σ))
def namesG : List Nat → List D → Env → M Env
  | i :: is, d :: ds, σ => namesG is ds (σ.set i (some d))
  | [], [], σ => pure σ
  | _, _, _ => M.fail
theorem names_set : ∀ (is : List Nat) (ds : List D) (σ : Env) (st : Sto), ds.length = is.length → namesG is ds σ st = some (setAll is ds σ, st)
  | [], [], _, _, _ => rfl
  | i :: is, d :: ds, σ, st, h => names_set is ds (σ.set i (some d)) st (by simpa using h)
/-- the plain road: a tuple unpacked -/
theorem ds_par {ts : List Expr} {k k2 : Nat} {pt2 : Pos} {is : List Nat} (hc : X.calm = true) (hg : DGs X fa hs ts is (namesG is)) (hn : (assignEach ts X.env).length = is.length) (hst : (assignEach ts X.env).findIdx? (·.1) = none)
    (he : DA X fa hs es ms) (hz : es.length ≤ 1000) (hl : ∀ σ st ds st', ms σ st = some (ds, st') → ds.length = es.length) (hlen : es.length = is.length)
    (h1 : swapsWithSole [.Tuple ts k p] (.Tuple es k2 pt2) pos.line X.env = pure false) (h2 : swappedStores [.Tuple ts k p] (.Tuple es k2 pt2) X.env = pure none) (h3 : (assignEach [.Tuple ts k p] X.env).map (·.2) = [assign (.Tuple ts k p) X.env]) :
    DS X fa hs (.Assign [.Tuple ts k p] (.Tuple es k2 pt2) pos) (parM is ms) :=
  (ds_asg (de_tup he hz hl) (dg_tup hc hg hn hst) h1 h2 h3).imp fun D σ H ⟨σd, ρ, st, fl, st', g1, g2, g3, q⟩ => by
    obtain ⟨xs, st1, e1, g3⟩ := bindS g3
    obtain ⟨rfl, rfl⟩ := pureS g3
    refine ⟨σd, ρ, st, _, st1, g1, g2, bindE (bindE e1 rfl) (bindE (a := setAll is xs σd) (st1 := st1) ?_ rfl), q⟩
    have hx := hl _ _ _ _ e1
    show (if xs.length = is.length then namesG is xs σd else M.fail) st1 = _
    rw [if_pos (by omega)]
    exact names_set is xs σd st1 (by omega)
/-- two names, stored from the right -/
theorem ds_par2 {i j : Nat} {x y : Str} {px py pt pt2 : Pos} {kt k2 : Nat} (hc : X.calm = true) (hN : X.N.Nodup) (hi : X.N[i]? = some x) (hj : X.N[j]? = some y) (hij : i ≠ j)
    (hx : X.env.scope.names.lookup x = some .local) (hy : X.env.scope.names.lookup y = some .local) (ha : DA X fa hs [a, b] ms) (hl : ∀ σ st ds st', ms σ st = some (ds, st') → ds.length = 2)
    (hw : swappedStores [.Tuple [.Name x px, .Name y py] kt pt] (.Tuple [a, b] k2 pt2) X.env = pure (some [x, y]))
    (hs' : swapsWithSole [.Tuple [.Name x px, .Name y py] kt pt] (.Tuple [a, b] k2 pt2) pos.line X.env = pure false) : DS X fa hs (.Assign [.Tuple [.Name x px, .Name y py] kt pt] (.Tuple [a, b] k2 pt2) pos) (parM [i, j] ms) :=
  (ps_par hc hN hi hj hij hx hy ha hw hs').imp fun D σ H ⟨σd, ρ, st, fl, st', g1, g2, g3, q⟩ => by
    obtain ⟨xs, st1, e1, g3⟩ := bindS g3
    obtain ⟨rfl, rfl⟩ := pureS g3
    refine ⟨σd, ρ, st, xs, st1, g1, g2, e1, fun vs H1 ρ1 gr k r => ?_⟩
    obtain ⟨x1, x2, rfl⟩ := len2 (hl _ _ _ _ e1)
    obtain ⟨v1, v2, rfl, r1, r2⟩ := RDs.two r
    exact ⟨v1, v2, rfl, q _ H1 ρ1 gr (((g1.mono gr).set i r1).set j r2) k⟩
theorem ds_par3 {c : Expr} {i j l : Nat} {x y z : Str} {px py pz pt pt2 : Pos} {kt k2 : Nat} (hc : X.calm = true) (hN : X.N.Nodup) (hi : X.N[i]? = some x) (hj : X.N[j]? = some y) (hk : X.N[l]? = some z) (hij : i ≠ j) (hil : i ≠ l) (hjl : j ≠ l)
    (hx : X.env.scope.names.lookup x = some .local) (hy : X.env.scope.names.lookup y = some .local) (hz : X.env.scope.names.lookup z = some .local) (ha : DA X fa hs [a, b, c] ms) (hl : ∀ σ st ds st', ms σ st = some (ds, st') → ds.length = 3)
    (hw : swappedStores [.Tuple [.Name x px, .Name y py, .Name z pz] kt pt] (.Tuple [a, b, c] k2 pt2) X.env = pure (some [x, y, z]))
    (hs' : swapsWithSole [.Tuple [.Name x px, .Name y py, .Name z pz] kt pt] (.Tuple [a, b, c] k2 pt2) pos.line X.env = pure false) : DS X fa hs (.Assign [.Tuple [.Name x px, .Name y py, .Name z pz] kt pt] (.Tuple [a, b, c] k2 pt2) pos) (parM [i, j, l] ms) :=
  (ps_par3 hc hN hi hj hk hij hil hjl hx hy hz ha hw hs').imp fun D σ H ⟨σd, ρ, st, fl, st', g1, g2, g3, q⟩ => by
    obtain ⟨xs, st1, e1, g3⟩ := bindS g3
    obtain ⟨rfl, rfl⟩ := pureS g3
    refine ⟨σd, ρ, st, xs, st1, g1, g2, e1, fun vs H1 ρ1 gr k r => ?_⟩
    obtain ⟨x1, x2, x3, rfl⟩ := len3 (hl _ _ _ _ e1)
    obtain ⟨v1, t, rfl, r1, rt⟩ := r
    obtain ⟨v2, v3, rfl, r2, r3⟩ := RDs.two rt
    exact ⟨v1, v2, v3, rfl, q _ H1 ρ1 gr ((((g1.mono gr).set i r1).set j r2).set l r3) k⟩
end
end TL

/-! sorted(set(t)); list(range(..)). -/
namespace TL
open PySem PySem.Spec PyProof.Rows L2
theorem insI_mem {a x : Int} : ∀ {l : List Int}, x ∈ insI a l ↔ x = a ∨ x ∈ l
  | [] => by show x ∈ [a] ↔ _; rw [List.mem_singleton]; simp
  | y :: r => by
    show x ∈ (if a < y then a :: y :: r else if a = y then y :: r else y :: insI a r) ↔ _
    by_cases h1 : a < y
    · rw [if_pos h1, List.mem_cons]
    · rw [if_neg h1]
      by_cases h2 : a = y
      · subst h2
        rw [if_pos rfl]
        constructor
        · exact .inr
        · rintro (rfl | h)
          · exact List.mem_cons_self
          · exact h
      · rw [if_neg h2, List.mem_cons, insI_mem, List.mem_cons]
        constructor
        · rintro (h | h | h)
          · exact .inr (.inl h)
          · exact .inl h
          · exact .inr (.inr h)
        · rintro (h | h | h)
          · exact .inr (.inl h)
          · exact .inl h
          · exact .inr (.inr h)
theorem insI_up {a : Int} : ∀ {l : List Int}, l.Pairwise (· < ·) → (insI a l).Pairwise (· < ·)
  | [], _ => List.pairwise_singleton _ _
  | y :: r, h => by
    obtain ⟨h1, h2⟩ := List.pairwise_cons.mp h
    show (if a < y then a :: y :: r else if a = y then y :: r else y :: insI a r).Pairwise (· < ·)
    by_cases c1 : a < y
    · rw [if_pos c1]
      refine List.pairwise_cons.mpr ⟨fun z hz => ?_, h⟩
      rcases List.mem_cons.mp hz with rfl | hz
      · exact c1
      · exact Int.lt_trans c1 (h1 z hz)
    · rw [if_neg c1]
      by_cases c2 : a = y
      · rw [if_pos c2]
        exact h
      · rw [if_neg c2]
        refine List.pairwise_cons.mpr ⟨fun z hz => ?_, insI_up h2⟩
        rcases insI_mem.mp hz with rfl | hz
        · omega
        · exact h1 z hz
theorem sortSet_mem {x : Int} : ∀ {l : List Int}, x ∈ sortSet l ↔ x ∈ l
  | [] => Iff.rfl
  | y :: r => by
    show x ∈ insI y (sortSet r) ↔ _
    rw [insI_mem, sortSet_mem, List.mem_cons]
theorem sortSet_up : ∀ {l : List Int}, (sortSet l).Pairwise (· < ·)
  | [] => List.Pairwise.nil
  | _ :: r => insI_up (sortSet_up (l := r))
theorem rising_ext : ∀ {a b : List Int}, a.Pairwise (· < ·) → b.Pairwise (· < ·) → (∀ x, x ∈ a ↔ x ∈ b) → a = b
  | [], [], _, _, _ => rfl
  | [], y :: ys, _, _, h => absurd ((h y).mpr List.mem_cons_self) (by simp)
  | x :: xs, [], _, _, h => absurd ((h x).mp List.mem_cons_self) (by simp)
  | x :: xs, y :: ys, ha, hb, h => by
    obtain ⟨a1, a2⟩ := List.pairwise_cons.mp ha
    obtain ⟨b1, b2⟩ := List.pairwise_cons.mp hb
    have e : x = y := by
      rcases List.mem_cons.mp ((h x).mp List.mem_cons_self) with e | e
      · exact e
      · rcases List.mem_cons.mp ((h y).mpr List.mem_cons_self) with e2 | e2
        · exact e2.symm
        · have := a1 y e2
          have := b1 x e
          omega
    subst e
    have ih := rising_ext a2 b2 fun z => by
      constructor
      · intro hz
        rcases List.mem_cons.mp ((h z).mp (List.mem_cons_of_mem _ hz)) with e | e
        · subst e
          exact absurd (a1 _ hz) (Int.lt_irrefl _)
        · exact e
      · intro hz
        rcases List.mem_cons.mp ((h z).mpr (List.mem_cons_of_mem _ hz)) with e | e
        · subst e
          exact absurd (b1 _ hz) (Int.lt_irrefl _)
        · exact e
    rw [ih]
section
variable {X : Cx} {fa : Nat → Option Addr} {hs : D → Int} {e a b o : Expr} {es : List Expr} {pos p p2 q : Pos} {m ma mb mc mo : Env → M D} {ms : Env → M (List D)}
def rSetI (K : PySem.W.Frag) (w : World) : RL := fun xs H Q => ∃ (p : Addr) (ns : List Int), xs = [.ref p] ∧ SqT K H p (ns.map V.int) ∧ ns.length ≤ 60 ∧ ∀ (a : Addr) (c : Nat), H a = none → c ≤ ns.length → Q (.ref a) (upd H a (SetO w a (fun j => decide (j ∈ ns)) c))
theorem cr_setI (hc : X.calm = true) : CallR X (.type "set") (rSetI X.K X.w) := by
  intro pins s σ H xs us Q I r h
  obtain ⟨p, ns, rfl, hp, hl, q⟩ := h
  rw [Vals.ref1 r]
  obtain ⟨its, rv, pl, hz⟩ := I.tuple hp
  have hn : H s.heap.objs.size = none := I.hok.fresh (Nat.le_refl _)
  refine call_set_tupI (P := X.prog) (w := X.w) ns (I.ok.hd hc) pl (by simpa using rv.ints) (by unfold scanBound; omega) fun h' tk c R hc' k => ?_
  exact ⟨.ref s.heap.objs.size, upd H s.heap.objs.size _, I.laid (t' := tk) k (Nat.le_refl _) (setO_new R), rfl, q _ c hn hc'⟩
theorem de_sortset (hc : X.calm = true) (hg : Gl X "sorted") (hm : X.mg "sorted" = none) (hg2 : Gl X "set") (hm2 : X.mg "set" = none) (ha : DE X fa hs a m) (na : starEach [a] X.env = (false, eval a X.env) :: starEach [] X.env) :
    DE X fa hs (.Call (.Name "sorted" p) [.Call (.Name "set" p2) [a] [] q] [] pos) (fun σ => M.bind (m σ) fun x => sortsetF [x]) := by
  have inner : PE X (.Call (.Name "set" p2) [a] [] q) (tCB (rSetI X.K X.w) (tCons (liftE (cx X fa hs) m) tNil)) := pe_callTy (cr_setI hc) hg2 hm2 PyProof.Rows.boot_set (pa_cons ha pa_nil na) (by decide) (by decide) na (by rfl)
  have outer : PE X (.Call (.Name "sorted" p) [.Call (.Name "set" p2) [a] [] q] [] pos) _ := pe_callB (cr_sortedSet hc) hg hm PyProof.Rows.boot_sorted (pa_cons inner pa_nil rfl) (by decide) (by decide) rfl rfl
  refine outer.imp fun σ H Q ⟨σd, ρ, st, d, st', h1, h2, h3, qq⟩ => ?_
  obtain ⟨x, st1, e1, h3⟩ := bindS h3
  refine .mk h1 h2 e1 fun vx H1 ρ1 g1 k1 r1 => ?_
  have h3' : (match [x] with
    | [.tup ys] => match intsOf ys with
      | some is => if is.length ≤ 60 then alloc (.lst ((sortSet is).map D.int)) st1 else none
      | none => none
    | _ => none) = some (d, st') := h3
  split at h3'
  · rename_i ys e0
    cases e0
    split at h3'
    · rename_i is hi
      split at h3'
      · rename_i hl
        obtain ⟨rfl, rfl⟩ := allocS h3'
        obtain ⟨A, us, rfl, hA, ra⟩ := r1
        rw [ints_V hi ra] at hA
        refine ⟨A, is, rfl, hA, hl, fun B c hB hcl => ⟨B, _, c, rfl, upd_same, by omega, fun ns P hup hmem hlen hP => ?_⟩⟩
        have e2 : ns = sortSet is := rising_ext hup sortSet_up fun z => by
          rw [hmem, decide_eq_true_eq, sortSet_mem]
        subst e2
        have gB : Gr X.K ρ1 H1 ρ1 (upd H1 B (SetO X.w B (fun j => decide (j ∈ is)) c)) := Gr.laid hB
        have kB : CH X fa hs ρ1 (upd H1 B (SetO X.w B (fun j => decide (j ∈ is)) c)) st1 := k1.laid hB
        have rr : ∀ l : List Int, (cx X fa hs).ds ρ1 (upd H1 B (SetO X.w B (fun j => decide (j ∈ is)) c)) (l.map D.int) (l.map V.int) := fun l => by
          induction l with
          | nil => exact rfl
          | cons y l ih => exact RDs.cons rfl ih
        exact new_lst kB (rr _) ((qq.trans g1).trans gB) P hP
      · cases h3'
    · cases h3'
  · cases h3'
/-! ### list(range(..)) -/
theorem cr_range1 : CallR X (.type "range") (fun vs H Q => ∃ j, vs = [V.int j] ∧ ∀ p, H p = none → Q (.ref p) (upd H p (.rng 0 j))) := by
  intro pins s σ H vs us Q I r h
  obtain ⟨j, rfl, q⟩ := h
  obtain ⟨u1, rfl, ri⟩ := vals1 r
  obtain ⟨t, rfl⟩ := ri
  refine call_range_1 ⟨.ref s.heap.objs.size, upd H s.heap.objs.size (.rng 0 j), I.laid (t' := s.toks + 2) (fun b o e => Heap.get?_push_of_some _ e) (Nat.le_refl _) ?_, rfl, q _ (I.hok.fresh (Nat.le_refl _))⟩
  exact ⟨_, _, _, Heap.get?_push_size _ rfl⟩
def rngIs (lo hi : Int) : List Int := (List.range (hi - lo).toNat).map fun (k : Nat) => lo + (k : Int)
def rLRng : RL := fun xs H Q => ∃ (a : Addr) (lo hi : Int), xs = [.ref a] ∧ H a = some (.rng lo hi) ∧ 0 ≤ lo ∧ lo ≤ LIM ∧ 0 ≤ hi ∧ hi ≤ LIM ∧ ∀ l, H l = none → Q (.ref l) (upd H l (.lst ((rngIs lo hi).map V.int)))
theorem ints_list {lo : Int} : ∀ (us : List Value) (n : Nat) (k : Nat), us.length = n → (∀ (j : Nat) (v : Value), us[j]? = some v → ∃ t, v = .int (lo + ((k + j : Nat) : Int) * 1) t) → Vals ((List.range' k n).map fun (i : Nat) => V.int (lo + (i : Int))) us
  | [], 0, _, _, _ => .nil
  | [], _ + 1, _, h, _ => by cases h
  | _ :: _, 0, _, h, _ => by cases h
  | u :: us, n + 1, k, h, q => by
    rw [List.range'_succ, List.map_cons]
    refine Paired.cons ?_ (ints_list us n (k + 1) (by simpa using h) fun j v hv => ?_)
    · obtain ⟨t, rfl⟩ := q 0 u rfl
      refine ⟨t, ?_⟩
      rw [Int.mul_one]
      rfl
    · obtain ⟨t, rfl⟩ := q (j + 1) v (by simpa using hv)
      refine ⟨t, ?_⟩
      rw [show k + (j + 1) = k + 1 + j by omega]
theorem cr_lrng (hc : X.calm = true) : CallR X (.type "list") rLRng := by
  intro pins s σ H vs us Q I r h
  obtain ⟨a, lo, hi, rfl, ha, b1, b2, b3, b4, q⟩ := h
  rw [Vals.ref1 r]
  obtain ⟨t, u, v, hr⟩ := I.hok a _ ha
  have L : LIM = 16777216 := rfl
  refine call_list_range (n := (hi - lo).toNat) (I.ok.hd hc) hr (small_one (by omega) (by omega) (by omega) (by omega)) (by rw [rangeSize_one]; split <;> omega) (by omega) fun h' tk acc c hk hD hI => ?_
  refine ⟨.ref s.heap.objs.size, upd H s.heap.objs.size (.lst ((rngIs lo hi).map V.int)), I.laid (t' := tk) hk (Nat.le_refl _) ⟨?_, acc.toList, c, ?_, ?_⟩, rfl, q _ (I.hok.fresh (Nat.le_refl _))⟩
  · unfold rngIs
    rw [List.length_map, List.length_map, List.length_range, sizeLIM]
    omega
  · have z := ints_list (lo := lo) acc.toList (hi - lo).toNat 0 (by rw [Array.length_toList]; exact hI.1) fun j v hv => by
      obtain ⟨t, e⟩ := hI.2 j v (by rw [← hv, Array.getElem?_toList])
      exact ⟨t, by rw [e, Nat.zero_add]⟩
    unfold rngIs
    rw [List.map_map, List.range_eq_range']
    exact z
  · rw [Array.toArray_toList]
    exact hD
theorem rangeL_ok {xs ys : List D} (h : rangeL xs = some ys) : ∃ lo hi : Int, (xs = [.int lo, .int hi] ∨ xs = [.int hi] ∧ lo = 0) ∧ 0 ≤ lo ∧ lo ≤ LIM ∧ 0 ≤ hi ∧ hi ≤ LIM ∧ ys = (rngIs lo hi).map D.int := by
  unfold rangeL at h
  split at h
  · rename_i j
    split at h
    · rename_i hj
      cases h
      refine ⟨0, j, .inr ⟨rfl, rfl⟩, Int.le_refl _, by decide, hj.1, hj.2, ?_⟩
      unfold rngIs
      rw [List.map_map, Int.sub_zero]
      refine List.map_congr_left fun k _ => ?_
      show D.int _ = D.int (0 + (k : Int))
      rw [Int.zero_add]
    · cases h
  · rename_i i j
    split at h
    · rename_i hj
      cases h
      refine ⟨i, j, .inl rfl, hj.1, hj.2.1, hj.2.2.1, hj.2.2.2, ?_⟩
      unfold rngIs
      rw [List.map_map]
      rfl
    · cases h
  · cases h
theorem ints_RD {ρ : List Addr} {H : Hp} : ∀ l : List Int, (cx X fa hs).ds ρ H (l.map D.int) (l.map V.int)
  | [] => rfl
  | y :: l => RDs.cons rfl (ints_RD l)
theorem de_lrng2 (hc : X.calm = true) (hg : Gl X "list") (hm : X.mg "list" = none) (hg2 : Gl X "range") (hm2 : X.mg "range" = none) (ha : DA X fa hs [a, b] ms) (hl : ∀ σ st ds st', ms σ st = some (ds, st') → ds.length = 2)
    (na : starEach [a, b] X.env = (false, eval a X.env) :: starEach [b] X.env) (nb : (backTo q (starEach [b] X.env)).any (·.1) = false) :
    DE X fa hs (.Call (.Name "list" p) [.Call (.Name "range" p2) [a, b] [] q] [] pos) (fun σ => M.bind (ms σ) fun xs => M.bind (M.lift (rangeL xs)) fun ys => alloc (.lst ys)) := by
  have inner := pe_callTy (pos := q) (p := p2) cr_range2 hg2 hm2 PyProof.Rows.boot_range ha (by decide) (by decide) na nb
  have outer : PE X (.Call (.Name "list" p) [.Call (.Name "range" p2) [a, b] [] q] [] pos) _ := pe_callTy (cr_lrng hc) hg hm PyProof.Rows.boot_list (pa_cons inner pa_nil rfl) (by decide) (by decide) rfl rfl
  refine outer.imp fun σ H Q ⟨σd, ρ, st, d, st', h1, h2, h3, qq⟩ => ?_
  obtain ⟨xs, st1, e1, h3⟩ := bindS h3
  obtain ⟨ys, st2, e2, h3⟩ := bindS h3
  obtain ⟨e4, rfl⟩ := liftS e2
  obtain ⟨rfl, rfl⟩ := allocS h3
  refine ⟨σd, ρ, st, xs, st1, h1, h2, e1, fun vs H1 ρ1 g1 k1 r1 => ?_⟩
  obtain ⟨lo, hi, hx, b1, b2, b3, b4, rfl⟩ := rangeL_ok e4
  rcases hx with rfl | ⟨rfl, rfl⟩
  · obtain ⟨v, u, rfl, rx, ry⟩ := RDs.two r1
    cases rx; cases ry
    refine ⟨lo, hi, rfl, fun B hB => ⟨B, lo, hi, rfl, upd_same, b1, b2, b3, b4, fun l hl => ?_⟩⟩
    have gB : Gr X.K ρ1 H1 ρ1 (upd H1 B (.rng lo hi)) := Gr.laid hB
    exact new_lst (k1.laid hB) (ints_RD _) ((qq.trans g1).trans gB) l hl
  · have := hl _ _ _ _ e1
    cases this
theorem de_lrng1 (hc : X.calm = true) (hg : Gl X "list") (hm : X.mg "list" = none) (hg2 : Gl X "range") (hm2 : X.mg "range" = none) (ha : DA X fa hs [a] ms) (hl : ∀ σ st ds st', ms σ st = some (ds, st') → ds.length = 1)
    (na : starEach [a] X.env = (false, eval a X.env) :: starEach [] X.env) :
    DE X fa hs (.Call (.Name "list" p) [.Call (.Name "range" p2) [a] [] q] [] pos) (fun σ => M.bind (ms σ) fun xs => M.bind (M.lift (rangeL xs)) fun ys => alloc (.lst ys)) := by
  have inner := pe_callTy (pos := q) (p := p2) cr_range1 hg2 hm2 PyProof.Rows.boot_range ha (by decide) (by decide) na rfl
  have outer : PE X (.Call (.Name "list" p) [.Call (.Name "range" p2) [a] [] q] [] pos) _ := pe_callTy (cr_lrng hc) hg hm PyProof.Rows.boot_list (pa_cons inner pa_nil rfl) (by decide) (by decide) rfl rfl
  refine outer.imp fun σ H Q ⟨σd, ρ, st, d, st', h1, h2, h3, qq⟩ => ?_
  obtain ⟨xs, st1, e1, h3⟩ := bindS h3
  obtain ⟨ys, st2, e2, h3⟩ := bindS h3
  obtain ⟨e4, rfl⟩ := liftS e2
  obtain ⟨rfl, rfl⟩ := allocS h3
  refine ⟨σd, ρ, st, xs, st1, h1, h2, e1, fun vs H1 ρ1 g1 k1 r1 => ?_⟩
  obtain ⟨lo, hi, hx, b1, b2, b3, b4, rfl⟩ := rangeL_ok e4
  rcases hx with rfl | ⟨rfl, rfl⟩
  · have := hl _ _ _ _ e1
    cases this
  · obtain ⟨v, rfl, rx⟩ := RDs.one r1
    cases rx
    refine ⟨hi, rfl, fun B hB => ⟨B, 0, hi, rfl, upd_same, b1, b2, b3, b4, fun l hl => ?_⟩⟩
    have gB : Gr X.K ρ1 H1 ρ1 (upd H1 B (.rng 0 hi)) := Gr.laid hB
    exact new_lst (k1.laid hB) (ints_RD _) ((qq.trans g1).trans gB) l hl
end
end TL

/-! Dicts: with tuples (nested, of whole numbers) as keys, or whole numbers. -/
namespace TL
open PySem PySem.Spec PyProof.Rows L2
mutual
/-- the key as the library has it -/
def kof : D → NestedKey
  | .int i => .num i
  | .tup xs => .tup (kofs xs)
  | .non => .none
  | .bl _ => .none
  | .str _ => .none
  | .ref _ => .none
  | .fn _ => .none
  | .ty _ => .none
def kofs : List D → List NestedKey
  | [] => []
  | x :: xs => kof x :: kofs xs
end
theorem okk_cons {n : Nat} {x : D} {xs : List D} (h : (x :: xs).all (okk n) = true) : okk n x = true ∧ xs.all (okk n) = true := by
  rw [List.all_cons, Bool.and_eq_true] at h
  exact h
theorem kofs_inj {n : Nat} (one : ∀ x y : D, okk n x = true → okk n y = true → kof x = kof y → x = y) : ∀ xs ys : List D, xs.all (okk n) = true → ys.all (okk n) = true → kofs xs = kofs ys → xs = ys
  | [], [], _, _, _ => rfl
  | [], _ :: _, _, _, h => by cases h
  | _ :: _, [], _, _, h => by cases h
  | x :: xs, y :: ys, hx, hy, h => by
    have h' : kof x :: kofs xs = kof y :: kofs ys := h
    injection h' with h1 h2
    rw [one x y (okk_cons hx).1 (okk_cons hy).1 h1, kofs_inj one xs ys (okk_cons hx).2 (okk_cons hy).2 h2]
theorem kof_inj : ∀ (n : Nat) (x y : D), okk n x = true → okk n y = true → kof x = kof y → x = y
  | 0, _, _, h, _, _ => by cases h
  | n + 1, .int i, .int j, _, _, h => by
    have h' : NestedKey.num i = .num j := h
    injection h' with h'
    rw [h']
  | n + 1, .int i, .tup ys, _, _, h => by
    have h' : NestedKey.num i = .tup (kofs ys) := h
    cases h'
  | n + 1, .tup xs, .int j, _, _, h => by
    have h' : NestedKey.tup (kofs xs) = .num j := h
    cases h'
  | n + 1, .tup xs, .tup ys, hx, hy, h => by
    have h' : NestedKey.tup (kofs xs) = .tup (kofs ys) := h
    injection h' with h'
    rw [kofs_inj (kof_inj n) xs ys hx hy h']
  | n + 1, .non, _, h, _, _ => by cases h
  | n + 1, .bl _, _, h, _, _ => by cases h
  | n + 1, .str _, _, h, _, _ => by cases h
  | n + 1, .ref _, _, h, _, _ => by cases h
  | n + 1, .fn _, _, h, _, _ => by cases h
  | n + 1, .ty _, _, h, _, _ => by cases h
  | n + 1, .int _, .non, _, h, _ => by cases h
  | n + 1, .int _, .bl _, _, h, _ => by cases h
  | n + 1, .int _, .str _, _, h, _ => by cases h
  | n + 1, .int _, .ref _, _, h, _ => by cases h
  | n + 1, .int _, .fn _, _, h, _ => by cases h
  | n + 1, .int _, .ty _, _, h, _ => by cases h
  | n + 1, .tup _, .non, _, h, _ => by cases h
  | n + 1, .tup _, .bl _, _, h, _ => by cases h
  | n + 1, .tup _, .str _, _, h, _ => by cases h
  | n + 1, .tup _, .ref _, _, h, _ => by cases h
  | n + 1, .tup _, .fn _, _, h, _ => by cases h
  | n + 1, .tup _, .ty _, _, h, _ => by cases h
theorem kofs_depth {n : Nat} (one : ∀ x : D, okk n x = true → (kof x).depth ≤ n) : ∀ xs : List D, xs.all (okk n) = true → NestedKey.depthAll (kofs xs) ≤ n
  | [], _ => Nat.zero_le _
  | x :: xs, h => by
    have h1 := one x (okk_cons h).1
    have h2 := kofs_depth one xs (okk_cons h).2
    show max (kof x).depth (NestedKey.depthAll (kofs xs)) ≤ n
    omega
theorem kof_depth : ∀ (n : Nat) (x : D), okk n x = true → (kof x).depth ≤ n
  | 0, _, h => by cases h
  | n + 1, .int i, _ => Nat.zero_le _
  | n + 1, .tup xs, h => by
    have := kofs_depth (kof_depth n) xs h
    show NestedKey.depthAll (kofs xs) + 1 ≤ n + 1
    omega
  | n + 1, .non, h => by cases h
  | n + 1, .bl _, h => by cases h
  | n + 1, .str _, h => by cases h
  | n + 1, .ref _, h => by cases h
  | n + 1, .fn _, h => by cases h
  | n + 1, .ty _, h => by cases h
/-- the hashes that the layer's dicts go by -/
def hsOf (w : World) (d : D) : Int := (kof d).hash w
section
variable {X : Cx} {pins : List (Addr × Obj)} {σ : L2.St} {H : Hp} {s : Shared} {fa : Nat → Option Addr} {ρ : List Addr} {st : Sto}
theorem nesteds_of (I : Inv X pins σ H s) {n : Nat} (one : ∀ (d : D) (v : V) (u : Value), okk n d = true → RD X.K fa ρ H d v → RelV v u → NestedIs s.heap (kof d) u) : ∀ (ds : List D) (vs : List V) (us : List Value), ds.all (okk n) = true → RDs X.K fa ρ H ds vs → Vals vs us → NestedAll s.heap (kofs ds) us
  | [], _, us, _, r, t => by cases r; cases t; exact .nil
  | d :: ds, _, us, h, r, t => by
    obtain ⟨v, vs, rfl, r1, r2⟩ := r
    cases t with
    | cons t1 t2 => exact .cons (one d v _ (okk_cons h).1 r1 t1) (nesteds_of I one ds vs _ (okk_cons h).2 r2 t2)
theorem nested_of (I : Inv X pins σ H s) : ∀ (n : Nat) (d : D) (v : V) (u : Value), okk n d = true → RD X.K fa ρ H d v → RelV v u → NestedIs s.heap (kof d) u
  | 0, _, _, _, h, _, _ => by cases h
  | n + 1, .int i, v, u, _, r, t => by
    cases r
    obtain ⟨tk, rfl⟩ := t
    exact .int _ _
  | n + 1, .tup xs, v, u, h, r, t => by
    obtain ⟨a, vs, rfl, ha, ra⟩ := r
    cases t
    obtain ⟨its, rv, ⟨ob, h1, h2, m, h3⟩, _⟩ := I.tuple ha
    exact .tup h1 h2 h3 (by simpa using nesteds_of I (nested_of I n) xs vs its h ra rv)
  | n + 1, .non, _, _, h, _, _ => by cases h
  | n + 1, .bl _, _, _, h, _, _ => by cases h
  | n + 1, .str _, _, _, h, _, _ => by cases h
  | n + 1, .ref _, _, _, h, _, _ => by cases h
  | n + 1, .fn _, _, _, h, _, _ => by cases h
  | n + 1, .ty _, _, _, h, _, _ => by cases h
/-- a tuple as a key of a dict -/
theorem key_is (I : Inv X pins σ H s) {d : D} {v : V} {u : Value} (ok : okk 8 d = true) (kt : isKeyT d = true) (r : RD X.K fa ρ H d v) (t : RelV v u) : ∃ b, v = .ref b ∧ u = .ref b ∧ (nestedKind X.prog X.w).is s.heap (kof d) b := by
  cases d with
  | tup xs =>
    have q := nested_of I 8 (.tup xs) v u ok r t
    obtain ⟨b, vs, rfl, _⟩ := r
    cases t
    exact ⟨b, rfl, rfl, q, kof_depth 8 _ ok⟩
  | _ => cases kt
/-- one entry, three ways: as the evaluator has it, as the layer has it, as the library has it -/
abbrev T3 := (D × D) × (Int × V × V) × (NestedKey × Addr × Value)
structure T3ok (w : World) (K : PySem.W.Frag) (fa : Nat → Option Addr) (ρ : List Addr) (H : Hp) (t : T3) : Prop where
  ok : okk 8 t.1.1 = true
  kt : isKeyT t.1.1 = true
  h : t.2.1.1 = hsOf w t.1.1
  rk : RD K fa ρ H t.1.1 t.2.1.2.1
  rv : RD K fa ρ H t.1.2 t.2.1.2.2
  k : t.2.2.1 = kof t.1.1
  uk : RelV t.2.1.2.1 (.ref t.2.2.2.1)
  uv : RelV t.2.1.2.2 t.2.2.2.2
def T3.kv (t : T3) : D × D := t.1
def T3.raw (t : T3) : Int × V × V := t.2.1
def T3.x (t : T3) : NestedKey × Addr × Value := t.2.2
theorem entR_inv {r : Int × V × V} {e : DictEntry} (h : entR r e) : e = ⟨r.1, e.key, e.val⟩ := by
  obtain ⟨h1, _, _⟩ := h
  cases e
  cases h1
  rfl
theorem triples (I : Inv X pins σ H s) : ∀ {kvs : List (D × D)} {raw : List (Int × V × V)} {es : List DictEntry}, RKs X.K fa (hsOf X.w) ρ H kvs raw → Paired entR raw es → (∀ p ∈ kvs, okk 8 p.1 = true) → (∀ p ∈ kvs, isKeyT p.1 = true) →
    ∃ ts : List T3, ts.map T3.kv = kvs ∧ ts.map T3.raw = raw ∧ (ts.map T3.x).map (entryOfKey (nestedKind X.prog X.w)) = es ∧ ∀ t ∈ ts, T3ok X.w X.K fa ρ H t
  | _, _, _, .nil, .nil, _, _ => ⟨[], rfl, rfl, rfl, fun t h => by cases h⟩
  | _, _, _, .cons (a := p) (b := r) h1 t1, .cons (b := e) h2 t2, ok, kt => by
    obtain ⟨ts, e1, e2, e3, e4⟩ := triples I t1 t2 (fun q hq => ok q (List.mem_cons_of_mem _ hq)) fun q hq => kt q (List.mem_cons_of_mem _ hq)
    obtain ⟨q1, q2, q3⟩ := h1
    obtain ⟨q4, q5, q6⟩ := h2
    obtain ⟨b, b1, b2, b3⟩ := key_is I (ok p List.mem_cons_self) (kt p List.mem_cons_self) q2 q5
    refine ⟨(p, r, (kof p.1, b, e.val)) :: ts, by rw [List.map_cons, e1]; rfl, by rw [List.map_cons, e2]; rfl, ?_, fun t ht => ?_⟩
    · rw [List.map_cons, List.map_cons, e3]
      congr 1
      show (⟨(kof p.1).hash X.w, .ref b, e.val⟩ : DictEntry) = e
      have z : e.hash = (kof p.1).hash X.w := q4.trans q1
      cases e
      cases z
      cases b2
      rfl
    · rcases List.mem_cons.mp ht with rfl | ht
      · exact ⟨ok p List.mem_cons_self, kt p List.mem_cons_self, q1, q2, q3, rfl, by rw [b1]; rfl, q6⟩
      · exact e4 t ht
/-- the dict of the store, as the library has it -/
theorem dict_view (I : Inv X pins σ H s) (k : CH X fa (hsOf X.w) ρ H st) {n : Nat} {a : Addr} {kvs : List (D × D)} (ea : ρ[n]? = some a) (e : TL.getD st n = some kvs) (kt : ∀ p ∈ kvs, isKeyT p.1 = true) :
    (a == sysModules) = false ∧ kvs.length ≤ sizeLine ∧ ∃ ts : List T3, ts.map T3.kv = kvs ∧ s.heap.DictOfH (nestedKind X.prog X.w) a (ts.map T3.x) ∧ (∀ t ∈ ts, T3ok X.w X.K fa ρ H t) ∧ (kvs.map (·.1)).Nodup ∧ (∀ p ∈ kvs, okk 8 p.1 = true) := by
  have main : ∀ (raw : List (Int × V × V)), RKs X.K fa (hsOf X.w) ρ H kvs raw → KvOk kvs → raw.length ≤ sizeLine → (∃ o es ep, s.heap.get? a = some o ∧ o.ExactDict ∧ o.data = .dict es ep ∧ Paired entR raw es.toList) →
      kvs.length ≤ sizeLine ∧ ∃ ts : List T3, ts.map T3.kv = kvs ∧ s.heap.DictOfH (nestedKind X.prog X.w) a (ts.map T3.x) ∧ (∀ t ∈ ts, T3ok X.w X.K fa ρ H t) ∧ (kvs.map (·.1)).Nodup ∧ (∀ p ∈ kvs, okk 8 p.1 = true) := fun raw rk ok hl ⟨o, es, ep, h1, h2, h3, h4⟩ => by
    obtain ⟨ts, e1, e2, e3, e4⟩ := triples I rk h4 ok.ok ok.one
    refine ⟨by rw [pairLen rk]; exact hl, ts, e1, ⟨o, es, ep, h1, h2, h3, e3.symm, fun x hx => ?_, ?_⟩, e4, ok.nd, ok.ok⟩
    · obtain ⟨t, ht, rfl⟩ := List.mem_map.mp hx
      have T := e4 t ht
      obtain ⟨b, b1, b2, b3⟩ := key_is I T.ok T.kt T.rk T.uk
      cases b2
      show (nestedKind X.prog X.w).is s.heap t.2.2.1 t.2.2.2.1
      rw [T.k]
      exact b3
    · have nd := ok.nd
      rw [← e1, List.map_map] at nd
      rw [List.map_map]
      have inj : ∀ (l : List T3), (∀ t ∈ l, T3ok X.w X.K fa ρ H t) → (l.map ((fun p : D × D => p.1) ∘ T3.kv)).Nodup → (l.map ((fun x : NestedKey × Addr × Value => x.1) ∘ T3.x)).Nodup := fun l => by
        induction l with
        | nil => intro _ _; exact List.nodup_nil
        | cons t l ih =>
          intro hall hn
          rw [List.map_cons, List.nodup_cons] at hn ⊢
          refine ⟨fun hm => hn.1 ?_, ih (fun u hu => hall u (List.mem_cons_of_mem _ hu)) hn.2⟩
          obtain ⟨u, hu, eu⟩ := List.mem_map.mp hm
          have T := hall t List.mem_cons_self
          have U := hall u (List.mem_cons_of_mem _ hu)
          refine List.mem_map.mpr ⟨u, hu, ?_⟩
          have eu' : u.2.2.1 = t.2.2.1 := eu
          rw [U.k, T.k] at eu'
          exact kof_inj 8 _ _ U.ok T.ok eu'
      exact inj ts e4 nd
  unfold TL.getD at e
  split at e
  · rename_i kv hn
    cases e
    rcases k.obj n _ a hn ea with ⟨kk, hd, pk, ne⟩ | ⟨raw, hd, rk, ok⟩
    · cases pk with
      | nil => exact absurd rfl ne
      | @cons p q l1 l2 h t =>
        have z := kt p List.mem_cons_self
        have z2 : keyOf p.1 = some q.1 := h.1
        cases hp1 : p.1 with
        | int i => rw [hp1] at z; cases z
        | _ => rw [hp1] at z2; cases z2
    · obtain ⟨h1, h2, h3⟩ := inv_dct I hd
      exact ⟨h1, main raw rk ok h2 h3⟩
  · rename_i kv hn
    cases e
    obtain ⟨raw, o, hd, rk, ok⟩ := k.obj n _ a hn ea
    obtain ⟨ho, x⟩ := I.hok a _ hd
    obtain ⟨⟨h1, h2, h3⟩, _⟩ := x
    exact ⟨h1, main raw rk ok h2 h3⟩
  · cases e
/-- what is found -/
theorem at_look {ts : List T3} {k : D} (hall : ∀ t ∈ ts, T3ok X.w X.K fa ρ H t) (ok : okk 8 k = true) : match lookD (ts.map T3.kv) k with
    | some d => ∃ p v, atKey (ts.map T3.x) (kof k) = some p ∧ RD X.K fa ρ H d v ∧ RelV v p.2
    | none => atKey (ts.map T3.x) (kof k) = none := by
  induction ts with
  | nil => exact rfl
  | cons t ts ih =>
    have T := hall t List.mem_cons_self
    have ih := ih fun u hu => hall u (List.mem_cons_of_mem _ hu)
    by_cases h : t.1.1 = k
    · have a1 : lookD ((t :: ts).map T3.kv) k = some t.1.2 := by
        unfold lookD
        rw [List.map_cons, List.find?_cons, decide_eq_true (show t.kv.1 = k from h)]
        rfl
      rw [a1]
      refine ⟨t.2.2.2, t.2.1.2.2, ?_, T.rv, T.uv⟩
      unfold atKey
      rw [List.map_cons, List.find?_cons, decide_eq_true (show t.x.1 = kof k by rw [← h]; exact T.k)]
      rfl
    · have a1 : lookD ((t :: ts).map T3.kv) k = lookD (ts.map T3.kv) k := by
        unfold lookD
        rw [List.map_cons, List.find?_cons, decide_eq_false (show ¬ t.kv.1 = k from h)]
      have a2 : atKey ((t :: ts).map T3.x) (kof k) = atKey (ts.map T3.x) (kof k) := by
        unfold atKey
        rw [List.map_cons, List.find?_cons, decide_eq_false (show ¬ t.x.1 = kof k from fun z => h (kof_inj 8 _ _ T.ok ok (T.k.symm.trans z)))]
      rw [a1, a2]
      exact ih
theorem look_has {kvs : List (D × D)} {k : D} : hasD kvs k = (lookD kvs k).isSome := by
  unfold hasD lookD
  induction kvs with
  | nil => rfl
  | cons p kvs ih =>
    rw [List.any_cons, List.find?_cons]
    by_cases h : p.1 = k
    · rw [decide_eq_true h]; rfl
    · rw [decide_eq_false h, Bool.false_or]; exact ih
end
end TL

/-! Dicts: what is asked of them, what is put into them. -/
namespace TL
open PySem PySem.Spec PyProof.Rows L2
theorem keyOf_int {k : D} {q : Key} (h : keyOf k = some q) : ∃ i, k = .int i ∧ q = .inl i := by
  cases k with
  | int i => cases h; exact ⟨i, rfl, rfl⟩
  | _ => cases h
/-- a key: a whole number, or a tuple -/
theorem keyFor_cases {kvs : List (D × D)} {k : D} (h : keyFor kvs k = true) : okk 8 k = true ∧ ((∃ i, k = .int i) ∨ isKeyT k = true) := by
  unfold keyFor at h
  rw [Bool.and_eq_true, Bool.and_eq_true] at h
  refine ⟨h.1.1, ?_⟩
  cases k with
  | int i => exact .inl ⟨i, rfl⟩
  | tup xs => exact .inr rfl
  | _ => cases h.1.1
theorem keyFor_head {p : D × D} {kvs : List (D × D)} {k : D} (h : keyFor (p :: kvs) k = true) : isKeyT p.1 = isKeyT k := by
  unfold keyFor at h
  rw [Bool.and_eq_true] at h
  exact eq_of_beq h.2
section
variable {K : PySem.W.Frag} {fa : Nat → Option Addr} {hs : D → Int} {ρ : List Addr} {H : Hp}
theorem PKs.look {i : Int} : ∀ {kvs : List (D × D)} {kk : List (Key × V)}, PKs K fa ρ H kvs kk → match lookD kvs (.int i) with
    | some d => ∃ v, valV kk (Sum.inl i : Key) = some v ∧ RD K fa ρ H d v
    | none => valV kk (Sum.inl i : Key) = none
  | _, _, .nil => rfl
  | _, _, .cons (a := p) (b := q) (l₁ := kvs) (l₂ := kk) ⟨h1, h2⟩ t => by
    obtain ⟨j, e1, e2⟩ := keyOf_int h1
    by_cases hij : j = i
    · have a1 : lookD (p :: kvs) (.int i) = some p.2 := by
        unfold lookD
        rw [List.find?_cons, decide_eq_true (show p.1 = .int i by rw [e1, hij])]
        rfl
      rw [a1]
      exact ⟨q.2, valV_pos (by rw [e2, hij]), h2⟩
    · have a1 : lookD (p :: kvs) (.int i) = lookD kvs (.int i) := by
        unfold lookD
        rw [List.find?_cons, decide_eq_false (show ¬ p.1 = .int i by rw [e1]; intro z; injection z with z; exact hij z)]
      have a2 : valV (q :: kk) (Sum.inl i : Key) = valV kk (Sum.inl i) := valV_neg (by rw [e2]; intro z; injection z with z; exact hij z)
      rw [a1, a2]
      exact PKs.look t
theorem PKs.has {i : Int} : ∀ {kvs : List (D × D)} {kk : List (Key × V)}, PKs K fa ρ H kvs kk → hasD kvs (.int i) = kk.any fun kv => decide (kv.1 = (Sum.inl i : Key))
  | _, _, .nil => rfl
  | _, _, .cons (a := p) (b := q) (l₁ := kvs) (l₂ := kk) ⟨h1, h2⟩ t => by
    obtain ⟨j, e1, e2⟩ := keyOf_int h1
    have ih := PKs.has (i := i) t
    unfold hasD at ih ⊢
    rw [List.any_cons, List.any_cons, ih]
    congr 1
    rw [e1, e2]
    by_cases hij : j = i
    · rw [decide_eq_true (by rw [hij]), decide_eq_true (by rw [hij])]
    · rw [decide_eq_false (fun z => hij (by injection z)), decide_eq_false (fun z => hij (by injection z))]
theorem PKs.mapd {i : Int} {d : D} {v : V} (r : RD K fa ρ H d v) : ∀ {kvs : List (D × D)} {kk : List (Key × V)}, PKs K fa ρ H kvs kk → PKs K fa ρ H (kvs.map fun p => if p.1 = .int i then (p.1, d) else p) (kk.map fun kv => if kv.1 = (Sum.inl i : Key) then (kv.1, v) else kv)
  | _, _, .nil => .nil
  | _, _, .cons (a := p) (b := q) (l₁ := kvs) (l₂ := kk) ⟨h1, h2⟩ t => by
    obtain ⟨j, e1, e2⟩ := keyOf_int h1
    refine Paired.cons ?_ (PKs.mapd r t)
    dsimp only
    by_cases hij : j = i
    · rw [if_pos (show p.1 = .int i by rw [e1, hij]), if_pos (show q.1 = (Sum.inl i : Key) by rw [e2, hij])]
      exact ⟨h1, r⟩
    · rw [if_neg (show ¬ p.1 = .int i by rw [e1]; intro z; injection z with z; exact hij z), if_neg (show ¬ q.1 = (Sum.inl i : Key) by rw [e2]; intro z; injection z with z; exact hij z)]
      exact ⟨h1, h2⟩
theorem PKs.snoc {i : Int} {d : D} {v : V} (r : RD K fa ρ H d v) : ∀ {kvs : List (D × D)} {kk : List (Key × V)}, PKs K fa ρ H kvs kk → PKs K fa ρ H (kvs ++ [(.int i, d)]) (kk ++ [((Sum.inl i : Key), v)])
  | _, _, .nil => .cons ⟨rfl, r⟩ .nil
  | _, _, .cons h t => .cons h (PKs.snoc r t)
theorem PKs.put {i : Int} {d : D} {v : V} (r : RD K fa ρ H d v) {kvs : List (D × D)} {kk : List (Key × V)} (h : PKs K fa ρ H kvs kk) : PKs K fa ρ H (putD kvs (.int i) d) (putK kk (Sum.inl i : Key) v) := by
  unfold putD putK
  rw [PKs.has (i := i) h]
  by_cases c : (kk.any fun kv => decide (kv.1 = (Sum.inl i : Key))) = true
  · rw [if_pos c, if_pos c]
    exact PKs.mapd r h
  · rw [if_neg c, if_neg c]
    exact PKs.snoc r h
theorem PKs.len : ∀ {kvs : List (D × D)} {kk : List (Key × V)}, PKs K fa ρ H kvs kk → kvs.length = kk.length
  | _, _, .nil => rfl
  | _, _, .cons _ t => congrArg (· + 1) (PKs.len t)
theorem putD_ne {kvs : List (D × D)} {k v : D} : putD kvs k v ≠ [] := by
  unfold putD
  split
  · rename_i h
    intro z
    have : kvs = [] := List.map_eq_nil_iff.mp z
    rw [this] at h
    cases h
  · simp
/-- no whole number among them -/
theorem pks_notT {kvs : List (D × D)} {kk : List (Key × V)} (pk : PKs K fa ρ H kvs kk) (ne : kvs ≠ []) (kt : ∀ p ∈ kvs, isKeyT p.1 = true) : False := by
  cases pk with
  | nil => exact ne rfl
  | @cons p q l1 l2 h t =>
    have z := kt p List.mem_cons_self
    have z2 : keyOf p.1 = some q.1 := h.1
    cases hp1 : p.1 with
    | int i => rw [hp1] at z; cases z
    | _ => rw [hp1] at z2; cases z2
end
section
variable {X : Cx} {fa : Nat → Option Addr} {ρ : List Addr} {H : Hp} {st : Sto} {pins : List (Addr × Obj)} {σ : L2.St} {s : Shared}
abbrev CHs (X : Cx) (fa : Nat → Option Addr) := CH X fa (hsOf X.w)
abbrev CDs (X : Cx) (fa : Nat → Option Addr) := CD X fa (hsOf X.w)
/-- a tuple may be asked: all keys are tuples -/
theorem allT_of (h : CHs X fa ρ H st) {n : Nat} {a : Addr} {kvs : List (D × D)} {k : D} (ea : ρ[n]? = some a) (e : TL.getD st n = some kvs) (kf : keyFor kvs k = true) (kt : isKeyT k = true) : ∀ p ∈ kvs, isKeyT p.1 = true := by
  unfold TL.getD at e
  split at e
  · rename_i kv hn
    cases e
    rcases h.obj n _ a hn ea with ⟨kk, hd, pk, ne⟩ | ⟨raw, hd, rk, ok⟩
    · cases pk with
      | nil => exact absurd rfl ne
      | @cons p q l1 l2 hh t =>
        have z := keyFor_head kf
        rw [kt] at z
        have z2 : keyOf p.1 = some q.1 := hh.1
        cases hp1 : p.1 with
        | int i => rw [hp1] at z; cases z
        | _ => rw [hp1] at z2; cases z2
    · exact ok.one
  · rename_i kv hn
    cases e
    obtain ⟨raw, o, hd, rk, ok⟩ := h.obj n _ a hn ea
    exact ok.one
  · cases e
theorem keysOf_nil {P : Program} {w : World} {h : Heap} {a : Addr} {o : Obj} {es : Array DictEntry} {ep : Nat} (h1 : h.get? a = some o) (h2 : o.ExactDict) (h3 : o.data = .dict es ep) (h4 : es.toList = []) : h.DictOf (mixKind P w) a [] := by
  have e : es = #[] := by
    apply Array.toList_inj.mp
    rw [h4]
  subst e
  exact ⟨o, #[], ep, h1, h2, h3, fun e he => by simp at he, .nil, List.nodup_nil⟩
/-- a whole number may be asked: the dict by its plain kind -/
theorem plain_view (I : Inv X pins σ H s) (h : CHs X fa ρ H st) {n : Nat} {a : Addr} {kvs : List (D × D)} {i : Int} (ea : ρ[n]? = some a) (e : TL.getD st n = some kvs) (kf : keyFor kvs (.int i) = true) :
    (a == sysModules) = false ∧ kvs.length ≤ sizeLine ∧ ∃ kk vs, PKs X.K fa ρ H kvs kk ∧ KV kk vs ∧ s.heap.DictOf (mixKind X.prog X.w) a vs := by
  have nil_of : ∀ {raw : List (Int × V × V)}, RKs X.K fa (hsOf X.w) ρ H kvs raw → KvOk kvs → kvs = [] ∧ raw = [] := fun {raw} rk ok => by
    cases rk with
    | nil => exact ⟨rfl, rfl⟩
    | @cons p r l1 l2 hh t =>
      have z := keyFor_head kf
      have z2 := ok.one p List.mem_cons_self
      rw [z2] at z
      cases z
  unfold TL.getD at e
  split at e
  · rename_i kv hn
    cases e
    rcases h.obj n _ a hn ea with ⟨kk, hd, pk, ne⟩ | ⟨raw, hd, rk, ok⟩
    · obtain ⟨z, hd', vs, rel, dd⟩ := dk_of I.hok hd
      exact ⟨hd', by rw [pk.len]; exact z, kk, vs, pk, rel, dd⟩
    · obtain ⟨rfl, rfl⟩ := nil_of rk ok
      obtain ⟨h1, h2, o, es, ep, g1, g2, g3, g4⟩ := inv_dct I hd
      refine ⟨h1, Nat.zero_le _, [], [], .nil, .nil, keysOf_nil g1 g2 g3 ?_⟩
      cases hl : es.toList with
      | nil => rfl
      | cons x l => rw [hl] at g4; cases g4
  · rename_i kv hn
    cases e
    obtain ⟨raw, o0, hd, rk, ok⟩ := h.obj n _ a hn ea
    obtain ⟨rfl, rfl⟩ := nil_of rk ok
    obtain ⟨ho, x⟩ := I.hok a _ hd
    obtain ⟨⟨h1, h2, o, es, ep, g1, g2, g3, g4⟩, _⟩ := x
    refine ⟨h1, Nat.zero_le _, [], [], .nil, .nil, keysOf_nil g1 g2 g3 ?_⟩
    cases hl : es.toList with
    | nil => rfl
    | cons x l => rw [hl] at g4; cases g4
  · cases e
theorem room8 {A : Around} (hu : A.units + 65 < cLine) : (nestedKind X.prog X.w).room A.in1 := by
  show A.units + 1 + 8 < cLine
  omega
/-! ### d[k] -/
def rIxS (X : Cx) (fa : Nat → Option Addr) : R2 := fun x y H Q => ∃ ρ st n i kvs d, CHs X fa ρ H st ∧ CDs X fa ρ H (.ref n) x ∧ CDs X fa ρ H i y ∧ TL.getD st n = some kvs ∧ keyFor kvs i = true ∧ lookD kvs i = some d ∧ Then (cx X fa (hsOf X.w)) ρ H d st Q
theorem ix_S (hu : X.A.units + 65 < cLine) : IxR X (rIxS X fa) := by
  intro value slice pins s σ H x y v u Q I rx ry ⟨ρ, st, n, i, kvs, d, h, r1, r2, e, kf, lk, q⟩ hsub
  obtain ⟨a, ea, rfl⟩ := r1
  obtain rfl : v = Value.ref a := rx
  rcases keyFor_cases kf with ⟨ok, ⟨j, rfl⟩ | kt⟩
  · obtain ⟨h1, _, kk, vs, pk, rel, dd⟩ := plain_view I h ea e kf
    have z := PKs.look (i := j) pk
    rw [lk] at z
    obtain ⟨w1, hw1, rw1⟩ := z
    have r := rel.val (Sum.inl j : Key)
    rw [hw1] at r
    cases hv : valueAt vs (Sum.inl j : Key) with
    | none => rw [hv] at r; exact r.elim
    | some w2 =>
      rw [hv] at r
      cases r2
      exact tail_any dd.typeIs slot_dict_getitem.lookup (wpAny_getItem_of (kV_is (k := Sum.inl j) ry) dd.mapOf hv ⟨w1, H, I.tok _, r, q.here h rw1⟩) hsub
  · obtain ⟨h1, hz, ts, e1, dd, hall, nd, oks⟩ := dict_view I h ea e (allT_of h ea e kf kt)
    obtain ⟨b, rfl, rfl, kis⟩ := key_is I ok kt r2 ry
    have z := at_look (k := i) hall ok
    rw [e1, lk] at z
    obtain ⟨p, w1, hp, rw1, rv1⟩ := z
    exact tail_any dd.typeIs slot_dict_getitem.lookup (wpAny_getItem_heap (room8 hu) kis dd hp ⟨w1, H, I.tok _, rv1, q.here h rw1⟩) hsub
theorem ixMoreS (hu : X.A.units + 65 < cLine) : IxMore X fa (hsOf X.w) (rIxS X fa) where
  op := ix_S hu
  ans := fun {ρ H st n i d kvs vx vi Q} h rx ri e kf lk q => ⟨ρ, st, n, i, kvs, d, h, rx, ri, e, kf, lk, q⟩
/-! ### k in d -/
def rInS (X : Cx) (fa : Nat → Option Addr) (neg : Bool) : R2 := fun x y H Q => ∃ ρ st n k kvs, CHs X fa ρ H st ∧ CDs X fa ρ H k x ∧ CDs X fa ρ H (.ref n) y ∧ TL.getD st n = some kvs ∧ keyFor kvs k = true ∧ isKeyT k = true ∧ Q (.bl (if neg = true then !hasD kvs k else hasD kvs k)) H
theorem op_inS (hu : X.A.units + 65 < cLine) : OpR X (compareOp .In) (rInS X fa false) := by
  intro pins s σ H x y v u Q I rx ry ⟨ρ, st, n, k, kvs, h, r1, r2, e, kf, kt, q⟩
  obtain ⟨a, ea, rfl⟩ := r2
  obtain rfl : u = Value.ref a := ry
  obtain ⟨ok, _⟩ := keyFor_cases kf
  obtain ⟨h1, hz, ts, e1, dd, hall, nd, oks⟩ := dict_view I h ea e (allT_of h ea e kf kt)
  obtain ⟨b, rfl, rfl, kis⟩ := key_is I ok kt r1 rx
  have z := at_look (k := k) hall ok
  rw [e1] at z
  refine wpAny_in_heap (room8 hu) kis h1 dd ⟨.bl (hasD kvs k), H, I.tok _, ?_, q⟩
  show Value.bool _ = Value.bool _
  congr 1
  rw [look_has]
  cases hl : lookD kvs k with
  | none => rw [hl] at z; rw [z]; rfl
  | some d => rw [hl] at z; obtain ⟨p, w1, hp, _⟩ := z; rw [hp]; rfl
theorem op_ninS (hu : X.A.units + 65 < cLine) : OpR X (compareOp .NotIn) (rInS X fa true) := by
  intro pins s σ H x y v u Q I rx ry ⟨ρ, st, n, k, kvs, h, r1, r2, e, kf, kt, q⟩
  obtain ⟨a, ea, rfl⟩ := r2
  obtain rfl : u = Value.ref a := ry
  obtain ⟨ok, _⟩ := keyFor_cases kf
  obtain ⟨h1, hz, ts, e1, dd, hall, nd, oks⟩ := dict_view I h ea e (allT_of h ea e kf kt)
  obtain ⟨b, rfl, rfl, kis⟩ := key_is I ok kt r1 rx
  have z := at_look (k := k) hall ok
  rw [e1] at z
  show wpAny _ _ (do return Value.bool (!(← contains (.ref a) (.ref b))) : Sem Value) _ _ s
  refine wpAny_bind (wpAny_contains_heap (room8 hu) kis h1 dd (wpAny_pure ⟨.bl (!hasD kvs k), H, I.tok _, ?_, q⟩))
  show Value.bool _ = Value.bool _
  congr 2
  rw [look_has]
  cases hl : lookD kvs k with
  | none => rw [hl] at z; rw [z]; rfl
  | some d => rw [hl] at z; obtain ⟨p, w1, hp, _⟩ := z; rw [hp]; rfl
/-! ### d[k] = v -/
def putT (ts : List T3) (t : T3) : List T3 := if (ts.any fun u => decide (u.1.1 = t.1.1)) = true then ts.map (fun u => if u.1.1 = t.1.1 then ((u.1.1, t.1.2), (u.2.1.1, u.2.1.2.1, t.2.1.2.2), (u.2.2.1, u.2.2.2.1, t.2.2.2.2)) else u) else ts ++ [t]
theorem putT_kv {ts : List T3} {t : T3} : (putT ts t).map T3.kv = putD (ts.map T3.kv) t.1.1 t.1.2 := by
  have e : (ts.any fun u => decide (u.1.1 = t.1.1)) = hasD (ts.map T3.kv) t.1.1 := by
    unfold hasD
    rw [List.any_map]
    rfl
  unfold putT putD
  rw [e]
  split
  · rw [List.map_map, List.map_map]
    refine List.map_congr_left fun u _ => ?_
    show T3.kv (if u.1.1 = t.1.1 then _ else u) = if u.kv.1 = t.1.1 then (u.kv.1, t.1.2) else u.kv
    by_cases h : u.1.1 = t.1.1
    · rw [if_pos h, if_pos (show u.kv.1 = t.1.1 from h)]; rfl
    · rw [if_neg h, if_neg (show ¬ u.kv.1 = t.1.1 from h)]
  · rw [List.map_append]; rfl
theorem putT_x {ts : List T3} {t : T3} (hall : ∀ u ∈ ts, T3ok X.w X.K fa ρ H u) (ok : okk 8 t.1.1 = true) (tk : t.2.2.1 = kof t.1.1) : (putT ts t).map T3.x = storedH (ts.map T3.x) (kof t.1.1) t.2.2.2.1 t.2.2.2.2 := by
  have e : (ts.any fun u => decide (u.1.1 = t.1.1)) = (atKey (ts.map T3.x) (kof t.1.1)).isSome := by
    have z := at_look (k := t.1.1) hall ok
    have e2 : (ts.any fun u => decide (u.1.1 = t.1.1)) = hasD (ts.map T3.kv) t.1.1 := by
      unfold hasD
      rw [List.any_map]
      rfl
    rw [e2, look_has]
    cases hl : lookD (ts.map T3.kv) t.1.1 with
    | none => rw [hl] at z; rw [z]; rfl
    | some d => rw [hl] at z; obtain ⟨p, _, hp, _⟩ := z; rw [hp]; rfl
  unfold putT storedH
  rw [e]
  split
  · rw [List.map_map, List.map_map]
    refine List.map_congr_left fun u hu => ?_
    have U := hall u hu
    show T3.x (if u.1.1 = t.1.1 then _ else u) = putAt (kof t.1.1) t.2.2.2.2 u.x
    unfold putAt
    by_cases h : u.1.1 = t.1.1
    · rw [if_pos h, if_pos (show u.x.1 = kof t.1.1 by rw [← h]; exact U.k)]; rfl
    · rw [if_neg h, if_neg (show ¬ u.x.1 = kof t.1.1 from fun z => h (kof_inj 8 _ _ U.ok ok (U.k.symm.trans z)))]
  · rw [List.map_append]
    show _ ++ [t.2.2] = _ ++ [(kof t.1.1, t.2.2.2.1, t.2.2.2.2)]
    rw [← tk]
theorem putT_ok {ts : List T3} {t : T3} (hall : ∀ u ∈ ts, T3ok X.w X.K fa ρ H u) (T : T3ok X.w X.K fa ρ H t) : ∀ u ∈ putT ts t, T3ok X.w X.K fa ρ H u := fun u hu => by
  unfold putT at hu
  split at hu
  · obtain ⟨v, hv, rfl⟩ := List.mem_map.mp hu
    have V' := hall v hv
    split
    · exact ⟨V'.ok, V'.kt, V'.h, V'.rk, T.rv, V'.k, V'.uk, T.uv⟩
    · exact V'
  · rcases List.mem_append.mp hu with hu | hu
    · exact hall u hu
    · rw [List.mem_singleton.mp hu]; exact T
theorem putD_nd {kvs : List (D × D)} {k v : D} (h : (kvs.map (·.1)).Nodup) : ((putD kvs k v).map (·.1)).Nodup := by
  unfold putD
  split
  · have e : (kvs.map fun p => if p.1 = k then (p.1, v) else p).map (·.1) = kvs.map (·.1) := by
      rw [List.map_map]
      refine List.map_congr_left fun p _ => ?_
      show (if p.1 = k then (p.1, v) else p).1 = p.1
      split <;> rfl
    rw [e]
    exact h
  · rename_i hh
    rw [List.map_append]
    refine List.nodup_append.mpr ⟨h, List.nodup_cons.mpr ⟨by simp, List.nodup_nil⟩, fun x hx y hy z => ?_⟩
    have hy' : y = k := List.mem_singleton.mp hy
    obtain ⟨p, hp, ep⟩ := List.mem_map.mp hx
    exact hh (List.any_eq_true.mpr ⟨p, hp, decide_eq_true (ep.trans (z.trans hy'))⟩)
theorem putD_mem {kvs : List (D × D)} {k v : D} {p : D × D} (h : p ∈ putD kvs k v) : (∃ q ∈ kvs, q.1 = p.1) ∨ p.1 = k := by
  unfold putD at h
  split at h
  · obtain ⟨q, hq, rfl⟩ := List.mem_map.mp h
    refine .inl ⟨q, hq, ?_⟩
    split <;> rfl
  · rcases List.mem_append.mp h with h | h
    · exact .inl ⟨p, h, rfl⟩
    · rw [List.mem_singleton.mp h]; exact .inr rfl
theorem putD_len2 {kvs : List (D × D)} {k v : D} : (putD kvs k v).length ≤ kvs.length + 1 := by
  unfold putD
  split
  · rw [List.length_map]; omega
  · rw [List.length_append]; exact Nat.le_refl _
theorem dHO_new {P : Program} {w : World} {H' : Hp} {h' : Heap} {a : Addr} {raw : List (Int × V × V)} {o : Obj} {es : Array DictEntry} {ep : Nat} (h1 : (a == sysModules) = false) (h2 : raw.length ≤ sizeLine) (g1 : h'.get? a = some o) (g2 : o.ExactDict) (g3 : o.data = .dict es ep) (g4 : Paired entR raw es.toList) :
    ObjOk P w H' h' a (dHO a raw) :=
  ⟨⟨h1, h2, o, es, ep, g1, g2, g3, g4⟩, ⟨o, g1⟩, fun _ k1 ⟨a1, a2, o1, es1, ep1, b1, b2, b3, b4⟩ kp => ⟨a1, a2, o1, es1, ep1, kp o1 b1, b2, b3, b4⟩⟩
/-- what stands behind a write -/
structure Wrote (X : Cx) (fa : Nat → Option Addr) (ρ : List Addr) (H : Hp) (st : Sto) (n : Nat) (a : Addr) (kvs : List (D × D)) (k d : D) (pins : List (Addr × Obj)) (σ : L2.St) (H' : Hp) (s' : Shared) : Prop where
  inv : Inv X pins σ H' s'
  gr : Gr X.K ρ H ρ H'
  ch : CHs X fa ρ H' (st.set n (.dct (putD kvs k d)))
theorem rks_of {ts : List T3} (hall : ∀ t ∈ ts, T3ok X.w X.K fa ρ H t) : RKs X.K fa (hsOf X.w) ρ H (ts.map T3.kv) (ts.map T3.raw) := by
  induction ts with
  | nil => exact .nil
  | cons t ts ih =>
    have T := hall t List.mem_cons_self
    exact .cons ⟨T.h, T.rk, T.rv⟩ (ih fun u hu => hall u (List.mem_cons_of_mem _ hu))
theorem ents_of {ts : List T3} (hall : ∀ t ∈ ts, T3ok X.w X.K fa ρ H t) : Paired entR (ts.map T3.raw) ((ts.map T3.x).map (entryOfKey (nestedKind X.prog X.w))) := by
  induction ts with
  | nil => exact .nil
  | cons t ts ih =>
    have T := hall t List.mem_cons_self
    refine .cons ⟨?_, T.uk, T.uv⟩ (ih fun u hu => hall u (List.mem_cons_of_mem _ hu))
    show (nestedKind X.prog X.w).hash t.2.2.1 = t.2.1.1
    rw [T.h, T.k]
    rfl
theorem wrote_T (I : Inv X pins σ H s) (h : CHs X fa ρ H st) {n : Nat} {a b : Addr} {kvs : List (D × D)} {k d : D} {vd : V} {u : Value} {ts : List T3} {h' : Heap} {tk : Nat} (ea : ρ[n]? = some a) (hn : st[n]? = some (.dct kvs)) (ok : okk 8 k = true) (kt : isKeyT k = true) (hl : kvs.length < LIM)
    (e1 : ts.map T3.kv = kvs) (h1 : (a == sysModules) = false) (hall : ∀ t ∈ ts, T3ok X.w X.K fa ρ H t) (nd : (kvs.map (·.1)).Nodup) (oks : ∀ p ∈ kvs, okk 8 p.1 = true) (kts : ∀ p ∈ kvs, isKeyT p.1 = true) (rk : RD X.K fa ρ H k (.ref b)) (rd : RD X.K fa ρ H d vd) (ru : RelV vd u)
    (dd : h'.DictOfH (nestedKind X.prog X.w) a (storedH (ts.map T3.x) (kof k) b u)) (sb : Heap.SameBut a s.heap h') : ∃ H', Wrote X fa ρ H st n a kvs k d pins σ H' { s with heap := h', toks := tk } := by
  have T : T3ok X.w X.K fa ρ H ((k, d), (hsOf X.w k, .ref b, vd), (kof k, b, u)) := ⟨ok, kt, rfl, rk, rd, rfl, rfl, ru⟩
  have hall' := putT_ok hall T
  have ex := putT_x (t := ((k, d), (hsOf X.w k, .ref b, vd), (kof k, b, u))) hall ok rfl
  have ekv := putT_kv (ts := ts) (t := ((k, d), (hsOf X.w k, .ref b, vd), (kof k, b, u)))
  rw [e1] at ekv
  generalize putT ts ((k, d), (hsOf X.w k, .ref b, vd), (kof k, b, u)) = us at hall' ex ekv
  have dd' : h'.DictOfH (nestedKind X.prog X.w) a (us.map T3.x) := by rw [ex]; exact dd
  obtain ⟨o, es, ep, g1, g2, g3, g4, g5, g6⟩ := dd'
  have kl : us.length ≤ sizeLine := by
    have z := congrArg List.length ekv
    rw [List.length_map] at z
    have z2 : (putD kvs k d).length ≤ kvs.length + 1 := putD_len2
    have z3 : us.length = (putD kvs k d).length := z
    rw [sizeLIM]
    omega
  have new : ∀ H2 : Hp, ObjOk X.prog X.w H2 h' a (dHO a (us.map T3.raw)) := fun H2 => dHO_new h1 (by rw [List.length_map]; exact kl) g1 g2 g3 (by rw [g4]; exact ents_of hall')
  have kvok : KvOk (putD kvs k d) := ⟨fun p hp => by
      rcases putD_mem hp with ⟨q, hq, e⟩ | e
      · rw [← e]; exact oks q hq
      · rw [e]; exact ok, putD_nd nd, fun p hp => by
      rcases putD_mem hp with ⟨q, hq, e⟩ | e
      · rw [← e]; exact kts q hq
      · rw [e]; exact kt⟩
  have main : ∀ u0 : HO, H a = some u0 → Mut (some u0) → (∀ xs, u0 ≠ .tup xs) → (∀ o w, u0 ≠ .frz o w) → ∃ H', Wrote X fa ρ H st n a kvs k d pins σ H' { s with heap := h', toks := tk } := fun u0 hu0 mu nt nf => by
    have g : Gr X.K ρ H ρ (upd H a (dHO a (us.map T3.raw))) := Gr.write hu0 nt nf
    refine ⟨upd H a (dHO a (us.map T3.raw)), I.write (e := a) (t' := tk) (by rw [hu0]; exact mu) (.inl rfl) (fun c w hc hw => (sb.2 c hc).trans hw) ⟨o, g1⟩ (new _), g, ?_⟩
    refine RH.write h hn ea rfl rfl hu0 nt (fun o xs z => nf _ _ z) (fun o xs z => nf _ _ z) (.inr ⟨us.map T3.raw, upd_same, ?_, kvok⟩)
    rw [← ekv]
    exact RKs.mono g (rks_of hall')
  rcases h.obj n _ a hn ea with ⟨kk, hd, pk, ne⟩ | ⟨raw, hd, rk', ok'⟩
  · exact (pks_notT pk ne kts).elim
  · exact main _ hd True.intro (fun _ z => nomatch z) fun _ _ z => nomatch z
theorem wrote_I (I : Inv X pins σ H s) (h : CHs X fa ρ H st) {n : Nat} {a : Addr} {kvs : List (D × D)} {i : Int} {d : D} {vd : V} {u : Value} {kk : List (Key × V)} {vs : List (Key × Value)} {h' : Heap} {tk : Nat} (ea : ρ[n]? = some a) (hn : st[n]? = some (.dct kvs)) (hl : kvs.length < LIM)
    (h1 : (a == sysModules) = false) (pk : PKs X.K fa ρ H kvs kk) (rel : KV kk vs) (rd : RD X.K fa ρ H d vd) (ru : RelV vd u)
    (dd : h'.DictOf (mixKind X.prog X.w) a (stored vs (Sum.inl i : Key) u)) (sb : Heap.SameBut a s.heap h') : ∃ H', Wrote X fa ρ H st n a kvs (.int i) d pins σ H' { s with heap := h', toks := tk } := by
  have hl2 : (putK kk (Sum.inl i : Key) vd).length ≤ sizeLine := by
    have := length_putK kk (Sum.inl i : Key) vd
    have e := pk.len
    rw [sizeLIM]
    omega
  have he : ∃ q, h'.get? a = some q := let ⟨q, _, _, hq, _⟩ := dd; ⟨q, hq⟩
  have main : ∀ u0 : HO, H a = some u0 → Mut (some u0) → (∀ xs, u0 ≠ .tup xs) → (∀ o w, u0 ≠ .frz o w) → ∃ H', Wrote X fa ρ H st n a kvs (.int i) d pins σ H' { s with heap := h', toks := tk } := fun u0 hu0 mu nt nf => by
    have g : Gr X.K ρ H ρ (upd H a (.dK (putK kk (Sum.inl i : Key) vd))) := Gr.write hu0 nt nf
    refine ⟨upd H a (.dK (putK kk (Sum.inl i : Key) vd)), I.write (e := a) (t' := tk) (by rw [hu0]; exact mu) (.inl rfl) (fun c w hc hw => (sb.2 c hc).trans hw) he (dk_new hl2 h1 (rel.put _ ru) dd), g, ?_⟩
    exact RH.write h hn ea rfl rfl hu0 nt (fun o xs z => nf _ _ z) (fun o xs z => nf _ _ z) (.inl ⟨_, upd_same, PKs.put (rd.mono g) (PKs.monoT g.pre g.tup pk), putD_ne⟩)
  rcases h.obj n _ a hn ea with ⟨kk', hd, _, _⟩ | ⟨raw, hd, _, _⟩
  · exact main _ hd True.intro (fun _ z => nomatch z) fun _ _ z => nomatch z
  · exact main _ hd True.intro (fun _ z => nomatch z) fun _ _ z => nomatch z
def rSetS (X : Cx) (fa : Nat → Option Addr) : TSet := fun o i v H Q => ∃ ρ st n k d kvs, CHs X fa ρ H st ∧ CDs X fa ρ H (.ref n) o ∧ CDs X fa ρ H k i ∧ CDs X fa ρ H d v ∧ st[n]? = some (.dct kvs) ∧ keyFor kvs k = true ∧ kvs.length < LIM ∧
  ∀ H' ρ', Gr X.K ρ H ρ' H' → CHs X fa ρ' H' (st.set n (.dct (putD kvs k d))) → Q H'
theorem set_S (hu : X.A.units + 65 < cLine) : PSet X (rSetS X fa) := by
  intro pins s σ H o i v ov iv u Q I ro ri rv ⟨ρ, st, n, k, d, kvs, h, r1, r2, r3, hn, kf, hl, q⟩
  obtain ⟨a, ea, rfl⟩ := r1
  obtain rfl : ov = Value.ref a := ro
  have e : TL.getD st n = some kvs := by unfold TL.getD; rw [hn]
  rcases keyFor_cases kf with ⟨ok, ⟨j, rfl⟩ | kt⟩
  · obtain ⟨h1, hz, kk, vs, pk, rel, dd⟩ := plain_view I h ea e kf
    cases r2
    refine wpAny_setItem_pairs (hsz := by rw [← rel.length, ← pk.len]; exact hz) (kV_is (k := Sum.inl j) ri) dd fun h' dd' sb => ?_
    obtain ⟨H', W⟩ := wrote_I (tk := s.toks + 1) I h ea hn hl h1 pk rel r3 rv dd' sb
    exact ⟨H', W.inv, q H' ρ W.gr W.ch⟩
  · have kts := allT_of h ea e kf kt
    obtain ⟨h1, hz, ts, e1, dd, hall, nd, oks⟩ := dict_view I h ea e kts
    obtain ⟨b, rfl, rfl, kis⟩ := key_is I ok kt r2 ri
    have tl : (ts.map T3.x).length = kvs.length := by rw [List.length_map, ← e1, List.length_map]
    refine wpAny_setItem_heap (hsz := by rw [tl]; exact hz) (room8 hu) kis dd fun h' dd' sb => ?_
    obtain ⟨H', W⟩ := wrote_T (tk := s.toks + (nestedKind X.prog X.w).draws (kof k)) I h ea hn ok kt hl e1 h1 hall nd oks kts r2 r3 rv dd' sb
    exact ⟨H', W.inv, q H' ρ W.gr W.ch⟩
theorem setMoreS (hu : X.A.units + 65 < cLine) : SetMore X fa (hsOf X.w) (rSetS X fa) where
  op := set_S hu
  ans := fun {ρ H st n i d kvs vx vi vd Q} h rx ri rd hn kf hl q => ⟨ρ, st, n, i, d, kvs, h, rx, ri, rd, hn, kf, hl, q⟩
end
end TL

/-! Dicts: get, setdefault, displays. -/
namespace TL
open PySem PySem.Spec PyProof.Rows L2
section
variable {X : Cx} {fa : Nat → Option Addr} {ρ : List Addr} {H : Hp} {st st' : Sto} {pins : List (Addr × Obj)} {σ : L2.St} {s : Shared} {e f o : Expr} {apos cpos pos : Pos} {mo ma mf : Env → M D} {td ty tx : TE}
/-- a dict of the store -/
def IsDS (X : Cx) (fa : Nat → Option Addr) (x : V) (H : Hp) : Prop := ∃ ρ st n kvs, CHs X fa ρ H st ∧ CDs X fa ρ H (.ref n) x ∧ TL.getD st n = some kvs
theorem isDS_at (I : Inv X pins σ H s) {x : V} {v : Value} (r : RelV x v) (h : IsDS X fa x H) : ∃ a, x = .ref a ∧ v = .ref a ∧ s.TypeIs (.ref a) "dict" ∧ ∀ b, Value.ref a = .ref b → ∃ ob, s.heap.get? b = some ob ∧ ob.dict = none := by
  obtain ⟨ρ, st, n, kvs, k, rx, e⟩ := h
  obtain ⟨a, ea, rfl⟩ := rx
  obtain rfl : v = Value.ref a := r
  have fin : ∀ o : Obj, s.heap.get? a = some o → o.ExactDict → s.TypeIs (.ref a) "dict" ∧ ∀ b, Value.ref a = .ref b → ∃ ob, s.heap.get? b = some ob ∧ ob.dict = none := fun o h1 h2 => ⟨⟨o, h1, h2.1⟩, fun b q => by cases q; exact ⟨o, h1, h2.2.1⟩⟩
  refine ⟨a, rfl, rfl, ?_⟩
  unfold TL.getD at e
  split at e
  · rename_i kv hn
    rcases k.obj n _ a hn ea with ⟨kk, hd, pk, ne⟩ | ⟨raw, hd, rk, ok⟩
    · obtain ⟨t1, t2, _⟩ := isD_at I (.inl ⟨_, .inl hd⟩)
      exact ⟨t1, t2⟩
    · obtain ⟨h1, h2, o, es, ep, g1, g2, g3, g4⟩ := inv_dct I hd
      exact fin o g1 g2
  · rename_i kv hn
    obtain ⟨raw, o0, hd, rk, ok⟩ := k.obj n _ a hn ea
    obtain ⟨ho, x⟩ := I.hok a _ hd
    obtain ⟨⟨h1, h2, o, es, ep, g1, g2, g3, g4⟩, _⟩ := x
    exact fin o g1 g2
  · cases e
/-- a method's call by values -/
def MR2 (X : Cx) (id : String) (r : V → V → V → Hp → VK → Prop) : Prop := ∀ (pins : List (Addr × Obj)) (s : Shared) (σ : L2.St) (H : Hp) (x y z : V) (v u t : Value) (Q : VK), Inv X pins σ H s → RelV x v → RelV y u → RelV z t → r x y z H Q →
  wpAny (model X.prog X.w) X.A (call (.builtin id) [v, u, t]) (EP X pins σ Q) X.xe s
def tM2 (X : Cx) (fa : Nat → Option Addr) (r : V → V → V → Hp → VK → Prop) (td ty tx : TE) : TE := fun σ H Q => td σ H fun x H1 => IsDS X fa x H1 ∧ ty σ H1 fun y H2 => tx σ H2 fun z H3 => r x y z H3 Q
theorem pe_getS {r : V → V → V → Hp → VK → Prop} (mr : MR2 X "dict.get" r) (ho : PE X o td) (he : PE X e ty) (hf : PE X f tx) (m : M2 X o "get" apos e f cpos) : PE X (.Call (.Attribute o "get" apos) [e, f] [] cpos) (tM2 X fa r td ty tx) := by
  refine ⟨fun pins s σ H Q I h => ?_⟩
  refine wpAny_Call_method m.base m.few m.line PySem.F.plainAttrs_dict PySem.F.slot_dict_get PySem.F.type_dict_get (thn (ho.run pins s σ H _ I h) fun u s1 ⟨x, H1, I1, rx, ds, q1⟩ => ?_)
  obtain ⟨a, rfl, rfl, t1, t2⟩ := isDS_at I1 rx ds
  refine ⟨t1, t2, ?_⟩
  rw [m.trees]
  exact Calls.callWith_builtin rfl (Calls.evalArgs_plain (Calls.spliced_cons (thn (he.run pins s1 σ H1 _ I1 q1) fun iv s2 ⟨y, H2, I2, ry, q2⟩ => Calls.spliced_cons (thn (hf.run pins s2 σ H2 _ I2 q2) fun fv s3 ⟨z, H3, I3, rz, q3⟩ => Calls.spliced_nil (mr pins s3 σ H3 _ y z _ iv fv Q I3 rx ry rz q3)))))
theorem pe_sdS {r : V → V → V → Hp → VK → Prop} (mr : MR2 X "dict.setdefault" r) (ho : PE X o td) (he : PE X e ty) (hf : PE X f tx) (m : M2 X o "setdefault" apos e f cpos) : PE X (.Call (.Attribute o "setdefault" apos) [e, f] [] cpos) (tM2 X fa r td ty tx) := by
  refine ⟨fun pins s σ H Q I h => ?_⟩
  refine wpAny_Call_method m.base m.few m.line PySem.F.plainAttrs_dict PySem.F.slot_dict_setdefault PySem.F.type_dict_setdefault (thn (ho.run pins s σ H _ I h) fun u s1 ⟨x, H1, I1, rx, ds, q1⟩ => ?_)
  obtain ⟨a, rfl, rfl, t1, t2⟩ := isDS_at I1 rx ds
  refine ⟨t1, t2, ?_⟩
  rw [m.trees]
  exact Calls.callWith_builtin rfl (Calls.evalArgs_plain (Calls.spliced_cons (thn (he.run pins s1 σ H1 _ I1 q1) fun iv s2 ⟨y, H2, I2, ry, q2⟩ => Calls.spliced_cons (thn (hf.run pins s2 σ H2 _ I2 q2) fun fv s3 ⟨z, H3, I3, rz, q3⟩ => Calls.spliced_nil (mr pins s3 σ H3 _ y z _ iv fv Q I3 rx ry rz q3)))))
def rGetS (X : Cx) (fa : Nat → Option Addr) : V → V → V → Hp → VK → Prop := fun x y z H Q => ∃ ρ st n k d kvs, CHs X fa ρ H st ∧ CDs X fa ρ H (.ref n) x ∧ CDs X fa ρ H k y ∧ CDs X fa ρ H d z ∧ TL.getD st n = some kvs ∧ keyFor kvs k = true ∧ Then (cx X fa (hsOf X.w)) ρ H ((lookD kvs k).getD d) st Q
theorem mr_get (hu : X.A.units + 65 < cLine) : MR2 X "dict.get" (rGetS X fa) := by
  intro pins s σ H x y z v u t Q I rx ry rz ⟨ρ, st, n, k, d, kvs, h, r1, r2, r3, e, kf, q⟩
  obtain ⟨a, ea, rfl⟩ := r1
  obtain rfl : v = Value.ref a := rx
  rcases keyFor_cases kf with ⟨ok, ⟨j, rfl⟩ | kt⟩
  · obtain ⟨h1, hz, kk, vs, pk, rel, dd⟩ := plain_view I h ea e kf
    cases r2
    refine call_meetsIn PySem.F.slot_dict_get dd.typeIs PySem.F.entry_dict_get (PySem.F.args_dict_get_3 _ _ _) (meets_dict_get_default (mixKind X.prog X.w) a (kV_is (k := Sum.inl j) ry) h1 t) ⟨_, dd.mapOf, ?_⟩
    have zz := PKs.look (i := j) pk
    have r := rel.val (Sum.inl j : Key)
    cases hl : lookD kvs (.int j) with
    | none =>
      rw [hl] at zz q
      rw [zz] at r
      cases hv : valueAt vs (Sum.inl j : Key) with
      | some w2 => rw [hv] at r; exact r.elim
      | none => exact ⟨z, H, I.tok _, rz, q.here h r3⟩
    | some d0 =>
      rw [hl] at zz q
      obtain ⟨w1, hw1, rw1⟩ := zz
      rw [hw1] at r
      cases hv : valueAt vs (Sum.inl j : Key) with
      | none => rw [hv] at r; exact r.elim
      | some w2 =>
        rw [hv] at r
        exact ⟨w1, H, I.tok _, r, q.here h rw1⟩
  · obtain ⟨h1, hz, ts, e1, dd, hall, nd, oks⟩ := dict_view I h ea e (allT_of h ea e kf kt)
    obtain ⟨b, rfl, rfl, kis⟩ := key_is I ok kt r2 ry
    have zz := at_look (k := k) hall ok
    rw [e1] at zz
    refine call_meetsIn PySem.F.slot_dict_get dd.typeIs PySem.F.entry_dict_get (PySem.F.args_dict_get_3 _ _ _) (meetsH_dict_get_default (nestedKind X.prog X.w) a b h1 t) ⟨room8 hu, kof k, ts.map T3.x, kis, dd, ?_⟩
    cases hl : lookD kvs k with
    | none =>
      rw [hl] at zz q
      rw [zz]
      exact ⟨z, H, I.tok _, rz, q.here h r3⟩
    | some d0 =>
      rw [hl] at zz q
      obtain ⟨p, w1, hp, rw1, rv1⟩ := zz
      rw [hp]
      exact ⟨w1, H, I.tok _, rv1, q.here h rw1⟩
def rSdS (X : Cx) (fa : Nat → Option Addr) : V → V → V → Hp → VK → Prop := fun x y z H Q => ∃ ρ st n k d kvs, CHs X fa ρ H st ∧ CDs X fa ρ H (.ref n) x ∧ CDs X fa ρ H k y ∧ CDs X fa ρ H d z ∧ st[n]? = some (.dct kvs) ∧ keyFor kvs k = true ∧ isKeyT k = true ∧ kvs.length < LIM ∧
  match lookD kvs k with
  | some v => Then (cx X fa (hsOf X.w)) ρ H v st Q
  | none => ∀ H' ρ', Gr X.K ρ H ρ' H' → CHs X fa ρ' H' (st.set n (.dct (kvs ++ [(k, d)]))) → CDs X fa ρ' H' d z → Q z H'
theorem mr_sd (hu : X.A.units + 65 < cLine) : MR2 X "dict.setdefault" (rSdS X fa) := by
  intro pins s σ H x y z v u t Q I rx ry rz ⟨ρ, st, n, k, d, kvs, h, r1, r2, r3, hn, kf, kt, hl, q⟩
  obtain ⟨a, ea, rfl⟩ := r1
  obtain rfl : v = Value.ref a := rx
  have e : TL.getD st n = some kvs := by unfold TL.getD; rw [hn]
  have ok := (keyFor_cases kf).1
  have kts := allT_of h ea e kf kt
  obtain ⟨h1, hz, ts, e1, dd, hall, nd, oks⟩ := dict_view I h ea e kts
  obtain ⟨b, rfl, rfl, kis⟩ := key_is I ok kt r2 ry
  have tl : (ts.map T3.x).length = kvs.length := by rw [List.length_map, ← e1, List.length_map]
  have zz := at_look (k := k) hall ok
  rw [e1] at zz
  refine call_setdefault_heap (hsz := by rw [tl]; exact hz) (room8 hu) kis h1 dd (fun p hp => ?_) fun hnone h' dd' sb => ?_
  · cases hl2 : lookD kvs k with
    | none => rw [hl2] at zz; rw [zz] at hp; cases hp
    | some d0 =>
      rw [hl2] at zz q
      obtain ⟨p2, w1, hp2, rw1, rv1⟩ := zz
      rw [hp] at hp2
      cases hp2
      exact ⟨w1, H, I.tok _, rv1, q.here h rw1⟩
  · cases hl2 : lookD kvs k with
    | some d0 =>
      rw [hl2] at zz
      obtain ⟨p2, w1, hp2, _⟩ := zz
      rw [hnone] at hp2
      cases hp2
    | none =>
      rw [hl2] at q
      obtain ⟨H', W⟩ := wrote_T (tk := s.toks + (nestedKind X.prog X.w).draws (kof k)) I h ea hn ok kt hl e1 h1 hall nd oks kts r2 r3 rz dd' sb
      have pe : putD kvs k d = kvs ++ [(k, d)] := by
        unfold putD
        rw [look_has, hl2]
        rfl
      have ch := W.ch
      rw [pe] at ch
      exact ⟨z, H', W.inv, rz, q H' ρ W.gr ch (r3.mono W.gr)⟩
/-! ### the evaluator's methods -/
def m2M (k : Me) (mo ma mf : Env → M D) : Env → M D := fun σ => M.bind (mo σ) fun x => M.bind (M.rd fun st => mchk st k x) fun _ => M.bind (ma σ) fun y => M.bind (mf σ) fun z => method k x [y, z]
theorem de_getS (hu : X.A.units + 65 < cLine) (ho : DE X fa (hsOf X.w) o mo) (he : DE X fa (hsOf X.w) e ma) (hf : DE X fa (hsOf X.w) f mf) (M : M2 X o "get" apos e f cpos) : DE X fa (hsOf X.w) (.Call (.Attribute o "get" apos) [e, f] [] cpos) (m2M .get mo ma mf) :=
  (pe_getS (mr_get (fa := fa) hu) ho he hf M).imp fun σ H Q ⟨σd, ρ, st, d, st', h1, h2, h3, q⟩ => by
    obtain ⟨x, st1, e1, h3⟩ := bindS h3
    obtain ⟨u, st2, e2, h3⟩ := bindS h3
    obtain ⟨f2, rfl⟩ := rdS e2
    obtain ⟨k, st3, e3, h3⟩ := bindS h3
    obtain ⟨z, st4, e4, h3⟩ := bindS h3
    refine .mk h1 h2 e1 fun v H1 ρ1 g1 k1 r1 => ?_
    cases x with
    | ref n =>
      have f2' : (TL.getD st1 n).map (fun _ => ()) = some u := f2
      cases hg : TL.getD st1 n with
      | none => rw [hg] at f2'; cases f2'
      | some kvs0 =>
        refine ⟨⟨ρ1, st1, n, kvs0, k1, r1, hg⟩, .mk (h1.mono g1) k1 e3 fun vk H2 ρ2 g2 k2 r2 => .mk ((h1.mono g1).mono g2) k2 e4 fun vz H3 ρ3 g3 k3 r3 => ?_⟩
        have h4 : TL.M.rd (fun st => match TL.getD st n with
          | some kvs => if keyFor kvs k then some ((lookD kvs k).getD z) else none
          | none => none) st4 = some (d, st') := h3
        obtain ⟨f5, rfl⟩ := rdS h4
        split at f5
        · rename_i kvs hd
          split at f5
          · rename_i kf
            cases f5
            exact ⟨ρ3, st4, n, k, z, kvs, k3, r1.mono (g2.trans g3), r2.mono g3, r3, hd, kf, q.trans (g1.trans (g2.trans g3))⟩
          · cases f5
        · cases f5
    | _ => cases f2
theorem de_sdS (hu : X.A.units + 65 < cLine) (ho : DE X fa (hsOf X.w) o mo) (he : DE X fa (hsOf X.w) e ma) (hf : DE X fa (hsOf X.w) f mf) (M : M2 X o "setdefault" apos e f cpos) : DE X fa (hsOf X.w) (.Call (.Attribute o "setdefault" apos) [e, f] [] cpos) (m2M .setdefault mo ma mf) :=
  (pe_sdS (mr_sd (fa := fa) hu) ho he hf M).imp fun σ H Q ⟨σd, ρ, st, d, st', h1, h2, h3, q⟩ => by
    obtain ⟨x, st1, e1, h3⟩ := bindS h3
    obtain ⟨u, st2, e2, h3⟩ := bindS h3
    obtain ⟨f2, rfl⟩ := rdS e2
    obtain ⟨k, st3, e3, h3⟩ := bindS h3
    obtain ⟨z, st4, e4, h3⟩ := bindS h3
    refine .mk h1 h2 e1 fun v H1 ρ1 g1 k1 r1 => ?_
    cases x with
    | ref n =>
      have f2' : (TL.getD st1 n).map (fun _ => ()) = some u := f2
      cases hg : TL.getD st1 n with
      | none => rw [hg] at f2'; cases f2'
      | some kvs0 =>
        refine ⟨⟨ρ1, st1, n, kvs0, k1, r1, hg⟩, .mk (h1.mono g1) k1 e3 fun vk H2 ρ2 g2 k2 r2 => .mk ((h1.mono g1).mono g2) k2 e4 fun vz H3 ρ3 g3 k3 r3 => ?_⟩
        have h4 : (match st4[n]? with
          | some (.dct kvs) => if inFor kvs k && decide (kvs.length < LIM) then (match lookD kvs k with
            | some v => some (v, st4)
            | none => some (z, st4.set n (.dct (kvs ++ [(k, z)])))) else none
          | _ => none) = some (d, st') := h3
        split at h4
        · rename_i kvs hd
          split at h4
          · rename_i kf
            rw [Bool.and_eq_true, decide_eq_true_eq] at kf
            have kf2 : keyFor kvs k = true ∧ isKeyT k = true := by
              have := kf.1
              unfold inFor at this
              rw [Bool.and_eq_true] at this
              exact this
            refine ⟨ρ3, st4, n, k, z, kvs, k3, r1.mono (g2.trans g3), r2.mono g3, r3, hd, kf2.1, kf2.2, kf.2, ?_⟩
            cases hl : lookD kvs k with
            | some v0 =>
              rw [hl] at h4
              cases h4
              exact q.trans (g1.trans (g2.trans g3))
            | none =>
              rw [hl] at h4
              cases h4
              exact fun H' ρ' g ch rz => q _ H' ρ' (g1.trans (g2.trans (g3.trans g))) ch rz
          · cases h4
        · cases h4
    | _ => cases f2
/-! ### displays -/
theorem de_dnewS : DE X fa (hsOf X.w) (.Dict [] [] pos) (fun _ => alloc (.dct [])) := by
  refine ⟨fun pins s σ H Q I ⟨σd, ρ, st, d, st', h1, h2, h3, q⟩ => ?_⟩
  obtain ⟨rfl, rfl⟩ := allocS h3
  have hp : H s.heap.objs.size = none := I.hok.fresh (Nat.le_refl _)
  have new : ObjOk X.prog X.w (upd H s.heap.objs.size (dHO s.heap.objs.size [])) (s.heap.push { cls := .type "dict", data := .dict #[] }) s.heap.objs.size (dHO s.heap.objs.size []) :=
    dHO_new (beq_eq_false_iff_ne.mpr (Ne.symm (Nat.ne_of_lt I.big))) (Nat.zero_le _) (Heap.get?_push_size _ rfl) ⟨rfl, rfl, rfl⟩ rfl .nil
  have g : Gr X.K ρ H (ρ ++ [s.heap.objs.size]) (upd H s.heap.objs.size (dHO s.heap.objs.size [])) := Gr.push.trans (Gr.laid hp)
  refine wpAny_Dict_empty ⟨.ref s.heap.objs.size, _, I.laid (a := s.heap.objs.size) (t' := s.toks) (fun _ _ q => Heap.get?_push_of_some _ q) (Nat.le_refl _) new, rfl, ?_⟩
  refine q _ _ (ρ ++ [s.heap.objs.size]) g (RH.alloc h2 hp (.inr ⟨[], upd_same, .nil, fun p hp => (by cases hp), List.nodup_nil, fun p hp => (by cases hp)⟩)) ⟨s.heap.objs.size, ?_, rfl⟩
  rw [h2.len, List.getElem?_append_right (Nat.le_refl _), Nat.sub_self]
  rfl
/-- {k: v} -/
theorem de_disp1 (hu : X.A.units + 65 < cLine) (he : DE X fa (hsOf X.w) e ma) (hf : DE X fa (hsOf X.w) f mf) : DE X fa (hsOf X.w) (.Dict [some e] [f] pos) (fun σ => M.bind (alloc (.dct [])) fun L => M.bind (ma σ) fun x => M.bind (mf σ) fun y => M.bind (dctFill L [x, y]) fun _ => pure L) := by
  refine ⟨fun pins s σ H Q I ⟨σd, ρ, st, d, st', h1, h2, h3, q⟩ => ?_⟩
  obtain ⟨L, st1, e1, h3⟩ := bindS h3
  obtain ⟨rfl, rfl⟩ := allocS e1
  obtain ⟨x, st2, e2, h3⟩ := bindS h3
  obtain ⟨y, st3, e3, h3⟩ := bindS h3
  obtain ⟨u, st4, e4, h3⟩ := bindS h3
  obtain ⟨rfl, rfl⟩ := pureS h3
  have hp : H s.heap.objs.size = none := I.hok.fresh (Nat.le_refl _)
  have new : ObjOk X.prog X.w (upd H s.heap.objs.size (dHO s.heap.objs.size [])) (s.heap.push { cls := .type "dict", data := .dict #[] }) s.heap.objs.size (dHO s.heap.objs.size []) :=
    dHO_new (beq_eq_false_iff_ne.mpr (Ne.symm (Nat.ne_of_lt I.big))) (Nat.zero_le _) (Heap.get?_push_size _ rfl) ⟨rfl, rfl, rfl⟩ rfl .nil
  have g : Gr X.K ρ H (ρ ++ [s.heap.objs.size]) (upd H s.heap.objs.size (dHO s.heap.objs.size [])) := Gr.push.trans (Gr.laid hp)
  have ch0 : CHs X fa (ρ ++ [s.heap.objs.size]) (upd H s.heap.objs.size (dHO s.heap.objs.size [])) (st ++ [.dct []]) := RH.alloc h2 hp (.inr ⟨[], upd_same, .nil, fun p hp => (by cases hp), List.nodup_nil, fun p hp => (by cases hp)⟩)
  have ea0 : (ρ ++ [s.heap.objs.size])[st.length]? = some s.heap.objs.size := by
    rw [h2.len, List.getElem?_append_right (Nat.le_refl _), Nat.sub_self]
    rfl
  have I1 := I.laid (a := s.heap.objs.size) (t' := s.toks) (fun _ _ q => Heap.get?_push_of_some _ q) (Nat.le_refl _) new
  refine wpAny_Dict_any rfl rfl (by simp) (by show 1 ≤ 15; decide) (thn ((pps_cons (pos := pos) he hf pps_nil).run pins _ σ _ (fun ps H3 => ∃ ρ3 vx vy, ps = [(vx, vy)] ∧ Gr X.K (ρ ++ [s.heap.objs.size]) (upd H s.heap.objs.size (dHO s.heap.objs.size [])) ρ3 H3 ∧ CHs X fa ρ3 H3 st3 ∧ CDs X fa ρ3 H3 x vx ∧ CDs X fa ρ3 H3 y vy) I1
    (.mk (h1.mono g) ch0 e2 fun vx H2 ρ2 g2 k2 r2 => .mk ((h1.mono g).mono g2) k2 e3 fun vy H3 ρ3 g3 k3 r3 => ⟨ρ3, vx, vy, rfl, g2.trans g3, k3, r2.mono g3, r3⟩)) fun vs s3 ⟨ps, H3, I3, rel, ρ3, vx, vy, eps, g3, k3, rx, ry⟩ => ?_)
  subst eps
  cases rel with
  | @cons p0 q0 l1 l2 hr ht =>
    cases ht
    obtain ⟨u1, u2⟩ := q0
    obtain ⟨hr1, hr2⟩ := hr
    have ea3 := g3.pre _ _ ea0
    have ef : M.bind (setDct (.ref st.length) x y) (fun _ => (pure () : M Unit)) st3 = some (u, st4) := e4
    obtain ⟨u0, st5, f4, f5⟩ := bindS ef
    obtain ⟨_, f6⟩ := pureS f5
    subst f6
    have e4' : (match st3[st.length]? with
      | some (.dct kvs) => if keyFor kvs x && decide (kvs.length < LIM) then some ((), st3.set st.length (.dct (putD kvs x y))) else none
      | _ => none) = some (u0, st5) := f4
    unfold storeAll
    simp only [List.forIn_cons, List.forIn_nil]
    refine wpAny_bind (wpAny_bind ?_)
    have fin : ∀ (H' : Hp) (s' : Shared), Inv X pins σ H' s' → Gr X.K ρ3 H3 ρ3 H' → CHs X fa ρ3 H' st5 → EP X pins σ Q (.ref s.heap.objs.size) s' := fun H' s' I' g' ch' => ⟨.ref s.heap.objs.size, H', I', rfl, q _ H' ρ3 (g.trans (g3.trans g')) ch' ⟨s.heap.objs.size, ea3, rfl⟩⟩
    have hobj : ∀ kvs, st3[st.length]? = some (.dct kvs) → keyFor kvs x = true → kvs.length < LIM → st5 = st3.set st.length (.dct (putD kvs x y)) → wpAny (model X.prog X.w) X.A (dictSet s.heap.objs.size u1 u2) (fun _ s' => ∃ H', Inv X pins σ H' s' ∧ Gr X.K ρ3 H3 ρ3 H' ∧ CHs X fa ρ3 H' st5) X.xe s3 := fun kvs hn kf hl es => by
      have eg : TL.getD st3 st.length = some kvs := by unfold TL.getD; rw [hn]
      rcases keyFor_cases kf with ⟨ok, ⟨j, rfl⟩ | kt⟩
      · obtain ⟨h1', hz, kk, vs, pk, rel, dd⟩ := plain_view I3 k3 ea3 eg kf
        cases rx
        refine wpAny_dictSet_pairs (hsz := by rw [← rel.length, ← pk.len]; exact hz) (kV_is (k := Sum.inl j) hr1) dd fun h' dd' sb => ?_
        obtain ⟨H', W⟩ := wrote_I (tk := s3.toks + 1) I3 k3 ea3 hn hl h1' pk rel ry hr2 dd' sb
        exact ⟨H', W.inv, W.gr, by rw [es]; exact W.ch⟩
      · have kts := allT_of k3 ea3 eg kf kt
        obtain ⟨h1', hz, ts, e1', dd, hall, nd, oks⟩ := dict_view I3 k3 ea3 eg kts
        obtain ⟨b, hvx, hu1, kis⟩ := key_is I3 ok kt rx hr1
        subst hvx hu1
        have tl : (ts.map T3.x).length = kvs.length := by rw [List.length_map, ← e1', List.length_map]
        refine wpAny_dictSet_heap (hsz := by rw [tl]; exact hz) (by show X.A.units + 8 < cLine; omega) kis dd fun h' dd' sb => ?_
        obtain ⟨H', W⟩ := wrote_T (tk := s3.toks + (nestedKind X.prog X.w).draws (kof x)) I3 k3 ea3 hn ok kt hl e1' h1' hall nd oks kts rx ry hr2 dd' sb
        exact ⟨H', W.inv, W.gr, by rw [es]; exact W.ch⟩
    split at e4'
    · rename_i kvs hn
      split at e4'
      · rename_i hk
        rw [Bool.and_eq_true, decide_eq_true_eq] at hk
        cases e4'
        refine thn (hobj kvs hn hk.1 hk.2 rfl) fun _ s' ⟨H', I', g', ch'⟩ => wpAny_pure (wpAny_pure ?_)
        exact fin H' s' I' g' ch'
      · cases e4'
    · cases e4'
end
end TL

/-! From the library's trees to the small language. -/
namespace TL
open PySem PySem.Spec PyProof.Rows L2

/-- the names that are cells of their own -/
def celOf (s : Scope) : List Str := (s.names.filter fun p => decide (s.names.lookup p.1 = some .cell)).map (·.1)
/-- where a tree stands: the names of the block, the slots, the defs of the text -/
structure CC where
  sc : Scope
  cel : List Str
  N : List Str
  tab : List (Str × Nat)
def inBlk (c : CC) (scope : Scope) : CC := { c with sc := relS scope c.sc, cel := celOf scope }
def kd (c : CC) (x : Str) : Option NameKind := c.sc.names.lookup x
def okName (x : Str) : Bool := !(x == ("__debug__" : Str)) && !(x == ("__classdict__" : Str)) && !(decide (x = ("__name__" : Str)))
def vis (c : CC) (x : Str) : Bool := okName x && (decide (kd c x = some .local) || decide (kd c x = some .cell) || decide (kd c x = some .free))
def loc (c : CC) (x : Str) : Bool := okName x && (decide (kd c x = some .local) || (decide (kd c x = some .cell) && decide (x ∈ c.cel)))
def glb (c : CC) (x : Str) : Bool := okName x && decide (kd c x = some .globalImplicit)
def slotOf (N : List Str) (x : Str) : Option Nat := match N.findIdx? fun y => decide (y = x) with
  | some i => if N[i]? = some x then some i else none
  | none => none
def symOf (x : Str) : Option Nat := match symL.findIdx? fun y => decide (y = x) with
  | some i => if symL[i]? = some x then some i else none
  | none => none
def cvOp : Operator → Option Bop
  | .Add => some .add | .Sub => some .sub | .Mult => some .mul | .FloorDiv => some .fdiv | .Mod => some .mod | .Pow => some .pow | _ => none
def cvCp : CmpOp → Option Cop
  | .Eq => some .eq | .NotEq => some .ne | .Lt => some .lt | .LtE => some .le | .Gt => some .gt | .GtE => some .ge | .Is => some .is | .IsNot => some .isnot | .In => some .mem | .NotIn => some .nmem
def biName : Bi → Str
  | .len => "len" | .list => "list" | .tuple => "tuple" | .max => "max" | .min => "min" | .any => "any" | .all => "all" | .int => "int" | .bool => "bool" | .isinst => "isinstance" | _ => ""
def biFind (x : Str) : Option Bi := [Bi.len, .list, .tuple, .max, .min, .any, .all, .int, .bool, .isinst].find? fun b => decide (biName b = x)
/-- the types as values -/
def tyName : Nat → Str
  | 0 => "int" | 1 => "bool" | 2 => "str" | 3 => "list" | 4 => "tuple" | _ => ""
def tyFind (x : Str) : Option Nat := [0, 1, 2, 3, 4].find? fun k => decide (tyName k = x)
def isStar : Expr → Bool
  | .Starred _ _ => true
  | _ => false
def noStar (es : List Expr) : Bool := es.all fun e => !isStar e
def isTuple : Expr → Bool
  | .Tuple _ _ _ => true
  | _ => false
def isListX : Expr → Bool
  | .List _ _ => true
  | _ => false
def isNameX : Expr → Bool
  | .Name _ _ => true
  | _ => false
def isSet : Expr → Bool
  | .Set _ _ _ => true
  | _ => false
def isSliceX : Expr → Bool
  | .Slice _ _ _ _ => true
  | _ => false
/-- a comprehension whose list is dropped or swapped -/
def isComp : Expr → Bool
  | .ListComp _ _ _ _ | .SetComp _ _ _ _ | .DictComp _ _ _ _ _ => true
  | _ => false
/-- not a test of its own kind -/
def plainT : Expr → Bool
  | .UnaryOp .Not _ _ | .BoolOp _ _ _ | .IfExp _ _ _ _ | .Compare _ _ _ _ => false
  | _ => true
def baseX : Expr → Bool
  | .Name _ _ | .Subscript _ _ _ => true
  | _ => false
/-- the names of a block, as slots -/
def ownOf (scope : Scope) (N : List Str) : List (Str × Nat) := N.zipIdx.filter fun p => decide (scope.names.lookup p.1 = some .local) || decide (scope.names.lookup p.1 = some .cell)
def lineOf (ts : List Expr) : Nat := (ts.head?.map (·.pos.line)).getD 0
def locs (c : CC) (line : Nat) (ts : List Expr) : List Str := ts.filterMap fun
  | .Name id pos => if (c.sc.names.lookup id == some .local && pos.line == line) = true then some id else none
  | _ => none

/-- the functions of one depth -/
structure CV where
  e : CC → Expr → Option E
  tg : CC → Expr → Option Tg
  s : CC → Stmt → Option S
section
variable (R : CV) (c : CC)
def cvEs : List Expr → Option (List E)
  | [] => some []
  | e :: es => if isStar e = true then none else match R.e c e, cvEs es with
    | some a, some r => some (a :: r)
    | _, _ => none
def cvTgs : List Expr → Option (List Tg)
  | [] => some []
  | e :: es => if isStar e = true then none else match R.tg c e, cvTgs es with
    | some a, some r => some (a :: r)
    | _, _ => none
def cvSs : List Stmt → Option (List S)
  | [] => some []
  | s :: r => match R.s c s, cvSs r with
    | some a, some t => some (a :: t)
    | _, _ => none
def cvOpt : Option Expr → Option E
  | none => some .non
  | some e => match R.e c e with
    | some a => if a.isNon = true then none else some a
    | none => none
def cvConst : Const → Option E
  | .int i => some (.int i)
  | .bool b => some (.bl b)
  | .none => some .non
  | .str x => (symOf x).map .str
  | _ => none
def cvName (x : Str) : Option E :=
  if vis c x = true then (slotOf c.N x).map .var
  else if glb c x = true then match c.tab.lookup x with
    | some f => some (.fnv f)
    | none => (tyFind x).map .ty
  else none
/-- sorted(set(a)), list(range(..)): the inner call's own -/
def inArg (g0 : Str) : List Expr → Option (List Expr)
  | [.Call (.Name g _) es [] _] => if g = g0 then some es else none
  | _ => none
def cvSortset (es : List Expr) : Option E := match es with
  | [a] => if isStar a = true then none else (R.e c a).map fun x => .bi .sortset [x]
  | _ => none
def cvLrng (es : List Expr) : Option E := match es with
  | [_] => (cvEs R c es).map .lrng
  | [_, _] => (cvEs R c es).map .lrng
  | _ => none
/-- a call of a plain name -/
def cvCallN (f : Str) (args : List Expr) : Option E :=
  if f = ("sorted" : Str) then (if (glb c "sorted" && glb c "set") = true then (inArg "set" args).bind (cvSortset R c) else none)
  else if (decide (f = ("list" : Str)) && (inArg "range" args).isSome) = true then (if (glb c "list" && glb c "range") = true then (inArg "range" args).bind (cvLrng R c) else none)
  else match cvEs R c args with
  | none => none
  | some es => if vis c f = true then (if args.isEmpty = true then none else (slotOf c.N f).map fun i => .callv i es)
    else if glb c f = true then match c.tab.lookup f with
      | some k => some (.call k es)
      | none => if args.isEmpty = true then none else (biFind f).map fun b => .bi b es
    else none
def cvMeth (o : Expr) (name : Str) (args : List Expr) (apos cpos : Pos) : Option E :=
  if (baseX o && (apos.endLine == cpos.line)) = true then match R.e c o, cvEs R c args, args with
    | some a, some es, [_] => if name = ("append" : Str) then some (.meth .append a es) else none
    | some a, some es, [_, _] => if name = ("get" : Str) then some (.meth .get a es) else if name = ("setdefault" : Str) then some (.meth .setdefault a es) else none
    | _, _, _ => none
  else none
/-- what a loop walks -/
def cvIt (tg it : Expr) : Option Itx := match it with
  | .Call (.Name f _) args [] _ => if (!(vis c f) && glb c f && (c.tab.lookup f).isNone) = true then
      (if f = ("range" : Str) then (match cvEs R c args with
          | some es => if (1 ≤ args.length ∧ args.length ≤ 3) then some (.rng es) else none
          | none => none)
        else if f = ("zip" : Str) then (match args with
          | [a, b] => if (isStar a || isStar b || !(isTuple tg)) = true then none else (match R.e c a, R.e c b with
            | some x, some y => some (.zip x y)
            | _, _ => none)
          | _ => none)
        else if f = ("enumerate" : Str) then (match inArg "zip" args with
          | some [a, b] => if (isStar a || isStar b || !(isTuple tg) || !(glb c "zip")) = true then none else (match R.e c a, R.e c b with
            | some x, some y => some (.enumz x y)
            | _, _ => none)
          | some _ => none
          | none => (match args with
          | [a] => if (isStar a || !(isTuple tg)) = true then none else (match R.e c a with
            | some x => some (.enum x)
            | none => none)
          | _ => none))
        else (R.e c it).map .ex)
      else (R.e c it).map .ex
  | .Call (.Attribute o name apos) args [] cpos => if name = ("items" : Str) then (if (baseX o && (apos.endLine == cpos.line) && isTuple tg && args.isEmpty) = true then (R.e c o).map .items else none) else (R.e c it).map .ex
  | it => if isSet it = true then none else (R.e c it).map .ex
def cvIfs (d : CC) : List Expr → Option (List E)
  | [] => some []
  | [e] => (R.e d e).map fun x => [x]
  | _ => none
def cvComp (elt : Expr) (tg it : Expr) (ifs : List Expr) (scope : Scope) : Option E :=
  let own := ownOf scope c.N
  let d : CC := inBlk c scope
  if blkC c.N c.sc scope own = true then match cvIt R c tg it, R.tg d tg, cvIfs R d ifs, R.e d elt with
    | some i, some t, some fs, some x => if ((tgS t).all fun j => own.any fun p => p.2 == j) = true then some (.comp (own.map (·.2)) t i fs x) else none
    | _, _, _, _ => none
  else none
def cvE1 : Expr → Option E
  | .Constant v _ _ => cvConst v
  | .Name x _ => cvName c x
  | .Tuple es _ _ => if es.length ≤ 1000 then (cvEs R c es).map .tup else none
  | .List es _ => if es.length ≤ 1000 then (cvEs R c es).map .lst else none
  | .BinOp a op b _ => match cvOp op, R.e c a, R.e c b with
    | some o, some x, some y => some (.bin o x y)
    | _, _, _ => none
  | .UnaryOp .USub a _ => (R.e c a).map .neg
  | .UnaryOp .Not a _ => (R.e c a).map .not
  | .Compare a [op] [b] _ => if behindInMarks op b = true then none else match cvCp op, R.e c a, R.e c b with
    | some o, some x, some y => some (.cmp o x y)
    | _, _, _ => none
  | .Compare a [o1, o2] [b1, b2] _ => if lastMarks [o1, o2] [b1, b2] = true then none else match cvCp o1, cvCp o2, R.e c a, R.e c b1, R.e c b2 with
    | some p, some q, some x, some y, some z => some (.chain p q x y z)
    | _, _, _, _, _ => none
  | .BoolOp _ [a] _ => R.e c a
  | .BoolOp .And (a :: r) p => match R.e c a, R.e c (.BoolOp .And r p) with
    | some x, some y => some (.and x y)
    | _, _ => none
  | .BoolOp .Or (a :: r) p => match R.e c a, R.e c (.BoolOp .Or r p) with
    | some x, some y => some (.or x y)
    | _, _ => none
  | .IfExp t a b _ => match R.e c t, R.e c a, R.e c b with
    | some x, some y, some z => some (.ife x y z)
    | _, _, _ => none
  | .Subscript a (.Slice lo hi none _) _ => match R.e c a, cvOpt R c lo, cvOpt R c hi with
    | some x, some l, some h => some (.slc x l h)
    | _, _, _ => none
  | .Subscript a i _ => if isSliceX i = true then none else match R.e c a, R.e c i with
    | some x, some y => some (.idx x y)
    | _, _ => none
  | .Call (.Name f _) args [] _ => cvCallN R c f args
  | .Call (.Attribute o name apos) args [] cpos => cvMeth R c o name args apos cpos
  | .ListComp elt [⟨tg, it, ifs, 0⟩] scope _ => cvComp R c elt tg it ifs scope
  | .Dict [] [] _ => some (.dct [])
  | .Dict [some k] [v] _ => match R.e c k, R.e c v with
    | some x, some y => some (.dct [x, y])
    | _, _ => none
  | _ => none
def cvTg1 : Expr → Option Tg
  | .Name x _ => if loc c x = true then (slotOf c.N x).map .n else none
  | .Tuple ts _ _ => (cvTgs R c ts).map .t
  | .Subscript o i _ => if isSliceX i = true then none else match R.e c o, R.e c i with
    | some x, some y => some (.sub x y)
    | _, _ => none
  | _ => none
/-- a, b = x, y: the slots -/
def parSlots : List Expr → Option (List Nat)
  | [] => some []
  | .Name x _ :: r => if loc c x = true then (match slotOf c.N x, parSlots r with
    | some i, some is => if is.contains i = true then none else some (i :: is)
    | _, _ => none) else none
  | _ => none
def parOk (ts vs : List Expr) : Bool :=
  let names := locs c (lineOf ts) ts
  (ts.length == 2 || ts.length == 3) && vs.length == ts.length && noStar vs && decide (c.sc.kind = .function) &&
    (names.length != ts.length || (names.eraseDups.length == names.length && !(vs.all (foldedForSure 8)) && !(vs.all (constantsAlone 8))))
def cvPar (ts vs : List Expr) : Option S := if parOk c ts vs = true then match parSlots c ts, cvEs R c vs with
    | some is, some es => some (.par is es)
    | _, _ => none
  else none
def cvS1 : Stmt → Option S
  | .Return (some e) _ => (R.e c e).map .ret
  | .Expr e _ => if isComp e = true then none else (R.e c e).map .ex
  | .If t a b _ => match R.e c t, cvSs R c a, cvSs R c b with
    | some x, some y, some z => some (.ife x y z)
    | _, _, _ => none
  | .While t b [] _ => match R.e c t, cvSs R c b with
    | some x, some y => some (.while_ x y)
    | _, _ => none
  | .For tg it b [] _ => match cvIt R c tg it, R.tg c tg, cvSs R c b with
    | some i, some t, some y => some (.for_ t i y)
    | _, _, _ => none
  | .AugAssign (.Name x _) op e _ => if loc c x = true then match cvOp op, slotOf c.N x, R.e c e with
      | some .add, some i, some y => some (.aug i .add y)
      | some .sub, some i, some y => some (.aug i .sub y)
      | _, _, _ => none
    else none
  | .Assign [.Tuple ts _ _] (.Tuple vs _ _) _ => cvPar R c ts vs
  | .Assign [.Name y _] (.ListComp elt [⟨tg, it, ifs, 0⟩] scope _) _ => if loc c y = true then match slotOf c.N y, cvComp R c elt tg it ifs scope with
      | some i, some x => some (.asg (.n i) x)
      | _, _ => none
    else none
  | .Assign [tg] e _ => if (isListX tg || isStar tg || (isTuple tg && isTuple e) || (isNameX tg && isComp e)) = true then none else match R.tg c tg, R.e c e with
    | some t, some x => some (.asg t x)
    | _, _ => none
  | _ => none
end
def cvStep (R : CV) : CV := ⟨cvE1 R, cvTg1 R, cvS1 R⟩
def cv : Nat → CV
  | 0 => ⟨fun _ _ => none, fun _ _ => none, fun _ _ => none⟩
  | n + 1 => cvStep (cv n)
def cvBody (n : Nat) (c : CC) (b : List Stmt) : Option (List S) := cvSs (cv n) c b
end TL

/-! The small language's evaluator is what the trees do. -/
namespace TL
open PySem PySem.Spec PyProof.Rows L2

def bNames : List Str := ["len", "list", "tuple", "max", "min", "any", "all", "int", "bool", "str", "isinstance", "sorted", "set", "dict", "sum", "range", "zip", "enumerate"]
/-- what a block's own rules ask beside the trees -/
structure Hooks (X : Cx) (fa : Nat → Option Addr) (hs : D → Int) where
  mr : Cop → R2
  ml : RL
  mi : RL
  mx : R2
  mst : TSet
  moreOk : MoreOk X mr
  moreAns : MoreAns (cx X fa hs) mr
  lenMore : LenMore X fa hs ml mi
  ixMore : IxMore X fa hs mx
  setMore : SetMore X fa hs mst
/-- a block and the place of its trees -/
structure XOk (X : Cx) (fa : Nat → Option Addr) (hs : D → Int) (cf : Nat → List D → M D) (k : Nat) (c : CC) : Prop where
  sc : X.env.scope = c.sc
  hw : hs = hsOf X.w
  N : X.N = c.N
  nd : c.N.Nodup
  calm : X.calm = true
  xe : X.xe = fun _ _ => False
  fn : ∀ x ∈ c.cel, X.fn x = true
  kind : c.sc.kind = .function
  room : Room k X.A
  mg : ∀ x ∈ bNames, X.mg x = none
  fns : ∀ x f, c.tab.lookup x = some f → ∃ A fd ps np, fa f = some A ∧ X.mg x = some (.ref A) ∧ PySem.W.keepIn X.K (.ref A) = true ∧ Binds X.K fd ps [] ∧ FnOk X.prog X.w X.K X.mg X.base CX0 k A fd ps (spF (cx X fa hs) cf np f) ∧ ∀ xs st r, cf f xs st = some r → xs.length = np
  fnv : ∀ f A, fa f = some A → ∃ np, Held X.prog X.w X.K X.mg X.base k A (spF (cx X fa hs) cf np f) ∧ ∀ xs st r, cf f xs st = some r → xs.length = np
  hooks : ∀ Y : Cx, Y.prog = X.prog → Y.w = X.w → Y.K = X.K → Y.A = X.A → Y.calm = true → Nonempty (Hooks Y fa hs)
section
variable {X : Cx} {fa : Nat → Option Addr} {hs : D → Int} {cf : Nat → List D → M D} {k w : Nat} {c : CC} {R : CV}

theorem XOk.blk (o : XOk X fa hs cf k c) {scope : Scope} {own : List (Str × Nat)} (bk : BlkOk c.N c.sc scope own) (s : Shared) (H : Hp) (C : Addr) (cl : List (Str × Addr)) (fp : List Addr) :
    XOk (X.blk s H scope (compEnvC scope cl C X.env) fp) fa hs cf k (inBlk c scope) where
  sc := by show relS scope X.env.scope = relS scope c.sc; rw [o.sc]
  hw := o.hw
  N := o.N
  nd := o.nd
  calm := o.calm
  xe := rfl
  fn := fun x h => by
    obtain ⟨p, hp, rfl⟩ := List.mem_map.mp (show x ∈ celOf scope from h)
    have q := (List.mem_filter.mp hp).2
    rw [decide_eq_true_eq] at q
    show (scope.names.lookup p.1 == some .cell) = true
    rw [q]
    rfl
  kind := bk.kind
  room := o.room
  mg := o.mg
  fns := o.fns
  fnv := o.fnv
  hooks := fun Y h1 h2 h3 h4 h5 => o.hooks Y h1 h2 h3 h4 h5

/-! ### names -/
theorem slot_ok {N : List Str} {x : Str} {i : Nat} (h : slotOf N x = some i) : N[i]? = some x := by
  unfold slotOf at h
  split at h
  · split at h
    · rename_i e; cases h; exact e
    · cases h
  · cases h
theorem sym_ok {x : Str} {i : Nat} (h : symOf x = some i) : symL[i]? = some x := by
  unfold symOf at h
  split at h
  · split at h
    · rename_i e; cases h; exact e
    · cases h
  · cases h
theorem okName_ok {x : Str} (h : okName x = true) : (x == ("__debug__" : Str)) = false ∧ (x == ("__classdict__" : Str)) = false ∧ x ≠ ("__name__" : Str) := by
  unfold okName at h
  simp only [Bool.and_eq_true, Bool.not_eq_true', decide_eq_false_iff_not] at h
  exact ⟨h.1.1, h.1.2, h.2⟩
theorem vis_ok (o : XOk X fa hs cf k c) {x : Str} (h : vis c x = true) : Vis X.env.scope x ∧ (x == ("__debug__" : Str)) = false ∧ (x == ("__classdict__" : Str)) = false := by
  unfold vis at h
  rw [Bool.and_eq_true] at h
  obtain ⟨n1, n2, n3⟩ := okName_ok h.1
  refine ⟨?_, n1, n2⟩
  have q := h.2
  simp only [Bool.or_eq_true, decide_eq_true_eq] at q
  unfold kd at q
  unfold Vis
  rw [o.sc]
  rcases q with (q | q) | q
  · exact .inl q
  · exact .inr (.inl q)
  · exact .inr (.inr q)
theorem loc_ok (o : XOk X fa hs cf k c) {x : Str} (h : loc c x = true) : L2.Loc X.env.scope x ∧ (X.fn x = true ∨ X.env.scope.names.lookup x = some .local) := by
  unfold loc at h
  rw [Bool.and_eq_true] at h
  have q := h.2
  simp only [Bool.or_eq_true, Bool.and_eq_true, decide_eq_true_eq] at q
  unfold kd at q
  unfold L2.Loc
  rw [o.sc]
  rcases q with q | q
  · exact ⟨.inl q, .inr q⟩
  · exact ⟨.inr q.1, .inl (o.fn x q.2)⟩
theorem glb_ok (o : XOk X fa hs cf k c) {x : Str} (h : glb c x = true) : Gl X x ∧ (x == ("__debug__" : Str)) = false ∧ x ≠ ("__name__" : Str) := by
  unfold glb at h
  rw [Bool.and_eq_true, decide_eq_true_eq] at h
  obtain ⟨n1, n2, n3⟩ := okName_ok h.1
  refine ⟨?_, n1, n3⟩
  show X.env.scope.names.lookup x = some .globalImplicit
  rw [o.sc]
  exact h.2
theorem cvOp_ok {o : Operator} {b : Bop} (h : cvOp o = some b) : o = bopP b := by
  cases o <;> first | (cases h; rfl) | cases h
theorem cvCp_ok {o : CmpOp} {b : Cop} (h : cvCp o = some b) : o = copP b := by
  cases o <;> first | (cases h; rfl) | cases h

/-! ### rows of trees -/
theorem star1 {e : Expr} {es : List Expr} {env : PySem.Env} (h : isStar e = false) : starEach (e :: es) env = (false, eval e env) :: starEach es env := by
  cases e <;> first | rfl | cases h
theorem asg1 {e : Expr} {es : List Expr} {env : PySem.Env} (h : isStar e = false) : assignEach (e :: es) env = (false, assign e env) :: assignEach es env := by
  cases e <;> first | rfl | cases h
theorem star_none : ∀ {es : List Expr} {env : PySem.Env}, noStar es = true → (starEach es env).any (·.1) = false
  | [], _, _ => rfl
  | e :: es, env, h => by
    unfold noStar at h
    rw [List.all_cons, Bool.and_eq_true, Bool.not_eq_true'] at h
    rw [star1 h.1, List.any_cons, star_none (es := es) h.2]
    rfl
theorem back_any {pos : Pos} (ts : List (Bool × Sem Value)) : (backTo pos ts).any (·.1) = ts.any (·.1) := by
  unfold backTo
  induction ts with
  | nil => rfl
  | cons t ts ih => obtain ⟨b, m⟩ := t; rw [List.map_cons, List.any_cons, List.any_cons, ih]
theorem back_all {pos : Pos} (ts : List (Bool × Sem Value)) (h : ts.any (·.1) = false) : (backTo pos ts).all (fun x => !x.1) = true := by
  unfold backTo
  induction ts with
  | nil => rfl
  | cons t ts ih =>
    obtain ⟨b, m⟩ := t
    rw [List.any_cons, Bool.or_eq_false_iff] at h
    rw [List.map_cons, List.all_cons, ih h.2]
    have : b = false := h.1
    subst this
    rfl
theorem plain_row {pos : Pos} {es : List Expr} {env : PySem.Env} (h : noStar es = true) : (backTo pos (starEach es env)).any (·.1) = false := by rw [back_any]; exact star_none h
theorem plainT_ok {e : Expr} {env : PySem.Env} (h : plainT e = true) : ∀ whole, isTrue e env whole = (do let v ← whole; standAt e.pos; holding [v] (truthy v)) := by
  intro whole
  cases e <;> first | rfl | cases h | (rename_i op _ _; cases op <;> first | rfl | cases h)
theorem notSet_ok {e : Expr} {env : PySem.Env} (h : isSet e = false) : ∀ x, foldedSetIterable e env x = pure x := by
  intro x
  cases e <;> first | rfl | cases h
theorem base_ok {e : Expr} {n : Str} {env : PySem.Env} {m : Sem Value} (h : baseX e = true) : attributeBase e n env m = m := by
  cases e <;> first | rfl | cases h

def isBoolX : Expr → Bool
  | .BoolOp _ _ _ => true
  | _ => false
/-! ### the promise of one depth -/
structure Good (fa : Nat → Option Addr) (hs : D → Int) (cf : Nat → List D → M D) (k w : Nat) (R : CV) : Prop where
  e : ∀ {X : Cx} {c : CC}, XOk X fa hs cf k c → ∀ {e : Expr} {e' : E}, R.e c e = some e' → DE X fa hs e (ev w cf e') ∧ DT X fa hs e (ev w cf e') ∧ (isBoolX e = true → DW X fa hs e (ev w cf e'))
  tg : ∀ {X : Cx} {c : CC}, XOk X fa hs cf k c → ∀ {e : Expr} {t : Tg}, R.tg c e = some t → DG X fa hs e (tgS t) (asgn w cf t)
  s : ∀ {X : Cx} {c : CC}, XOk X fa hs cf k c → ∀ {s : Stmt} {s' : S}, R.s c s = some s' → DS X fa hs s (evS w cf s')

theorem ok_es (G : Good fa hs cf k w R) (o : XOk X fa hs cf k c) : ∀ {es : List Expr} {rs : List E}, cvEs R c es = some rs → DA X fa hs es (evs w cf rs) ∧ noStar es = true ∧ rs.length = es.length
  | [], rs, h => by cases h; exact ⟨da_nil, rfl, rfl⟩
  | e :: es, rs, h => by
    unfold cvEs at h
    split at h
    · cases h
    · rename_i hs'
      have hs2 : isStar e = false := by simpa using hs'
      split at h
      · rename_i a r ha hr
        cases h
        obtain ⟨q1, q2, q3⟩ := ok_es G o hr
        refine ⟨da_cons (G.e o ha).1 q1 (star1 hs2), ?_, by rw [List.length_cons, List.length_cons, q3]⟩
        unfold noStar at q2 ⊢
        rw [List.all_cons, hs2, q2]
        rfl
      · cases h
theorem ok_tgs (G : Good fa hs cf k w R) (o : XOk X fa hs cf k c) : ∀ {es : List Expr} {rs : List Tg}, cvTgs R c es = some rs → DGs X fa hs es (tgS.tgsS rs) (asgns w cf rs) ∧ (assignEach es X.env).length = rs.length ∧ (assignEach es X.env).findIdx? (·.1) = none
  | [], rs, h => by
    cases h
    refine ⟨?_, rfl, rfl⟩
    exact dgs_nil.imp fun v σ H Q ⟨σd, ρ, st, d, σd', st', h1, h2, h3, h4, q⟩ => ⟨σd, ρ, st, d, σd', st', h1, h2, h3, by cases d <;> exact h4, q⟩
  | e :: es, rs, h => by
    unfold cvTgs at h
    split at h
    · cases h
    · rename_i hs'
      have hs2 : isStar e = false := by simpa using hs'
      split at h
      · rename_i a r ha hr
        cases h
        obtain ⟨q1, q2, q3⟩ := ok_tgs G o hr
        refine ⟨?_, by rw [asg1 hs2, List.length_cons, List.length_cons, q2], by rw [asg1 hs2, List.findIdx?_cons]; simp [q3]⟩
        have z := dgs_cons (G.tg o ha) q1 (by rw [asg1 hs2]; rfl)
        exact z.imp fun v σ H Q ⟨σd, ρ, st, d, σd', st', h1, h2, h3, h4, q⟩ => ⟨σd, ρ, st, d, σd', st', h1, h2, h3, by cases d <;> exact h4, q⟩
      · cases h
theorem ok_ss (G : Good fa hs cf k w R) (o : XOk X fa hs cf k c) : ∀ {ss : List Stmt} {rs : List S}, cvSs R c ss = some rs → DSs X fa hs ss (evSs w cf rs)
  | [], rs, h => by cases h; exact dss_nil
  | s :: ss, rs, h => by
    unfold cvSs at h
    split at h
    · rename_i a r ha hr
      cases h
      exact dss_cons (G.s o ha) (ok_ss G o hr)
    · cases h
theorem optS {α β : Type} {f : α → β} {o : Option α} {b : β} (h : o.map f = some b) : ∃ a, o = some a ∧ f a = b := by
  cases o with
  | none => cases h
  | some a => cases h; exact ⟨a, rfl, rfl⟩
theorem tab_mem {l : List (Nat × Str)} : True := trivial
/-- from a value to a test -/
theorem both {e : Expr} {m : Env → M D} (h : DE X fa hs e m) (hp : plainT e = true) : DE X fa hs e m ∧ DT X fa hs e m ∧ (isBoolX e = true → DW X fa hs e m) :=
  ⟨h, dt_val h (plainT_ok hp), fun z => by cases e <;> first | exact Bool.noConfusion (show false = true from z) | exact Bool.noConfusion (show false = true from hp)⟩
end
end TL

/-! One depth of the promise: expressions. -/
namespace TL
open PySem PySem.Spec PyProof.Rows L2
section
variable {X : Cx} {fa : Nat → Option Addr} {hs : D → Int} {cf : Nat → List D → M D} {k w : Nat} {c : CC} {R : CV} {pos p apos cpos : Pos} {kk : Nat}

theorem ok_const {v : Const} {e' : E} (h : cvConst v = some e') : DE X fa hs (.Constant v kk pos) (ev w cf e') := by
  unfold cvConst at h
  split at h
  · cases h; exact de_int
  · cases h; exact de_bl
  · cases h; exact de_non
  · obtain ⟨a, ha, rfl⟩ := optS h
    exact de_str (sym_ok ha)
  · cases h
theorem tyFind_ok {x : Str} {t : Nat} (h : tyFind x = some t) : x = tyName t ∧ (t = 0 ∨ t = 1 ∨ t = 2 ∨ t = 3 ∨ t = 4) := by
  unfold tyFind at h
  have h1 := List.find?_some h
  have h2 := List.mem_of_find?_eq_some h
  rw [decide_eq_true_eq] at h1
  refine ⟨h1.symm, ?_⟩
  simpa using h2
theorem ok_name (o : XOk X fa hs cf k c) {x : Str} {e' : E} (h : cvName c x = some e') : DE X fa hs (.Name x pos) (ev w cf e') := by
  unfold cvName at h
  split at h
  · rename_i hv
    obtain ⟨q1, q2, q3⟩ := vis_ok o hv
    obtain ⟨i, hi, rfl⟩ := optS h
    exact de_var (by rw [o.N]; exact slot_ok hi) q1 q2 q3
  · split at h
    · rename_i hg
      obtain ⟨g1, g2, g3⟩ := glb_ok o hg
      split at h
      · rename_i f hf
        cases h
        obtain ⟨A, fd, ps, np, z1, z2, _⟩ := o.fns x f hf
        exact de_fnv z1 g1 z2 g2
      · obtain ⟨t, ht, rfl⟩ := optS h
        obtain ⟨rfl, hk⟩ := tyFind_ok ht
        have mg0 : X.mg (tyName t) = none := o.mg _ (by rcases hk with rfl | rfl | rfl | rfl | rfl <;> decide)
        rcases hk with rfl | rfl | rfl | rfl | rfl
        · exact de_ty (t := "int") rfl g1 mg0 PyProof.Rows.boot_int g3 g2
        · exact de_ty (t := "bool") rfl g1 mg0 PyProof.Rows.boot_bool g3 g2
        · exact de_ty (t := "str") rfl g1 mg0 PyProof.Rows.boot_str g3 g2
        · exact de_ty (t := "list") rfl g1 mg0 PyProof.Rows.boot_list g3 g2
        · exact de_ty (t := "tuple") rfl g1 mg0 PyProof.Rows.boot_tuple g3 g2
    · cases h
theorem biFind_ok {x : Str} {b : Bi} (h : biFind x = some b) : x = biName b ∧ b ∈ [Bi.len, .list, .tuple, .max, .min, .any, .all, .int, .bool, .isinst] := by
  unfold biFind at h
  have h1 := List.find?_some h
  have h2 := List.mem_of_find?_eq_some h
  rw [decide_eq_true_eq] at h1
  exact ⟨h1.symm, h2⟩
theorem evs_len {rs : List E} : ∀ σ st ds st', evs w cf rs σ st = some (ds, st') → ds.length = rs.length := fun _ _ _ _ h => da_len h
/-- the built-ins -/
theorem ok_bi (o : XOk X fa hs cf k c) {b : Bi} {e : Expr} {es : List Expr} {ms : Env → M (List D)} (hb : b ∈ [Bi.len, .list, .tuple, .max, .min, .any, .all, .int, .bool, .isinst]) (hg : glb c (biName b) = true) (ha : DA X fa hs (e :: es) ms) (ns : noStar (e :: es) = true) :
    DE X fa hs (.Call (.Name (biName b) p) (e :: es) [] pos) (fun σ => M.bind (ms σ) fun xs => bifn b xs) := by
  obtain ⟨g1, g2, g3⟩ := glb_ok o hg
  obtain ⟨hk⟩ := o.hooks X rfl rfl rfl rfl o.calm
  have n2 : isStar e = false ∧ noStar es = true := by
    unfold noStar at ns
    rw [List.all_cons, Bool.and_eq_true, Bool.not_eq_true'] at ns
    exact ns
  have hst := star1 (es := es) (env := X.env) n2.1
  have hpl := plain_row (pos := pos) (env := X.env) n2.2
  have mg0 : X.mg (biName b) = none := o.mg _ (by
    simp only [List.mem_cons, List.not_mem_nil, or_false] at hb
    rcases hb with rfl | rfl | rfl | rfl | rfl | rfl | rfl | rfl | rfl | rfl <;> decide)
  simp only [List.mem_cons, List.not_mem_nil, or_false] at hb
  rcases hb with rfl | rfl | rfl | rfl | rfl | rfl | rfl | rfl | rfl | rfl
  · exact de_biB (call_len.or hk.lenMore.opLen) (len_ok hk.lenMore) g1 mg0 PySem.boot_len ha g3 g2 hst hpl
  · exact de_biT (call_list_of.or hk.lenMore.opList) (list_ok hk.lenMore) g1 mg0 PyProof.Rows.boot_list ha g3 g2 hst hpl
  · exact de_biT call_tuple_of tuple_ok g1 mg0 PyProof.Rows.boot_tuple ha g3 g2 hst hpl
  · exact de_biB ((call_max2 o.calm).or (cr_max o.calm)) max_ok g1 mg0 PyProof.Rows.boot_max ha g3 g2 hst hpl
  · exact de_biB ((call_min2 o.calm).or (cr_min o.calm)) min_ok g1 mg0 PyProof.Rows.boot_min ha g3 g2 hst hpl
  · exact de_biB (cr_any o.calm) any_ok g1 mg0 PyProof.Rows.boot_any ha g3 g2 hst hpl
  · exact de_biB (cr_all o.calm) all_ok g1 mg0 PyProof.Rows.boot_all ha g3 g2 hst hpl
  · exact de_biT call_int1 int_ok g1 mg0 PyProof.Rows.boot_int ha g3 g2 hst hpl
  · exact de_biT call_bool1 bool_ok g1 mg0 PyProof.Rows.boot_bool ha g3 g2 hst hpl
  · exact de_biB (call_isi.or call_isiS) isinst_ok g1 mg0 PyProof.Rows.boot_isinstance ha g3 g2 hst hpl
theorem inArg_ok {g0 : Str} {args es : List Expr} (h : inArg g0 args = some es) : ∃ p q, args = [.Call (.Name g0 p) es [] q] := by
  unfold inArg at h
  split at h
  · split at h
    · rename_i hg
      cases h
      subst hg
      exact ⟨_, _, rfl⟩
    · cases h
  · cases h
theorem ok_sortset (G : Good fa hs cf k w R) (o : XOk X fa hs cf k c) {args : List Expr} {e' : E} (g1 : glb c "sorted" = true) (g2 : glb c "set" = true) (h : (inArg "set" args).bind (cvSortset R c) = some e') : DE X fa hs (.Call (.Name "sorted" p) args [] pos) (ev w cf e') := by
  obtain ⟨es, h1, h2⟩ := Option.bind_eq_some_iff.mp h
  obtain ⟨p2, q, rfl⟩ := inArg_ok h1
  unfold cvSortset at h2
  split at h2
  · rename_i a
    split at h2
    · cases h2
    · rename_i hst
      obtain ⟨x, hx, rfl⟩ := optS h2
      refine (de_sortset o.calm (glb_ok o g1).1 (o.mg _ (by decide)) (glb_ok o g2).1 (o.mg _ (by decide)) (G.e o hx).1 (star1 (by simpa using hst))).imp fun σ H Q ⟨σd, ρ, st, d, st', q1, q2, q3, q4⟩ => ?_
      obtain ⟨xs, st1, e1, q3⟩ := bindS q3
      obtain ⟨y, st2, e2, e1⟩ := bindS e1
      obtain ⟨ys, st3, e3, e1⟩ := bindS e1
      obtain ⟨rfl, rfl⟩ := pureS (show (pure [] : M (List D)) st2 = some (ys, st3) from e3)
      obtain ⟨rfl, rfl⟩ := pureS e1
      exact ⟨σd, ρ, st, d, st', q1, q2, bindE e2 q3, q4⟩
  · cases h2
theorem ok_lrng (G : Good fa hs cf k w R) (o : XOk X fa hs cf k c) {args : List Expr} {e' : E} (g1 : glb c "list" = true) (g2 : glb c "range" = true) (h : (inArg "range" args).bind (cvLrng R c) = some e') : DE X fa hs (.Call (.Name "list" p) args [] pos) (ev w cf e') := by
  obtain ⟨es, h1, h2⟩ := Option.bind_eq_some_iff.mp h
  obtain ⟨p2, q, rfl⟩ := inArg_ok h1
  unfold cvLrng at h2
  split at h2
  · rename_i a
    obtain ⟨xs, hx, rfl⟩ := optS h2
    obtain ⟨q1, ns, hl⟩ := ok_es G o hx
    have n1 : isStar a = false := by
      unfold noStar at ns
      rw [List.all_cons, Bool.and_eq_true, Bool.not_eq_true'] at ns
      exact ns.1
    exact de_lrng1 o.calm (glb_ok o g1).1 (o.mg _ (by decide)) (glb_ok o g2).1 (o.mg _ (by decide)) q1 (fun _ _ _ _ z => (da_len z).trans hl) (star1 n1)
  · rename_i a b
    obtain ⟨xs, hx, rfl⟩ := optS h2
    obtain ⟨q1, ns, hl⟩ := ok_es G o hx
    have n1 : isStar a = false ∧ noStar [b] = true := by
      unfold noStar at ns
      rw [List.all_cons, Bool.and_eq_true, Bool.not_eq_true'] at ns
      exact ns
    exact de_lrng2 o.calm (glb_ok o g1).1 (o.mg _ (by decide)) (glb_ok o g2).1 (o.mg _ (by decide)) q1 (fun _ _ _ _ z => (da_len z).trans hl) (star1 n1.1) (plain_row n1.2)
  · cases h2
theorem ok_callN (G : Good fa hs cf k w R) (o : XOk X fa hs cf k c) {f : Str} {args : List Expr} {e' : E} (h : cvCallN R c f args = some e') : DE X fa hs (.Call (.Name f p) args [] pos) (ev w cf e') := by
  unfold cvCallN at h
  split at h
  · rename_i hf
    subst hf
    split at h
    · rename_i hg
      rw [Bool.and_eq_true] at hg
      exact ok_sortset G o hg.1 hg.2 h
    · cases h
  split at h
  · rename_i hf
    rw [Bool.and_eq_true, decide_eq_true_eq] at hf
    obtain ⟨rfl, _⟩ := hf
    split at h
    · rename_i hg
      rw [Bool.and_eq_true] at hg
      exact ok_lrng G o hg.1 hg.2 h
    · cases h
  split at h
  · cases h
  · rename_i es hes
    obtain ⟨ha, ns, hl⟩ := ok_es G o hes
    split at h
    · rename_i hv
      obtain ⟨q1, q2, q3⟩ := vis_ok o hv
      cases args with
      | nil => cases h
      | cons e0 er =>
        obtain ⟨i, hi, rfl⟩ := optS (show (slotOf c.N f).map (fun i => E.callv i es) = some e' from h)
        have n2 : isStar e0 = false ∧ noStar er = true := by
          unfold noStar at ns
          rw [List.all_cons, Bool.and_eq_true, Bool.not_eq_true'] at ns
          exact ns
        exact de_callv (by rw [o.N]; exact slot_ok hi) q1 o.fnv o.room ha q2 q3 (star1 n2.1) (plain_row n2.2)
    · split at h
      · rename_i hg
        obtain ⟨g1, g2, g3⟩ := glb_ok o hg
        split at h
        · rename_i f' hf
          cases h
          obtain ⟨A, fd, ps, np, z1, z2, z3, z4, z5, z6⟩ := o.fns f f' hf
          cases args with
          | nil =>
            cases es with
            | cons _ _ => cases hl
            | nil =>
              refine (de_call0' (np := np) z5 o.room g1 z2 z3 z4 z6 g2)
          | cons e0 er =>
            have n2 : isStar e0 = false ∧ noStar er = true := by
              unfold noStar at ns
              rw [List.all_cons, Bool.and_eq_true, Bool.not_eq_true'] at ns
              exact ns
            exact de_call' z5 o.room g1 z2 z3 z4 ha z6 g2 (star1 n2.1) (plain_row n2.2)
        · cases args with
          | nil => cases h
          | cons e0 er =>
            obtain ⟨b, hb, rfl⟩ := optS (show (biFind f).map (fun b => E.bi b es) = some e' from h)
            obtain ⟨rfl, hm⟩ := biFind_ok hb
            exact ok_bi o hm hg ha ns
      · cases h
end
end TL

/-! One depth of the promise: what is walked, comprehensions, the rest of the expressions. -/
namespace TL
open PySem PySem.Spec PyProof.Rows L2
section
variable {X : Cx} {fa : Nat → Option Addr} {hs : D → Int} {cf : Nat → List D → M D} {k w : Nat} {c : CC} {R : CV} {pos p apos cpos : Pos} {kk : Nat}

theorem noStar1 {e : Expr} {es : List Expr} (ns : noStar (e :: es) = true) : isStar e = false ∧ noStar es = true := by
  unfold noStar at ns
  rw [List.all_cons, Bool.and_eq_true, Bool.not_eq_true'] at ns
  exact ns
theorem cvEs2 {a b : Expr} {es : List E} (h : cvEs R c [a, b] = some es) : ∃ x y, R.e c a = some x ∧ R.e c b = some y ∧ es = [x, y] ∧ isStar a = false ∧ isStar b = false := by
  unfold cvEs at h
  split at h
  · cases h
  · rename_i sa
    split at h
    · rename_i x r hx hr
      cases h
      unfold cvEs at hr
      split at hr
      · cases hr
      · rename_i sb
        split at hr
        · rename_i y r2 hy hr2
          cases hr
          cases hr2
          exact ⟨x, y, hx, hy, rfl, by simpa using sa, by simpa using sb⟩
        · cases hr
    · cases h
theorem ok_meth (G : Good fa hs cf k w R) (o : XOk X fa hs cf k c) {ob : Expr} {name : Str} {args : List Expr} {e' : E} (h : cvMeth R c ob name args apos cpos = some e') : DE X fa hs (.Call (.Attribute ob name apos) args [] cpos) (ev w cf e') := by
  unfold cvMeth at h
  split at h
  · rename_i hb
    rw [Bool.and_eq_true] at hb
    split at h
    · rename_i a es arg ha hes
      split at h
      · rename_i hn
        subst hn
        cases h
        obtain ⟨q, ns, hl⟩ := ok_es G o hes
        have n1 := noStar1 ns
        refine de_append (G.e o ha).1 q (base_ok hb.1) ?_ hb.2 (star1 n1.1) (plain_row n1.2)
        rw [back_all _ (star_none ns)]
        rfl
      · cases h
    · rename_i a es a1 a2 ha hes
      split at h
      · rename_i hn
        subst hn
        cases h
        obtain ⟨_, ns, _⟩ := ok_es G o hes
        obtain ⟨x, y, hx, hy, rfl, s1, s2⟩ := cvEs2 hes
        have un : X.A.units + 65 < cLine := by have := o.room.un; omega
        have ew := o.hw
        subst ew
        refine (de_getS un (G.e o ha).1 (G.e o hx).1 (G.e o hy).1 ⟨base_ok hb.1, by rw [back_all _ (star_none ns)]; rfl, hb.2, by rw [star1 s1, star1 s2]; rfl⟩).imp fun σ H Q ⟨σd, ρ, st, d, st', q1, q2, q3, q4⟩ => ?_
        obtain ⟨v, st1, e1, q3⟩ := bindS q3
        obtain ⟨u, st2, e2, q3⟩ := bindS q3
        obtain ⟨xs, st3, e3, q3⟩ := bindS q3
        obtain ⟨v1, st4, e4, e3⟩ := bindS e3
        obtain ⟨ys, st5, e5, e3⟩ := bindS e3
        obtain ⟨v2, st6, e6, e5⟩ := bindS e5
        obtain ⟨zs, st7, e7, e5⟩ := bindS e5
        obtain ⟨rfl, rfl⟩ := pureS (show (pure [] : M (List D)) st6 = some (zs, st7) from e7)
        obtain ⟨rfl, rfl⟩ := pureS e5
        obtain ⟨rfl, rfl⟩ := pureS e3
        exact ⟨σd, ρ, st, d, st', q1, q2, bindE e1 (bindE e2 (bindE e4 (bindE e6 q3))), q4⟩
      · split at h
        · rename_i hn
          subst hn
          cases h
          obtain ⟨_, ns, _⟩ := ok_es G o hes
          obtain ⟨x, y, hx, hy, rfl, s1, s2⟩ := cvEs2 hes
          have un : X.A.units + 65 < cLine := by have := o.room.un; omega
          have ew := o.hw
          subst ew
          refine (de_sdS un (G.e o ha).1 (G.e o hx).1 (G.e o hy).1 ⟨base_ok hb.1, by rw [back_all _ (star_none ns)]; rfl, hb.2, by rw [star1 s1, star1 s2]; rfl⟩).imp fun σ H Q ⟨σd, ρ, st, d, st', q1, q2, q3, q4⟩ => ?_
          obtain ⟨v, st1, e1, q3⟩ := bindS q3
          obtain ⟨u, st2, e2, q3⟩ := bindS q3
          obtain ⟨xs, st3, e3, q3⟩ := bindS q3
          obtain ⟨v1, st4, e4, e3⟩ := bindS e3
          obtain ⟨ys, st5, e5, e3⟩ := bindS e3
          obtain ⟨v2, st6, e6, e5⟩ := bindS e5
          obtain ⟨zs, st7, e7, e5⟩ := bindS e5
          obtain ⟨rfl, rfl⟩ := pureS (show (pure [] : M (List D)) st6 = some (zs, st7) from e7)
          obtain ⟨rfl, rfl⟩ := pureS e5
          obtain ⟨rfl, rfl⟩ := pureS e3
          exact ⟨σd, ρ, st, d, st', q1, q2, bindE e1 (bindE e2 (bindE e4 (bindE e6 q3))), q4⟩
        · cases h
    · cases h
  · cases h
theorem tupleX {tg : Expr} (h : isTuple tg = true) : ∃ es k p, tg = .Tuple es k p := by
  cases tg <;> first | exact ⟨_, _, _, rfl⟩ | cases h
theorem di_range (o : XOk X fa hs cf k c) {tg : Expr} {args : List Expr} {es : List E} (hg : Gl X "range") (ha : DA X fa hs args (evs w cf es)) (ns : noStar args = true) (hl : es.length = args.length) (h1 : 1 ≤ args.length ∧ args.length ≤ 3) :
    DI X fa hs tg (.Call (.Name "range" p) args [] pos) (rngM (evs w cf es)) := by
  have mg0 : X.mg "range" = none := o.mg _ (by decide)
  have len : ∀ σ st ds st', evs w cf es σ st = some (ds, st') → ds.length = args.length := fun _ _ _ _ h => by rw [← hl]; exact da_len h
  match args, ns, h1, ha, len with
  | [a], ns, _, ha, len =>
    have n1 := noStar1 ns
    exact di_rng1 hg mg0 ha len (star1 n1.1)
  | [a, b], ns, _, ha, len =>
    have n1 := noStar1 ns
    have n2 := noStar1 n1.2
    exact di_rng2 hg mg0 ha len (by rw [star1 n1.1, star1 n2.1]; rfl) (star1 n2.1)
  | [a, b, d], ns, _, ha, len =>
    have n1 := noStar1 ns
    exact di_rng3 hg mg0 ha len (star1 n1.1) (plain_row n1.2)
  | [], _, h1, _, _ => exact absurd h1.1 (by simp)
  | _ :: _ :: _ :: _ :: _, _, h1, _, _ => exact absurd h1.2 (by simp)
theorem ok_it (G : Good fa hs cf k w R) (o : XOk X fa hs cf k c) {tg it : Expr} {i' : Itx} (h : cvIt R c tg it = some i') : DI X fa hs tg it (evIt w cf i') ∧ ∀ x, foldedSetIterable it X.env x = pure x := by
  have ex : ∀ {it : Expr}, (R.e c it).map Itx.ex = some i' → DI X fa hs tg it (evIt w cf i') := fun {it} z => by
    obtain ⟨a, ha, rfl⟩ := optS z
    exact di_ex (G.e o ha).1
  unfold cvIt at h
  split at h
  · rename_i f fp args cp
    refine ⟨?_, fun x => rfl⟩
    split at h
    · rename_i hc
      simp only [Bool.and_eq_true] at hc
      obtain ⟨g1, g2, g3⟩ := glb_ok o hc.1.2
      split at h
      · rename_i hf
        subst hf
        split at h
        · rename_i es hes
          split at h
          · rename_i hl
            cases h
            obtain ⟨q, ns, hl2⟩ := ok_es G o hes
            exact di_range o g1 q ns hl2 hl
          · cases h
        · cases h
      · split at h
        · rename_i hf
          subst hf
          split at h
          · rename_i a b
            split at h
            · cases h
            · rename_i hst
              simp only [Bool.or_eq_true, Bool.not_eq_true', not_or, Bool.not_eq_true, Bool.not_eq_false] at hst
              obtain ⟨⟨s1, s2⟩, s3⟩ := hst
              split at h
              · rename_i x y hx hy
                cases h
                obtain ⟨tes, tk, tp, rfl⟩ := tupleX s3
                exact di_zip g1 (o.mg _ (by decide)) (G.e o hx).1 (G.e o hy).1 (star1 s1) (star1 s2) (plain_row (by unfold noStar; rw [List.all_cons, s2]; rfl))
              · cases h
          · cases h
        · split at h
          · rename_i hf
            subst hf
            split at h
            · rename_i a b hin
              obtain ⟨p2, q2, rfl⟩ := inArg_ok hin
              split at h
              · cases h
              · rename_i hst
                simp only [Bool.or_eq_true, Bool.not_eq_true', not_or, Bool.not_eq_true, Bool.not_eq_false] at hst
                obtain ⟨⟨⟨s1, s2⟩, s3⟩, s4⟩ := hst
                split at h
                · rename_i x y hx hy
                  cases h
                  obtain ⟨tes, tk, tp, rfl⟩ := tupleX s3
                  exact di_enz g1 (o.mg _ (by decide)) (glb_ok o s4).1 (o.mg _ (by decide)) (G.e o hx).1 (G.e o hy).1 (star1 s1) (star1 s2) (plain_row (by unfold noStar; rw [List.all_cons, s2]; rfl))
                · cases h
            · cases h
            · split at h
              · rename_i a
                split at h
                · cases h
                · rename_i hst
                  simp only [Bool.or_eq_true, Bool.not_eq_true', not_or, Bool.not_eq_true, Bool.not_eq_false] at hst
                  obtain ⟨s1, s3⟩ := hst
                  split at h
                  · rename_i x hx
                    cases h
                    obtain ⟨tes, tk, tp, rfl⟩ := tupleX s3
                    exact di_enum g1 (o.mg _ (by decide)) (G.e o hx).1 (star1 s1) (star1 s1)
                  · cases h
              · cases h
          · exact ex h
    · exact ex h
  · rename_i ob name ap args cp
    refine ⟨?_, fun x => rfl⟩
    split at h
    · rename_i hn
      subst hn
      split at h
      · rename_i hb
        simp only [Bool.and_eq_true] at hb
        obtain ⟨⟨⟨b1, b2⟩, b3⟩, b4⟩ := hb
        obtain ⟨a, ha, rfl⟩ := optS h
        obtain ⟨tes, tk, tp, rfl⟩ := tupleX b3
        cases args with
        | cons _ _ => cases b4
        | nil => exact di_items (G.e o ha).1 (base_ok b1) b2
      · cases h
    · exact ex h
  · split at h
    · cases h
    · rename_i hs'
      exact ⟨ex h, notSet_ok (by simpa using hs')⟩
theorem ok_ifs (G : Good fa hs cf k w R) (o : XOk X fa hs cf k c) {ifs : List Expr} {fs : List E} (h : cvIfs R c ifs = some fs) : DC X fa hs ifs (tests w cf fs) := by
  unfold cvIfs at h
  split at h
  · cases h; exact dc_nil
  · obtain ⟨a, ha, rfl⟩ := optS h
    exact dc_one (G.e o ha).2.1
  · cases h
/-- the pieces of a comprehension -/
theorem ok_compP (G : Good fa hs cf k w R) (o : XOk X fa hs cf k c) {elt tg it : Expr} {ifs : List Expr} {scope : Scope} {e' : E} (h : cvComp R c elt tg it ifs scope = some e') :
    ∃ (own : List (Str × Nat)) (i : Itx) (t : Tg) (fs : List E) (x : E), e' = .comp (own.map (·.2)) t i fs x ∧ BlkOk X.N X.env.scope scope own ∧ (∀ j ∈ tgS t, j ∈ own.map (·.2)) ∧ DI X fa hs tg it (evIt w cf i) ∧ (∀ x, foldedSetIterable it X.env x = pure x) ∧
      (∀ (s : Shared) (H : Hp) (C : Addr) (cl : List (Str × Addr)) (fp : List Addr), DG (X.blk s H scope (compEnvC scope cl C X.env) fp) fa hs tg (tgS t) (asgn w cf t)) ∧
      (∀ (s : Shared) (H : Hp) (C : Addr) (cl : List (Str × Addr)) (fp : List Addr), DC (X.blk s H scope (compEnvC scope cl C X.env) fp) fa hs ifs (tests w cf fs)) ∧
      (∀ (s : Shared) (H : Hp) (C : Addr) (cl : List (Str × Addr)) (fp : List Addr), DE (X.blk s H scope (compEnvC scope cl C X.env) fp) fa hs elt (ev w cf x)) := by
  unfold cvComp at h
  simp only at h
  split at h
  · rename_i hb
    have bk := blkOk_by hb
    split at h
    · rename_i i t fs x hi ht hf hx
      split at h
      · rename_i hall
        cases h
        obtain ⟨d1, d2⟩ := ok_it G o hi
        refine ⟨_, i, t, fs, x, rfl, by rw [o.N, o.sc]; exact bk, fun j hj => ?_, d1, d2, fun s H C cl fp => G.tg (o.blk bk s H C cl fp) ht, fun s H C cl fp => ok_ifs G (o.blk bk s H C cl fp) hf, fun s H C cl fp => (G.e (o.blk bk s H C cl fp) hx).1⟩
        have q := List.all_eq_true.mp hall j hj
        obtain ⟨p, hp, e⟩ := List.any_eq_true.mp q
        exact List.mem_map.mpr ⟨p, hp, eq_of_beq e⟩
      · cases h
    · cases h
  · cases h
theorem ok_comp (G : Good fa hs cf k w R) (o : XOk X fa hs cf k c) {elt tg it : Expr} {ifs : List Expr} {scope : Scope} {e' : E} (h : cvComp R c elt tg it ifs scope = some e') : DE X fa hs (.ListComp elt [⟨tg, it, ifs, 0⟩] scope pos) (ev w cf e') := by
  obtain ⟨own, i, t, fs, x, rfl, b, sl, d1, d2, d3, d4, d5⟩ := ok_compP G o h
  exact de_comp o.calm (by rw [o.N]; exact o.nd) d1 b sl d3 d4 d5 d2
theorem ok_opt (G : Good fa hs cf k w R) (o : XOk X fa hs cf k c) {b : Option Expr} {e' : E} (h : cvOpt R c b = some e') : DO_ X fa hs b (fun σ => if e'.isNon = true then pure none else M.bind (ev w cf e' σ) fun v => M.lift (optI v)) := by
  cases b with
  | none =>
    have h' : some E.non = some e' := h
    cases h'
    exact do_none
  | some e =>
    have h' : (match R.e c e with
      | some a => if a.isNon = true then none else some a
      | none => none) = some e' := h
    split at h'
    · rename_i a ha
      split at h'
      · cases h'
      · rename_i hn
        cases h'
        have z := do_some (G.e o ha).1
        refine z.imp fun σ H Q ⟨σd, ρ, st, i, st', h1, h2, h3, q⟩ => ⟨σd, ρ, st, i, st', h1, h2, ?_, q⟩
        have h3' : (if e'.isNon = true then pure none else M.bind (ev w cf e' σd) fun v => M.lift (optI v)) st = some (i, st') := h3
        rw [if_neg hn] at h3'
        exact h3'
    · cases h'
theorem plainIx_ok {i : Expr} (h : isSliceX i = false) : PlainIx i := by
  intro a b
  cases i <;> first | rfl | cases h
theorem units_ok (o : XOk X fa hs cf k c) : X.A.units + 65 < cLine := by have := o.room.un; omega
/-- and/or of one -/
theorem dt_one {op : BoolOp} {a : Expr} {m : Env → M D} (h : DT X fa hs a m) : DT X fa hs (.BoolOp op [a] pos) m := by
  cases op with
  | And => exact dt_of_dw (dw_and1 h)
  | Or => exact dt_of_dw (dw_or1 h)
end
end TL

/-! One depth of the promise: all expressions, targets. -/
namespace TL
open PySem PySem.Spec PyProof.Rows L2
section
variable {X : Cx} {fa : Nat → Option Addr} {hs : D → Int} {cf : Nat → List D → M D} {k w : Nat} {c : CC} {R : CV} {pos p apos cpos : Pos} {kk : Nat}

/-- a if t else b as a test -/
def tIfT (tc ta tb : TT) : TT := fun σ H Q => tc σ H fun d H1 => if d = true then ta σ H1 Q else tb σ H1 Q
theorem pt_ifT {t a b : Expr} {tc ta tb : TT} (hc : PT X t tc) (ha : PT X a ta) (hb : PT X b tb) : PT X (.IfExp t a b pos) (tIfT tc ta tb) := by
  refine ⟨fun pins s σ H Q I h => ?_⟩
  show wpAny _ _ (isTrue t X.env (eval t X.env) >>= fun d => if d = true then isTrue a X.env (eval a X.env) else isTrue b X.env (eval b X.env)) _ _ _
  refine wpAny_bind (thn (hc.run pins s σ H _ I h) fun d s1 ⟨H1, I1, q1⟩ => ?_)
  cases d with
  | true => exact ha.run pins s1 σ H1 Q I1 q1
  | false => exact hb.run pins s1 σ H1 Q I1 q1
theorem dt_if {t a b : Expr} {mc ma mb : Env → M D} (hc : DT X fa hs t mc) (ha : DT X fa hs a ma) (hb : DT X fa hs b mb) : DT X fa hs (.IfExp t a b pos) (ifM mc ma mb) := (pt_ifT hc ha hb).imp fun σ H Q ⟨σd, ρ, st, bb, st', h1, h2, h3, q⟩ => by
  obtain ⟨x, st1, e1, h3⟩ := bindS h3
  obtain ⟨d, st2, e2, h3⟩ := bindS h3
  obtain ⟨rfl, rfl⟩ := tstS e2
  refine ⟨σd, ρ, st, d, st1, h1, h2, e1, fun H1 ρ1 g1 k1 => ?_⟩
  cases d with
  | true => exact iteT ⟨σd, ρ1, st1, bb, st', h1.mono g1, k1, h3, fun H2 ρ2 g2 k2 => q H2 ρ2 (g1.trans g2) k2⟩
  | false => exact iteF ⟨σd, ρ1, st1, bb, st', h1.mono g1, k1, h3, fun H2 ρ2 g2 k2 => q H2 ρ2 (g1.trans g2) k2⟩
theorem noBool {e : Expr} {P : Prop} (h : isBoolX e = false) : isBoolX e = true → P := fun z => by rw [h] at z; cases z
theorem ok_e1 (G : Good fa hs cf k w R) (o : XOk X fa hs cf k c) {e : Expr} {e' : E} (h : cvE1 R c e = some e') : DE X fa hs e (ev w cf e') ∧ DT X fa hs e (ev w cf e') ∧ (isBoolX e = true → DW X fa hs e (ev w cf e')) := by
  obtain ⟨hk⟩ := o.hooks X rfl rfl rfl rfl o.calm
  have un := units_ok o
  unfold cvE1 at h
  split at h
  · exact both (ok_const h) rfl
  · exact both (ok_name o h) rfl
  · split at h
    · rename_i hz
      obtain ⟨es, hes, rfl⟩ := optS h
      obtain ⟨q, ns, hl⟩ := ok_es G o hes
      exact both (de_tup q hz fun _ _ _ _ z => by rw [← hl]; exact da_len z) rfl
    · cases h
  · split at h
    · rename_i hz
      obtain ⟨es, hes, rfl⟩ := optS h
      obtain ⟨q, ns, hl⟩ := ok_es G o hes
      exact both (de_lst q hz fun _ _ _ _ z => by rw [← hl]; exact da_len z) rfl
    · cases h
  · split at h
    · rename_i o' x y ho hx hy
      cases h
      cases cvOp_ok ho
      exact both (de_bin (G.e o hx).1 (G.e o hy).1) rfl
    · cases h
  · obtain ⟨a, ha, rfl⟩ := optS h
    refine both ?_ rfl
    exact (de_neg (G.e o ha).1).imp fun σ H Q ⟨σd, ρ, st, d, st', h1, h2, h3, q⟩ => ⟨σd, ρ, st, d, st', h1, h2, h3, q⟩
  · obtain ⟨a, ha, rfl⟩ := optS h
    exact ⟨de_not (G.e o ha).1, dt_not (G.e o ha).2.1, noBool rfl⟩
  · split at h
    · cases h
    · rename_i hb
      split at h
      · rename_i o' x y ho hx hy
        cases h
        cases cvCp_ok ho
        have hb' : behindInMarks (copP o') _ = false := Bool.eq_false_iff.mpr hb
        exact ⟨de_cmp hk.moreOk hk.moreAns un (G.e o hx).1 (G.e o hy).1 hb', dt_cmp hk.moreOk hk.moreAns un (G.e o hx).1 (G.e o hy).1 hb', noBool rfl⟩
      · cases h
  · split at h
    · cases h
    · rename_i hb
      split at h
      · rename_i p q x y z hp hq hx hy hz
        cases h
        cases cvCp_ok hp
        cases cvCp_ok hq
        have hb' := Bool.eq_false_iff.mpr hb
        exact ⟨de_chain hk.moreOk hk.moreAns un (G.e o hx).1 (G.e o hy).1 (G.e o hz).1 hb', dt_chain hk.moreOk hk.moreAns un (G.e o hx).1 (G.e o hy).1 (G.e o hz).1 hb', noBool rfl⟩
      · cases h
  · rename_i op a2 bp
    obtain ⟨q1, q2, q3⟩ := G.e o h
    refine ⟨de_one q1, dt_one q2, fun _ => ?_⟩
    cases op with
    | And => exact dw_and1 q2
    | Or => exact dw_or1 q2
  · rename_i a r bp hne
    split at h
    · rename_i x y hx hy
      cases h
      obtain ⟨q1, q2, q3⟩ := G.e o hx
      obtain ⟨p1, p2, p3⟩ := G.e o hy
      cases r with
      | nil => exact absurd rfl hne
      | cons b r =>
        exact ⟨de_and q1 p1, dt_of_dw (dw_and q2 (p3 rfl)), fun _ => dw_and q2 (p3 rfl)⟩
    · cases h
  · rename_i a r bp hne
    split at h
    · rename_i x y hx hy
      cases h
      obtain ⟨q1, q2, q3⟩ := G.e o hx
      obtain ⟨p1, p2, p3⟩ := G.e o hy
      cases r with
      | nil => exact absurd rfl hne
      | cons b r =>
        exact ⟨de_or q1 p1, dt_of_dw (dw_or q2 (p3 rfl)), fun _ => dw_or q2 (p3 rfl)⟩
    · cases h
  · split at h
    · rename_i x y z hx hy hz
      cases h
      exact ⟨de_if (G.e o hx).2.1 (G.e o hy).1 (G.e o hz).1, dt_if (G.e o hx).2.1 (G.e o hy).2.1 (G.e o hz).2.1, noBool rfl⟩
    · cases h
  · split at h
    · rename_i x l u hx hl hu
      cases h
      exact both (de_slc (G.e o hx).1 (ok_opt G o hl) (ok_opt G o hu)) rfl
    · cases h
  · split at h
    · cases h
    · rename_i hsl
      split at h
      · rename_i x y hx hy
        cases h
        exact both (de_idx hk.ixMore (G.e o hx).1 (G.e o hy).1 (plainIx_ok (by simpa using hsl))) rfl
      · cases h
  · exact both (ok_callN G o h) rfl
  · exact both (ok_meth G o h) rfl
  · exact both (ok_comp G o h) rfl
  · cases h
    have ew := o.hw
    subst ew
    refine both (de_dnewS.imp fun σ H Q ⟨σd, ρ, st, d, st', h1, h2, h3, q⟩ => ⟨σd, ρ, st, d, st', h1, h2, ?_, q⟩) rfl
    obtain ⟨L, st1, e1, h3⟩ := bindS h3
    obtain ⟨xs, st2, e2, h3⟩ := bindS h3
    obtain ⟨rfl, rfl⟩ := pureS (show (pure [] : M (List D)) st1 = some (xs, st2) from e2)
    obtain ⟨u, st3, e3, h3⟩ := bindS h3
    obtain ⟨_, rfl⟩ := pureS (show (pure () : M Unit) st1 = some (u, st3) from e3)
    obtain ⟨rfl, rfl⟩ := pureS h3
    exact e1
  · split at h
    · rename_i x y hx hy
      cases h
      have ew := o.hw
      subst ew
      refine both ((de_disp1 un (G.e o hx).1 (G.e o hy).1).imp fun σ H Q ⟨σd, ρ, st, d, st', h1, h2, h3, q⟩ => ⟨σd, ρ, st, d, st', h1, h2, ?_, q⟩) rfl
      obtain ⟨L, st1, e1, h3⟩ := bindS h3
      obtain ⟨xs, st2, e2, h3⟩ := bindS h3
      obtain ⟨x1, st4, e4, e2⟩ := bindS e2
      obtain ⟨ys, st5, e5, e2⟩ := bindS e2
      obtain ⟨y1, st6, e6, e5⟩ := bindS e5
      obtain ⟨zs, st7, e7, e5⟩ := bindS e5
      obtain ⟨rfl, rfl⟩ := pureS (show (pure [] : M (List D)) st6 = some (zs, st7) from e7)
      obtain ⟨rfl, rfl⟩ := pureS e5
      obtain ⟨rfl, rfl⟩ := pureS e2
      exact bindE e1 (bindE e4 (bindE e6 h3))
    · cases h
  · cases h
theorem ok_tg1 (G : Good fa hs cf k w R) (o : XOk X fa hs cf k c) {e : Expr} {t : Tg} (h : cvTg1 R c e = some t) : DG X fa hs e (tgS t) (asgn w cf t) := by
  obtain ⟨hk⟩ := o.hooks X rfl rfl rfl rfl o.calm
  unfold cvTg1 at h
  split at h
  · split at h
    · rename_i hl
      obtain ⟨i, hi, rfl⟩ := optS h
      obtain ⟨l1, l2⟩ := loc_ok o hl
      exact dg_name (by rw [o.N]; exact o.nd) (by rw [o.N]; exact slot_ok hi) l1 l2
    · cases h
  · obtain ⟨ts, hts, rfl⟩ := optS h
    obtain ⟨q1, q2, q3⟩ := ok_tgs G o hts
    exact dg_tup o.calm q1 q2 q3
  · split at h
    · cases h
    · rename_i hsl
      split at h
      · rename_i x y hx hy
        cases h
        exact dg_sub hk.setMore (G.e o hx).1 (G.e o hy).1 fun v => by
          rename_i i _ _ _
          cases i <;> first | rfl | exact absurd rfl hsl
      · cases h
  · cases h
end
end TL

/-! One depth of the promise: statements. -/
namespace TL
open PySem PySem.Spec PyProof.Rows L2
section
variable {X : Cx} {fa : Nat → Option Addr} {hs : D → Int} {cf : Nat → List D → M D} {k w : Nat} {c : CC} {R : CV} {pos p apos cpos : Pos} {kk : Nat}

theorem swapsNo {e : Expr} {t : Option Expr} {l : Nat} {env : PySem.Env} (h : isComp e = false) : swapsWith e t l env = pure false := by
  cases e <;> first | rfl | cases h
theorem isComp_iff {e : Expr} (h : isComp e = true) : (∃ a b s p, e = .ListComp a b s p) ∨ (∃ a b s p, e = .SetComp a b s p) ∨ ∃ a v b s p, e = .DictComp a v b s p := by
  cases e <;> first
    | exact .inl ⟨_, _, _, _, rfl⟩
    | exact .inr (.inl ⟨_, _, _, _, rfl⟩)
    | exact .inr (.inr ⟨_, _, _, _, _, rfl⟩)
    | exact Bool.noConfusion (show false = true from h)
theorem storesNo {tg e : Expr} {env : PySem.Env} (h1 : isListX tg = false) (h2 : (isTuple tg && isTuple e) = false) : swappedStores [tg] e env = pure none := by
  cases tg with
  | List _ _ => cases h1
  | Tuple ts k p => cases e <;> first | rfl | cases h2
  | _ => rfl
theorem ok_parS (o : XOk X fa hs cf k c) : ∀ {ts : List Expr} {is : List Nat}, parSlots c ts = some is → DGs X fa hs ts is (namesG is) ∧ (assignEach ts X.env).length = is.length ∧ (assignEach ts X.env).findIdx? (·.1) = none ∧ ts.length = is.length
  | [], is, h => by
    cases h
    refine ⟨?_, rfl, rfl, rfl⟩
    exact dgs_nil.imp fun v σ H Q ⟨σd, ρ, st, d, σd', st', h1, h2, h3, h4, q⟩ => ⟨σd, ρ, st, d, σd', st', h1, h2, h3, by cases d <;> exact h4, q⟩
  | e :: es, is, h => by
    unfold parSlots at h
    split at h
    · cases ‹_ :: _ = []›
    · rename_i x px r heq
      cases heq
      split at h
      · rename_i hl
        split at h
        · rename_i i js hi hjs
          split at h
          · cases h
          · cases h
            obtain ⟨q1, q2, q3, q4⟩ := ok_parS o hjs
            obtain ⟨l1, l2⟩ := loc_ok o hl
            have z := dgs_cons (dg_name (pos := px) (by rw [o.N]; exact o.nd) (by rw [o.N]; exact slot_ok hi) l1 l2) q1 rfl
            refine ⟨z.imp fun v σ H Q ⟨σd, ρ, st, d, σd', st', h1, h2, h3, h4, q⟩ => ⟨σd, ρ, st, d, σd', st', h1, h2, h3, by cases d <;> exact h4, q⟩, by rw [asg1 rfl, List.length_cons, List.length_cons, q2], by rw [asg1 rfl, List.findIdx?_cons]; simp [q3], by rw [List.length_cons, List.length_cons, q4]⟩
        · cases h
      · cases h
    · cases h
theorem blockKind_ok (o : XOk X fa hs cf k c) : X.env.blockKind = .function := by
  have h : X.env.scope.kind = .function := by rw [o.sc]; exact o.kind
  unfold PySem.Env.blockKind
  rw [h]
  rfl
theorem sw_eq (o : XOk X fa hs cf k c) {ts vs : List Expr} {k1 k2 : Nat} {p1 p2 : Pos} (h : parOk c ts vs = true) :
    swappedStores [.Tuple ts k1 p1] (.Tuple vs k2 p2) X.env = pure (if (locs c (lineOf ts) ts).length = ts.length then some (locs c (lineOf ts) ts) else none) := by
  unfold parOk at h
  simp only [Bool.and_eq_true, decide_eq_true_eq] at h
  obtain ⟨⟨⟨⟨h1, h2⟩, h3⟩, h4⟩, h5⟩ := h
  have e1 : (!(ts.length == 2 || ts.length == 3) || vs.length != ts.length || X.env.blockKind != .function) = false := by
    rw [h1, blockKind_ok o, bne, h2]
    rfl
  have e2 : (vs.any fun | .Starred .. => true | _ => false) = false := by
    rw [List.any_eq_false]
    intro x hx
    have q := List.all_eq_true.mp h3 x hx
    cases x <;> first | exact Bool.false_ne_true | cases q
  have e3 : (ts.filterMap fun
      | .Name id pos => if (X.env.kindOf id == some .local && pos.line == (ts.head?.map (·.pos.line)).getD 0) = true then some id else none
      | _ => none) = locs c (lineOf ts) ts := by
    unfold locs lineOf
    congr 1
    funext x
    cases x <;> first | rfl | skip
    show (if (X.env.scope.names.lookup _ == some .local && _) = true then _ else _) = _
    rw [o.sc]
  unfold swappedStores
  simp only []
  rw [if_neg (by rw [e1]; exact Bool.false_ne_true)]
  generalize hA : List.any vs _ = av
  have e5 : av = false := hA.symm.trans e2
  subst e5
  rw [if_neg Bool.false_ne_true]
  generalize hN : List.filterMap _ ts = names
  have e4 : names = locs c (lineOf ts) ts := by rw [← hN]; exact e3
  rw [e4]
  generalize locs c (lineOf ts) ts = nm at h5
  by_cases hl : nm.length = ts.length
  · rw [if_pos hl]
    have b1 : (nm.length != ts.length) = false := by rw [bne, beq_iff_eq.mpr hl]; rfl
    rw [b1, Bool.false_or, Bool.and_eq_true, Bool.and_eq_true] at h5
    obtain ⟨⟨h6, h7⟩, h8⟩ := h5
    have b2 : (nm.eraseDups.length != nm.length) = false := by rw [bne, h6]; rfl
    rw [if_neg (by rw [b1, b2]; exact Bool.false_ne_true), if_neg (by rw [Bool.not_eq_true'] at h7; rw [h7]; exact Bool.false_ne_true), if_neg (by rw [Bool.not_eq_true'] at h8; rw [h8]; exact Bool.false_ne_true)]
  · rw [if_neg hl]
    have b1 : (nm.length != ts.length) = true := by rw [bne, Bool.not_eq_true']; exact beq_eq_false_iff_ne.mpr hl
    rw [if_pos (by rw [b1]; rfl)]

/-- one name of several -/
theorem parS_cons {e : Expr} {es : List Expr} {is : List Nat} (h : parSlots c (e :: es) = some is) : ∃ x px i js, e = .Name x px ∧ loc c x = true ∧ slotOf c.N x = some i ∧ parSlots c es = some js ∧ i ∉ js ∧ is = i :: js := by
  unfold parSlots at h
  split at h
  · cases ‹_ :: _ = []›
  · rename_i x px r heq
    cases heq
    split at h
    · rename_i hl
      split at h
      · rename_i i js hi hjs
        split at h
        · cases h
        · rename_i hc
          cases h
          exact ⟨x, px, i, js, rfl, hl, hi, hjs, fun hm => hc (by rw [List.contains_eq_mem]; exact decide_eq_true hm), rfl⟩
      · cases h
    · cases h
  · cases h
theorem parS_nil {is : List Nat} (h : parSlots c [] = some is) : is = [] := by cases h; rfl
theorem locs_cons {l : Nat} {x : Str} {px : Pos} {es : List Expr} : locs c l (.Name x px :: es) = if (c.sc.names.lookup x == some .local && px.line == l) = true then x :: locs c l es else locs c l es := by
  by_cases hc : (c.sc.names.lookup x == some .local && px.line == l) = true
  · rw [if_pos hc]
    simp only [locs, List.filterMap_cons, hc, if_true]
  · rw [if_neg hc]
    simp only [locs, List.filterMap_cons, hc]
    rfl
theorem locs_le {l : Nat} {es : List Expr} : (locs c l es).length ≤ es.length := List.length_filterMap_le _ _
theorem locs_full {l : Nat} {x : Str} {px : Pos} {es : List Expr} (h : (locs c l (.Name x px :: es)).length = es.length + 1) : c.sc.names.lookup x = some .local ∧ locs c l (.Name x px :: es) = x :: locs c l es ∧ (locs c l es).length = es.length := by
  rw [locs_cons] at h ⊢
  split at h
  · rename_i hc
    rw [if_pos hc]
    rw [Bool.and_eq_true] at hc
    refine ⟨eq_of_beq hc.1, rfl, ?_⟩
    rw [List.length_cons] at h
    omega
  · have := locs_le (c := c) (l := l) (es := es)
    omega
theorem ok_par (G : Good fa hs cf k w R) (o : XOk X fa hs cf k c) {ts vs : List Expr} {k1 k2 : Nat} {p1 p2 : Pos} {s' : S} (h : cvPar R c ts vs = some s') : DS X fa hs (.Assign [.Tuple ts k1 p1] (.Tuple vs k2 p2) pos) (evS w cf s') := by
  unfold cvPar at h
  split at h
  · rename_i hp
    have sw := sw_eq (k1 := k1) (k2 := k2) (p1 := p1) (p2 := p2) o hp
    have hp' := hp
    unfold parOk at hp'
    simp only [Bool.and_eq_true, decide_eq_true_eq] at hp'
    obtain ⟨⟨⟨⟨h1, h2⟩, h3⟩, h4⟩, h5⟩ := hp'
    have h2' : vs.length = ts.length := eq_of_beq h2
    split at h
    · rename_i is es his hes
      cases h
      obtain ⟨q1, q2, q3, q4⟩ := ok_parS o his
      obtain ⟨r1, r2, r3⟩ := ok_es G o hes
      have len : ∀ σ st ds st', evs w cf es σ st = some (ds, st') → ds.length = vs.length := fun _ _ _ _ z => by rw [← r3]; exact da_len z
      by_cases hl : (locs c (lineOf ts) ts).length = ts.length
      · rw [if_pos hl] at sw
        generalize lineOf ts = ln at sw hl
        match ts, vs, h1, h2', his, hl, sw, r1, len with
        | [a, b], [u, v], _, _, his, hl, sw, r1, len =>
          obtain ⟨x, px, i, js, rfl, lx, sx, hj, nx, rfl⟩ := parS_cons his
          obtain ⟨y, py, j, js2, rfl, ly, sy, hj2, ny, rfl⟩ := parS_cons hj
          cases parS_nil hj2
          obtain ⟨f1, f2, f3⟩ := locs_full hl
          obtain ⟨f4, f5, f6⟩ := locs_full f3
          rw [f2, f5] at sw
          exact ds_par2 o.calm (by rw [o.N]; exact o.nd) (by rw [o.N]; exact slot_ok sx) (by rw [o.N]; exact slot_ok sy) (fun z => nx (by simp [z])) (by rw [o.sc]; exact f1) (by rw [o.sc]; exact f4) r1 len sw rfl
        | [a, b, d], [u, v, t], _, _, his, hl, sw, r1, len =>
          obtain ⟨x, px, i, js, rfl, lx, sx, hj, nx, rfl⟩ := parS_cons his
          obtain ⟨y, py, j, js2, rfl, ly, sy, hj2, ny, rfl⟩ := parS_cons hj
          obtain ⟨z, pz, l, js3, rfl, lz, sz, hj3, nz, rfl⟩ := parS_cons hj2
          cases parS_nil hj3
          obtain ⟨f1, f2, f3⟩ := locs_full hl
          obtain ⟨f4, f5, f6⟩ := locs_full f3
          obtain ⟨f7, f8, f9⟩ := locs_full f6
          rw [f2, f5, f8] at sw
          exact ds_par3 o.calm (by rw [o.N]; exact o.nd) (by rw [o.N]; exact slot_ok sx) (by rw [o.N]; exact slot_ok sy) (by rw [o.N]; exact slot_ok sz) (fun z => nx (by simp [z])) (fun z => nx (by simp [z])) (fun z => ny (by simp [z])) (by rw [o.sc]; exact f1) (by rw [o.sc]; exact f4) (by rw [o.sc]; exact f7) r1 len sw rfl
        | [], _, h1, _, _, _, _, _, _ => exact absurd h1 (by decide)
        | [_], _, h1, _, _, _, _, _, _ => exact absurd h1 (by simp)
        | _ :: _ :: _ :: _ :: _, _, h1, _, _, _, _, _, _ => exact absurd h1 (by simp)
      · rw [if_neg hl] at sw
        have hz : ts.length ≤ 3 := by
          rw [Bool.or_eq_true] at h1
          rcases h1 with z | z
          · rw [eq_of_beq z]; decide
          · rw [eq_of_beq z]; decide
        exact ds_par o.calm q1 q2 q3 r1 (by omega) len (by omega) rfl sw rfl
    · cases h
  · cases h
theorem ok_s1 (G : Good fa hs cf k w R) (o : XOk X fa hs cf k c) {s : Stmt} {s' : S} (h : cvS1 R c s = some s') : DS X fa hs s (evS w cf s') := by
  have nd : X.N.Nodup := by rw [o.N]; exact o.nd
  unfold cvS1 at h
  split at h
  · obtain ⟨a, ha, rfl⟩ := optS h
    exact ds_ret (G.e o ha).1
  · split at h
    · cases h
    · rename_i hc
      obtain ⟨a, ha, rfl⟩ := optS h
      exact ds_ex (G.e o ha).1 (swapsNo (by simpa using hc))
  · split at h
    · rename_i x y z hx hy hz
      cases h
      exact ds_if (G.e o hx).2.1 (ok_ss G o hy) (ok_ss G o hz)
    · cases h
  · split at h
    · rename_i x y hx hy
      cases h
      exact ds_while o.xe (G.e o hx).2.1 (ok_ss G o hy)
    · cases h
  · split at h
    · rename_i i t y hi ht hy
      cases h
      obtain ⟨d1, d2⟩ := ok_it G o hi
      exact ds_for o.calm o.xe d1 (G.tg o ht) (ok_ss G o hy) d2
    · cases h
  · split at h
    · rename_i hl
      obtain ⟨l1, l2⟩ := loc_ok o hl
      split at h
      · rename_i i y ho hi hy
        cases h
        cases cvOp_ok ho
        exact ds_aug (.inl rfl) nd (by rw [o.N]; exact slot_ok hi) l1 (G.e o hy).1 l2
      · rename_i i y ho hi hy
        cases h
        cases cvOp_ok ho
        exact ds_aug (.inr rfl) nd (by rw [o.N]; exact slot_ok hi) l1 (G.e o hy).1 l2
      · cases h
    · cases h
  · exact ok_par G o h
  · rename_i y py elt tg it ifs scope p0 sp
    split at h
    · rename_i hl
      split at h
      · rename_i i x hi hx
        cases h
        obtain ⟨l1, l2⟩ := loc_ok o hl
        by_cases hb : (X.env.blockKind == .function && X.env.kindOf y == some .local && py.line == p0.line && !(scope.names.any fun (n, k) => n == y && (k == .local || k == .cell))) = true
        · obtain ⟨own, i', t, fs, x', rfl, b, sl, d1, d2, d3, d4, d5⟩ := ok_compP G o hx
          have hyl : X.env.scope.names.lookup y = some .local := by
            simp only [Bool.and_eq_true] at hb
            exact eq_of_beq hb.1.1.2
          exact ds_setComp o.calm nd (by rw [o.N]; exact slot_ok hi) hyl (by show (pure _ : Sem Bool) = _; exact congrArg pure hb) d1 b sl d3 d4 d5 d2
        · have hsw : swapsWithSole [.Name y py] (.ListComp elt [⟨tg, it, ifs, 0⟩] scope p0) sp.line X.env = pure false := by
            show (pure _ : Sem Bool) = _
            exact congrArg pure (Bool.eq_false_iff.mpr hb)
          exact ds_asg (ok_comp G o hx) (dg_name (i := i) nd (by rw [o.N]; exact slot_ok hi) l1 l2) hsw rfl rfl
      · cases h
    · cases h
  · rename_i tg e sp hne _
    split at h
    · cases h
    · rename_i hc
      simp only [Bool.or_eq_true, not_or, Bool.not_eq_true] at hc
      obtain ⟨⟨⟨c1, c2⟩, c3⟩, c4⟩ := hc
      split at h
      · rename_i t x ht hx
        cases h
        refine ds_asg (G.e o hx).1 (G.tg o ht) ?_ (storesNo c1 c3) (by rw [asg1 c2]; rfl)
        by_cases hcm : isComp e = true
        · rw [hcm, Bool.and_true] at c4
          rcases isComp_iff hcm with ⟨a, b, s, p, rfl⟩ | ⟨a, b, s, p, rfl⟩ | ⟨a, v, b, s, p, rfl⟩ <;> (cases tg <;> first | rfl | cases c4)
        · exact swapsNo (by simpa using hcm)
      · cases h
  · cases h
end
end TL

/-! All defs of a text at once. -/
namespace TL
open PySem PySem.Spec PyProof.Rows L2
section
variable {fa : Nat → Option Addr} {hs : D → Int} {cf : Nat → List D → M D} {k w : Nat}
theorem good_cv : ∀ n : Nat, Good fa hs cf k w (cv n)
  | 0 => { e := fun {_ _} _ {_ _} h => (nomatch h), tg := fun {_ _} _ {_ _} h => (nomatch h), s := fun {_ _} _ {_ _} h => (nomatch h) }
  | n + 1 => { e := fun {_ _} o {_ _} h => ok_e1 (good_cv n) o h, tg := fun {_ _} o {_ _} h => ok_tg1 (good_cv n) o h, s := fun {_ _} o {_ _} h => ok_s1 (good_cv n) o h }
theorem ok_body {X : Cx} {c : CC} {n : Nat} {b : List Stmt} {b' : List S} (o : XOk X fa hs cf k c) (h : cvBody n c b = some b') : DSs X fa hs b (evSs w cf b') := ok_ss (good_cv n) o h
end

/-! ### no further rules: the store has no dicts -/
theorem noD {st : Sto} {n : Nat} {kvs : List (D × D)} (e : getDX st n = some kvs) : XON = true := by
  unfold getDX at e
  split at e
  · assumption
  · cases e
theorem off {P : Prop} (h : XON = true) : P := absurd h (by decide)
theorem eqTup_on {x y : D} {b : Bool} (h : eqTup x y = some b) : XON = true := by
  unfold eqTup at h
  split at h
  · split at h
    · assumption
    · cases h
  · cases h
theorem room1 {k : Nat} {A : Around} (r : Room k A) : A.units + 65 < cLine := by have := r.un; omega
def mrS (Y : Cx) (fa : Nat → Option Addr) : Cop → R2
  | .mem => rInS Y fa false
  | .nmem => rInS Y fa true
  | _ => rNo
def hooks1 (Y : Cx) (fa : Nat → Option Addr) (hu : Y.A.units + 65 < cLine) : Hooks Y fa (hsOf Y.w) where
  mr := mrS Y fa
  ml := rNoL
  mi := rNoL
  mx := rIxS Y fa
  mst := rSetS Y fa
  moreOk := ⟨fun o => by
    cases o with
    | mem => exact op_inS hu
    | nmem => exact op_ninS hu
    | _ => exact op_no⟩
  moreAns := {
    eq := fun {ρ H st x y vx vy b Q} h rx ry e => by
      have on : XON = true := by
        unfold pyEqM at e
        split at e
        · split at e
          · split at e
            · rename_i kvs h1 h2; exact noD h1
            · rename_i kvs h1 h2; exact noD h1
            · cases e
          · cases e
        · exact eqTup_on e
      exact off on
    mem := fun {ρ H st x y vx vy b Q} h rx ry e => by
      unfold pyInM at e
      split at e
      · rename_i n
        split at e
        · rename_i kvs h1
          split at e
          · rename_i hi
            unfold inFor at hi
            rw [Bool.and_eq_true] at hi
            cases e
            exact ⟨fun q => ⟨ρ, st, n, x, kvs, h, rx, ry, h1, hi.1, hi.2, q⟩, fun q => ⟨ρ, st, n, x, kvs, h, rx, ry, h1, hi.1, hi.2, q⟩⟩
          · cases e
        · cases e
      · cases e
    lt := fun {ρ H st xs ys vx vy b Q} h rx ry e => by
      have on : XON = true := by
        unfold ltT at e
        split at e
        · assumption
        · cases e
      exact off on }
  lenMore := { opLen := cr_no, opList := cr_no, len := fun h r e _ => off (noD e), list := fun h r e _ => off (noD e) }
  ixMore := ixMoreS hu
  setMore := setMoreS hu

/-! ### the defs -/
/-- a def of the text: its name, its place, its parameters and slots, its tree, its form -/
structure Row where
  x : Str
  f : Nat
  ps : List Str
  N : List Str
  st : Stmt
  d : Def
def tabOf (rs : List Row) : List (Str × Nat) := rs.map fun r => (r.x, r.f)
/-- what the kernel checks of a row -/
structure RowOk (tab : List (Str × Nat)) (r : Row) : Prop where
  sc : FnScope r.N r.ps (defScope r.st)
  cv : cvBody 40 ⟨defScope r.st, celOf (defScope r.st), r.N, tab⟩ (defBody r.st) = some r.d.body
  np : r.d.np = r.ps.length
  ns : r.d.ns = r.N.length
/-- the defs as they stand behind the top -/
structure Laid (K : PySem.W.Frag) (mg : Str → Option Value) (fa : Nat → Option Addr) (G : Nat → Option Def) (rs : List Row) : Prop where
  row : ∀ r ∈ rs, ∃ A fd, fa r.f = some A ∧ Fun K r.x r.x r.st A fd ∧ Binds K fd r.ps [] ∧ mg r.x = some (.ref A) ∧ G r.f = some r.d
  only : ∀ f A, fa f = some A → ∃ r ∈ rs, r.f = f
  mg : ∀ x ∈ bNames, mg x = none
section
variable {P : Program} {W : World} {K : PySem.W.Frag} {mg : Str → Option Value} {base : Heap} {fa : Nat → Option Addr} {hs : D → Int} {G : Nat → Option Def} {rs : List Row} {w : Nat}
abbrev c0 (K : PySem.W.Frag) (fa : Nat → Option Addr) (hs : D → Int) : LC := ⟨K, fa, hs⟩
theorem callF_len {f : Nat} {d : Def} {k : Nat} (hG : G f = some d) : ∀ xs st r, callF G w k f xs st = some r → xs.length = d.np := by
  intro xs st r h
  cases k with
  | zero => cases h
  | succ k =>
    have h' : (match G f with
      | none => (M.fail : M D)
      | some d => if xs.length = d.np then M.bind (evSs w (callF G w k) d.body (xs.map some ++ List.replicate (d.ns - d.np) none)) fun r => match r with
          | .nx _ => pure .non
          | .rt v => pure v
        else M.fail) st = some r := h
    rw [hG] at h'
    by_cases hl : xs.length = d.np
    · exact hl
    · have h2 : (if xs.length = d.np then M.bind (evSs w (callF G w k) d.body (xs.map some ++ List.replicate (d.ns - d.np) none)) fun r => match r with
          | .nx _ => pure .non
          | .rt v => pure v
        else M.fail) st = some r := h'
      rw [if_neg hl] at h2
      cases h2
theorem callF_some {f : Nat} {d : Def} {k : Nat} {xs : List D} {st st' : Sto} {v : D} (hG : G f = some d) (h : callF G w (k + 1) f xs st = some (v, st')) :
    ∃ fl, evSs w (callF G w k) d.body (xs.map some ++ List.replicate (d.ns - d.np) none) st = some (fl, st') ∧ ((∃ σ, fl = .nx σ ∧ v = .non) ∨ fl = .rt v) := by
  have hl := callF_len hG xs st _ h
  have h' : (match G f with
    | none => (M.fail : M D)
    | some d => if xs.length = d.np then M.bind (evSs w (callF G w k) d.body (xs.map some ++ List.replicate (d.ns - d.np) none)) fun r => match r with
        | .nx _ => pure .non
        | .rt v => pure v
      else M.fail) st = some (v, st') := h
  rw [hG] at h'
  have h2 : (if xs.length = d.np then M.bind (evSs w (callF G w k) d.body (xs.map some ++ List.replicate (d.ns - d.np) none)) fun r => match r with
        | .nx _ => pure .non
        | .rt v => pure v
      else M.fail) st = some (v, st') := h'
  rw [if_pos hl] at h2
  obtain ⟨fl, st1, e1, h3⟩ := bindS h2
  refine ⟨fl, ?_⟩
  cases fl with
  | nx σ =>
    obtain ⟨rfl, rfl⟩ := pureS (show (pure D.non : M D) st1 = some (v, st') from h3)
    exact ⟨e1, .inl ⟨σ, rfl, rfl⟩⟩
  | rt u =>
    obtain ⟨rfl, rfl⟩ := pureS (show (pure u : M D) st1 = some (v, st') from h3)
    exact ⟨e1, .inr rfl⟩
theorem start_rs {c : LC} {ρ : List Addr} {H : Hp} {ds : List D} {vs : List V} {N : List Str} {ns np : Nat} (r : c.ds ρ H ds vs) (hl : ds.length = np) (hn : ns = N.length) : c.s ρ H (ds.map some ++ List.replicate (ns - np) none) (L2.start N vs) := by
  have l := RDs.length r
  refine ⟨?_, fun i d e => ?_⟩
  · unfold L2.start
    rw [List.length_append, List.length_append, List.length_map, List.length_map, List.length_replicate, List.length_replicate]
    omega
  · have hi : i < ds.length := by
      by_cases hi : i < ds.length
      · exact hi
      · rw [List.getElem?_append_right (by simpa using hi), List.getElem?_replicate] at e
        split at e <;> cases e
    rw [List.getElem?_append_left (by simpa using hi), List.getElem?_map] at e
    cases hd : ds[i]? with
    | none => rw [hd] at e; cases e
    | some x =>
      rw [hd] at e
      cases e
      obtain ⟨v, hv, rv⟩ := RDs.get r hd
      refine ⟨v, ?_, rv⟩
      unfold L2.start
      rw [List.getElem?_append_left (by rw [List.length_map]; omega), List.getElem?_map, hv]
      rfl
/-- every def keeps its promise: k calls deep -/
theorem all_fn (L : Laid K mg fa G rs) (ro : ∀ r ∈ rs, RowOk (tabOf rs) r) : ∀ (k : Nat) (r : Row), r ∈ rs → ∀ A fd, fa r.f = some A → Fun K r.x r.x r.st A fd →
    FnOk P W K mg base CX0 k A fd r.ps (spF (c0 K fa (hsOf W)) (callF G w k) r.d.np r.f)
  | 0, r, hr, A, fd, hA, F => { len := fun vs H Q E ⟨ρ, st, ds, d, st', _, _, _, h, _⟩ => (nomatch h), run := fun A' outer s H args us vs Q E _ _ _ _ ⟨ρ, st, ds, d, st', _, _, _, h, _⟩ => (nomatch h) }
  | k + 1, r, hr, A, fd, hA, F => by
    have R := ro r hr
    obtain ⟨_, _, _, _, _, _, hG⟩ := L.row r hr
    refine F.ok R.sc (fun vs H Q E ⟨ρ, st, ds, d, st', _, h2, h3, _, _⟩ => ?_) (fun cdv A' outer s H vs Q E room hsp => ?_)
    · rw [← RDs.length h2, h3, R.np]
    · obtain ⟨ρ, st, ds, d, st', h1, h2, h3, h4, q⟩ := hsp
      obtain ⟨fl, e1, hfl⟩ := callF_some hG h4
      have look : ∀ r' ∈ rs, ∀ A2, fa r'.f = some A2 → ∃ fd2, Fun K r'.x r'.x r'.st A2 fd2 ∧ Binds K fd2 r'.ps [] ∧ mg r'.x = some (.ref A2) ∧ G r'.f = some r'.d ∧ FnOk P W K mg base CX0 k A2 fd2 r'.ps (spF (c0 K fa (hsOf W)) (callF G w k) r'.d.np r'.f) := fun r' hr' A2 h => by
        obtain ⟨A3, fd3, z1, z2, z3, z4, z5⟩ := L.row r' hr'
        rw [h] at z1
        cases z1
        exact ⟨fd3, z2, z3, z4, z5, all_fn L ro k r' hr' A2 fd3 h z2⟩
      have o : XOk (cxOf CX0 P W K mg base r.N r.x (defScope r.st) A cdv A' outer s H E).nox fa (hsOf W) (callF G w k) k ⟨defScope r.st, celOf (defScope r.st), r.N, tabOf rs⟩ := {
        sc := rfl
        hw := rfl
        N := rfl
        nd := R.sc.nd
        calm := rfl
        xe := rfl
        fn := fun _ _ => rfl
        kind := R.sc.kind
        room := room
        mg := L.mg
        fns := fun x f hx => by
          have hm := PySem.mem_of_lookup hx
          obtain ⟨r', hr', e⟩ := List.mem_map.mp hm
          cases e
          obtain ⟨A3, fd3, z1, z2, z3, z4, z5⟩ := L.row r' hr'
          exact ⟨A3, fd3, r'.ps, r'.d.np, z1, z4, z2.kp, z3, all_fn L ro k r' hr' A3 fd3 z1 z2, callF_len z5⟩
        fnv := fun f A2 h => by
          obtain ⟨r', hr', rfl⟩ := L.only f A2 h
          obtain ⟨fd2, z2, z3, z4, z5, z6⟩ := look r' hr' A2 h
          exact ⟨r'.d.np, ⟨fd2, r'.ps, z6, z2.kp, z3⟩, callF_len z5⟩
        hooks := fun Y _ hW _ hA _ => ⟨(show hsOf Y.w = hsOf W from hW ▸ rfl) ▸ hooks1 Y fa (by rw [hA]; exact room1 room)⟩ }
      refine ⟨_, ok_body (w := w) o R.cv, _, ρ, st, fl, st', start_rs h2 h3 R.ns, h1, e1, ?_⟩
      rcases hfl with ⟨σ, rfl, rfl⟩ | rfl
      · exact fun σ' H' ρ' g k1 k2 => q .non H' ρ' g k2 rfl
      · exact q
end
end TL

/-! From the evaluator's answer to the law's row. -/
namespace TL
open PySem PySem.Spec PyProof.Rows L2
/-- what is wanted of a law's def: true, whatever the script -/
def spLaw (K : PySem.W.Frag) (n : Nat) : Sp := fun vs H Q _ => ∃ (a : Addr) (ns : List Int), vs = [.ref a] ∧ ns.length ≤ n ∧ Only H ∧ SqL K H a (ns.map V.int) ∧ ∀ H', Q (.bl true) H'
theorem rds_ints {K : PySem.W.Frag} {fa : Nat → Option Addr} {ρ : List Addr} {H : Hp} : ∀ ns : List Int, RDs K fa ρ H (ns.map D.int) (ns.map V.int)
  | [] => rfl
  | n :: ns => ⟨.int n, ns.map V.int, rfl, rfl, rds_ints ns⟩
section
variable {P : Program} {W : World} {K : PySem.W.Frag} {mg : Str → Option Value} {base : Heap} {fa : Nat → Option Addr} {G : Nat → Option Def} {rs : List Row} {w k n : Nat}
theorem fn_law (L : Laid K mg fa G rs) (ro : ∀ r ∈ rs, RowOk (tabOf rs) r) {r : Row} (hr : r ∈ rs) {A : Addr} {fd : FuncData} (hA : fa r.f = some A) (F : Fun K r.x r.x r.st A fd) (hp : r.d.np = 1)
    (ev : ∀ ns : List Int, ns.length ≤ n → ∃ st', callF G w k r.f [.ref 0] [.rol (ns.map D.int)] = some (.bl true, st')) : FnOk P W K mg base CX0 k A fd r.ps (spLaw K n) := by
  refine (all_fn (w := w) L ro k r hr A fd hA F).imp fun vs H Q E ⟨a, ns, hv, hl, ho, hS, q⟩ => ?_
  subst hv
  obtain ⟨st', e⟩ := ev ns hl
  refine ⟨[a], [.rol (ns.map D.int)], [.ref 0], .bl true, st', ⟨rfl, fun m o b e1 e2 => ?_, fun i j o u b e1 e2 e3 e4 r1 r2 => ?_⟩, ⟨.ref a, [], rfl, ⟨a, rfl, rfl⟩, rfl⟩, hp.symm, e, fun v H' ρ' g h' rv => ?_⟩
  · cases m with
    | zero =>
      cases e1
      cases e2
      refine ⟨ns.map V.int, ?_, rds_ints ns⟩
      rcases hS with (h1 | ⟨o, h1⟩) | h1
      · rcases ho a with z | ⟨o, xs, z⟩
        · rw [h1] at z; cases z
        · rw [h1] at z; cases z
      · exact .inl ⟨o, h1⟩
      · exact .inr h1
    | succ m => cases e1
  · cases i with
    | zero =>
      cases j with
      | zero => rfl
      | succ j => cases e2
    | succ i => cases e1
  · cases rv
    exact q H'
/-- the defs laid, from what the head knows -/
structure At (K : PySem.W.Frag) (r : Row) (A : Addr) : Prop where
  ex : ∃ (oc : Value) (od an : Option Addr) (kV dc pm cd ct : Value) (sl : Array (Option Value)), K.lookup A = some ⟨oc, od, .func (PySem.W.fnOf r.x r.x (defArgs r.st) (defBody r.st) (defScope r.st) .none kV dc pm an cd ct), sl⟩ ∧ PySem.W.codeIn K cd r.x = true
  kp : PySem.W.keepIn K (.ref A) = true
theorem at_mk {r : Row} {A : Addr} {oc : Value} {od an : Option Addr} {kV dc pm cd ct : Value} {sl : Array (Option Value)} (l : K.lookup A = some ⟨oc, od, .func (PySem.W.fnOf r.x r.x (defArgs r.st) (defBody r.st) (defScope r.st) .none kV dc pm an cd ct), sl⟩) (c : PySem.W.codeIn K cd r.x = true) (k : PySem.W.keepIn K (.ref A) = true) : At K r A := ⟨⟨oc, od, an, kV, dc, pm, cd, ct, sl, l, c⟩, k⟩
/-- its parameters bind in order -/
def BindsAll (r : Row) : Prop := ∀ (kV dc pm : Value) (an : Option Addr) (cd ct : Value) (us : List Value), us.length = r.ps.length → bindArgs (PySem.W.fnOf r.x r.x (defArgs r.st) (defBody r.st) (defScope r.st) .none kV dc pm an cd ct) ⟨us, []⟩ = pure (r.ps.zip us)
theorem At.fn {r : Row} {A : Addr} (h : At K r A) (b : BindsAll r) : ∃ fd, Fun K r.x r.x r.st A fd ∧ Binds K fd r.ps [] := by
  obtain ⟨⟨oc, od, an, kV, dc, pm, cd, ct, sl, l, c⟩, k⟩ := h
  have F := fun_mk (st := r.st) l c k
  exact ⟨_, F, F.binds b⟩
/-- rows and their places, side by side -/
inductive AllAt (K : PySem.W.Frag) (mg : Str → Option Value) : List Row → List Addr → Prop
  | nil : AllAt K mg [] []
  | cons {r : Row} {rs : List Row} {A : Addr} {As : List Addr} : At K r A → mg r.x = some (.ref A) → AllAt K mg rs As → AllAt K mg (r :: rs) (A :: As)
def faOf : List Row → List Addr → Nat → Option Addr
  | r :: rs, A :: As, f => if f = r.f then some A else faOf rs As f
  | _, _, _ => none
theorem allAt_row {As : List Addr} {rs : List Row} (h : AllAt K mg rs As) (nd : (rs.map (·.f)).Nodup) : ∀ r ∈ rs, ∃ A, faOf rs As r.f = some A ∧ At K r A ∧ mg r.x = some (.ref A) := by
  induction h with
  | nil => intro r hr; cases hr
  | @cons r0 rs A As a m t ih =>
    intro r hr
    rw [List.map_cons, List.nodup_cons] at nd
    rcases List.mem_cons.mp hr with rfl | hr
    · exact ⟨A, if_pos rfl, a, m⟩
    · obtain ⟨B, q1, q2, q3⟩ := ih nd.2 r hr
      refine ⟨B, ?_, q2, q3⟩
      show (if r.f = r0.f then some A else faOf rs As r.f) = some B
      rw [if_neg fun z => nd.1 (by rw [← z]; exact List.mem_map.mpr ⟨r, hr, rfl⟩)]
      exact q1
theorem allAt_only {As : List Addr} {rs : List Row} (h : AllAt K mg rs As) : ∀ f A, faOf rs As f = some A → ∃ r ∈ rs, r.f = f := by
  induction h with
  | nil => intro f A e; cases e
  | @cons r0 rs B As a m t ih =>
    intro f A e
    by_cases hf : f = r0.f
    · exact ⟨r0, List.mem_cons_self, hf.symm⟩
    · have e' : (if f = r0.f then some B else faOf rs As f) = some A := e
      rw [if_neg hf] at e'
      obtain ⟨r, hr, q⟩ := ih f A e'
      exact ⟨r, List.mem_cons_of_mem _ hr, q⟩
theorem laid_of {As : List Addr} (h : AllAt K mg rs As) (nd : (rs.map (·.f)).Nodup) (bd : ∀ r ∈ rs, BindsAll r) (hG : ∀ r ∈ rs, G r.f = some r.d) (hm : ∀ x ∈ bNames, mg x = none) : Laid K mg (faOf rs As) G rs where
  row := fun r hr => by
    obtain ⟨A, q1, q2, q3⟩ := allAt_row h nd r hr
    obtain ⟨fd, F, B⟩ := q2.fn (bd r hr)
    exact ⟨A, fd, q1, F, B, q3, hG r hr⟩
  only := allAt_only h
  mg := hm
/-- the law's def, from the rows: r0 the law -/
theorem law_fn {As : List Addr} {r0 : Row} {fa : Addr} (h : AllAt K mg rs As) (nd : (rs.map (·.f)).Nodup) (bd : ∀ r ∈ rs, BindsAll r) (hG : ∀ r ∈ rs, G r.f = some r.d) (hm : ∀ x ∈ bNames, mg x = none) (ro : ∀ r ∈ rs, RowOk (tabOf rs) r)
    (hr : r0 ∈ rs) (hx : r0.ps = [("script" : Str)]) (hfa : mg r0.x = some (.ref fa)) (ev : ∀ ns : List Int, ns.length ≤ n → ∃ st', callF G w k r0.f [.ref 0] [.rol (ns.map D.int)] = some (.bl true, st')) :
    ∃ fd : FuncData, (∀ (s : Shared) (u : Value), BindsTo s fd ⟨[u], []⟩ [("script", u)]) ∧ ∀ base : Heap, FnOk P W K mg base CX0 k fa fd ["script"] (spLaw K n) := by
  have L := laid_of h nd bd hG hm
  obtain ⟨A, q1, q2, q3⟩ := allAt_row h nd r0 hr
  rw [q3] at hfa
  cases hfa
  obtain ⟨⟨oc, od, an, kV, dc, pm, cd, ct, sl, l, c⟩, kp⟩ := q2
  have F := fun_mk (st := r0.st) l c kp
  have b0 := bd r0 hr kV dc pm an cd ct
  refine ⟨PySem.W.fnOf r0.x r0.x (defArgs r0.st) (defBody r0.st) (defScope r0.st) .none kV dc pm an cd ct, fun s u => .of_eq ?_, fun base => ?_⟩
  · rw [b0 [u] (by rw [hx]; rfl), hx]
    rfl
  · have z := fn_law (P := P) (W := W) (base := base) L ro hr q1 F (by rw [(ro r0 hr).np, hx]; rfl) ev
    rw [hx] at z
    exact z
end
end TL

/-! Running the small language: what a run ends in. -/
namespace TL
/-- m runs from st to an end of which P holds -/
def R {α : Type} (m : M α) (st : Sto) (P : α → Sto → Prop) : Prop := ∃ a st1, m st = some (a, st1) ∧ P a st1
section
variable {α β : Type} {st st1 st2 : Sto}
theorem R.mono {m : M α} {P Q : α → Sto → Prop} (h : R m st P) (q : ∀ a s, P a s → Q a s) : R m st Q := let ⟨a, s, e, p⟩ := h; ⟨a, s, e, q a s p⟩
theorem R_bind {m : M α} {f : α → M β} {P : β → Sto → Prop} : R (M.bind m f) st P ↔ R m st fun a s => R (f a) s P := by
  constructor
  · rintro ⟨b, s, e, p⟩
    unfold M.bind at e
    cases hm : m st with
    | none => rw [hm] at e; cases e
    | some r =>
      obtain ⟨a, s1⟩ := r
      rw [hm] at e
      exact ⟨a, s1, hm, b, s, e, p⟩
  · rintro ⟨a, s1, hm, b, s, e, p⟩
    refine ⟨b, s, ?_, p⟩
    unfold M.bind
    rw [hm]
    exact e
theorem R_pure {a : α} {P : α → Sto → Prop} : R (pure a) st P ↔ P a st := by
  constructor
  · rintro ⟨b, s, e, p⟩
    have e' : some (a, st) = some (b, s) := e
    cases e'
    exact p
  · exact fun p => ⟨a, st, rfl, p⟩
theorem R_fail {P : α → Sto → Prop} : R M.fail st P ↔ False := ⟨fun ⟨_, _, e, _⟩ => (nomatch e), fun h => h.elim⟩
theorem R_lift {a : α} {P : α → Sto → Prop} : R (M.lift (some a)) st P ↔ P a st := by
  constructor
  · rintro ⟨b, s, e, p⟩
    have e' : some (a, st) = some (b, s) := e
    cases e'
    exact p
  · exact fun p => ⟨a, st, rfl, p⟩
theorem R_rd {f : Sto → Option α} {P : α → Sto → Prop} : R (M.rd f) st P ↔ ∃ a, f st = some a ∧ P a st := by
  constructor
  · rintro ⟨b, s, e, p⟩
    unfold M.rd at e
    cases hf : f st with
    | none => rw [hf] at e; cases e
    | some a => rw [hf] at e; cases e; exact ⟨_, rfl, p⟩
  · rintro ⟨a, h, p⟩
    refine ⟨a, st, ?_, p⟩
    unfold M.rd
    rw [h]
theorem R_alloc {o : DO} {P : D → Sto → Prop} : R (alloc o) st P ↔ P (.ref st.length) (st ++ [o]) := by
  constructor
  · rintro ⟨b, s, e, p⟩
    have e' : some (D.ref st.length, st ++ [o]) = some (b, s) := e
    cases e'
    exact p
  · exact fun p => ⟨_, _, rfl, p⟩
theorem R_tst {b : Bool} {P : Bool → Sto → Prop} : R (tst (.bl b)) st P ↔ P b st := R_pure
theorem some_ex {a : α} {P : α → Prop} : (∃ b, some a = some b ∧ P b) ↔ P a := ⟨fun ⟨b, e, p⟩ => by cases e; exact p, fun p => ⟨a, rfl, p⟩⟩
end
/-- older objects stand -/
def Ext (st st' : Sto) : Prop := st.length ≤ st'.length ∧ ∀ i, i < st.length → st'[i]? = st[i]?
theorem Ext.refl (st : Sto) : Ext st st := ⟨Nat.le_refl _, fun _ _ => rfl⟩
theorem Ext.trans {a b c : Sto} (h : Ext a b) (k : Ext b c) : Ext a c := ⟨Nat.le_trans h.1 k.1, fun i hi => (k.2 i (Nat.lt_of_lt_of_le hi h.1)).trans (h.2 i hi)⟩
theorem Ext.push {a b : Sto} (h : Ext a b) (o : DO) : Ext a (b ++ [o]) := h.trans ⟨by rw [List.length_append]; omega, fun i hi => List.getElem?_append_left hi⟩
theorem Ext.new (a : Sto) (o : DO) : Ext a (a ++ [o]) := (Ext.refl a).push o
theorem Ext.set {a b : Sto} (h : Ext a b) {n : Nat} (hn : a.length ≤ n) (o : DO) : Ext a (b.set n o) := ⟨by rw [List.length_set]; exact h.1, fun i hi => (List.getElem?_set_ne (by omega)).trans (h.2 i hi)⟩

section
variable {w : Nat} {cf : Nat → List D → M D} {σ : Env} {st : Sto}
/-! ### what each form does -/
theorem e_var {i : Nat} : ev w cf (.var i) σ = M.lift (σ[i]?.bind id) := rfl
theorem e_int {i : Int} : ev w cf (.int i) σ = pure (.int i) := rfl
theorem e_bl {b : Bool} : ev w cf (.bl b) σ = pure (.bl b) := rfl
theorem e_non : ev w cf .non σ = pure .non := rfl
theorem e_str {c : Nat} : ev w cf (.str c) σ = pure (.str c) := rfl
theorem e_ty {c : Nat} : ev w cf (.ty c) σ = pure (.ty c) := rfl
theorem e_fnv {c : Nat} : ev w cf (.fnv c) σ = pure (.fn c) := rfl
theorem e_tup {es : List E} : ev w cf (.tup es) σ = M.bind (evs w cf es σ) fun xs => pure (.tup xs) := rfl
theorem e_lst {es : List E} : ev w cf (.lst es) σ = M.bind (evs w cf es σ) fun xs => alloc (.lst xs) := rfl
theorem e_bin {o : Bop} {a b : E} : ev w cf (.bin o a b) σ = M.bind (ev w cf a σ) fun x => M.bind (ev w cf b σ) fun y => bop o x y := rfl
theorem e_not {a : E} : ev w cf (.not a) σ = M.bind (ev w cf a σ) fun x => M.bind (tst x) fun b => pure (.bl !b) := rfl
def negD' : D → M D
  | .int i => pure (.int (-i))
  | _ => M.fail
theorem e_neg {a : E} : ev w cf (.neg a) σ = M.bind (ev w cf a σ) negD' := rfl
theorem neg_i {i : Int} : negD' (.int i) = pure (.int (-i)) := rfl
theorem e_cmp {o : Cop} {a b : E} : ev w cf (.cmp o a b) σ = M.bind (ev w cf a σ) fun x => M.bind (ev w cf b σ) fun y => M.rd fun st => cop st o x y := rfl
theorem e_chain {o1 o2 : Cop} {a b c : E} : ev w cf (.chain o1 o2 a b c) σ = M.bind (ev w cf a σ) fun x => M.bind (ev w cf b σ) fun y => M.bind (M.rd fun st => cop st o1 x y) fun r => M.bind (tst r) fun k =>
      if k = true then M.bind (ev w cf c σ) fun z => M.rd fun st => cop st o2 y z else pure (.bl false) := rfl
theorem e_and {a b : E} : ev w cf (.and a b) σ = M.bind (ev w cf a σ) fun x => M.bind (tst x) fun k => if k = true then ev w cf b σ else pure (.bl false) := rfl
theorem e_or {a b : E} : ev w cf (.or a b) σ = M.bind (ev w cf a σ) fun x => M.bind (tst x) fun k => if k = true then pure (.bl true) else ev w cf b σ := rfl
theorem e_ife {c a b : E} : ev w cf (.ife c a b) σ = M.bind (ev w cf c σ) fun x => M.bind (tst x) fun k => if k = true then ev w cf a σ else ev w cf b σ := rfl
theorem e_idx {a b : E} : ev w cf (.idx a b) σ = M.bind (ev w cf a σ) fun x => M.bind (ev w cf b σ) fun y => getItem x y := rfl
theorem e_slc {a lo hi : E} : ev w cf (.slc a lo hi) σ = M.bind (ev w cf a σ) fun x => M.bind (if lo.isNon = true then pure none else M.bind (ev w cf lo σ) fun v => M.lift (optI v)) fun l => M.bind (if hi.isNon = true then pure none else M.bind (ev w cf hi σ) fun v => M.lift (optI v)) fun h => slice x l h := rfl
theorem e_call {f : Nat} {es : List E} : ev w cf (.call f es) σ = M.bind (evs w cf es σ) fun xs => cf f xs := rfl
theorem e_bi {b : Bi} {es : List E} : ev w cf (.bi b es) σ = M.bind (evs w cf es σ) fun xs => bifn b xs := rfl
theorem e_meth {m : Me} {o : E} {es : List E} : ev w cf (.meth m o es) σ = M.bind (ev w cf o σ) fun x => M.bind (M.rd fun st => mchk st m x) fun _ => M.bind (evs w cf es σ) fun xs => method m x xs := rfl
theorem es_nil : evs w cf [] σ = pure [] := rfl
theorem es_cons {e : E} {es : List E} : evs w cf (e :: es) σ = M.bind (ev w cf e σ) fun x => M.bind (evs w cf es σ) fun xs => pure (x :: xs) := rfl
theorem g_n {i : Nat} {d : D} : asgn w cf (.n i) d σ = pure (σ.set i (some d)) := rfl
theorem g_t {ts : List Tg} {ds : List D} : asgn w cf (.t ts) (.tup ds) σ = if ds.length = ts.length then asgns w cf ts ds σ else M.fail := rfl
theorem g_sub {o i : E} {d : D} : asgn w cf (.sub o i) d σ = M.bind (ev w cf o σ) fun x => M.bind (ev w cf i σ) fun k => M.bind (setItem x k d) fun _ => pure σ := rfl
theorem gs_cons {t : Tg} {ts : List Tg} {d : D} {ds : List D} : asgns w cf (t :: ts) (d :: ds) σ = M.bind (asgn w cf t d σ) fun σ1 => asgns w cf ts ds σ1 := rfl
theorem gs_nil : asgns w cf [] [] σ = pure σ := rfl
theorem s_asg {tg : Tg} {e : E} : evS w cf (.asg tg e) σ = M.bind (ev w cf e σ) fun x => M.bind (asgn w cf tg x σ) fun σ1 => pure (.nx σ1) := rfl
theorem s_par {is : List Nat} {es : List E} : evS w cf (.par is es) σ = M.bind (evs w cf es σ) fun xs => pure (.nx (setAll is xs σ)) := rfl
theorem s_aug {i : Nat} {o : Bop} {e : E} : evS w cf (.aug i o e) σ = M.bind (M.lift (σ[i]?.bind id)) fun x => M.bind (ev w cf e σ) fun y => augD i o σ x y := rfl
theorem s_ex {e : E} : evS w cf (.ex e) σ = M.bind (ev w cf e σ) fun _ => pure (.nx σ) := rfl
theorem s_ret {e : E} : evS w cf (.ret e) σ = M.bind (ev w cf e σ) fun x => pure (.rt x) := rfl
theorem s_ife {c : E} {a b : List S} : evS w cf (.ife c a b) σ = M.bind (ev w cf c σ) fun x => M.bind (tst x) fun k => if k = true then evSs w cf a σ else evSs w cf b σ := rfl
theorem s_for {tg : Tg} {it : Itx} {body : List S} : evS w cf (.for_ tg it body) σ = M.bind (evIt w cf it σ) fun J => M.bind (forGo J (fun d σ => M.bind (asgn w cf tg d σ) fun σ1 => evSs w cf body σ1) w 0 σ) fun r => M.bind (unlock J) fun _ => pure r := rfl
def thenSs (w : Nat) (cf : Nat → List D → M D) (r : List S) : Fl → M Fl
  | .nx σ1 => evSs w cf r σ1
  | .rt d => pure (.rt d)
theorem ss_nil : evSs w cf [] σ = pure (.nx σ) := rfl
theorem ss_cons {s : S} {r : List S} : evSs w cf (s :: r) σ = M.bind (evS w cf s σ) (thenSs w cf r) := rfl
theorem th_nx {r : List S} : thenSs w cf r (.nx σ) = evSs w cf r σ := rfl
theorem th_nil : thenSs w cf [] (.nx σ) = pure (.nx σ) := rfl
theorem th_rt {r : List S} {d : D} : thenSs w cf r (.rt d) = pure (.rt d) := rfl
/-! ### values -/
theorem b_add {a b : Int} : bop .add (.int a) (.int b) = pure (.int (a + b)) := rfl
theorem b_sub {a b : Int} : bop .sub (.int a) (.int b) = pure (.int (a - b)) := rfl
theorem c_eqi {a b : Int} : cop st .eq (.int a) (.int b) = some (.bl (a == b)) := rfl
theorem c_nei {a b : Int} : cop st .ne (.int a) (.int b) = some (.bl !(a == b)) := rfl
theorem c_eqs {a b : Nat} : cop st .eq (.str a) (.str b) = some (.bl (a == b)) := rfl
theorem c_nes {a b : Nat} : cop st .ne (.str a) (.str b) = some (.bl !(a == b)) := rfl
theorem c_lt {a b : Int} : cop st .lt (.int a) (.int b) = some (.bl (decide (a < b))) := rfl
theorem c_le {a b : Int} : cop st .le (.int a) (.int b) = some (.bl (decide (a ≤ b))) := rfl
theorem c_gt {a b : Int} : cop st .gt (.int a) (.int b) = some (.bl (decide (b < a))) := rfl
theorem c_ge {a b : Int} : cop st .ge (.int a) (.int b) = some (.bl (decide (b ≤ a))) := rfl
theorem c_isn {x : D} : cop st .is x .non = some (.bl (decide (x = .non))) := by cases x <;> rfl
theorem c_isnn {x : D} : cop st .isnot x .non = some (.bl !(decide (x = .non))) := by cases x <;> rfl
theorem i_tup {xs : List D} {k : Int} : getItem (.tup xs) (.int k) = M.lift (atI xs k) := rfl
theorem bi_len_t {xs : List D} : bifn .len [.tup xs] = pure (.int xs.length) := rfl
theorem bi_min2 {a b : Int} : bifn .min [.int a, .int b] = pure (.int (if b < a then b else a)) := rfl
theorem bi_max2 {a b : Int} : bifn .max [.int a, .int b] = pure (.int (if b > a then b else a)) := rfl
end
/-! ### plumbing -/
section
variable {α : Type} {x y : α} {xs ys : List α} {n : Nat} {st : Sto}
theorem L0 : (x :: xs)[0]? = some x := rfl
theorem LS : (x :: xs)[n + 1]? = xs[n]? := rfl
theorem OB {β : Type} {f : α → Option β} : (some x).bind f = f x := rfl
theorem M0 {β : Type} {f : α → β} : (some x).map f = some (f x) := rfl
theorem RT {β : Type} {a b : β} : (if true = true then a else b) = a := rfl
theorem RF {β : Type} {a b : β} : (if false = true then a else b) = b := rfl
theorem S0 : (x :: xs).set 0 y = y :: xs := rfl
theorem SS : (x :: xs).set (n + 1) y = x :: xs.set n y := rfl
theorem AP : (x :: xs) ++ ys = x :: (xs ++ ys) := rfl
theorem Rp0 : List.replicate 0 x = [] := rfl
theorem RpS : List.replicate (n + 1) x = x :: List.replicate n x := rfl
end
section
variable {α : Type} {x y z u : α} {r : List α} {st : Sto} {P : α → Sto → Prop}
theorem A0 : atI (x :: r) 0 = some x := rfl
theorem A1 : atI (x :: y :: r) 1 = some y := rfl
theorem A2 : atI (x :: y :: z :: r) 2 = some z := rfl
theorem A3 : atI (x :: y :: z :: u :: r) 3 = some u := rfl
theorem AN2 : atI [x, y] (-1) = some y := rfl
theorem AN3 : atI [x, y, z] (-1) = some z := rfl
theorem b_mod {a b : Int} (h : 0 < b) : bop .mod (.int a) (.int b) = pure (.int (a % b)) := by
  show (if 0 < b then pure (.int (a % b)) else M.fail : M D) = _
  rw [if_pos h]
theorem b_div {a b : Int} (h : 0 < b) (h2 : b < 1073741824) : bop .fdiv (.int a) (.int b) = pure (.int (a / b)) := by
  show (if 0 < b ∧ b < 1073741824 then pure (.int (a / b)) else M.fail : M D) = _
  rw [if_pos ⟨h, h2⟩]
theorem b_mul {a b : Int} (h : mulOk a b = true) : bop .mul (.int a) (.int b) = pure (.int (a * b)) := by
  show (if mulOk a b = true then pure (.int (a * b)) else M.fail : M D) = _
  rw [if_pos h]
theorem b_cat {xs ys : List D} (h : xs.length + ys.length ≤ LIM) : bop .add (.tup xs) (.tup ys) = pure (.tup (xs ++ ys)) := by
  show (if xs.length + ys.length ≤ LIM then pure (.tup (xs ++ ys)) else M.fail : M D) = _
  rw [if_pos h]
end
/-- a call, one deeper -/
theorem R_call {G : Nat → Option Def} {w k f : Nat} {d : Def} {xs : List D} {st : Sto} {P : D → Sto → Prop} (hG : G f = some d) (hl : xs.length = d.np)
    (h : R (evSs w (callF G w k) d.body (xs.map some ++ List.replicate (d.ns - d.np) none)) st fun fl s => match fl with
      | .nx _ => P .non s
      | .rt v => P v s) : R (callF G w (k + 1) f xs) st P := by
  obtain ⟨fl, s, e, p⟩ := h
  have e2 : callF G w (k + 1) f xs st = M.bind (evSs w (callF G w k) d.body (xs.map some ++ List.replicate (d.ns - d.np) none)) (fun r => match r with
        | .nx _ => (pure .non : M D)
        | .rt v => pure v) st := by
    show (match G f with
      | none => (M.fail : M D)
      | some d => if xs.length = d.np then M.bind (evSs w (callF G w k) d.body (xs.map some ++ List.replicate (d.ns - d.np) none)) fun r => match r with
          | .nx _ => pure .non
          | .rt v => pure v
        else M.fail) st = _
    rw [hG]
    show (if xs.length = d.np then _ else M.fail : M D) st = _
    rw [if_pos hl]
  unfold M.bind at e2
  rw [e] at e2
  cases fl with
  | nx σ => exact ⟨.non, s, e2, p⟩
  | rt v => exact ⟨v, s, e2, p⟩
end TL

/-! Loops and comprehensions run. -/
namespace TL
theorem bindR {α β : Type} {m : M α} {f : α → M β} {st st1 : Sto} {a : α} {r : Option (β × Sto)} (h : m st = some (a, st1)) (q : f a st1 = r) : M.bind m f st = r := by
  unfold M.bind
  rw [h]
  exact q
section
variable {J : DIt} {xs : List D} {st : Sto}
theorem R_for_go {body : D → Env → M Fl} {Q : Fl → Sto → Prop} (Iv : Nat → Env → Sto → Prop) (hJ : ∀ (i : Nat) (σ : Env) (st : Sto), i ≤ xs.length → Iv i σ st → J.get i st = some xs[i]?)
    (step : ∀ (i : Nat) (x : D) (σ : Env) (st : Sto), xs[i]? = some x → Iv i σ st → R (body x σ) st fun fl s => match fl with
      | .nx σ' => Iv (i + 1) σ' s
      | .rt v => Q (.rt v) s)
    (fin : ∀ σ st, Iv xs.length σ st → Q (.nx σ) st) : ∀ (w i : Nat) (σ : Env) (st : Sto), i ≤ xs.length → xs.length - i < w → Iv i σ st → R (forGo J body w i σ) st Q
  | 0, _, _, _, _, h, _ => absurd h (Nat.not_lt_zero _)
  | w + 1, i, σ, st, hi, h, iv => by
    have g := hJ i σ st hi iv
    by_cases hl : i < xs.length
    · have e : xs[i]? = some xs[i] := List.getElem?_eq_getElem hl
      rw [e] at g
      obtain ⟨fl, s, e1, q⟩ := step i xs[i] σ st e iv
      have z : forGo J body (w + 1) i σ st = match body xs[i] σ st with
        | none => none
        | some (.rt v, st') => some (Fl.rt v, st')
        | some (.nx σ', st') => forGo J body w (i + 1) σ' st' := by
        show (match J.get i st with
          | none => none
          | some none => some (Fl.nx σ, st)
          | some (some d) => match body d σ st with
            | none => none
            | some (.rt v, st') => some (Fl.rt v, st')
            | some (.nx σ', st') => forGo J body w (i + 1) σ' st') = _
        rw [g]
      rw [e1] at z
      cases fl with
      | rt v => exact ⟨.rt v, s, z, q⟩
      | nx σ' =>
        obtain ⟨b, s2, e2, q2⟩ := R_for_go Iv hJ step fin w (i + 1) σ' s hl (by omega) q
        exact ⟨b, s2, z.trans e2, q2⟩
    · have e : i = xs.length := by omega
      subst e
      have g2 : J.get xs.length st = some none := by rw [g, List.getElem?_eq_none (Nat.le_refl _)]
      refine ⟨.nx σ, st, ?_, fin σ st iv⟩
      show (match J.get xs.length st with
        | none => none
        | some none => some (Fl.nx σ, st)
        | some (some d) => match body d σ st with
          | none => none
          | some (.rt v, st') => some (Fl.rt v, st')
          | some (.nx σ', st') => forGo J body w (xs.length + 1) σ' st') = _
      rw [g2]
/-- a loop by its invariant -/
theorem R_for {body : D → Env → M Fl} {Q : Fl → Sto → Prop} {w : Nat} {σ : Env} (Iv : Nat → Env → Sto → Prop) (hw : xs.length < w) (h0 : Iv 0 σ st) (hJ : ∀ (i : Nat) (σ : Env) (st : Sto), i ≤ xs.length → Iv i σ st → J.get i st = some xs[i]?)
    (step : ∀ (i : Nat) (x : D) (σ : Env) (st : Sto), xs[i]? = some x → Iv i σ st → R (body x σ) st fun fl s => match fl with
      | .nx σ' => Iv (i + 1) σ' s
      | .rt v => Q (.rt v) s)
    (fin : ∀ σ st, Iv xs.length σ st → Q (.nx σ) st) : R (forGo J body w 0 σ) st Q := R_for_go Iv hJ step fin w 0 σ st (Nat.zero_le _) hw h0
theorem get_tup {i : Nat} (h : i ≤ xs.length) : (DIt.tup xs).get i st = some xs[i]? := if_pos h
theorem get_lst {i n : Nat} (g : getL st n = some xs) (h : i ≤ xs.length) : (DIt.lst n).get i st = some xs[i]? := by
  show (getL st n).bind (fun xs => seqAt xs i) = _
  rw [g]
  exact if_pos h
theorem get_rng {lo c : Int} {n i : Nat} (h : i ≤ n) : (DIt.rng lo c n).get i st = some (((List.range n).map fun (k : Nat) => D.int (lo + c * (k : Int)))[i]?) := by
  show some (if i < n then some (D.int (lo + c * (i : Nat))) else none) = _
  rw [List.getElem?_map]
  by_cases hi : i < n
  · rw [if_pos hi, List.getElem?_range hi]
    rfl
  · rw [if_neg hi, List.getElem?_eq_none (by rw [List.length_range]; omega)]
    rfl
def enumL (xs : List D) : List D := xs.zipIdx.map fun p => .tup [.int (p.2 : Nat), p.1]
theorem enumL_len : (enumL xs).length = xs.length := by unfold enumL; rw [List.length_map, List.length_zipIdx]
theorem enumL_get {i : Nat} : (enumL xs)[i]? = (xs[i]?).map fun x => D.tup [.int (i : Nat), x] := by
  unfold enumL
  rw [List.getElem?_map, List.getElem?_zipIdx]
  cases xs[i]? with
  | none => rfl
  | some x => simp
theorem get_enum {i : Nat} (g : J.get i st = some xs[i]?) : (DIt.enum J).get i st = some (enumL xs)[i]? := by
  show (J.get i st).map (fun o => o.map fun x => D.tup [.int (i : Nat), x]) = _
  rw [g, enumL_get]
  rfl
def zipL (xs ys : List D) : List D := List.zipWith (fun x y => .tup [x, y]) xs ys
theorem zipL_get {ys : List D} {i : Nat} : (zipL xs ys)[i]? = match xs[i]?, ys[i]? with
    | some x, some y => some (D.tup [x, y])
    | _, _ => none := by
  unfold zipL
  rw [List.getElem?_zipWith]
  cases xs[i]? <;> cases ys[i]? <;> rfl
theorem get_zip {J2 : DIt} {ys : List D} {i : Nat} (h : xs.length = ys.length) (g : J.get i st = some xs[i]?) (g2 : J2.get i st = some ys[i]?) : (DIt.zip J J2).get i st = some (zipL xs ys)[i]? := by
  show (match J.get i st, J2.get i st with
    | some (some x), some (some y) => some (some (D.tup [x, y]))
    | some none, some _ => some none
    | some (some _), some none => some none
    | _, _ => none) = _
  rw [g, g2, zipL_get]
  cases xs[i]? with
  | none => rfl
  | some x => cases ys[i]? <;> rfl
end
/-! ### comprehensions -/
section
variable {w : Nat} {cf : Nat → List D → M D}
/-- one turn: the item, if it is kept -/
def elt1 (w : Nat) (cf : Nat → List D → M D) (tg : Tg) (cond : List E) (elt : E) (σ : Env) (x : D) : M (Option D) :=
  M.bind (asgn w cf tg x σ) fun σ1 => M.bind (tests w cf cond σ1) fun k => if k = true then M.bind (ev w cf elt σ1) fun y => pure (some y) else pure none
theorem append_ok {st : Sto} {n : Nat} {v : D} {xs : List D} (h : st[n]? = some (.lst xs)) (hl : xs.length < LIM) : append n v st = some ((), st.set n (.lst (xs ++ [v]))) := by
  show (match st[n]? with
    | some (.lst xs) => if xs.length < LIM then some ((), st.set n (.lst (xs ++ [v]))) else none
    | _ => none) = _
  rw [h]
  exact if_pos hl
theorem R_comp_go {J : DIt} {xs : List D} {f : D → Option D} {tg : Tg} {cond : List E} {elt : E} {σ : Env} {n : Nat} {s0 : Sto} (hn : n = s0.length) (hJ : ∀ st, Ext s0 st → ∀ i, i ≤ xs.length → J.get i st = some xs[i]?)
    (hx : ∀ (i : Nat) (x : D) (st : Sto), xs[i]? = some x → Ext s0 st → R (elt1 w cf tg cond elt σ x) st fun o s => o = f x ∧ Ext st s) (hl : xs.length ≤ LIM) :
    ∀ (m i : Nat) (st : Sto), i ≤ xs.length → xs.length - i < m → Ext s0 st → st[n]? = some (.lst ((xs.take i).filterMap f)) →
      R (compGo J (fun d => M.bind (asgn w cf tg d σ) fun σ1 => M.bind (tests w cf cond σ1) fun k => if k = true then M.bind (ev w cf elt σ1) fun y => append n y else pure ()) m i) st fun _ s => Ext s0 s ∧ s[n]? = some (.lst (xs.filterMap f))
  | 0, _, _, _, h, _, _ => absurd h (Nat.not_lt_zero _)
  | m + 1, i, st, hi, h, ex, hs => by
    have g := hJ st ex i hi
    by_cases hlt : i < xs.length
    · have e : xs[i]? = some xs[i] := List.getElem?_eq_getElem hlt
      rw [e] at g
      obtain ⟨o, s, e1, ho, ex1⟩ := hx i xs[i] st e ex
      have hs1 : s[n]? = some (.lst ((xs.take i).filterMap f)) := by
        rw [← hs]
        exact ex1.2 n (List.getElem?_eq_some_iff.mp hs).1
      have ht : (xs.take (i + 1)).filterMap f = (xs.take i).filterMap f ++ (match f xs[i] with | some y => [y] | none => []) := by
        rw [List.take_add_one, e, List.filterMap_append]
        congr 1
        show List.filterMap f [xs[i]] = _
        rw [List.filterMap_cons]
        cases f xs[i] <;> rfl
      have bl : ((xs.take i).filterMap f).length < LIM := by
        have q := List.length_filterMap_le f (xs.take i)
        rw [List.length_take] at q
        omega
      -- the turn itself
      have turn : ∃ s', (M.bind (asgn w cf tg xs[i] σ) fun σ1 => M.bind (tests w cf cond σ1) fun k => if k = true then M.bind (ev w cf elt σ1) fun y => append n y else pure ()) st = some ((), s') ∧ Ext s0 s' ∧ s'[n]? = some (.lst ((xs.take (i + 1)).filterMap f)) := by
        have e1' : R (elt1 w cf tg cond elt σ xs[i]) st fun o' s'' => o' = o ∧ s'' = s := ⟨o, s, e1, rfl, rfl⟩
        unfold elt1 at e1'
        rw [R_bind] at e1'
        obtain ⟨σ1, sa, ea, e1'⟩ := e1'
        rw [R_bind] at e1'
        obtain ⟨k, sb, eb, e1'⟩ := e1'
        cases k with
        | true =>
          have e2 : R (M.bind (ev w cf elt σ1) fun y => pure (some y)) sb fun o' s'' => o' = o ∧ s'' = s := e1'
          rw [R_bind] at e2
          obtain ⟨y, sc, ec, e2⟩ := e2
          rw [R_pure] at e2
          obtain ⟨rfl, rfl⟩ := e2
          refine ⟨sc.set n (.lst ((xs.take i).filterMap f ++ [y])), ?_, (ex.trans ex1).set (by omega) _, ?_⟩
          · exact bindR ea (bindR eb (bindR ec (append_ok hs1 bl)))
          · rw [List.getElem?_set_self (List.getElem?_eq_some_iff.mp hs1).1, ht, ← ho]
        | false =>
          have e2 : R (pure none : M (Option D)) sb fun o' s'' => o' = o ∧ s'' = s := e1'
          rw [R_pure] at e2
          obtain ⟨rfl, rfl⟩ := e2
          refine ⟨sb, ?_, ex.trans ex1, ?_⟩
          · exact bindR ea (bindR eb rfl)
          · rw [hs1, ht, ← ho, List.append_nil]
      obtain ⟨s', et, ex', hs'⟩ := turn
      obtain ⟨u, s2, e2, q⟩ := R_comp_go hn hJ hx hl m (i + 1) s' hlt (by omega) ex' hs'
      refine ⟨u, s2, ?_, q⟩
      show (match J.get i st with
        | none => none
        | some none => some ((), st)
        | some (some d) => match (M.bind (asgn w cf tg d σ) fun σ1 => M.bind (tests w cf cond σ1) fun k => if k = true then M.bind (ev w cf elt σ1) fun y => append n y else pure ()) st with
          | none => none
          | some ((), st') => compGo J _ m (i + 1) st') = _
      rw [g]
      dsimp only
      rw [et]
      exact e2
    · have e : i = xs.length := by omega
      subst e
      have g2 : J.get xs.length st = some none := by rw [g, List.getElem?_eq_none (Nat.le_refl _)]
      refine ⟨(), st, ?_, ex, by rw [hs, List.take_length]⟩
      show (match J.get xs.length st with
        | none => none
        | some none => some ((), st)
        | some (some d) => match (M.bind (asgn w cf tg d σ) fun σ1 => M.bind (tests w cf cond σ1) fun k => if k = true then M.bind (ev w cf elt σ1) fun y => append n y else pure ()) st with
          | none => none
          | some ((), st') => compGo J _ m (xs.length + 1) st') = _
      rw [g2]
/-- a comprehension: its list -/
theorem R_comp {vs : List Nat} {tg : Tg} {it : Itx} {cond : List E} {elt : E} {σ : Env} {st : Sto} {P : D → Sto → Prop} (xs : List D) (f : D → Option D)
    (h : R (evIt w cf it σ) st fun J s => unlock J = pure () ∧ (∀ st', Ext s st' → ∀ i, i ≤ xs.length → J.get i st' = some xs[i]?) ∧
      (∀ (i : Nat) (x : D) (st' : Sto), xs[i]? = some x → Ext s st' → R (elt1 w cf tg cond elt (wipe σ vs) x) st' fun o s' => o = f x ∧ Ext st' s') ∧ (∀ st', Ext s st' → st'[s.length]? = some (.lst (xs.filterMap f)) → P (.ref s.length) st'))
    (hl : xs.length ≤ LIM) (hw : xs.length < w) : R (ev w cf (.comp vs tg it cond elt) σ) st P := by
  obtain ⟨J, s, e1, hu, hJ, hx, q⟩ := h
  have base := R_comp_go (w := w) (cf := cf) (n := s.length) (s0 := s) rfl hJ hx hl w 0 (s ++ [.lst []]) (Nat.zero_le _) (by omega) (Ext.new s _) (by rw [List.getElem?_append_right (Nat.le_refl _), Nat.sub_self]; rfl)
  obtain ⟨u, s2, e2, ex, hs⟩ := base
  refine ⟨.ref s.length, s2, ?_, q s2 ex hs⟩
  have e3 : M.bind (unlock J) (fun _ => (pure (D.ref s.length) : M D)) s2 = some (.ref s.length, s2) := by
    rw [hu]
    rfl
  refine bindR e1 ?_
  refine bindR (a := D.ref s.length) (st1 := s ++ [.lst []]) rfl ?_
  show M.bind (compGo J (fun d => M.bind (asgn w cf tg d (wipe σ vs)) fun σ1 => M.bind (tests w cf cond σ1) fun k => if k = true then M.bind (ev w cf elt σ1) fun y => append s.length y else pure ()) w 0) (fun _ => M.bind (unlock J) fun _ => (pure (D.ref s.length) : M D)) (s ++ [.lst []]) = _
  exact bindR e2 e3
end
end TL

/-! The machine: filters, states, runs. -/
namespace TL
/-- a filter -/
inductive Fi where
  | sp (n : Int) | fr (n : Int) | ev (n r : Int) | li (c w : Int)
  deriving DecidableEq
def Fi.d : Fi → D
  | .sp n => .tup [.str 0, .int n]
  | .fr n => .tup [.str 1, .int n]
  | .ev n r => .tup [.str 2, .int n, .int r]
  | .li c w => .tup [.str 3, .int c, .int w]
/-- a filter's part of a state -/
inductive Pt where
  | i (a : Int) | l (as : List Int)
  deriving DecidableEq
def Pt.d : Pt → D
  | .i a => .int a
  | .l as => .tup (as.map D.int)

/-- a part of that filter's kind -/
def Fi.fits : Fi → Pt → Prop
  | .li _ _, .l _ => True
  | .li _ _, .i _ => False
  | _, .i _ => True
  | _, .l _ => False
def Fi.good : Fi → Prop
  | .sp n => 1 ≤ n ∧ n ≤ 8
  | .fr n => 1 ≤ n ∧ n ≤ 8
  | .ev n r => 2 ≤ n ∧ n ≤ 4 ∧ 0 ≤ r ∧ r < n
  | .li c w => 1 ≤ c ∧ c ≤ 3 ∧ 1 ≤ w ∧ w ≤ 6
def Fi.dec : Fi → Pt → Bool × Pt
  | .sp n, .i a => if n ≤ a then (true, .i 0) else (false, .i a)
  | .fr n, .i a => (decide (n < a), .i 0)
  | .ev n r, .i a => (a == r, .i ((a + 1) % n))
  | .li c _, .l as => if (as.length : Int) < c then (true, .l (as ++ [0])) else (false, .l as)
  | _, p => (false, p)
section
variable {w k : Nat} {st : Sto} {P : D → Sto → Prop}
theorem run_decide {f : Fi} {p : Pt} (hf : f.fits p) (hg : f.good) (hL : ∀ as, p = .l as → as.length < LIM) (h : P (.tup [.bl (f.dec p).1, (f.dec p).2.d]) st) : R (callF G w (k + 1) 27 [f.d, p.d]) st P := by
  refine R_call (d := d_decide_) rfl rfl ?_
  cases f with
  | sp n =>
    cases p with
    | l as => cases hf
    | i a =>
      simp only [Fi.dec] at h
      try simp only [d_decide_, Fi.d, Pt.d, List.map, e_var, e_int, e_bl, e_non, e_str, e_ty, e_fnv, e_tup, e_lst, e_bin, e_not, e_neg, neg_i, e_cmp, e_chain, e_and, e_or, e_ife, e_idx, e_slc, e_call, e_bi, e_meth, es_nil, es_cons, g_n, g_t, g_sub, gs_cons, gs_nil, s_asg, s_par, s_aug, s_ex, s_ret, s_ife, s_for, ss_nil, ss_cons, th_nx, th_rt, b_add, b_sub, c_eqi, c_nei, c_eqs, c_nes, c_lt, c_le, c_gt, c_ge, c_isn, c_isnn, i_tup, bi_len_t, bi_min2, bi_max2, R_bind, R_pure, R_lift, R_rd, R_alloc, R_tst, some_ex, L0, LS, OB, id_eq, M0, setAll, S0, SS, AP, Rp0, RpS, A0, A1, A2, A3, AN2, AN3, Nat.reduceBEq, beq_self_eq_true, if_true, if_false, Bool.false_eq_true, reduceCtorEq, decide_eq_true_eq, Bool.not_true, Bool.not_false, true_and, and_true, exists_const, decide_true, decide_false, List.nil_append]
      by_cases c : n ≤ a
      · simp only [c, e_var, e_int, e_bl, e_non, e_str, e_ty, e_fnv, e_tup, e_lst, e_bin, e_not, e_neg, neg_i, e_cmp, e_chain, e_and, e_or, e_ife, e_idx, e_slc, e_call, e_bi, e_meth, es_nil, es_cons, g_n, g_t, g_sub, gs_cons, gs_nil, s_asg, s_par, s_aug, s_ex, s_ret, s_ife, s_for, ss_nil, ss_cons, th_nx, th_rt, b_add, b_sub, c_eqi, c_nei, c_eqs, c_nes, c_lt, c_le, c_gt, c_ge, c_isn, c_isnn, i_tup, bi_len_t, bi_min2, bi_max2, R_bind, R_pure, R_lift, R_rd, R_alloc, R_tst, some_ex, L0, LS, OB, id_eq, M0, setAll, S0, SS, AP, Rp0, RpS, A0, A1, A2, A3, AN2, AN3, Nat.reduceBEq, beq_self_eq_true, if_true, if_false, Bool.false_eq_true, reduceCtorEq, decide_eq_true_eq, Bool.not_true, Bool.not_false, true_and, and_true, exists_const, decide_true, decide_false, List.nil_append] at h ⊢
        exact h
      · simp only [c, e_var, e_int, e_bl, e_non, e_str, e_ty, e_fnv, e_tup, e_lst, e_bin, e_not, e_neg, neg_i, e_cmp, e_chain, e_and, e_or, e_ife, e_idx, e_slc, e_call, e_bi, e_meth, es_nil, es_cons, g_n, g_t, g_sub, gs_cons, gs_nil, s_asg, s_par, s_aug, s_ex, s_ret, s_ife, s_for, ss_nil, ss_cons, th_nx, th_rt, b_add, b_sub, c_eqi, c_nei, c_eqs, c_nes, c_lt, c_le, c_gt, c_ge, c_isn, c_isnn, i_tup, bi_len_t, bi_min2, bi_max2, R_bind, R_pure, R_lift, R_rd, R_alloc, R_tst, some_ex, L0, LS, OB, id_eq, M0, setAll, S0, SS, AP, Rp0, RpS, A0, A1, A2, A3, AN2, AN3, Nat.reduceBEq, beq_self_eq_true, if_true, if_false, Bool.false_eq_true, reduceCtorEq, decide_eq_true_eq, Bool.not_true, Bool.not_false, true_and, and_true, exists_const, decide_true, decide_false, List.nil_append] at h ⊢
        exact h
  | fr n =>
    cases p with
    | l as => cases hf
    | i a =>
      try simp only [d_decide_, Fi.d, Pt.d, List.map, e_var, e_int, e_bl, e_non, e_str, e_ty, e_fnv, e_tup, e_lst, e_bin, e_not, e_neg, neg_i, e_cmp, e_chain, e_and, e_or, e_ife, e_idx, e_slc, e_call, e_bi, e_meth, es_nil, es_cons, g_n, g_t, g_sub, gs_cons, gs_nil, s_asg, s_par, s_aug, s_ex, s_ret, s_ife, s_for, ss_nil, ss_cons, th_nx, th_rt, b_add, b_sub, c_eqi, c_nei, c_eqs, c_nes, c_lt, c_le, c_gt, c_ge, c_isn, c_isnn, i_tup, bi_len_t, bi_min2, bi_max2, R_bind, R_pure, R_lift, R_rd, R_alloc, R_tst, some_ex, L0, LS, OB, id_eq, M0, setAll, S0, SS, AP, Rp0, RpS, A0, A1, A2, A3, AN2, AN3, Nat.reduceBEq, beq_self_eq_true, if_true, if_false, Bool.false_eq_true, reduceCtorEq, decide_eq_true_eq, Bool.not_true, Bool.not_false, true_and, and_true, exists_const, decide_true, decide_false, List.nil_append]
      exact h
  | ev n r =>
    cases p with
    | l as => cases hf
    | i a =>
      have hn : 0 < n := by obtain ⟨h1, _⟩ := hg; omega
      try simp only [d_decide_, Fi.d, Pt.d, List.map, b_mod hn, e_var, e_int, e_bl, e_non, e_str, e_ty, e_fnv, e_tup, e_lst, e_bin, e_not, e_neg, neg_i, e_cmp, e_chain, e_and, e_or, e_ife, e_idx, e_slc, e_call, e_bi, e_meth, es_nil, es_cons, g_n, g_t, g_sub, gs_cons, gs_nil, s_asg, s_par, s_aug, s_ex, s_ret, s_ife, s_for, ss_nil, ss_cons, th_nx, th_rt, b_add, b_sub, c_eqi, c_nei, c_eqs, c_nes, c_lt, c_le, c_gt, c_ge, c_isn, c_isnn, i_tup, bi_len_t, bi_min2, bi_max2, R_bind, R_pure, R_lift, R_rd, R_alloc, R_tst, some_ex, L0, LS, OB, id_eq, M0, setAll, S0, SS, AP, Rp0, RpS, A0, A1, A2, A3, AN2, AN3, Nat.reduceBEq, beq_self_eq_true, if_true, if_false, Bool.false_eq_true, reduceCtorEq, decide_eq_true_eq, Bool.not_true, Bool.not_false, true_and, and_true, exists_const, decide_true, decide_false, List.nil_append]
      exact h
  | li c x =>
    cases p with
    | i a => cases hf
    | l as =>
      simp only [Fi.dec] at h
      have hl : (as.map D.int).length + [D.int 0].length ≤ LIM := by rw [List.length_map]; exact hL as rfl
      try simp only [d_decide_, Fi.d, Pt.d, List.map, b_cat hl, e_var, e_int, e_bl, e_non, e_str, e_ty, e_fnv, e_tup, e_lst, e_bin, e_not, e_neg, neg_i, e_cmp, e_chain, e_and, e_or, e_ife, e_idx, e_slc, e_call, e_bi, e_meth, es_nil, es_cons, g_n, g_t, g_sub, gs_cons, gs_nil, s_asg, s_par, s_aug, s_ex, s_ret, s_ife, s_for, ss_nil, ss_cons, th_nx, th_rt, b_add, b_sub, c_eqi, c_nei, c_eqs, c_nes, c_lt, c_le, c_gt, c_ge, c_isn, c_isnn, i_tup, bi_len_t, bi_min2, bi_max2, R_bind, R_pure, R_lift, R_rd, R_alloc, R_tst, some_ex, L0, LS, OB, id_eq, M0, setAll, S0, SS, AP, Rp0, RpS, A0, A1, A2, A3, AN2, AN3, Nat.reduceBEq, beq_self_eq_true, if_true, if_false, Bool.false_eq_true, reduceCtorEq, decide_eq_true_eq, Bool.not_true, Bool.not_false, true_and, and_true, exists_const, decide_true, decide_false, List.nil_append, List.length_map]
      by_cases g : (as.length : Int) < c
      · simp only [g, e_var, e_int, e_bl, e_non, e_str, e_ty, e_fnv, e_tup, e_lst, e_bin, e_not, e_neg, neg_i, e_cmp, e_chain, e_and, e_or, e_ife, e_idx, e_slc, e_call, e_bi, e_meth, es_nil, es_cons, g_n, g_t, g_sub, gs_cons, gs_nil, s_asg, s_par, s_aug, s_ex, s_ret, s_ife, s_for, ss_nil, ss_cons, th_nx, th_rt, b_add, b_sub, c_eqi, c_nei, c_eqs, c_nes, c_lt, c_le, c_gt, c_ge, c_isn, c_isnn, i_tup, bi_len_t, bi_min2, bi_max2, R_bind, R_pure, R_lift, R_rd, R_alloc, R_tst, some_ex, L0, LS, OB, id_eq, M0, setAll, S0, SS, AP, Rp0, RpS, A0, A1, A2, A3, AN2, AN3, Nat.reduceBEq, beq_self_eq_true, if_true, if_false, Bool.false_eq_true, reduceCtorEq, decide_eq_true_eq, Bool.not_true, Bool.not_false, true_and, and_true, exists_const, decide_true, decide_false, List.nil_append, b_cat hl] at h ⊢
        rw [Pt.d, List.map_append] at h
        exact h
      · simp only [g, e_var, e_int, e_bl, e_non, e_str, e_ty, e_fnv, e_tup, e_lst, e_bin, e_not, e_neg, neg_i, e_cmp, e_chain, e_and, e_or, e_ife, e_idx, e_slc, e_call, e_bi, e_meth, es_nil, es_cons, g_n, g_t, g_sub, gs_cons, gs_nil, s_asg, s_par, s_aug, s_ex, s_ret, s_ife, s_for, ss_nil, ss_cons, th_nx, th_rt, b_add, b_sub, c_eqi, c_nei, c_eqs, c_nes, c_lt, c_le, c_gt, c_ge, c_isn, c_isnn, i_tup, bi_len_t, bi_min2, bi_max2, R_bind, R_pure, R_lift, R_rd, R_alloc, R_tst, some_ex, L0, LS, OB, id_eq, M0, setAll, S0, SS, AP, Rp0, RpS, A0, A1, A2, A3, AN2, AN3, Nat.reduceBEq, beq_self_eq_true, if_true, if_false, Bool.false_eq_true, reduceCtorEq, decide_eq_true_eq, Bool.not_true, Bool.not_false, true_and, and_true, exists_const, decide_true, decide_false, List.nil_append] at h ⊢
        exact h

/-! ### memory -/
def Fi.mem : Fi → Int
  | .sp n => n
  | .fr n => n + 1
  | .ev _ _ => 1
  | .li _ w => w
theorem run_memory {f : Fi} (h : P (.int f.mem) st) : R (callF G w (k + 1) 24 [f.d]) st P := by
  refine R_call (d := d_memory) rfl rfl ?_
  cases f <;> (simp only [d_memory, Fi.d, List.map, e_var, e_int, e_bl, e_non, e_str, e_ty, e_fnv, e_tup, e_lst, e_bin, e_not, e_neg, neg_i, e_cmp, e_chain, e_and, e_or, e_ife, e_idx, e_slc, e_call, e_bi, e_meth, es_nil, es_cons, g_n, g_t, g_sub, gs_cons, gs_nil, s_asg, s_par, s_aug, s_ex, s_ret, s_ife, s_for, ss_nil, ss_cons, th_nx, th_rt, b_add, b_sub, c_eqi, c_nei, c_eqs, c_nes, c_lt, c_le, c_gt, c_ge, c_isn, c_isnn, i_tup, bi_len_t, bi_min2, bi_max2, R_bind, R_pure, R_lift, R_rd, R_alloc, R_tst, some_ex, L0, LS, OB, id_eq, M0, setAll, S0, SS, AP, Rp0, RpS, A0, A1, A2, A3, AN2, AN3, Nat.reduceBEq, beq_self_eq_true, if_true, if_false, Bool.false_eq_true, reduceCtorEq, decide_eq_true_eq, Bool.not_true, Bool.not_false, true_and, and_true, exists_const, decide_true, decide_false, List.nil_append]; exact h)
/-! ### the first state -/
def Fi.init : Fi → Pt
  | .li _ _ => .l []
  | .ev _ _ => .i 0
  | f => .i f.mem
theorem ext_get {s s' : Sto} {i : Nat} {o : DO} (e : Ext s s') (h : s[i]? = some o) : s'[i]? = some o := (e.2 i (List.getElem?_eq_some_iff.mp h).1).trans h
theorem ext_getL {s s' : Sto} {i : Nat} {xs : List D} (e : Ext s s') (h : getL s i = some xs) : getL s' i = some xs := by
  unfold getL at h ⊢
  cases hi : s[i]? with
  | none => rw [hi] at h; cases h
  | some o => rw [ext_get e hi]; rw [hi] at h; exact h
theorem getL_of {s : Sto} {i : Nat} {xs : List D} (h : s[i]? = some (.lst xs)) : getL s i = some xs := by
  unfold getL
  rw [h]
theorem R_append {n : Nat} {v : D} {xs : List D} {Q : Unit → Sto → Prop} (h : st[n]? = some (.lst xs)) (hl : xs.length < LIM) (q : Q () (st.set n (.lst (xs ++ [v])))) : R (append n v) st Q := ⟨(), _, append_ok h hl, q⟩
theorem R_mappend {n : Nat} {v : D} {xs : List D} {Q : D → Sto → Prop} (h : st[n]? = some (.lst xs)) (hl : xs.length < LIM) (q : Q .non (st.set n (.lst (xs ++ [v])))) : R (method .append (.ref n) [v]) st Q := by
  show R (M.bind (append n v) fun _ => pure .non) st Q
  rw [R_bind]
  exact R_append h hl (R_pure.mpr q)
theorem mchk_append {n : Nat} {xs : List D} (h : getL st n = some xs) : mchk st .append (.ref n) = some () := by
  show (getL st n).map (fun _ => ()) = _
  rw [h]
  rfl
theorem it_ex {e : E} {w : Nat} {cf : Nat → List D → M D} {σ : Env} : evIt w cf (.ex e) σ = M.bind (ev w cf e σ) iterOf := rfl
theorem it_tup {xs : List D} : iterOf (.tup xs) = pure (.tup xs) := rfl
theorem it_enum {e : E} {w : Nat} {cf : Nat → List D → M D} {σ : Env} : evIt w cf (.enum e) σ = M.bind (ev w cf e σ) fun x => M.bind (seqIt x) fun i => pure (.enum i) := rfl
theorem it_zip {a b : E} {w : Nat} {cf : Nat → List D → M D} {σ : Env} : evIt w cf (.zip a b) σ = M.bind (ev w cf a σ) fun x => M.bind (ev w cf b σ) fun y => M.bind (seqIt x) fun i => M.bind (seqIt y) fun j => pure (.zip i j) := rfl
theorem sq_tup {xs : List D} : seqIt (.tup xs) = pure (.tup xs) := rfl
theorem R_sq_ref {n : Nat} {xs : List D} {Q : DIt → Sto → Prop} (h : getL st n = some xs) (q : Q (.lst n) st) : R (seqIt (.ref n)) st Q := by
  refine ⟨.lst n, st, ?_, q⟩
  show M.rd (fun st => (getL st n).map fun _ => DIt.lst n) st = _
  unfold M.rd
  dsimp only
  rw [h]
  rfl
theorem R_it_ref {n : Nat} {xs : List D} {Q : DIt → Sto → Prop} (h : getL st n = some xs) (q : Q (.lst n) st) : R (iterOf (.ref n)) st Q := by
  refine ⟨.lst n, st, ?_, q⟩
  show (match getL st n with
    | some _ => some (DIt.lst n, st)
    | none => M.bind (lock n) (fun _ => pure (.keys n)) st) = _
  rw [h]
theorem R_tuple {n : Nat} {xs : List D} {Q : D → Sto → Prop} (h : getL st n = some xs) (q : Q (.tup xs) st) : R (bifn .tuple [.ref n]) st Q := by
  refine ⟨.tup xs, st, ?_, q⟩
  show M.rd (fun st => (getL st n).map D.tup) st = _
  unfold M.rd
  dsimp only
  rw [h]
  rfl
theorem un_tup {xs : List D} : unlock (.tup xs) = pure () := rfl
theorem un_lst {n : Nat} : unlock (.lst n) = pure () := rfl
theorem un_enum {J : DIt} : unlock (.enum J) = pure () := rfl
theorem un_zip {J J2 : DIt} : unlock (.zip J J2) = pure () := rfl
theorem un_rng {a b : Int} {n : Nat} : unlock (.rng a b n) = pure () := rfl
theorem run_initial {ps : List Fi} {Q : D → Sto → Prop} (hw : ps.length < w) (hl : ps.length ≤ LIM) (h : ∀ s, Ext st s → Q (.tup (ps.map fun f => f.init.d)) s) : R (callF G w (k + 2) 25 [.tup (ps.map Fi.d)]) st Q := by
  refine R_call (d := d_initial) rfl rfl ?_
  try simp only [d_initial, List.map, it_ex, it_tup, e_var, e_int, e_bl, e_non, e_str, e_ty, e_fnv, e_tup, e_lst, e_bin, e_not, e_neg, neg_i, e_cmp, e_chain, e_and, e_or, e_ife, e_idx, e_slc, e_call, e_bi, e_meth, es_nil, es_cons, g_n, g_t, g_sub, gs_cons, gs_nil, s_asg, s_par, s_aug, s_ex, s_ret, s_ife, s_for, ss_nil, ss_cons, th_nx, th_rt, b_add, b_sub, c_eqi, c_nei, c_eqs, c_nes, c_lt, c_le, c_gt, c_ge, c_isn, c_isnn, i_tup, bi_len_t, bi_min2, bi_max2, R_bind, R_pure, R_lift, R_rd, R_alloc, R_tst, some_ex, L0, LS, OB, id_eq, M0, setAll, S0, SS, AP, Rp0, RpS, A0, A1, A2, A3, AN2, AN3, Nat.reduceBEq, beq_self_eq_true, if_true, if_false, Bool.false_eq_true, reduceCtorEq, decide_eq_true_eq, Bool.not_true, Bool.not_false, true_and, and_true, exists_const, decide_true, decide_false, List.nil_append]
  refine R_for (xs := ps.map Fi.d) (fun i σ s => ∃ y, σ = [some (.tup (ps.map Fi.d)), some (.ref st.length), y] ∧ Ext st s ∧ s[st.length]? = some (.lst ((ps.take i).map fun f => f.init.d))) (by rw [List.length_map]; exact hw) ⟨none, rfl, Ext.new st _, ?_⟩ ?_ ?_ ?_
  · rw [List.getElem?_append_right (Nat.le_refl _), Nat.sub_self]
    rfl
  · intro i σ s hi _
    exact get_tup hi
  · rintro i x σ s hx ⟨y, rfl, ex, hs⟩
    rw [List.getElem?_map, Option.map_eq_some_iff] at hx
    obtain ⟨f, hf, rfl⟩ := hx
    have ht : (ps.take (i + 1)).map (fun f => f.init.d) = (ps.take i).map (fun f => f.init.d) ++ [f.init.d] := by
      rw [List.take_add_one, hf, List.map_append]
      rfl
    have hlen : ((ps.take i).map fun f => f.init.d).length < LIM := by
      have := (List.getElem?_eq_some_iff.mp hf).1
      rw [List.length_map, List.length_take]
      omega
    have fin : ∀ (v : D), v = f.init.d → ∃ y, [some (.tup (ps.map Fi.d)), some (.ref st.length), some f.d] = [some (D.tup (ps.map Fi.d)), some (.ref st.length), y] ∧ Ext st (s.set st.length (.lst ((ps.take i).map (fun f => f.init.d) ++ [v]))) ∧
        (s.set st.length (.lst ((ps.take i).map (fun f => f.init.d) ++ [v])))[st.length]? = some (.lst ((ps.take (i + 1)).map fun f => f.init.d)) := fun v e => by
      subst e
      exact ⟨_, rfl, ex.set (Nat.le_refl _) _, by rw [List.getElem?_set_self (List.getElem?_eq_some_iff.mp hs).1, ht]⟩
    cases f with
    | sp n =>
      try simp only [Fi.d, mchk_append (getL_of hs), e_var, e_int, e_bl, e_non, e_str, e_ty, e_fnv, e_tup, e_lst, e_bin, e_not, e_neg, neg_i, e_cmp, e_chain, e_and, e_or, e_ife, e_idx, e_slc, e_call, e_bi, e_meth, es_nil, es_cons, g_n, g_t, g_sub, gs_cons, gs_nil, s_asg, s_par, s_aug, s_ex, s_ret, s_ife, s_for, ss_nil, ss_cons, th_nx, th_rt, b_add, b_sub, c_eqi, c_nei, c_eqs, c_nes, c_lt, c_le, c_gt, c_ge, c_isn, c_isnn, i_tup, bi_len_t, bi_min2, bi_max2, R_bind, R_pure, R_lift, R_rd, R_alloc, R_tst, some_ex, L0, LS, OB, id_eq, M0, setAll, S0, SS, AP, Rp0, RpS, A0, A1, A2, A3, AN2, AN3, Nat.reduceBEq, beq_self_eq_true, if_true, if_false, Bool.false_eq_true, reduceCtorEq, decide_eq_true_eq, Bool.not_true, Bool.not_false, true_and, and_true, exists_const, decide_true, decide_false, List.nil_append]
      refine run_memory (f := .sp n) ?_
      refine R_mappend hs hlen ?_
      exact fin _ rfl
    | fr n =>
      try simp only [Fi.d, mchk_append (getL_of hs), e_var, e_int, e_bl, e_non, e_str, e_ty, e_fnv, e_tup, e_lst, e_bin, e_not, e_neg, neg_i, e_cmp, e_chain, e_and, e_or, e_ife, e_idx, e_slc, e_call, e_bi, e_meth, es_nil, es_cons, g_n, g_t, g_sub, gs_cons, gs_nil, s_asg, s_par, s_aug, s_ex, s_ret, s_ife, s_for, ss_nil, ss_cons, th_nx, th_rt, b_add, b_sub, c_eqi, c_nei, c_eqs, c_nes, c_lt, c_le, c_gt, c_ge, c_isn, c_isnn, i_tup, bi_len_t, bi_min2, bi_max2, R_bind, R_pure, R_lift, R_rd, R_alloc, R_tst, some_ex, L0, LS, OB, id_eq, M0, setAll, S0, SS, AP, Rp0, RpS, A0, A1, A2, A3, AN2, AN3, Nat.reduceBEq, beq_self_eq_true, if_true, if_false, Bool.false_eq_true, reduceCtorEq, decide_eq_true_eq, Bool.not_true, Bool.not_false, true_and, and_true, exists_const, decide_true, decide_false, List.nil_append]
      refine run_memory (f := .fr n) ?_
      refine R_mappend hs hlen ?_
      exact fin _ rfl
    | ev n r =>
      try simp only [Fi.d, mchk_append (getL_of hs), e_var, e_int, e_bl, e_non, e_str, e_ty, e_fnv, e_tup, e_lst, e_bin, e_not, e_neg, neg_i, e_cmp, e_chain, e_and, e_or, e_ife, e_idx, e_slc, e_call, e_bi, e_meth, es_nil, es_cons, g_n, g_t, g_sub, gs_cons, gs_nil, s_asg, s_par, s_aug, s_ex, s_ret, s_ife, s_for, ss_nil, ss_cons, th_nx, th_rt, b_add, b_sub, c_eqi, c_nei, c_eqs, c_nes, c_lt, c_le, c_gt, c_ge, c_isn, c_isnn, i_tup, bi_len_t, bi_min2, bi_max2, R_bind, R_pure, R_lift, R_rd, R_alloc, R_tst, some_ex, L0, LS, OB, id_eq, M0, setAll, S0, SS, AP, Rp0, RpS, A0, A1, A2, A3, AN2, AN3, Nat.reduceBEq, beq_self_eq_true, if_true, if_false, Bool.false_eq_true, reduceCtorEq, decide_eq_true_eq, Bool.not_true, Bool.not_false, true_and, and_true, exists_const, decide_true, decide_false, List.nil_append]
      refine R_mappend hs hlen ?_
      exact fin _ rfl
    | li c x =>
      try simp only [Fi.d, mchk_append (getL_of hs), e_var, e_int, e_bl, e_non, e_str, e_ty, e_fnv, e_tup, e_lst, e_bin, e_not, e_neg, neg_i, e_cmp, e_chain, e_and, e_or, e_ife, e_idx, e_slc, e_call, e_bi, e_meth, es_nil, es_cons, g_n, g_t, g_sub, gs_cons, gs_nil, s_asg, s_par, s_aug, s_ex, s_ret, s_ife, s_for, ss_nil, ss_cons, th_nx, th_rt, b_add, b_sub, c_eqi, c_nei, c_eqs, c_nes, c_lt, c_le, c_gt, c_ge, c_isn, c_isnn, i_tup, bi_len_t, bi_min2, bi_max2, R_bind, R_pure, R_lift, R_rd, R_alloc, R_tst, some_ex, L0, LS, OB, id_eq, M0, setAll, S0, SS, AP, Rp0, RpS, A0, A1, A2, A3, AN2, AN3, Nat.reduceBEq, beq_self_eq_true, if_true, if_false, Bool.false_eq_true, reduceCtorEq, decide_eq_true_eq, Bool.not_true, Bool.not_false, true_and, and_true, exists_const, decide_true, decide_false, List.nil_append]
      refine R_mappend hs hlen ?_
      exact fin _ rfl
  · rintro σ s ⟨y, rfl, ex, hs⟩
    try simp only [un_tup, e_var, e_int, e_bl, e_non, e_str, e_ty, e_fnv, e_tup, e_lst, e_bin, e_not, e_neg, neg_i, e_cmp, e_chain, e_and, e_or, e_ife, e_idx, e_slc, e_call, e_bi, e_meth, es_nil, es_cons, g_n, g_t, g_sub, gs_cons, gs_nil, s_asg, s_par, s_aug, s_ex, s_ret, s_ife, s_for, ss_nil, ss_cons, th_nx, th_rt, b_add, b_sub, c_eqi, c_nei, c_eqs, c_nes, c_lt, c_le, c_gt, c_ge, c_isn, c_isnn, i_tup, bi_len_t, bi_min2, bi_max2, R_bind, R_pure, R_lift, R_rd, R_alloc, R_tst, some_ex, L0, LS, OB, id_eq, M0, setAll, S0, SS, AP, Rp0, RpS, A0, A1, A2, A3, AN2, AN3, Nat.reduceBEq, beq_self_eq_true, if_true, if_false, Bool.false_eq_true, reduceCtorEq, decide_eq_true_eq, Bool.not_true, Bool.not_false, true_and, and_true, exists_const, decide_true, decide_false, List.nil_append]
    rw [List.length_map, List.take_length] at hs
    refine R_tuple (getL_of hs) ?_
    exact h s ex
end
end TL

/-! The machine: later, read, run, keep. -/
namespace TL
theorem t_nil {w : Nat} {cf : Nat → List D → M D} {σ : Env} : tests w cf [] σ = pure true := rfl
theorem t_one {w : Nat} {cf : Nat → List D → M D} {σ : Env} {c : E} : tests w cf [c] σ = M.bind (ev w cf c σ) tst := rfl
theorem w_nil {σ : Env} : wipe σ [] = σ := rfl
theorem w_cons {σ : Env} {v : Nat} {vs : List Nat} : wipe σ (v :: vs) = (wipe σ vs).set v none := rfl
theorem LN : ([] : List D).length = 0 := rfl
theorem LC1 {x : D} {xs : List D} : (x :: xs).length = xs.length + 1 := rfl
theorem TN : ([] : List Tg).length = 0 := rfl
theorem TC1 {x : Tg} {xs : List Tg} : (x :: xs).length = xs.length + 1 := rfl
def Fi.age (g : Int) : Fi → Pt → Pt
  | .ev _ _, p => p
  | .li _ w, .l as => .l ((as.map (· + g)).filter fun a => decide (a < w))
  | .li _ _, p => p
  | f, .i a => .i (if a + g < f.mem then a + g else f.mem)
  | _, p => p
structure StOk (ps : List Fi) (qs : List Pt) : Prop where
  len : ps.length = qs.length
  fit : ∀ (i : Nat) (f : Fi) (p : Pt), ps[i]? = some f → qs[i]? = some p → f.fits p ∧ ∀ as, p = .l as → as.length ≤ 3
/-- one item of the ages -/
def ageD (g x : Int) : D → Option D
  | .int a => if a + g < x then some (.int (a + g)) else none
  | _ => none
theorem age_fm {g x : Int} : ∀ as : List Int, (as.map D.int).filterMap (ageD g x) = ((as.map (· + g)).filter fun a => decide (a < x)).map D.int
  | [] => rfl
  | a :: as => by
    have ih := age_fm (g := g) (x := x) as
    by_cases h : a + g < x
    · have e : ageD g x (.int a) = some (.int (a + g)) := if_pos h
      rw [List.map_cons, List.filterMap_cons, e, List.map_cons, List.filter_cons, if_pos (decide_eq_true h), List.map_cons, ih]
    · have e : ageD g x (.int a) = none := if_neg h
      rw [List.map_cons, List.filterMap_cons, e, List.map_cons, List.filter_cons, if_neg (by rw [decide_eq_false h]; exact Bool.false_ne_true), ih]
section
variable {w k : Nat} {st : Sto}
theorem run_later {ps : List Fi} {qs : List Pt} {g : Int} {Q : D → Sto → Prop} (ok : StOk ps qs) (hw : qs.length < w) (hw3 : 3 < w) (hl : qs.length ≤ LIM) (h : ∀ s, Ext st s → Q (.tup ((List.zipWith (fun f p => f.age g p) ps qs).map Pt.d)) s) :
    R (callF G w (k + 2) 26 [.tup (ps.map Fi.d), .tup (qs.map Pt.d), .int g]) st Q := by
  have len := ok.len
  refine R_call (d := d_later) rfl rfl ?_
  try simp only [d_later, List.map, it_zip, sq_tup, e_var, e_int, e_bl, e_non, e_str, e_ty, e_fnv, e_tup, e_lst, e_bin, e_not, e_neg, neg_i, e_cmp, e_chain, e_and, e_or, e_ife, e_idx, e_slc, e_call, e_bi, e_meth, es_nil, es_cons, g_n, g_t, g_sub, gs_cons, gs_nil, s_asg, s_par, s_aug, s_ex, s_ret, s_ife, s_for, ss_nil, ss_cons, th_nx, th_rt, b_add, b_sub, c_eqi, c_nei, c_eqs, c_nes, c_lt, c_le, c_gt, c_ge, c_isn, c_isnn, i_tup, bi_len_t, bi_min2, bi_max2, R_bind, R_pure, R_lift, R_rd, R_alloc, R_tst, some_ex, L0, LS, OB, id_eq, M0, setAll, S0, SS, AP, Rp0, RpS, A0, A1, A2, A3, AN2, AN3, Nat.reduceBEq, beq_self_eq_true, if_true, if_false, Bool.false_eq_true, reduceCtorEq, decide_eq_true_eq, Bool.not_true, Bool.not_false, true_and, and_true, exists_const, decide_true, decide_false, List.nil_append]
  refine R_for (xs := zipL (ps.map Fi.d) (qs.map Pt.d)) (fun i σ s => ∃ y z, σ = [some (.tup (ps.map Fi.d)), some (.tup (qs.map Pt.d)), some (.int g), some (.ref st.length), y, z, none] ∧ Ext st s ∧
    s[st.length]? = some (.lst (((List.zipWith (fun f p => f.age g p) ps qs).take i).map Pt.d))) (by unfold zipL; rw [List.length_zipWith, List.length_map, List.length_map]; omega) ⟨none, none, rfl, Ext.new st _, ?_⟩ ?_ ?_ ?_
  · rw [List.getElem?_append_right (Nat.le_refl _), Nat.sub_self]
    rfl
  · intro i σ s hi _
    unfold zipL at hi
    rw [List.length_zipWith, List.length_map, List.length_map] at hi
    exact get_zip (by rw [List.length_map, List.length_map, len]) (get_tup (by rw [List.length_map]; omega)) (get_tup (by rw [List.length_map]; omega))
  · rintro i x σ s hx ⟨y, z, rfl, ex, hs⟩
    rw [zipL_get, List.getElem?_map, List.getElem?_map] at hx
    cases hf : ps[i]? with
    | none => rw [hf] at hx; cases hx
    | some f =>
      cases hp : qs[i]? with
      | none => rw [hf, hp] at hx; cases hx
      | some p =>
        rw [hf, hp] at hx
        cases hx
        obtain ⟨fit, f3⟩ := ok.fit i f p hf hp
        have hz : (List.zipWith (fun f p => Fi.age g f p) ps qs)[i]? = some (f.age g p) := by
          rw [List.getElem?_zipWith, hf, hp]
        have ht : ((List.zipWith (fun f p => Fi.age g f p) ps qs).take (i + 1)).map Pt.d = ((List.zipWith (fun f p => Fi.age g f p) ps qs).take i).map Pt.d ++ [(f.age g p).d] := by
          rw [List.take_add_one, hz, List.map_append]
          rfl
        have hlen : (((List.zipWith (fun f p => Fi.age g f p) ps qs).take i).map Pt.d).length < LIM := by
          have := (List.getElem?_eq_some_iff.mp hp).1
          rw [List.length_map, List.length_take, List.length_zipWith]
          omega
        have fin : ∀ (v : D) (s' : Sto), Ext s s' → v = (f.age g p).d → R (method .append (.ref st.length) [v]) s' fun _ s'' => ∃ y' z', [some (.tup (ps.map Fi.d)), some (.tup (qs.map Pt.d)), some (.int g), some (.ref st.length), some f.d, some p.d, none] = [some (D.tup (ps.map Fi.d)), some (.tup (qs.map Pt.d)), some (.int g), some (.ref st.length), y', z', none] ∧ Ext st s'' ∧
            s''[st.length]? = some (.lst (((List.zipWith (fun f p => Fi.age g f p) ps qs).take (i + 1)).map Pt.d)) := fun v s' ex' e => by
          subst e
          have hs' := ext_get ex' hs
          refine R_mappend hs' hlen ⟨_, _, rfl, (ex.trans ex').set (Nat.le_refl _) _, ?_⟩
          rw [List.getElem?_set_self (List.getElem?_eq_some_iff.mp hs').1, ht]
        have mc : ∀ s', Ext s s' → mchk s' .append (.ref st.length) = some () := fun s' e => mchk_append (getL_of (ext_get e hs))
        cases f with
        | ev n r =>
          try simp only [Fi.d, g_t, gs_cons, gs_nil, LN, LC1, TN, TC1, mc s (Ext.refl s), e_var, e_int, e_bl, e_non, e_str, e_ty, e_fnv, e_tup, e_lst, e_bin, e_not, e_neg, neg_i, e_cmp, e_chain, e_and, e_or, e_ife, e_idx, e_slc, e_call, e_bi, e_meth, es_nil, es_cons, g_n, g_t, g_sub, gs_cons, gs_nil, s_asg, s_par, s_aug, s_ex, s_ret, s_ife, s_for, ss_nil, ss_cons, th_nx, th_rt, b_add, b_sub, c_eqi, c_nei, c_eqs, c_nes, c_lt, c_le, c_gt, c_ge, c_isn, c_isnn, i_tup, bi_len_t, bi_min2, bi_max2, R_bind, R_pure, R_lift, R_rd, R_alloc, R_tst, some_ex, L0, LS, OB, id_eq, M0, setAll, S0, SS, AP, Rp0, RpS, A0, A1, A2, A3, AN2, AN3, Nat.reduceBEq, beq_self_eq_true, if_true, if_false, Bool.false_eq_true, reduceCtorEq, decide_eq_true_eq, Bool.not_true, Bool.not_false, true_and, and_true, exists_const, decide_true, decide_false, List.nil_append]
          exact fin _ s (Ext.refl s) rfl
        | sp n =>
          cases p with
          | l as => cases fit
          | i a =>
            try simp only [Fi.d, Pt.d, g_t, gs_cons, gs_nil, LN, LC1, TN, TC1, mc s (Ext.refl s), e_var, e_int, e_bl, e_non, e_str, e_ty, e_fnv, e_tup, e_lst, e_bin, e_not, e_neg, neg_i, e_cmp, e_chain, e_and, e_or, e_ife, e_idx, e_slc, e_call, e_bi, e_meth, es_nil, es_cons, g_n, g_t, g_sub, gs_cons, gs_nil, s_asg, s_par, s_aug, s_ex, s_ret, s_ife, s_for, ss_nil, ss_cons, th_nx, th_rt, b_add, b_sub, c_eqi, c_nei, c_eqs, c_nes, c_lt, c_le, c_gt, c_ge, c_isn, c_isnn, i_tup, bi_len_t, bi_min2, bi_max2, R_bind, R_pure, R_lift, R_rd, R_alloc, R_tst, some_ex, L0, LS, OB, id_eq, M0, setAll, S0, SS, AP, Rp0, RpS, A0, A1, A2, A3, AN2, AN3, Nat.reduceBEq, beq_self_eq_true, if_true, if_false, Bool.false_eq_true, reduceCtorEq, decide_eq_true_eq, Bool.not_true, Bool.not_false, true_and, and_true, exists_const, decide_true, decide_false, List.nil_append]
            refine run_memory (f := .sp n) ?_
            try simp only [e_var, e_int, e_bl, e_non, e_str, e_ty, e_fnv, e_tup, e_lst, e_bin, e_not, e_neg, neg_i, e_cmp, e_chain, e_and, e_or, e_ife, e_idx, e_slc, e_call, e_bi, e_meth, es_nil, es_cons, g_n, g_t, g_sub, gs_cons, gs_nil, s_asg, s_par, s_aug, s_ex, s_ret, s_ife, s_for, ss_nil, ss_cons, th_nx, th_rt, b_add, b_sub, c_eqi, c_nei, c_eqs, c_nes, c_lt, c_le, c_gt, c_ge, c_isn, c_isnn, i_tup, bi_len_t, bi_min2, bi_max2, R_bind, R_pure, R_lift, R_rd, R_alloc, R_tst, some_ex, L0, LS, OB, id_eq, M0, setAll, S0, SS, AP, Rp0, RpS, A0, A1, A2, A3, AN2, AN3, Nat.reduceBEq, beq_self_eq_true, if_true, if_false, Bool.false_eq_true, reduceCtorEq, decide_eq_true_eq, Bool.not_true, Bool.not_false, true_and, and_true, exists_const, decide_true, decide_false, List.nil_append]
            refine fin _ s (Ext.refl s) ?_
            show D.int _ = D.int _
            rfl
        | fr n =>
          cases p with
          | l as => cases fit
          | i a =>
            try simp only [Fi.d, Pt.d, g_t, gs_cons, gs_nil, LN, LC1, TN, TC1, mc s (Ext.refl s), e_var, e_int, e_bl, e_non, e_str, e_ty, e_fnv, e_tup, e_lst, e_bin, e_not, e_neg, neg_i, e_cmp, e_chain, e_and, e_or, e_ife, e_idx, e_slc, e_call, e_bi, e_meth, es_nil, es_cons, g_n, g_t, g_sub, gs_cons, gs_nil, s_asg, s_par, s_aug, s_ex, s_ret, s_ife, s_for, ss_nil, ss_cons, th_nx, th_rt, b_add, b_sub, c_eqi, c_nei, c_eqs, c_nes, c_lt, c_le, c_gt, c_ge, c_isn, c_isnn, i_tup, bi_len_t, bi_min2, bi_max2, R_bind, R_pure, R_lift, R_rd, R_alloc, R_tst, some_ex, L0, LS, OB, id_eq, M0, setAll, S0, SS, AP, Rp0, RpS, A0, A1, A2, A3, AN2, AN3, Nat.reduceBEq, beq_self_eq_true, if_true, if_false, Bool.false_eq_true, reduceCtorEq, decide_eq_true_eq, Bool.not_true, Bool.not_false, true_and, and_true, exists_const, decide_true, decide_false, List.nil_append]
            refine run_memory (f := .fr n) ?_
            try simp only [e_var, e_int, e_bl, e_non, e_str, e_ty, e_fnv, e_tup, e_lst, e_bin, e_not, e_neg, neg_i, e_cmp, e_chain, e_and, e_or, e_ife, e_idx, e_slc, e_call, e_bi, e_meth, es_nil, es_cons, g_n, g_t, g_sub, gs_cons, gs_nil, s_asg, s_par, s_aug, s_ex, s_ret, s_ife, s_for, ss_nil, ss_cons, th_nx, th_rt, b_add, b_sub, c_eqi, c_nei, c_eqs, c_nes, c_lt, c_le, c_gt, c_ge, c_isn, c_isnn, i_tup, bi_len_t, bi_min2, bi_max2, R_bind, R_pure, R_lift, R_rd, R_alloc, R_tst, some_ex, L0, LS, OB, id_eq, M0, setAll, S0, SS, AP, Rp0, RpS, A0, A1, A2, A3, AN2, AN3, Nat.reduceBEq, beq_self_eq_true, if_true, if_false, Bool.false_eq_true, reduceCtorEq, decide_eq_true_eq, Bool.not_true, Bool.not_false, true_and, and_true, exists_const, decide_true, decide_false, List.nil_append]
            exact fin _ s (Ext.refl s) rfl
        | li c x =>
          cases p with
          | i a => cases fit
          | l as =>
            have a3 := f3 as rfl
            try simp only [Fi.d, Pt.d, g_t, gs_cons, gs_nil, LN, LC1, TN, TC1, mc s (Ext.refl s), e_var, e_int, e_bl, e_non, e_str, e_ty, e_fnv, e_tup, e_lst, e_bin, e_not, e_neg, neg_i, e_cmp, e_chain, e_and, e_or, e_ife, e_idx, e_slc, e_call, e_bi, e_meth, es_nil, es_cons, g_n, g_t, g_sub, gs_cons, gs_nil, s_asg, s_par, s_aug, s_ex, s_ret, s_ife, s_for, ss_nil, ss_cons, th_nx, th_rt, b_add, b_sub, c_eqi, c_nei, c_eqs, c_nes, c_lt, c_le, c_gt, c_ge, c_isn, c_isnn, i_tup, bi_len_t, bi_min2, bi_max2, R_bind, R_pure, R_lift, R_rd, R_alloc, R_tst, some_ex, L0, LS, OB, id_eq, M0, setAll, S0, SS, AP, Rp0, RpS, A0, A1, A2, A3, AN2, AN3, Nat.reduceBEq, beq_self_eq_true, if_true, if_false, Bool.false_eq_true, reduceCtorEq, decide_eq_true_eq, Bool.not_true, Bool.not_false, true_and, and_true, exists_const, decide_true, decide_false, List.nil_append]
            refine R_comp (as.map D.int) (ageD g x) ?_ (by rw [List.length_map]; exact Nat.le_trans a3 (by decide)) (by rw [List.length_map]; omega)
            try simp only [it_ex, it_tup, e_var, e_int, e_bl, e_non, e_str, e_ty, e_fnv, e_tup, e_lst, e_bin, e_not, e_neg, neg_i, e_cmp, e_chain, e_and, e_or, e_ife, e_idx, e_slc, e_call, e_bi, e_meth, es_nil, es_cons, g_n, g_t, g_sub, gs_cons, gs_nil, s_asg, s_par, s_aug, s_ex, s_ret, s_ife, s_for, ss_nil, ss_cons, th_nx, th_rt, b_add, b_sub, c_eqi, c_nei, c_eqs, c_nes, c_lt, c_le, c_gt, c_ge, c_isn, c_isnn, i_tup, bi_len_t, bi_min2, bi_max2, R_bind, R_pure, R_lift, R_rd, R_alloc, R_tst, some_ex, L0, LS, OB, id_eq, M0, setAll, S0, SS, AP, Rp0, RpS, A0, A1, A2, A3, AN2, AN3, Nat.reduceBEq, beq_self_eq_true, if_true, if_false, Bool.false_eq_true, reduceCtorEq, decide_eq_true_eq, Bool.not_true, Bool.not_false, true_and, and_true, exists_const, decide_true, decide_false, List.nil_append]
            refine ⟨rfl, fun s' _ i hi => get_tup hi, fun i d s' hd _ => ?_, fun s' ex' hs' => ?_⟩
            · rw [List.getElem?_map, Option.map_eq_some_iff] at hd
              obtain ⟨a, _, rfl⟩ := hd
              unfold elt1
              try simp only [w_cons, w_nil, t_one, e_var, e_int, e_bl, e_non, e_str, e_ty, e_fnv, e_tup, e_lst, e_bin, e_not, e_neg, neg_i, e_cmp, e_chain, e_and, e_or, e_ife, e_idx, e_slc, e_call, e_bi, e_meth, es_nil, es_cons, g_n, g_t, g_sub, gs_cons, gs_nil, s_asg, s_par, s_aug, s_ex, s_ret, s_ife, s_for, ss_nil, ss_cons, th_nx, th_rt, b_add, b_sub, c_eqi, c_nei, c_eqs, c_nes, c_lt, c_le, c_gt, c_ge, c_isn, c_isnn, i_tup, bi_len_t, bi_min2, bi_max2, R_bind, R_pure, R_lift, R_rd, R_alloc, R_tst, some_ex, L0, LS, OB, id_eq, M0, setAll, S0, SS, AP, Rp0, RpS, A0, A1, A2, A3, AN2, AN3, Nat.reduceBEq, beq_self_eq_true, if_true, if_false, Bool.false_eq_true, reduceCtorEq, decide_eq_true_eq, Bool.not_true, Bool.not_false, true_and, and_true, exists_const, decide_true, decide_false, List.nil_append]
              by_cases hc : a + g < x
              · simp only [hc, e_var, e_int, e_bl, e_non, e_str, e_ty, e_fnv, e_tup, e_lst, e_bin, e_not, e_neg, neg_i, e_cmp, e_chain, e_and, e_or, e_ife, e_idx, e_slc, e_call, e_bi, e_meth, es_nil, es_cons, g_n, g_t, g_sub, gs_cons, gs_nil, s_asg, s_par, s_aug, s_ex, s_ret, s_ife, s_for, ss_nil, ss_cons, th_nx, th_rt, b_add, b_sub, c_eqi, c_nei, c_eqs, c_nes, c_lt, c_le, c_gt, c_ge, c_isn, c_isnn, i_tup, bi_len_t, bi_min2, bi_max2, R_bind, R_pure, R_lift, R_rd, R_alloc, R_tst, some_ex, L0, LS, OB, id_eq, M0, setAll, S0, SS, AP, Rp0, RpS, A0, A1, A2, A3, AN2, AN3, Nat.reduceBEq, beq_self_eq_true, if_true, if_false, Bool.false_eq_true, reduceCtorEq, decide_eq_true_eq, Bool.not_true, Bool.not_false, true_and, and_true, exists_const, decide_true, decide_false, List.nil_append]
                exact ⟨(if_pos hc).symm, Ext.refl _⟩
              · simp only [hc, e_var, e_int, e_bl, e_non, e_str, e_ty, e_fnv, e_tup, e_lst, e_bin, e_not, e_neg, neg_i, e_cmp, e_chain, e_and, e_or, e_ife, e_idx, e_slc, e_call, e_bi, e_meth, es_nil, es_cons, g_n, g_t, g_sub, gs_cons, gs_nil, s_asg, s_par, s_aug, s_ex, s_ret, s_ife, s_for, ss_nil, ss_cons, th_nx, th_rt, b_add, b_sub, c_eqi, c_nei, c_eqs, c_nes, c_lt, c_le, c_gt, c_ge, c_isn, c_isnn, i_tup, bi_len_t, bi_min2, bi_max2, R_bind, R_pure, R_lift, R_rd, R_alloc, R_tst, some_ex, L0, LS, OB, id_eq, M0, setAll, S0, SS, AP, Rp0, RpS, A0, A1, A2, A3, AN2, AN3, Nat.reduceBEq, beq_self_eq_true, if_true, if_false, Bool.false_eq_true, reduceCtorEq, decide_eq_true_eq, Bool.not_true, Bool.not_false, true_and, and_true, exists_const, decide_true, decide_false, List.nil_append]
                exact ⟨(if_neg hc).symm, Ext.refl _⟩
            · refine R_tuple (getL_of hs') ?_
              refine fin _ s' ex' ?_
              rw [age_fm]
              rfl
  · rintro σ s ⟨y, z, rfl, ex, hs⟩
    try simp only [un_zip, e_var, e_int, e_bl, e_non, e_str, e_ty, e_fnv, e_tup, e_lst, e_bin, e_not, e_neg, neg_i, e_cmp, e_chain, e_and, e_or, e_ife, e_idx, e_slc, e_call, e_bi, e_meth, es_nil, es_cons, g_n, g_t, g_sub, gs_cons, gs_nil, s_asg, s_par, s_aug, s_ex, s_ret, s_ife, s_for, ss_nil, ss_cons, th_nx, th_rt, b_add, b_sub, c_eqi, c_nei, c_eqs, c_nes, c_lt, c_le, c_gt, c_ge, c_isn, c_isnn, i_tup, bi_len_t, bi_min2, bi_max2, R_bind, R_pure, R_lift, R_rd, R_alloc, R_tst, some_ex, L0, LS, OB, id_eq, M0, setAll, S0, SS, AP, Rp0, RpS, A0, A1, A2, A3, AN2, AN3, Nat.reduceBEq, beq_self_eq_true, if_true, if_false, Bool.false_eq_true, reduceCtorEq, decide_eq_true_eq, Bool.not_true, Bool.not_false, true_and, and_true, exists_const, decide_true, decide_false, List.nil_append]
    have hz : (zipL (ps.map Fi.d) (qs.map Pt.d)).length = (List.zipWith (fun f p => Fi.age g f p) ps qs).length := by
      unfold zipL
      rw [List.length_zipWith, List.length_zipWith, List.length_map, List.length_map]
    rw [hz, List.take_length] at hs
    refine R_tuple (getL_of hs) ?_
    exact h s ex

/-! ### read -/
def rd : List Fi → List Pt → List Pt × Option Nat
  | f :: fs, p :: ps => if (f.dec p).1 = true then ((f.dec p).2 :: (rd fs ps).1, (rd fs ps).2.map (· + 1)) else ((f.dec p).2 :: ps, some 0)
  | _, ps => (ps, none)
def decs (ps : List Fi) (qs : List Pt) : List Pt := List.zipWith (fun f p => (Fi.dec f p).2) ps qs
theorem rd_at : ∀ {ps : List Fi} {qs : List Pt} {i : Nat} {f : Fi} {p : Pt}, (∀ (j : Nat) (f : Fi) (p : Pt), j < i → ps[j]? = some f → qs[j]? = some p → (f.dec p).1 = true) → ps[i]? = some f → qs[i]? = some p → (f.dec p).1 = false →
    rd ps qs = ((decs ps qs).take i ++ (f.dec p).2 :: qs.drop (i + 1), some i)
  | [], _, i, f, p, _, h, _, _ => by simp at h
  | _ :: _, [], i, f, p, _, _, h, _ => by simp at h
  | f0 :: ps, p0 :: qs, 0, f, p, _, h1, h2, h3 => by
    simp only [List.getElem?_cons_zero, Option.some.injEq] at h1 h2
    subst h1 h2
    show (if (f0.dec p0).1 = true then _ else _) = _
    rw [if_neg (by rw [h3]; exact Bool.false_ne_true)]
    rfl
  | f0 :: ps, p0 :: qs, i + 1, f, p, ha, h1, h2, h3 => by
    have h0 := ha 0 f0 p0 (Nat.succ_pos _) rfl rfl
    have ih := rd_at (ps := ps) (qs := qs) (i := i) (fun j f p hj e1 e2 => ha (j + 1) f p (by omega) (by simpa using e1) (by simpa using e2)) (by simpa using h1) (by simpa using h2) h3
    show (if (f0.dec p0).1 = true then _ else _) = _
    rw [if_pos h0, ih]
    rfl
theorem rd_all : ∀ {ps : List Fi} {qs : List Pt}, ps.length = qs.length → (∀ (j : Nat) (f : Fi) (p : Pt), ps[j]? = some f → qs[j]? = some p → (f.dec p).1 = true) → rd ps qs = (decs ps qs, none)
  | [], [], _, _ => rfl
  | f0 :: ps, p0 :: qs, hl, ha => by
    have h0 := ha 0 f0 p0 rfl rfl
    have ih := rd_all (ps := ps) (qs := qs) (by simpa using hl) fun j f p e1 e2 => ha (j + 1) f p (by simpa using e1) (by simpa using e2)
    show (if (f0.dec p0).1 = true then _ else _) = _
    rw [if_pos h0, ih]
    rfl
theorem R_list_t {ys : List D} {Q : D → Sto → Prop} : R (bifn .list [.tup ys]) st Q ↔ Q (.ref st.length) (st ++ [.lst ys]) := R_alloc
theorem atI_nat {α : Type} {xs : List α} {i : Nat} {x : α} (h : xs[i]? = some x) : atI xs (i : Int) = some x := by
  unfold atI
  rw [if_pos (Int.natCast_nonneg i)]
  simpa using h
theorem R_setItem {n i : Nat} {v : D} {xs : List D} {Q : Unit → Sto → Prop} (h : st[n]? = some (.lst xs)) (hi : i < xs.length) (q : Q () (st.set n (.lst (xs.set i v)))) : R (setItem (.ref n) (.int (i : Nat)) v) st Q := by
  refine ⟨(), _, ?_, q⟩
  have e : ixI xs.length (i : Int) = some i := by
    unfold ixI
    rw [if_pos (Int.natCast_nonneg i), if_pos (by omega)]
    rfl
  show (match st[n]?, D.int (i : Nat) with
    | some (.lst xs), .int k => match ixI xs.length k with
      | some j => some ((), st.set n (.lst (xs.set j v)))
      | none => none
    | some (.dct kvs), k => if keyFor kvs k && decide (kvs.length < LIM) then some ((), st.set n (.dct (putD kvs k v))) else none
    | _, _ => none) = _
  rw [h]
  show (match ixI xs.length (i : Int) with
      | some j => some ((), st.set n (.lst (xs.set j v)))
      | none => none) = _
  rw [e]
def optD : Option Nat → D
  | none => .non
  | some i => .int (i : Nat)
theorem set_mid {α : Type} {ds qs : List α} {i : Nat} {x y : α} (hd : ds.length = qs.length) (h : qs[i]? = some y) : (ds.take i ++ qs.drop i).set i x = ds.take i ++ x :: qs.drop (i + 1) := by
  have hi := (List.getElem?_eq_some_iff.mp h).1
  have e : (ds.take i).length = i := by rw [List.length_take]; omega
  rw [List.set_append_right _ _ (by omega), e, Nat.sub_self, List.drop_eq_getElem_cons hi]
  rfl
theorem run_read {ps : List Fi} {qs : List Pt} {Q : D → Sto → Prop} (ok : StOk ps qs) (hg : ∀ f ∈ ps, f.good) (hw : qs.length < w) (hl : qs.length ≤ LIM) (h : ∀ s, Ext st s → Q (.tup [.tup ((rd ps qs).1.map Pt.d), optD (rd ps qs).2]) s) :
    R (callF G w (k + 2) 28 [.tup (ps.map Fi.d), .tup (qs.map Pt.d)]) st Q := by
  have len := ok.len
  have dl : (decs ps qs).length = qs.length := by unfold decs; rw [List.length_zipWith]; omega
  refine R_call (d := d_read) rfl rfl ?_
  try simp only [d_read, List.map, it_enum, sq_tup, R_list_t, e_var, e_int, e_bl, e_non, e_str, e_ty, e_fnv, e_tup, e_lst, e_bin, e_not, e_neg, neg_i, e_cmp, e_chain, e_and, e_or, e_ife, e_idx, e_slc, e_call, e_bi, e_meth, es_nil, es_cons, g_n, g_t, g_sub, gs_cons, gs_nil, s_asg, s_par, s_aug, s_ex, s_ret, s_ife, s_for, ss_nil, ss_cons, th_nx, th_rt, b_add, b_sub, c_eqi, c_nei, c_eqs, c_nes, c_lt, c_le, c_gt, c_ge, c_isn, c_isnn, i_tup, bi_len_t, bi_min2, bi_max2, R_bind, R_pure, R_lift, R_rd, R_alloc, R_tst, some_ex, L0, LS, OB, id_eq, M0, setAll, S0, SS, AP, Rp0, RpS, A0, A1, A2, A3, AN2, AN3, Nat.reduceBEq, beq_self_eq_true, if_true, if_false, Bool.false_eq_true, reduceCtorEq, decide_eq_true_eq, Bool.not_true, Bool.not_false, true_and, and_true, exists_const, decide_true, decide_false, List.nil_append]
  refine R_for (xs := enumL (ps.map Fi.d)) (fun i σ s => ∃ x y z, σ = [some (.tup (ps.map Fi.d)), some (.tup (qs.map Pt.d)), some (.ref st.length), x, y, z] ∧ Ext st s ∧ s[st.length]? = some (.lst (((decs ps qs).take i ++ qs.drop i).map Pt.d)) ∧
    ∀ (j : Nat) (f : Fi) (p : Pt), j < i → ps[j]? = some f → qs[j]? = some p → (f.dec p).1 = true) (by rw [enumL_len, List.length_map]; omega) ⟨none, none, none, rfl, Ext.new st _, ?_, fun j f p hj => absurd hj (Nat.not_lt_zero _)⟩ ?_ ?_ ?_
  · rw [List.getElem?_append_right (Nat.le_refl _), Nat.sub_self]
    rfl
  · intro i σ s hi _
    rw [enumL_len] at hi
    exact get_enum (get_tup hi)
  · rintro i d σ s hd ⟨x, y, z, rfl, ex, hs, hb⟩
    rw [enumL_get, List.getElem?_map] at hd
    cases hf : ps[i]? with
    | none => rw [hf] at hd; cases hd
    | some f =>
      rw [hf] at hd
      cases hd
      have hi : i < qs.length := by have := (List.getElem?_eq_some_iff.mp hf).1; omega
      have hp : qs[i]? = some qs[i] := List.getElem?_eq_getElem hi
      generalize qs[i] = p at hp
      obtain ⟨fit, f3⟩ := ok.fit i f p hf hp
      have gf := hg f (List.mem_of_getElem? hf)
      have ha : atI (qs.map Pt.d) (i : Int) = some p.d := atI_nat (by rw [List.getElem?_map, hp]; rfl)
      try simp only [g_t, gs_cons, gs_nil, LN, LC1, TN, TC1, ha, e_var, e_int, e_bl, e_non, e_str, e_ty, e_fnv, e_tup, e_lst, e_bin, e_not, e_neg, neg_i, e_cmp, e_chain, e_and, e_or, e_ife, e_idx, e_slc, e_call, e_bi, e_meth, es_nil, es_cons, g_n, g_t, g_sub, gs_cons, gs_nil, s_asg, s_par, s_aug, s_ex, s_ret, s_ife, s_for, ss_nil, ss_cons, th_nx, th_rt, b_add, b_sub, c_eqi, c_nei, c_eqs, c_nes, c_lt, c_le, c_gt, c_ge, c_isn, c_isnn, i_tup, bi_len_t, bi_min2, bi_max2, R_bind, R_pure, R_lift, R_rd, R_alloc, R_tst, some_ex, L0, LS, OB, id_eq, M0, setAll, S0, SS, AP, Rp0, RpS, A0, A1, A2, A3, AN2, AN3, Nat.reduceBEq, beq_self_eq_true, if_true, if_false, Bool.false_eq_true, reduceCtorEq, decide_eq_true_eq, Bool.not_true, Bool.not_false, true_and, and_true, exists_const, decide_true, decide_false, List.nil_append]
      refine run_decide fit gf (fun as e => Nat.lt_of_le_of_lt (f3 as e) (by decide)) ?_
      try simp only [g_t, gs_cons, gs_nil, LN, LC1, TN, TC1, e_var, e_int, e_bl, e_non, e_str, e_ty, e_fnv, e_tup, e_lst, e_bin, e_not, e_neg, neg_i, e_cmp, e_chain, e_and, e_or, e_ife, e_idx, e_slc, e_call, e_bi, e_meth, es_nil, es_cons, g_n, g_t, g_sub, gs_cons, gs_nil, s_asg, s_par, s_aug, s_ex, s_ret, s_ife, s_for, ss_nil, ss_cons, th_nx, th_rt, b_add, b_sub, c_eqi, c_nei, c_eqs, c_nes, c_lt, c_le, c_gt, c_ge, c_isn, c_isnn, i_tup, bi_len_t, bi_min2, bi_max2, R_bind, R_pure, R_lift, R_rd, R_alloc, R_tst, some_ex, L0, LS, OB, id_eq, M0, setAll, S0, SS, AP, Rp0, RpS, A0, A1, A2, A3, AN2, AN3, Nat.reduceBEq, beq_self_eq_true, if_true, if_false, Bool.false_eq_true, reduceCtorEq, decide_eq_true_eq, Bool.not_true, Bool.not_false, true_and, and_true, exists_const, decide_true, decide_false, List.nil_append]
      refine R_setItem hs (by rw [List.length_map, List.length_append, List.length_take, List.length_drop]; omega) ?_
      have hs2 : (s.set st.length (.lst ((((decs ps qs).take i ++ qs.drop i).map Pt.d).set i (f.dec p).2.d)))[st.length]? = some (.lst (((decs ps qs).take i ++ (f.dec p).2 :: qs.drop (i + 1)).map Pt.d)) := by
        rw [List.getElem?_set_self (List.getElem?_eq_some_iff.mp hs).1, ← set_mid (x := (f.dec p).2) dl hp, List.map_set]
      generalize hS : s.set st.length (.lst ((((decs ps qs).take i ++ qs.drop i).map Pt.d).set i (f.dec p).2.d)) = s2 at hs2
      have ex2 : Ext st s2 := by rw [← hS]; exact ex.set (Nat.le_refl _) _
      cases hb2 : (f.dec p).1 with
      | true =>
        try simp only [e_var, e_int, e_bl, e_non, e_str, e_ty, e_fnv, e_tup, e_lst, e_bin, e_not, e_neg, neg_i, e_cmp, e_chain, e_and, e_or, e_ife, e_idx, e_slc, e_call, e_bi, e_meth, es_nil, es_cons, g_n, g_t, g_sub, gs_cons, gs_nil, s_asg, s_par, s_aug, s_ex, s_ret, s_ife, s_for, ss_nil, ss_cons, th_nx, th_rt, b_add, b_sub, c_eqi, c_nei, c_eqs, c_nes, c_lt, c_le, c_gt, c_ge, c_isn, c_isnn, i_tup, bi_len_t, bi_min2, bi_max2, R_bind, R_pure, R_lift, R_rd, R_alloc, R_tst, some_ex, L0, LS, OB, id_eq, M0, setAll, S0, SS, AP, Rp0, RpS, A0, A1, A2, A3, AN2, AN3, Nat.reduceBEq, beq_self_eq_true, if_true, if_false, Bool.false_eq_true, reduceCtorEq, decide_eq_true_eq, Bool.not_true, Bool.not_false, true_and, and_true, exists_const, decide_true, decide_false, List.nil_append]
        refine ⟨_, _, _, rfl, ex2, ?_, fun j f' p' hj e1 e2 => ?_⟩
        · rw [hs2]
          have hz : (decs ps qs)[i]? = some (f.dec p).2 := by unfold decs; rw [List.getElem?_zipWith, hf, hp]
          rw [List.take_add_one, hz, List.append_assoc]
          rfl
        · by_cases hji : j = i
          · subst hji
            rw [hf] at e1
            rw [hp] at e2
            cases e1
            cases e2
            exact hb2
          · exact hb j f' p' (by omega) e1 e2
      | false =>
        try simp only [e_var, e_int, e_bl, e_non, e_str, e_ty, e_fnv, e_tup, e_lst, e_bin, e_not, e_neg, neg_i, e_cmp, e_chain, e_and, e_or, e_ife, e_idx, e_slc, e_call, e_bi, e_meth, es_nil, es_cons, g_n, g_t, g_sub, gs_cons, gs_nil, s_asg, s_par, s_aug, s_ex, s_ret, s_ife, s_for, ss_nil, ss_cons, th_nx, th_rt, b_add, b_sub, c_eqi, c_nei, c_eqs, c_nes, c_lt, c_le, c_gt, c_ge, c_isn, c_isnn, i_tup, bi_len_t, bi_min2, bi_max2, R_bind, R_pure, R_lift, R_rd, R_alloc, R_tst, some_ex, L0, LS, OB, id_eq, M0, setAll, S0, SS, AP, Rp0, RpS, A0, A1, A2, A3, AN2, AN3, Nat.reduceBEq, beq_self_eq_true, if_true, if_false, Bool.false_eq_true, reduceCtorEq, decide_eq_true_eq, Bool.not_true, Bool.not_false, true_and, and_true, exists_const, decide_true, decide_false, List.nil_append]
        refine R_tuple (getL_of hs2) ?_
        try simp only [un_enum, e_var, e_int, e_bl, e_non, e_str, e_ty, e_fnv, e_tup, e_lst, e_bin, e_not, e_neg, neg_i, e_cmp, e_chain, e_and, e_or, e_ife, e_idx, e_slc, e_call, e_bi, e_meth, es_nil, es_cons, g_n, g_t, g_sub, gs_cons, gs_nil, s_asg, s_par, s_aug, s_ex, s_ret, s_ife, s_for, ss_nil, ss_cons, th_nx, th_rt, b_add, b_sub, c_eqi, c_nei, c_eqs, c_nes, c_lt, c_le, c_gt, c_ge, c_isn, c_isnn, i_tup, bi_len_t, bi_min2, bi_max2, R_bind, R_pure, R_lift, R_rd, R_alloc, R_tst, some_ex, L0, LS, OB, id_eq, M0, setAll, S0, SS, AP, Rp0, RpS, A0, A1, A2, A3, AN2, AN3, Nat.reduceBEq, beq_self_eq_true, if_true, if_false, Bool.false_eq_true, reduceCtorEq, decide_eq_true_eq, Bool.not_true, Bool.not_false, true_and, and_true, exists_const, decide_true, decide_false, List.nil_append]
        have e := rd_at hb hf hp hb2
        have q := h s2 ex2
        rw [e] at q
        exact q
  · rintro σ s ⟨x, y, z, rfl, ex, hs, hb⟩
    try simp only [un_enum, e_var, e_int, e_bl, e_non, e_str, e_ty, e_fnv, e_tup, e_lst, e_bin, e_not, e_neg, neg_i, e_cmp, e_chain, e_and, e_or, e_ife, e_idx, e_slc, e_call, e_bi, e_meth, es_nil, es_cons, g_n, g_t, g_sub, gs_cons, gs_nil, s_asg, s_par, s_aug, s_ex, s_ret, s_ife, s_for, ss_nil, ss_cons, th_nx, th_rt, b_add, b_sub, c_eqi, c_nei, c_eqs, c_nes, c_lt, c_le, c_gt, c_ge, c_isn, c_isnn, i_tup, bi_len_t, bi_min2, bi_max2, R_bind, R_pure, R_lift, R_rd, R_alloc, R_tst, some_ex, L0, LS, OB, id_eq, M0, setAll, S0, SS, AP, Rp0, RpS, A0, A1, A2, A3, AN2, AN3, Nat.reduceBEq, beq_self_eq_true, if_true, if_false, Bool.false_eq_true, reduceCtorEq, decide_eq_true_eq, Bool.not_true, Bool.not_false, true_and, and_true, exists_const, decide_true, decide_false, List.nil_append]
    rw [enumL_len, List.length_map] at hs
    refine R_tuple (getL_of hs) ?_
    have e := rd_all len fun j f p e1 e2 => hb j f p (by rw [enumL_len, List.length_map]; exact (List.getElem?_eq_some_iff.mp e1).1) e1 e2
    have q := h s ex
    rw [e] at q
    rw [List.drop_of_length_le (by omega), List.append_nil, List.take_of_length_le (by omega)]
    exact q
end
end TL

/-! The machine: run, keep. -/
namespace TL
abbrev MS := List Pt × Option Int × List (Option Nat)
def ageAll (g : Int) (ps : List Fi) (qs : List Pt) : List Pt := List.zipWith (fun f p => f.age g p) ps qs
def aged (ps : List Fi) (a : MS) (t : Int) : List Pt := match a.2.1 with
  | none => a.1
  | some u => ageAll (t - u) ps a.1
def mstep (ps : List Fi) (a : MS) (t : Int) : MS := ((rd ps (aged ps a t)).1, some t, a.2.2 ++ [(rd ps (aged ps a t)).2])
def mrun (ps : List Fi) (log : List Int) : MS := log.foldl (mstep ps) (ps.map Fi.init, none, [])
def keepL (ps : List Fi) (log : List Int) : List Int := (List.zip log (mrun ps log).2.2).filterMap fun p => if p.2 = none then some p.1 else none
def prevD : Option Int → D
  | none => .non
  | some u => .int u
/-! ### the states stay good -/
theorem ok_init {ps : List Fi} : StOk ps (ps.map Fi.init) where
  len := (List.length_map ..).symm
  fit := fun i f p hf hp => by
    rw [List.getElem?_map, hf] at hp
    cases hp
    cases f with
    | li c w => exact ⟨trivial, fun as e => by cases e; exact Nat.zero_le _⟩
    | sp n => exact ⟨trivial, fun as e => by cases e⟩
    | fr n => exact ⟨trivial, fun as e => by cases e⟩
    | ev n r => exact ⟨trivial, fun as e => by cases e⟩
theorem fits_age {f : Fi} {p : Pt} {g : Int} (h : f.fits p ∧ ∀ as, p = .l as → as.length ≤ 3) : f.fits (f.age g p) ∧ ∀ as, f.age g p = .l as → as.length ≤ 3 := by
  obtain ⟨h1, h2⟩ := h
  cases f with
  | li c w =>
    cases p with
    | i a => cases h1
    | l as =>
      refine ⟨trivial, fun bs e => ?_⟩
      cases e
      refine Nat.le_trans (List.length_filter_le _ _) ?_
      rw [List.length_map]
      exact h2 as rfl
  | sp n => cases p with
    | i a => exact ⟨trivial, fun as e => by cases e⟩
    | l as => cases h1
  | fr n => cases p with
    | i a => exact ⟨trivial, fun as e => by cases e⟩
    | l as => cases h1
  | ev n r => cases p with
    | i a => exact ⟨trivial, fun as e => by cases e⟩
    | l as => cases h1
theorem fits_dec {f : Fi} {p : Pt} (hg : f.good) (h : f.fits p ∧ ∀ as, p = .l as → as.length ≤ 3) : f.fits (f.dec p).2 ∧ ∀ as, (f.dec p).2 = .l as → as.length ≤ 3 := by
  obtain ⟨h1, h2⟩ := h
  cases f with
  | li c w =>
    cases p with
    | i a => cases h1
    | l as =>
      have hc : c ≤ 3 := hg.2.1
      show Fi.fits _ (if (as.length : Int) < c then (true, Pt.l (as ++ [0])) else (false, Pt.l as)).2 ∧ ∀ bs, (if (as.length : Int) < c then (true, Pt.l (as ++ [0])) else (false, Pt.l as)).2 = .l bs → bs.length ≤ 3
      split
      · rename_i hl
        refine ⟨trivial, fun bs e => ?_⟩
        cases e
        rw [List.length_append, List.length_singleton]
        omega
      · exact ⟨trivial, fun bs e => by cases e; exact h2 as rfl⟩
  | sp n => cases p with
    | i a =>
      show Fi.fits _ (if n ≤ a then (true, Pt.i 0) else (false, Pt.i a)).2 ∧ ∀ bs, (if n ≤ a then (true, Pt.i 0) else (false, Pt.i a)).2 = .l bs → bs.length ≤ 3
      split <;> exact ⟨trivial, fun as e => by cases e⟩
    | l as => cases h1
  | fr n => cases p with
    | i a => exact ⟨trivial, fun as e => by cases e⟩
    | l as => cases h1
  | ev n r => cases p with
    | i a => exact ⟨trivial, fun as e => by cases e⟩
    | l as => cases h1
theorem ok_age {ps : List Fi} {qs : List Pt} {g : Int} (ok : StOk ps qs) : StOk ps (ageAll g ps qs) where
  len := by unfold ageAll; rw [List.length_zipWith, ← ok.len, Nat.min_self]
  fit := fun i f p hf hp => by
    unfold ageAll at hp
    rw [List.getElem?_zipWith, hf] at hp
    cases hq : qs[i]? with
    | none => rw [hq] at hp; cases hp
    | some q =>
      rw [hq] at hp
      cases hp
      exact fits_age (ok.fit i f q hf hq)
theorem rd_len : ∀ {ps : List Fi} {qs : List Pt}, (rd ps qs).1.length = qs.length
  | [], _ => rfl
  | _ :: _, [] => rfl
  | f :: ps, p :: qs => by
    show (if (f.dec p).1 = true then _ else _ : List Pt × Option Nat).1.length = _
    split
    · show (rd ps qs).1.length + 1 = qs.length + 1
      rw [rd_len]
    · rfl
theorem rd_get : ∀ {ps : List Fi} {qs : List Pt} {i : Nat} {f : Fi} {q : Pt}, ps[i]? = some f → (rd ps qs).1[i]? = some q → ∃ p, qs[i]? = some p ∧ (q = p ∨ q = (f.dec p).2)
  | [], _, _, _, _, h, _ => by simp at h
  | _ :: _, [], _, _, _, _, h => by
    have h' : ([] : List Pt)[_]? = some _ := h
    simp at h'
  | f0 :: ps, p0 :: qs, 0, f, q, h1, h2 => by
    simp only [List.getElem?_cons_zero, Option.some.injEq] at h1
    subst h1
    have h2' : (if (f0.dec p0).1 = true then ((f0.dec p0).2 :: (rd ps qs).1, (rd ps qs).2.map (· + 1)) else ((f0.dec p0).2 :: qs, some 0) : List Pt × Option Nat).1[0]? = some q := h2
    refine ⟨p0, rfl, .inr ?_⟩
    split at h2' <;> (cases h2'; rfl)
  | f0 :: ps, p0 :: qs, i + 1, f, q, h1, h2 => by
    have h2' : (if (f0.dec p0).1 = true then ((f0.dec p0).2 :: (rd ps qs).1, (rd ps qs).2.map (· + 1)) else ((f0.dec p0).2 :: qs, some 0) : List Pt × Option Nat).1[i + 1]? = some q := h2
    split at h2'
    · obtain ⟨p, e, r⟩ := rd_get (ps := ps) (qs := qs) (i := i) (by simpa using h1) (by simpa using h2')
      exact ⟨p, by simpa using e, r⟩
    · exact ⟨q, by simpa using h2', .inl rfl⟩
theorem ok_rd {ps : List Fi} {qs : List Pt} (hg : ∀ f ∈ ps, f.good) (ok : StOk ps qs) : StOk ps (rd ps qs).1 where
  len := by rw [rd_len, ok.len]
  fit := fun i f q hf hq => by
    obtain ⟨p, hp, h⟩ := rd_get hf hq
    have z := ok.fit i f p hf hp
    rcases h with rfl | rfl
    · exact z
    · exact fits_dec (hg f (List.mem_of_getElem? hf)) z
theorem ok_aged {ps : List Fi} {a : MS} {t : Int} (ok : StOk ps a.1) : StOk ps (aged ps a t) := by
  unfold aged
  split
  · exact ok
  · exact ok_age ok
theorem ok_run {ps : List Fi} (hg : ∀ f ∈ ps, f.good) : ∀ (log : List Int) (a : MS), StOk ps a.1 → StOk ps (log.foldl (mstep ps) a).1
  | [], _, h => h
  | t :: log, a, h => ok_run hg log (mstep ps a t) (ok_rd hg (ok_aged h))
theorem run_len {ps : List Fi} : ∀ (log : List Int) (a : MS), (log.foldl (mstep ps) a).2.2.length = a.2.2.length + log.length
  | [], _ => rfl
  | t :: log, a => by
    rw [List.foldl_cons, run_len log, List.length_cons]
    show (a.2.2 ++ [_]).length + log.length = _
    rw [List.length_append, List.length_singleton]
    omega
theorem mrun_take {ps : List Fi} {log : List Int} {i : Nat} {t : Int} (h : log[i]? = some t) : mrun ps (log.take (i + 1)) = mstep ps (mrun ps (log.take i)) t := by
  unfold mrun
  rw [List.take_add_one, h, List.foldl_append]
  rfl
section
variable {w k : Nat} {st : Sto}
theorem run_run {ps : List Fi} {log : List Int} {Q : D → Sto → Prop} (hg : ∀ f ∈ ps, f.good) (hp : ps.length < w) (hpl : ps.length ≤ LIM) (hw : log.length < w) (hw3 : 3 < w) (hl : log.length ≤ LIM)
    (h : ∀ s, Ext st s → s[st.length]? = some (.lst ((mrun ps log).2.2.map optD)) → Q (.ref st.length) s) : R (callF G w (k + 4) 29 [.tup (ps.map Fi.d), .tup (log.map D.int)]) st Q := by
  refine R_call (d := d_run) rfl rfl ?_
  try simp only [d_run, List.map, it_ex, it_tup, e_var, e_int, e_bl, e_non, e_str, e_ty, e_fnv, e_tup, e_lst, e_bin, e_not, e_neg, neg_i, e_cmp, e_chain, e_and, e_or, e_ife, e_idx, e_slc, e_call, e_bi, e_meth, es_nil, es_cons, g_n, g_t, g_sub, gs_cons, gs_nil, s_asg, s_par, s_aug, s_ex, s_ret, s_ife, s_for, ss_nil, ss_cons, th_nx, th_rt, b_add, b_sub, c_eqi, c_nei, c_eqs, c_nes, c_lt, c_le, c_gt, c_ge, c_isn, c_isnn, i_tup, bi_len_t, bi_min2, bi_max2, R_bind, R_pure, R_lift, R_rd, R_alloc, R_tst, some_ex, L0, LS, OB, id_eq, M0, setAll, S0, SS, AP, Rp0, RpS, A0, A1, A2, A3, AN2, AN3, Nat.reduceBEq, beq_self_eq_true, if_true, if_false, Bool.false_eq_true, reduceCtorEq, decide_eq_true_eq, Bool.not_true, Bool.not_false, true_and, and_true, exists_const, decide_true, decide_false, List.nil_append]
  refine run_initial hp hpl fun s0 ex0 => ?_
  have ex0' : Ext st s0 := (Ext.new st _).trans ex0
  have hs0 : s0[st.length]? = some (.lst []) := ext_get ex0 (by rw [List.getElem?_append_right (Nat.le_refl _), Nat.sub_self]; rfl)
  refine R_for (xs := log.map D.int) (fun i σ s => ∃ y z, σ = [some (.tup (ps.map Fi.d)), some (.tup (log.map D.int)), some (.ref st.length), some (.tup ((mrun ps (log.take i)).1.map Pt.d)), some (prevD (mrun ps (log.take i)).2.1), y, z] ∧ Ext st s ∧
    s[st.length]? = some (.lst ((mrun ps (log.take i)).2.2.map optD))) (by rw [List.length_map]; exact hw) ⟨none, none, by rw [show (mrun ps (log.take 0)).1 = ps.map Fi.init from rfl, List.map_map]; rfl, ex0', hs0⟩ (fun i σ s hi _ => get_tup hi) ?_ ?_
  · rintro i x σ s hx ⟨y, z, rfl, ex, hs⟩
    rw [List.getElem?_map, Option.map_eq_some_iff] at hx
    obtain ⟨t, ht, rfl⟩ := hx
    have okA : StOk ps (mrun ps (log.take i)).1 := ok_run hg _ _ ok_init
    have step := mrun_take (ps := ps) ht
    have hrl : ((mrun ps (log.take i)).2.2.map optD).length < LIM := by
      have q := run_len (ps := ps) (log.take i) (ps.map Fi.init, none, [])
      have q2 := (List.getElem?_eq_some_iff.mp ht).1
      rw [List.length_map]
      show (List.foldl (mstep ps) (ps.map Fi.init, none, []) (log.take i)).2.2.length < LIM
      rw [q, List.length_take]
      show 0 + _ < LIM
      omega
    -- the rest, from the aged state
    have rest : ∀ s1, Ext s s1 → R (callF G w (k + 3) 28 [.tup (ps.map Fi.d), .tup ((aged ps (mrun ps (log.take i)) t).map Pt.d)]) s1 fun v s2 => v = .tup [.tup ((mrun ps (log.take (i + 1))).1.map Pt.d), optD (rd ps (aged ps (mrun ps (log.take i)) t)).2] ∧ Ext s1 s2 := fun s1 _ => by
      have okB : StOk ps (aged ps (mrun ps (log.take i)) t) := ok_aged okA
      refine run_read okB hg (by rw [← okB.len]; exact hp) (by rw [← okB.len]; exact hpl) fun s2 ex2 => ⟨?_, ex2⟩
      rw [step]
      rfl
    have fin : ∀ s2 y, Ext s s2 → R (method .append (.ref st.length) [optD (rd ps (aged ps (mrun ps (log.take i)) t)).2]) s2 fun _ s3 => ∃ y' z', [some (.tup (ps.map Fi.d)), some (.tup (log.map D.int)), some (.ref st.length), some (.tup ((mrun ps (log.take (i + 1))).1.map Pt.d)), some (.int t), some (.int t), y] =
        [some (D.tup (ps.map Fi.d)), some (.tup (log.map D.int)), some (.ref st.length), some (.tup ((mrun ps (log.take (i + 1))).1.map Pt.d)), some (prevD (mrun ps (log.take (i + 1))).2.1), y', z'] ∧ Ext st s3 ∧ s3[st.length]? = some (.lst ((mrun ps (log.take (i + 1))).2.2.map optD)) := fun s2 y ex2 => by
      have hs2 := ext_get ex2 hs
      refine R_mappend hs2 hrl ⟨_, _, by rw [step]; rfl, (ex.trans ex2).set (Nat.le_refl _) _, ?_⟩
      rw [List.getElem?_set_self (List.getElem?_eq_some_iff.mp hs2).1, step]
      show _ = some (DO.lst (List.map optD (_ ++ [_])))
      rw [List.map_append]
      rfl
    cases hp2 : (mrun ps (log.take i)).2.1 with
    | none =>
      have ha : aged ps (mrun ps (log.take i)) t = (mrun ps (log.take i)).1 := by unfold aged; rw [hp2]
      rw [ha] at rest fin
      try simp only [prevD, e_var, e_int, e_bl, e_non, e_str, e_ty, e_fnv, e_tup, e_lst, e_bin, e_not, e_neg, neg_i, e_cmp, e_chain, e_and, e_or, e_ife, e_idx, e_slc, e_call, e_bi, e_meth, es_nil, es_cons, g_n, g_t, g_sub, gs_cons, gs_nil, s_asg, s_par, s_aug, s_ex, s_ret, s_ife, s_for, ss_nil, ss_cons, th_nx, th_rt, b_add, b_sub, c_eqi, c_nei, c_eqs, c_nes, c_lt, c_le, c_gt, c_ge, c_isn, c_isnn, i_tup, bi_len_t, bi_min2, bi_max2, R_bind, R_pure, R_lift, R_rd, R_alloc, R_tst, some_ex, L0, LS, OB, id_eq, M0, setAll, S0, SS, AP, Rp0, RpS, A0, A1, A2, A3, AN2, AN3, Nat.reduceBEq, beq_self_eq_true, if_true, if_false, Bool.false_eq_true, reduceCtorEq, decide_eq_true_eq, Bool.not_true, Bool.not_false, true_and, and_true, exists_const, decide_true, decide_false, List.nil_append]
      refine (rest s (Ext.refl s)).mono fun v s2 ⟨e, ex2⟩ => ?_
      subst e
      try simp only [g_t, gs_cons, gs_nil, LN, LC1, TN, TC1, mchk_append (getL_of (ext_get ex2 hs)), e_var, e_int, e_bl, e_non, e_str, e_ty, e_fnv, e_tup, e_lst, e_bin, e_not, e_neg, neg_i, e_cmp, e_chain, e_and, e_or, e_ife, e_idx, e_slc, e_call, e_bi, e_meth, es_nil, es_cons, g_n, g_t, g_sub, gs_cons, gs_nil, s_asg, s_par, s_aug, s_ex, s_ret, s_ife, s_for, ss_nil, ss_cons, th_nx, th_rt, b_add, b_sub, c_eqi, c_nei, c_eqs, c_nes, c_lt, c_le, c_gt, c_ge, c_isn, c_isnn, i_tup, bi_len_t, bi_min2, bi_max2, R_bind, R_pure, R_lift, R_rd, R_alloc, R_tst, some_ex, L0, LS, OB, id_eq, M0, setAll, S0, SS, AP, Rp0, RpS, A0, A1, A2, A3, AN2, AN3, Nat.reduceBEq, beq_self_eq_true, if_true, if_false, Bool.false_eq_true, reduceCtorEq, decide_eq_true_eq, Bool.not_true, Bool.not_false, true_and, and_true, exists_const, decide_true, decide_false, List.nil_append]
      exact (fin s2 _ ex2).mono fun _ _ q => q
    | some u =>
      have ha : aged ps (mrun ps (log.take i)) t = ageAll (t - u) ps (mrun ps (log.take i)).1 := by unfold aged; rw [hp2]
      rw [ha] at rest fin
      try simp only [prevD, e_var, e_int, e_bl, e_non, e_str, e_ty, e_fnv, e_tup, e_lst, e_bin, e_not, e_neg, neg_i, e_cmp, e_chain, e_and, e_or, e_ife, e_idx, e_slc, e_call, e_bi, e_meth, es_nil, es_cons, g_n, g_t, g_sub, gs_cons, gs_nil, s_asg, s_par, s_aug, s_ex, s_ret, s_ife, s_for, ss_nil, ss_cons, th_nx, th_rt, b_add, b_sub, c_eqi, c_nei, c_eqs, c_nes, c_lt, c_le, c_gt, c_ge, c_isn, c_isnn, i_tup, bi_len_t, bi_min2, bi_max2, R_bind, R_pure, R_lift, R_rd, R_alloc, R_tst, some_ex, L0, LS, OB, id_eq, M0, setAll, S0, SS, AP, Rp0, RpS, A0, A1, A2, A3, AN2, AN3, Nat.reduceBEq, beq_self_eq_true, if_true, if_false, Bool.false_eq_true, reduceCtorEq, decide_eq_true_eq, Bool.not_true, Bool.not_false, true_and, and_true, exists_const, decide_true, decide_false, List.nil_append]
      refine run_later okA (by rw [← okA.len]; exact hp) hw3 (by rw [← okA.len]; exact hpl) fun s1 ex1 => ?_
      refine (rest s1 ex1).mono fun v s2 ⟨e, ex2⟩ => ?_
      subst e
      try simp only [g_t, gs_cons, gs_nil, LN, LC1, TN, TC1, mchk_append (getL_of (ext_get (ex1.trans ex2) hs)), e_var, e_int, e_bl, e_non, e_str, e_ty, e_fnv, e_tup, e_lst, e_bin, e_not, e_neg, neg_i, e_cmp, e_chain, e_and, e_or, e_ife, e_idx, e_slc, e_call, e_bi, e_meth, es_nil, es_cons, g_n, g_t, g_sub, gs_cons, gs_nil, s_asg, s_par, s_aug, s_ex, s_ret, s_ife, s_for, ss_nil, ss_cons, th_nx, th_rt, b_add, b_sub, c_eqi, c_nei, c_eqs, c_nes, c_lt, c_le, c_gt, c_ge, c_isn, c_isnn, i_tup, bi_len_t, bi_min2, bi_max2, R_bind, R_pure, R_lift, R_rd, R_alloc, R_tst, some_ex, L0, LS, OB, id_eq, M0, setAll, S0, SS, AP, Rp0, RpS, A0, A1, A2, A3, AN2, AN3, Nat.reduceBEq, beq_self_eq_true, if_true, if_false, Bool.false_eq_true, reduceCtorEq, decide_eq_true_eq, Bool.not_true, Bool.not_false, true_and, and_true, exists_const, decide_true, decide_false, List.nil_append]
      exact (fin s2 _ (ex1.trans ex2)).mono fun _ _ q => q
  · rintro σ s ⟨y, z, rfl, ex, hs⟩
    try simp only [un_tup, e_var, e_int, e_bl, e_non, e_str, e_ty, e_fnv, e_tup, e_lst, e_bin, e_not, e_neg, neg_i, e_cmp, e_chain, e_and, e_or, e_ife, e_idx, e_slc, e_call, e_bi, e_meth, es_nil, es_cons, g_n, g_t, g_sub, gs_cons, gs_nil, s_asg, s_par, s_aug, s_ex, s_ret, s_ife, s_for, ss_nil, ss_cons, th_nx, th_rt, b_add, b_sub, c_eqi, c_nei, c_eqs, c_nes, c_lt, c_le, c_gt, c_ge, c_isn, c_isnn, i_tup, bi_len_t, bi_min2, bi_max2, R_bind, R_pure, R_lift, R_rd, R_alloc, R_tst, some_ex, L0, LS, OB, id_eq, M0, setAll, S0, SS, AP, Rp0, RpS, A0, A1, A2, A3, AN2, AN3, Nat.reduceBEq, beq_self_eq_true, if_true, if_false, Bool.false_eq_true, reduceCtorEq, decide_eq_true_eq, Bool.not_true, Bool.not_false, true_and, and_true, exists_const, decide_true, decide_false, List.nil_append]
    rw [List.length_map, List.take_length] at hs
    exact h s ex hs

/-- what is kept, as the comprehension asks -/
def keepD : D → Option D
  | .tup [t, o] => if o = .non then some t else none
  | _ => none
theorem keep_fm : ∀ (log : List Int) (os : List (Option Nat)), (zipL (log.map D.int) (os.map optD)).filterMap keepD = ((List.zip log os).filterMap fun p => if p.2 = none then some p.1 else none).map D.int
  | [], _ => rfl
  | _ :: _, [] => rfl
  | t :: log, o :: os => by
    have ih := keep_fm log os
    unfold zipL at ih ⊢
    rw [List.map_cons, List.map_cons, List.zipWith_cons_cons, List.filterMap_cons, List.zip_cons_cons, List.filterMap_cons, ih]
    cases o with
    | none => rfl
    | some n => rfl
theorem run_keep {ps : List Fi} {log : List Int} {Q : D → Sto → Prop} (hg : ∀ f ∈ ps, f.good) (hp : ps.length < w) (hpl : ps.length ≤ LIM) (hw : log.length < w) (hw3 : 3 < w) (hl : log.length ≤ LIM)
    (h : ∀ s, Ext st s → Q (.tup ((keepL ps log).map D.int)) s) : R (callF G w (k + 5) 31 [.tup (ps.map Fi.d), .tup (log.map D.int)]) st Q := by
  refine R_call (d := d_keep) rfl rfl ?_
  try simp only [d_keep, List.map, it_ex, it_tup, e_var, e_int, e_bl, e_non, e_str, e_ty, e_fnv, e_tup, e_lst, e_bin, e_not, e_neg, neg_i, e_cmp, e_chain, e_and, e_or, e_ife, e_idx, e_slc, e_call, e_bi, e_meth, es_nil, es_cons, g_n, g_t, g_sub, gs_cons, gs_nil, s_asg, s_par, s_aug, s_ex, s_ret, s_ife, s_for, ss_nil, ss_cons, th_nx, th_rt, b_add, b_sub, c_eqi, c_nei, c_eqs, c_nes, c_lt, c_le, c_gt, c_ge, c_isn, c_isnn, i_tup, bi_len_t, bi_min2, bi_max2, R_bind, R_pure, R_lift, R_rd, R_alloc, R_tst, some_ex, L0, LS, OB, id_eq, M0, setAll, S0, SS, AP, Rp0, RpS, A0, A1, A2, A3, AN2, AN3, Nat.reduceBEq, beq_self_eq_true, if_true, if_false, Bool.false_eq_true, reduceCtorEq, decide_eq_true_eq, Bool.not_true, Bool.not_false, true_and, and_true, exists_const, decide_true, decide_false, List.nil_append]
  have rl : (mrun ps log).2.2.length = log.length := by
    have q := run_len (ps := ps) log (ps.map Fi.init, none, [])
    exact q.trans (by show 0 + _ = _; omega)
  have zl : (zipL (log.map D.int) ((mrun ps log).2.2.map optD)).length = log.length := by
    unfold zipL
    rw [List.length_zipWith, List.length_map, List.length_map, rl, Nat.min_self]
  refine R_comp (zipL (log.map D.int) ((mrun ps log).2.2.map optD)) keepD ?_ (by rw [zl]; exact hl) (by rw [zl]; exact hw)
  try simp only [it_zip, sq_tup, e_var, e_int, e_bl, e_non, e_str, e_ty, e_fnv, e_tup, e_lst, e_bin, e_not, e_neg, neg_i, e_cmp, e_chain, e_and, e_or, e_ife, e_idx, e_slc, e_call, e_bi, e_meth, es_nil, es_cons, g_n, g_t, g_sub, gs_cons, gs_nil, s_asg, s_par, s_aug, s_ex, s_ret, s_ife, s_for, ss_nil, ss_cons, th_nx, th_rt, b_add, b_sub, c_eqi, c_nei, c_eqs, c_nes, c_lt, c_le, c_gt, c_ge, c_isn, c_isnn, i_tup, bi_len_t, bi_min2, bi_max2, R_bind, R_pure, R_lift, R_rd, R_alloc, R_tst, some_ex, L0, LS, OB, id_eq, M0, setAll, S0, SS, AP, Rp0, RpS, A0, A1, A2, A3, AN2, AN3, Nat.reduceBEq, beq_self_eq_true, if_true, if_false, Bool.false_eq_true, reduceCtorEq, decide_eq_true_eq, Bool.not_true, Bool.not_false, true_and, and_true, exists_const, decide_true, decide_false, List.nil_append]
  refine run_run hg hp hpl hw hw3 hl fun s ex hs => ?_
  try simp only [sq_tup, e_var, e_int, e_bl, e_non, e_str, e_ty, e_fnv, e_tup, e_lst, e_bin, e_not, e_neg, neg_i, e_cmp, e_chain, e_and, e_or, e_ife, e_idx, e_slc, e_call, e_bi, e_meth, es_nil, es_cons, g_n, g_t, g_sub, gs_cons, gs_nil, s_asg, s_par, s_aug, s_ex, s_ret, s_ife, s_for, ss_nil, ss_cons, th_nx, th_rt, b_add, b_sub, c_eqi, c_nei, c_eqs, c_nes, c_lt, c_le, c_gt, c_ge, c_isn, c_isnn, i_tup, bi_len_t, bi_min2, bi_max2, R_bind, R_pure, R_lift, R_rd, R_alloc, R_tst, some_ex, L0, LS, OB, id_eq, M0, setAll, S0, SS, AP, Rp0, RpS, A0, A1, A2, A3, AN2, AN3, Nat.reduceBEq, beq_self_eq_true, if_true, if_false, Bool.false_eq_true, reduceCtorEq, decide_eq_true_eq, Bool.not_true, Bool.not_false, true_and, and_true, exists_const, decide_true, decide_false, List.nil_append]
  refine R_sq_ref (getL_of hs) ?_
  refine ⟨rfl, fun s' ex' i hi => ?_, fun i d s' hd _ => ?_, fun s' ex' hs' => ?_⟩
  · rw [zl] at hi
    exact get_zip (by rw [List.length_map, List.length_map, rl]) (get_tup (by rw [List.length_map]; exact hi)) (get_lst (ext_getL ex' (getL_of hs)) (by rw [List.length_map, rl]; exact hi))
  · rw [zipL_get, List.getElem?_map, List.getElem?_map] at hd
    cases ht : log[i]? with
    | none => rw [ht] at hd; cases hd
    | some t =>
      cases ho : (mrun ps log).2.2[i]? with
      | none => rw [ht, ho] at hd; cases hd
      | some o =>
        rw [ht, ho] at hd
        cases hd
        unfold elt1
        cases o with
        | none =>
          try simp only [optD, w_cons, w_nil, t_one, g_t, gs_cons, gs_nil, LN, LC1, TN, TC1, e_var, e_int, e_bl, e_non, e_str, e_ty, e_fnv, e_tup, e_lst, e_bin, e_not, e_neg, neg_i, e_cmp, e_chain, e_and, e_or, e_ife, e_idx, e_slc, e_call, e_bi, e_meth, es_nil, es_cons, g_n, g_t, g_sub, gs_cons, gs_nil, s_asg, s_par, s_aug, s_ex, s_ret, s_ife, s_for, ss_nil, ss_cons, th_nx, th_rt, b_add, b_sub, c_eqi, c_nei, c_eqs, c_nes, c_lt, c_le, c_gt, c_ge, c_isn, c_isnn, i_tup, bi_len_t, bi_min2, bi_max2, R_bind, R_pure, R_lift, R_rd, R_alloc, R_tst, some_ex, L0, LS, OB, id_eq, M0, setAll, S0, SS, AP, Rp0, RpS, A0, A1, A2, A3, AN2, AN3, Nat.reduceBEq, beq_self_eq_true, if_true, if_false, Bool.false_eq_true, reduceCtorEq, decide_eq_true_eq, Bool.not_true, Bool.not_false, true_and, and_true, exists_const, decide_true, decide_false, List.nil_append]
          exact ⟨rfl, Ext.refl _⟩
        | some j =>
          try simp only [optD, w_cons, w_nil, t_one, g_t, gs_cons, gs_nil, LN, LC1, TN, TC1, e_var, e_int, e_bl, e_non, e_str, e_ty, e_fnv, e_tup, e_lst, e_bin, e_not, e_neg, neg_i, e_cmp, e_chain, e_and, e_or, e_ife, e_idx, e_slc, e_call, e_bi, e_meth, es_nil, es_cons, g_n, g_t, g_sub, gs_cons, gs_nil, s_asg, s_par, s_aug, s_ex, s_ret, s_ife, s_for, ss_nil, ss_cons, th_nx, th_rt, b_add, b_sub, c_eqi, c_nei, c_eqs, c_nes, c_lt, c_le, c_gt, c_ge, c_isn, c_isnn, i_tup, bi_len_t, bi_min2, bi_max2, R_bind, R_pure, R_lift, R_rd, R_alloc, R_tst, some_ex, L0, LS, OB, id_eq, M0, setAll, S0, SS, AP, Rp0, RpS, A0, A1, A2, A3, AN2, AN3, Nat.reduceBEq, beq_self_eq_true, if_true, if_false, Bool.false_eq_true, reduceCtorEq, decide_eq_true_eq, Bool.not_true, Bool.not_false, true_and, and_true, exists_const, decide_true, decide_false, List.nil_append]
          exact ⟨rfl, Ext.refl _⟩
  · refine R_tuple (getL_of hs') ?_
    rw [keep_fm]
    exact h s' (ex.trans ex')
end
end TL

/-! The laws' own helpers: cells, digits, filters, pipelines, logs. -/
namespace TL
theorem mul_ok {a b : Int} (h : -(2 ^ 64) < a ∧ a < 2 ^ 64) : mulOk a b = true := by
  unfold mulOk
  rw [decide_eq_true h.1, decide_eq_true h.2]
  rfl
theorem m_lit2 {b : Int} : bop .mul (.int 2) (.int b) = pure (.int (2 * b)) := b_mul (mul_ok (by decide))
theorem m_lit3 {b : Int} : bop .mul (.int 3) (.int b) = pure (.int (3 * b)) := b_mul (mul_ok (by decide))
theorem m_lit7919 {b : Int} : bop .mul (.int 7919) (.int b) = pure (.int (7919 * b)) := b_mul (mul_ok (by decide))
theorem m_lit104729 {b : Int} : bop .mul (.int 104729) (.int b) = pure (.int (104729 * b)) := b_mul (mul_ok (by decide))
theorem mod_8 {a : Int} : bop .mod (.int a) (.int 8) = pure (.int (a % 8)) := b_mod (by decide)
theorem mod_4 {a : Int} : bop .mod (.int a) (.int 4) = pure (.int (a % 4)) := b_mod (by decide)
theorem mod_3 {a : Int} : bop .mod (.int a) (.int 3) = pure (.int (a % 3)) := b_mod (by decide)
theorem mod_6 {a : Int} : bop .mod (.int a) (.int 6) = pure (.int (a % 6)) := b_mod (by decide)
theorem mod_50 {a : Int} : bop .mod (.int a) (.int 50) = pure (.int (a % 50)) := b_mod (by decide)
theorem mod_p {a : Int} : bop .mod (.int a) (.int 1000003) = pure (.int (a % 1000003)) := b_mod (by decide)
theorem pow18 : bop .pow (.int 10) (.int 18) = pure (.int 1000000000000000000) := rfl
section
variable {w k : Nat} {st : Sto}
theorem R_len_ref {n : Nat} {xs : List D} {Q : D → Sto → Prop} (h : getL st n = some xs) (q : Q (.int xs.length) st) : R (bifn .len [.ref n]) st Q := by
  refine ⟨_, st, ?_, q⟩
  show M.rd (fun st => match getL st n with
    | some ys => some (D.int ys.length)
    | none => (TL.getDX st n).map fun kvs => .int kvs.length) st = _
  unfold M.rd
  dsimp only
  rw [h]
theorem R_idx_ref {n : Nat} {xs : List D} {i : Int} {d : D} {Q : D → Sto → Prop} (h : getL st n = some xs) (hi : atI xs i = some d) (q : Q d st) : R (getItem (.ref n) (.int i)) st Q := by
  refine ⟨d, st, ?_, q⟩
  show M.rd (fun st => match getL st n, D.int i with
    | some xs, .int k => atI xs k
    | _, _ => match TL.getD st n with
      | some kvs => if keyFor kvs (.int i) then lookD kvs (.int i) else none
      | none => none) st = _
  unfold M.rd
  dsimp only
  rw [h]
  dsimp only
  rw [hi]
theorem R_slice_ref {n : Nat} {xs : List D} {lo hi : Option Int} {Q : D → Sto → Prop} (h : getL st n = some xs) (q : Q (.ref st.length) (st ++ [.lst (cut xs lo hi)])) : R (slice (.ref n) lo hi) st Q := by
  refine ⟨_, _, ?_, q⟩
  show (match getL st n with
    | some xs => alloc (.lst (cut xs lo hi)) st
    | none => none) = _
  rw [h]
  rfl
theorem getL_new {s : Sto} {xs : List D} : getL (s ++ [.lst xs]) s.length = some xs := by
  unfold getL
  rw [List.getElem?_append_right (Nat.le_refl _), Nat.sub_self]
  rfl
theorem atI_int {ns : List Int} {i : Int} (h0 : 0 ≤ i) (h1 : i < ns.length) : ∃ v, atI (ns.map D.int) i = some (.int v) ∧ v ∈ ns := by
  have hi : i.toNat < ns.length := by omega
  refine ⟨ns[i.toNat], ?_, List.getElem_mem hi⟩
  unfold atI
  rw [if_pos h0, List.getElem?_map, List.getElem?_eq_getElem hi]
  rfl
/-! ### a cell of the script -/
theorem run_cell {ns : List Int} {r i : Nat} {Q : D → Sto → Prop} (hs : getL st r = some (ns.map D.int)) (h : ∀ v : Int, Q (.int v) st) : R (callF G w (k + 1) 5 [.ref r, .int (i : Nat)]) st Q := by
  refine R_call (d := d_law_cell) rfl rfl ?_
  try simp only [d_law_cell, List.map, e_var, e_int, e_bl, e_non, e_str, e_ty, e_fnv, e_tup, e_lst, e_bin, e_not, e_neg, neg_i, e_cmp, e_chain, e_and, e_or, e_ife, e_idx, e_slc, e_call, e_bi, e_meth, es_nil, es_cons, g_n, g_t, g_sub, gs_cons, gs_nil, s_asg, s_par, s_aug, s_ex, s_ret, s_ife, s_for, ss_nil, ss_cons, th_nx, th_rt, b_add, b_sub, c_eqi, c_nei, c_eqs, c_nes, c_lt, c_le, c_gt, c_ge, c_isn, c_isnn, i_tup, bi_len_t, bi_min2, bi_max2, R_bind, R_pure, R_lift, R_rd, R_alloc, R_tst, some_ex, L0, LS, OB, id_eq, M0, setAll, S0, SS, AP, Rp0, RpS, A0, A1, A2, A3, AN2, AN3, Nat.reduceBEq, beq_self_eq_true, if_true, if_false, Bool.false_eq_true, reduceCtorEq, decide_eq_true_eq, Bool.not_true, Bool.not_false, true_and, and_true, exists_const, decide_true, decide_false, List.nil_append]
  refine R_len_ref hs ?_
  try simp only [List.length_map, e_var, e_int, e_bl, e_non, e_str, e_ty, e_fnv, e_tup, e_lst, e_bin, e_not, e_neg, neg_i, e_cmp, e_chain, e_and, e_or, e_ife, e_idx, e_slc, e_call, e_bi, e_meth, es_nil, es_cons, g_n, g_t, g_sub, gs_cons, gs_nil, s_asg, s_par, s_aug, s_ex, s_ret, s_ife, s_for, ss_nil, ss_cons, th_nx, th_rt, b_add, b_sub, c_eqi, c_nei, c_eqs, c_nes, c_lt, c_le, c_gt, c_ge, c_isn, c_isnn, i_tup, bi_len_t, bi_min2, bi_max2, R_bind, R_pure, R_lift, R_rd, R_alloc, R_tst, some_ex, L0, LS, OB, id_eq, M0, setAll, S0, SS, AP, Rp0, RpS, A0, A1, A2, A3, AN2, AN3, Nat.reduceBEq, beq_self_eq_true, if_true, if_false, Bool.false_eq_true, reduceCtorEq, decide_eq_true_eq, Bool.not_true, Bool.not_false, true_and, and_true, exists_const, decide_true, decide_false, List.nil_append]
  by_cases h1 : (i : Int) < (ns.length : Int)
  · simp only [h1, e_var, e_int, e_bl, e_non, e_str, e_ty, e_fnv, e_tup, e_lst, e_bin, e_not, e_neg, neg_i, e_cmp, e_chain, e_and, e_or, e_ife, e_idx, e_slc, e_call, e_bi, e_meth, es_nil, es_cons, g_n, g_t, g_sub, gs_cons, gs_nil, s_asg, s_par, s_aug, s_ex, s_ret, s_ife, s_for, ss_nil, ss_cons, th_nx, th_rt, b_add, b_sub, c_eqi, c_nei, c_eqs, c_nes, c_lt, c_le, c_gt, c_ge, c_isn, c_isnn, i_tup, bi_len_t, bi_min2, bi_max2, R_bind, R_pure, R_lift, R_rd, R_alloc, R_tst, some_ex, L0, LS, OB, id_eq, M0, setAll, S0, SS, AP, Rp0, RpS, A0, A1, A2, A3, AN2, AN3, Nat.reduceBEq, beq_self_eq_true, if_true, if_false, Bool.false_eq_true, reduceCtorEq, decide_eq_true_eq, Bool.not_true, Bool.not_false, true_and, and_true, exists_const, decide_true, decide_false, List.nil_append]
    obtain ⟨v, hv, _⟩ := atI_int (ns := ns) (i := (i : Int)) (by omega) h1
    refine R_idx_ref hs hv ?_
    exact h v
  · simp only [h1, e_var, e_int, e_bl, e_non, e_str, e_ty, e_fnv, e_tup, e_lst, e_bin, e_not, e_neg, neg_i, e_cmp, e_chain, e_and, e_or, e_ife, e_idx, e_slc, e_call, e_bi, e_meth, es_nil, es_cons, g_n, g_t, g_sub, gs_cons, gs_nil, s_asg, s_par, s_aug, s_ex, s_ret, s_ife, s_for, ss_nil, ss_cons, th_nx, th_rt, b_add, b_sub, c_eqi, c_nei, c_eqs, c_nes, c_lt, c_le, c_gt, c_ge, c_isn, c_isnn, i_tup, bi_len_t, bi_min2, bi_max2, R_bind, R_pure, R_lift, R_rd, R_alloc, R_tst, some_ex, L0, LS, OB, id_eq, M0, setAll, S0, SS, AP, Rp0, RpS, A0, A1, A2, A3, AN2, AN3, Nat.reduceBEq, beq_self_eq_true, if_true, if_false, Bool.false_eq_true, reduceCtorEq, decide_eq_true_eq, Bool.not_true, Bool.not_false, true_and, and_true, exists_const, decide_true, decide_false, List.nil_append]
    refine R_len_ref hs ?_
    try simp only [List.length_map, e_var, e_int, e_bl, e_non, e_str, e_ty, e_fnv, e_tup, e_lst, e_bin, e_not, e_neg, neg_i, e_cmp, e_chain, e_and, e_or, e_ife, e_idx, e_slc, e_call, e_bi, e_meth, es_nil, es_cons, g_n, g_t, g_sub, gs_cons, gs_nil, s_asg, s_par, s_aug, s_ex, s_ret, s_ife, s_for, ss_nil, ss_cons, th_nx, th_rt, b_add, b_sub, c_eqi, c_nei, c_eqs, c_nes, c_lt, c_le, c_gt, c_ge, c_isn, c_isnn, i_tup, bi_len_t, bi_min2, bi_max2, R_bind, R_pure, R_lift, R_rd, R_alloc, R_tst, some_ex, L0, LS, OB, id_eq, M0, setAll, S0, SS, AP, Rp0, RpS, A0, A1, A2, A3, AN2, AN3, Nat.reduceBEq, beq_self_eq_true, if_true, if_false, Bool.false_eq_true, reduceCtorEq, decide_eq_true_eq, Bool.not_true, Bool.not_false, true_and, and_true, exists_const, decide_true, decide_false, List.nil_append]
    by_cases h2 : ns.length = 0
    · have e : ((ns.length : Int) == 0) = true := by rw [h2]; rfl
      try simp only [e, m_lit7919, e_var, e_int, e_bl, e_non, e_str, e_ty, e_fnv, e_tup, e_lst, e_bin, e_not, e_neg, neg_i, e_cmp, e_chain, e_and, e_or, e_ife, e_idx, e_slc, e_call, e_bi, e_meth, es_nil, es_cons, g_n, g_t, g_sub, gs_cons, gs_nil, s_asg, s_par, s_aug, s_ex, s_ret, s_ife, s_for, ss_nil, ss_cons, th_nx, th_rt, b_add, b_sub, c_eqi, c_nei, c_eqs, c_nes, c_lt, c_le, c_gt, c_ge, c_isn, c_isnn, i_tup, bi_len_t, bi_min2, bi_max2, R_bind, R_pure, R_lift, R_rd, R_alloc, R_tst, some_ex, L0, LS, OB, id_eq, M0, setAll, S0, SS, AP, Rp0, RpS, A0, A1, A2, A3, AN2, AN3, Nat.reduceBEq, beq_self_eq_true, if_true, if_false, Bool.false_eq_true, reduceCtorEq, decide_eq_true_eq, Bool.not_true, Bool.not_false, true_and, and_true, exists_const, decide_true, decide_false, List.nil_append]
      exact h _
    · have e : ((ns.length : Int) == 0) = false := by rw [beq_eq_false_iff_ne]; omega
      have hl : 0 < (ns.length : Int) := by omega
      try simp only [e, e_var, e_int, e_bl, e_non, e_str, e_ty, e_fnv, e_tup, e_lst, e_bin, e_not, e_neg, neg_i, e_cmp, e_chain, e_and, e_or, e_ife, e_idx, e_slc, e_call, e_bi, e_meth, es_nil, es_cons, g_n, g_t, g_sub, gs_cons, gs_nil, s_asg, s_par, s_aug, s_ex, s_ret, s_ife, s_for, ss_nil, ss_cons, th_nx, th_rt, b_add, b_sub, c_eqi, c_nei, c_eqs, c_nes, c_lt, c_le, c_gt, c_ge, c_isn, c_isnn, i_tup, bi_len_t, bi_min2, bi_max2, R_bind, R_pure, R_lift, R_rd, R_alloc, R_tst, some_ex, L0, LS, OB, id_eq, M0, setAll, S0, SS, AP, Rp0, RpS, A0, A1, A2, A3, AN2, AN3, Nat.reduceBEq, beq_self_eq_true, if_true, if_false, Bool.false_eq_true, reduceCtorEq, decide_eq_true_eq, Bool.not_true, Bool.not_false, true_and, and_true, exists_const, decide_true, decide_false, List.nil_append]
      refine R_len_ref hs ?_
      try simp only [List.length_map, b_mod hl, e_var, e_int, e_bl, e_non, e_str, e_ty, e_fnv, e_tup, e_lst, e_bin, e_not, e_neg, neg_i, e_cmp, e_chain, e_and, e_or, e_ife, e_idx, e_slc, e_call, e_bi, e_meth, es_nil, es_cons, g_n, g_t, g_sub, gs_cons, gs_nil, s_asg, s_par, s_aug, s_ex, s_ret, s_ife, s_for, ss_nil, ss_cons, th_nx, th_rt, b_add, b_sub, c_eqi, c_nei, c_eqs, c_nes, c_lt, c_le, c_gt, c_ge, c_isn, c_isnn, i_tup, bi_len_t, bi_min2, bi_max2, R_bind, R_pure, R_lift, R_rd, R_alloc, R_tst, some_ex, L0, LS, OB, id_eq, M0, setAll, S0, SS, AP, Rp0, RpS, A0, A1, A2, A3, AN2, AN3, Nat.reduceBEq, beq_self_eq_true, if_true, if_false, Bool.false_eq_true, reduceCtorEq, decide_eq_true_eq, Bool.not_true, Bool.not_false, true_and, and_true, exists_const, decide_true, decide_false, List.nil_append]
      obtain ⟨v, hv, _⟩ := atI_int (ns := ns) (i := (i : Int) % ns.length) (Int.emod_nonneg _ (by omega)) (Int.emod_lt_of_pos _ hl)
      refine R_idx_ref hs hv ?_
      try simp only [mod_p, m_lit7919, e_var, e_int, e_bl, e_non, e_str, e_ty, e_fnv, e_tup, e_lst, e_bin, e_not, e_neg, neg_i, e_cmp, e_chain, e_and, e_or, e_ife, e_idx, e_slc, e_call, e_bi, e_meth, es_nil, es_cons, g_n, g_t, g_sub, gs_cons, gs_nil, s_asg, s_par, s_aug, s_ex, s_ret, s_ife, s_for, ss_nil, ss_cons, th_nx, th_rt, b_add, b_sub, c_eqi, c_nei, c_eqs, c_nes, c_lt, c_le, c_gt, c_ge, c_isn, c_isnn, i_tup, bi_len_t, bi_min2, bi_max2, R_bind, R_pure, R_lift, R_rd, R_alloc, R_tst, some_ex, L0, LS, OB, id_eq, M0, setAll, S0, SS, AP, Rp0, RpS, A0, A1, A2, A3, AN2, AN3, Nat.reduceBEq, beq_self_eq_true, if_true, if_false, Bool.false_eq_true, reduceCtorEq, decide_eq_true_eq, Bool.not_true, Bool.not_false, true_and, and_true, exists_const, decide_true, decide_false, List.nil_append]
      exact h _
/-! ### digits -/
theorem R_rng1 {n : Nat} {Q : DIt → Sto → Prop} (hn : n ≤ 1000000) (q : Q (.rng 0 1 n) st) : R (rangeOf [.int (n : Nat)]) st Q := by
  refine ⟨_, st, ?_, q⟩
  show (if rngOk (n : Int) = true then pure (.rng 0 1 (n : Int).toNat) else M.fail : M DIt) st = _
  have e : rngOk (n : Int) = true := by
    unfold rngOk
    rw [decide_eq_true (by omega), decide_eq_true (by omega)]
    rfl
  rw [if_pos e]
  rfl
def rngL (n : Nat) : List D := (List.range n).map fun (k : Nat) => D.int (k : Int)
theorem rngL_len {n : Nat} : (rngL n).length = n := by unfold rngL; rw [List.length_map, List.length_range]
theorem rngL_get {n i : Nat} {x : D} (h : (rngL n)[i]? = some x) : i < n ∧ x = .int (i : Nat) := by
  unfold rngL at h
  rw [List.getElem?_map, Option.map_eq_some_iff] at h
  obtain ⟨j, hj, rfl⟩ := h
  obtain ⟨h1, h2⟩ := List.getElem?_eq_some_iff.mp hj
  rw [List.length_range] at h1
  rw [List.getElem_range] at h2
  subst h2
  exact ⟨h1, rfl⟩
theorem get_rng0 {n i : Nat} (h : i ≤ n) : (DIt.rng 0 1 n).get i st = some (rngL n)[i]? := by
  rw [get_rng h]
  unfold rngL
  congr 3
  funext k
  rw [Int.zero_add, Int.one_mul]
theorem it_rng {es : List E} {cf : Nat → List D → M D} {σ : Env} : evIt w cf (.rng es) σ = M.bind (evs w cf es σ) rangeOf := rfl
abbrev primesD : List D := [.int 2147483647, .int 2147483629, .int 2147483587, .int 2147483579, .int 2147483563, .int 2147483549, .int 2147483543, .int 2147483497]
theorem prime_at (a : Int) : ∃ p, atI primesD (a % 8) = some (.int p) ∧ 0 < p ∧ p < 2147483648 := by
  have h0 := Int.emod_nonneg a (b := 8) (by decide)
  have h1 := Int.emod_lt_of_pos a (b := 8) (by decide)
  generalize a % 8 = j at h0 h1
  have hj : j = 0 ∨ j = 1 ∨ j = 2 ∨ j = 3 ∨ j = 4 ∨ j = 5 ∨ j = 6 ∨ j = 7 := by omega
  rcases hj with rfl | rfl | rfl | rfl | rfl | rfl | rfl | rfl
  · exact ⟨2147483647, rfl, by decide, by decide⟩
  · exact ⟨2147483629, rfl, by decide, by decide⟩
  · exact ⟨2147483587, rfl, by decide, by decide⟩
  · exact ⟨2147483579, rfl, by decide, by decide⟩
  · exact ⟨2147483563, rfl, by decide, by decide⟩
  · exact ⟨2147483549, rfl, by decide, by decide⟩
  · exact ⟨2147483543, rfl, by decide, by decide⟩
  · exact ⟨2147483497, rfl, by decide, by decide⟩
theorem sq_lt {a b : Int} (ha : 0 ≤ a) (ha2 : a < 2147483648) (hb : 0 ≤ b) (hb2 : b < 2147483648) : -(2 ^ 64) < a * b ∧ a * b < 2 ^ 64 := by
  have h1 : 0 ≤ a * b := Int.mul_nonneg ha hb
  have h2 : a * b ≤ 2147483648 * 2147483648 := Int.mul_le_mul (by omega) (by omega) hb (by decide)
  omega
theorem run_digits {ns : List Int} {r i n : Nat} {base : Int} {Q : D → Sto → Prop} (hs : getL st r = some (ns.map D.int)) (hb : 0 < base) (hb2 : base < 1073741824) (hn : n ≤ 1000000) (hw : n < w)
    (h : ∀ (s : Sto) (ds : List Int), Ext st s → getL s st.length = some (ds.map D.int) → ds.length = n → (∀ d ∈ ds, 0 ≤ d ∧ d < base) → Q (.ref st.length) s) : R (callF G w (k + 2) 6 [.ref r, .int (i : Nat), .int (n : Nat), .int base]) st Q := by
  refine R_call (d := d_law_digits) rfl rfl ?_
  try simp only [d_law_digits, List.map, e_var, e_int, e_bl, e_non, e_str, e_ty, e_fnv, e_tup, e_lst, e_bin, e_not, e_neg, neg_i, e_cmp, e_chain, e_and, e_or, e_ife, e_idx, e_slc, e_call, e_bi, e_meth, es_nil, es_cons, g_n, g_t, g_sub, gs_cons, gs_nil, s_asg, s_par, s_aug, s_ex, s_ret, s_ife, s_for, ss_nil, ss_cons, th_nx, th_rt, b_add, b_sub, c_eqi, c_nei, c_eqs, c_nes, c_lt, c_le, c_gt, c_ge, c_isn, c_isnn, i_tup, bi_len_t, bi_min2, bi_max2, R_bind, R_pure, R_lift, R_rd, R_alloc, R_tst, some_ex, L0, LS, OB, id_eq, M0, setAll, S0, SS, AP, Rp0, RpS, A0, A1, A2, A3, AN2, AN3, Nat.reduceBEq, beq_self_eq_true, if_true, if_false, Bool.false_eq_true, reduceCtorEq, decide_eq_true_eq, Bool.not_true, Bool.not_false, true_and, and_true, exists_const, decide_true, decide_false, List.nil_append]
  refine run_cell hs fun cell => ?_
  -- rest
  have rest : ∃ rst : Int, 0 ≤ rst ∧ (if decide (1000000000000000000 ≤ cell) = true then cell else 0) = rst := by
    refine ⟨_, ?_, rfl⟩
    split
    · rename_i hc
      have := of_decide_eq_true hc
      omega
    · exact Int.le_refl 0
  obtain ⟨rst, hr0, hr⟩ := rest
  have tail : R (evSs w (callF G w (k + 1)) (d_law_digits.body.drop 3) [some (.ref r), some (.int (i : Nat)), some (.int (n : Nat)), some (.int base), some (.tup primesD), some (.int cell), some (.int rst), none, none, none]) st fun fl s => match fl with
      | .nx _ => Q .non s
      | .rt v => Q v s := by
    try simp only [d_law_digits, List.drop, it_rng, e_var, e_int, e_bl, e_non, e_str, e_ty, e_fnv, e_tup, e_lst, e_bin, e_not, e_neg, neg_i, e_cmp, e_chain, e_and, e_or, e_ife, e_idx, e_slc, e_call, e_bi, e_meth, es_nil, es_cons, g_n, g_t, g_sub, gs_cons, gs_nil, s_asg, s_par, s_aug, s_ex, s_ret, s_ife, s_for, ss_nil, ss_cons, th_nx, th_rt, b_add, b_sub, c_eqi, c_nei, c_eqs, c_nes, c_lt, c_le, c_gt, c_ge, c_isn, c_isnn, i_tup, bi_len_t, bi_min2, bi_max2, R_bind, R_pure, R_lift, R_rd, R_alloc, R_tst, some_ex, L0, LS, OB, id_eq, M0, setAll, S0, SS, AP, Rp0, RpS, A0, A1, A2, A3, AN2, AN3, Nat.reduceBEq, beq_self_eq_true, if_true, if_false, Bool.false_eq_true, reduceCtorEq, decide_eq_true_eq, Bool.not_true, Bool.not_false, true_and, and_true, exists_const, decide_true, decide_false, List.nil_append]
    refine R_rng1 hn ?_
    refine R_for (xs := rngL n) (fun j σ s => ∃ (y z : Option D) (rs : Int) (ds : List Int), σ = [some (.ref r), some (.int (i : Nat)), some (.int (n : Nat)), some (.int base), some (.tup primesD), some (.int cell), some (.int rs), some (.ref st.length), y, z] ∧ 0 ≤ rs ∧ Ext st s ∧
      s[st.length]? = some (.lst (ds.map D.int)) ∧ ds.length = j ∧ ∀ d ∈ ds, 0 ≤ d ∧ d < base) (by rw [rngL_len]; exact hw) ⟨none, none, rst, [], rfl, hr0, Ext.new st _, ?_, rfl, fun d hd => by cases hd⟩ (fun j σ s hj _ => get_rng0 (by rw [rngL_len] at hj; exact hj)) ?_ ?_
    · rw [List.getElem?_append_right (Nat.le_refl _), Nat.sub_self]
      rfl
    · rintro j x σ s hx ⟨y, z, rs, ds, rfl, hrs, ex, hds, hlen, hall⟩
      obtain ⟨hj, rfl⟩ := rngL_get hx
      obtain ⟨p1, e1, a1, b1⟩ := prime_at (j : Int)
      obtain ⟨p2, e2, a2, b2⟩ := prime_at (3 * (j : Int) + (i : Int))
      obtain ⟨p3, e3, a3, b3⟩ := prime_at ((j : Int) + 5)
      have m0 := Int.emod_nonneg cell (b := p1) (by omega)
      have m1 := Int.emod_lt_of_pos cell a1
      have q1 : ∀ b : Int, bop .mul (.int (cell % p1)) (.int b) = pure (.int (cell % p1 * b)) := fun b => b_mul (mul_ok (by omega))
      have q2 : ∀ b : Int, bop .mul (.int (2 * (j : Int))) (.int b) = pure (.int (2 * (j : Int) * b)) := fun b => b_mul (mul_ok (by omega))
      have q3 : ∀ b : Int, bop .mul (.int (7919 * ((j : Int) + 1))) (.int b) = pure (.int (7919 * ((j : Int) + 1) * b)) := fun b => b_mul (mul_ok (by omega))
      try simp only [e1, q1, q2, q3, m_lit2, m_lit7919, m_lit104729, m_lit3, mod_8, b_mod a1, e_var, e_int, e_bl, e_non, e_str, e_ty, e_fnv, e_tup, e_lst, e_bin, e_not, e_neg, neg_i, e_cmp, e_chain, e_and, e_or, e_ife, e_idx, e_slc, e_call, e_bi, e_meth, es_nil, es_cons, g_n, g_t, g_sub, gs_cons, gs_nil, s_asg, s_par, s_aug, s_ex, s_ret, s_ife, s_for, ss_nil, ss_cons, th_nx, th_rt, b_add, b_sub, c_eqi, c_nei, c_eqs, c_nes, c_lt, c_le, c_gt, c_ge, c_isn, c_isnn, i_tup, bi_len_t, bi_min2, bi_max2, R_bind, R_pure, R_lift, R_rd, R_alloc, R_tst, some_ex, L0, LS, OB, id_eq, M0, setAll, S0, SS, AP, Rp0, RpS, A0, A1, A2, A3, AN2, AN3, Nat.reduceBEq, beq_self_eq_true, if_true, if_false, Bool.false_eq_true, reduceCtorEq, decide_eq_true_eq, Bool.not_true, Bool.not_false, true_and, and_true, exists_const, decide_true, decide_false, List.nil_append]
      generalize cell % p1 * (48271 + 2 * (j : Int) * (j : Int)) + 7919 * ((j : Int) + 1) * ((j : Int) + 1) + 104729 * (i : Int) = mix
      try simp only [e2, b_mod a2, e_var, e_int, e_bl, e_non, e_str, e_ty, e_fnv, e_tup, e_lst, e_bin, e_not, e_neg, neg_i, e_cmp, e_chain, e_and, e_or, e_ife, e_idx, e_slc, e_call, e_bi, e_meth, es_nil, es_cons, g_n, g_t, g_sub, gs_cons, gs_nil, s_asg, s_par, s_aug, s_ex, s_ret, s_ife, s_for, ss_nil, ss_cons, th_nx, th_rt, b_add, b_sub, c_eqi, c_nei, c_eqs, c_nes, c_lt, c_le, c_gt, c_ge, c_isn, c_isnn, i_tup, bi_len_t, bi_min2, bi_max2, R_bind, R_pure, R_lift, R_rd, R_alloc, R_tst, some_ex, L0, LS, OB, id_eq, M0, setAll, S0, SS, AP, Rp0, RpS, A0, A1, A2, A3, AN2, AN3, Nat.reduceBEq, beq_self_eq_true, if_true, if_false, Bool.false_eq_true, reduceCtorEq, decide_eq_true_eq, Bool.not_true, Bool.not_false, true_and, and_true, exists_const, decide_true, decide_false, List.nil_append]
      have n0 := Int.emod_nonneg mix (b := p2) (by omega)
      have n1 := Int.emod_lt_of_pos mix a2
      generalize mix % p2 = mx at n0 n1
      have q4 : bop .mul (.int mx) (.int mx) = pure (.int (mx * mx)) := b_mul (mul_ok (by omega))
      have q5 : bop .mul (.int (mx * mx)) (.int mx) = pure (.int (mx * mx * mx)) := b_mul (mul_ok (sq_lt n0 (by omega) n0 (by omega)))
      try simp only [q4, q5, e3, b_mod a3, e_var, e_int, e_bl, e_non, e_str, e_ty, e_fnv, e_tup, e_lst, e_bin, e_not, e_neg, neg_i, e_cmp, e_chain, e_and, e_or, e_ife, e_idx, e_slc, e_call, e_bi, e_meth, es_nil, es_cons, g_n, g_t, g_sub, gs_cons, gs_nil, s_asg, s_par, s_aug, s_ex, s_ret, s_ife, s_for, ss_nil, ss_cons, th_nx, th_rt, b_add, b_sub, c_eqi, c_nei, c_eqs, c_nes, c_lt, c_le, c_gt, c_ge, c_isn, c_isnn, i_tup, bi_len_t, bi_min2, bi_max2, R_bind, R_pure, R_lift, R_rd, R_alloc, R_tst, some_ex, L0, LS, OB, id_eq, M0, setAll, S0, SS, AP, Rp0, RpS, A0, A1, A2, A3, AN2, AN3, Nat.reduceBEq, beq_self_eq_true, if_true, if_false, Bool.false_eq_true, reduceCtorEq, decide_eq_true_eq, Bool.not_true, Bool.not_false, true_and, and_true, exists_const, decide_true, decide_false, List.nil_append]
      generalize mx * mx * mx % p3 = my
      -- the digit that is kept
      have fin : ∀ v : Int, R (method .append (.ref st.length) [.int (v % base)]) s fun _ s' => ∃ (y z : Option D) (rs' : Int) (ds : List Int), [some (D.ref r), some (.int (i : Nat)), some (.int (n : Nat)), some (.int base), some (.tup primesD), some (.int cell), some (.int (rs / base)), some (.ref st.length), some (.int (j : Nat)), some (.int v)] =
          [some (D.ref r), some (.int (i : Nat)), some (.int (n : Nat)), some (.int base), some (.tup primesD), some (.int cell), some (.int rs'), some (.ref st.length), y, z] ∧ 0 ≤ rs' ∧ Ext st s' ∧ s'[st.length]? = some (.lst (ds.map D.int)) ∧ ds.length = j + 1 ∧ ∀ d ∈ ds, 0 ≤ d ∧ d < base := fun v => by
        refine R_mappend hds (by rw [List.length_map, hlen]; exact Nat.lt_of_lt_of_le hj (Nat.le_trans hn (by decide))) ⟨_, _, rs / base, ds ++ [v % base], rfl, Int.ediv_nonneg hrs (by omega), ex.set (Nat.le_refl _) _, ?_, by rw [List.length_append, hlen]; rfl, fun d hd => ?_⟩
        · rw [List.getElem?_set_self (List.getElem?_eq_some_iff.mp hds).1, List.map_append]
          rfl
        · rcases List.mem_append.mp hd with hd | hd
          · exact hall d hd
          · rw [List.mem_singleton.mp hd]
            exact ⟨Int.emod_nonneg _ (by omega), Int.emod_lt_of_pos _ hb⟩
      by_cases hc : 0 < rs
      · simp only [hc, b_mod hb, b_div hb hb2, mchk_append (getL_of hds), e_var, e_int, e_bl, e_non, e_str, e_ty, e_fnv, e_tup, e_lst, e_bin, e_not, e_neg, neg_i, e_cmp, e_chain, e_and, e_or, e_ife, e_idx, e_slc, e_call, e_bi, e_meth, es_nil, es_cons, g_n, g_t, g_sub, gs_cons, gs_nil, s_asg, s_par, s_aug, s_ex, s_ret, s_ife, s_for, ss_nil, ss_cons, th_nx, th_rt, b_add, b_sub, c_eqi, c_nei, c_eqs, c_nes, c_lt, c_le, c_gt, c_ge, c_isn, c_isnn, i_tup, bi_len_t, bi_min2, bi_max2, R_bind, R_pure, R_lift, R_rd, R_alloc, R_tst, some_ex, L0, LS, OB, id_eq, M0, setAll, S0, SS, AP, Rp0, RpS, A0, A1, A2, A3, AN2, AN3, Nat.reduceBEq, beq_self_eq_true, if_true, if_false, Bool.false_eq_true, reduceCtorEq, decide_eq_true_eq, Bool.not_true, Bool.not_false, true_and, and_true, exists_const, decide_true, decide_false, List.nil_append]
        exact (fin rs).mono fun _ _ q => q
      · simp only [hc, b_mod hb, b_div hb hb2, mchk_append (getL_of hds), e_var, e_int, e_bl, e_non, e_str, e_ty, e_fnv, e_tup, e_lst, e_bin, e_not, e_neg, neg_i, e_cmp, e_chain, e_and, e_or, e_ife, e_idx, e_slc, e_call, e_bi, e_meth, es_nil, es_cons, g_n, g_t, g_sub, gs_cons, gs_nil, s_asg, s_par, s_aug, s_ex, s_ret, s_ife, s_for, ss_nil, ss_cons, th_nx, th_rt, b_add, b_sub, c_eqi, c_nei, c_eqs, c_nes, c_lt, c_le, c_gt, c_ge, c_isn, c_isnn, i_tup, bi_len_t, bi_min2, bi_max2, R_bind, R_pure, R_lift, R_rd, R_alloc, R_tst, some_ex, L0, LS, OB, id_eq, M0, setAll, S0, SS, AP, Rp0, RpS, A0, A1, A2, A3, AN2, AN3, Nat.reduceBEq, beq_self_eq_true, if_true, if_false, Bool.false_eq_true, reduceCtorEq, decide_eq_true_eq, Bool.not_true, Bool.not_false, true_and, and_true, exists_const, decide_true, decide_false, List.nil_append]
        exact (fin my).mono fun _ _ q => q
    · rintro σ s ⟨y, z, rs, ds, rfl, hrs, ex, hds, hlen, hall⟩
      try simp only [un_rng, e_var, e_int, e_bl, e_non, e_str, e_ty, e_fnv, e_tup, e_lst, e_bin, e_not, e_neg, neg_i, e_cmp, e_chain, e_and, e_or, e_ife, e_idx, e_slc, e_call, e_bi, e_meth, es_nil, es_cons, g_n, g_t, g_sub, gs_cons, gs_nil, s_asg, s_par, s_aug, s_ex, s_ret, s_ife, s_for, ss_nil, ss_cons, th_nx, th_rt, b_add, b_sub, c_eqi, c_nei, c_eqs, c_nes, c_lt, c_le, c_gt, c_ge, c_isn, c_isnn, i_tup, bi_len_t, bi_min2, bi_max2, R_bind, R_pure, R_lift, R_rd, R_alloc, R_tst, some_ex, L0, LS, OB, id_eq, M0, setAll, S0, SS, AP, Rp0, RpS, A0, A1, A2, A3, AN2, AN3, Nat.reduceBEq, beq_self_eq_true, if_true, if_false, Bool.false_eq_true, reduceCtorEq, decide_eq_true_eq, Bool.not_true, Bool.not_false, true_and, and_true, exists_const, decide_true, decide_false, List.nil_append]
      rw [rngL_len] at hlen
      exact h s ds ex (getL_of hds) hlen hall
  simp only [d_law_digits, List.drop] at tail
  try simp only [pow18, e_var, e_int, e_bl, e_non, e_str, e_ty, e_fnv, e_tup, e_lst, e_bin, e_not, e_neg, neg_i, e_cmp, e_chain, e_and, e_or, e_ife, e_idx, e_slc, e_call, e_bi, e_meth, es_nil, es_cons, g_n, g_t, g_sub, gs_cons, gs_nil, s_asg, s_par, s_aug, s_ex, s_ret, s_ife, s_for, ss_nil, ss_cons, th_nx, th_rt, b_add, b_sub, c_eqi, c_nei, c_eqs, c_nes, c_lt, c_le, c_gt, c_ge, c_isn, c_isnn, i_tup, bi_len_t, bi_min2, bi_max2, R_bind, R_pure, R_lift, R_rd, R_alloc, R_tst, some_ex, L0, LS, OB, id_eq, M0, setAll, S0, SS, AP, Rp0, RpS, A0, A1, A2, A3, AN2, AN3, Nat.reduceBEq, beq_self_eq_true, if_true, if_false, Bool.false_eq_true, reduceCtorEq, decide_eq_true_eq, Bool.not_true, Bool.not_false, true_and, and_true, exists_const, decide_true, decide_false, List.nil_append]
  by_cases hc : 1000000000000000000 ≤ cell
  · rw [if_pos (decide_eq_true hc)] at hr
    subst hr
    try simp only [hc, e_var, e_int, e_bl, e_non, e_str, e_ty, e_fnv, e_tup, e_lst, e_bin, e_not, e_neg, neg_i, e_cmp, e_chain, e_and, e_or, e_ife, e_idx, e_slc, e_call, e_bi, e_meth, es_nil, es_cons, g_n, g_t, g_sub, gs_cons, gs_nil, s_asg, s_par, s_aug, s_ex, s_ret, s_ife, s_for, ss_nil, ss_cons, th_nx, th_rt, b_add, b_sub, c_eqi, c_nei, c_eqs, c_nes, c_lt, c_le, c_gt, c_ge, c_isn, c_isnn, i_tup, bi_len_t, bi_min2, bi_max2, R_bind, R_pure, R_lift, R_rd, R_alloc, R_tst, some_ex, L0, LS, OB, id_eq, M0, setAll, S0, SS, AP, Rp0, RpS, A0, A1, A2, A3, AN2, AN3, Nat.reduceBEq, beq_self_eq_true, if_true, if_false, Bool.false_eq_true, reduceCtorEq, decide_eq_true_eq, Bool.not_true, Bool.not_false, true_and, and_true, exists_const, decide_true, decide_false, List.nil_append] at tail ⊢
    exact tail
  · rw [if_neg (by rw [decide_eq_false hc]; exact Bool.false_ne_true)] at hr
    subst hr
    try simp only [hc, e_var, e_int, e_bl, e_non, e_str, e_ty, e_fnv, e_tup, e_lst, e_bin, e_not, e_neg, neg_i, e_cmp, e_chain, e_and, e_or, e_ife, e_idx, e_slc, e_call, e_bi, e_meth, es_nil, es_cons, g_n, g_t, g_sub, gs_cons, gs_nil, s_asg, s_par, s_aug, s_ex, s_ret, s_ife, s_for, ss_nil, ss_cons, th_nx, th_rt, b_add, b_sub, c_eqi, c_nei, c_eqs, c_nes, c_lt, c_le, c_gt, c_ge, c_isn, c_isnn, i_tup, bi_len_t, bi_min2, bi_max2, R_bind, R_pure, R_lift, R_rd, R_alloc, R_tst, some_ex, L0, LS, OB, id_eq, M0, setAll, S0, SS, AP, Rp0, RpS, A0, A1, A2, A3, AN2, AN3, Nat.reduceBEq, beq_self_eq_true, if_true, if_false, Bool.false_eq_true, reduceCtorEq, decide_eq_true_eq, Bool.not_true, Bool.not_false, true_and, and_true, exists_const, decide_true, decide_false, List.nil_append] at tail ⊢
    exact tail
end
end TL

/-! The laws' own helpers: filters, pipelines, logs. -/
namespace TL
def Fi.wt : Fi → Int
  | .sp n => n
  | .fr n => n + 1
  | .ev n _ => n
  | .li c x => c * x
def wtAll (ps : List Fi) : Int := (ps.map Fi.wt).foldr (· * ·) 1
theorem wt_pos {f : Fi} (h : f.good) : 1 ≤ f.wt ∧ f.wt ≤ 18 := by
  cases f with
  | sp n => obtain ⟨h1, h2⟩ := h; exact ⟨h1, by show n ≤ 18; omega⟩
  | fr n => obtain ⟨h1, h2⟩ := h; exact ⟨by show 1 ≤ n + 1; omega, by show n + 1 ≤ 18; omega⟩
  | ev n r => obtain ⟨h1, h2, _⟩ := h; exact ⟨by show 1 ≤ n; omega, by show n ≤ 18; omega⟩
  | li c x =>
    obtain ⟨h1, h2, h3, h4⟩ := h
    refine ⟨?_, ?_⟩
    · show 1 ≤ c * x
      have := Int.mul_le_mul h1 h3 (by omega) (by omega : (0 : Int) ≤ c)
      omega
    · show c * x ≤ 18
      have := Int.mul_le_mul h2 h4 (by omega) (by decide : (0 : Int) ≤ 3)
      omega
section
variable {w k : Nat} {st : Sto}
theorem run_weight {f : Fi} {Q : D → Sto → Prop} (hg : f.good) (h : Q (.int f.wt) st) : R (callF G w (k + 1) 15 [f.d]) st Q := by
  refine R_call (d := d_law_weight) rfl rfl ?_
  cases f with
  | li c x =>
    obtain ⟨h1, h2, h3, h4⟩ := hg
    have q : bop .mul (.int c) (.int x) = pure (.int (c * x)) := b_mul (mul_ok (by omega))
    try simp only [d_law_weight, Fi.d, List.map, q, e_var, e_int, e_bl, e_non, e_str, e_ty, e_fnv, e_tup, e_lst, e_bin, e_not, e_neg, neg_i, e_cmp, e_chain, e_and, e_or, e_ife, e_idx, e_slc, e_call, e_bi, e_meth, es_nil, es_cons, g_n, g_t, g_sub, gs_cons, gs_nil, s_asg, s_par, s_aug, s_ex, s_ret, s_ife, s_for, ss_nil, ss_cons, th_nx, th_rt, b_add, b_sub, c_eqi, c_nei, c_eqs, c_nes, c_lt, c_le, c_gt, c_ge, c_isn, c_isnn, i_tup, bi_len_t, bi_min2, bi_max2, R_bind, R_pure, R_lift, R_rd, R_alloc, R_tst, some_ex, L0, LS, OB, id_eq, M0, setAll, S0, SS, AP, Rp0, RpS, A0, A1, A2, A3, AN2, AN3, Nat.reduceBEq, beq_self_eq_true, if_true, if_false, Bool.false_eq_true, reduceCtorEq, decide_eq_true_eq, Bool.not_true, Bool.not_false, true_and, and_true, exists_const, decide_true, decide_false, List.nil_append]
    exact h
  | sp n => simp only [d_law_weight, Fi.d, List.map, e_var, e_int, e_bl, e_non, e_str, e_ty, e_fnv, e_tup, e_lst, e_bin, e_not, e_neg, neg_i, e_cmp, e_chain, e_and, e_or, e_ife, e_idx, e_slc, e_call, e_bi, e_meth, es_nil, es_cons, g_n, g_t, g_sub, gs_cons, gs_nil, s_asg, s_par, s_aug, s_ex, s_ret, s_ife, s_for, ss_nil, ss_cons, th_nx, th_rt, b_add, b_sub, c_eqi, c_nei, c_eqs, c_nes, c_lt, c_le, c_gt, c_ge, c_isn, c_isnn, i_tup, bi_len_t, bi_min2, bi_max2, R_bind, R_pure, R_lift, R_rd, R_alloc, R_tst, some_ex, L0, LS, OB, id_eq, M0, setAll, S0, SS, AP, Rp0, RpS, A0, A1, A2, A3, AN2, AN3, Nat.reduceBEq, beq_self_eq_true, if_true, if_false, Bool.false_eq_true, reduceCtorEq, decide_eq_true_eq, Bool.not_true, Bool.not_false, true_and, and_true, exists_const, decide_true, decide_false, List.nil_append]; exact h
  | fr n => simp only [d_law_weight, Fi.d, List.map, e_var, e_int, e_bl, e_non, e_str, e_ty, e_fnv, e_tup, e_lst, e_bin, e_not, e_neg, neg_i, e_cmp, e_chain, e_and, e_or, e_ife, e_idx, e_slc, e_call, e_bi, e_meth, es_nil, es_cons, g_n, g_t, g_sub, gs_cons, gs_nil, s_asg, s_par, s_aug, s_ex, s_ret, s_ife, s_for, ss_nil, ss_cons, th_nx, th_rt, b_add, b_sub, c_eqi, c_nei, c_eqs, c_nes, c_lt, c_le, c_gt, c_ge, c_isn, c_isnn, i_tup, bi_len_t, bi_min2, bi_max2, R_bind, R_pure, R_lift, R_rd, R_alloc, R_tst, some_ex, L0, LS, OB, id_eq, M0, setAll, S0, SS, AP, Rp0, RpS, A0, A1, A2, A3, AN2, AN3, Nat.reduceBEq, beq_self_eq_true, if_true, if_false, Bool.false_eq_true, reduceCtorEq, decide_eq_true_eq, Bool.not_true, Bool.not_false, true_and, and_true, exists_const, decide_true, decide_false, List.nil_append]; exact h
  | ev n r => simp only [d_law_weight, Fi.d, List.map, e_var, e_int, e_bl, e_non, e_str, e_ty, e_fnv, e_tup, e_lst, e_bin, e_not, e_neg, neg_i, e_cmp, e_chain, e_and, e_or, e_ife, e_idx, e_slc, e_call, e_bi, e_meth, es_nil, es_cons, g_n, g_t, g_sub, gs_cons, gs_nil, s_asg, s_par, s_aug, s_ex, s_ret, s_ife, s_for, ss_nil, ss_cons, th_nx, th_rt, b_add, b_sub, c_eqi, c_nei, c_eqs, c_nes, c_lt, c_le, c_gt, c_ge, c_isn, c_isnn, i_tup, bi_len_t, bi_min2, bi_max2, R_bind, R_pure, R_lift, R_rd, R_alloc, R_tst, some_ex, L0, LS, OB, id_eq, M0, setAll, S0, SS, AP, Rp0, RpS, A0, A1, A2, A3, AN2, AN3, Nat.reduceBEq, beq_self_eq_true, if_true, if_false, Bool.false_eq_true, reduceCtorEq, decide_eq_true_eq, Bool.not_true, Bool.not_false, true_and, and_true, exists_const, decide_true, decide_false, List.nil_append]; exact h
/-- the filter of three digits -/
def mkFi (a b c : Int) : Fi := if a % 4 = 0 then .sp (1 + b % 8) else if a % 4 = 1 then .fr (1 + b % 8) else if a % 4 = 2 then .ev (2 + b % 3) (c % (2 + b % 3)) else .li (1 + b % 3) (1 + c % 6)
theorem mkFi_good (a b c : Int) : (mkFi a b c).good := by
  unfold mkFi
  split
  · show 1 ≤ 1 + b % 8 ∧ 1 + b % 8 ≤ 8
    omega
  · split
    · show 1 ≤ 1 + b % 8 ∧ 1 + b % 8 ≤ 8
      omega
    · split
      · show 2 ≤ 2 + b % 3 ∧ 2 + b % 3 ≤ 4 ∧ 0 ≤ c % (2 + b % 3) ∧ c % (2 + b % 3) < 2 + b % 3
        have h : 0 < 2 + b % 3 := by omega
        refine ⟨by omega, by omega, Int.emod_nonneg _ (by omega), Int.emod_lt_of_pos _ h⟩
      · show 1 ≤ 1 + b % 3 ∧ 1 + b % 3 ≤ 3 ∧ 1 ≤ 1 + c % 6 ∧ 1 + c % 6 ≤ 6
        omega
theorem run_filter {a b c : Int} {n : Nat} {Q : D → Sto → Prop} (hs : getL st n = some [.int a, .int b, .int c]) (h : Q (mkFi a b c).d st) : R (callF G w (k + 1) 16 [.ref n]) st Q := by
  refine R_call (d := d_law_filter) rfl rfl ?_
  try simp only [d_law_filter, List.map, e_var, e_int, e_bl, e_non, e_str, e_ty, e_fnv, e_tup, e_lst, e_bin, e_not, e_neg, neg_i, e_cmp, e_chain, e_and, e_or, e_ife, e_idx, e_slc, e_call, e_bi, e_meth, es_nil, es_cons, g_n, g_t, g_sub, gs_cons, gs_nil, s_asg, s_par, s_aug, s_ex, s_ret, s_ife, s_for, ss_nil, ss_cons, th_nx, th_rt, b_add, b_sub, c_eqi, c_nei, c_eqs, c_nes, c_lt, c_le, c_gt, c_ge, c_isn, c_isnn, i_tup, bi_len_t, bi_min2, bi_max2, R_bind, R_pure, R_lift, R_rd, R_alloc, R_tst, some_ex, L0, LS, OB, id_eq, M0, setAll, S0, SS, AP, Rp0, RpS, A0, A1, A2, A3, AN2, AN3, Nat.reduceBEq, beq_self_eq_true, if_true, if_false, Bool.false_eq_true, reduceCtorEq, decide_eq_true_eq, Bool.not_true, Bool.not_false, true_and, and_true, exists_const, decide_true, decide_false, List.nil_append]
  refine R_idx_ref hs rfl ?_
  try simp only [mod_4, e_var, e_int, e_bl, e_non, e_str, e_ty, e_fnv, e_tup, e_lst, e_bin, e_not, e_neg, neg_i, e_cmp, e_chain, e_and, e_or, e_ife, e_idx, e_slc, e_call, e_bi, e_meth, es_nil, es_cons, g_n, g_t, g_sub, gs_cons, gs_nil, s_asg, s_par, s_aug, s_ex, s_ret, s_ife, s_for, ss_nil, ss_cons, th_nx, th_rt, b_add, b_sub, c_eqi, c_nei, c_eqs, c_nes, c_lt, c_le, c_gt, c_ge, c_isn, c_isnn, i_tup, bi_len_t, bi_min2, bi_max2, R_bind, R_pure, R_lift, R_rd, R_alloc, R_tst, some_ex, L0, LS, OB, id_eq, M0, setAll, S0, SS, AP, Rp0, RpS, A0, A1, A2, A3, AN2, AN3, Nat.reduceBEq, beq_self_eq_true, if_true, if_false, Bool.false_eq_true, reduceCtorEq, decide_eq_true_eq, Bool.not_true, Bool.not_false, true_and, and_true, exists_const, decide_true, decide_false, List.nil_append]
  have alt : a % 4 = 0 ∨ a % 4 = 1 ∨ a % 4 = 2 ∨ a % 4 = 3 := by omega
  unfold mkFi at h
  rcases alt with e | e | e | e
  · rw [if_pos e] at h
    try simp only [e, e_var, e_int, e_bl, e_non, e_str, e_ty, e_fnv, e_tup, e_lst, e_bin, e_not, e_neg, neg_i, e_cmp, e_chain, e_and, e_or, e_ife, e_idx, e_slc, e_call, e_bi, e_meth, es_nil, es_cons, g_n, g_t, g_sub, gs_cons, gs_nil, s_asg, s_par, s_aug, s_ex, s_ret, s_ife, s_for, ss_nil, ss_cons, th_nx, th_rt, b_add, b_sub, c_eqi, c_nei, c_eqs, c_nes, c_lt, c_le, c_gt, c_ge, c_isn, c_isnn, i_tup, bi_len_t, bi_min2, bi_max2, R_bind, R_pure, R_lift, R_rd, R_alloc, R_tst, some_ex, L0, LS, OB, id_eq, M0, setAll, S0, SS, AP, Rp0, RpS, A0, A1, A2, A3, AN2, AN3, Nat.reduceBEq, beq_self_eq_true, if_true, if_false, Bool.false_eq_true, reduceCtorEq, decide_eq_true_eq, Bool.not_true, Bool.not_false, true_and, and_true, exists_const, decide_true, decide_false, List.nil_append]
    refine R_idx_ref hs rfl ?_
    try simp only [mod_8, e_var, e_int, e_bl, e_non, e_str, e_ty, e_fnv, e_tup, e_lst, e_bin, e_not, e_neg, neg_i, e_cmp, e_chain, e_and, e_or, e_ife, e_idx, e_slc, e_call, e_bi, e_meth, es_nil, es_cons, g_n, g_t, g_sub, gs_cons, gs_nil, s_asg, s_par, s_aug, s_ex, s_ret, s_ife, s_for, ss_nil, ss_cons, th_nx, th_rt, b_add, b_sub, c_eqi, c_nei, c_eqs, c_nes, c_lt, c_le, c_gt, c_ge, c_isn, c_isnn, i_tup, bi_len_t, bi_min2, bi_max2, R_bind, R_pure, R_lift, R_rd, R_alloc, R_tst, some_ex, L0, LS, OB, id_eq, M0, setAll, S0, SS, AP, Rp0, RpS, A0, A1, A2, A3, AN2, AN3, Nat.reduceBEq, beq_self_eq_true, if_true, if_false, Bool.false_eq_true, reduceCtorEq, decide_eq_true_eq, Bool.not_true, Bool.not_false, true_and, and_true, exists_const, decide_true, decide_false, List.nil_append]
    exact h
  · have e0 : ¬ a % 4 = 0 := by omega
    rw [if_neg e0, if_pos e] at h
    have z : ((1 : Int) == 0) = false := rfl
    try simp only [e, z, e_var, e_int, e_bl, e_non, e_str, e_ty, e_fnv, e_tup, e_lst, e_bin, e_not, e_neg, neg_i, e_cmp, e_chain, e_and, e_or, e_ife, e_idx, e_slc, e_call, e_bi, e_meth, es_nil, es_cons, g_n, g_t, g_sub, gs_cons, gs_nil, s_asg, s_par, s_aug, s_ex, s_ret, s_ife, s_for, ss_nil, ss_cons, th_nx, th_rt, b_add, b_sub, c_eqi, c_nei, c_eqs, c_nes, c_lt, c_le, c_gt, c_ge, c_isn, c_isnn, i_tup, bi_len_t, bi_min2, bi_max2, R_bind, R_pure, R_lift, R_rd, R_alloc, R_tst, some_ex, L0, LS, OB, id_eq, M0, setAll, S0, SS, AP, Rp0, RpS, A0, A1, A2, A3, AN2, AN3, Nat.reduceBEq, beq_self_eq_true, if_true, if_false, Bool.false_eq_true, reduceCtorEq, decide_eq_true_eq, Bool.not_true, Bool.not_false, true_and, and_true, exists_const, decide_true, decide_false, List.nil_append]
    refine R_idx_ref hs rfl ?_
    try simp only [mod_4, e, e_var, e_int, e_bl, e_non, e_str, e_ty, e_fnv, e_tup, e_lst, e_bin, e_not, e_neg, neg_i, e_cmp, e_chain, e_and, e_or, e_ife, e_idx, e_slc, e_call, e_bi, e_meth, es_nil, es_cons, g_n, g_t, g_sub, gs_cons, gs_nil, s_asg, s_par, s_aug, s_ex, s_ret, s_ife, s_for, ss_nil, ss_cons, th_nx, th_rt, b_add, b_sub, c_eqi, c_nei, c_eqs, c_nes, c_lt, c_le, c_gt, c_ge, c_isn, c_isnn, i_tup, bi_len_t, bi_min2, bi_max2, R_bind, R_pure, R_lift, R_rd, R_alloc, R_tst, some_ex, L0, LS, OB, id_eq, M0, setAll, S0, SS, AP, Rp0, RpS, A0, A1, A2, A3, AN2, AN3, Nat.reduceBEq, beq_self_eq_true, if_true, if_false, Bool.false_eq_true, reduceCtorEq, decide_eq_true_eq, Bool.not_true, Bool.not_false, true_and, and_true, exists_const, decide_true, decide_false, List.nil_append]
    refine R_idx_ref hs rfl ?_
    try simp only [mod_8, e_var, e_int, e_bl, e_non, e_str, e_ty, e_fnv, e_tup, e_lst, e_bin, e_not, e_neg, neg_i, e_cmp, e_chain, e_and, e_or, e_ife, e_idx, e_slc, e_call, e_bi, e_meth, es_nil, es_cons, g_n, g_t, g_sub, gs_cons, gs_nil, s_asg, s_par, s_aug, s_ex, s_ret, s_ife, s_for, ss_nil, ss_cons, th_nx, th_rt, b_add, b_sub, c_eqi, c_nei, c_eqs, c_nes, c_lt, c_le, c_gt, c_ge, c_isn, c_isnn, i_tup, bi_len_t, bi_min2, bi_max2, R_bind, R_pure, R_lift, R_rd, R_alloc, R_tst, some_ex, L0, LS, OB, id_eq, M0, setAll, S0, SS, AP, Rp0, RpS, A0, A1, A2, A3, AN2, AN3, Nat.reduceBEq, beq_self_eq_true, if_true, if_false, Bool.false_eq_true, reduceCtorEq, decide_eq_true_eq, Bool.not_true, Bool.not_false, true_and, and_true, exists_const, decide_true, decide_false, List.nil_append]
    exact h
  · have e0 : ¬ a % 4 = 0 := by omega
    have e1 : ¬ a % 4 = 1 := by omega
    rw [if_neg e0, if_neg e1, if_pos e] at h
    have z : ((2 : Int) == 0) = false := rfl
    have z1 : ((2 : Int) == 1) = false := rfl
    try simp only [e, z, e_var, e_int, e_bl, e_non, e_str, e_ty, e_fnv, e_tup, e_lst, e_bin, e_not, e_neg, neg_i, e_cmp, e_chain, e_and, e_or, e_ife, e_idx, e_slc, e_call, e_bi, e_meth, es_nil, es_cons, g_n, g_t, g_sub, gs_cons, gs_nil, s_asg, s_par, s_aug, s_ex, s_ret, s_ife, s_for, ss_nil, ss_cons, th_nx, th_rt, b_add, b_sub, c_eqi, c_nei, c_eqs, c_nes, c_lt, c_le, c_gt, c_ge, c_isn, c_isnn, i_tup, bi_len_t, bi_min2, bi_max2, R_bind, R_pure, R_lift, R_rd, R_alloc, R_tst, some_ex, L0, LS, OB, id_eq, M0, setAll, S0, SS, AP, Rp0, RpS, A0, A1, A2, A3, AN2, AN3, Nat.reduceBEq, beq_self_eq_true, if_true, if_false, Bool.false_eq_true, reduceCtorEq, decide_eq_true_eq, Bool.not_true, Bool.not_false, true_and, and_true, exists_const, decide_true, decide_false, List.nil_append]
    refine R_idx_ref hs rfl ?_
    try simp only [mod_4, e, z1, e_var, e_int, e_bl, e_non, e_str, e_ty, e_fnv, e_tup, e_lst, e_bin, e_not, e_neg, neg_i, e_cmp, e_chain, e_and, e_or, e_ife, e_idx, e_slc, e_call, e_bi, e_meth, es_nil, es_cons, g_n, g_t, g_sub, gs_cons, gs_nil, s_asg, s_par, s_aug, s_ex, s_ret, s_ife, s_for, ss_nil, ss_cons, th_nx, th_rt, b_add, b_sub, c_eqi, c_nei, c_eqs, c_nes, c_lt, c_le, c_gt, c_ge, c_isn, c_isnn, i_tup, bi_len_t, bi_min2, bi_max2, R_bind, R_pure, R_lift, R_rd, R_alloc, R_tst, some_ex, L0, LS, OB, id_eq, M0, setAll, S0, SS, AP, Rp0, RpS, A0, A1, A2, A3, AN2, AN3, Nat.reduceBEq, beq_self_eq_true, if_true, if_false, Bool.false_eq_true, reduceCtorEq, decide_eq_true_eq, Bool.not_true, Bool.not_false, true_and, and_true, exists_const, decide_true, decide_false, List.nil_append]
    refine R_idx_ref hs rfl ?_
    try simp only [mod_4, e, e_var, e_int, e_bl, e_non, e_str, e_ty, e_fnv, e_tup, e_lst, e_bin, e_not, e_neg, neg_i, e_cmp, e_chain, e_and, e_or, e_ife, e_idx, e_slc, e_call, e_bi, e_meth, es_nil, es_cons, g_n, g_t, g_sub, gs_cons, gs_nil, s_asg, s_par, s_aug, s_ex, s_ret, s_ife, s_for, ss_nil, ss_cons, th_nx, th_rt, b_add, b_sub, c_eqi, c_nei, c_eqs, c_nes, c_lt, c_le, c_gt, c_ge, c_isn, c_isnn, i_tup, bi_len_t, bi_min2, bi_max2, R_bind, R_pure, R_lift, R_rd, R_alloc, R_tst, some_ex, L0, LS, OB, id_eq, M0, setAll, S0, SS, AP, Rp0, RpS, A0, A1, A2, A3, AN2, AN3, Nat.reduceBEq, beq_self_eq_true, if_true, if_false, Bool.false_eq_true, reduceCtorEq, decide_eq_true_eq, Bool.not_true, Bool.not_false, true_and, and_true, exists_const, decide_true, decide_false, List.nil_append]
    refine R_idx_ref hs rfl ?_
    have hp : 0 < 2 + b % 3 := by omega
    try simp only [mod_3, e_var, e_int, e_bl, e_non, e_str, e_ty, e_fnv, e_tup, e_lst, e_bin, e_not, e_neg, neg_i, e_cmp, e_chain, e_and, e_or, e_ife, e_idx, e_slc, e_call, e_bi, e_meth, es_nil, es_cons, g_n, g_t, g_sub, gs_cons, gs_nil, s_asg, s_par, s_aug, s_ex, s_ret, s_ife, s_for, ss_nil, ss_cons, th_nx, th_rt, b_add, b_sub, c_eqi, c_nei, c_eqs, c_nes, c_lt, c_le, c_gt, c_ge, c_isn, c_isnn, i_tup, bi_len_t, bi_min2, bi_max2, R_bind, R_pure, R_lift, R_rd, R_alloc, R_tst, some_ex, L0, LS, OB, id_eq, M0, setAll, S0, SS, AP, Rp0, RpS, A0, A1, A2, A3, AN2, AN3, Nat.reduceBEq, beq_self_eq_true, if_true, if_false, Bool.false_eq_true, reduceCtorEq, decide_eq_true_eq, Bool.not_true, Bool.not_false, true_and, and_true, exists_const, decide_true, decide_false, List.nil_append]
    refine R_idx_ref hs rfl ?_
    try simp only [b_mod hp, e_var, e_int, e_bl, e_non, e_str, e_ty, e_fnv, e_tup, e_lst, e_bin, e_not, e_neg, neg_i, e_cmp, e_chain, e_and, e_or, e_ife, e_idx, e_slc, e_call, e_bi, e_meth, es_nil, es_cons, g_n, g_t, g_sub, gs_cons, gs_nil, s_asg, s_par, s_aug, s_ex, s_ret, s_ife, s_for, ss_nil, ss_cons, th_nx, th_rt, b_add, b_sub, c_eqi, c_nei, c_eqs, c_nes, c_lt, c_le, c_gt, c_ge, c_isn, c_isnn, i_tup, bi_len_t, bi_min2, bi_max2, R_bind, R_pure, R_lift, R_rd, R_alloc, R_tst, some_ex, L0, LS, OB, id_eq, M0, setAll, S0, SS, AP, Rp0, RpS, A0, A1, A2, A3, AN2, AN3, Nat.reduceBEq, beq_self_eq_true, if_true, if_false, Bool.false_eq_true, reduceCtorEq, decide_eq_true_eq, Bool.not_true, Bool.not_false, true_and, and_true, exists_const, decide_true, decide_false, List.nil_append]
    exact h
  · have e0 : ¬ a % 4 = 0 := by omega
    have e1 : ¬ a % 4 = 1 := by omega
    have e2 : ¬ a % 4 = 2 := by omega
    rw [if_neg e0, if_neg e1, if_neg e2] at h
    have z : ((3 : Int) == 0) = false := rfl
    have z1 : ((3 : Int) == 1) = false := rfl
    have z2 : ((3 : Int) == 2) = false := rfl
    try simp only [e, z, e_var, e_int, e_bl, e_non, e_str, e_ty, e_fnv, e_tup, e_lst, e_bin, e_not, e_neg, neg_i, e_cmp, e_chain, e_and, e_or, e_ife, e_idx, e_slc, e_call, e_bi, e_meth, es_nil, es_cons, g_n, g_t, g_sub, gs_cons, gs_nil, s_asg, s_par, s_aug, s_ex, s_ret, s_ife, s_for, ss_nil, ss_cons, th_nx, th_rt, b_add, b_sub, c_eqi, c_nei, c_eqs, c_nes, c_lt, c_le, c_gt, c_ge, c_isn, c_isnn, i_tup, bi_len_t, bi_min2, bi_max2, R_bind, R_pure, R_lift, R_rd, R_alloc, R_tst, some_ex, L0, LS, OB, id_eq, M0, setAll, S0, SS, AP, Rp0, RpS, A0, A1, A2, A3, AN2, AN3, Nat.reduceBEq, beq_self_eq_true, if_true, if_false, Bool.false_eq_true, reduceCtorEq, decide_eq_true_eq, Bool.not_true, Bool.not_false, true_and, and_true, exists_const, decide_true, decide_false, List.nil_append]
    refine R_idx_ref hs rfl ?_
    try simp only [mod_4, e, z1, e_var, e_int, e_bl, e_non, e_str, e_ty, e_fnv, e_tup, e_lst, e_bin, e_not, e_neg, neg_i, e_cmp, e_chain, e_and, e_or, e_ife, e_idx, e_slc, e_call, e_bi, e_meth, es_nil, es_cons, g_n, g_t, g_sub, gs_cons, gs_nil, s_asg, s_par, s_aug, s_ex, s_ret, s_ife, s_for, ss_nil, ss_cons, th_nx, th_rt, b_add, b_sub, c_eqi, c_nei, c_eqs, c_nes, c_lt, c_le, c_gt, c_ge, c_isn, c_isnn, i_tup, bi_len_t, bi_min2, bi_max2, R_bind, R_pure, R_lift, R_rd, R_alloc, R_tst, some_ex, L0, LS, OB, id_eq, M0, setAll, S0, SS, AP, Rp0, RpS, A0, A1, A2, A3, AN2, AN3, Nat.reduceBEq, beq_self_eq_true, if_true, if_false, Bool.false_eq_true, reduceCtorEq, decide_eq_true_eq, Bool.not_true, Bool.not_false, true_and, and_true, exists_const, decide_true, decide_false, List.nil_append]
    refine R_idx_ref hs rfl ?_
    try simp only [mod_4, e, z2, e_var, e_int, e_bl, e_non, e_str, e_ty, e_fnv, e_tup, e_lst, e_bin, e_not, e_neg, neg_i, e_cmp, e_chain, e_and, e_or, e_ife, e_idx, e_slc, e_call, e_bi, e_meth, es_nil, es_cons, g_n, g_t, g_sub, gs_cons, gs_nil, s_asg, s_par, s_aug, s_ex, s_ret, s_ife, s_for, ss_nil, ss_cons, th_nx, th_rt, b_add, b_sub, c_eqi, c_nei, c_eqs, c_nes, c_lt, c_le, c_gt, c_ge, c_isn, c_isnn, i_tup, bi_len_t, bi_min2, bi_max2, R_bind, R_pure, R_lift, R_rd, R_alloc, R_tst, some_ex, L0, LS, OB, id_eq, M0, setAll, S0, SS, AP, Rp0, RpS, A0, A1, A2, A3, AN2, AN3, Nat.reduceBEq, beq_self_eq_true, if_true, if_false, Bool.false_eq_true, reduceCtorEq, decide_eq_true_eq, Bool.not_true, Bool.not_false, true_and, and_true, exists_const, decide_true, decide_false, List.nil_append]
    refine R_idx_ref hs rfl ?_
    try simp only [mod_3, e_var, e_int, e_bl, e_non, e_str, e_ty, e_fnv, e_tup, e_lst, e_bin, e_not, e_neg, neg_i, e_cmp, e_chain, e_and, e_or, e_ife, e_idx, e_slc, e_call, e_bi, e_meth, es_nil, es_cons, g_n, g_t, g_sub, gs_cons, gs_nil, s_asg, s_par, s_aug, s_ex, s_ret, s_ife, s_for, ss_nil, ss_cons, th_nx, th_rt, b_add, b_sub, c_eqi, c_nei, c_eqs, c_nes, c_lt, c_le, c_gt, c_ge, c_isn, c_isnn, i_tup, bi_len_t, bi_min2, bi_max2, R_bind, R_pure, R_lift, R_rd, R_alloc, R_tst, some_ex, L0, LS, OB, id_eq, M0, setAll, S0, SS, AP, Rp0, RpS, A0, A1, A2, A3, AN2, AN3, Nat.reduceBEq, beq_self_eq_true, if_true, if_false, Bool.false_eq_true, reduceCtorEq, decide_eq_true_eq, Bool.not_true, Bool.not_false, true_and, and_true, exists_const, decide_true, decide_false, List.nil_append]
    refine R_idx_ref hs rfl ?_
    try simp only [mod_6, e_var, e_int, e_bl, e_non, e_str, e_ty, e_fnv, e_tup, e_lst, e_bin, e_not, e_neg, neg_i, e_cmp, e_chain, e_and, e_or, e_ife, e_idx, e_slc, e_call, e_bi, e_meth, es_nil, es_cons, g_n, g_t, g_sub, gs_cons, gs_nil, s_asg, s_par, s_aug, s_ex, s_ret, s_ife, s_for, ss_nil, ss_cons, th_nx, th_rt, b_add, b_sub, c_eqi, c_nei, c_eqs, c_nes, c_lt, c_le, c_gt, c_ge, c_isn, c_isnn, i_tup, bi_len_t, bi_min2, bi_max2, R_bind, R_pure, R_lift, R_rd, R_alloc, R_tst, some_ex, L0, LS, OB, id_eq, M0, setAll, S0, SS, AP, Rp0, RpS, A0, A1, A2, A3, AN2, AN3, Nat.reduceBEq, beq_self_eq_true, if_true, if_false, Bool.false_eq_true, reduceCtorEq, decide_eq_true_eq, Bool.not_true, Bool.not_false, true_and, and_true, exists_const, decide_true, decide_false, List.nil_append]
    exact h
/-! ### a pipeline -/
/-- three of the digits -/
theorem cut3 {ds : List Int} {i : Nat} (h : i + 3 ≤ ds.length) : ∃ a b c, cut (ds.map D.int) (some (i : Int)) (some ((i + 3 : Nat) : Int)) = [.int a, .int b, .int c] := by
  have c1 : clip (ds.map D.int).length (i : Int) = i := by
    unfold clip
    rw [if_neg (by omega), List.length_map]
    show min i ds.length = i
    omega
  have c2 : clip (ds.map D.int).length ((i + 3 : Nat) : Int) = i + 3 := by
    unfold clip
    rw [if_neg (by omega), List.length_map]
    show min (i + 3) ds.length = i + 3
    omega
  refine ⟨ds[i], ds[i + 1], ds[i + 2], ?_⟩
  unfold cut
  simp only [c1, c2, Nat.add_sub_cancel_left]
  rw [← List.map_drop, ← List.map_take, List.drop_eq_getElem_cons (by omega), List.drop_eq_getElem_cons (i := i + 1) (by omega), List.drop_eq_getElem_cons (i := i + 1 + 1) (by omega)]
  rfl
theorem is_tup_len {ps : List Fi} {f : Fi} {n : Nat} (h : ps.length ≤ n) (hn : n < 1000) : (ps.map Fi.d).length + [f.d].length ≤ LIM := by
  rw [List.length_map]
  have : (1000 : Nat) ≤ LIM := by decide
  show ps.length + 1 ≤ LIM
  omega
theorem wtAll_snoc {ps : List Fi} {f : Fi} : wtAll (ps ++ [f]) = wtAll ps * f.wt := by
  unfold wtAll
  induction ps with
  | nil =>
    show f.wt * 1 = 1 * f.wt
    omega
  | cons p ps ih =>
    show p.wt * ((ps ++ [f]).map Fi.wt).foldr (· * ·) 1 = p.wt * (ps.map Fi.wt).foldr (· * ·) 1 * f.wt
    rw [ih, Int.mul_assoc]
theorem run_pipeline {ds : List Int} {n size : Nat} {top : Int} {Q : D → Sto → Prop} (hs : getL st n = some (ds.map D.int)) (hlen : 1 + 3 * size ≤ ds.length) (hsz : size < 1000) (hw : size < w) (ht : 1 ≤ top)
    (h : ∀ (s : Sto) (ps : List Fi), Ext st s → ps.length ≤ size → (∀ f ∈ ps, f.good) → wtAll ps ≤ top → Q (.tup (ps.map Fi.d)) s) : R (callF G w (k + 2) 17 [.ref n, .int (size : Nat), .int top]) st Q := by
  refine R_call (d := d_law_pipeline) rfl rfl ?_
  have h0 : 0 < ds.length := by omega
  obtain ⟨v0, e0, _⟩ := atI_int (ns := ds) (i := 0) (Int.le_refl _) (by omega)
  try simp only [d_law_pipeline, List.map, it_rng, e_var, e_int, e_bl, e_non, e_str, e_ty, e_fnv, e_tup, e_lst, e_bin, e_not, e_neg, neg_i, e_cmp, e_chain, e_and, e_or, e_ife, e_idx, e_slc, e_call, e_bi, e_meth, es_nil, es_cons, g_n, g_t, g_sub, gs_cons, gs_nil, s_asg, s_par, s_aug, s_ex, s_ret, s_ife, s_for, ss_nil, ss_cons, th_nx, th_rt, b_add, b_sub, c_eqi, c_nei, c_eqs, c_nes, c_lt, c_le, c_gt, c_ge, c_isn, c_isnn, i_tup, bi_len_t, bi_min2, bi_max2, R_bind, R_pure, R_lift, R_rd, R_alloc, R_tst, some_ex, L0, LS, OB, id_eq, M0, setAll, S0, SS, AP, Rp0, RpS, A0, A1, A2, A3, AN2, AN3, Nat.reduceBEq, beq_self_eq_true, if_true, if_false, Bool.false_eq_true, reduceCtorEq, decide_eq_true_eq, Bool.not_true, Bool.not_false, true_and, and_true, exists_const, decide_true, decide_false, List.nil_append]
  refine R_idx_ref hs e0 ?_
  have hp : 0 < (size : Int) + 1 := by omega
  try simp only [b_mod hp, e_var, e_int, e_bl, e_non, e_str, e_ty, e_fnv, e_tup, e_lst, e_bin, e_not, e_neg, neg_i, e_cmp, e_chain, e_and, e_or, e_ife, e_idx, e_slc, e_call, e_bi, e_meth, es_nil, es_cons, g_n, g_t, g_sub, gs_cons, gs_nil, s_asg, s_par, s_aug, s_ex, s_ret, s_ife, s_for, ss_nil, ss_cons, th_nx, th_rt, b_add, b_sub, c_eqi, c_nei, c_eqs, c_nes, c_lt, c_le, c_gt, c_ge, c_isn, c_isnn, i_tup, bi_len_t, bi_min2, bi_max2, R_bind, R_pure, R_lift, R_rd, R_alloc, R_tst, some_ex, L0, LS, OB, id_eq, M0, setAll, S0, SS, AP, Rp0, RpS, A0, A1, A2, A3, AN2, AN3, Nat.reduceBEq, beq_self_eq_true, if_true, if_false, Bool.false_eq_true, reduceCtorEq, decide_eq_true_eq, Bool.not_true, Bool.not_false, true_and, and_true, exists_const, decide_true, decide_false, List.nil_append]
  have q0 := Int.emod_nonneg v0 (b := (size : Int) + 1) (by omega)
  have q1 := Int.emod_lt_of_pos v0 hp
  obtain ⟨m, hm⟩ := Int.eq_ofNat_of_zero_le q0
  rw [hm] at q1 ⊢
  have hm2 : m ≤ size := by
    have : (m : Int) < (size : Int) + 1 := q1
    omega
  refine R_rng1 (by omega) ?_
  refine R_for (xs := rngL m) (fun j σ s => ∃ (y z : Option D) (ps : List Fi) (left : Int), σ = [some (.ref n), some (.int (size : Nat)), some (.int top), some (.tup (ps.map Fi.d)), some (.int left), y, z] ∧ Ext st s ∧ ps.length ≤ j ∧ (∀ f ∈ ps, f.good) ∧ 0 ≤ left ∧ 1 ≤ wtAll ps ∧ wtAll ps * left ≤ top ∧ wtAll ps ≤ top)
    (by rw [rngL_len]; omega) ⟨none, none, [], top, rfl, Ext.refl st, Nat.zero_le _, (fun (f : Fi) (hf : f ∈ ([] : List Fi)) => by cases hf), by omega, by decide, by show 1 * top ≤ top; omega, ht⟩ (fun j σ s hj _ => get_rng0 (by rw [rngL_len] at hj; exact hj)) ?_ ?_
  · rintro j x σ s hx ⟨y, z, ps, left, rfl, ex, hl, hgood, hleft, hw1, hw2, hw3⟩
    obtain ⟨hj, rfl⟩ := rngL_get hx
    have hsl := ext_getL ex hs
    have i1 : (1 : Int) + 3 * (j : Int) = ((1 + 3 * j : Nat) : Int) := by omega
    have i2 : (4 : Int) + 3 * (j : Int) = ((1 + 3 * j + 3 : Nat) : Int) := by omega
    obtain ⟨a, b, c, hc⟩ := cut3 (ds := ds) (i := 1 + 3 * j) (by omega)
    try simp only [m_lit3, i1, i2, E.isNon, optI, e_var, e_int, e_bl, e_non, e_str, e_ty, e_fnv, e_tup, e_lst, e_bin, e_not, e_neg, neg_i, e_cmp, e_chain, e_and, e_or, e_ife, e_idx, e_slc, e_call, e_bi, e_meth, es_nil, es_cons, g_n, g_t, g_sub, gs_cons, gs_nil, s_asg, s_par, s_aug, s_ex, s_ret, s_ife, s_for, ss_nil, ss_cons, th_nx, th_rt, b_add, b_sub, c_eqi, c_nei, c_eqs, c_nes, c_lt, c_le, c_gt, c_ge, c_isn, c_isnn, i_tup, bi_len_t, bi_min2, bi_max2, R_bind, R_pure, R_lift, R_rd, R_alloc, R_tst, some_ex, L0, LS, OB, id_eq, M0, setAll, S0, SS, AP, Rp0, RpS, A0, A1, A2, A3, AN2, AN3, Nat.reduceBEq, beq_self_eq_true, if_true, if_false, Bool.false_eq_true, reduceCtorEq, decide_eq_true_eq, Bool.not_true, Bool.not_false, true_and, and_true, exists_const, decide_true, decide_false, List.nil_append]
    refine R_slice_ref hsl ?_
    rw [hc]
    try simp only [e_var, e_int, e_bl, e_non, e_str, e_ty, e_fnv, e_tup, e_lst, e_bin, e_not, e_neg, neg_i, e_cmp, e_chain, e_and, e_or, e_ife, e_idx, e_slc, e_call, e_bi, e_meth, es_nil, es_cons, g_n, g_t, g_sub, gs_cons, gs_nil, s_asg, s_par, s_aug, s_ex, s_ret, s_ife, s_for, ss_nil, ss_cons, th_nx, th_rt, b_add, b_sub, c_eqi, c_nei, c_eqs, c_nes, c_lt, c_le, c_gt, c_ge, c_isn, c_isnn, i_tup, bi_len_t, bi_min2, bi_max2, R_bind, R_pure, R_lift, R_rd, R_alloc, R_tst, some_ex, L0, LS, OB, id_eq, M0, setAll, S0, SS, AP, Rp0, RpS, A0, A1, A2, A3, AN2, AN3, Nat.reduceBEq, beq_self_eq_true, if_true, if_false, Bool.false_eq_true, reduceCtorEq, decide_eq_true_eq, Bool.not_true, Bool.not_false, true_and, and_true, exists_const, decide_true, decide_false, List.nil_append]
    refine run_filter getL_new ?_
    have gf := mkFi_good a b c
    have wp := wt_pos gf
    generalize mkFi a b c = f at gf wp
    try simp only [e_var, e_int, e_bl, e_non, e_str, e_ty, e_fnv, e_tup, e_lst, e_bin, e_not, e_neg, neg_i, e_cmp, e_chain, e_and, e_or, e_ife, e_idx, e_slc, e_call, e_bi, e_meth, es_nil, es_cons, g_n, g_t, g_sub, gs_cons, gs_nil, s_asg, s_par, s_aug, s_ex, s_ret, s_ife, s_for, ss_nil, ss_cons, th_nx, th_rt, b_add, b_sub, c_eqi, c_nei, c_eqs, c_nes, c_lt, c_le, c_gt, c_ge, c_isn, c_isnn, i_tup, bi_len_t, bi_min2, bi_max2, R_bind, R_pure, R_lift, R_rd, R_alloc, R_tst, some_ex, L0, LS, OB, id_eq, M0, setAll, S0, SS, AP, Rp0, RpS, A0, A1, A2, A3, AN2, AN3, Nat.reduceBEq, beq_self_eq_true, if_true, if_false, Bool.false_eq_true, reduceCtorEq, decide_eq_true_eq, Bool.not_true, Bool.not_false, true_and, and_true, exists_const, decide_true, decide_false, List.nil_append]
    refine run_weight gf ?_
    by_cases hc2 : f.wt ≤ left
    · have bc : bop .add (.tup (ps.map Fi.d)) (.tup [f.d]) = pure (.tup (ps.map Fi.d ++ [f.d])) := b_cat (is_tup_len (n := size) (by omega) hsz)
      try simp only [hc2, bc, e_var, e_int, e_bl, e_non, e_str, e_ty, e_fnv, e_tup, e_lst, e_bin, e_not, e_neg, neg_i, e_cmp, e_chain, e_and, e_or, e_ife, e_idx, e_slc, e_call, e_bi, e_meth, es_nil, es_cons, g_n, g_t, g_sub, gs_cons, gs_nil, s_asg, s_par, s_aug, s_ex, s_ret, s_ife, s_for, ss_nil, ss_cons, th_nx, th_rt, b_add, b_sub, c_eqi, c_nei, c_eqs, c_nes, c_lt, c_le, c_gt, c_ge, c_isn, c_isnn, i_tup, bi_len_t, bi_min2, bi_max2, R_bind, R_pure, R_lift, R_rd, R_alloc, R_tst, some_ex, L0, LS, OB, id_eq, M0, setAll, S0, SS, AP, Rp0, RpS, A0, A1, A2, A3, AN2, AN3, Nat.reduceBEq, beq_self_eq_true, if_true, if_false, Bool.false_eq_true, reduceCtorEq, decide_eq_true_eq, Bool.not_true, Bool.not_false, true_and, and_true, exists_const, decide_true, decide_false, List.nil_append]
      refine run_weight gf ?_
      have hd : 0 < f.wt := by omega
      try simp only [b_div hd (by omega : f.wt < 1073741824), e_var, e_int, e_bl, e_non, e_str, e_ty, e_fnv, e_tup, e_lst, e_bin, e_not, e_neg, neg_i, e_cmp, e_chain, e_and, e_or, e_ife, e_idx, e_slc, e_call, e_bi, e_meth, es_nil, es_cons, g_n, g_t, g_sub, gs_cons, gs_nil, s_asg, s_par, s_aug, s_ex, s_ret, s_ife, s_for, ss_nil, ss_cons, th_nx, th_rt, b_add, b_sub, c_eqi, c_nei, c_eqs, c_nes, c_lt, c_le, c_gt, c_ge, c_isn, c_isnn, i_tup, bi_len_t, bi_min2, bi_max2, R_bind, R_pure, R_lift, R_rd, R_alloc, R_tst, some_ex, L0, LS, OB, id_eq, M0, setAll, S0, SS, AP, Rp0, RpS, A0, A1, A2, A3, AN2, AN3, Nat.reduceBEq, beq_self_eq_true, if_true, if_false, Bool.false_eq_true, reduceCtorEq, decide_eq_true_eq, Bool.not_true, Bool.not_false, true_and, and_true, exists_const, decide_true, decide_false, List.nil_append]
      have dv : f.wt * (left / f.wt) ≤ left := Int.mul_ediv_self_le (by omega)
      have n0 : 0 ≤ left / f.wt := Int.ediv_nonneg hleft (by omega)
      have k1 : wtAll (ps ++ [f]) * (left / f.wt) ≤ top := by
        rw [wtAll_snoc, Int.mul_assoc]
        exact Int.le_trans (Int.mul_le_mul_of_nonneg_left dv (by omega)) hw2
      have k2 : wtAll (ps ++ [f]) ≤ top := by
        rw [wtAll_snoc]
        exact Int.le_trans (Int.mul_le_mul_of_nonneg_left hc2 (by omega)) hw2
      have k3 : 1 ≤ wtAll (ps ++ [f]) := by
        rw [wtAll_snoc]
        have := Int.mul_le_mul hw1 wp.1 (by decide) (by omega : (0 : Int) ≤ wtAll ps)
        omega
      refine ⟨_, _, ps ++ [f], left / f.wt, by rw [List.map_append]; rfl, ex.push _, by rw [List.length_append]; show ps.length + 1 ≤ j + 1; omega, fun g hg => ?_, n0, k3, k1, k2⟩
      rcases List.mem_append.mp hg with hg | hg
      · exact hgood g hg
      · rw [List.mem_singleton.mp hg]; exact gf
    · simp only [hc2, e_var, e_int, e_bl, e_non, e_str, e_ty, e_fnv, e_tup, e_lst, e_bin, e_not, e_neg, neg_i, e_cmp, e_chain, e_and, e_or, e_ife, e_idx, e_slc, e_call, e_bi, e_meth, es_nil, es_cons, g_n, g_t, g_sub, gs_cons, gs_nil, s_asg, s_par, s_aug, s_ex, s_ret, s_ife, s_for, ss_nil, ss_cons, th_nx, th_rt, b_add, b_sub, c_eqi, c_nei, c_eqs, c_nes, c_lt, c_le, c_gt, c_ge, c_isn, c_isnn, i_tup, bi_len_t, bi_min2, bi_max2, R_bind, R_pure, R_lift, R_rd, R_alloc, R_tst, some_ex, L0, LS, OB, id_eq, M0, setAll, S0, SS, AP, Rp0, RpS, A0, A1, A2, A3, AN2, AN3, Nat.reduceBEq, beq_self_eq_true, if_true, if_false, Bool.false_eq_true, reduceCtorEq, decide_eq_true_eq, Bool.not_true, Bool.not_false, true_and, and_true, exists_const, decide_true, decide_false, List.nil_append]
      exact ⟨_, _, ps, left, rfl, ex.push _, by omega, hgood, hleft, hw1, hw2, hw3⟩
  · rintro σ s ⟨y, z, ps, left, rfl, ex, hl, hgood, hleft, hw1, hw2, hw3⟩
    try simp only [un_rng, e_var, e_int, e_bl, e_non, e_str, e_ty, e_fnv, e_tup, e_lst, e_bin, e_not, e_neg, neg_i, e_cmp, e_chain, e_and, e_or, e_ife, e_idx, e_slc, e_call, e_bi, e_meth, es_nil, es_cons, g_n, g_t, g_sub, gs_cons, gs_nil, s_asg, s_par, s_aug, s_ex, s_ret, s_ife, s_for, ss_nil, ss_cons, th_nx, th_rt, b_add, b_sub, c_eqi, c_nei, c_eqs, c_nes, c_lt, c_le, c_gt, c_ge, c_isn, c_isnn, i_tup, bi_len_t, bi_min2, bi_max2, R_bind, R_pure, R_lift, R_rd, R_alloc, R_tst, some_ex, L0, LS, OB, id_eq, M0, setAll, S0, SS, AP, Rp0, RpS, A0, A1, A2, A3, AN2, AN3, Nat.reduceBEq, beq_self_eq_true, if_true, if_false, Bool.false_eq_true, reduceCtorEq, decide_eq_true_eq, Bool.not_true, Bool.not_false, true_and, and_true, exists_const, decide_true, decide_false, List.nil_append]
    rw [rngL_len] at hl
    exact h s ps ex (by omega) hgood hw3
/-! ### a log -/
theorem cutL {ds : List Int} {lo hi : Option Int} : ∃ es : List Int, cut (ds.map D.int) lo hi = es.map D.int ∧ (∀ e ∈ es, e ∈ ds) ∧ es.length ≤ ds.length := by
  unfold cut
  dsimp only
  rw [← List.map_drop, ← List.map_take]
  refine ⟨_, rfl, fun e he => List.mem_of_mem_drop (List.mem_of_mem_take he), ?_⟩
  rw [List.length_take, List.length_drop]
  omega
theorem cut_hi {ds : List Int} {i j : Nat} : (cut (ds.map D.int) (some (i : Int)) (some ((i + j : Nat) : Int))).length ≤ j := by
  unfold cut
  have c1 : clip (ds.map D.int).length (i : Int) = min i ds.length := by
    unfold clip
    rw [if_neg (by omega), List.length_map]
    rfl
  have c2 : clip (ds.map D.int).length ((i + j : Nat) : Int) = min (i + j) ds.length := by
    unfold clip
    rw [if_neg (by omega), List.length_map]
    rfl
  dsimp only
  rw [c1, c2, List.length_take, List.length_drop, List.length_map]
  omega
theorem atI_last {α : Type} {xs : List α} {x : α} : atI (xs ++ [x]) (-1) = some x := by
  unfold atI
  rw [if_neg (by decide), if_pos (by rw [List.length_append, List.length_singleton]; omega)]
  have e : ((-1 : Int) + ((xs ++ [x]).length : Int)).toNat = xs.length := by rw [List.length_append, List.length_singleton]; omega
  rw [e, List.getElem?_append_right (Nat.le_refl _), Nat.sub_self]
  rfl
abbrev Up (log : List Int) : Prop := log.Pairwise (· < ·)
theorem up_snoc {log : List Int} {x y : Int} (h : Up (log ++ [x])) (hxy : x < y) : Up (log ++ [x] ++ [y]) := by
  refine List.pairwise_append.mpr ⟨h, List.pairwise_singleton _ _, fun a ha b hb => ?_⟩
  rw [List.mem_singleton.mp hb]
  rcases List.mem_append.mp ha with ha | ha
  · exact Int.lt_trans ((List.pairwise_append.mp h).2.2 a ha x (List.mem_singleton.mpr rfl)) hxy
  · rw [List.mem_singleton.mp ha]; exact hxy
theorem run_log {ds : List Int} {n size : Nat} {Q : D → Sto → Prop} (hs : getL st n = some (ds.map D.int)) (hlen : 3 ≤ ds.length) (hd : ∀ d ∈ ds, 0 ≤ d) (hsz : 1 ≤ size) (hsz2 : size < 1000) (hw : size < w)
    (h : ∀ (s : Sto) (log : List Int), Ext st s → log ≠ [] → Up log → (∀ t ∈ log, 0 ≤ t) → log.length ≤ size → Q (.tup (log.map D.int)) s) : R (callF G w (k + 1) 18 [.ref n, .int (size : Nat)]) st Q := by
  refine R_call (d := d_law_log) rfl rfl ?_
  obtain ⟨v0, e0, _⟩ := atI_int (ns := ds) (i := 0) (Int.le_refl _) (by omega)
  obtain ⟨v1, e1, _⟩ := atI_int (ns := ds) (i := 1) (by decide) (by omega)
  obtain ⟨v2, e2, _⟩ := atI_int (ns := ds) (i := 2) (by decide) (by omega)
  try simp only [d_law_log, List.map, it_ex, e_var, e_int, e_bl, e_non, e_str, e_ty, e_fnv, e_tup, e_lst, e_bin, e_not, e_neg, neg_i, e_cmp, e_chain, e_and, e_or, e_ife, e_idx, e_slc, e_call, e_bi, e_meth, es_nil, es_cons, g_n, g_t, g_sub, gs_cons, gs_nil, s_asg, s_par, s_aug, s_ex, s_ret, s_ife, s_for, ss_nil, ss_cons, th_nx, th_rt, b_add, b_sub, c_eqi, c_nei, c_eqs, c_nes, c_lt, c_le, c_gt, c_ge, c_isn, c_isnn, i_tup, bi_len_t, bi_min2, bi_max2, R_bind, R_pure, R_lift, R_rd, R_alloc, R_tst, some_ex, L0, LS, OB, id_eq, M0, setAll, S0, SS, AP, Rp0, RpS, A0, A1, A2, A3, AN2, AN3, Nat.reduceBEq, beq_self_eq_true, if_true, if_false, Bool.false_eq_true, reduceCtorEq, decide_eq_true_eq, Bool.not_true, Bool.not_false, true_and, and_true, exists_const, decide_true, decide_false, List.nil_append]
  have hs1 : getL (st ++ [.lst [.int 2, .int 4, .int 10, .int 30]]) n = some (ds.map D.int) := ext_getL (Ext.new _ _) hs
  have ex1 : Ext st (st ++ [.lst [.int 2, .int 4, .int 10, .int 30]]) := Ext.new _ _
  have hw4 : getL (st ++ [.lst [.int 2, .int 4, .int 10, .int 30]]) st.length = some [.int 2, .int 4, .int 10, .int 30] := getL_new
  generalize st ++ [DO.lst [.int 2, .int 4, .int 10, .int 30]] = s1 at hs1 ex1 hw4
  refine R_idx_ref hs1 e0 ?_
  try simp only [mod_4, e_var, e_int, e_bl, e_non, e_str, e_ty, e_fnv, e_tup, e_lst, e_bin, e_not, e_neg, neg_i, e_cmp, e_chain, e_and, e_or, e_ife, e_idx, e_slc, e_call, e_bi, e_meth, es_nil, es_cons, g_n, g_t, g_sub, gs_cons, gs_nil, s_asg, s_par, s_aug, s_ex, s_ret, s_ife, s_for, ss_nil, ss_cons, th_nx, th_rt, b_add, b_sub, c_eqi, c_nei, c_eqs, c_nes, c_lt, c_le, c_gt, c_ge, c_isn, c_isnn, i_tup, bi_len_t, bi_min2, bi_max2, R_bind, R_pure, R_lift, R_rd, R_alloc, R_tst, some_ex, L0, LS, OB, id_eq, M0, setAll, S0, SS, AP, Rp0, RpS, A0, A1, A2, A3, AN2, AN3, Nat.reduceBEq, beq_self_eq_true, if_true, if_false, Bool.false_eq_true, reduceCtorEq, decide_eq_true_eq, Bool.not_true, Bool.not_false, true_and, and_true, exists_const, decide_true, decide_false, List.nil_append]
  have wd : ∃ wide : Int, atI [D.int 2, .int 4, .int 10, .int 30] (v0 % 4) = some (.int wide) ∧ 0 < wide := by
    have alt : v0 % 4 = 0 ∨ v0 % 4 = 1 ∨ v0 % 4 = 2 ∨ v0 % 4 = 3 := by omega
    rcases alt with e | e | e | e
    · exact ⟨2, by rw [e]; rfl, by decide⟩
    · exact ⟨4, by rw [e]; rfl, by decide⟩
    · exact ⟨10, by rw [e]; rfl, by decide⟩
    · exact ⟨30, by rw [e]; rfl, by decide⟩
  obtain ⟨wide, ew, hwide⟩ := wd
  refine R_idx_ref hw4 ew ?_
  try simp only [e_var, e_int, e_bl, e_non, e_str, e_ty, e_fnv, e_tup, e_lst, e_bin, e_not, e_neg, neg_i, e_cmp, e_chain, e_and, e_or, e_ife, e_idx, e_slc, e_call, e_bi, e_meth, es_nil, es_cons, g_n, g_t, g_sub, gs_cons, gs_nil, s_asg, s_par, s_aug, s_ex, s_ret, s_ife, s_for, ss_nil, ss_cons, th_nx, th_rt, b_add, b_sub, c_eqi, c_nei, c_eqs, c_nes, c_lt, c_le, c_gt, c_ge, c_isn, c_isnn, i_tup, bi_len_t, bi_min2, bi_max2, R_bind, R_pure, R_lift, R_rd, R_alloc, R_tst, some_ex, L0, LS, OB, id_eq, M0, setAll, S0, SS, AP, Rp0, RpS, A0, A1, A2, A3, AN2, AN3, Nat.reduceBEq, beq_self_eq_true, if_true, if_false, Bool.false_eq_true, reduceCtorEq, decide_eq_true_eq, Bool.not_true, Bool.not_false, true_and, and_true, exists_const, decide_true, decide_false, List.nil_append]
  refine R_idx_ref hs1 e1 ?_
  try simp only [mod_50, E.isNon, optI, e_var, e_int, e_bl, e_non, e_str, e_ty, e_fnv, e_tup, e_lst, e_bin, e_not, e_neg, neg_i, e_cmp, e_chain, e_and, e_or, e_ife, e_idx, e_slc, e_call, e_bi, e_meth, es_nil, es_cons, g_n, g_t, g_sub, gs_cons, gs_nil, s_asg, s_par, s_aug, s_ex, s_ret, s_ife, s_for, ss_nil, ss_cons, th_nx, th_rt, b_add, b_sub, c_eqi, c_nei, c_eqs, c_nes, c_lt, c_le, c_gt, c_ge, c_isn, c_isnn, i_tup, bi_len_t, bi_min2, bi_max2, R_bind, R_pure, R_lift, R_rd, R_alloc, R_tst, some_ex, L0, LS, OB, id_eq, M0, setAll, S0, SS, AP, Rp0, RpS, A0, A1, A2, A3, AN2, AN3, Nat.reduceBEq, beq_self_eq_true, if_true, if_false, Bool.false_eq_true, reduceCtorEq, decide_eq_true_eq, Bool.not_true, Bool.not_false, true_and, and_true, exists_const, decide_true, decide_false, List.nil_append]
  refine R_idx_ref hs1 e2 ?_
  have hp : 0 < (size : Int) := by omega
  try simp only [b_mod hp, e_var, e_int, e_bl, e_non, e_str, e_ty, e_fnv, e_tup, e_lst, e_bin, e_not, e_neg, neg_i, e_cmp, e_chain, e_and, e_or, e_ife, e_idx, e_slc, e_call, e_bi, e_meth, es_nil, es_cons, g_n, g_t, g_sub, gs_cons, gs_nil, s_asg, s_par, s_aug, s_ex, s_ret, s_ife, s_for, ss_nil, ss_cons, th_nx, th_rt, b_add, b_sub, c_eqi, c_nei, c_eqs, c_nes, c_lt, c_le, c_gt, c_ge, c_isn, c_isnn, i_tup, bi_len_t, bi_min2, bi_max2, R_bind, R_pure, R_lift, R_rd, R_alloc, R_tst, some_ex, L0, LS, OB, id_eq, M0, setAll, S0, SS, AP, Rp0, RpS, A0, A1, A2, A3, AN2, AN3, Nat.reduceBEq, beq_self_eq_true, if_true, if_false, Bool.false_eq_true, reduceCtorEq, decide_eq_true_eq, Bool.not_true, Bool.not_false, true_and, and_true, exists_const, decide_true, decide_false, List.nil_append]
  have q0 := Int.emod_nonneg v2 (b := (size : Int)) (by omega)
  have q1 := Int.emod_lt_of_pos v2 hp
  obtain ⟨m, hm⟩ := Int.eq_ofNat_of_zero_le q0
  rw [hm] at q1 ⊢
  have i1 : (3 : Int) + (m : Int) = ((3 + m : Nat) : Int) := by omega
  have i0 : (3 : Int) = ((3 : Nat) : Int) := rfl
  have hm2 : m < size := by
    have : (m : Int) < (size : Int) := q1
    omega
  refine R_slice_ref hs1 ?_
  have cl : (cut (ds.map D.int) (some 3) (some (3 + (m : Int)))).length ≤ m := by
    rw [i1, i0]
    exact cut_hi
  obtain ⟨es, he, hmem, _⟩ := cutL (ds := ds) (lo := some 3) (hi := some (3 + (m : Int)))
  have cl2 : es.length ≤ m := by
    have : (es.map D.int).length ≤ m := by rw [← he]; exact cl
    rw [List.length_map] at this
    exact this
  have hsl : getL (s1 ++ [.lst (cut (ds.map D.int) (some 3) (some (3 + (m : Int))))]) s1.length = some (es.map D.int) := by rw [he]; exact getL_new
  have ex2 : Ext st (s1 ++ [.lst (cut (ds.map D.int) (some 3) (some (3 + (m : Int))))]) := ex1.push _
  show R (iterOf (.ref s1.length)) (s1 ++ [DO.lst (cut (ds.map D.int) (some 3) (some (3 + (m : Int))))]) _
  generalize s1 ++ [DO.lst (cut (ds.map D.int) (some 3) (some (3 + (m : Int))))] = s2 at hsl ex2 ⊢
  refine R_it_ref hsl ?_
  refine R_for (xs := es.map D.int) (fun j σ s => ∃ (y : Option D) (pre : List Int) (t : Int), σ = [some (.ref n), some (.int (size : Nat)), some (.int wide), some (.tup ((pre ++ [t]).map D.int)), y] ∧ Ext st s ∧ Ext s2 s ∧ pre.length ≤ j ∧ Up (pre ++ [t]) ∧ ∀ u ∈ pre ++ [t], 0 ≤ u)
    (by rw [List.length_map]; omega) ⟨none, [], v1 % 50, rfl, ex2, Ext.refl _, Nat.zero_le _, List.pairwise_singleton _ _, fun u hu => by rw [List.mem_singleton.mp hu]; exact Int.emod_nonneg _ (by decide)⟩ (fun j σ s hj ⟨_, _, _, _, _, e, _⟩ => get_lst (ext_getL e hsl) hj) ?_ ?_
  · rintro j x σ s hx ⟨y, pre, t, rfl, ex, exs, hl, hup, hpos⟩
    rw [List.getElem?_map, Option.map_eq_some_iff] at hx
    obtain ⟨d, hd', rfl⟩ := hx
    have la : atI ((pre ++ [t]).map D.int) (-1) = some (.int t) := by rw [List.map_append]; exact atI_last
    have hj : j < es.length := (List.getElem?_eq_some_iff.mp hd').1
    have bc : ∀ v : Int, bop .add (.tup ((pre ++ [t]).map D.int)) (.tup [.int v]) = pure (.tup ((pre ++ [t]).map D.int ++ [.int v])) := fun v => b_cat (by
      rw [List.length_map, List.length_append]
      have : (2000 : Nat) ≤ LIM := by decide
      show pre.length + 1 + 1 ≤ LIM
      omega)
    try simp only [la, b_mod hwide, bc, e_var, e_int, e_bl, e_non, e_str, e_ty, e_fnv, e_tup, e_lst, e_bin, e_not, e_neg, neg_i, e_cmp, e_chain, e_and, e_or, e_ife, e_idx, e_slc, e_call, e_bi, e_meth, es_nil, es_cons, g_n, g_t, g_sub, gs_cons, gs_nil, s_asg, s_par, s_aug, s_ex, s_ret, s_ife, s_for, ss_nil, ss_cons, th_nx, th_rt, b_add, b_sub, c_eqi, c_nei, c_eqs, c_nes, c_lt, c_le, c_gt, c_ge, c_isn, c_isnn, i_tup, bi_len_t, bi_min2, bi_max2, R_bind, R_pure, R_lift, R_rd, R_alloc, R_tst, some_ex, L0, LS, OB, id_eq, M0, setAll, S0, SS, AP, Rp0, RpS, A0, A1, A2, A3, AN2, AN3, Nat.reduceBEq, beq_self_eq_true, if_true, if_false, Bool.false_eq_true, reduceCtorEq, decide_eq_true_eq, Bool.not_true, Bool.not_false, true_and, and_true, exists_const, decide_true, decide_false, List.nil_append]
    have dn := Int.emod_nonneg d (b := wide) (by omega)
    refine ⟨some (.int d), pre ++ [t], t + 1 + d % wide, ?_, ex, exs, ?_, up_snoc hup (by omega), fun u hu => ?_⟩
    · rw [List.map_append (l₁ := pre ++ [t])]
      rfl
    · rw [List.length_append]
      show pre.length + 1 ≤ j + 1
      omega
    · rcases List.mem_append.mp hu with hu | hu
      · exact hpos u hu
      · rw [List.mem_singleton.mp hu]
        have := hpos t (List.mem_append_right _ (List.mem_singleton.mpr rfl))
        omega
  · rintro σ s ⟨y, pre, t, rfl, ex, exs, hl, hup, hpos⟩
    try simp only [un_lst, e_var, e_int, e_bl, e_non, e_str, e_ty, e_fnv, e_tup, e_lst, e_bin, e_not, e_neg, neg_i, e_cmp, e_chain, e_and, e_or, e_ife, e_idx, e_slc, e_call, e_bi, e_meth, es_nil, es_cons, g_n, g_t, g_sub, gs_cons, gs_nil, s_asg, s_par, s_aug, s_ex, s_ret, s_ife, s_for, ss_nil, ss_cons, th_nx, th_rt, b_add, b_sub, c_eqi, c_nei, c_eqs, c_nes, c_lt, c_le, c_gt, c_ge, c_isn, c_isnn, i_tup, bi_len_t, bi_min2, bi_max2, R_bind, R_pure, R_lift, R_rd, R_alloc, R_tst, some_ex, L0, LS, OB, id_eq, M0, setAll, S0, SS, AP, Rp0, RpS, A0, A1, A2, A3, AN2, AN3, Nat.reduceBEq, beq_self_eq_true, if_true, if_false, Bool.false_eq_true, reduceCtorEq, decide_eq_true_eq, Bool.not_true, Bool.not_false, true_and, and_true, exists_const, decide_true, decide_false, List.nil_append]
    rw [List.length_map] at hl
    exact h s (pre ++ [t]) ex (by simp) hup hpos (by rw [List.length_append]; show pre.length + 1 ≤ size; omega)
end
end TL

/-! The filters by their definition: what the laws themselves compute. -/
namespace TL
/-- the event at place i, time t, passes the filter: acc kept before, evs all events -/
def goodF (f : Fi) (evs acc : List Int) (i : Nat) (t : Int) : Bool := match f with
  | .sp n => match acc.getLast? with
    | none => true
    | some u => decide (n ≤ t - u)
  | .fr n => match i with
    | 0 => true
    | j + 1 => decide (n < t - evs.getD j 0)
  | .ev n r => ((i : Int) % n == r)
  | .li c x => decide (((acc.filter fun o => decide (t - x < o)).length : Int) < c)
def keptG (f : Fi) (evs : List Int) : Nat → List Int
  | 0 => []
  | i + 1 => match evs[i]? with
    | some t => if goodF f evs (keptG f evs i) i t = true then keptG f evs i ++ [t] else keptG f evs i
    | none => keptG f evs i
def keptF (f : Fi) (evs : List Int) : List Int := keptG f evs evs.length
theorem keptG_len {f : Fi} {evs : List Int} : ∀ i, (keptG f evs i).length ≤ i
  | 0 => Nat.le_refl _
  | i + 1 => by
    have ih := keptG_len (f := f) (evs := evs) i
    show (match evs[i]? with
      | some t => if goodF f evs (keptG f evs i) i t = true then keptG f evs i ++ [t] else keptG f evs i
      | none => keptG f evs i).length ≤ i + 1
    split
    · split
      · rw [List.length_append]
        show _ + 1 ≤ _
        omega
      · omega
    · omega
theorem okd_ints : ∀ ns : List Int, (ns.map D.int).all (okd 20) = true
  | [] => rfl
  | n :: ns => okd_ints ns
theorem eqvs_ints : ∀ ns ms : List Int, eqvs (ns.map D.int) (ms.map D.int) = decide (ns = ms)
  | [], [] => rfl
  | [], _ :: _ => rfl
  | _ :: _, [] => rfl
  | n :: ns, m :: ms => by
    show (n == m && eqvs (ns.map D.int) (ms.map D.int)) = _
    rw [eqvs_ints ns ms]
    by_cases h : n = m
    · subst h
      rw [beq_self_eq_true, Bool.true_and]
      by_cases h2 : ns = ms
      · subst h2; rw [decide_eq_true rfl, decide_eq_true rfl]
      · rw [decide_eq_false h2, decide_eq_false fun e => h2 (List.cons.inj e).2]
    · rw [beq_eq_false_iff_ne.mpr h, Bool.false_and, decide_eq_false fun e => h (List.cons.inj e).1]
section
variable {w k : Nat} {st : Sto}
theorem c_eql {m n : Nat} {ns ms : List Int} (h1 : getL st m = some (ns.map D.int)) (h2 : getL st n = some (ms.map D.int)) : cop st .eq (.ref m) (.ref n) = some (.bl (decide (ns = ms))) := by
  show (pyEq st (.ref m) (.ref n)).map D.bl = _
  have e : pyEq st (.ref m) (.ref n) = some (eqvs (ns.map D.int) (ms.map D.int)) := by
    show (match getL st m, getL st n with
      | some xs, some ys => if (xs.all (okd 20) && ys.all (okd 20)) = true then some (eqvs xs ys) else none
      | none, none => match TL.getDX st m, TL.getDX st n with
        | some kvs, some [] => some kvs.isEmpty
        | some [], some kvs => some kvs.isEmpty
        | _, _ => none
      | _, _ => none) = _
    rw [h1, h2]
    dsimp only
    rw [okd_ints, okd_ints]
    rfl
  rw [e, eqvs_ints]
  rfl
theorem c_nel {m n : Nat} {ns ms : List Int} (h1 : getL st m = some (ns.map D.int)) (h2 : getL st n = some (ms.map D.int)) : cop st .ne (.ref m) (.ref n) = some (.bl !(decide (ns = ms))) := by
  have e := c_eql h1 h2
  have e' : (pyEq st (.ref m) (.ref n)).map D.bl = some (.bl (decide (ns = ms))) := e
  show (pyEq st (.ref m) (.ref n)).map (fun b => D.bl !b) = _
  cases hp : pyEq st (.ref m) (.ref n) with
  | none => rw [hp] at e'; cases e'
  | some b =>
    rw [hp] at e'
    cases e'
    rfl
theorem c_eqt {ns ms : List Int} : cop st .eq (.tup (ns.map D.int)) (.tup (ms.map D.int)) = some (.bl (decide (ns = ms))) := by
  show (pyEq st (.tup (ns.map D.int)) (.tup (ms.map D.int))).map D.bl = _
  have e : pyEq st (.tup (ns.map D.int)) (.tup (ms.map D.int)) = some (eqvs (ns.map D.int) (ms.map D.int)) := by
    have o : ∀ ns : List Int, okd 20 (.tup (ns.map D.int)) = true := fun ns => by
      show (ns.map D.int).all (okd 19) = true
      rw [List.all_eq_true]
      intro x hx
      obtain ⟨n, _, rfl⟩ := List.mem_map.mp hx
      rfl
    show (if (okd 20 (.tup (ns.map D.int)) && okd 20 (.tup (ms.map D.int))) = true then some (eqv (.tup (ns.map D.int)) (.tup (ms.map D.int))) else eqTup _ _) = _
    rw [o ns, o ms]
    rfl
  rw [e, eqvs_ints]
  rfl
theorem c_net {ns ms : List Int} : cop st .ne (.tup (ns.map D.int)) (.tup (ms.map D.int)) = some (.bl !(decide (ns = ms))) := by
  have e := c_eqt (st := st) (ns := ns) (ms := ms)
  have e' : (pyEq st (.tup (ns.map D.int)) (.tup (ms.map D.int))).map D.bl = some (.bl (decide (ns = ms))) := e
  show (pyEq st (.tup (ns.map D.int)) (.tup (ms.map D.int))).map (fun b => D.bl !b) = _
  cases hp : pyEq st (.tup (ns.map D.int)) (.tup (ms.map D.int)) with
  | none => rw [hp] at e'; cases e'
  | some b =>
    rw [hp] at e'
    cases e'
    rfl
theorem last_ne {ns : List Int} {u : Int} (h : ns.getLast? = some u) : atI (ns.map D.int) (-1) = some (.int u) := by
  obtain ⟨ys, rfl⟩ := List.getLast?_eq_some_iff.mp h
  rw [List.map_append]
  exact atI_last
/-- numbers filtered by a comprehension -/
def filtD (q : Int → Bool) : D → Option D
  | .int a => if q a = true then some (.int a) else none
  | _ => none
theorem filt_fm {q : Int → Bool} : ∀ as : List Int, (as.map D.int).filterMap (filtD q) = (as.filter q).map D.int
  | [] => rfl
  | a :: as => by
    have ih := filt_fm (q := q) as
    rw [List.map_cons, List.filterMap_cons, List.filter_cons]
    cases h : q a with
    | true =>
      have e : filtD q (.int a) = some (.int a) := if_pos h
      rw [e, if_pos rfl, List.map_cons, ih]
    | false =>
      have e : filtD q (.int a) = none := if_neg (by rw [h]; exact Bool.false_ne_true)
      rw [e, if_neg Bool.false_ne_true, ih]
theorem run_kept {f : Fi} {evs : List Int} {n : Nat} {Q : D → Sto → Prop} (hg : f.good) (hs : getL st n = some (evs.map D.int)) (hw : evs.length < w) (hl : evs.length ≤ LIM)
    (h : ∀ s, Ext st s → getL s st.length = some ((keptF f evs).map D.int) → Q (.ref st.length) s) : R (callF G w (k + 1) 33 [f.d, .ref n]) st Q := by
  refine R_call (d := d_law_kept) rfl rfl ?_
  try simp only [d_law_kept, List.map, it_enum, e_var, e_int, e_bl, e_non, e_str, e_ty, e_fnv, e_tup, e_lst, e_bin, e_not, e_neg, neg_i, e_cmp, e_chain, e_and, e_or, e_ife, e_idx, e_slc, e_call, e_bi, e_meth, es_nil, es_cons, g_n, g_t, g_sub, gs_cons, gs_nil, s_asg, s_par, s_aug, s_ex, s_ret, s_ife, s_for, ss_nil, ss_cons, th_nx, th_rt, b_add, b_sub, c_eqi, c_nei, c_eqs, c_nes, c_lt, c_le, c_gt, c_ge, c_isn, c_isnn, i_tup, bi_len_t, bi_min2, bi_max2, R_bind, R_pure, R_lift, R_rd, R_alloc, R_tst, some_ex, L0, LS, OB, id_eq, M0, setAll, S0, SS, AP, Rp0, RpS, A0, A1, A2, A3, AN2, AN3, Nat.reduceBEq, beq_self_eq_true, if_true, if_false, Bool.false_eq_true, reduceCtorEq, decide_eq_true_eq, Bool.not_true, Bool.not_false, true_and, and_true, exists_const, decide_true, decide_false, List.nil_append]
  refine R_sq_ref (ext_getL (Ext.new _ _) hs) ?_
  refine R_for (xs := enumL (evs.map D.int)) (fun i σ s => ∃ x y z, σ = [some f.d, some (.ref n), some (.ref st.length), x, y, z, none] ∧ Ext st s ∧ s[st.length]? = some (.lst ((keptG f evs i).map D.int))) (by rw [enumL_len, List.length_map]; exact hw) ⟨none, none, none, rfl, Ext.new st _, ?_⟩ ?_ ?_ ?_
  · rw [List.getElem?_append_right (Nat.le_refl _), Nat.sub_self]
    rfl
  · rintro i σ s hi ⟨_, _, _, _, ex, _⟩
    rw [enumL_len] at hi
    exact get_enum (get_lst (ext_getL ex hs) hi)
  · rintro i d σ s hd ⟨x, y, z, rfl, ex, hk⟩
    rw [enumL_get, List.getElem?_map] at hd
    cases ht : evs[i]? with
    | none => rw [ht] at hd; cases hd
    | some t =>
      rw [ht] at hd
      cases hd
      have hi : i < evs.length := (List.getElem?_eq_some_iff.mp ht).1
      have stepG : keptG f evs (i + 1) = if goodF f evs (keptG f evs i) i t = true then keptG f evs i ++ [t] else keptG f evs i := by
        show (match evs[i]? with
          | some t => if goodF f evs (keptG f evs i) i t = true then keptG f evs i ++ [t] else keptG f evs i
          | none => keptG f evs i) = _
        rw [ht]
      have bl : ((keptG f evs i).map D.int).length < LIM := by
        have := keptG_len (f := f) (evs := evs) i
        rw [List.length_map]
        omega
      have hev := ext_getL ex hs
      -- behind the choice
      have fin : ∀ (b : Bool) (s' : Sto), Ext s s' → b = goodF f evs (keptG f evs i) i t → R (evSs w (callF G w k) [.ife (.var 5) [.ex (.meth .append (.var 2) [.var 4])] []] [some f.d, some (.ref n), some (.ref st.length), some (.int (i : Nat)), some (.int t), some (.bl b), none]) s' fun fl s2 => match fl with
          | .nx σ' => ∃ x y z, σ' = [some f.d, some (.ref n), some (.ref st.length), x, y, z, none] ∧ Ext st s2 ∧ s2[st.length]? = some (.lst ((keptG f evs (i + 1)).map D.int))
          | .rt v => False := fun b s' ex' hb => by
        have hk' := ext_get ex' hk
        cases b with
        | true =>
          try simp only [mchk_append (getL_of hk'), e_var, e_int, e_bl, e_non, e_str, e_ty, e_fnv, e_tup, e_lst, e_bin, e_not, e_neg, neg_i, e_cmp, e_chain, e_and, e_or, e_ife, e_idx, e_slc, e_call, e_bi, e_meth, es_nil, es_cons, g_n, g_t, g_sub, gs_cons, gs_nil, s_asg, s_par, s_aug, s_ex, s_ret, s_ife, s_for, ss_nil, ss_cons, th_nx, th_rt, b_add, b_sub, c_eqi, c_nei, c_eqs, c_nes, c_lt, c_le, c_gt, c_ge, c_isn, c_isnn, i_tup, bi_len_t, bi_min2, bi_max2, R_bind, R_pure, R_lift, R_rd, R_alloc, R_tst, some_ex, L0, LS, OB, id_eq, M0, setAll, S0, SS, AP, Rp0, RpS, A0, A1, A2, A3, AN2, AN3, Nat.reduceBEq, beq_self_eq_true, if_true, if_false, Bool.false_eq_true, reduceCtorEq, decide_eq_true_eq, Bool.not_true, Bool.not_false, true_and, and_true, exists_const, decide_true, decide_false, List.nil_append]
          refine R_mappend hk' bl ?_
          refine ⟨_, _, _, rfl, (ex.trans ex').set (Nat.le_refl _) _, ?_⟩
          rw [List.getElem?_set_self (List.getElem?_eq_some_iff.mp hk').1, stepG, if_pos hb.symm, List.map_append]
          rfl
        | false =>
          try simp only [e_var, e_int, e_bl, e_non, e_str, e_ty, e_fnv, e_tup, e_lst, e_bin, e_not, e_neg, neg_i, e_cmp, e_chain, e_and, e_or, e_ife, e_idx, e_slc, e_call, e_bi, e_meth, es_nil, es_cons, g_n, g_t, g_sub, gs_cons, gs_nil, s_asg, s_par, s_aug, s_ex, s_ret, s_ife, s_for, ss_nil, ss_cons, th_nx, th_rt, b_add, b_sub, c_eqi, c_nei, c_eqs, c_nes, c_lt, c_le, c_gt, c_ge, c_isn, c_isnn, i_tup, bi_len_t, bi_min2, bi_max2, R_bind, R_pure, R_lift, R_rd, R_alloc, R_tst, some_ex, L0, LS, OB, id_eq, M0, setAll, S0, SS, AP, Rp0, RpS, A0, A1, A2, A3, AN2, AN3, Nat.reduceBEq, beq_self_eq_true, if_true, if_false, Bool.false_eq_true, reduceCtorEq, decide_eq_true_eq, Bool.not_true, Bool.not_false, true_and, and_true, exists_const, decide_true, decide_false, List.nil_append]
          refine ⟨_, _, _, rfl, ex.trans ex', ?_⟩
          rw [hk', stepG, if_neg (by rw [← hb]; exact Bool.false_ne_true)]
      have go : ∀ (b : Bool) (s' : Sto) {P : Fl → Sto → Prop}, Ext s s' → b = goodF f evs (keptG f evs i) i t → (∀ σ' s2, (∃ x y z, σ' = [some f.d, some (.ref n), some (.ref st.length), x, y, z, none] ∧ Ext st s2 ∧ s2[st.length]? = some (.lst ((keptG f evs (i + 1)).map D.int))) → P (.nx σ') s2) →
          R (thenSs w (callF G w k) [.ife (.var 5) [.ex (.meth .append (.var 2) [.var 4])] []] (.nx [some f.d, some (.ref n), some (.ref st.length), some (.int (i : Nat)), some (.int t), some (.bl b), none])) s' P := fun b s' P ex' hb hP => (fin b s' ex' hb).mono fun fl s2 q => by
        cases fl with
        | nx σ' => exact hP σ' s2 q
        | rt v => exact q.elim
      have done : ∀ σ' s2, (∃ x y z, σ' = [some f.d, some (.ref n), some (.ref st.length), x, y, z, none] ∧ Ext st s2 ∧ s2[st.length]? = some (.lst ((keptG f evs (i + 1)).map D.int))) → ∃ x y z, σ' = [some f.d, some (.ref n), some (.ref st.length), x, y, z, none] ∧ Ext st s2 ∧ s2[st.length]? = some (.lst ((keptG f evs (i + 1)).map D.int)) := fun _ _ q => q
      cases f with
      | sp m =>
        try simp only [Fi.d, g_t, gs_cons, gs_nil, LN, LC1, TN, TC1, e_var, e_int, e_bl, e_non, e_str, e_ty, e_fnv, e_tup, e_lst, e_bin, e_not, e_neg, neg_i, e_cmp, e_chain, e_and, e_or, e_ife, e_idx, e_slc, e_call, e_bi, e_meth, es_nil, es_cons, g_n, g_t, g_sub, gs_cons, gs_nil, s_asg, s_par, s_aug, s_ex, s_ret, s_ife, s_for, ss_nil, ss_cons, th_nil, th_rt, b_add, b_sub, c_eqi, c_nei, c_eqs, c_nes, c_lt, c_le, c_gt, c_ge, c_isn, c_isnn, i_tup, bi_len_t, bi_min2, bi_max2, R_bind, R_pure, R_lift, R_rd, R_alloc, R_tst, some_ex, L0, LS, OB, id_eq, M0, setAll, S0, SS, AP, Rp0, RpS, A0, A1, A2, A3, AN2, AN3, Nat.reduceBEq, beq_self_eq_true, if_true, if_false, Bool.false_eq_true, reduceCtorEq, decide_eq_true_eq, Bool.not_true, Bool.not_false, true_and, and_true, exists_const, decide_true, decide_false, List.nil_append]
        have k1 : getL (s ++ [.lst []]) st.length = some ((keptG (.sp m) evs i).map D.int) := ext_getL (Ext.new _ _) (getL_of hk)
        have k2 : getL (s ++ [.lst []]) s.length = some (([] : List Int).map D.int) := getL_new
        refine ⟨_, c_eql k1 k2, ?_⟩
        have ge : goodF (.sp m) evs (keptG (.sp m) evs i) i t = (match (keptG (.sp m) evs i).getLast? with | none => true | some u => decide (m ≤ t - u)) := rfl
        cases hl2 : (keptG (.sp m) evs i).getLast? with
        | none =>
          rw [hl2] at ge
          have e := List.getLast?_eq_none_iff.mp hl2
          try simp only [e, e_var, e_int, e_bl, e_non, e_str, e_ty, e_fnv, e_tup, e_lst, e_bin, e_not, e_neg, neg_i, e_cmp, e_chain, e_and, e_or, e_ife, e_idx, e_slc, e_call, e_bi, e_meth, es_nil, es_cons, g_n, g_t, g_sub, gs_cons, gs_nil, s_asg, s_par, s_aug, s_ex, s_ret, s_ife, s_for, ss_nil, ss_cons, th_nil, th_rt, b_add, b_sub, c_eqi, c_nei, c_eqs, c_nes, c_lt, c_le, c_gt, c_ge, c_isn, c_isnn, i_tup, bi_len_t, bi_min2, bi_max2, R_bind, R_pure, R_lift, R_rd, R_alloc, R_tst, some_ex, L0, LS, OB, id_eq, M0, setAll, S0, SS, AP, Rp0, RpS, A0, A1, A2, A3, AN2, AN3, Nat.reduceBEq, beq_self_eq_true, if_true, if_false, Bool.false_eq_true, reduceCtorEq, decide_eq_true_eq, Bool.not_true, Bool.not_false, true_and, and_true, exists_const, decide_true, decide_false, List.nil_append]
          exact go true _ (Ext.new _ _) ge.symm done
        | some u =>
          rw [hl2] at ge
          have e : ¬ keptG (.sp m) evs i = [] := fun z => by rw [z] at hl2; cases hl2
          try simp only [e, e_var, e_int, e_bl, e_non, e_str, e_ty, e_fnv, e_tup, e_lst, e_bin, e_not, e_neg, neg_i, e_cmp, e_chain, e_and, e_or, e_ife, e_idx, e_slc, e_call, e_bi, e_meth, es_nil, es_cons, g_n, g_t, g_sub, gs_cons, gs_nil, s_asg, s_par, s_aug, s_ex, s_ret, s_ife, s_for, ss_nil, ss_cons, th_nil, th_rt, b_add, b_sub, c_eqi, c_nei, c_eqs, c_nes, c_lt, c_le, c_gt, c_ge, c_isn, c_isnn, i_tup, bi_len_t, bi_min2, bi_max2, R_bind, R_pure, R_lift, R_rd, R_alloc, R_tst, some_ex, L0, LS, OB, id_eq, M0, setAll, S0, SS, AP, Rp0, RpS, A0, A1, A2, A3, AN2, AN3, Nat.reduceBEq, beq_self_eq_true, if_true, if_false, Bool.false_eq_true, reduceCtorEq, decide_eq_true_eq, Bool.not_true, Bool.not_false, true_and, and_true, exists_const, decide_true, decide_false, List.nil_append]
          refine R_idx_ref k1 (last_ne hl2) ?_
          try simp only [e_var, e_int, e_bl, e_non, e_str, e_ty, e_fnv, e_tup, e_lst, e_bin, e_not, e_neg, neg_i, e_cmp, e_chain, e_and, e_or, e_ife, e_idx, e_slc, e_call, e_bi, e_meth, es_nil, es_cons, g_n, g_t, g_sub, gs_cons, gs_nil, s_asg, s_par, s_aug, s_ex, s_ret, s_ife, s_for, ss_nil, ss_cons, th_nil, th_rt, b_add, b_sub, c_eqi, c_nei, c_eqs, c_nes, c_lt, c_le, c_gt, c_ge, c_isn, c_isnn, i_tup, bi_len_t, bi_min2, bi_max2, R_bind, R_pure, R_lift, R_rd, R_alloc, R_tst, some_ex, L0, LS, OB, id_eq, M0, setAll, S0, SS, AP, Rp0, RpS, A0, A1, A2, A3, AN2, AN3, Nat.reduceBEq, beq_self_eq_true, if_true, if_false, Bool.false_eq_true, reduceCtorEq, decide_eq_true_eq, Bool.not_true, Bool.not_false, true_and, and_true, exists_const, decide_true, decide_false, List.nil_append]
          exact go _ _ (Ext.new _ _) ge.symm done
      | fr m =>
        try simp only [Fi.d, g_t, gs_cons, gs_nil, LN, LC1, TN, TC1, e_var, e_int, e_bl, e_non, e_str, e_ty, e_fnv, e_tup, e_lst, e_bin, e_not, e_neg, neg_i, e_cmp, e_chain, e_and, e_or, e_ife, e_idx, e_slc, e_call, e_bi, e_meth, es_nil, es_cons, g_n, g_t, g_sub, gs_cons, gs_nil, s_asg, s_par, s_aug, s_ex, s_ret, s_ife, s_for, ss_nil, ss_cons, th_nil, th_rt, b_add, b_sub, c_eqi, c_nei, c_eqs, c_nes, c_lt, c_le, c_gt, c_ge, c_isn, c_isnn, i_tup, bi_len_t, bi_min2, bi_max2, R_bind, R_pure, R_lift, R_rd, R_alloc, R_tst, some_ex, L0, LS, OB, id_eq, M0, setAll, S0, SS, AP, Rp0, RpS, A0, A1, A2, A3, AN2, AN3, Nat.reduceBEq, beq_self_eq_true, if_true, if_false, Bool.false_eq_true, reduceCtorEq, decide_eq_true_eq, Bool.not_true, Bool.not_false, true_and, and_true, exists_const, decide_true, decide_false, List.nil_append]
        cases i with
        | zero =>
          have e : (((0 : Nat) : Int) == 0) = true := rfl
          try simp only [e, e_var, e_int, e_bl, e_non, e_str, e_ty, e_fnv, e_tup, e_lst, e_bin, e_not, e_neg, neg_i, e_cmp, e_chain, e_and, e_or, e_ife, e_idx, e_slc, e_call, e_bi, e_meth, es_nil, es_cons, g_n, g_t, g_sub, gs_cons, gs_nil, s_asg, s_par, s_aug, s_ex, s_ret, s_ife, s_for, ss_nil, ss_cons, th_nil, th_rt, b_add, b_sub, c_eqi, c_nei, c_eqs, c_nes, c_lt, c_le, c_gt, c_ge, c_isn, c_isnn, i_tup, bi_len_t, bi_min2, bi_max2, R_bind, R_pure, R_lift, R_rd, R_alloc, R_tst, some_ex, L0, LS, OB, id_eq, M0, setAll, S0, SS, AP, Rp0, RpS, A0, A1, A2, A3, AN2, AN3, Nat.reduceBEq, beq_self_eq_true, if_true, if_false, Bool.false_eq_true, reduceCtorEq, decide_eq_true_eq, Bool.not_true, Bool.not_false, true_and, and_true, exists_const, decide_true, decide_false, List.nil_append]
          exact go true _ (Ext.refl _) rfl done
        | succ j =>
          have e : (((j + 1 : Nat) : Int) == 0) = false := by rw [beq_eq_false_iff_ne]; omega
          have e1 : ((j + 1 : Nat) : Int) - 1 = (j : Int) := by omega
          have hj : evs[j]? = some (evs.getD j 0) := by
            rw [List.getD_eq_getElem?_getD, List.getElem?_eq_getElem (by omega)]
            rfl
          try simp only [e, e1, e_var, e_int, e_bl, e_non, e_str, e_ty, e_fnv, e_tup, e_lst, e_bin, e_not, e_neg, neg_i, e_cmp, e_chain, e_and, e_or, e_ife, e_idx, e_slc, e_call, e_bi, e_meth, es_nil, es_cons, g_n, g_t, g_sub, gs_cons, gs_nil, s_asg, s_par, s_aug, s_ex, s_ret, s_ife, s_for, ss_nil, ss_cons, th_nil, th_rt, b_add, b_sub, c_eqi, c_nei, c_eqs, c_nes, c_lt, c_le, c_gt, c_ge, c_isn, c_isnn, i_tup, bi_len_t, bi_min2, bi_max2, R_bind, R_pure, R_lift, R_rd, R_alloc, R_tst, some_ex, L0, LS, OB, id_eq, M0, setAll, S0, SS, AP, Rp0, RpS, A0, A1, A2, A3, AN2, AN3, Nat.reduceBEq, beq_self_eq_true, if_true, if_false, Bool.false_eq_true, reduceCtorEq, decide_eq_true_eq, Bool.not_true, Bool.not_false, true_and, and_true, exists_const, decide_true, decide_false, List.nil_append]
          refine R_idx_ref hev (atI_nat (x := .int (evs.getD j 0)) (by rw [List.getElem?_map, hj]; rfl)) ?_
          try simp only [e_var, e_int, e_bl, e_non, e_str, e_ty, e_fnv, e_tup, e_lst, e_bin, e_not, e_neg, neg_i, e_cmp, e_chain, e_and, e_or, e_ife, e_idx, e_slc, e_call, e_bi, e_meth, es_nil, es_cons, g_n, g_t, g_sub, gs_cons, gs_nil, s_asg, s_par, s_aug, s_ex, s_ret, s_ife, s_for, ss_nil, ss_cons, th_nil, th_rt, b_add, b_sub, c_eqi, c_nei, c_eqs, c_nes, c_lt, c_le, c_gt, c_ge, c_isn, c_isnn, i_tup, bi_len_t, bi_min2, bi_max2, R_bind, R_pure, R_lift, R_rd, R_alloc, R_tst, some_ex, L0, LS, OB, id_eq, M0, setAll, S0, SS, AP, Rp0, RpS, A0, A1, A2, A3, AN2, AN3, Nat.reduceBEq, beq_self_eq_true, if_true, if_false, Bool.false_eq_true, reduceCtorEq, decide_eq_true_eq, Bool.not_true, Bool.not_false, true_and, and_true, exists_const, decide_true, decide_false, List.nil_append]
          exact go _ _ (Ext.refl _) rfl done
      | ev m r =>
        have hm : 0 < m := by obtain ⟨h1, _⟩ := hg; omega
        try simp only [Fi.d, g_t, gs_cons, gs_nil, LN, LC1, TN, TC1, b_mod hm, e_var, e_int, e_bl, e_non, e_str, e_ty, e_fnv, e_tup, e_lst, e_bin, e_not, e_neg, neg_i, e_cmp, e_chain, e_and, e_or, e_ife, e_idx, e_slc, e_call, e_bi, e_meth, es_nil, es_cons, g_n, g_t, g_sub, gs_cons, gs_nil, s_asg, s_par, s_aug, s_ex, s_ret, s_ife, s_for, ss_nil, ss_cons, th_nil, th_rt, b_add, b_sub, c_eqi, c_nei, c_eqs, c_nes, c_lt, c_le, c_gt, c_ge, c_isn, c_isnn, i_tup, bi_len_t, bi_min2, bi_max2, R_bind, R_pure, R_lift, R_rd, R_alloc, R_tst, some_ex, L0, LS, OB, id_eq, M0, setAll, S0, SS, AP, Rp0, RpS, A0, A1, A2, A3, AN2, AN3, Nat.reduceBEq, beq_self_eq_true, if_true, if_false, Bool.false_eq_true, reduceCtorEq, decide_eq_true_eq, Bool.not_true, Bool.not_false, true_and, and_true, exists_const, decide_true, decide_false, List.nil_append]
        exact go _ _ (Ext.refl _) rfl done
      | li c x =>
        try simp only [Fi.d, g_t, gs_cons, gs_nil, LN, LC1, TN, TC1, e_var, e_int, e_bl, e_non, e_str, e_ty, e_fnv, e_tup, e_lst, e_bin, e_not, e_neg, neg_i, e_cmp, e_chain, e_and, e_or, e_ife, e_idx, e_slc, e_call, e_bi, e_meth, es_nil, es_cons, g_n, g_t, g_sub, gs_cons, gs_nil, s_asg, s_par, s_aug, s_ex, s_ret, s_ife, s_for, ss_nil, ss_cons, th_nil, th_rt, b_add, b_sub, c_eqi, c_nei, c_eqs, c_nes, c_lt, c_le, c_gt, c_ge, c_isn, c_isnn, i_tup, bi_len_t, bi_min2, bi_max2, R_bind, R_pure, R_lift, R_rd, R_alloc, R_tst, some_ex, L0, LS, OB, id_eq, M0, setAll, S0, SS, AP, Rp0, RpS, A0, A1, A2, A3, AN2, AN3, Nat.reduceBEq, beq_self_eq_true, if_true, if_false, Bool.false_eq_true, reduceCtorEq, decide_eq_true_eq, Bool.not_true, Bool.not_false, true_and, and_true, exists_const, decide_true, decide_false, List.nil_append]
        refine R_comp ((keptG (.li c x) evs i).map D.int) (filtD fun o => decide (t - x < o)) ?_ (Nat.le_of_lt bl) (by have := keptG_len (f := .li c x) (evs := evs) i; rw [List.length_map]; omega)
        try simp only [it_ex, e_var, e_int, e_bl, e_non, e_str, e_ty, e_fnv, e_tup, e_lst, e_bin, e_not, e_neg, neg_i, e_cmp, e_chain, e_and, e_or, e_ife, e_idx, e_slc, e_call, e_bi, e_meth, es_nil, es_cons, g_n, g_t, g_sub, gs_cons, gs_nil, s_asg, s_par, s_aug, s_ex, s_ret, s_ife, s_for, ss_nil, ss_cons, th_nil, th_rt, b_add, b_sub, c_eqi, c_nei, c_eqs, c_nes, c_lt, c_le, c_gt, c_ge, c_isn, c_isnn, i_tup, bi_len_t, bi_min2, bi_max2, R_bind, R_pure, R_lift, R_rd, R_alloc, R_tst, some_ex, L0, LS, OB, id_eq, M0, setAll, S0, SS, AP, Rp0, RpS, A0, A1, A2, A3, AN2, AN3, Nat.reduceBEq, beq_self_eq_true, if_true, if_false, Bool.false_eq_true, reduceCtorEq, decide_eq_true_eq, Bool.not_true, Bool.not_false, true_and, and_true, exists_const, decide_true, decide_false, List.nil_append]
        refine R_it_ref (getL_of hk) ?_
        refine ⟨rfl, fun s' ex' j hj => get_lst (ext_getL ex' (getL_of hk)) hj, fun j d s' hd _ => ?_, fun s' ex' hs' => ?_⟩
        · rw [List.getElem?_map, Option.map_eq_some_iff] at hd
          obtain ⟨a, _, rfl⟩ := hd
          unfold elt1
          try simp only [w_cons, w_nil, t_one, e_var, e_int, e_bl, e_non, e_str, e_ty, e_fnv, e_tup, e_lst, e_bin, e_not, e_neg, neg_i, e_cmp, e_chain, e_and, e_or, e_ife, e_idx, e_slc, e_call, e_bi, e_meth, es_nil, es_cons, g_n, g_t, g_sub, gs_cons, gs_nil, s_asg, s_par, s_aug, s_ex, s_ret, s_ife, s_for, ss_nil, ss_cons, th_nil, th_rt, b_add, b_sub, c_eqi, c_nei, c_eqs, c_nes, c_lt, c_le, c_gt, c_ge, c_isn, c_isnn, i_tup, bi_len_t, bi_min2, bi_max2, R_bind, R_pure, R_lift, R_rd, R_alloc, R_tst, some_ex, L0, LS, OB, id_eq, M0, setAll, S0, SS, AP, Rp0, RpS, A0, A1, A2, A3, AN2, AN3, Nat.reduceBEq, beq_self_eq_true, if_true, if_false, Bool.false_eq_true, reduceCtorEq, decide_eq_true_eq, Bool.not_true, Bool.not_false, true_and, and_true, exists_const, decide_true, decide_false, List.nil_append]
          by_cases hc : t - x < a
          · simp only [hc, e_var, e_int, e_bl, e_non, e_str, e_ty, e_fnv, e_tup, e_lst, e_bin, e_not, e_neg, neg_i, e_cmp, e_chain, e_and, e_or, e_ife, e_idx, e_slc, e_call, e_bi, e_meth, es_nil, es_cons, g_n, g_t, g_sub, gs_cons, gs_nil, s_asg, s_par, s_aug, s_ex, s_ret, s_ife, s_for, ss_nil, ss_cons, th_nil, th_rt, b_add, b_sub, c_eqi, c_nei, c_eqs, c_nes, c_lt, c_le, c_gt, c_ge, c_isn, c_isnn, i_tup, bi_len_t, bi_min2, bi_max2, R_bind, R_pure, R_lift, R_rd, R_alloc, R_tst, some_ex, L0, LS, OB, id_eq, M0, setAll, S0, SS, AP, Rp0, RpS, A0, A1, A2, A3, AN2, AN3, Nat.reduceBEq, beq_self_eq_true, if_true, if_false, Bool.false_eq_true, reduceCtorEq, decide_eq_true_eq, Bool.not_true, Bool.not_false, true_and, and_true, exists_const, decide_true, decide_false, List.nil_append]
            exact ⟨(if_pos (decide_eq_true hc)).symm, Ext.refl _⟩
          · simp only [hc, e_var, e_int, e_bl, e_non, e_str, e_ty, e_fnv, e_tup, e_lst, e_bin, e_not, e_neg, neg_i, e_cmp, e_chain, e_and, e_or, e_ife, e_idx, e_slc, e_call, e_bi, e_meth, es_nil, es_cons, g_n, g_t, g_sub, gs_cons, gs_nil, s_asg, s_par, s_aug, s_ex, s_ret, s_ife, s_for, ss_nil, ss_cons, th_nil, th_rt, b_add, b_sub, c_eqi, c_nei, c_eqs, c_nes, c_lt, c_le, c_gt, c_ge, c_isn, c_isnn, i_tup, bi_len_t, bi_min2, bi_max2, R_bind, R_pure, R_lift, R_rd, R_alloc, R_tst, some_ex, L0, LS, OB, id_eq, M0, setAll, S0, SS, AP, Rp0, RpS, A0, A1, A2, A3, AN2, AN3, Nat.reduceBEq, beq_self_eq_true, if_true, if_false, Bool.false_eq_true, reduceCtorEq, decide_eq_true_eq, Bool.not_true, Bool.not_false, true_and, and_true, exists_const, decide_true, decide_false, List.nil_append]
            exact ⟨(if_neg (fun z => hc (of_decide_eq_true z))).symm, Ext.refl _⟩
        · rw [filt_fm] at hs'
          refine R_len_ref (getL_of hs') ?_
          try simp only [List.length_map, e_var, e_int, e_bl, e_non, e_str, e_ty, e_fnv, e_tup, e_lst, e_bin, e_not, e_neg, neg_i, e_cmp, e_chain, e_and, e_or, e_ife, e_idx, e_slc, e_call, e_bi, e_meth, es_nil, es_cons, g_n, g_t, g_sub, gs_cons, gs_nil, s_asg, s_par, s_aug, s_ex, s_ret, s_ife, s_for, ss_nil, ss_cons, th_nil, th_rt, b_add, b_sub, c_eqi, c_nei, c_eqs, c_nes, c_lt, c_le, c_gt, c_ge, c_isn, c_isnn, i_tup, bi_len_t, bi_min2, bi_max2, R_bind, R_pure, R_lift, R_rd, R_alloc, R_tst, some_ex, L0, LS, OB, id_eq, M0, setAll, S0, SS, AP, Rp0, RpS, A0, A1, A2, A3, AN2, AN3, Nat.reduceBEq, beq_self_eq_true, if_true, if_false, Bool.false_eq_true, reduceCtorEq, decide_eq_true_eq, Bool.not_true, Bool.not_false, true_and, and_true, exists_const, decide_true, decide_false, List.nil_append]
          exact go _ _ ex' rfl done
  · rintro σ s ⟨x, y, z, rfl, ex, hk⟩
    try simp only [un_enum, e_var, e_int, e_bl, e_non, e_str, e_ty, e_fnv, e_tup, e_lst, e_bin, e_not, e_neg, neg_i, e_cmp, e_chain, e_and, e_or, e_ife, e_idx, e_slc, e_call, e_bi, e_meth, es_nil, es_cons, g_n, g_t, g_sub, gs_cons, gs_nil, s_asg, s_par, s_aug, s_ex, s_ret, s_ife, s_for, ss_nil, ss_cons, th_nx, th_rt, b_add, b_sub, c_eqi, c_nei, c_eqs, c_nes, c_lt, c_le, c_gt, c_ge, c_isn, c_isnn, i_tup, bi_len_t, bi_min2, bi_max2, R_bind, R_pure, R_lift, R_rd, R_alloc, R_tst, some_ex, L0, LS, OB, id_eq, M0, setAll, S0, SS, AP, Rp0, RpS, A0, A1, A2, A3, AN2, AN3, Nat.reduceBEq, beq_self_eq_true, if_true, if_false, Bool.false_eq_true, reduceCtorEq, decide_eq_true_eq, Bool.not_true, Bool.not_false, true_and, and_true, exists_const, decide_true, decide_false, List.nil_append]
    rw [enumL_len, List.length_map] at hk
    exact h s ex (getL_of hk)
end
end TL

/-! The definition's result; the influential events. -/
namespace TL
def resL (ps : List Fi) (log : List Int) : List Int := ps.foldl (fun e f => keptF f e) log
theorem keptF_len {f : Fi} {evs : List Int} : (keptF f evs).length ≤ evs.length := keptG_len _
theorem resL_len {ps : List Fi} : ∀ {log : List Int}, (resL ps log).length ≤ log.length := by
  induction ps with
  | nil => intro log; exact Nat.le_refl _
  | cons p ps ih => intro log; exact Nat.le_trans (ih (log := keptF p log)) keptF_len
theorem resL_take {ps : List Fi} {log : List Int} {i : Nat} {f : Fi} (h : ps[i]? = some f) : resL (ps.take (i + 1)) log = keptF f (resL (ps.take i) log) := by
  unfold resL
  rw [List.take_add_one, h, List.foldl_append]
  rfl
theorem sl_tup {xs : List D} {lo hi : Option Int} : slice (.tup xs) lo hi = pure (.tup (cut xs lo hi)) := rfl
theorem cut_take {α : Type} {xs : List α} {i : Nat} : cut xs none (some (i : Int)) = xs.take i := by
  unfold cut
  have c : clip xs.length (i : Int) = min i xs.length := by
    unfold clip
    rw [if_neg (by omega)]
    rfl
  dsimp only
  rw [c, List.drop_zero, Nat.sub_zero]
  by_cases h : i ≤ xs.length
  · rw [Nat.min_eq_left h]
  · rw [Nat.min_eq_right (by omega), List.take_length, List.take_of_length_le (by omega)]
theorem cut_drop {α : Type} {xs : List α} {i : Nat} : cut xs (some (i : Int)) none = xs.drop i := by
  unfold cut
  have c : clip xs.length (i : Int) = min i xs.length := by
    unfold clip
    rw [if_neg (by omega)]
    rfl
  dsimp only
  rw [c]
  by_cases h : i ≤ xs.length
  · rw [Nat.min_eq_left h, List.take_of_length_le (by rw [List.length_drop]; omega)]
  · rw [Nat.min_eq_right (by omega), List.drop_of_length_le (Nat.le_refl _), List.drop_of_length_le (by omega), List.take_nil]
/-- the log without the event at i -/
def wo (log : List Int) (i : Nat) : List Int := log.take i ++ log.drop (i + 1)
def inflL (ps : List Fi) (log : List Int) : Nat → List Int
  | 0 => []
  | i + 1 => if keepL ps (wo log i) = (keepL ps log).filter (fun o => !(o == log.getD i 0)) then inflL ps log i else inflL ps log i ++ [(i : Int)]
theorem inflL_len {ps : List Fi} {log : List Int} : ∀ i, (inflL ps log i).length ≤ i
  | 0 => Nat.le_refl _
  | i + 1 => by
    have ih := inflL_len (ps := ps) (log := log) i
    show (if _ then _ else _ : List Int).length ≤ _
    split
    · omega
    · rw [List.length_append]
      show _ + 1 ≤ _
      omega
section
variable {w k : Nat} {st : Sto}
theorem run_result {ps : List Fi} {log : List Int} {Q : D → Sto → Prop} (hg : ∀ f ∈ ps, f.good) (hp : ps.length < w) (hw : log.length < w) (hl : log.length ≤ LIM) (h : ∀ s, Ext st s → Q (.tup ((resL ps log).map D.int)) s) :
    R (callF G w (k + 2) 34 [.tup (ps.map Fi.d), .tup (log.map D.int)]) st Q := by
  refine R_call (d := d_law_result) rfl rfl ?_
  try simp only [d_law_result, List.map, R_list_t, it_ex, it_tup, e_var, e_int, e_bl, e_non, e_str, e_ty, e_fnv, e_tup, e_lst, e_bin, e_not, e_neg, neg_i, e_cmp, e_chain, e_and, e_or, e_ife, e_idx, e_slc, e_call, e_bi, e_meth, es_nil, es_cons, g_n, g_t, g_sub, gs_cons, gs_nil, s_asg, s_par, s_aug, s_ex, s_ret, s_ife, s_for, ss_nil, ss_cons, th_nx, th_rt, b_add, b_sub, c_eqi, c_nei, c_eqs, c_nes, c_lt, c_le, c_gt, c_ge, c_isn, c_isnn, i_tup, bi_len_t, bi_min2, bi_max2, R_bind, R_pure, R_lift, R_rd, R_alloc, R_tst, some_ex, L0, LS, OB, id_eq, M0, setAll, S0, SS, AP, Rp0, RpS, A0, A1, A2, A3, AN2, AN3, Nat.reduceBEq, beq_self_eq_true, if_true, if_false, Bool.false_eq_true, reduceCtorEq, decide_eq_true_eq, Bool.not_true, Bool.not_false, true_and, and_true, exists_const, decide_true, decide_false, List.nil_append]
  refine R_for (xs := ps.map Fi.d) (fun i σ s => ∃ (y : Option D) (m : Nat), σ = [some (.tup (ps.map Fi.d)), some (.tup (log.map D.int)), some (.ref m), y] ∧ Ext st s ∧ getL s m = some ((resL (ps.take i) log).map D.int)) (by rw [List.length_map]; exact hp)
    ⟨none, st.length, rfl, Ext.new st _, getL_new⟩ (fun i σ s hi _ => get_tup hi) ?_ ?_
  · rintro i x σ s hx ⟨y, m, rfl, ex, hm⟩
    rw [List.getElem?_map, Option.map_eq_some_iff] at hx
    obtain ⟨f, hf, rfl⟩ := hx
    have rl := resL_len (ps := ps.take i) (log := log)
    try simp only [e_var, e_int, e_bl, e_non, e_str, e_ty, e_fnv, e_tup, e_lst, e_bin, e_not, e_neg, neg_i, e_cmp, e_chain, e_and, e_or, e_ife, e_idx, e_slc, e_call, e_bi, e_meth, es_nil, es_cons, g_n, g_t, g_sub, gs_cons, gs_nil, s_asg, s_par, s_aug, s_ex, s_ret, s_ife, s_for, ss_nil, ss_cons, th_nx, th_rt, b_add, b_sub, c_eqi, c_nei, c_eqs, c_nes, c_lt, c_le, c_gt, c_ge, c_isn, c_isnn, i_tup, bi_len_t, bi_min2, bi_max2, R_bind, R_pure, R_lift, R_rd, R_alloc, R_tst, some_ex, L0, LS, OB, id_eq, M0, setAll, S0, SS, AP, Rp0, RpS, A0, A1, A2, A3, AN2, AN3, Nat.reduceBEq, beq_self_eq_true, if_true, if_false, Bool.false_eq_true, reduceCtorEq, decide_eq_true_eq, Bool.not_true, Bool.not_false, true_and, and_true, exists_const, decide_true, decide_false, List.nil_append]
    refine run_kept (hg f (List.mem_of_getElem? hf)) hm (by omega) (by omega) fun s' ex' hs' => ?_
    try simp only [e_var, e_int, e_bl, e_non, e_str, e_ty, e_fnv, e_tup, e_lst, e_bin, e_not, e_neg, neg_i, e_cmp, e_chain, e_and, e_or, e_ife, e_idx, e_slc, e_call, e_bi, e_meth, es_nil, es_cons, g_n, g_t, g_sub, gs_cons, gs_nil, s_asg, s_par, s_aug, s_ex, s_ret, s_ife, s_for, ss_nil, ss_cons, th_nx, th_rt, b_add, b_sub, c_eqi, c_nei, c_eqs, c_nes, c_lt, c_le, c_gt, c_ge, c_isn, c_isnn, i_tup, bi_len_t, bi_min2, bi_max2, R_bind, R_pure, R_lift, R_rd, R_alloc, R_tst, some_ex, L0, LS, OB, id_eq, M0, setAll, S0, SS, AP, Rp0, RpS, A0, A1, A2, A3, AN2, AN3, Nat.reduceBEq, beq_self_eq_true, if_true, if_false, Bool.false_eq_true, reduceCtorEq, decide_eq_true_eq, Bool.not_true, Bool.not_false, true_and, and_true, exists_const, decide_true, decide_false, List.nil_append]
    exact ⟨_, _, rfl, ex.trans ex', by rw [resL_take hf]; exact hs'⟩
  · rintro σ s ⟨y, m, rfl, ex, hm⟩
    try simp only [un_tup, e_var, e_int, e_bl, e_non, e_str, e_ty, e_fnv, e_tup, e_lst, e_bin, e_not, e_neg, neg_i, e_cmp, e_chain, e_and, e_or, e_ife, e_idx, e_slc, e_call, e_bi, e_meth, es_nil, es_cons, g_n, g_t, g_sub, gs_cons, gs_nil, s_asg, s_par, s_aug, s_ex, s_ret, s_ife, s_for, ss_nil, ss_cons, th_nx, th_rt, b_add, b_sub, c_eqi, c_nei, c_eqs, c_nes, c_lt, c_le, c_gt, c_ge, c_isn, c_isnn, i_tup, bi_len_t, bi_min2, bi_max2, R_bind, R_pure, R_lift, R_rd, R_alloc, R_tst, some_ex, L0, LS, OB, id_eq, M0, setAll, S0, SS, AP, Rp0, RpS, A0, A1, A2, A3, AN2, AN3, Nat.reduceBEq, beq_self_eq_true, if_true, if_false, Bool.false_eq_true, reduceCtorEq, decide_eq_true_eq, Bool.not_true, Bool.not_false, true_and, and_true, exists_const, decide_true, decide_false, List.nil_append]
    rw [List.length_map, List.take_length] at hm
    refine R_tuple hm ?_
    exact h s ex
theorem run_influential {ps : List Fi} {log : List Int} {Q : D → Sto → Prop} (hg : ∀ f ∈ ps, f.good) (hp : ps.length < w) (hpl : ps.length ≤ LIM) (hw : log.length < w) (hw3 : 3 < w) (hl : log.length ≤ LIM)
    (h : ∀ s, Ext st s → Q (.tup ((inflL ps log log.length).map D.int)) s) : R (callF G w (k + 6) 121 [.tup (ps.map Fi.d), .tup (log.map D.int)]) st Q := by
  refine R_call (d := d_influential) rfl rfl ?_
  try simp only [d_influential, List.map, e_var, e_int, e_bl, e_non, e_str, e_ty, e_fnv, e_tup, e_lst, e_bin, e_not, e_neg, neg_i, e_cmp, e_chain, e_and, e_or, e_ife, e_idx, e_slc, e_call, e_bi, e_meth, es_nil, es_cons, g_n, g_t, g_sub, gs_cons, gs_nil, s_asg, s_par, s_aug, s_ex, s_ret, s_ife, s_for, ss_nil, ss_cons, th_nx, th_rt, b_add, b_sub, c_eqi, c_nei, c_eqs, c_nes, c_lt, c_le, c_gt, c_ge, c_isn, c_isnn, i_tup, bi_len_t, bi_min2, bi_max2, R_bind, R_pure, R_lift, R_rd, R_alloc, R_tst, some_ex, L0, LS, OB, id_eq, M0, setAll, S0, SS, AP, Rp0, RpS, A0, A1, A2, A3, AN2, AN3, Nat.reduceBEq, beq_self_eq_true, if_true, if_false, Bool.false_eq_true, reduceCtorEq, decide_eq_true_eq, Bool.not_true, Bool.not_false, true_and, and_true, exists_const, decide_true, decide_false, List.nil_append]
  refine run_keep hg hp hpl hw hw3 hl fun s0 ex0 => ?_
  try simp only [it_enum, sq_tup, e_var, e_int, e_bl, e_non, e_str, e_ty, e_fnv, e_tup, e_lst, e_bin, e_not, e_neg, neg_i, e_cmp, e_chain, e_and, e_or, e_ife, e_idx, e_slc, e_call, e_bi, e_meth, es_nil, es_cons, g_n, g_t, g_sub, gs_cons, gs_nil, s_asg, s_par, s_aug, s_ex, s_ret, s_ife, s_for, ss_nil, ss_cons, th_nx, th_rt, b_add, b_sub, c_eqi, c_nei, c_eqs, c_nes, c_lt, c_le, c_gt, c_ge, c_isn, c_isnn, i_tup, bi_len_t, bi_min2, bi_max2, R_bind, R_pure, R_lift, R_rd, R_alloc, R_tst, some_ex, L0, LS, OB, id_eq, M0, setAll, S0, SS, AP, Rp0, RpS, A0, A1, A2, A3, AN2, AN3, Nat.reduceBEq, beq_self_eq_true, if_true, if_false, Bool.false_eq_true, reduceCtorEq, decide_eq_true_eq, Bool.not_true, Bool.not_false, true_and, and_true, exists_const, decide_true, decide_false, List.nil_append]
  have kl : (keepL ps log).length ≤ log.length := by
    unfold keepL
    refine Nat.le_trans (List.length_filterMap_le _ _) ?_
    rw [List.length_zip]
    omega
  refine R_for (xs := enumL (log.map D.int)) (fun i σ s => ∃ x y z, σ = [some (.tup (ps.map Fi.d)), some (.tup (log.map D.int)), some (.tup ((keepL ps log).map D.int)), some (.ref s0.length), x, y, z, none] ∧ Ext s0 s ∧ s[s0.length]? = some (.lst ((inflL ps log i).map D.int)))
    (by rw [enumL_len, List.length_map]; exact hw) ⟨none, none, none, rfl, Ext.new _ _, ?_⟩ (fun i σ s hi _ => by rw [enumL_len] at hi; exact get_enum (get_tup hi)) ?_ ?_
  · rw [List.getElem?_append_right (Nat.le_refl _), Nat.sub_self]
    rfl
  · rintro i d σ s hd ⟨x, y, z, rfl, ex, hr⟩
    rw [enumL_get, List.getElem?_map] at hd
    cases ht : log[i]? with
    | none => rw [ht] at hd; cases hd
    | some t =>
      rw [ht] at hd
      cases hd
      have hi : i < log.length := (List.getElem?_eq_some_iff.mp ht).1
      have gd : log.getD i 0 = t := by rw [List.getD_eq_getElem?_getD, ht]; rfl
      try simp only [g_t, gs_cons, gs_nil, LN, LC1, TN, TC1, e_var, e_int, e_bl, e_non, e_str, e_ty, e_fnv, e_tup, e_lst, e_bin, e_not, e_neg, neg_i, e_cmp, e_chain, e_and, e_or, e_ife, e_idx, e_slc, e_call, e_bi, e_meth, es_nil, es_cons, g_n, g_t, g_sub, gs_cons, gs_nil, s_asg, s_par, s_aug, s_ex, s_ret, s_ife, s_for, ss_nil, ss_cons, th_nx, th_rt, b_add, b_sub, c_eqi, c_nei, c_eqs, c_nes, c_lt, c_le, c_gt, c_ge, c_isn, c_isnn, i_tup, bi_len_t, bi_min2, bi_max2, R_bind, R_pure, R_lift, R_rd, R_alloc, R_tst, some_ex, L0, LS, OB, id_eq, M0, setAll, S0, SS, AP, Rp0, RpS, A0, A1, A2, A3, AN2, AN3, Nat.reduceBEq, beq_self_eq_true, if_true, if_false, Bool.false_eq_true, reduceCtorEq, decide_eq_true_eq, Bool.not_true, Bool.not_false, true_and, and_true, exists_const, decide_true, decide_false, List.nil_append]
      refine R_comp ((keepL ps log).map D.int) (filtD fun o => !(o == t)) ?_ (by rw [List.length_map]; omega) (by rw [List.length_map]; omega)
      try simp only [it_ex, it_tup, e_var, e_int, e_bl, e_non, e_str, e_ty, e_fnv, e_tup, e_lst, e_bin, e_not, e_neg, neg_i, e_cmp, e_chain, e_and, e_or, e_ife, e_idx, e_slc, e_call, e_bi, e_meth, es_nil, es_cons, g_n, g_t, g_sub, gs_cons, gs_nil, s_asg, s_par, s_aug, s_ex, s_ret, s_ife, s_for, ss_nil, ss_cons, th_nx, th_rt, b_add, b_sub, c_eqi, c_nei, c_eqs, c_nes, c_lt, c_le, c_gt, c_ge, c_isn, c_isnn, i_tup, bi_len_t, bi_min2, bi_max2, R_bind, R_pure, R_lift, R_rd, R_alloc, R_tst, some_ex, L0, LS, OB, id_eq, M0, setAll, S0, SS, AP, Rp0, RpS, A0, A1, A2, A3, AN2, AN3, Nat.reduceBEq, beq_self_eq_true, if_true, if_false, Bool.false_eq_true, reduceCtorEq, decide_eq_true_eq, Bool.not_true, Bool.not_false, true_and, and_true, exists_const, decide_true, decide_false, List.nil_append]
      refine ⟨rfl, fun s' _ j hj => get_tup hj, fun j d s' hd _ => ?_, fun s' ex' hs' => ?_⟩
      · rw [List.getElem?_map, Option.map_eq_some_iff] at hd
        obtain ⟨a, _, rfl⟩ := hd
        unfold elt1
        try simp only [w_cons, w_nil, t_one, e_var, e_int, e_bl, e_non, e_str, e_ty, e_fnv, e_tup, e_lst, e_bin, e_not, e_neg, neg_i, e_cmp, e_chain, e_and, e_or, e_ife, e_idx, e_slc, e_call, e_bi, e_meth, es_nil, es_cons, g_n, g_t, g_sub, gs_cons, gs_nil, s_asg, s_par, s_aug, s_ex, s_ret, s_ife, s_for, ss_nil, ss_cons, th_nx, th_rt, b_add, b_sub, c_eqi, c_nei, c_eqs, c_nes, c_lt, c_le, c_gt, c_ge, c_isn, c_isnn, i_tup, bi_len_t, bi_min2, bi_max2, R_bind, R_pure, R_lift, R_rd, R_alloc, R_tst, some_ex, L0, LS, OB, id_eq, M0, setAll, S0, SS, AP, Rp0, RpS, A0, A1, A2, A3, AN2, AN3, Nat.reduceBEq, beq_self_eq_true, if_true, if_false, Bool.false_eq_true, reduceCtorEq, decide_eq_true_eq, Bool.not_true, Bool.not_false, true_and, and_true, exists_const, decide_true, decide_false, List.nil_append]
        cases hc : (a == t) with
        | true =>
          try simp only [hc, e_var, e_int, e_bl, e_non, e_str, e_ty, e_fnv, e_tup, e_lst, e_bin, e_not, e_neg, neg_i, e_cmp, e_chain, e_and, e_or, e_ife, e_idx, e_slc, e_call, e_bi, e_meth, es_nil, es_cons, g_n, g_t, g_sub, gs_cons, gs_nil, s_asg, s_par, s_aug, s_ex, s_ret, s_ife, s_for, ss_nil, ss_cons, th_nx, th_rt, b_add, b_sub, c_eqi, c_nei, c_eqs, c_nes, c_lt, c_le, c_gt, c_ge, c_isn, c_isnn, i_tup, bi_len_t, bi_min2, bi_max2, R_bind, R_pure, R_lift, R_rd, R_alloc, R_tst, some_ex, L0, LS, OB, id_eq, M0, setAll, S0, SS, AP, Rp0, RpS, A0, A1, A2, A3, AN2, AN3, Nat.reduceBEq, beq_self_eq_true, if_true, if_false, Bool.false_eq_true, reduceCtorEq, decide_eq_true_eq, Bool.not_true, Bool.not_false, true_and, and_true, exists_const, decide_true, decide_false, List.nil_append]
          exact ⟨(if_neg (by show ¬ (!(a == t)) = true; rw [hc]; exact Bool.false_ne_true)).symm, Ext.refl _⟩
        | false =>
          try simp only [hc, e_var, e_int, e_bl, e_non, e_str, e_ty, e_fnv, e_tup, e_lst, e_bin, e_not, e_neg, neg_i, e_cmp, e_chain, e_and, e_or, e_ife, e_idx, e_slc, e_call, e_bi, e_meth, es_nil, es_cons, g_n, g_t, g_sub, gs_cons, gs_nil, s_asg, s_par, s_aug, s_ex, s_ret, s_ife, s_for, ss_nil, ss_cons, th_nx, th_rt, b_add, b_sub, c_eqi, c_nei, c_eqs, c_nes, c_lt, c_le, c_gt, c_ge, c_isn, c_isnn, i_tup, bi_len_t, bi_min2, bi_max2, R_bind, R_pure, R_lift, R_rd, R_alloc, R_tst, some_ex, L0, LS, OB, id_eq, M0, setAll, S0, SS, AP, Rp0, RpS, A0, A1, A2, A3, AN2, AN3, Nat.reduceBEq, beq_self_eq_true, if_true, if_false, Bool.false_eq_true, reduceCtorEq, decide_eq_true_eq, Bool.not_true, Bool.not_false, true_and, and_true, exists_const, decide_true, decide_false, List.nil_append]
          exact ⟨(if_pos (by show (!(a == t)) = true; rw [hc]; rfl)).symm, Ext.refl _⟩
      · rw [filt_fm] at hs'
        refine R_tuple (getL_of hs') ?_
        have i1 : (i : Int) + 1 = ((i + 1 : Nat) : Int) := by omega
        have bc : bop .add (.tup ((log.map D.int).take i)) (.tup ((log.map D.int).drop (i + 1))) = pure (.tup ((wo log i).map D.int)) := by
          rw [b_cat (by rw [List.length_take, List.length_drop, List.length_map]; omega)]
          unfold wo
          rw [List.map_append, List.map_take, List.map_drop]
        try simp only [E.isNon, optI, i1, sl_tup, cut_take, cut_drop, bc, e_var, e_int, e_bl, e_non, e_str, e_ty, e_fnv, e_tup, e_lst, e_bin, e_not, e_neg, neg_i, e_cmp, e_chain, e_and, e_or, e_ife, e_idx, e_slc, e_call, e_bi, e_meth, es_nil, es_cons, g_n, g_t, g_sub, gs_cons, gs_nil, s_asg, s_par, s_aug, s_ex, s_ret, s_ife, s_for, ss_nil, ss_cons, th_nx, th_rt, b_add, b_sub, c_eqi, c_nei, c_eqs, c_nes, c_lt, c_le, c_gt, c_ge, c_isn, c_isnn, i_tup, bi_len_t, bi_min2, bi_max2, R_bind, R_pure, R_lift, R_rd, R_alloc, R_tst, some_ex, L0, LS, OB, id_eq, M0, setAll, S0, SS, AP, Rp0, RpS, A0, A1, A2, A3, AN2, AN3, Nat.reduceBEq, beq_self_eq_true, if_true, if_false, Bool.false_eq_true, reduceCtorEq, decide_eq_true_eq, Bool.not_true, Bool.not_false, true_and, and_true, exists_const, decide_true, decide_false, List.nil_append]
        have wl : (wo log i).length ≤ log.length := by
          unfold wo
          rw [List.length_append, List.length_take, List.length_drop]
          omega
        refine run_keep hg hp hpl (by omega) hw3 (by omega) fun s2 ex2 => ?_
        try simp only [c_net, e_var, e_int, e_bl, e_non, e_str, e_ty, e_fnv, e_tup, e_lst, e_bin, e_not, e_neg, neg_i, e_cmp, e_chain, e_and, e_or, e_ife, e_idx, e_slc, e_call, e_bi, e_meth, es_nil, es_cons, g_n, g_t, g_sub, gs_cons, gs_nil, s_asg, s_par, s_aug, s_ex, s_ret, s_ife, s_for, ss_nil, ss_cons, th_nx, th_rt, b_add, b_sub, c_eqi, c_nei, c_eqs, c_nes, c_lt, c_le, c_gt, c_ge, c_isn, c_isnn, i_tup, bi_len_t, bi_min2, bi_max2, R_bind, R_pure, R_lift, R_rd, R_alloc, R_tst, some_ex, L0, LS, OB, id_eq, M0, setAll, S0, SS, AP, Rp0, RpS, A0, A1, A2, A3, AN2, AN3, Nat.reduceBEq, beq_self_eq_true, if_true, if_false, Bool.false_eq_true, reduceCtorEq, decide_eq_true_eq, Bool.not_true, Bool.not_false, true_and, and_true, exists_const, decide_true, decide_false, List.nil_append]
        have hr2 := ext_get (ex'.trans ex2) hr
        have st1 : inflL ps log (i + 1) = if keepL ps (wo log i) = (keepL ps log).filter (fun o => !(o == t)) then inflL ps log i else inflL ps log i ++ [(i : Int)] := by
          show (if keepL ps (wo log i) = (keepL ps log).filter (fun o => !(o == log.getD i 0)) then _ else _) = _
          rw [gd]
        by_cases hc : keepL ps (wo log i) = (keepL ps log).filter (fun o => !(o == t))
        · rw [if_pos hc] at st1
          try simp only [hc, e_var, e_int, e_bl, e_non, e_str, e_ty, e_fnv, e_tup, e_lst, e_bin, e_not, e_neg, neg_i, e_cmp, e_chain, e_and, e_or, e_ife, e_idx, e_slc, e_call, e_bi, e_meth, es_nil, es_cons, g_n, g_t, g_sub, gs_cons, gs_nil, s_asg, s_par, s_aug, s_ex, s_ret, s_ife, s_for, ss_nil, ss_cons, th_nx, th_rt, b_add, b_sub, c_eqi, c_nei, c_eqs, c_nes, c_lt, c_le, c_gt, c_ge, c_isn, c_isnn, i_tup, bi_len_t, bi_min2, bi_max2, R_bind, R_pure, R_lift, R_rd, R_alloc, R_tst, some_ex, L0, LS, OB, id_eq, M0, setAll, S0, SS, AP, Rp0, RpS, A0, A1, A2, A3, AN2, AN3, Nat.reduceBEq, beq_self_eq_true, if_true, if_false, Bool.false_eq_true, reduceCtorEq, decide_eq_true_eq, Bool.not_true, Bool.not_false, true_and, and_true, exists_const, decide_true, decide_false, List.nil_append]
          exact ⟨_, _, _, rfl, ex.trans (ex'.trans ex2), by rw [hr2, st1]⟩
        · rw [if_neg hc] at st1
          have bl : ((inflL ps log i).map D.int).length < LIM := by
            have := inflL_len (ps := ps) (log := log) i
            rw [List.length_map]
            omega
          try simp only [hc, mchk_append (getL_of hr2), e_var, e_int, e_bl, e_non, e_str, e_ty, e_fnv, e_tup, e_lst, e_bin, e_not, e_neg, neg_i, e_cmp, e_chain, e_and, e_or, e_ife, e_idx, e_slc, e_call, e_bi, e_meth, es_nil, es_cons, g_n, g_t, g_sub, gs_cons, gs_nil, s_asg, s_par, s_aug, s_ex, s_ret, s_ife, s_for, ss_nil, ss_cons, th_nx, th_rt, b_add, b_sub, c_eqi, c_nei, c_eqs, c_nes, c_lt, c_le, c_gt, c_ge, c_isn, c_isnn, i_tup, bi_len_t, bi_min2, bi_max2, R_bind, R_pure, R_lift, R_rd, R_alloc, R_tst, some_ex, L0, LS, OB, id_eq, M0, setAll, S0, SS, AP, Rp0, RpS, A0, A1, A2, A3, AN2, AN3, Nat.reduceBEq, beq_self_eq_true, if_true, if_false, Bool.false_eq_true, reduceCtorEq, decide_eq_true_eq, Bool.not_true, Bool.not_false, true_and, and_true, exists_const, decide_true, decide_false, List.nil_append]
          refine R_mappend hr2 bl ?_
          refine ⟨_, _, _, rfl, (ex.trans (ex'.trans ex2)).set (Nat.le_refl _) _, ?_⟩
          rw [List.getElem?_set_self (List.getElem?_eq_some_iff.mp hr2).1, st1, List.map_append]
          rfl
  · rintro σ s ⟨x, y, z, rfl, ex, hr⟩
    try simp only [un_enum, e_var, e_int, e_bl, e_non, e_str, e_ty, e_fnv, e_tup, e_lst, e_bin, e_not, e_neg, neg_i, e_cmp, e_chain, e_and, e_or, e_ife, e_idx, e_slc, e_call, e_bi, e_meth, es_nil, es_cons, g_n, g_t, g_sub, gs_cons, gs_nil, s_asg, s_par, s_aug, s_ex, s_ret, s_ife, s_for, ss_nil, ss_cons, th_nx, th_rt, b_add, b_sub, c_eqi, c_nei, c_eqs, c_nes, c_lt, c_le, c_gt, c_ge, c_isn, c_isnn, i_tup, bi_len_t, bi_min2, bi_max2, R_bind, R_pure, R_lift, R_rd, R_alloc, R_tst, some_ex, L0, LS, OB, id_eq, M0, setAll, S0, SS, AP, Rp0, RpS, A0, A1, A2, A3, AN2, AN3, Nat.reduceBEq, beq_self_eq_true, if_true, if_false, Bool.false_eq_true, reduceCtorEq, decide_eq_true_eq, Bool.not_true, Bool.not_false, true_and, and_true, exists_const, decide_true, decide_false, List.nil_append]
    rw [enumL_len, List.length_map] at hr
    refine R_tuple (getL_of hr) ?_
    exact h s (ex0.trans ex)
end
end TL

/-! The machine keeps what the definition keeps. -/
namespace TL
theorem snoc_ind {α : Type} {P : List α → Prop} (h0 : P []) (h1 : ∀ xs t, P xs → P (xs ++ [t])) (xs : List α) : P xs := by
  have q : ∀ n (xs : List α), xs.length = n → P xs := fun n => by
    induction n with
    | zero => intro xs h; rw [List.length_eq_zero_iff.mp h]; exact h0
    | succ n ih =>
      intro xs h
      have hne : xs ≠ [] := fun e => by rw [e] at h; cases h
      rw [← List.dropLast_concat_getLast hne]
      exact h1 _ _ (ih _ (by rw [List.length_dropLast]; omega))
  exact q _ xs rfl
theorem mrun_snoc {ps : List Fi} {xs : List Int} {t : Int} : mrun ps (xs ++ [t]) = mstep ps (mrun ps xs) t := by
  unfold mrun
  rw [List.foldl_append]
  rfl
theorem mrun_prev {ps : List Fi} (xs : List Int) : (mrun ps xs).2.1 = xs.getLast? := by
  refine snoc_ind (P := fun xs => (mrun ps xs).2.1 = xs.getLast?) rfl (fun xs t _ => ?_) xs
  rw [mrun_snoc, List.getLast?_append]
  rfl
theorem mrun_len {ps : List Fi} (xs : List Int) : (mrun ps xs).2.2.length = xs.length := by
  have q := run_len (ps := ps) xs (ps.map Fi.init, none, [])
  exact q.trans (by show 0 + _ = _; omega)
/-- the state as the next event is met -/
def met (ps : List Fi) (xs : List Int) (t : Int) : List Pt := aged ps (mrun ps xs) t
theorem keepL_snoc {ps : List Fi} {xs : List Int} {t : Int} : keepL ps (xs ++ [t]) = keepL ps xs ++ if (rd ps (met ps xs t)).2 = none then [t] else [] := by
  unfold keepL
  rw [mrun_snoc]
  show (List.zip (xs ++ [t]) ((mrun ps xs).2.2 ++ [(rd ps (met ps xs t)).2])).filterMap _ = _
  rw [List.zip_append (mrun_len xs).symm, List.filterMap_append]
  congr 1
  show List.filterMap (fun p : Int × Option Nat => if p.2 = none then some p.1 else none) [(t, (rd ps (met ps xs t)).2)] = _
  by_cases h : (rd ps (met ps xs t)).2 = none
  · rw [if_pos h, List.filterMap_cons]
    simp [h]
  · rw [if_neg h, List.filterMap_cons]
    simp [h]
theorem up_split {xs : List Int} {t : Int} (h : Up (xs ++ [t])) : Up xs ∧ ∀ a ∈ xs, a < t := by
  obtain ⟨h1, _, h3⟩ := List.pairwise_append.mp h
  exact ⟨h1, fun a ha => h3 a ha t (List.mem_singleton.mpr rfl)⟩
/-! ### ageing -/
theorem age_init {f : Fi} {g : Int} (hg : 0 ≤ g) : f.age g f.init = f.init := by
  cases f with
  | sp n => show Pt.i (if n + g < n then n + g else n) = .i n; rw [if_neg (by omega)]
  | fr n => show Pt.i (if n + 1 + g < n + 1 then n + 1 + g else n + 1) = .i (n + 1); rw [if_neg (by omega)]
  | ev n r => rfl
  | li c w => rfl
theorem age_age {f : Fi} {p : Pt} {g g2 : Int} (hg : 0 ≤ g2) : f.age g2 (f.age g p) = f.age (g + g2) p := by
  have num : ∀ (a m : Int), (if (if a + g < m then a + g else m) + g2 < m then (if a + g < m then a + g else m) + g2 else m) = if a + (g + g2) < m then a + (g + g2) else m := fun a m => by
    by_cases h : a + g < m
    · rw [if_pos h]
      by_cases h2 : a + g + g2 < m
      · rw [if_pos h2, if_pos (by omega)]; omega
      · rw [if_neg h2, if_neg (by omega)]
    · rw [if_neg h, if_neg (by omega), if_neg (by omega)]
  cases f with
  | sp n => cases p with
    | i a => exact congrArg Pt.i (num a n)
    | l as => rfl
  | fr n => cases p with
    | i a => exact congrArg Pt.i (num a (n + 1))
    | l as => rfl
  | ev n r => rfl
  | li c w => cases p with
    | i a => rfl
    | l as =>
      refine congrArg Pt.l ?_
      induction as with
      | nil => rfl
      | cons a as ih =>
        rw [List.map_cons, List.map_cons, List.filter_cons, List.filter_cons]
        by_cases h : a + g < w
        · rw [if_pos (decide_eq_true h), List.map_cons, List.filter_cons, ih]
          by_cases h2 : a + g + g2 < w
          · rw [if_pos (decide_eq_true h2), if_pos (decide_eq_true (by omega)), Int.add_assoc]
          · rw [if_neg (fun z => h2 (of_decide_eq_true z)), if_neg (fun z => h2 (by have := of_decide_eq_true z; omega))]
        · rw [if_neg (fun z => h (of_decide_eq_true z)), ih, if_neg (fun z => h (by have := of_decide_eq_true z; omega))]
theorem ageAll_init {ps : List Fi} {g : Int} (hg : 0 ≤ g) : ageAll g ps (ps.map Fi.init) = ps.map Fi.init := by
  unfold ageAll
  induction ps with
  | nil => rfl
  | cons p ps ih => rw [List.map_cons, List.zipWith_cons_cons, ih, age_init hg]
theorem ageAll_ageAll {g g2 : Int} (hg : 0 ≤ g2) : ∀ {ps : List Fi} {qs : List Pt}, ageAll g2 ps (ageAll g ps qs) = ageAll (g + g2) ps qs
  | [], _ => rfl
  | _ :: _, [] => rfl
  | p :: ps, q :: qs => by
    have ih := ageAll_ageAll (g := g) hg (ps := ps) (qs := qs)
    unfold ageAll at ih ⊢
    rw [List.zipWith_cons_cons, List.zipWith_cons_cons, List.zipWith_cons_cons, ih, age_age hg]
/-! ### one filter after the other -/
theorem rd_cons {f : Fi} {fs : List Fi} {p : Pt} {qs : List Pt} : rd (f :: fs) (p :: qs) = if (f.dec p).1 = true then ((f.dec p).2 :: (rd fs qs).1, (rd fs qs).2.map (· + 1)) else ((f.dec p).2 :: qs, some 0) := rfl
theorem rd_one {f : Fi} {p : Pt} : rd [f] [p] = ([(f.dec p).2], if (f.dec p).1 = true then none else some 0) := by
  rw [rd_cons]
  split <;> rfl
/-- the state after the prefix xs, of f and the others, by the others' own run over what f has kept -/
theorem two_state {f : Fi} {fs : List Fi} (xs : List Int) (hup : Up xs) : ∃ p qs, (mrun (f :: fs) xs).1 = p :: qs ∧ (mrun [f] xs).1 = [p] ∧ keepL (f :: fs) xs = keepL fs (keepL [f] xs) ∧ (∀ a ∈ keepL [f] xs, a ∈ xs) ∧
    match (keepL [f] xs).getLast? with
    | none => qs = fs.map Fi.init
    | some u' => ∃ u, xs.getLast? = some u ∧ ((u = u' ∧ qs = (mrun fs (keepL [f] xs)).1) ∨ (u' < u ∧ qs = ageAll (u - u') fs (mrun fs (keepL [f] xs)).1)) := by
  refine snoc_ind (P := fun xs => Up xs → ∃ p qs, (mrun (f :: fs) xs).1 = p :: qs ∧ (mrun [f] xs).1 = [p] ∧ keepL (f :: fs) xs = keepL fs (keepL [f] xs) ∧ (∀ a ∈ keepL [f] xs, a ∈ xs) ∧
    match (keepL [f] xs).getLast? with
    | none => qs = fs.map Fi.init
    | some u' => ∃ u, xs.getLast? = some u ∧ ((u = u' ∧ qs = (mrun fs (keepL [f] xs)).1) ∨ (u' < u ∧ qs = ageAll (u - u') fs (mrun fs (keepL [f] xs)).1))) (fun _ => ⟨f.init, fs.map Fi.init, rfl, rfl, rfl, fun a ha => ha, rfl⟩) (fun xs t ih hup => ?_) xs hup
  obtain ⟨hup1, hlt⟩ := up_split hup
  obtain ⟨p, qs, e1, e2, e3, hsub, hrel⟩ := ih hup1
  -- f's part, aged
  have hprev : (mrun (f :: fs) xs).2.1 = xs.getLast? := mrun_prev xs
  have hprev1 : (mrun [f] xs).2.1 = xs.getLast? := mrun_prev xs
  have hprevK : (mrun fs (keepL [f] xs)).2.1 = (keepL [f] xs).getLast? := mrun_prev _
  have metE : ∀ (ps : List Fi) (ys : List Int), met ps ys t = match ys.getLast? with
      | none => (mrun ps ys).1
      | some u => ageAll (t - u) ps (mrun ps ys).1 := fun ps ys => by
    unfold met aged
    rw [mrun_prev]
    all_goals (cases ys.getLast? <;> rfl)
  obtain ⟨p1, m1, m2⟩ : ∃ p1, met (f :: fs) xs t = p1 :: met fs (keepL [f] xs) t ∧ met [f] xs t = [p1] := by
    rw [metE, metE, metE]
    cases hx : xs.getLast? with
    | none =>
      have hxs := List.getLast?_eq_none_iff.mp hx
      subst hxs
      exact ⟨f.init, rfl, rfl⟩
    | some u =>
      have hu := hlt u (List.mem_of_getLast? hx)
      refine ⟨f.age (t - u) p, ?_, by rw [e2]; rfl⟩
      rw [e1]
      show f.age (t - u) p :: ageAll (t - u) fs qs = _
      congr 1
      cases hk : (keepL [f] xs).getLast? with
      | none =>
        rw [hk] at hrel
        have hK := List.getLast?_eq_none_iff.mp hk
        rw [hK, hrel]
        exact ageAll_init (by omega)
      | some u' =>
        rw [hk] at hrel
        obtain ⟨u2, h1, h2⟩ := hrel
        rw [hx] at h1
        cases h1
        rcases h2 with ⟨rfl, rfl⟩ | ⟨h2, rfl⟩
        · rfl
        · show ageAll (t - u) fs (ageAll (u - u') fs _) = ageAll (t - u') fs _
          rw [ageAll_ageAll (by omega)]
          congr 1
          omega
  have sK : keepL [f] (xs ++ [t]) = keepL [f] xs ++ if (f.dec p1).1 = true then [t] else [] := by
    rw [keepL_snoc, m2, rd_one]
    by_cases b : (f.dec p1).1 = true
    · rw [if_pos b, if_pos b, if_pos rfl]
    · rw [if_neg b, if_neg b, if_neg (fun z => by cases z)]
  have s1 : (mrun (f :: fs) (xs ++ [t])).1 = (rd (f :: fs) (p1 :: met fs (keepL [f] xs) t)).1 := by
    rw [mrun_snoc]
    show (rd (f :: fs) (met (f :: fs) xs t)).1 = _
    rw [m1]
  have s2 : (mrun [f] (xs ++ [t])).1 = [(f.dec p1).2] := by
    rw [mrun_snoc]
    show (rd [f] (met [f] xs t)).1 = _
    rw [m2, rd_one]
  have s3 : keepL (f :: fs) (xs ++ [t]) = keepL fs (keepL [f] xs) ++ if (rd (f :: fs) (p1 :: met fs (keepL [f] xs) t)).2 = none then [t] else [] := by
    rw [keepL_snoc, m1, e3]
  by_cases b : (f.dec p1).1 = true
  · rw [rd_cons, if_pos b] at s1 s3
    rw [if_pos b] at sK
    refine ⟨(f.dec p1).2, (rd fs (met fs (keepL [f] xs) t)).1, s1, s2, ?_, fun a ha => ?_, ?_⟩
    · rw [s3, sK, keepL_snoc]
      congr 1
      cases (rd fs (met fs (keepL [f] xs) t)).2 <;> rfl
    · rw [sK] at ha
      rcases List.mem_append.mp ha with ha | ha
      · exact List.mem_append_left _ (hsub a ha)
      · exact List.mem_append_right _ ha
    · rw [sK, List.getLast?_append]
      show ∃ u, (xs ++ [t]).getLast? = some u ∧ _
      refine ⟨t, by rw [List.getLast?_append]; rfl, .inl ⟨rfl, ?_⟩⟩
      rw [mrun_snoc]
      rfl
  · rw [rd_cons, if_neg b] at s1 s3
    rw [if_neg b, List.append_nil] at sK
    refine ⟨(f.dec p1).2, met fs (keepL [f] xs) t, s1, s2, ?_, fun a ha => ?_, ?_⟩
    · rw [s3, sK, if_neg (fun z => by cases z), List.append_nil]
    · rw [sK] at ha
      exact List.mem_append_left _ (hsub a ha)
    · rw [sK, metE]
      cases hk : (keepL [f] xs).getLast? with
      | none =>
        have hK := List.getLast?_eq_none_iff.mp hk
        rw [hK]
        rfl
      | some u' =>
        have hu' := hlt u' (hsub u' (List.mem_of_getLast? hk))
        exact ⟨t, by rw [List.getLast?_append]; rfl, .inr ⟨hu', rfl⟩⟩
theorem keep_cons {f : Fi} {fs : List Fi} {xs : List Int} (hup : Up xs) : keepL (f :: fs) xs = keepL fs (keepL [f] xs) := let ⟨_, _, _, _, h, _⟩ := two_state (f := f) (fs := fs) xs hup; h

/-! ### one filter: its definition -/
theorem goodF_app {f : Fi} {xs : List Int} {t : Int} {acc : List Int} {i : Nat} {v : Int} (h : i ≤ xs.length) : goodF f (xs ++ [t]) acc i v = goodF f xs acc i v := by
  cases f with
  | fr n =>
    cases i with
    | zero => rfl
    | succ j =>
      show decide (n < v - (xs ++ [t]).getD j 0) = decide (n < v - xs.getD j 0)
      rw [List.getD_eq_getElem?_getD, List.getD_eq_getElem?_getD, List.getElem?_append_left (by omega)]
  | _ => rfl
theorem keptG_app {f : Fi} {xs : List Int} {t : Int} : ∀ i, i ≤ xs.length → keptG f (xs ++ [t]) i = keptG f xs i
  | 0, _ => rfl
  | i + 1, h => by
    have ih := keptG_app (f := f) (xs := xs) (t := t) i (by omega)
    show (match (xs ++ [t])[i]? with
      | some t' => if goodF f (xs ++ [t]) (keptG f (xs ++ [t]) i) i t' = true then keptG f (xs ++ [t]) i ++ [t'] else keptG f (xs ++ [t]) i
      | none => keptG f (xs ++ [t]) i) = match xs[i]? with
      | some t' => if goodF f xs (keptG f xs i) i t' = true then keptG f xs i ++ [t'] else keptG f xs i
      | none => keptG f xs i
    rw [ih, List.getElem?_append_left (by omega)]
    cases xs[i]? with
    | none => rfl
    | some t' =>
      dsimp only
      rw [goodF_app (by omega)]
theorem keptF_snoc {f : Fi} {xs : List Int} {t : Int} : keptF f (xs ++ [t]) = if goodF f xs (keptF f xs) xs.length t = true then keptF f xs ++ [t] else keptF f xs := by
  unfold keptF
  rw [List.length_append]
  show (match (xs ++ [t])[xs.length]? with
      | some t' => if goodF f (xs ++ [t]) (keptG f (xs ++ [t]) xs.length) xs.length t' = true then keptG f (xs ++ [t]) xs.length ++ [t'] else keptG f (xs ++ [t]) xs.length
      | none => keptG f (xs ++ [t]) xs.length) = _
  rw [List.getElem?_append_right (Nat.le_refl _), Nat.sub_self]
  show (if goodF f (xs ++ [t]) (keptG f (xs ++ [t]) xs.length) xs.length t = true then keptG f (xs ++ [t]) xs.length ++ [t] else keptG f (xs ++ [t]) xs.length) = _
  rw [keptG_app _ (Nat.le_refl _), goodF_app (Nat.le_refl _)]
def mn (a n : Int) : Int := if a < n then a else n
/-- the filter's part after xs, of which K is kept -/
def PartIs (f : Fi) (xs K : List Int) (p : Pt) : Prop := match f with
  | .sp n => match K.getLast? with
    | none => p = .i n
    | some l => ∃ u, xs.getLast? = some u ∧ p = .i (mn (u - l) n)
  | .fr n => match xs.getLast? with
    | none => p = .i (n + 1)
    | some _ => p = .i 0
  | .ev n _ => p = .i ((xs.length : Int) % n)
  | .li _ w => match xs.getLast? with
    | none => p = .l [] ∧ K = []
    | some u => p = .l ((K.filter fun o => decide (u - o < w)).map fun o => u - o)
theorem last_snoc {xs : List Int} {t : Int} : (xs ++ [t]).getLast? = some t := by rw [List.getLast?_append]; rfl
theorem mn_age {a n g : Int} (hg : 0 ≤ g) : (if mn a n + g < n then mn a n + g else n) = mn (a + g) n := by
  unfold mn
  by_cases h : a < n
  · rw [if_pos h]
  · rw [if_neg h, if_neg (by omega), if_neg (by omega)]
theorem win_age {K : List Int} {u t w : Int} (h : u < t) : (((K.filter fun o => decide (u - o < w)).map fun o => u - o).map (· + (t - u))).filter (fun a => decide (a < w)) = (K.filter fun o => decide (t - o < w)).map fun o => t - o := by
  induction K with
  | nil => rfl
  | cons o K ih =>
    rw [List.filter_cons, List.filter_cons]
    by_cases h1 : u - o < w
    · rw [if_pos (decide_eq_true h1), List.map_cons, List.map_cons, List.filter_cons, ih]
      have e : u - o + (t - u) = t - o := by omega
      rw [e]
      by_cases h2 : t - o < w
      · rw [if_pos (decide_eq_true h2), if_pos (decide_eq_true h2), List.map_cons]
      · rw [if_neg (fun z => h2 (of_decide_eq_true z)), if_neg (fun z => h2 (of_decide_eq_true z))]
    · rw [if_neg (fun z => h1 (of_decide_eq_true z)), ih, if_neg (fun z => h1 (by have := of_decide_eq_true z; omega))]
theorem win_good {K : List Int} {t w : Int} : (K.filter fun o => decide (t - o < w)).length = (K.filter fun o => decide (t - w < o)).length := by
  congr 2
  funext o
  by_cases h : t - o < w
  · rw [decide_eq_true h, decide_eq_true (by omega)]
  · rw [decide_eq_false h, decide_eq_false (by omega)]
/-- the part as the next event is met -/
def MetIs (f : Fi) (xs K : List Int) (t : Int) (p : Pt) : Prop := match f with
  | .sp n => match K.getLast? with
    | none => p = .i n
    | some l => p = .i (mn (t - l) n)
  | .fr n => match xs.getLast? with
    | none => p = .i (n + 1)
    | some u => p = .i (mn (t - u) (n + 1))
  | .ev n _ => p = .i ((xs.length : Int) % n)
  | .li _ w => p = .l ((K.filter fun o => decide (t - o < w)).map fun o => t - o)
theorem met_is {f : Fi} {xs K : List Int} {t : Int} {p : Pt} (h : PartIs f xs K p) (hlt : ∀ u, xs.getLast? = some u → u < t) (hsub : ∀ l, K.getLast? = some l → l ∈ xs) : MetIs f xs K t (match xs.getLast? with | none => p | some u => f.age (t - u) p) := by
  cases hx : xs.getLast? with
  | none =>
    have hxs := List.getLast?_eq_none_iff.mp hx
    subst hxs
    cases f with
    | sp n =>
      cases hk : K.getLast? with
      | none =>
        have h' : (match K.getLast? with | none => p = .i n | some l => ∃ u, ([] : List Int).getLast? = some u ∧ p = .i (mn (u - l) n)) := h
        rw [hk] at h'
        show (match K.getLast? with | none => p = .i n | some l => p = .i (mn (t - l) n))
        rw [hk]
        exact h'
      | some l => exact absurd (hsub l hk) (by simp)
    | fr n => exact h
    | ev n r => exact h
    | li c w =>
      obtain ⟨h1, h2⟩ := h
      show p = _
      rw [h1, h2]
      rfl
  | some u =>
    have hu := hlt u hx
    cases f with
    | sp n =>
      have h' : (match K.getLast? with | none => p = .i n | some l => ∃ u, xs.getLast? = some u ∧ p = .i (mn (u - l) n)) := h
      show (match K.getLast? with | none => Fi.age (t - u) (.sp n) p = .i n | some l => Fi.age (t - u) (.sp n) p = .i (mn (t - l) n))
      cases hk : K.getLast? with
      | none =>
        rw [hk] at h'
        dsimp only at h' ⊢
        rw [h']
        exact age_init (f := .sp n) (by omega)
      | some l =>
        rw [hk] at h'
        obtain ⟨u2, e1, e2⟩ := h'
        rw [hx] at e1
        cases e1
        dsimp only
        rw [e2]
        refine congrArg Pt.i ((mn_age (by omega)).trans ?_)
        congr 1
        omega
    | fr n =>
      have h' : (match xs.getLast? with | none => p = .i (n + 1) | some _ => p = .i 0) := h
      rw [hx] at h'
      show (match xs.getLast? with | none => _ | some u2 => Fi.age (t - u) (.fr n) p = .i (mn (t - u2) (n + 1)))
      rw [hx]
      dsimp only at h' ⊢
      rw [h']
      show Pt.i (if 0 + (t - u) < n + 1 then 0 + (t - u) else n + 1) = _
      rw [Int.zero_add]
      rfl
    | ev n r => exact h
    | li c w =>
      have h' : (match xs.getLast? with | none => p = .l [] ∧ K = [] | some u => p = .l ((K.filter fun o => decide (u - o < w)).map fun o => u - o)) := h
      rw [hx] at h'
      dsimp only at h'
      show Fi.age (t - u) (.li c w) p = _
      rw [h']
      exact congrArg Pt.l (win_age hu)
theorem dec_is {f : Fi} {xs K : List Int} {t : Int} {p : Pt} (hg : f.good) (h : MetIs f xs K t p) (hxl : ∀ u, xs.getLast? = some u → xs.getD (xs.length - 1) 0 = u) : (f.dec p).1 = goodF f xs K xs.length t ∧ PartIs f (xs ++ [t]) (if goodF f xs K xs.length t = true then K ++ [t] else K) (f.dec p).2 := by
  cases f with
  | sp n =>
    have h' : (match K.getLast? with | none => p = .i n | some l => p = .i (mn (t - l) n)) := h
    have hn : 1 ≤ n := hg.1
    have part : ∀ K' q, (match K'.getLast? with | none => q = .i n | some l => ∃ u, (xs ++ [t]).getLast? = some u ∧ q = .i (mn (u - l) n)) → PartIs (.sp n) (xs ++ [t]) K' q := fun _ _ z => z
    cases hk : K.getLast? with
    | none =>
      rw [hk] at h'
      dsimp only at h'
      subst h'
      have g : goodF (.sp n) xs K xs.length t = true := by show (match K.getLast? with | none => true | some u => decide (n ≤ t - u)) = true; rw [hk]
      have d : Fi.dec (.sp n) (.i n) = (true, .i 0) := if_pos (Int.le_refl _)
      rw [g, d, if_pos rfl]
      refine ⟨rfl, part _ _ ?_⟩
      rw [last_snoc]
      refine ⟨t, last_snoc, ?_⟩
      unfold mn
      rw [if_pos (by omega), Int.sub_self]
    | some l =>
      rw [hk] at h'
      dsimp only at h'
      subst h'
      have g : goodF (.sp n) xs K xs.length t = decide (n ≤ t - l) := by show (match K.getLast? with | none => true | some u => decide (n ≤ t - u)) = _; rw [hk]
      rw [g]
      by_cases c : n ≤ t - l
      · have e : mn (t - l) n = n := if_neg (by omega)
        have d : Fi.dec (.sp n) (.i (mn (t - l) n)) = (true, .i 0) := by rw [e]; exact if_pos (Int.le_refl _)
        rw [d, decide_eq_true c, if_pos rfl]
        refine ⟨rfl, part _ _ ?_⟩
        rw [last_snoc]
        refine ⟨t, last_snoc, ?_⟩
        unfold mn
        rw [if_pos (by omega), Int.sub_self]
      · have e : mn (t - l) n = t - l := if_pos (by omega)
        have d : Fi.dec (.sp n) (.i (mn (t - l) n)) = (false, .i (mn (t - l) n)) := if_neg (by rw [e]; exact c)
        rw [d, decide_eq_false c, if_neg Bool.false_ne_true]
        refine ⟨rfl, part _ _ ?_⟩
        rw [hk]
        exact ⟨t, last_snoc, rfl⟩
  | fr n =>
    have hn : 1 ≤ n := hg.1
    have h' : (match xs.getLast? with | none => p = .i (n + 1) | some u => p = .i (mn (t - u) (n + 1))) := h
    have part : ∀ K', PartIs (.fr n) (xs ++ [t]) K' (.i 0) := fun K' => by
      show (match (xs ++ [t]).getLast? with | none => Pt.i 0 = .i (n + 1) | some _ => Pt.i 0 = .i 0)
      rw [last_snoc]
    cases hx : xs.getLast? with
    | none =>
      rw [hx] at h'
      dsimp only at h'
      subst h'
      have hxs := List.getLast?_eq_none_iff.mp hx
      subst hxs
      refine ⟨?_, part _⟩
      show decide (n < n + 1) = true
      exact decide_eq_true (by omega)
    | some u =>
      rw [hx] at h'
      dsimp only at h'
      subst h'
      refine ⟨?_, part _⟩
      have hl := hxl u hx
      cases hn2 : xs.length with
      | zero => rw [List.length_eq_zero_iff.mp hn2] at hx; cases hx
      | succ j =>
        rw [hn2] at hl
        show decide (n < mn (t - u) (n + 1)) = decide (n < t - xs.getD j 0)
        have e : xs.getD j 0 = u := hl
        rw [e]
        unfold mn
        by_cases c : t - u < n + 1
        · rw [if_pos c]
        · rw [if_neg c, decide_eq_true (by omega), decide_eq_true (by omega)]
  | ev n r =>
    have hn : 2 ≤ n := hg.1
    have h' : p = .i ((xs.length : Int) % n) := h
    subst h'
    refine ⟨rfl, ?_⟩
    show Pt.i (((xs.length : Int) % n + 1) % n) = .i (((xs ++ [t]).length : Int) % n)
    rw [List.length_append]
    show _ = Pt.i (((xs.length + 1 : Nat) : Int) % n)
    rw [Int.emod_add_emod]
    rfl
  | li c w =>
    obtain ⟨hc1, hc2, hw1, hw2⟩ := hg
    have h' : p = .l ((K.filter fun o => decide (t - o < w)).map fun o => t - o) := h
    subst h'
    have g : goodF (.li c w) xs K xs.length t = decide (((K.filter fun o => decide (t - w < o)).length : Int) < c) := rfl
    have part : ∀ K', PartIs (.li c w) (xs ++ [t]) K' (.l ((K'.filter fun o => decide (t - o < w)).map fun o => t - o)) := fun K' => by
      show (match (xs ++ [t]).getLast? with | none => _ | some u => Pt.l ((K'.filter fun o => decide (t - o < w)).map fun o => t - o) = .l ((K'.filter fun o => decide (u - o < w)).map fun o => u - o))
      rw [last_snoc]
    rw [g]
    have lenE : ((K.filter fun o => decide (t - o < w)).map fun o => t - o).length = (K.filter fun o => decide (t - w < o)).length := by rw [List.length_map, win_good]
    by_cases cc : ((K.filter fun o => decide (t - w < o)).length : Int) < c
    · have d : Fi.dec (.li c w) (.l ((K.filter fun o => decide (t - o < w)).map fun o => t - o)) = (true, .l (((K.filter fun o => decide (t - o < w)).map fun o => t - o) ++ [0])) := if_pos (by rw [lenE]; exact cc)
      rw [d, decide_eq_true cc, if_pos rfl]
      refine ⟨rfl, ?_⟩
      have e : ((K.filter fun o => decide (t - o < w)).map fun o => t - o) ++ [0] = ((K ++ [t]).filter fun o => decide (t - o < w)).map fun o => t - o := by
        rw [List.filter_append, List.map_append]
        congr 1
        rw [List.filter_cons, if_pos (decide_eq_true (by omega))]
        show [0] = [t - t]
        rw [Int.sub_self]
      show PartIs (.li c w) (xs ++ [t]) (K ++ [t]) (.l (((K.filter fun o => decide (t - o < w)).map fun o => t - o) ++ [0]))
      rw [e]
      exact part _
    · have d : Fi.dec (.li c w) (.l ((K.filter fun o => decide (t - o < w)).map fun o => t - o)) = (false, .l ((K.filter fun o => decide (t - o < w)).map fun o => t - o)) := if_neg (by rw [lenE]; exact cc)
      rw [d, decide_eq_false cc, if_neg Bool.false_ne_true]
      exact ⟨rfl, part _⟩
theorem one_state {f : Fi} (hg : f.good) (xs : List Int) (hup : Up xs) : keepL [f] xs = keptF f xs ∧ (∀ a ∈ keptF f xs, a ∈ xs) ∧ ∃ p, (mrun [f] xs).1 = [p] ∧ PartIs f xs (keptF f xs) p := by
  refine snoc_ind (P := fun xs => Up xs → keepL [f] xs = keptF f xs ∧ (∀ a ∈ keptF f xs, a ∈ xs) ∧ ∃ p, (mrun [f] xs).1 = [p] ∧ PartIs f xs (keptF f xs) p) (fun _ => ⟨rfl, fun a ha => ha, f.init, rfl, ?_⟩) (fun xs t ih hup => ?_) xs hup
  · cases f with
    | li c w => exact ⟨rfl, rfl⟩
    | sp n => exact rfl
    | fr n => exact rfl
    | ev n r => show Pt.i 0 = .i (((0 : Nat) : Int) % n); rw [show ((0 : Nat) : Int) % n = 0 from Int.zero_emod n]
  · obtain ⟨hup1, hlt⟩ := up_split hup
    obtain ⟨e1, hsub, p, e2, hp⟩ := ih hup1
    have hm := met_is (t := t) hp (fun u hu => hlt u (List.mem_of_getLast? hu)) fun l hl => hsub l (List.mem_of_getLast? hl)
    have m : met [f] xs t = [match xs.getLast? with | none => p | some u => f.age (t - u) p] := by
      unfold met aged
      rw [mrun_prev, e2]
      cases xs.getLast? <;> rfl
    generalize (match xs.getLast? with | none => p | some u => f.age (t - u) p) = p1 at hm m
    have hd := dec_is hg hm fun u hu => by
      rw [List.getLast?_eq_getElem?] at hu
      rw [List.getD_eq_getElem?_getD, hu]
      rfl
    have sK : keepL [f] (xs ++ [t]) = keptF f (xs ++ [t]) := by
      rw [keepL_snoc, m, rd_one, keptF_snoc, hd.1, e1]
      by_cases b : goodF f xs (keptF f xs) xs.length t = true
      · rw [if_pos b, if_pos b, if_pos rfl]
      · rw [if_neg b, if_neg b, if_neg (fun z => by cases z), List.append_nil]
    refine ⟨sK, fun a ha => ?_, (f.dec p1).2, ?_, ?_⟩
    · rw [keptF_snoc] at ha
      split at ha
      · rcases List.mem_append.mp ha with ha | ha
        · exact List.mem_append_left _ (hsub a ha)
        · exact List.mem_append_right _ ha
      · exact List.mem_append_left _ (hsub a ha)
    · rw [mrun_snoc]
      show (rd [f] (met [f] xs t)).1 = _
      rw [m, rd_one]
    · rw [keptF_snoc]
      exact hd.2
/-! ### the whole -/
theorem keptF_up {f : Fi} (xs : List Int) (hup : Up xs) : Up (keptF f xs) ∧ ∀ a ∈ keptF f xs, a ∈ xs := by
  refine snoc_ind (P := fun xs => Up xs → Up (keptF f xs) ∧ ∀ a ∈ keptF f xs, a ∈ xs) (fun _ => ⟨List.Pairwise.nil, fun a ha => ha⟩) (fun xs t ih hup => ?_) xs hup
  obtain ⟨hup1, hlt⟩ := up_split hup
  obtain ⟨h1, h2⟩ := ih hup1
  rw [keptF_snoc]
  split
  · refine ⟨List.pairwise_append.mpr ⟨h1, List.pairwise_singleton _ _, fun a ha b hb => ?_⟩, fun a ha => ?_⟩
    · rw [List.mem_singleton.mp hb]; exact hlt a (h2 a ha)
    · rcases List.mem_append.mp ha with ha | ha
      · exact List.mem_append_left _ (h2 a ha)
      · exact List.mem_append_right _ ha
  · exact ⟨h1, fun a ha => List.mem_append_left _ (h2 a ha)⟩
theorem keep_nil (xs : List Int) : keepL [] xs = xs := by
  refine snoc_ind (P := fun xs => keepL [] xs = xs) rfl (fun xs t ih => ?_) xs
  rw [keepL_snoc, ih]
  rfl
/-- the machine keeps what the definition keeps -/
theorem keep_res : ∀ (ps : List Fi), (∀ f ∈ ps, f.good) → ∀ xs : List Int, Up xs → keepL ps xs = resL ps xs
  | [], _, xs, _ => keep_nil xs
  | f :: ps, hg, xs, hup => by
    have h1 := (one_state (hg f List.mem_cons_self) xs hup).1
    rw [keep_cons hup, h1, keep_res ps (fun g hg' => hg g (List.mem_cons_of_mem _ hg')) _ (keptF_up xs hup).1]
    rfl
theorem resL_up : ∀ (ps : List Fi) (xs : List Int), Up xs → Up (resL ps xs) ∧ ∀ a ∈ resL ps xs, a ∈ xs
  | [], xs, h => ⟨h, fun a ha => ha⟩
  | f :: ps, xs, h => by
    obtain ⟨h1, h2⟩ := keptF_up (f := f) xs h
    obtain ⟨h3, h4⟩ := resL_up ps _ h1
    exact ⟨h3, fun a ha => h2 a (h4 a ha)⟩
end TL

/-! Searching all words by their states: the first of the shortest. -/
namespace TL
abbrev Wd (σ : Type) := List Int × σ
def ext1 (xs : List Int) (g : Nat) : List Int := xs ++ [xs.getLastD 0 + (g : Int)]
section
variable {σ : Type} [DecidableEq σ]
def uniq : List σ → List (Wd σ) → List (Wd σ)
  | _, [] => []
  | S, x :: xs => if x.2 ∈ S then uniq S xs else x :: uniq (S ++ [x.2]) xs
theorem uniq_cons {S : List σ} {x : Wd σ} {xs : List (Wd σ)} : uniq S (x :: xs) = if x.2 ∈ S then uniq S xs else x :: uniq (S ++ [x.2]) xs := rfl
theorem uniq_app : ∀ (a b : List (Wd σ)) (S : List σ), uniq S (a ++ b) = uniq S a ++ uniq (S ++ (uniq S a).map (·.2)) b
  | [], b, S => by simp [uniq]
  | x :: a, b, S => by
    rw [List.cons_append, uniq_cons, uniq_cons]
    by_cases h : x.2 ∈ S
    · rw [if_pos h, if_pos h]
      exact uniq_app a b S
    · rw [if_neg h, if_neg h, uniq_app a b (S ++ [x.2]), List.cons_append]
      simp
theorem uniq_none : ∀ (a : List (Wd σ)) (S : List σ), (∀ x ∈ a, x.2 ∈ S) → uniq S a = []
  | [], _, _ => rfl
  | x :: a, S, h => by
    rw [uniq_cons]
    rw [if_pos (h x List.mem_cons_self)]
    exact uniq_none a S fun y hy => h y (List.mem_cons_of_mem _ hy)
theorem uniq_in : ∀ (a : List (Wd σ)) (S : List σ), ∀ x ∈ a, x.2 ∈ S ++ (uniq S a).map (·.2)
  | [], _, _, h => by cases h
  | y :: a, S, x, h => by
    rw [uniq_cons]
    rcases List.mem_cons.mp h with rfl | h
    · split
      · rename_i hs; exact List.mem_append_left _ hs
      · exact List.mem_append_right _ List.mem_cons_self
    · split
      · exact uniq_in a S x h
      · have := uniq_in a (S ++ [y.2]) x h
        simpa using this
theorem uniq_nodup : ∀ (a : List (Wd σ)) (S : List σ), S.Nodup → (S ++ (uniq S a).map (·.2)).Nodup
  | [], S, h => by simpa [uniq] using h
  | y :: a, S, h => by
    rw [uniq_cons]
    split
    · exact uniq_nodup a S h
    · rename_i hn
      have := uniq_nodup a (S ++ [y.2]) (by
        rw [List.nodup_append]
        refine ⟨h, List.nodup_cons.mpr ⟨by simp, List.nodup_nil⟩, fun u hu v hv => ?_⟩
        rw [List.mem_singleton.mp hv]
        exact fun z => hn (z ▸ hu))
      simpa using this
theorem uniq_sub : ∀ (a : List (Wd σ)) (S : List σ), ∀ x ∈ uniq S a, x ∈ a
  | [], _, _, h => by cases h
  | y :: a, S, x, h => by
    rw [uniq_cons] at h
    split at h
    · exact List.mem_cons_of_mem _ (uniq_sub a S x h)
    · rcases List.mem_cons.mp h with rfl | h
      · exact List.mem_cons_self
      · exact List.mem_cons_of_mem _ (uniq_sub a _ x h)
theorem uniq_snoc (a : List (Wd σ)) (y : Wd σ) (S : List σ) : uniq S (a ++ [y]) = if y.2 ∈ S ++ (uniq S a).map (·.2) then uniq S a else uniq S a ++ [y] := by
  rw [uniq_app]
  show uniq S a ++ (if y.2 ∈ S ++ (uniq S a).map (·.2) then [] else [y]) = _
  split
  · rw [List.append_nil]
  · rfl
variable (R : Nat) (step : Nat → σ → σ) (bad : Nat → σ → Bool)
def succs (x : Wd σ) : List (Wd σ) := (List.range R).map fun j => (ext1 x.1 (j + 1), step (j + 1) x.2)
def bads (x : Wd σ) : List (List Int) := ((List.range R).filter fun j => bad (j + 1) x.2).map fun j => ext1 x.1 (j + 1)
def expand (l : List (Wd σ)) : List (Wd σ) := l.flatMap (succs R step)
def badL (l : List (Wd σ)) : List (List Int) := l.flatMap (bads R bad)
def lev (q : σ) : Nat → List (Wd σ)
  | 0 => [([0], q)]
  | k + 1 => expand R step (lev q k)
def IsFirst (q : σ) : Option (List Int) → Prop
  | none => ∀ k, badL R bad (lev R step q k) = []
  | some log => ∃ k, (∀ j, j < k → badL R bad (lev R step q j) = []) ∧ (badL R bad (lev R step q k)).head? = some log
variable {R step bad}
theorem isFirst_uniq {q : σ} {a b : Option (List Int)} (ha : IsFirst R step bad q a) (hb : IsFirst R step bad q b) : a = b := by
  cases a with
  | none =>
    cases b with
    | none => rfl
    | some y =>
      obtain ⟨k, _, h⟩ := hb
      rw [ha k] at h
      cases h
  | some x =>
    obtain ⟨k, h1, h2⟩ := ha
    cases b with
    | none => rw [hb k] at h2; cases h2
    | some y =>
      obtain ⟨m, g1, g2⟩ := hb
      rcases Nat.lt_trichotomy k m with h | h | h
      · rw [g1 k h] at h2; cases h2
      · subst h; rw [h2] at g2; exact g2
      · rw [h1 m h] at g2; cases g2
theorem bads_nil {x : Wd σ} (h : ∀ j, j < R → bad (j + 1) x.2 = false) : bads R bad x = [] := by
  unfold bads
  rw [List.filter_eq_nil_iff.mpr (fun j hj => by rw [h j (List.mem_range.mp hj)]; exact Bool.false_ne_true)]
  rfl
theorem bads_safe {x : Wd σ} (h : bads R bad x = []) : ∀ j, j < R → bad (j + 1) x.2 = false := fun j hj => by
  unfold bads at h
  have := List.filter_eq_nil_iff.mp (List.map_eq_nil_iff.mp h) j (List.mem_range.mpr hj)
  exact Bool.eq_false_iff.mpr this
theorem badL_cons {x : Wd σ} {l : List (Wd σ)} : badL R bad (x :: l) = bads R bad x ++ badL R bad l := List.flatMap_cons
theorem expand_cons {x : Wd σ} {l : List (Wd σ)} : expand R step (x :: l) = succs R step x ++ expand R step l := List.flatMap_cons
theorem bad_uniq : ∀ (l : List (Wd σ)) (S : List σ), (∀ s ∈ S, ∀ j, j < R → bad (j + 1) s = false) → (badL R bad l).head? = (badL R bad (uniq S l)).head?
  | [], _, _ => rfl
  | x :: l, S, h => by
    rw [uniq_cons]
    rw [badL_cons]
    by_cases hx : x.2 ∈ S
    · rw [if_pos hx, bads_nil (h _ hx), List.nil_append]
      exact bad_uniq l S h
    · rw [if_neg hx, badL_cons]
      cases hb : bads R bad x with
      | cons y ys => rfl
      | nil =>
        rw [List.nil_append, List.nil_append]
        refine bad_uniq l _ fun s hs => ?_
        rcases List.mem_append.mp hs with hs | hs
        · exact h s hs
        · rw [List.mem_singleton.mp hs]
          exact bads_safe hb
theorem expand_uniq : ∀ (l : List (Wd σ)) (S K : List σ), (∀ s ∈ S, ∀ j, j < R → step (j + 1) s ∈ K) → uniq K (expand R step l) = uniq K (expand R step (uniq S l))
  | [], _, _, _ => rfl
  | x :: l, S, K, h => by
    have inS : ∀ {s : σ} {K : List σ} {y : Wd σ}, (∀ j, j < R → step (j + 1) s ∈ K) → x.2 = s → y ∈ succs R step x → y.2 ∈ K := fun {s K y} q e hy => by
      unfold succs at hy
      obtain ⟨j, hj, rfl⟩ := List.mem_map.mp hy
      show step (j + 1) x.2 ∈ K
      rw [e]
      exact q j (List.mem_range.mp hj)
    rw [expand_cons]
    by_cases hx : x.2 ∈ S
    · have e : uniq S (x :: l) = uniq S l := if_pos hx
      rw [e, uniq_app, uniq_none _ K (fun y hy => inS (h _ hx) rfl hy)]
      simp only [List.map_nil, List.append_nil, List.nil_append]
      exact expand_uniq l S K h
    · have e : uniq S (x :: l) = x :: uniq (S ++ [x.2]) l := if_neg hx
      rw [e, expand_cons, uniq_app, uniq_app]
      congr 1
      refine expand_uniq l _ _ fun s hs j hj => ?_
      rcases List.mem_append.mp hs with hs | hs
      · exact List.mem_append_left _ (h s hs j hj)
      · rw [List.mem_singleton.mp hs]
        refine uniq_in (succs R step x) K (ext1 x.1 (j + 1), step (j + 1) x.2) ?_
        unfold succs
        exact List.mem_map.mpr ⟨j, List.mem_range.mpr hj, rfl⟩
/-- where a search stands -/
structure Lv (R : Nat) (step : Nat → σ → σ) (bad : Nat → σ → Bool) (q : σ) (k : Nat) (front : List (Wd σ)) (seen before : List σ) : Prop where
  fr : front = uniq before (lev R step q k)
  sn : seen = before ++ front.map (·.2)
  safe : ∀ s ∈ before, ∀ j, j < R → bad (j + 1) s = false
  closed : ∀ s ∈ before, ∀ j, j < R → step (j + 1) s ∈ seen
  nodup : seen.Nodup
  no : ∀ j, j < k → badL R bad (lev R step q j) = []
theorem lv_zero {q : σ} : Lv R step bad q 0 [([0], q)] [q] [] where
  fr := rfl
  sn := rfl
  safe := fun _ h => nomatch h
  closed := fun _ h => nomatch h
  nodup := List.nodup_cons.mpr ⟨by simp, List.nodup_nil⟩
  no := fun _ h => absurd h (Nat.not_lt_zero _)
variable {q : σ} {k : Nat} {front : List (Wd σ)} {seen before : List σ}
theorem Lv.head (h : Lv R step bad q k front seen before) : (badL R bad (lev R step q k)).head? = (badL R bad front).head? := by
  rw [h.fr]
  exact bad_uniq _ _ h.safe
theorem head_none {α : Type} {l : List α} (h : l.head? = none) : l = [] := by
  cases l with
  | nil => rfl
  | cons => cases h
theorem Lv.found (h : Lv R step bad q k front seen before) {log : List Int} (e : (badL R bad front).head? = some log) : IsFirst R step bad q (some log) := ⟨k, h.no, h.head.trans e⟩
theorem Lv.next (h : Lv R step bad q k front seen before) (e : badL R bad front = []) : Lv R step bad q (k + 1) (uniq seen (expand R step front)) (seen ++ (uniq seen (expand R step front)).map (·.2)) seen where
  fr := by
    show _ = uniq seen (expand R step (lev R step q k))
    rw [expand_uniq (lev R step q k) before seen h.closed, ← h.fr]
  sn := rfl
  safe := fun s hs => by
    rw [h.sn] at hs
    rcases List.mem_append.mp hs with hs | hs
    · exact h.safe s hs
    · obtain ⟨x, hx, rfl⟩ := List.mem_map.mp hs
      exact bads_safe (List.flatMap_eq_nil_iff.mp e x hx)
  closed := fun s hs j hj => by
    rw [h.sn] at hs
    rcases List.mem_append.mp hs with hs | hs
    · exact List.mem_append_left _ (h.closed s hs j hj)
    · obtain ⟨x, hx, rfl⟩ := List.mem_map.mp hs
      refine uniq_in (expand R step front) seen (ext1 x.1 (j + 1), step (j + 1) x.2) ?_
      refine List.mem_flatMap.mpr ⟨x, hx, List.mem_map.mpr ⟨j, List.mem_range.mpr hj, rfl⟩⟩
  nodup := uniq_nodup _ _ h.nodup
  no := fun j hj => by
    by_cases hk : j = k
    · subst hk
      refine head_none ?_
      rw [h.head, e]
      rfl
    · exact h.no j (by omega)
theorem Lv.go (h : Lv R step bad q k [] seen before) : ∀ m, ∃ b, Lv R step bad q (k + m) [] seen b
  | 0 => ⟨before, h⟩
  | m + 1 => by
    obtain ⟨b, z⟩ := h.go m
    have := z.next rfl
    refine ⟨seen, ?_⟩
    have e : uniq seen (expand R step ([] : List (Wd σ))) = [] := rfl
    rw [e] at this
    have z2 : Lv R step bad q (k + m + 1) [] seen seen := by simpa using this
    exact z2
theorem Lv.stop (h : Lv R step bad q k [] seen before) : IsFirst R step bad q none := fun j => by
  by_cases hj : j < k
  · exact h.no j hj
  · obtain ⟨b, z⟩ := h.go (j - k)
    have e : k + (j - k) = j := by omega
    rw [e] at z
    refine head_none ?_
    rw [z.head]
    rfl
theorem lev_len {q : σ} : ∀ {k : Nat}, ∀ x ∈ lev R step q k, x.1.length = k + 1
  | 0, x, h => by rw [List.mem_singleton.mp h]; rfl
  | k + 1, x, h => by
    obtain ⟨y, hy, h⟩ := List.mem_flatMap.mp (show x ∈ (lev R step q k).flatMap (succs R step) from h)
    obtain ⟨j, _, rfl⟩ := List.mem_map.mp h
    show (y.1 ++ [_]).length = _
    rw [List.length_append, lev_len y hy]
    rfl
/-- what holds of the first state and passes on holds of all -/
theorem lev_inv {P : Wd σ → Prop} {q : σ} (h0 : P ([0], q)) (hs : ∀ x j, P x → j < R → P (ext1 x.1 (j + 1), step (j + 1) x.2)) : ∀ {k : Nat}, ∀ x ∈ lev R step q k, P x
  | 0, x, h => by rw [List.mem_singleton.mp h]; exact h0
  | k + 1, x, h => by
    obtain ⟨y, hy, h⟩ := List.mem_flatMap.mp (show x ∈ (lev R step q k).flatMap (succs R step) from h)
    obtain ⟨j, hj, rfl⟩ := List.mem_map.mp h
    exact hs y j (lev_inv h0 hs y hy) (List.mem_range.mp hj)
theorem Lv.mem (h : Lv R step bad q k front seen before) : ∀ x ∈ front, x ∈ lev R step q k := fun x hx => by
  rw [h.fr] at hx
  exact uniq_sub _ _ x hx
end
/-! ### counting -/
theorem nodup_le {α : Type} [DecidableEq α] : ∀ {l m : List α}, l.Nodup → (∀ x ∈ l, x ∈ m) → l.length ≤ m.length
  | [], _, _, _ => Nat.zero_le _
  | x :: l, m, nd, h => by
    obtain ⟨n1, n2⟩ := List.nodup_cons.mp nd
    have hx := h x List.mem_cons_self
    have := nodup_le (l := l) (m := m.erase x) n2 fun y hy => by
      rw [List.mem_erase_of_ne (fun (e : y = x) => n1 (e ▸ hy))]
      exact h y (List.mem_cons_of_mem _ hy)
    rw [List.length_erase_of_mem hx] at this
    have hm := List.length_pos_of_mem hx
    rw [List.length_cons]
    omega
/-- sublists -/
def subs : List Int → List (List Int)
  | [] => [[]]
  | x :: xs => (subs xs).map (x :: ·) ++ subs xs
def downL : Nat → List Int
  | 0 => []
  | n + 1 => (n : Int) :: downL n
theorem sub_down : ∀ (n : Nat) (as : List Int), as.Pairwise (· > ·) → (∀ a ∈ as, 0 ≤ a ∧ a < n) → as ∈ subs (downL n)
  | 0, [], _, _ => List.mem_singleton.mpr rfl
  | 0, a :: as, _, h => by have := h a List.mem_cons_self; omega
  | n + 1, [], p, _ => List.mem_append_right _ (sub_down n [] p fun a h => nomatch h)
  | n + 1, a :: as, p, h => by
    obtain ⟨p1, p2⟩ := List.pairwise_cons.mp p
    have ha := h a List.mem_cons_self
    by_cases e : a = (n : Int)
    · subst e
      refine List.mem_append_left _ (List.mem_map.mpr ⟨as, sub_down n as p2 fun b hb => ⟨(h b (List.mem_cons_of_mem _ hb)).1, p1 b hb⟩, rfl⟩)
    · refine List.mem_append_right _ (sub_down n (a :: as) p fun b hb => ?_)
      rcases List.mem_cons.mp hb with rfl | hb
      · exact ⟨ha.1, by omega⟩
      · have := h b (List.mem_cons_of_mem _ hb)
        have := p1 b hb
        exact ⟨by omega, by omega⟩
/-- all parts of a filter -/
def rangeI (n : Nat) : List Pt := (List.range n).map fun (k : Nat) => Pt.i (k : Int)
def parts : Fi → List Pt
  | .sp n => rangeI (n.toNat + 1)
  | .fr n => rangeI (n.toNat + 2)
  | .ev n _ => rangeI n.toNat
  | .li c w => ((subs (downL w.toNat)).filter fun as => decide ((as.length : Int) ≤ c)).map Pt.l
theorem mem_rangeI {n : Nat} {a : Int} (h0 : 0 ≤ a) (h : a < n) : Pt.i a ∈ rangeI n := List.mem_map.mpr ⟨a.toNat, List.mem_range.mpr (by omega), by rw [Int.toNat_of_nonneg h0]⟩
theorem rangeI_len {n : Nat} : (rangeI n).length = n := by unfold rangeI; rw [List.length_map, List.length_range]
theorem parts_len {f : Fi} (h : f.good) : 3 * ((parts f).length : Int) ≤ 7 * f.wt := by
  cases f with
  | sp n => have := h.1; show 3 * (((rangeI _).length : Nat) : Int) ≤ 7 * n; rw [rangeI_len]; omega
  | fr n => have := h.1; show 3 * (((rangeI _).length : Nat) : Int) ≤ 7 * (n + 1); rw [rangeI_len]; omega
  | ev n r => have := h.1; show 3 * (((rangeI _).length : Nat) : Int) ≤ 7 * n; rw [rangeI_len]; omega
  | li c w =>
    obtain ⟨h1, h2, h3, h4⟩ := h
    have hc : c = 1 ∨ c = 2 ∨ c = 3 := by omega
    have hw : w = 1 ∨ w = 2 ∨ w = 3 ∨ w = 4 ∨ w = 5 ∨ w = 6 := by omega
    rcases hc with rfl | rfl | rfl <;> rcases hw with rfl | rfl | rfl | rfl | rfl | rfl <;> decide
/-- a part that can come -/
def PtOk : Fi → Pt → Prop
  | .sp n, .i a => 0 ≤ a ∧ a ≤ n
  | .fr n, .i a => 0 ≤ a ∧ a ≤ n + 1
  | .ev n _, .i a => 0 ≤ a ∧ a < n
  | .li c w, .l as => as.Pairwise (· > ·) ∧ (∀ a ∈ as, 0 ≤ a ∧ a < w) ∧ (as.length : Int) ≤ c
  | _, _ => False
theorem ptOk_mem {f : Fi} {p : Pt} (h : PtOk f p) : p ∈ parts f := by
  cases f with
  | sp n => cases p with
    | i a => exact mem_rangeI h.1 (by have := h.1; have := h.2; omega)
    | l as => cases h
  | fr n => cases p with
    | i a => exact mem_rangeI h.1 (by have := h.1; have := h.2; omega)
    | l as => cases h
  | ev n r => cases p with
    | i a => exact mem_rangeI h.1 (by have := h.1; have := h.2; omega)
    | l as => cases h
  | li c w => cases p with
    | i a => cases h
    | l as =>
      obtain ⟨h1, h2, h3⟩ := h
      refine List.mem_map.mpr ⟨as, List.mem_filter.mpr ⟨sub_down w.toNat as h1 fun a ha => ?_, decide_eq_true h3⟩, rfl⟩
      have := h2 a ha
      omega
theorem ptOk_init {f : Fi} (h : f.good) : PtOk f f.init := by
  cases f with
  | sp n => exact ⟨by have := h.1; show (0 : Int) ≤ n; omega, Int.le_refl _⟩
  | fr n => exact ⟨by have := h.1; show (0 : Int) ≤ n + 1; omega, Int.le_refl _⟩
  | ev n r => exact ⟨Int.le_refl _, by have := h.1; omega⟩
  | li c w => exact ⟨List.Pairwise.nil, fun a h => (nomatch h), by have := h.1; show (0 : Int) ≤ c; omega⟩
theorem ptOk_age {f : Fi} {p : Pt} {g : Int} (hg : f.good) (h : PtOk f p) (h0 : 0 ≤ g) : PtOk f (f.age g p) := by
  cases f with
  | sp n => cases p with
    | i a =>
      have := h.1; have := h.2; have := hg.1
      show 0 ≤ (if a + g < n then a + g else n) ∧ (if a + g < n then a + g else n) ≤ n
      split <;> omega
    | l as => cases h
  | fr n => cases p with
    | i a =>
      have := h.1; have := h.2; have := hg.1
      show 0 ≤ (if a + g < n + 1 then a + g else n + 1) ∧ (if a + g < n + 1 then a + g else n + 1) ≤ n + 1
      split <;> omega
    | l as => cases h
  | ev n r => cases p with
    | i a => exact h
    | l as => cases h
  | li c w => cases p with
    | i a => cases h
    | l as =>
      obtain ⟨h1, h2, h3⟩ := h
      refine ⟨?_, fun a ha => ?_, ?_⟩
      · refine List.Pairwise.filter _ (List.pairwise_map.mpr (h1.imp fun {a b} hab => ?_))
        show a + g > b + g
        omega
      · obtain ⟨ha, hw⟩ := List.mem_filter.mp ha
        obtain ⟨b, hb, rfl⟩ := List.mem_map.mp ha
        have := h2 b hb
        exact ⟨by omega, of_decide_eq_true hw⟩
      · have := List.length_filter_le (fun a => decide (a < w)) (as.map (· + g))
        rw [List.length_map] at this
        show (((as.map (· + g)).filter fun a => decide (a < w)).length : Int) ≤ c
        omega
/-- behind a gap -/
def PtPos : Pt → Prop
  | .i _ => True
  | .l as => ∀ a ∈ as, 0 < a
theorem ptPos_age {f : Fi} {p : Pt} {g : Int} (h : PtOk f p) (h0 : 0 < g) : PtPos (f.age g p) := by
  cases f with
  | li c w => cases p with
    | i a => cases h
    | l as =>
      intro a ha
      obtain ⟨ha, _⟩ := List.mem_filter.mp (show a ∈ (as.map (· + g)).filter fun a => decide (a < w) from ha)
      obtain ⟨b, hb, rfl⟩ := List.mem_map.mp ha
      have := h.2.1 b hb
      omega
  | sp n => cases p with
    | i a => trivial
    | l as => cases h
  | fr n => cases p with
    | i a => trivial
    | l as => cases h
  | ev n r => cases p with
    | i a => trivial
    | l as => cases h
theorem ptPos_init {f : Fi} : PtPos f.init := by cases f <;> first | trivial | exact fun a h => nomatch h
theorem ptOk_dec {f : Fi} {p : Pt} (hg : f.good) (h : PtOk f p) (hp : PtPos p) : PtOk f (f.dec p).2 := by
  cases f with
  | sp n => cases p with
    | i a =>
      have := hg.1
      show PtOk (.sp n) (if n ≤ a then (true, Pt.i 0) else (false, Pt.i a)).2
      split
      · exact ⟨Int.le_refl _, by omega⟩
      · exact h
    | l as => cases h
  | fr n => cases p with
    | i a => exact ⟨Int.le_refl _, by have := hg.1; show (0 : Int) ≤ n + 1; omega⟩
    | l as => cases h
  | ev n r => cases p with
    | i a => exact ⟨Int.emod_nonneg _ (by have := hg.1; omega), Int.emod_lt_of_pos _ (by have := hg.1; omega)⟩
    | l as => cases h
  | li c w => cases p with
    | i a => cases h
    | l as =>
      obtain ⟨h1, h2, h3⟩ := h
      show PtOk (.li c w) (if (as.length : Int) < c then (true, Pt.l (as ++ [0])) else (false, Pt.l as)).2
      split
      · rename_i hl
        refine ⟨List.pairwise_append.mpr ⟨h1, List.pairwise_singleton _ _, fun a ha b hb => ?_⟩, fun a ha => ?_, ?_⟩
        · rw [List.mem_singleton.mp hb]
          exact hp a ha
        · rcases List.mem_append.mp ha with ha | ha
          · exact h2 a ha
          · rw [List.mem_singleton.mp ha]
            have := hg.2.2.1
            exact ⟨Int.le_refl _, by omega⟩
        · rw [List.length_append, List.length_singleton]
          omega
      · exact ⟨h1, h2, h3⟩
/-! ### states that can come -/
def allSt : List Fi → List (List Pt)
  | [] => [[]]
  | f :: ps => (parts f).flatMap fun p => (allSt ps).map (p :: ·)
def QOk : List Fi → List Pt → Prop
  | [], [] => True
  | f :: ps, p :: qs => PtOk f p ∧ QOk ps qs
  | _, _ => False
def QPos : List Pt → Prop := fun qs => ∀ p ∈ qs, PtPos p
theorem qok_mem : ∀ {ps : List Fi} {qs : List Pt}, QOk ps qs → qs ∈ allSt ps
  | [], [], _ => List.mem_singleton.mpr rfl
  | f :: ps, p :: qs, h => List.mem_flatMap.mpr ⟨p, ptOk_mem h.1, List.mem_map.mpr ⟨qs, qok_mem h.2, rfl⟩⟩
  | [], _ :: _, h => nomatch h
  | _ :: _, [], h => nomatch h
theorem qok_init : ∀ {ps : List Fi}, (∀ f ∈ ps, f.good) → QOk ps (ps.map Fi.init)
  | [], _ => trivial
  | f :: ps, h => ⟨ptOk_init (h f List.mem_cons_self), qok_init fun g hg => h g (List.mem_cons_of_mem _ hg)⟩
theorem qpos_init {ps : List Fi} : QPos (ps.map Fi.init) := fun p hp => by
  obtain ⟨f, _, rfl⟩ := List.mem_map.mp hp
  exact ptPos_init
theorem qok_age : ∀ {ps : List Fi} {qs : List Pt} {g : Int}, (∀ f ∈ ps, f.good) → QOk ps qs → 0 < g → QOk ps (ageAll g ps qs) ∧ QPos (ageAll g ps qs)
  | [], [], _, _, _, _ => ⟨trivial, fun p h => nomatch h⟩
  | f :: ps, p :: qs, g, hg, h, h0 => by
    obtain ⟨z1, z2⟩ := qok_age (ps := ps) (qs := qs) (fun g hg' => hg g (List.mem_cons_of_mem _ hg')) h.2 h0
    refine ⟨⟨ptOk_age (hg f List.mem_cons_self) h.1 (by omega), z1⟩, fun p' hp' => ?_⟩
    rcases List.mem_cons.mp (show p' ∈ f.age g p :: ageAll g ps qs from hp') with rfl | hp'
    · exact ptPos_age h.1 h0
    · exact z2 p' hp'
  | [], _ :: _, _, _, h, _ => nomatch h
  | _ :: _, [], _, _, h, _ => nomatch h
theorem qok_rd : ∀ {ps : List Fi} {qs : List Pt}, (∀ f ∈ ps, f.good) → QOk ps qs → QPos qs → QOk ps (rd ps qs).1
  | [], [], _, h, _ => h
  | f :: ps, p :: qs, hg, h, hp => by
    have a := ptOk_dec (hg f List.mem_cons_self) h.1 (hp p List.mem_cons_self)
    rw [rd_cons]
    split
    · exact ⟨a, qok_rd (fun g hg' => hg g (List.mem_cons_of_mem _ hg')) h.2 fun p' hp' => hp p' (List.mem_cons_of_mem _ hp')⟩
    · exact ⟨a, h.2⟩
  | [], _ :: _, _, h, _ => nomatch h
  | _ :: _, [], _, h, _ => nomatch h
theorem flat_len {α β : Type} {f : α → List β} {n : Nat} (h : ∀ a, (f a).length = n) : ∀ l : List α, (l.flatMap f).length = l.length * n
  | [] => by simp
  | a :: l => by rw [List.flatMap_cons, List.length_append, h a, flat_len h l, List.length_cons, Nat.add_mul, Nat.one_mul, Nat.add_comm]
theorem allSt_len : ∀ {ps : List Fi}, (∀ f ∈ ps, f.good) → (3 : Int) ^ ps.length * ((allSt ps).length : Int) ≤ 7 ^ ps.length * wtAll ps
  | [], _ => by decide
  | f :: ps, h => by
    have ih := allSt_len (ps := ps) fun g hg => h g (List.mem_cons_of_mem _ hg)
    have hp := parts_len (h f List.mem_cons_self)
    have e : (allSt (f :: ps)).length = (parts f).length * (allSt ps).length := flat_len (fun p => by rw [List.length_map]) _
    have ew : wtAll (f :: ps) = f.wt * wtAll ps := rfl
    have hw := (wt_pos (h f List.mem_cons_self)).1
    have hb : (0 : Int) ≤ 3 ^ ps.length * ((allSt ps).length : Int) := Int.mul_nonneg (Int.le_of_lt (Int.pow_pos (by decide))) (Int.natCast_nonneg _)
    rw [e, ew, List.length_cons, Int.natCast_mul]
    generalize ((parts f).length : Int) = a at hp
    generalize ((allSt ps).length : Int) = b at ih hb
    have e1 : (3 : Int) ^ (ps.length + 1) * (a * b) = (3 * a) * (3 ^ ps.length * b) := by rw [Int.pow_succ]; ac_rfl
    have e2 : (7 : Int) ^ (ps.length + 1) * (f.wt * wtAll ps) = (7 * f.wt) * (7 ^ ps.length * wtAll ps) := by rw [Int.pow_succ]; ac_rfl
    rw [e1, e2]
    exact Int.mul_le_mul hp ih hb (by omega)
/-- a pipeline of the laws -/
structure Pip (ps : List Fi) : Prop where
  good : ∀ f ∈ ps, f.good
  len : ps.length ≤ 4
  wt : wtAll ps ≤ 60
theorem wtAll_pos : ∀ {ps : List Fi}, (∀ f ∈ ps, f.good) → 1 ≤ wtAll ps
  | [], _ => Int.le_refl _
  | f :: ps, h => by
    have a := (wt_pos (h f List.mem_cons_self)).1
    have b := wtAll_pos (ps := ps) fun g hg => h g (List.mem_cons_of_mem _ hg)
    show 1 ≤ f.wt * wtAll ps
    have := Int.mul_le_mul a b (by omega) (by omega)
    omega
theorem allSt_le {ps : List Fi} (h : Pip ps) : (allSt ps).length ≤ 1778 := by
  have e := allSt_len h.good
  have w := h.wt
  have l := h.len
  have hl : ps.length = 0 ∨ ps.length = 1 ∨ ps.length = 2 ∨ ps.length = 3 ∨ ps.length = 4 := by omega
  generalize ((allSt ps).length) = n at e ⊢
  rcases hl with hl | hl | hl | hl | hl <;> rw [hl] at e <;> simp at e <;> omega
/-- the pairs of states -/
def allPr (ps qs : List Fi) : List (List Pt × List Pt) := (allSt ps).flatMap fun a => (allSt qs).map fun b => (a, b)
theorem allPr_le {ps qs : List Fi} (h : Pip ps) (k : Pip qs) : (allPr ps qs).length ≤ 3161284 := by
  have e : (allPr ps qs).length = (allSt ps).length * (allSt qs).length := flat_len (fun p => by rw [List.length_map]) _
  rw [e]
  exact Nat.le_trans (Nat.mul_le_mul (allSt_le h) (allSt_le k)) (by decide)
theorem mem_allPr {ps qs : List Fi} {a b : List Pt} (h : QOk ps a) (k : QOk qs b) : (a, b) ∈ allPr ps qs := List.mem_flatMap.mpr ⟨a, qok_mem h, List.mem_map.mpr ⟨b, qok_mem k, rfl⟩⟩
end TL

/-! The program's search. -/
namespace TL
/-! ### while -/
theorem R_while_go {c : Env → M D} {body : Env → M Fl} {Q : Fl → Sto → Prop} {N : Nat} (Iv : Nat → Env → Sto → Prop) (hN : ∀ i σ st, Iv i σ st → i ≤ N)
    (step : ∀ (i : Nat) (σ : Env) (st : Sto), Iv i σ st → R (c σ) st fun d s => (d = .bl false ∧ Q (.nx σ) s) ∨ (d = .bl true ∧ R (body σ) s fun fl s' => match fl with
      | .nx σ' => Iv (i + 1) σ' s'
      | .rt v => Q (.rt v) s')) : ∀ (w i : Nat) (σ : Env) (st : Sto), N < i + w → Iv i σ st → R (whileGo c body w σ) st Q
  | 0, i, σ, st, h, iv => by have := hN i σ st iv; omega
  | w + 1, i, σ, st, h, iv => by
    obtain ⟨d, s, e, z⟩ := step i σ st iv
    have u : whileGo c body (w + 1) σ st = match c σ st with
      | some (.bl true, st1) => match body σ st1 with
        | none => none
        | some (.rt v, st') => some (.rt v, st')
        | some (.nx σ', st') => whileGo c body w σ' st'
      | some (.bl false, st1) => some (.nx σ, st1)
      | _ => none := rfl
    rw [e] at u
    rcases z with ⟨rfl, q⟩ | ⟨rfl, b⟩
    · exact ⟨_, _, u, q⟩
    · obtain ⟨fl, s', eb, q⟩ := b
      dsimp only at u
      rw [eb] at u
      cases fl with
      | rt v => exact ⟨_, _, u, q⟩
      | nx σ' =>
        obtain ⟨r, s2, e2, q2⟩ := R_while_go Iv hN step w (i + 1) σ' s' (by omega) q
        exact ⟨r, s2, u.trans e2, q2⟩
theorem R_while {c : Env → M D} {body : Env → M Fl} {Q : Fl → Sto → Prop} {N w : Nat} {σ : Env} {st : Sto} (Iv : Nat → Env → Sto → Prop) (hN : ∀ i σ st, Iv i σ st → i ≤ N) (hw : N < w) (h0 : Iv 0 σ st)
    (step : ∀ (i : Nat) (σ : Env) (st : Sto), Iv i σ st → R (c σ) st fun d s => (d = .bl false ∧ Q (.nx σ) s) ∨ (d = .bl true ∧ R (body σ) s fun fl s' => match fl with
      | .nx σ' => Iv (i + 1) σ' s'
      | .rt v => Q (.rt v) s')) : R (whileGo c body w σ) st Q := R_while_go Iv hN step w 0 σ st (by omega) h0
section
variable {w k : Nat} {cf : Nat → List D → M D} {σ : Env} {st : Sto}
theorem s_while {c : E} {body : List S} : evS w cf (.while_ c body) σ = whileGo (fun σ => ev w cf c σ) (fun σ => evSs w cf body σ) w σ := rfl
def callG (cf : Nat → List D → M D) (xs : List D) : D → M D
  | .fn f => cf f xs
  | _ => M.fail
theorem e_callv {i : Nat} {es : List E} : ev w cf (.callv i es) σ = M.bind (M.lift (σ[i]?.bind id)) fun g => M.bind (evs w cf es σ) fun xs => callG cf xs g := by
  show (M.bind (M.lift (σ[i]?.bind id)) fun g => M.bind (evs w cf es σ) fun xs => match g with
    | .fn f => cf f xs
    | _ => M.fail) = _
  congr 1
theorem callG_fn {f : Nat} {xs : List D} : callG cf xs (.fn f) = cf f xs := rfl
theorem e_dct {es : List E} : ev w cf (.dct es) σ = M.bind (alloc (.dct [])) fun L => M.bind (evs w cf es σ) fun xs => M.bind (dctFill L xs) fun _ => pure L := rfl
/-! ### states as data -/
def stD (q : List Pt) : D := .tup (q.map Pt.d)
def prD (q : List Pt × List Pt) : D := .tup [stD q.1, stD q.2]
def wD (x : Wd (List Pt × List Pt)) : D := .tup [.tup (x.1.map D.int), stD x.2.1, stD x.2.2]
theorem int_inj : ∀ {as bs : List Int}, as.map D.int = bs.map D.int → as = bs
  | [], [], _ => rfl
  | [], _ :: _, h => nomatch h
  | _ :: _, [], h => nomatch h
  | a :: as, b :: bs, h => by
    rw [List.map_cons, List.map_cons] at h
    injection h with h1 h2
    injection h1 with h1
    rw [h1, int_inj h2]
theorem pt_inj {p q : Pt} (h : p.d = q.d) : p = q := by
  cases p with
  | i a => cases q with
    | i b => injection h with h; rw [h]
    | l b => cases h
  | l a => cases q with
    | i b => cases h
    | l b => injection h with h; rw [int_inj h]
theorem pts_inj : ∀ {as bs : List Pt}, as.map Pt.d = bs.map Pt.d → as = bs
  | [], [], _ => rfl
  | [], _ :: _, h => nomatch h
  | _ :: _, [], h => nomatch h
  | a :: as, b :: bs, h => by
    rw [List.map_cons, List.map_cons] at h
    injection h with h1 h2
    rw [pt_inj h1, pts_inj h2]
theorem st_inj {a b : List Pt} (h : stD a = stD b) : a = b := by injection h with h; exact pts_inj h
theorem pr_inj {a b : List Pt × List Pt} (h : prD a = prD b) : a = b := by
  obtain ⟨a1, a2⟩ := a
  obtain ⟨b1, b2⟩ := b
  have h' : D.tup [stD a1, stD a2] = D.tup [stD b1, stD b2] := h
  injection h' with h'
  injection h' with h1 h2
  injection h2 with h2
  rw [st_inj h1, st_inj h2]
theorem okk_ints {n : Nat} (as : List Int) : (as.map D.int).all (okk (n + 1)) = true := by
  rw [List.all_eq_true]
  intro x hx
  obtain ⟨a, _, rfl⟩ := List.mem_map.mp hx
  rfl
theorem okk_pt {n : Nat} (p : Pt) : okk (n + 2) p.d = true := by
  cases p with
  | i a => rfl
  | l as => exact okk_ints as
theorem okk_st {n : Nat} (q : List Pt) : okk (n + 3) (stD q) = true := by
  show (q.map Pt.d).all (okk (n + 2)) = true
  rw [List.all_eq_true]
  intro x hx
  obtain ⟨p, _, rfl⟩ := List.mem_map.mp hx
  exact okk_pt p
theorem okk_pr {n : Nat} (q : List Pt × List Pt) : okk (n + 4) (prD q) = true := by
  show [stD q.1, stD q.2].all (okk (n + 3)) = true
  rw [List.all_cons, List.all_cons, okk_st, okk_st]
  rfl
theorem okk_okd : ∀ (n : Nat) (d : D), okk n d = true → okd n d = true
  | 0, _, h => nomatch h
  | n + 1, .tup xs, h => by
    have h' : xs.all (okk n) = true := h
    show xs.all (okd n) = true
    rw [List.all_eq_true] at h' ⊢
    exact fun x hx => okk_okd n x (h' x hx)
  | n + 1, .int _, _ => rfl
  | _ + 1, .non, h | _ + 1, .bl _, h | _ + 1, .str _, h | _ + 1, .ref _, h | _ + 1, .fn _, h | _ + 1, .ty _, h => nomatch h
theorem okd_w (x : Wd (List Pt × List Pt)) : okd 20 (wD x) = true := by
  show [D.tup (x.1.map D.int), stD x.2.1, stD x.2.2].all (okd 19) = true
  rw [List.all_cons, List.all_cons, List.all_cons, okk_okd 19 _ (okk_st (n := 16) _), okk_okd 19 _ (okk_st (n := 16) _), okk_okd 19 _ (show okk 19 (.tup (x.1.map D.int)) = true from okk_ints (n := 17) _)]
  rfl
def kvT (l : List (List Pt × List Pt)) : List (D × D) := l.map fun q => (prD q, .bl true)
theorem kvT_len {l : List (List Pt × List Pt)} : (kvT l).length = l.length := List.length_map ..
theorem kvT_has {l : List (List Pt × List Pt)} {q : List Pt × List Pt} : hasD (kvT l) (prD q) = decide (q ∈ l) := by
  unfold hasD kvT
  by_cases h : q ∈ l
  · rw [decide_eq_true h, List.any_map, List.any_eq_true]
    exact ⟨q, h, decide_eq_true rfl⟩
  · rw [decide_eq_false h, List.any_map]
    refine Bool.eq_false_iff.mpr fun z => h ?_
    obtain ⟨r, hr, e⟩ := List.any_eq_true.mp z
    rw [← pr_inj (of_decide_eq_true e)]
    exact hr
theorem kvT_for {l : List (List Pt × List Pt)} {q : List Pt × List Pt} : keyFor (kvT l) (prD q) = true := by
  unfold keyFor
  rw [okk_pr (n := 4)]
  cases l <;> rfl
theorem kvT_put {l : List (List Pt × List Pt)} {q : List Pt × List Pt} (h : q ∉ l) : putD (kvT l) (prD q) (.bl true) = kvT (l ++ [q]) := by
  unfold putD
  rw [kvT_has, decide_eq_false h, if_neg Bool.false_ne_true]
  unfold kvT
  rw [List.map_append]
  rfl
theorem c_nmemD {n : Nat} {l : List (List Pt × List Pt)} {q : List Pt × List Pt} (h : st[n]? = some (.dct (kvT l))) : cop st .nmem (prD q) (.ref n) = some (.bl !(decide (q ∈ l))) := by
  have e : pyIn st (prD q) (.ref n) = some (decide (q ∈ l)) := by
    show (match getL st n with
      | some ys => if okd 20 (prD q) && ys.all (okd 20) then some (ys.any fun y => eqv y (prD q)) else none
      | none => match TL.getD st n with
        | some kvs => if inFor kvs (prD q) then some (hasD kvs (prD q)) else none
        | none => none) = _
    have e1 : getL st n = none := by unfold getL; rw [h]
    have e2 : TL.getD st n = some (kvT l) := by unfold TL.getD; rw [h]
    rw [e1, e2]
    dsimp only
    rw [if_pos (show inFor (kvT l) (prD q) = true by unfold inFor; rw [kvT_for]; rfl), kvT_has]
  show (pyIn st (prD q) (.ref n)).map (fun b => D.bl !b) = _
  rw [e]
  rfl
theorem R_setT {n : Nat} {l : List (List Pt × List Pt)} {q : List Pt × List Pt} {Q : Unit → Sto → Prop} (h : st[n]? = some (.dct (kvT l))) (hq : q ∉ l) (hl : l.length < LIM) (z : Q () (st.set n (.dct (kvT (l ++ [q]))))) : R (setItem (.ref n) (prD q) (.bl true)) st Q := by
  refine ⟨(), _, ?_, z⟩
  show (match st[n]?, prD q with
    | some (.lst xs), .int k => match ixI xs.length k with
      | some j => some ((), st.set n (.lst (xs.set j (.bl true))))
      | none => none
    | some (.dct kvs), k => if keyFor kvs k && decide (kvs.length < LIM) then some ((), st.set n (.dct (putD kvs k (.bl true)))) else none
    | _, _ => none) = _
  rw [h]
  show (if (keyFor (kvT l) (prD q) && decide ((kvT l).length < LIM)) = true then some ((), st.set n (.dct (putD (kvT l) (prD q) (.bl true)))) else none) = _
  rw [if_pos (by rw [kvT_for, kvT_len, decide_eq_true hl]; rfl), kvT_put hq]
theorem R_fill1 {n : Nat} {q : List Pt × List Pt} {Q : Unit → Sto → Prop} (h : st[n]? = some (.dct [])) (z : Q () (st.set n (.dct (kvT [q])))) : R (dctFill (.ref n) [prD q, .bl true]) st Q := by
  show R (M.bind (setDct (.ref n) (prD q) (.bl true)) fun _ => dctFill (.ref n) []) st Q
  rw [R_bind]
  refine ⟨(), st.set n (.dct (kvT [q])), ?_, (R_pure (P := Q)).mpr z⟩
  show (match st[n]? with
    | some (.dct kvs) => if keyFor kvs (prD q) && decide (kvs.length < LIM) then some ((), st.set n (.dct (putD kvs (prD q) (.bl true)))) else none
    | _ => none) = _
  rw [h]
  show (if (keyFor [] (prD q) && decide (([] : List (D × D)).length < LIM)) = true then some ((), st.set n (.dct (putD [] (prD q) (.bl true)))) else none) = _
  rw [if_pos (by rw [show keyFor [] (prD q) = true from kvT_for (l := [])]; rfl)]
  rfl
/-- a list against the empty one -/
theorem c_neE {m n : Nat} {xs : List D} (h1 : getL st m = some xs) (h2 : getL st n = some []) (ok : xs.all (okd 20) = true) : cop st .ne (.ref m) (.ref n) = some (.bl !xs.isEmpty) := by
  have e : pyEq st (.ref m) (.ref n) = some xs.isEmpty := by
    show (match getL st m, getL st n with
      | some xs, some ys => if xs.all (okd 20) && ys.all (okd 20) then some (eqvs xs ys) else none
      | none, none => match TL.getDX st m, TL.getDX st n with
        | some kvs, some [] => some kvs.isEmpty
        | some [], some kvs => some kvs.isEmpty
        | _, _ => none
      | _, _ => none) = _
    rw [h1, h2]
    dsimp only
    rw [if_pos (by rw [ok]; rfl)]
    cases xs <;> rfl
  show (pyEq st (.ref m) (.ref n)).map (fun b => D.bl !b) = _
  rw [e]
  rfl
theorem okd_ws (l : List (Wd (List Pt × List Pt))) : (l.map wD).all (okd 20) = true := by
  rw [List.all_eq_true]
  intro x hx
  obtain ⟨y, _, rfl⟩ := List.mem_map.mp hx
  exact okd_w y
/-! ### steps -/
def stp (ps : List Fi) (g : Int) (q : List Pt) : List Pt × Option Nat := rd ps (ageAll g ps q)
theorem qok_ok : ∀ {ps : List Fi} {qs : List Pt}, (∀ f ∈ ps, f.good) → QOk ps qs → StOk ps qs
  | [], [], _, _ => { len := rfl, fit := fun i f p h => by simp at h }
  | f :: ps, p :: qs, hg, h => by
    have z := qok_ok (ps := ps) (qs := qs) (fun g hg' => hg g (List.mem_cons_of_mem _ hg')) h.2
    refine ⟨by rw [List.length_cons, List.length_cons, z.len], fun i f' p' hf hp => ?_⟩
    cases i with
    | zero =>
      simp only [List.getElem?_cons_zero, Option.some.injEq] at hf hp
      subst hf hp
      have a := h.1
      cases f with
      | li c w => cases p with
        | i a => cases a
        | l as =>
          have := (hg _ List.mem_cons_self).2.1
          exact ⟨trivial, fun bs e => by cases e; have := a.2.2; omega⟩
      | sp n => cases p with
        | i a => exact ⟨trivial, fun bs e => by cases e⟩
        | l as => cases a
      | fr n => cases p with
        | i a => exact ⟨trivial, fun bs e => by cases e⟩
        | l as => cases a
      | ev n r => cases p with
        | i a => exact ⟨trivial, fun bs e => by cases e⟩
        | l as => cases a
    | succ i => exact z.fit i f' p' (by simpa using hf) (by simpa using hp)
  | [], _ :: _, _, h => nomatch h
  | _ :: _, [], _, h => nomatch h
theorem qok_stp {ps : List Fi} {qs : List Pt} {g : Int} (hg : ∀ f ∈ ps, f.good) (h : QOk ps qs) (h0 : 0 < g) : QOk ps (stp ps g qs).1 := qok_rd hg (qok_age hg h h0).1 (qok_age hg h h0).2
theorem run_step {ps : List Fi} {qs : List Pt} {g : Int} {Q : D → Sto → Prop} (hp : Pip ps) (h : QOk ps qs) (h0 : 0 < g) (hw : 100 ≤ w) (q : ∀ s, Ext st s → Q (.tup [stD (stp ps g qs).1, optD (stp ps g qs).2]) s) :
    R (callF G w (k + 3) 41 [.tup (ps.map Fi.d), stD qs, .int g]) st Q := by
  have ok := qok_ok hp.good h
  have l4 := hp.len
  have LM : (4 : Nat) ≤ LIM := by decide
  refine R_call (d := d_step) rfl rfl ?_
  try simp only [d_step, List.map, stD, e_var, e_int, e_bl, e_non, e_str, e_ty, e_fnv, e_tup, e_lst, e_bin, e_not, e_neg, neg_i, e_cmp, e_chain, e_and, e_or, e_ife, e_idx, e_slc, e_call, e_bi, e_meth, es_nil, es_cons, g_n, g_t, g_sub, gs_cons, gs_nil, s_asg, s_par, s_aug, s_ex, s_ret, s_ife, s_for, ss_nil, ss_cons, th_nx, th_rt, b_add, b_sub, c_eqi, c_nei, c_eqs, c_nes, c_lt, c_le, c_gt, c_ge, c_isn, c_isnn, i_tup, bi_len_t, bi_min2, bi_max2, R_bind, R_pure, R_lift, R_rd, R_alloc, R_tst, some_ex, L0, LS, OB, id_eq, M0, setAll, S0, SS, AP, Rp0, RpS, A0, A1, A2, A3, AN2, AN3, Nat.reduceBEq, beq_self_eq_true, if_true, if_false, Bool.false_eq_true, reduceCtorEq, decide_eq_true_eq, Bool.not_true, Bool.not_false, true_and, and_true, exists_const, decide_true, decide_false, List.nil_append]
  refine run_later ok (by rw [← ok.len]; omega) (by omega) (by rw [← ok.len]; omega) fun s1 ex1 => ?_
  have ok2 : StOk ps (ageAll g ps qs) := ok_age ok
  refine run_read (qs := ageAll g ps qs) ok2 hp.good (by rw [← ok2.len]; omega) (by rw [← ok2.len]; omega) fun s2 ex2 => ?_
  exact q s2 (ex1.trans ex2)
/-! ### the widest -/
def wid (ps : List Fi) : Int := maxI 1 (ps.map Fi.mem)
theorem maxI_le {b : Int} : ∀ (xs : List Int) (a : Int), a ≤ b → (∀ x ∈ xs, x ≤ b) → maxI a xs ≤ b
  | [], a, h, _ => h
  | x :: xs, a, h, hx => maxI_le xs _ (by have := hx x List.mem_cons_self; split <;> omega) fun y hy => hx y (List.mem_cons_of_mem _ hy)
theorem maxI_ge : ∀ (xs : List Int) (a : Int), a ≤ maxI a xs
  | [], a => Int.le_refl _
  | x :: xs, a => Int.le_trans (by split <;> omega) (maxI_ge xs (if x > a then x else a))
theorem wid_le {ps : List Fi} (h : ∀ f ∈ ps, f.good) : 1 ≤ wid ps ∧ wid ps ≤ 9 := by
  refine ⟨maxI_ge _ _, maxI_le _ _ (by decide) fun x hx => ?_⟩
  obtain ⟨f, hf, rfl⟩ := List.mem_map.mp hx
  have g := h f hf
  cases f with
  | sp n => have := g.2; show n ≤ 9; omega
  | fr n => have := g.2; show n + 1 ≤ 9; omega
  | ev n r => show (1 : Int) ≤ 9; decide
  | li c w => have := g.2.2.2; show w ≤ 9; omega
theorem R_maxL {n : Nat} {a : Int} {r : List Int} {Q : D → Sto → Prop} (h : getL st n = some (D.int a :: r.map D.int)) (q : Q (.int (maxI a r)) st) : R (bifn .max [.ref n]) st Q := by
  refine ⟨_, st, ?_, q⟩
  have e : ∀ r : List Int, intsOf (r.map D.int) = some r := fun r => by
    induction r with
    | nil => rfl
    | cons a r ih => show (intsOf (r.map D.int)).map (a :: ·) = _; rw [ih]; rfl
  have e2 : (getL st n).bind intsOf = some (a :: r) := by
    rw [h]
    show (intsOf (r.map D.int)).map (a :: ·) = _
    rw [e]
    rfl
  show M.rd (fun st => match (getL st n).bind intsOf with
    | some (a :: r) => some (D.int (maxI a r))
    | _ => none) st = _
  unfold M.rd
  dsimp only
  rw [e2]
theorem R_cat {m n : Nat} {xs ys : List D} {Q : D → Sto → Prop} (h1 : st[m]? = some (.lst xs)) (h2 : st[n]? = some (.lst ys)) (hl : xs.length + ys.length ≤ LIM) (q : Q (.ref st.length) (st ++ [.lst (xs ++ ys)])) : R (bop .add (.ref m) (.ref n)) st Q := by
  refine ⟨_, _, ?_, q⟩
  show (match st[m]?, st[n]? with
    | some (.lst xs), some (.lst ys) => if xs.length + ys.length ≤ LIM then alloc (.lst (xs ++ ys)) st else none
    | _, _ => none) = _
  rw [h1, h2]
  exact if_pos hl
def memD (d : D) : Option D := match d with
    | .tup [.str 0, .int n] => some (D.int n)
    | .tup [.str 1, .int n] => some (D.int (n + 1))
    | .tup [.str 2, _, _] => some (D.int 1)
    | .tup [.str 3, _, .int w] => some (D.int w)
    | _ => none
theorem memD_fm (ps : List Fi) : (ps.map Fi.d).filterMap memD = (ps.map Fi.mem).map D.int := by
  induction ps with
  | nil => rfl
  | cons f ps ih =>
    rw [List.map_cons, List.filterMap_cons, ih]
    cases f <;> rfl
theorem run_widest {ps : List Fi} {Q : D → Sto → Prop} (hp : Pip ps) (hw : 100 ≤ w) (q : ∀ s, Ext st s → Q (.int (wid ps)) s) : R (callF G w (k + 2) 40 [.tup (ps.map Fi.d)]) st Q := by
  have l4 := hp.len
  have LM : (5 : Nat) ≤ LIM := by decide
  refine R_call (d := d_widest) rfl rfl ?_
  try simp only [d_widest, List.map, e_var, e_int, e_bl, e_non, e_str, e_ty, e_fnv, e_tup, e_lst, e_bin, e_not, e_neg, neg_i, e_cmp, e_chain, e_and, e_or, e_ife, e_idx, e_slc, e_call, e_bi, e_meth, es_nil, es_cons, g_n, g_t, g_sub, gs_cons, gs_nil, s_asg, s_par, s_aug, s_ex, s_ret, s_ife, s_for, ss_nil, ss_cons, th_nx, th_rt, b_add, b_sub, c_eqi, c_nei, c_eqs, c_nes, c_lt, c_le, c_gt, c_ge, c_isn, c_isnn, i_tup, bi_len_t, bi_min2, bi_max2, R_bind, R_pure, R_lift, R_rd, R_alloc, R_tst, some_ex, L0, LS, OB, id_eq, M0, setAll, S0, SS, AP, Rp0, RpS, A0, A1, A2, A3, AN2, AN3, Nat.reduceBEq, beq_self_eq_true, if_true, if_false, Bool.false_eq_true, reduceCtorEq, decide_eq_true_eq, Bool.not_true, Bool.not_false, true_and, and_true, exists_const, decide_true, decide_false, List.nil_append]
  refine R_comp (ps.map Fi.d) memD ?_ (by rw [List.length_map]; omega) (by rw [List.length_map]; omega)
  try simp only [it_ex, it_tup, e_var, e_int, e_bl, e_non, e_str, e_ty, e_fnv, e_tup, e_lst, e_bin, e_not, e_neg, neg_i, e_cmp, e_chain, e_and, e_or, e_ife, e_idx, e_slc, e_call, e_bi, e_meth, es_nil, es_cons, g_n, g_t, g_sub, gs_cons, gs_nil, s_asg, s_par, s_aug, s_ex, s_ret, s_ife, s_for, ss_nil, ss_cons, th_nx, th_rt, b_add, b_sub, c_eqi, c_nei, c_eqs, c_nes, c_lt, c_le, c_gt, c_ge, c_isn, c_isnn, i_tup, bi_len_t, bi_min2, bi_max2, R_bind, R_pure, R_lift, R_rd, R_alloc, R_tst, some_ex, L0, LS, OB, id_eq, M0, setAll, S0, SS, AP, Rp0, RpS, A0, A1, A2, A3, AN2, AN3, Nat.reduceBEq, beq_self_eq_true, if_true, if_false, Bool.false_eq_true, reduceCtorEq, decide_eq_true_eq, Bool.not_true, Bool.not_false, true_and, and_true, exists_const, decide_true, decide_false, List.nil_append]
  refine ⟨rfl, fun st' _ i hi => get_tup hi, fun i x st' hx ex => ?_, fun st' ex hs => ?_⟩
  rotate_left
  · rw [memD_fm] at hs
    refine R_cat (xs := [.int 1]) (ys := (ps.map Fi.mem).map D.int) (ext_get ex (by rw [List.getElem?_append_right (Nat.le_refl _), Nat.sub_self]; rfl)) hs (by rw [List.length_map, List.length_map]; show 1 + _ ≤ LIM; omega) ?_
    try simp only [e_var, e_int, e_bl, e_non, e_str, e_ty, e_fnv, e_tup, e_lst, e_bin, e_not, e_neg, neg_i, e_cmp, e_chain, e_and, e_or, e_ife, e_idx, e_slc, e_call, e_bi, e_meth, es_nil, es_cons, g_n, g_t, g_sub, gs_cons, gs_nil, s_asg, s_par, s_aug, s_ex, s_ret, s_ife, s_for, ss_nil, ss_cons, th_nx, th_rt, b_add, b_sub, c_eqi, c_nei, c_eqs, c_nes, c_lt, c_le, c_gt, c_ge, c_isn, c_isnn, i_tup, bi_len_t, bi_min2, bi_max2, R_bind, R_pure, R_lift, R_rd, R_alloc, R_tst, some_ex, L0, LS, OB, id_eq, M0, setAll, S0, SS, AP, Rp0, RpS, A0, A1, A2, A3, AN2, AN3, Nat.reduceBEq, beq_self_eq_true, if_true, if_false, Bool.false_eq_true, reduceCtorEq, decide_eq_true_eq, Bool.not_true, Bool.not_false, true_and, and_true, exists_const, decide_true, decide_false, List.nil_append]
    refine R_maxL (a := 1) (r := ps.map Fi.mem) getL_new ?_
    exact q _ (((Ext.new st _).trans ex).trans (Ext.new _ _))
  · rw [List.getElem?_map, Option.map_eq_some_iff] at hx
    obtain ⟨f, hf, rfl⟩ := hx
    unfold elt1
    try simp only [w_cons, w_nil, t_nil, g_n, e_var, e_int, e_bl, e_non, e_str, e_ty, e_fnv, e_tup, e_lst, e_bin, e_not, e_neg, neg_i, e_cmp, e_chain, e_and, e_or, e_ife, e_idx, e_slc, e_call, e_bi, e_meth, es_nil, es_cons, g_n, g_t, g_sub, gs_cons, gs_nil, s_asg, s_par, s_aug, s_ex, s_ret, s_ife, s_for, ss_nil, ss_cons, th_nx, th_rt, b_add, b_sub, c_eqi, c_nei, c_eqs, c_nes, c_lt, c_le, c_gt, c_ge, c_isn, c_isnn, i_tup, bi_len_t, bi_min2, bi_max2, R_bind, R_pure, R_lift, R_rd, R_alloc, R_tst, some_ex, L0, LS, OB, id_eq, M0, setAll, S0, SS, AP, Rp0, RpS, A0, A1, A2, A3, AN2, AN3, Nat.reduceBEq, beq_self_eq_true, if_true, if_false, Bool.false_eq_true, reduceCtorEq, decide_eq_true_eq, Bool.not_true, Bool.not_false, true_and, and_true, exists_const, decide_true, decide_false, List.nil_append]
    refine run_memory ?_
    refine ⟨?_, Ext.refl _⟩
    cases f <;> rfl
end
end TL

/-! The program's search: the walk. -/
namespace TL
def mxJ (a b : Int) : Int := if b > a then b else a
def ini (ps : List Fi) : List Pt × Option Nat := rd ps (ps.map Fi.init)
def q00 (ps1 ps2 : List Fi) : List Pt × List Pt := ((ini ps1).1, (ini ps2).1)
def kp (o : Option Nat) : Bool := decide (o = none)
def stepP (ps1 ps2 : List Fi) (g : Nat) (q : List Pt × List Pt) : List Pt × List Pt := ((stp ps1 g q.1).1, (stp ps2 g q.2).1)
def badP (δ : Bool → Bool → Bool) (ps1 ps2 : List Fi) (g : Nat) (q : List Pt × List Pt) : Bool := δ (kp (stp ps1 g q.1).2) (kp (stp ps2 g q.2).2)
def rchN (ps1 ps2 : List Fi) : Nat := (mxJ (wid ps1) (wid ps2)).toNat
def Srch (δ : Bool → Bool → Bool) (ps1 ps2 : List Fi) (res : Option (List Int)) : Prop := if δ (kp (ini ps1).2) (kp (ini ps2).2) = true then res = some [0] else IsFirst (rchN ps1 ps2) (stepP ps1 ps2) (badP δ ps1 ps2) (q00 ps1 ps2) res
def resD : Option (List Int) → D
  | none => .non
  | some log => .tup (log.map D.int)
def GQ (ps1 ps2 : List Fi) (q : List Pt × List Pt) : Prop := QOk ps1 q.1 ∧ QOk ps2 q.2
theorem gq_step {ps1 ps2 : List Fi} (h1 : Pip ps1) (h2 : Pip ps2) {q : List Pt × List Pt} (h : GQ ps1 ps2 q) {g : Nat} (hg : 0 < g) : GQ ps1 ps2 (stepP ps1 ps2 g q) := ⟨qok_stp h1.good h.1 (by omega), qok_stp h2.good h.2 (by omega)⟩
theorem gq_zero {ps1 ps2 : List Fi} (h1 : Pip ps1) (h2 : Pip ps2) : GQ ps1 ps2 (q00 ps1 ps2) := ⟨qok_rd h1.good (qok_init h1.good) qpos_init, qok_rd h2.good (qok_init h2.good) qpos_init⟩
theorem gq_len {ps1 ps2 : List Fi} (h1 : Pip ps1) (h2 : Pip ps2) {l : List (List Pt × List Pt)} (nd : l.Nodup) (h : ∀ q ∈ l, GQ ps1 ps2 q) : l.length ≤ 3161284 := Nat.le_trans (nodup_le nd fun q hq => mem_allPr (h q hq).1 (h q hq).2) (allPr_le h1 h2)
theorem rch_le {ps1 ps2 : List Fi} (h1 : Pip ps1) (h2 : Pip ps2) : 1 ≤ mxJ (wid ps1) (wid ps2) ∧ mxJ (wid ps1) (wid ps2) ≤ 9 := by
  have := wid_le h1.good
  have := wid_le h2.good
  unfold mxJ
  split <;> omega
theorem optD_non {o : Option Nat} : decide (optD o = .non) = kp o := by cases o <;> rfl
def rgL (n : Nat) : List D := (List.range n).map fun (k : Nat) => D.int (1 + (k : Int))
theorem rgL_len {n : Nat} : (rgL n).length = n := by unfold rgL; rw [List.length_map, List.length_range]
theorem rgL_get {n i : Nat} {x : D} (h : (rgL n)[i]? = some x) : i < n ∧ x = .int (1 + (i : Int)) := by
  unfold rgL at h
  rw [List.getElem?_map, Option.map_eq_some_iff] at h
  obtain ⟨j, hj, rfl⟩ := h
  obtain ⟨h1, h2⟩ := List.getElem?_eq_some_iff.mp hj
  rw [List.length_range] at h1
  rw [List.getElem_range] at h2
  subst h2
  exact ⟨h1, rfl⟩
theorem get_rg1 {n i : Nat} {st : Sto} (h : i ≤ n) : (DIt.rng 1 1 n).get i st = some (rgL n)[i]? := by
  rw [get_rng h]
  unfold rgL
  congr 3
  funext k
  rw [Int.one_mul]
theorem R_rg1 {st : Sto} {r : Int} {Q : DIt → Sto → Prop} (h1 : 1 ≤ r) (h2 : r ≤ 1000) (q : Q (.rng 1 1 r.toNat) st) : R (rangeOf [.int 1, .int (r + 1)]) st Q := by
  refine ⟨_, st, ?_, q⟩
  show (if rngOk 1 && rngOk (r + 1) then pure (.rng 1 1 (r + 1 - 1).toNat) else M.fail : M DIt) st = _
  have e : (rngOk 1 && rngOk (r + 1)) = true := by
    unfold rngOk
    rw [decide_eq_true (show -(2 ^ 40) ≤ r + 1 by omega), decide_eq_true (show r + 1 ≤ 2 ^ 40 by omega)]
    rfl
  rw [if_pos e, show r + 1 - 1 = r by omega]
  rfl
theorem cut_snoc {α : Type} {l : List α} {i : Nat} {x : α} (h : l[i]? = some x) : l.take (i + 1) = l.take i ++ [x] := by
  rw [List.take_add_one, h]
  rfl
theorem lastD_atI {xs : List Int} (h : xs ≠ []) : atI (xs.map D.int) (-1) = some (.int (xs.getLastD 0)) := by
  obtain ⟨u, hu⟩ : ∃ u, xs.getLast? = some u := by
    cases hl : xs.getLast? with
    | none => exact absurd (List.getLast?_eq_none_iff.mp hl) h
    | some u => exact ⟨u, rfl⟩
  rw [last_ne hu]
  congr 2
  rw [List.getLastD_eq_getLast?, hu]
  rfl
section
variable {w k : Nat} {st : Sto} {ps1 ps2 : List Fi} {δ : Bool → Bool → Bool} {fd : Nat}
/-- the words met, in a store -/
structure Acc (st : Sto) (nf ns nn : Nat) (front : List (Wd (List Pt × List Pt))) (seen : List (List Pt × List Pt)) (A : List (Wd (List Pt × List Pt))) (s : Sto) : Prop where
  ext : Ext st s
  fr : getL s nf = some (front.map wD)
  sn : s[ns]? = some (.dct (kvT (seen ++ (uniq seen A).map (·.2))))
  nw : s[nn]? = some (.lst ((uniq seen A).map wD))
theorem set_ne {s : Sto} {i j : Nat} {o : DO} (h : i ≠ j) : (s.set i o)[j]? = s[j]? := List.getElem?_set_ne h
theorem set_eq {s : Sto} {i : Nat} {o o' : DO} (h : s[i]? = some o') : (s.set i o)[i]? = some o := List.getElem?_set_self (List.getElem?_eq_some_iff.mp h).1
theorem getL_set {s : Sto} {i j : Nat} {o : DO} (h : i ≠ j) : getL (s.set i o) j = getL s j := by unfold getL; rw [set_ne h]
theorem Acc.ext' {nf ns nn : Nat} {front A : List (Wd (List Pt × List Pt))} {seen : List (List Pt × List Pt)} {s s' : Sto} (h : Acc st nf ns nn front seen A s) (e : Ext s s') : Acc st nf ns nn front seen A s' := ⟨h.ext.trans e, ext_getL e h.fr, ext_get e h.sn, ext_get e h.nw⟩
theorem Acc.old {nf ns nn : Nat} {front A : List (Wd (List Pt × List Pt))} {seen : List (List Pt × List Pt)} {s : Sto} {y : Wd (List Pt × List Pt)} (h : Acc st nf ns nn front seen A s) (hy : y.2 ∈ seen ++ (uniq seen A).map (·.2)) : Acc st nf ns nn front seen (A ++ [y]) s := by
  have e : uniq seen (A ++ [y]) = uniq seen A := by rw [uniq_snoc, if_pos hy]
  exact ⟨h.ext, h.fr, by rw [e]; exact h.sn, by rw [e]; exact h.nw⟩
theorem Acc.new {nf ns nn : Nat} {front A : List (Wd (List Pt × List Pt))} {seen : List (List Pt × List Pt)} {s : Sto} {y : Wd (List Pt × List Pt)} (h : Acc st nf ns nn front seen A s) (hy : y.2 ∉ seen ++ (uniq seen A).map (·.2)) (l1 : st.length ≤ ns) (l2 : st.length ≤ nn) (d1 : nf ≠ ns) (d2 : nf ≠ nn) (d3 : ns ≠ nn) :
    Acc st nf ns nn front seen (A ++ [y]) ((s.set ns (.dct (kvT (seen ++ (uniq seen A).map (·.2) ++ [y.2])))).set nn (.lst ((uniq seen A).map wD ++ [wD y]))) := by
  have e : uniq seen (A ++ [y]) = uniq seen A ++ [y] := by rw [uniq_snoc, if_neg hy]
  refine ⟨(h.ext.set l1 _).set l2 _, ?_, ?_, ?_⟩
  · rw [getL_set (Ne.symm d2), getL_set (Ne.symm d1)]; exact h.fr
  · rw [set_ne (Ne.symm d3), set_eq h.sn, e, List.map_append, List.append_assoc]
    rfl
  · rw [set_eq (o' := .lst ((uniq seen A).map wD)) (by rw [set_ne d3]; exact h.nw), e, List.map_append]
    rfl
theorem getL_lt {s : Sto} {n : Nat} {xs : List D} (h : getL s n = some xs) : n < s.length := by
  unfold getL at h
  cases hn : s[n]? with
  | none => rw [hn] at h; cases h
  | some o => exact (List.getElem?_eq_some_iff.mp hn).1
theorem badL_app {σ : Type} {R : Nat} {bad : Nat → σ → Bool} {a b : List (Wd σ)} : badL R bad (a ++ b) = badL R bad a ++ badL R bad b := List.flatMap_append
theorem expand_app {σ : Type} {R : Nat} {step : Nat → σ → σ} {a b : List (Wd σ)} : expand R step (a ++ b) = expand R step a ++ expand R step b := List.flatMap_append
theorem drop_at {α : Type} {l : List α} {i : Nat} {x : α} (h : l[i]? = some x) : l.drop i = x :: l.drop (i + 1) := by
  obtain ⟨hl, e⟩ := List.getElem?_eq_some_iff.mp h
  rw [List.drop_eq_getElem_cons hl, e]
theorem succs_get {σ : Type} {R : Nat} {step : Nat → σ → σ} {x : Wd σ} {b : Nat} (h : b < R) : (succs R step x)[b]? = some (ext1 x.1 (b + 1), step (b + 1) x.2) := by
  unfold succs
  rw [List.getElem?_map, List.getElem?_range h]
  rfl
theorem succs_len {σ : Type} {R : Nat} {step : Nat → σ → σ} {x : Wd σ} : (succs R step x).length = R := by unfold succs; rw [List.length_map, List.length_range]
theorem bads_head {σ : Type} {R : Nat} {bad : Nat → σ → Bool} {x : Wd σ} {b : Nat} (h : b < R) (h1 : ∀ j, j < b → bad (j + 1) x.2 = false) (h2 : bad (b + 1) x.2 = true) : (bads R bad x).head? = some (ext1 x.1 (b + 1)) := by
  unfold bads
  rw [List.head?_map, List.head?_filter]
  rw [List.find?_range_eq_some.mpr ⟨h2, List.mem_range.mpr h, fun j hj => by rw [h1 j hj]; rfl⟩]
  rfl
theorem gq_succs {ps1 ps2 : List Fi} (h1 : Pip ps1) (h2 : Pip ps2) {x : Wd (List Pt × List Pt)} {R : Nat} (h : GQ ps1 ps2 x.2) : ∀ y ∈ succs R (stepP ps1 ps2) x, GQ ps1 ps2 y.2 := fun y hy => by
  obtain ⟨j, _, rfl⟩ := List.mem_map.mp hy
  exact gq_step h1 h2 h (by omega)
theorem run_search (hδ : ∀ (k : Nat) (st : Sto) (a b : Bool) (P : D → Sto → Prop), P (.bl (δ a b)) st → R (callF G w (k + 1) fd [.bl a, .bl b]) st P) (h1 : Pip ps1) (h2 : Pip ps2) (hw : 4000000 ≤ w) {Q : D → Sto → Prop}
    (h : ∀ s res, Ext st s → Srch δ ps1 ps2 res → Q (resD res) s) : R (callF G w (k + 4) 42 [.tup (ps1.map Fi.d), .tup (ps2.map Fi.d), .fn fd]) st Q := by
  have l1 := h1.len
  have l2 := h2.len
  have LM : (4 : Nat) ≤ LIM := by decide
  obtain ⟨r1, r9⟩ := rch_le h1 h2
  refine R_call (d := d_search) rfl rfl ?_
  try simp only [d_search, List.map, e_var, e_int, e_bl, e_non, e_str, e_ty, e_fnv, e_tup, e_lst, e_bin, e_not, e_neg, neg_i, e_cmp, e_chain, e_and, e_or, e_ife, e_idx, e_slc, e_call, e_bi, e_meth, es_nil, es_cons, g_n, g_t, g_sub, gs_cons, gs_nil, s_asg, s_par, s_aug, s_ex, s_ret, s_ife, s_for, ss_nil, ss_cons, th_nil, th_rt, b_add, b_sub, c_eqi, c_nei, c_eqs, c_nes, c_lt, c_le, c_gt, c_ge, c_isn, c_isnn, i_tup, bi_len_t, bi_min2, bi_max2, R_bind, R_pure, R_lift, R_rd, R_alloc, R_tst, some_ex, L0, LS, OB, id_eq, M0, setAll, S0, SS, AP, Rp0, RpS, A0, A1, A2, A3, AN2, AN3, Nat.reduceBEq, beq_self_eq_true, if_true, if_false, Bool.false_eq_true, reduceCtorEq, decide_eq_true_eq, Bool.not_true, Bool.not_false, true_and, and_true, exists_const, decide_true, decide_false, List.nil_append]
  refine run_initial (by omega) (by omega) fun s1 ex1 => ?_
  rw [show ps1.map (fun f => f.init.d) = (ps1.map Fi.init).map Pt.d by rw [List.map_map]; rfl]
  try simp only [e_var, e_int, e_bl, e_non, e_str, e_ty, e_fnv, e_tup, e_lst, e_bin, e_not, e_neg, neg_i, e_cmp, e_chain, e_and, e_or, e_ife, e_idx, e_slc, e_call, e_bi, e_meth, es_nil, es_cons, g_n, g_t, g_sub, gs_cons, gs_nil, s_asg, s_par, s_aug, s_ex, s_ret, s_ife, s_for, ss_nil, ss_cons, th_nil, th_rt, b_add, b_sub, c_eqi, c_nei, c_eqs, c_nes, c_lt, c_le, c_gt, c_ge, c_isn, c_isnn, i_tup, bi_len_t, bi_min2, bi_max2, R_bind, R_pure, R_lift, R_rd, R_alloc, R_tst, some_ex, L0, LS, OB, id_eq, M0, setAll, S0, SS, AP, Rp0, RpS, A0, A1, A2, A3, AN2, AN3, Nat.reduceBEq, beq_self_eq_true, if_true, if_false, Bool.false_eq_true, reduceCtorEq, decide_eq_true_eq, Bool.not_true, Bool.not_false, true_and, and_true, exists_const, decide_true, decide_false, List.nil_append]
  refine run_read ok_init h1.good (by rw [List.length_map]; omega) (by rw [List.length_map]; omega) fun s2 ex2 => ?_
  try simp only [g_t, gs_cons, gs_nil, LN, LC1, TN, TC1, th_nx, ss_cons, s_asg, e_var, e_int, e_bl, e_non, e_str, e_ty, e_fnv, e_tup, e_lst, e_bin, e_not, e_neg, neg_i, e_cmp, e_chain, e_and, e_or, e_ife, e_idx, e_slc, e_call, e_bi, e_meth, es_nil, es_cons, g_n, g_t, g_sub, gs_cons, gs_nil, s_asg, s_par, s_aug, s_ex, s_ret, s_ife, s_for, ss_nil, ss_cons, th_nil, th_rt, b_add, b_sub, c_eqi, c_nei, c_eqs, c_nes, c_lt, c_le, c_gt, c_ge, c_isn, c_isnn, i_tup, bi_len_t, bi_min2, bi_max2, R_bind, R_pure, R_lift, R_rd, R_alloc, R_tst, some_ex, L0, LS, OB, id_eq, M0, setAll, S0, SS, AP, Rp0, RpS, A0, A1, A2, A3, AN2, AN3, Nat.reduceBEq, beq_self_eq_true, if_true, if_false, Bool.false_eq_true, reduceCtorEq, decide_eq_true_eq, Bool.not_true, Bool.not_false, true_and, and_true, exists_const, decide_true, decide_false, List.nil_append]
  refine run_initial (by omega) (by omega) fun s3 ex3 => ?_
  rw [show ps2.map (fun f => f.init.d) = (ps2.map Fi.init).map Pt.d by rw [List.map_map]; rfl]
  try simp only [e_var, e_int, e_bl, e_non, e_str, e_ty, e_fnv, e_tup, e_lst, e_bin, e_not, e_neg, neg_i, e_cmp, e_chain, e_and, e_or, e_ife, e_idx, e_slc, e_call, e_bi, e_meth, es_nil, es_cons, g_n, g_t, g_sub, gs_cons, gs_nil, s_asg, s_par, s_aug, s_ex, s_ret, s_ife, s_for, ss_nil, ss_cons, th_nil, th_rt, b_add, b_sub, c_eqi, c_nei, c_eqs, c_nes, c_lt, c_le, c_gt, c_ge, c_isn, c_isnn, i_tup, bi_len_t, bi_min2, bi_max2, R_bind, R_pure, R_lift, R_rd, R_alloc, R_tst, some_ex, L0, LS, OB, id_eq, M0, setAll, S0, SS, AP, Rp0, RpS, A0, A1, A2, A3, AN2, AN3, Nat.reduceBEq, beq_self_eq_true, if_true, if_false, Bool.false_eq_true, reduceCtorEq, decide_eq_true_eq, Bool.not_true, Bool.not_false, true_and, and_true, exists_const, decide_true, decide_false, List.nil_append]
  refine run_read ok_init h2.good (by rw [List.length_map]; omega) (by rw [List.length_map]; omega) fun s4 ex4 => ?_
  have E4 : Ext st s4 := ex1.trans (ex2.trans (ex3.trans ex4))
  try simp only [g_t, gs_cons, gs_nil, LN, LC1, TN, TC1, th_nx, ss_cons, s_ife, e_callv, callG_fn, optD_non, e_var, e_int, e_bl, e_non, e_str, e_ty, e_fnv, e_tup, e_lst, e_bin, e_not, e_neg, neg_i, e_cmp, e_chain, e_and, e_or, e_ife, e_idx, e_slc, e_call, e_bi, e_meth, es_nil, es_cons, g_n, g_t, g_sub, gs_cons, gs_nil, s_asg, s_par, s_aug, s_ex, s_ret, s_ife, s_for, ss_nil, ss_cons, th_nil, th_rt, b_add, b_sub, c_eqi, c_nei, c_eqs, c_nes, c_lt, c_le, c_gt, c_ge, c_isn, c_isnn, i_tup, bi_len_t, bi_min2, bi_max2, R_bind, R_pure, R_lift, R_rd, R_alloc, R_tst, some_ex, L0, LS, OB, id_eq, M0, setAll, S0, SS, AP, Rp0, RpS, A0, A1, A2, A3, AN2, AN3, Nat.reduceBEq, beq_self_eq_true, if_true, if_false, Bool.false_eq_true, reduceCtorEq, decide_eq_true_eq, Bool.not_true, Bool.not_false, true_and, and_true, exists_const, decide_true, decide_false, List.nil_append]
  refine hδ _ _ _ _ _ ?_
  have bc : ∀ b : Bool, b = true ∨ b = false := fun b => by cases b <;> simp
  rcases bc (δ (kp (rd ps1 (ps1.map Fi.init)).2) (kp (rd ps2 (ps2.map Fi.init)).2)) with c0 | c0
  · rw [c0]
    try simp only [th_nx, ss_cons, s_ret, e_var, e_int, e_bl, e_non, e_str, e_ty, e_fnv, e_tup, e_lst, e_bin, e_not, e_neg, neg_i, e_cmp, e_chain, e_and, e_or, e_ife, e_idx, e_slc, e_call, e_bi, e_meth, es_nil, es_cons, g_n, g_t, g_sub, gs_cons, gs_nil, s_asg, s_par, s_aug, s_ex, s_ret, s_ife, s_for, ss_nil, ss_cons, th_nil, th_rt, b_add, b_sub, c_eqi, c_nei, c_eqs, c_nes, c_lt, c_le, c_gt, c_ge, c_isn, c_isnn, i_tup, bi_len_t, bi_min2, bi_max2, R_bind, R_pure, R_lift, R_rd, R_alloc, R_tst, some_ex, L0, LS, OB, id_eq, M0, setAll, S0, SS, AP, Rp0, RpS, A0, A1, A2, A3, AN2, AN3, Nat.reduceBEq, beq_self_eq_true, if_true, if_false, Bool.false_eq_true, reduceCtorEq, decide_eq_true_eq, Bool.not_true, Bool.not_false, true_and, and_true, exists_const, decide_true, decide_false, List.nil_append]
    refine h s4 (some [0]) E4 ?_
    unfold Srch
    rw [if_pos (show δ (kp (ini ps1).2) (kp (ini ps2).2) = true from c0)]
  · rw [c0]
    have sr : ∀ res, IsFirst (rchN ps1 ps2) (stepP ps1 ps2) (badP δ ps1 ps2) (q00 ps1 ps2) res → Srch δ ps1 ps2 res := fun res z => by
      unfold Srch
      rw [if_neg (by rw [show δ (kp (ini ps1).2) (kp (ini ps2).2) = false from c0]; exact Bool.false_ne_true)]
      exact z
    try simp only [th_nx, ss_cons, s_par, e_lst, e_dct, e_var, e_int, e_bl, e_non, e_str, e_ty, e_fnv, e_tup, e_lst, e_bin, e_not, e_neg, neg_i, e_cmp, e_chain, e_and, e_or, e_ife, e_idx, e_slc, e_call, e_bi, e_meth, es_nil, es_cons, g_n, g_t, g_sub, gs_cons, gs_nil, s_asg, s_par, s_aug, s_ex, s_ret, s_ife, s_for, ss_nil, ss_cons, th_nil, th_rt, b_add, b_sub, c_eqi, c_nei, c_eqs, c_nes, c_lt, c_le, c_gt, c_ge, c_isn, c_isnn, i_tup, bi_len_t, bi_min2, bi_max2, R_bind, R_pure, R_lift, R_rd, R_alloc, R_tst, some_ex, L0, LS, OB, id_eq, M0, setAll, S0, SS, AP, Rp0, RpS, A0, A1, A2, A3, AN2, AN3, Nat.reduceBEq, beq_self_eq_true, if_true, if_false, Bool.false_eq_true, reduceCtorEq, decide_eq_true_eq, Bool.not_true, Bool.not_false, true_and, and_true, exists_const, decide_true, decide_false, List.nil_append]
    refine R_fill1 (q := q00 ps1 ps2) (by rw [List.getElem?_append_right (Nat.le_refl _), Nat.sub_self]; rfl) ?_
    generalize hS : (s4 ++ [DO.lst [D.tup [D.tup [D.int 0], D.tup (List.map Pt.d (rd ps1 (List.map Fi.init ps1)).1), D.tup (List.map Pt.d (rd ps2 (List.map Fi.init ps2)).1)]]]) = s5
    have E5 : Ext s4 s5 := by rw [← hS]; exact Ext.new _ _
    have L5 : s5.length = s4.length + 1 := by rw [← hS, List.length_append]; rfl
    have g5 : getL s5 s4.length = some [wD ([0], q00 ps1 ps2)] := by rw [← hS]; exact getL_new
    have E6 : Ext s5 ((s5 ++ [DO.dct []]).set s5.length (DO.dct (kvT [q00 ps1 ps2]))) := (Ext.new _ _).set (Nat.le_refl _) _
    have g6 : ((s5 ++ [DO.dct []]).set s5.length (DO.dct (kvT [q00 ps1 ps2])))[s5.length]? = some (.dct (kvT [q00 ps1 ps2])) := set_eq (o' := DO.dct []) (by rw [List.getElem?_append_right (Nat.le_refl _), Nat.sub_self]; rfl)
    generalize ((s5 ++ [DO.dct []]).set s5.length (DO.dct (kvT [q00 ps1 ps2]))) = s6 at E6 g6
    try simp only [e_var, e_int, e_bl, e_non, e_str, e_ty, e_fnv, e_tup, e_lst, e_bin, e_not, e_neg, neg_i, e_cmp, e_chain, e_and, e_or, e_ife, e_idx, e_slc, e_call, e_bi, e_meth, es_nil, es_cons, g_n, g_t, g_sub, gs_cons, gs_nil, s_asg, s_par, s_aug, s_ex, s_ret, s_ife, s_for, ss_nil, ss_cons, th_nil, th_rt, b_add, b_sub, c_eqi, c_nei, c_eqs, c_nes, c_lt, c_le, c_gt, c_ge, c_isn, c_isnn, i_tup, bi_len_t, bi_min2, bi_max2, R_bind, R_pure, R_lift, R_rd, R_alloc, R_tst, some_ex, L0, LS, OB, id_eq, M0, setAll, S0, SS, AP, Rp0, RpS, A0, A1, A2, A3, AN2, AN3, Nat.reduceBEq, beq_self_eq_true, if_true, if_false, Bool.false_eq_true, reduceCtorEq, decide_eq_true_eq, Bool.not_true, Bool.not_false, true_and, and_true, exists_const, decide_true, decide_false, List.nil_append]
    refine run_widest h1 (by omega) fun s7 ex7 => ?_
    try simp only [e_var, e_int, e_bl, e_non, e_str, e_ty, e_fnv, e_tup, e_lst, e_bin, e_not, e_neg, neg_i, e_cmp, e_chain, e_and, e_or, e_ife, e_idx, e_slc, e_call, e_bi, e_meth, es_nil, es_cons, g_n, g_t, g_sub, gs_cons, gs_nil, s_asg, s_par, s_aug, s_ex, s_ret, s_ife, s_for, ss_nil, ss_cons, th_nil, th_rt, b_add, b_sub, c_eqi, c_nei, c_eqs, c_nes, c_lt, c_le, c_gt, c_ge, c_isn, c_isnn, i_tup, bi_len_t, bi_min2, bi_max2, R_bind, R_pure, R_lift, R_rd, R_alloc, R_tst, some_ex, L0, LS, OB, id_eq, M0, setAll, S0, SS, AP, Rp0, RpS, A0, A1, A2, A3, AN2, AN3, Nat.reduceBEq, beq_self_eq_true, if_true, if_false, Bool.false_eq_true, reduceCtorEq, decide_eq_true_eq, Bool.not_true, Bool.not_false, true_and, and_true, exists_const, decide_true, decide_false, List.nil_append]
    refine run_widest h2 (by omega) fun s8 ex8 => ?_
    try simp only [th_nx, ss_cons, s_while, e_var, e_int, e_bl, e_non, e_str, e_ty, e_fnv, e_tup, e_lst, e_bin, e_not, e_neg, neg_i, e_cmp, e_chain, e_and, e_or, e_ife, e_idx, e_slc, e_call, e_bi, e_meth, es_nil, es_cons, g_n, g_t, g_sub, gs_cons, gs_nil, s_asg, s_par, s_aug, s_ex, s_ret, s_ife, s_for, ss_nil, ss_cons, th_nil, th_rt, b_add, b_sub, c_eqi, c_nei, c_eqs, c_nes, c_lt, c_le, c_gt, c_ge, c_isn, c_isnn, i_tup, bi_len_t, bi_min2, bi_max2, R_bind, R_pure, R_lift, R_rd, R_alloc, R_tst, some_ex, L0, LS, OB, id_eq, M0, setAll, S0, SS, AP, Rp0, RpS, A0, A1, A2, A3, AN2, AN3, Nat.reduceBEq, beq_self_eq_true, if_true, if_false, Bool.false_eq_true, reduceCtorEq, decide_eq_true_eq, Bool.not_true, Bool.not_false, true_and, and_true, exists_const, decide_true, decide_false, List.nil_append]
    rw [show (if wid ps2 > wid ps1 then wid ps2 else wid ps1) = mxJ (wid ps1) (wid ps2) from rfl]
    have hnf := getL_lt g5
    refine R_while (N := 3161284) (fun i σ s => ∃ (front : List (Wd (List Pt × List Pt))) (seen before : List (List Pt × List Pt)) (nf : Nat) (y3 y4 y5 y6 y10 y11 y12 y13 y14 y15 : Option D),
      σ = [some (.tup (ps1.map Fi.d)), some (.tup (ps2.map Fi.d)), some (.fn fd), y3, y4, y5, y6, some (.ref nf), some (.ref s5.length), some (.int (mxJ (wid ps1) (wid ps2))), y10, y11, y12, y13, y14, y15] ∧ Ext st s ∧
      getL s nf = some (front.map wD) ∧ s[s5.length]? = some (.dct (kvT seen)) ∧ nf ≠ s5.length ∧ Lv (rchN ps1 ps2) (stepP ps1 ps2) (badP δ ps1 ps2) (q00 ps1 ps2) i front seen before ∧ (∀ x ∈ front, GQ ps1 ps2 x.2) ∧ (∀ q ∈ seen, GQ ps1 ps2 q) ∧ i ≤ seen.length ∧ (front ≠ [] → i + 1 ≤ seen.length)) ?_ (by omega) ?_ ?_
    · rintro i σ s ⟨front, seen, before, nf, _, _, _, _, _, _, _, _, _, _, _, _, _, _, _, lv, _, hq, hi, _⟩
      exact Nat.le_trans hi (gq_len h1 h2 lv.nodup hq)
    · refine ⟨_, _, _, s4.length, _, _, _, _, _, _, _, _, _, _, rfl, E4.trans (E5.trans (E6.trans (ex7.trans ex8))), ext_getL (xs := [([0], q00 ps1 ps2)].map wD) (E6.trans (ex7.trans ex8)) g5, ext_get (ex7.trans ex8) g6, by omega, lv_zero, fun x hx => ?_, fun q hq => ?_, Nat.zero_le _, fun _ => Nat.le_refl _⟩
      · rw [List.mem_singleton.mp hx]; exact gq_zero h1 h2
      · rw [List.mem_singleton.mp hq]; exact gq_zero h1 h2
    · rintro i σ s ⟨front, seen, before, nf, y3, y4, y5, y6, y10, y11, y12, y13, y14, y15, rfl, ex, hf, hs, hne, lv, gf, gs, hi, hi2⟩
      try simp only [e_lst, e_var, e_int, e_bl, e_non, e_str, e_ty, e_fnv, e_tup, e_lst, e_bin, e_not, e_neg, neg_i, e_cmp, e_chain, e_and, e_or, e_ife, e_idx, e_slc, e_call, e_bi, e_meth, es_nil, es_cons, g_n, g_t, g_sub, gs_cons, gs_nil, s_asg, s_par, s_aug, s_ex, s_ret, s_ife, s_for, ss_nil, ss_cons, th_nil, th_rt, b_add, b_sub, c_eqi, c_nei, c_eqs, c_nes, c_lt, c_le, c_gt, c_ge, c_isn, c_isnn, i_tup, bi_len_t, bi_min2, bi_max2, R_bind, R_pure, R_lift, R_rd, R_alloc, R_tst, some_ex, L0, LS, OB, id_eq, M0, setAll, S0, SS, AP, Rp0, RpS, A0, A1, A2, A3, AN2, AN3, Nat.reduceBEq, beq_self_eq_true, if_true, if_false, Bool.false_eq_true, reduceCtorEq, decide_eq_true_eq, Bool.not_true, Bool.not_false, true_and, and_true, exists_const, decide_true, decide_false, List.nil_append]
      refine ⟨_, c_neE (xs := front.map wD) (ext_getL (Ext.new _ _) hf) getL_new (okd_ws front), ?_⟩
      cases hfr : front with
      | nil =>
        subst hfr
        refine .inl ⟨rfl, ?_⟩
        try simp only [th_nx, ss_cons, s_ret, e_var, e_int, e_bl, e_non, e_str, e_ty, e_fnv, e_tup, e_lst, e_bin, e_not, e_neg, neg_i, e_cmp, e_chain, e_and, e_or, e_ife, e_idx, e_slc, e_call, e_bi, e_meth, es_nil, es_cons, g_n, g_t, g_sub, gs_cons, gs_nil, s_asg, s_par, s_aug, s_ex, s_ret, s_ife, s_for, ss_nil, ss_cons, th_nil, th_rt, b_add, b_sub, c_eqi, c_nei, c_eqs, c_nes, c_lt, c_le, c_gt, c_ge, c_isn, c_isnn, i_tup, bi_len_t, bi_min2, bi_max2, R_bind, R_pure, R_lift, R_rd, R_alloc, R_tst, some_ex, L0, LS, OB, id_eq, M0, setAll, S0, SS, AP, Rp0, RpS, A0, A1, A2, A3, AN2, AN3, Nat.reduceBEq, beq_self_eq_true, if_true, if_false, Bool.false_eq_true, reduceCtorEq, decide_eq_true_eq, Bool.not_true, Bool.not_false, true_and, and_true, exists_const, decide_true, decide_false, List.nil_append]
        exact h _ none (ex.trans (Ext.new _ _)) (sr _ lv.stop)
      | cons x0 fr0 =>
        rw [← hfr]
        have fne : front ≠ [] := by rw [hfr]; exact List.cons_ne_nil _ _
        refine .inr ⟨by rw [hfr]; rfl, ?_⟩
        have hi3 := hi2 fne
        clear hfr hi2 x0 fr0
        generalize hS0 : s ++ [DO.lst []] = s0
        have x0 : Ext s s0 := by rw [← hS0]; exact Ext.new _ _
        have a0 : Acc st nf s5.length s0.length front seen (expand (rchN ps1 ps2) (stepP ps1 ps2) (front.take 0)) (s0 ++ [DO.lst []]) := by
          refine ⟨ex.trans (x0.trans (Ext.new _ _)), ext_getL (x0.trans (Ext.new _ _)) hf, ?_, ?_⟩
          · rw [ext_get (x0.trans (Ext.new _ _)) hs]
            show some (DO.dct (kvT seen)) = some (DO.dct (kvT (seen ++ [])))
            rw [List.append_nil]
          · rw [List.getElem?_append_right (Nat.le_refl _), Nat.sub_self]
            rfl
        have q1 : st.length ≤ s5.length := by have := E4.1; omega
        have q2 : st.length ≤ s0.length := (ex.trans x0).1
        have q3 : nf < s0.length := Nat.lt_of_lt_of_le (getL_lt hf) x0.1
        have q4 : s5.length < s0.length := Nat.lt_of_lt_of_le (List.getElem?_eq_some_iff.mp hs).1 x0.1
        have flen : front.length ≤ 3161284 := by
          have e1 := gq_len h1 h2 lv.nodup gs
          have e2 : seen.length = before.length + front.length := by rw [lv.sn, List.length_append, List.length_map]
          omega
        try simp only [th_nx, ss_cons, s_for, it_ex, e_var, e_int, e_bl, e_non, e_str, e_ty, e_fnv, e_tup, e_lst, e_bin, e_not, e_neg, neg_i, e_cmp, e_chain, e_and, e_or, e_ife, e_idx, e_slc, e_call, e_bi, e_meth, es_nil, es_cons, g_n, g_t, g_sub, gs_cons, gs_nil, s_asg, s_par, s_aug, s_ex, s_ret, s_ife, s_for, ss_nil, ss_cons, th_nil, th_rt, b_add, b_sub, c_eqi, c_nei, c_eqs, c_nes, c_lt, c_le, c_gt, c_ge, c_isn, c_isnn, i_tup, bi_len_t, bi_min2, bi_max2, R_bind, R_pure, R_lift, R_rd, R_alloc, R_tst, some_ex, L0, LS, OB, id_eq, M0, setAll, S0, SS, AP, Rp0, RpS, A0, A1, A2, A3, AN2, AN3, Nat.reduceBEq, beq_self_eq_true, if_true, if_false, Bool.false_eq_true, reduceCtorEq, decide_eq_true_eq, Bool.not_true, Bool.not_false, true_and, and_true, exists_const, decide_true, decide_false, List.nil_append]
        refine R_it_ref (ext_getL (x0.trans (Ext.new _ _)) hf) ?_
        refine R_for (xs := front.map wD) (fun a σ s => ∃ (y3 y4 y5 y6 y11 y12 y13 y14 y15 : Option D),
          σ = [some (.tup (ps1.map Fi.d)), some (.tup (ps2.map Fi.d)), some (.fn fd), y3, y4, y5, y6, some (.ref nf), some (.ref s5.length), some (.int (mxJ (wid ps1) (wid ps2))), some (.ref s0.length), y11, y12, y13, y14, y15] ∧
          Acc st nf s5.length s0.length front seen (expand (rchN ps1 ps2) (stepP ps1 ps2) (front.take a)) s ∧ badL (rchN ps1 ps2) (badP δ ps1 ps2) (front.take a) = []) (by rw [List.length_map]; omega) ⟨_, _, _, _, _, _, _, _, _, rfl, a0, rfl⟩ ?_ ?_ ?_
        · rintro a σ s' ha ⟨_, _, _, _, _, _, _, _, _, _, acc, _⟩
          exact get_lst acc.fr ha
        · rintro a xd σ s' hx ⟨y3, y4, y5, y6, y11, y12, y13, y14, y15, rfl, acc, nb⟩
          rw [List.getElem?_map, Option.map_eq_some_iff] at hx
          obtain ⟨x, hx, rfl⟩ := hx
          have hxm := List.mem_of_getElem? hx
          have gx := gf x hxm
          have xl := lev_len x (lv.mem x hxm)
          have xne : x.1 ≠ [] := fun z => by rw [z] at xl; cases xl
          have ilim : i ≤ 3161284 := Nat.le_trans hi (gq_len h1 h2 lv.nodup gs)
          try simp only [wD, g_t, gs_cons, gs_nil, LN, LC1, TN, TC1, th_nx, ss_cons, s_for, it_rng, e_var, e_int, e_bl, e_non, e_str, e_ty, e_fnv, e_tup, e_lst, e_bin, e_not, e_neg, neg_i, e_cmp, e_chain, e_and, e_or, e_ife, e_idx, e_slc, e_call, e_bi, e_meth, es_nil, es_cons, g_n, g_t, g_sub, gs_cons, gs_nil, s_asg, s_par, s_aug, s_ex, s_ret, s_ife, s_for, ss_nil, ss_cons, th_nil, th_rt, b_add, b_sub, c_eqi, c_nei, c_eqs, c_nes, c_lt, c_le, c_gt, c_ge, c_isn, c_isnn, i_tup, bi_len_t, bi_min2, bi_max2, R_bind, R_pure, R_lift, R_rd, R_alloc, R_tst, some_ex, L0, LS, OB, id_eq, M0, setAll, S0, SS, AP, Rp0, RpS, A0, A1, A2, A3, AN2, AN3, Nat.reduceBEq, beq_self_eq_true, if_true, if_false, Bool.false_eq_true, reduceCtorEq, decide_eq_true_eq, Bool.not_true, Bool.not_false, true_and, and_true, exists_const, decide_true, decide_false, List.nil_append]
          refine R_rg1 r1 (by omega) ?_
          refine R_for (xs := rgL (rchN ps1 ps2)) (fun b σ s => ∃ (y4 y6 y12 y13 y14 y15 : Option D),
            σ = [some (.tup (ps1.map Fi.d)), some (.tup (ps2.map Fi.d)), some (.fn fd), some (stD x.2.1), y4, some (stD x.2.2), y6, some (.ref nf), some (.ref s5.length), some (.int (mxJ (wid ps1) (wid ps2))), some (.ref s0.length), some (.tup (x.1.map D.int)), y12, y13, y14, y15] ∧
            Acc st nf s5.length s0.length front seen (expand (rchN ps1 ps2) (stepP ps1 ps2) (front.take a) ++ (succs (rchN ps1 ps2) (stepP ps1 ps2) x).take b) s ∧ ∀ j, j < b → badP δ ps1 ps2 (j + 1) x.2 = false) (by rw [rgL_len]; unfold rchN; omega) ⟨_, _, _, _, _, _, rfl, ?_, fun j hj => absurd hj (Nat.not_lt_zero _)⟩ ?_ ?_ ?_
          · rw [List.take_zero, List.append_nil]
            exact acc
          · intro b σ s2 hb _
            rw [rgL_len] at hb
            exact get_rg1 hb
          · rintro b y σ s2 hy ⟨y4, y6, y12, y13, y14, y15, rfl, acc2, nb2⟩
            obtain ⟨hb, rfl⟩ := rgL_get hy
            rw [show (1 + (b : Int)) = ((b + 1 : Nat) : Int) by omega]
            try simp only [e_var, e_int, e_bl, e_non, e_str, e_ty, e_fnv, e_tup, e_lst, e_bin, e_not, e_neg, neg_i, e_cmp, e_chain, e_and, e_or, e_ife, e_idx, e_slc, e_call, e_bi, e_meth, es_nil, es_cons, g_n, g_t, g_sub, gs_cons, gs_nil, s_asg, s_par, s_aug, s_ex, s_ret, s_ife, s_for, ss_nil, ss_cons, th_nil, th_rt, b_add, b_sub, c_eqi, c_nei, c_eqs, c_nes, c_lt, c_le, c_gt, c_ge, c_isn, c_isnn, i_tup, bi_len_t, bi_min2, bi_max2, R_bind, R_pure, R_lift, R_rd, R_alloc, R_tst, some_ex, L0, LS, OB, id_eq, M0, setAll, S0, SS, AP, Rp0, RpS, A0, A1, A2, A3, AN2, AN3, Nat.reduceBEq, beq_self_eq_true, if_true, if_false, Bool.false_eq_true, reduceCtorEq, decide_eq_true_eq, Bool.not_true, Bool.not_false, true_and, and_true, exists_const, decide_true, decide_false, List.nil_append]
            refine run_step h1 gx.1 (by omega) (by omega) fun s3 x3 => ?_
            try simp only [g_t, gs_cons, gs_nil, LN, LC1, TN, TC1, th_nx, ss_cons, s_asg, e_var, e_int, e_bl, e_non, e_str, e_ty, e_fnv, e_tup, e_lst, e_bin, e_not, e_neg, neg_i, e_cmp, e_chain, e_and, e_or, e_ife, e_idx, e_slc, e_call, e_bi, e_meth, es_nil, es_cons, g_n, g_t, g_sub, gs_cons, gs_nil, s_asg, s_par, s_aug, s_ex, s_ret, s_ife, s_for, ss_nil, ss_cons, th_nil, th_rt, b_add, b_sub, c_eqi, c_nei, c_eqs, c_nes, c_lt, c_le, c_gt, c_ge, c_isn, c_isnn, i_tup, bi_len_t, bi_min2, bi_max2, R_bind, R_pure, R_lift, R_rd, R_alloc, R_tst, some_ex, L0, LS, OB, id_eq, M0, setAll, S0, SS, AP, Rp0, RpS, A0, A1, A2, A3, AN2, AN3, Nat.reduceBEq, beq_self_eq_true, if_true, if_false, Bool.false_eq_true, reduceCtorEq, decide_eq_true_eq, Bool.not_true, Bool.not_false, true_and, and_true, exists_const, decide_true, decide_false, List.nil_append]
            refine run_step h2 gx.2 (by omega) (by omega) fun s4' x4 => ?_
            try simp only [g_t, gs_cons, gs_nil, LN, LC1, TN, TC1, th_nx, ss_cons, s_asg, lastD_atI xne, e_var, e_int, e_bl, e_non, e_str, e_ty, e_fnv, e_tup, e_lst, e_bin, e_not, e_neg, neg_i, e_cmp, e_chain, e_and, e_or, e_ife, e_idx, e_slc, e_call, e_bi, e_meth, es_nil, es_cons, g_n, g_t, g_sub, gs_cons, gs_nil, s_asg, s_par, s_aug, s_ex, s_ret, s_ife, s_for, ss_nil, ss_cons, th_nil, th_rt, b_add, b_sub, c_eqi, c_nei, c_eqs, c_nes, c_lt, c_le, c_gt, c_ge, c_isn, c_isnn, i_tup, bi_len_t, bi_min2, bi_max2, R_bind, R_pure, R_lift, R_rd, R_alloc, R_tst, some_ex, L0, LS, OB, id_eq, M0, setAll, S0, SS, AP, Rp0, RpS, A0, A1, A2, A3, AN2, AN3, Nat.reduceBEq, beq_self_eq_true, if_true, if_false, Bool.false_eq_true, reduceCtorEq, decide_eq_true_eq, Bool.not_true, Bool.not_false, true_and, and_true, exists_const, decide_true, decide_false, List.nil_append]
            have acc3 := acc2.ext' (x3.trans x4)
            rw [b_cat (by rw [List.length_map, xl]; exact Nat.le_trans (by show i + 1 + 1 ≤ 3161286; omega) (by decide))]
            try simp only [th_nx, ss_cons, s_asg, e_callv, callG_fn, optD_non, e_var, e_int, e_bl, e_non, e_str, e_ty, e_fnv, e_tup, e_lst, e_bin, e_not, e_neg, neg_i, e_cmp, e_chain, e_and, e_or, e_ife, e_idx, e_slc, e_call, e_bi, e_meth, es_nil, es_cons, g_n, g_t, g_sub, gs_cons, gs_nil, s_asg, s_par, s_aug, s_ex, s_ret, s_ife, s_for, ss_nil, ss_cons, th_nil, th_rt, b_add, b_sub, c_eqi, c_nei, c_eqs, c_nes, c_lt, c_le, c_gt, c_ge, c_isn, c_isnn, i_tup, bi_len_t, bi_min2, bi_max2, R_bind, R_pure, R_lift, R_rd, R_alloc, R_tst, some_ex, L0, LS, OB, id_eq, M0, setAll, S0, SS, AP, Rp0, RpS, A0, A1, A2, A3, AN2, AN3, Nat.reduceBEq, beq_self_eq_true, if_true, if_false, Bool.false_eq_true, reduceCtorEq, decide_eq_true_eq, Bool.not_true, Bool.not_false, true_and, and_true, exists_const, decide_true, decide_false, List.nil_append]
            refine hδ _ _ _ _ _ ?_
            rw [show (x.1.map D.int ++ [D.int (x.1.getLastD 0 + ((b + 1 : Nat) : Int))]) = (ext1 x.1 (b + 1)).map D.int by unfold ext1; rw [List.map_append]; rfl]
            have eb : δ (kp (stp ps1 ((b + 1 : Nat) : Int) x.2.1).2) (kp (stp ps2 ((b + 1 : Nat) : Int) x.2.2).2) = badP δ ps1 ps2 (b + 1) x.2 := rfl
            rw [eb]
            rcases bc (badP δ ps1 ps2 (b + 1) x.2) with cb | cb
            · rw [cb]
              try simp only [th_nx, th_rt, ss_cons, s_ret, un_rng, un_lst, e_var, e_int, e_bl, e_non, e_str, e_ty, e_fnv, e_tup, e_lst, e_bin, e_not, e_neg, neg_i, e_cmp, e_chain, e_and, e_or, e_ife, e_idx, e_slc, e_call, e_bi, e_meth, es_nil, es_cons, g_n, g_t, g_sub, gs_cons, gs_nil, s_asg, s_par, s_aug, s_ex, s_ret, s_ife, s_for, ss_nil, ss_cons, th_nil, th_rt, b_add, b_sub, c_eqi, c_nei, c_eqs, c_nes, c_lt, c_le, c_gt, c_ge, c_isn, c_isnn, i_tup, bi_len_t, bi_min2, bi_max2, R_bind, R_pure, R_lift, R_rd, R_alloc, R_tst, some_ex, L0, LS, OB, id_eq, M0, setAll, S0, SS, AP, Rp0, RpS, A0, A1, A2, A3, AN2, AN3, Nat.reduceBEq, beq_self_eq_true, if_true, if_false, Bool.false_eq_true, reduceCtorEq, decide_eq_true_eq, Bool.not_true, Bool.not_false, true_and, and_true, exists_const, decide_true, decide_false, List.nil_append]
              refine h _ (some (ext1 x.1 (b + 1))) acc3.ext (sr _ (lv.found ?_))
              rw [← List.take_append_drop a front, badL_app, nb, List.nil_append, drop_at hx, badL_cons, List.head?_append, bads_head hb nb2 cb]
              rfl
            · rw [cb]
              try simp only [th_nx, ss_cons, s_ife, e_var, e_int, e_bl, e_non, e_str, e_ty, e_fnv, e_tup, e_lst, e_bin, e_not, e_neg, neg_i, e_cmp, e_chain, e_and, e_or, e_ife, e_idx, e_slc, e_call, e_bi, e_meth, es_nil, es_cons, g_n, g_t, g_sub, gs_cons, gs_nil, s_asg, s_par, s_aug, s_ex, s_ret, s_ife, s_for, ss_nil, ss_cons, th_nil, th_rt, b_add, b_sub, c_eqi, c_nei, c_eqs, c_nes, c_lt, c_le, c_gt, c_ge, c_isn, c_isnn, i_tup, bi_len_t, bi_min2, bi_max2, R_bind, R_pure, R_lift, R_rd, R_alloc, R_tst, some_ex, L0, LS, OB, id_eq, M0, setAll, S0, SS, AP, Rp0, RpS, A0, A1, A2, A3, AN2, AN3, Nat.reduceBEq, beq_self_eq_true, if_true, if_false, Bool.false_eq_true, reduceCtorEq, decide_eq_true_eq, Bool.not_true, Bool.not_false, true_and, and_true, exists_const, decide_true, decide_false, List.nil_append]
              have ya : (succs (rchN ps1 ps2) (stepP ps1 ps2) x).take (b + 1) = (succs (rchN ps1 ps2) (stepP ps1 ps2) x).take b ++ [(ext1 x.1 (b + 1), stepP ps1 ps2 (b + 1) x.2)] := cut_snoc (succs_get hb)
              rw [ya, ← List.append_assoc]
              have nb3 : ∀ j, j < b + 1 → badP δ ps1 ps2 (j + 1) x.2 = false := fun j hj => by
                by_cases e : j = b
                · rw [e]; exact cb
                · exact nb2 j (by omega)
              have en : cop s4' .nmem (.tup [stD (stp ps1 ((b + 1 : Nat) : Int) x.2.1).1, stD (stp ps2 ((b + 1 : Nat) : Int) x.2.2).1]) (.ref s5.length) = some (.bl !(decide (stepP ps1 ps2 (b + 1) x.2 ∈ seen ++ (uniq seen (expand (rchN ps1 ps2) (stepP ps1 ps2) (front.take a) ++ (succs (rchN ps1 ps2) (stepP ps1 ps2) x).take b)).map (·.2)))) := c_nmemD (q := stepP ps1 ps2 (b + 1) x.2) acc3.sn
              rw [en]
              by_cases cm : stepP ps1 ps2 (b + 1) x.2 ∈ seen ++ (uniq seen (expand (rchN ps1 ps2) (stepP ps1 ps2) (front.take a) ++ (succs (rchN ps1 ps2) (stepP ps1 ps2) x).take b)).map (·.2)
              · rw [decide_eq_true cm]
                try simp only [e_var, e_int, e_bl, e_non, e_str, e_ty, e_fnv, e_tup, e_lst, e_bin, e_not, e_neg, neg_i, e_cmp, e_chain, e_and, e_or, e_ife, e_idx, e_slc, e_call, e_bi, e_meth, es_nil, es_cons, g_n, g_t, g_sub, gs_cons, gs_nil, s_asg, s_par, s_aug, s_ex, s_ret, s_ife, s_for, ss_nil, ss_cons, th_nil, th_rt, b_add, b_sub, c_eqi, c_nei, c_eqs, c_nes, c_lt, c_le, c_gt, c_ge, c_isn, c_isnn, i_tup, bi_len_t, bi_min2, bi_max2, R_bind, R_pure, R_lift, R_rd, R_alloc, R_tst, some_ex, L0, LS, OB, id_eq, M0, setAll, S0, SS, AP, Rp0, RpS, A0, A1, A2, A3, AN2, AN3, Nat.reduceBEq, beq_self_eq_true, if_true, if_false, Bool.false_eq_true, reduceCtorEq, decide_eq_true_eq, Bool.not_true, Bool.not_false, true_and, and_true, exists_const, decide_true, decide_false, List.nil_append]
                exact ⟨_, _, _, _, _, _, rfl, acc3.old cm, nb3⟩
              · rw [decide_eq_false cm]
                try simp only [th_nx, ss_cons, s_asg, e_var, e_int, e_bl, e_non, e_str, e_ty, e_fnv, e_tup, e_lst, e_bin, e_not, e_neg, neg_i, e_cmp, e_chain, e_and, e_or, e_ife, e_idx, e_slc, e_call, e_bi, e_meth, es_nil, es_cons, g_n, g_t, g_sub, gs_cons, gs_nil, s_asg, s_par, s_aug, s_ex, s_ret, s_ife, s_for, ss_nil, ss_cons, th_nil, th_rt, b_add, b_sub, c_eqi, c_nei, c_eqs, c_nes, c_lt, c_le, c_gt, c_ge, c_isn, c_isnn, i_tup, bi_len_t, bi_min2, bi_max2, R_bind, R_pure, R_lift, R_rd, R_alloc, R_tst, some_ex, L0, LS, OB, id_eq, M0, setAll, S0, SS, AP, Rp0, RpS, A0, A1, A2, A3, AN2, AN3, Nat.reduceBEq, beq_self_eq_true, if_true, if_false, Bool.false_eq_true, reduceCtorEq, decide_eq_true_eq, Bool.not_true, Bool.not_false, true_and, and_true, exists_const, decide_true, decide_false, List.nil_append]
                have gA : ∀ y ∈ expand (rchN ps1 ps2) (stepP ps1 ps2) (front.take a) ++ (succs (rchN ps1 ps2) (stepP ps1 ps2) x).take b, GQ ps1 ps2 y.2 := fun y hy => by
                  rcases List.mem_append.mp hy with hy | hy
                  · obtain ⟨z, hz, hy⟩ := List.mem_flatMap.mp hy
                    exact gq_succs h1 h2 (gf z (List.mem_of_mem_take hz)) y hy
                  · exact gq_succs h1 h2 gx y (List.mem_of_mem_take hy)
                have lA := gq_len h1 h2 (uniq_nodup (expand (rchN ps1 ps2) (stepP ps1 ps2) (front.take a) ++ (succs (rchN ps1 ps2) (stepP ps1 ps2) x).take b) seen lv.nodup) fun q hq => by
                  rcases List.mem_append.mp hq with hq | hq
                  · exact gs q hq
                  · obtain ⟨y, hy, rfl⟩ := List.mem_map.mp hq
                    exact gA y (uniq_sub _ _ y hy)
                have LL : (3161285 : Nat) ≤ LIM := by decide
                refine R_setT (q := stepP ps1 ps2 (b + 1) x.2) acc3.sn cm (by omega) ?_
                have nn : (s4'.set s5.length (.dct (kvT (seen ++ (uniq seen (expand (rchN ps1 ps2) (stepP ps1 ps2) (front.take a) ++ (succs (rchN ps1 ps2) (stepP ps1 ps2) x).take b)).map (·.2) ++ [stepP ps1 ps2 (b + 1) x.2]))))[s0.length]? = some (.lst ((uniq seen (expand (rchN ps1 ps2) (stepP ps1 ps2) (front.take a) ++ (succs (rchN ps1 ps2) (stepP ps1 ps2) x).take b)).map wD)) := by
                  rw [set_ne (by omega)]
                  exact acc3.nw
                refine ⟨(), mchk_append (getL_of nn), R_mappend nn ?_ ⟨_, _, _, _, _, _, rfl, ?_, nb3⟩⟩
                · rw [List.length_append, List.length_map] at lA
                  rw [List.length_map]
                  omega
                · exact acc3.new (y := (ext1 x.1 (b + 1), stepP ps1 ps2 (b + 1) x.2)) cm q1 q2 hne (by omega) (by omega)
          · rintro σ s2 ⟨y4, y6, y12, y13, y14, y15, rfl, acc2, nb2⟩
            try simp only [un_rng, e_var, e_int, e_bl, e_non, e_str, e_ty, e_fnv, e_tup, e_lst, e_bin, e_not, e_neg, neg_i, e_cmp, e_chain, e_and, e_or, e_ife, e_idx, e_slc, e_call, e_bi, e_meth, es_nil, es_cons, g_n, g_t, g_sub, gs_cons, gs_nil, s_asg, s_par, s_aug, s_ex, s_ret, s_ife, s_for, ss_nil, ss_cons, th_nil, th_rt, b_add, b_sub, c_eqi, c_nei, c_eqs, c_nes, c_lt, c_le, c_gt, c_ge, c_isn, c_isnn, i_tup, bi_len_t, bi_min2, bi_max2, R_bind, R_pure, R_lift, R_rd, R_alloc, R_tst, some_ex, L0, LS, OB, id_eq, M0, setAll, S0, SS, AP, Rp0, RpS, A0, A1, A2, A3, AN2, AN3, Nat.reduceBEq, beq_self_eq_true, if_true, if_false, Bool.false_eq_true, reduceCtorEq, decide_eq_true_eq, Bool.not_true, Bool.not_false, true_and, and_true, exists_const, decide_true, decide_false, List.nil_append]
            rw [rgL_len] at acc2 nb2
            rw [List.take_of_length_le (l := succs (rchN ps1 ps2) (stepP ps1 ps2) x) (by rw [succs_len]; exact Nat.le_refl _)] at acc2
            refine ⟨_, _, _, _, _, _, _, _, _, rfl, ?_, ?_⟩
            · rw [cut_snoc hx, expand_app, expand_cons]
              show Acc st nf s5.length s0.length front seen (_ ++ (_ ++ [])) s2
              rw [List.append_nil]
              exact acc2
            · rw [cut_snoc hx, badL_app, nb, badL_cons, bads_nil nb2]
              rfl
        · rintro σ s2 ⟨y3, y4, y5, y6, y11, y12, y13, y14, y15, rfl, acc2, nb2⟩
          try simp only [th_nx, ss_cons, s_asg, un_lst, e_var, e_int, e_bl, e_non, e_str, e_ty, e_fnv, e_tup, e_lst, e_bin, e_not, e_neg, neg_i, e_cmp, e_chain, e_and, e_or, e_ife, e_idx, e_slc, e_call, e_bi, e_meth, es_nil, es_cons, g_n, g_t, g_sub, gs_cons, gs_nil, s_asg, s_par, s_aug, s_ex, s_ret, s_ife, s_for, ss_nil, ss_cons, th_nil, th_rt, b_add, b_sub, c_eqi, c_nei, c_eqs, c_nes, c_lt, c_le, c_gt, c_ge, c_isn, c_isnn, i_tup, bi_len_t, bi_min2, bi_max2, R_bind, R_pure, R_lift, R_rd, R_alloc, R_tst, some_ex, L0, LS, OB, id_eq, M0, setAll, S0, SS, AP, Rp0, RpS, A0, A1, A2, A3, AN2, AN3, Nat.reduceBEq, beq_self_eq_true, if_true, if_false, Bool.false_eq_true, reduceCtorEq, decide_eq_true_eq, Bool.not_true, Bool.not_false, true_and, and_true, exists_const, decide_true, decide_false, List.nil_append]
          rw [List.length_map, List.take_length] at acc2 nb2
          have lv2 := lv.next nb2
          refine ⟨_, _, _, _, _, _, _, _, _, _, _, _, _, _, rfl, acc2.ext, getL_of acc2.nw, acc2.sn, by omega, lv2, ?_, ?_, ?_, ?_⟩
          · intro x hx
            obtain ⟨z, hz, hy⟩ := List.mem_flatMap.mp (uniq_sub _ _ x hx)
            exact gq_succs h1 h2 (gf z hz) x hy
          · intro q hq
            rcases List.mem_append.mp hq with hq | hq
            · exact gs q hq
            · obtain ⟨y, hy, rfl⟩ := List.mem_map.mp hq
              obtain ⟨z, hz, hy⟩ := List.mem_flatMap.mp (uniq_sub _ _ y hy)
              exact gq_succs h1 h2 (gf z hz) y hy
          · rw [List.length_append]
            omega
          · intro ne
            have := List.length_pos_iff.mpr ne
            rw [List.length_append, List.length_map]
            omega
/-! ### what stands on it -/
theorem run_unlike (k : Nat) (st : Sto) (a b : Bool) (P : D → Sto → Prop) (h : P (.bl (a != b)) st) : R (callF G w (k + 1) 43 [.bl a, .bl b]) st P := by
  refine R_call (d := d_unlike) rfl rfl ?_
  have e : cop st .ne (.bl a) (.bl b) = some (.bl (a != b)) := by cases a <;> cases b <;> rfl
  try simp only [d_unlike, List.map, e, e_var, e_int, e_bl, e_non, e_str, e_ty, e_fnv, e_tup, e_lst, e_bin, e_not, e_neg, neg_i, e_cmp, e_chain, e_and, e_or, e_ife, e_idx, e_slc, e_call, e_bi, e_meth, es_nil, es_cons, g_n, g_t, g_sub, gs_cons, gs_nil, s_asg, s_par, s_aug, s_ex, s_ret, s_ife, s_for, ss_nil, ss_cons, th_nx, th_rt, b_add, b_sub, c_eqi, c_nei, c_eqs, c_nes, c_lt, c_le, c_gt, c_ge, c_isn, c_isnn, i_tup, bi_len_t, bi_min2, bi_max2, R_bind, R_pure, R_lift, R_rd, R_alloc, R_tst, some_ex, L0, LS, OB, id_eq, M0, setAll, S0, SS, AP, Rp0, RpS, A0, A1, A2, A3, AN2, AN3, Nat.reduceBEq, beq_self_eq_true, if_true, if_false, Bool.false_eq_true, reduceCtorEq, decide_eq_true_eq, Bool.not_true, Bool.not_false, true_and, and_true, exists_const, decide_true, decide_false, List.nil_append]
  exact h
theorem run_loses (k : Nat) (st : Sto) (a b : Bool) (P : D → Sto → Prop) (h : P (.bl (b && !a)) st) : R (callF G w (k + 1) 55 [.bl a, .bl b]) st P := by
  refine R_call (d := d_loses) rfl rfl ?_
  cases a <;> cases b <;> (simp only [d_loses, List.map, e_var, e_int, e_bl, e_non, e_str, e_ty, e_fnv, e_tup, e_lst, e_bin, e_not, e_neg, neg_i, e_cmp, e_chain, e_and, e_or, e_ife, e_idx, e_slc, e_call, e_bi, e_meth, es_nil, es_cons, g_n, g_t, g_sub, gs_cons, gs_nil, s_asg, s_par, s_aug, s_ex, s_ret, s_ife, s_for, ss_nil, ss_cons, th_nx, th_rt, b_add, b_sub, c_eqi, c_nei, c_eqs, c_nes, c_lt, c_le, c_gt, c_ge, c_isn, c_isnn, i_tup, bi_len_t, bi_min2, bi_max2, R_bind, R_pure, R_lift, R_rd, R_alloc, R_tst, some_ex, L0, LS, OB, id_eq, M0, setAll, S0, SS, AP, Rp0, RpS, A0, A1, A2, A3, AN2, AN3, Nat.reduceBEq, beq_self_eq_true, if_true, if_false, Bool.false_eq_true, reduceCtorEq, decide_eq_true_eq, Bool.not_true, Bool.not_false, true_and, and_true, exists_const, decide_true, decide_false, List.nil_append]; exact h)
theorem run_first (h1 : Pip ps1) (h2 : Pip ps2) (hw : 4000000 ≤ w) {Q : D → Sto → Prop} (h : ∀ s res, Ext st s → Srch (fun a b => a != b) ps1 ps2 res → Q (resD res) s) : R (callF G w (k + 5) 44 [.tup (ps1.map Fi.d), .tup (ps2.map Fi.d)]) st Q := by
  refine R_call (d := d_first_difference) rfl rfl ?_
  try simp only [d_first_difference, List.map, e_var, e_int, e_bl, e_non, e_str, e_ty, e_fnv, e_tup, e_lst, e_bin, e_not, e_neg, neg_i, e_cmp, e_chain, e_and, e_or, e_ife, e_idx, e_slc, e_call, e_bi, e_meth, es_nil, es_cons, g_n, g_t, g_sub, gs_cons, gs_nil, s_asg, s_par, s_aug, s_ex, s_ret, s_ife, s_for, ss_nil, ss_cons, th_nx, th_rt, b_add, b_sub, c_eqi, c_nei, c_eqs, c_nes, c_lt, c_le, c_gt, c_ge, c_isn, c_isnn, i_tup, bi_len_t, bi_min2, bi_max2, R_bind, R_pure, R_lift, R_rd, R_alloc, R_tst, some_ex, L0, LS, OB, id_eq, M0, setAll, S0, SS, AP, Rp0, RpS, A0, A1, A2, A3, AN2, AN3, Nat.reduceBEq, beq_self_eq_true, if_true, if_false, Bool.false_eq_true, reduceCtorEq, decide_eq_true_eq, Bool.not_true, Bool.not_false, true_and, and_true, exists_const, decide_true, decide_false, List.nil_append]
  exact run_search run_unlike h1 h2 hw h
theorem resD_non {res : Option (List Int)} : decide (resD res = .non) = decide (res = none) := by cases res <;> rfl
theorem run_equal (h1 : Pip ps1) (h2 : Pip ps2) (hw : 4000000 ≤ w) {Q : D → Sto → Prop} (h : ∀ s res, Ext st s → Srch (fun a b => a != b) ps1 ps2 res → Q (.bl (decide (res = none))) s) : R (callF G w (k + 6) 45 [.tup (ps1.map Fi.d), .tup (ps2.map Fi.d)]) st Q := by
  refine R_call (d := d_equal) rfl rfl ?_
  try simp only [d_equal, List.map, e_var, e_int, e_bl, e_non, e_str, e_ty, e_fnv, e_tup, e_lst, e_bin, e_not, e_neg, neg_i, e_cmp, e_chain, e_and, e_or, e_ife, e_idx, e_slc, e_call, e_bi, e_meth, es_nil, es_cons, g_n, g_t, g_sub, gs_cons, gs_nil, s_asg, s_par, s_aug, s_ex, s_ret, s_ife, s_for, ss_nil, ss_cons, th_nx, th_rt, b_add, b_sub, c_eqi, c_nei, c_eqs, c_nes, c_lt, c_le, c_gt, c_ge, c_isn, c_isnn, i_tup, bi_len_t, bi_min2, bi_max2, R_bind, R_pure, R_lift, R_rd, R_alloc, R_tst, some_ex, L0, LS, OB, id_eq, M0, setAll, S0, SS, AP, Rp0, RpS, A0, A1, A2, A3, AN2, AN3, Nat.reduceBEq, beq_self_eq_true, if_true, if_false, Bool.false_eq_true, reduceCtorEq, decide_eq_true_eq, Bool.not_true, Bool.not_false, true_and, and_true, exists_const, decide_true, decide_false, List.nil_append]
  refine run_first h1 h2 hw fun s res ex z => ?_
  try simp only [resD_non, e_var, e_int, e_bl, e_non, e_str, e_ty, e_fnv, e_tup, e_lst, e_bin, e_not, e_neg, neg_i, e_cmp, e_chain, e_and, e_or, e_ife, e_idx, e_slc, e_call, e_bi, e_meth, es_nil, es_cons, g_n, g_t, g_sub, gs_cons, gs_nil, s_asg, s_par, s_aug, s_ex, s_ret, s_ife, s_for, ss_nil, ss_cons, th_nx, th_rt, b_add, b_sub, c_eqi, c_nei, c_eqs, c_nes, c_lt, c_le, c_gt, c_ge, c_isn, c_isnn, i_tup, bi_len_t, bi_min2, bi_max2, R_bind, R_pure, R_lift, R_rd, R_alloc, R_tst, some_ex, L0, LS, OB, id_eq, M0, setAll, S0, SS, AP, Rp0, RpS, A0, A1, A2, A3, AN2, AN3, Nat.reduceBEq, beq_self_eq_true, if_true, if_false, Bool.false_eq_true, reduceCtorEq, decide_eq_true_eq, Bool.not_true, Bool.not_false, true_and, and_true, exists_const, decide_true, decide_false, List.nil_append]
  exact h s res ex z
theorem run_counter (h1 : Pip ps1) (h2 : Pip ps2) (hw : 4000000 ≤ w) {Q : D → Sto → Prop} (h : ∀ s res, Ext st s → Srch (fun a b => b && !a) ps1 ps2 res → Q (resD res) s) : R (callF G w (k + 5) 56 [.tup (ps1.map Fi.d), .tup (ps2.map Fi.d)]) st Q := by
  refine R_call (d := d_counterexample) rfl rfl ?_
  try simp only [d_counterexample, List.map, e_var, e_int, e_bl, e_non, e_str, e_ty, e_fnv, e_tup, e_lst, e_bin, e_not, e_neg, neg_i, e_cmp, e_chain, e_and, e_or, e_ife, e_idx, e_slc, e_call, e_bi, e_meth, es_nil, es_cons, g_n, g_t, g_sub, gs_cons, gs_nil, s_asg, s_par, s_aug, s_ex, s_ret, s_ife, s_for, ss_nil, ss_cons, th_nx, th_rt, b_add, b_sub, c_eqi, c_nei, c_eqs, c_nes, c_lt, c_le, c_gt, c_ge, c_isn, c_isnn, i_tup, bi_len_t, bi_min2, bi_max2, R_bind, R_pure, R_lift, R_rd, R_alloc, R_tst, some_ex, L0, LS, OB, id_eq, M0, setAll, S0, SS, AP, Rp0, RpS, A0, A1, A2, A3, AN2, AN3, Nat.reduceBEq, beq_self_eq_true, if_true, if_false, Bool.false_eq_true, reduceCtorEq, decide_eq_true_eq, Bool.not_true, Bool.not_false, true_and, and_true, exists_const, decide_true, decide_false, List.nil_append]
  exact run_search run_loses h1 h2 hw h
theorem run_contains (h1 : Pip ps1) (h2 : Pip ps2) (hw : 4000000 ≤ w) {Q : D → Sto → Prop} (h : ∀ s res, Ext st s → Srch (fun a b => b && !a) ps1 ps2 res → Q (.bl (decide (res = none))) s) : R (callF G w (k + 6) 57 [.tup (ps1.map Fi.d), .tup (ps2.map Fi.d)]) st Q := by
  refine R_call (d := d_contains) rfl rfl ?_
  try simp only [d_contains, List.map, e_var, e_int, e_bl, e_non, e_str, e_ty, e_fnv, e_tup, e_lst, e_bin, e_not, e_neg, neg_i, e_cmp, e_chain, e_and, e_or, e_ife, e_idx, e_slc, e_call, e_bi, e_meth, es_nil, es_cons, g_n, g_t, g_sub, gs_cons, gs_nil, s_asg, s_par, s_aug, s_ex, s_ret, s_ife, s_for, ss_nil, ss_cons, th_nx, th_rt, b_add, b_sub, c_eqi, c_nei, c_eqs, c_nes, c_lt, c_le, c_gt, c_ge, c_isn, c_isnn, i_tup, bi_len_t, bi_min2, bi_max2, R_bind, R_pure, R_lift, R_rd, R_alloc, R_tst, some_ex, L0, LS, OB, id_eq, M0, setAll, S0, SS, AP, Rp0, RpS, A0, A1, A2, A3, AN2, AN3, Nat.reduceBEq, beq_self_eq_true, if_true, if_false, Bool.false_eq_true, reduceCtorEq, decide_eq_true_eq, Bool.not_true, Bool.not_false, true_and, and_true, exists_const, decide_true, decide_false, List.nil_append]
  refine run_counter h1 h2 hw fun s res ex z => ?_
  try simp only [resD_non, e_var, e_int, e_bl, e_non, e_str, e_ty, e_fnv, e_tup, e_lst, e_bin, e_not, e_neg, neg_i, e_cmp, e_chain, e_and, e_or, e_ife, e_idx, e_slc, e_call, e_bi, e_meth, es_nil, es_cons, g_n, g_t, g_sub, gs_cons, gs_nil, s_asg, s_par, s_aug, s_ex, s_ret, s_ife, s_for, ss_nil, ss_cons, th_nx, th_rt, b_add, b_sub, c_eqi, c_nei, c_eqs, c_nes, c_lt, c_le, c_gt, c_ge, c_isn, c_isnn, i_tup, bi_len_t, bi_min2, bi_max2, R_bind, R_pure, R_lift, R_rd, R_alloc, R_tst, some_ex, L0, LS, OB, id_eq, M0, setAll, S0, SS, AP, Rp0, RpS, A0, A1, A2, A3, AN2, AN3, Nat.reduceBEq, beq_self_eq_true, if_true, if_false, Bool.false_eq_true, reduceCtorEq, decide_eq_true_eq, Bool.not_true, Bool.not_false, true_and, and_true, exists_const, decide_true, decide_false, List.nil_append]
  exact h s res ex z
end
end TL

/-! The laws' reach; what a search's words mean. -/
namespace TL
def rchG (r : Int) : Fi → Int
  | .ev _ _ => r
  | f => mxJ r f.mem
theorem rchG_wid : ∀ (ps : List Fi) (r : Int), 1 ≤ r → ps.foldl rchG r = maxI r (ps.map Fi.mem)
  | [], r, _ => rfl
  | f :: ps, r, h => by
    rw [List.foldl_cons]
    show _ = maxI (if f.mem > r then f.mem else r) (ps.map Fi.mem)
    have e : rchG r f = if f.mem > r then f.mem else r := by
      cases f with
      | ev n k =>
        show r = if (1 : Int) > r then 1 else r
        rw [if_neg (by omega)]
      | sp n => rfl
      | fr n => rfl
      | li c w => rfl
    rw [e]
    exact rchG_wid ps _ (by split <;> omega)
theorem bi_intB {b : Bool} : bifn .int [.bl b] = pure (.int (b2i b)) := rfl
section
variable {w k : Nat} {st : Sto}
theorem run_reachW {ps : List Fi} {Q : D → Sto → Prop} (hp : ps.length < w) (h : Q (.int (wid ps)) st) : R (callF G w (k + 1) 37 [.tup (ps.map Fi.d)]) st Q := by
  refine R_call (d := d_law_reach) rfl rfl ?_
  try simp only [d_law_reach, List.map, it_ex, it_tup, e_var, e_int, e_bl, e_non, e_str, e_ty, e_fnv, e_tup, e_lst, e_bin, e_not, e_neg, neg_i, e_cmp, e_chain, e_and, e_or, e_ife, e_idx, e_slc, e_call, e_bi, e_meth, es_nil, es_cons, g_n, g_t, g_sub, gs_cons, gs_nil, s_asg, s_par, s_aug, s_ex, s_ret, s_ife, s_for, ss_nil, ss_cons, th_nx, th_rt, b_add, b_sub, c_eqi, c_nei, c_eqs, c_nes, c_lt, c_le, c_gt, c_ge, c_isn, c_isnn, i_tup, bi_len_t, bi_min2, bi_max2, R_bind, R_pure, R_lift, R_rd, R_alloc, R_tst, some_ex, L0, LS, OB, id_eq, M0, setAll, S0, SS, AP, Rp0, RpS, A0, A1, A2, A3, AN2, AN3, Nat.reduceBEq, beq_self_eq_true, if_true, if_false, Bool.false_eq_true, reduceCtorEq, decide_eq_true_eq, Bool.not_true, Bool.not_false, true_and, and_true, exists_const, decide_true, decide_false, List.nil_append]
  refine R_for (xs := ps.map Fi.d) (fun i σ s => ∃ y, σ = [some (.tup (ps.map Fi.d)), some (.int ((ps.take i).foldl rchG 1)), y] ∧ s = st) (by rw [List.length_map]; exact hp) ⟨none, rfl, rfl⟩ (fun i σ s hi _ => get_tup hi) ?_ ?_
  · rintro i x σ s hx ⟨y, rfl, rfl⟩
    rw [List.getElem?_map, Option.map_eq_some_iff] at hx
    obtain ⟨f, hf, rfl⟩ := hx
    have tk : (ps.take (i + 1)).foldl rchG 1 = rchG ((ps.take i).foldl rchG 1) f := by rw [List.take_add_one, hf, List.foldl_append]; rfl
    rw [tk]
    generalize (ps.take i).foldl rchG 1 = r
    cases f with
    | ev n q => simp only [Fi.d, e_var, e_int, e_bl, e_non, e_str, e_ty, e_fnv, e_tup, e_lst, e_bin, e_not, e_neg, neg_i, e_cmp, e_chain, e_and, e_or, e_ife, e_idx, e_slc, e_call, e_bi, e_meth, es_nil, es_cons, g_n, g_t, g_sub, gs_cons, gs_nil, s_asg, s_par, s_aug, s_ex, s_ret, s_ife, s_for, ss_nil, ss_cons, th_nx, th_rt, b_add, b_sub, c_eqi, c_nei, c_eqs, c_nes, c_lt, c_le, c_gt, c_ge, c_isn, c_isnn, i_tup, bi_len_t, bi_min2, bi_max2, R_bind, R_pure, R_lift, R_rd, R_alloc, R_tst, some_ex, L0, LS, OB, id_eq, M0, setAll, S0, SS, AP, Rp0, RpS, A0, A1, A2, A3, AN2, AN3, Nat.reduceBEq, beq_self_eq_true, if_true, if_false, Bool.false_eq_true, reduceCtorEq, decide_eq_true_eq, Bool.not_true, Bool.not_false, true_and, and_true, exists_const, decide_true, decide_false, List.nil_append]; exact ⟨_, rfl⟩
    | sp n =>
      try simp only [Fi.d, bi_intB, b2i, e_var, e_int, e_bl, e_non, e_str, e_ty, e_fnv, e_tup, e_lst, e_bin, e_not, e_neg, neg_i, e_cmp, e_chain, e_and, e_or, e_ife, e_idx, e_slc, e_call, e_bi, e_meth, es_nil, es_cons, g_n, g_t, g_sub, gs_cons, gs_nil, s_asg, s_par, s_aug, s_ex, s_ret, s_ife, s_for, ss_nil, ss_cons, th_nx, th_rt, b_add, b_sub, c_eqi, c_nei, c_eqs, c_nes, c_lt, c_le, c_gt, c_ge, c_isn, c_isnn, i_tup, bi_len_t, bi_min2, bi_max2, R_bind, R_pure, R_lift, R_rd, R_alloc, R_tst, some_ex, L0, LS, OB, id_eq, M0, setAll, S0, SS, AP, Rp0, RpS, A0, A1, A2, A3, AN2, AN3, Nat.reduceBEq, beq_self_eq_true, if_true, if_false, Bool.false_eq_true, reduceCtorEq, decide_eq_true_eq, Bool.not_true, Bool.not_false, true_and, and_true, exists_const, decide_true, decide_false, List.nil_append]
      refine ⟨some (.tup [.str 0, .int n]), ?_⟩
      have e : n + 0 = n := Int.add_zero n
      rw [e]
      rfl
    | fr n => simp only [Fi.d, bi_intB, b2i, e_var, e_int, e_bl, e_non, e_str, e_ty, e_fnv, e_tup, e_lst, e_bin, e_not, e_neg, neg_i, e_cmp, e_chain, e_and, e_or, e_ife, e_idx, e_slc, e_call, e_bi, e_meth, es_nil, es_cons, g_n, g_t, g_sub, gs_cons, gs_nil, s_asg, s_par, s_aug, s_ex, s_ret, s_ife, s_for, ss_nil, ss_cons, th_nx, th_rt, b_add, b_sub, c_eqi, c_nei, c_eqs, c_nes, c_lt, c_le, c_gt, c_ge, c_isn, c_isnn, i_tup, bi_len_t, bi_min2, bi_max2, R_bind, R_pure, R_lift, R_rd, R_alloc, R_tst, some_ex, L0, LS, OB, id_eq, M0, setAll, S0, SS, AP, Rp0, RpS, A0, A1, A2, A3, AN2, AN3, Nat.reduceBEq, beq_self_eq_true, if_true, if_false, Bool.false_eq_true, reduceCtorEq, decide_eq_true_eq, Bool.not_true, Bool.not_false, true_and, and_true, exists_const, decide_true, decide_false, List.nil_append]; exact ⟨_, rfl⟩
    | li c x =>
      try simp only [Fi.d, bi_intB, b2i, e_var, e_int, e_bl, e_non, e_str, e_ty, e_fnv, e_tup, e_lst, e_bin, e_not, e_neg, neg_i, e_cmp, e_chain, e_and, e_or, e_ife, e_idx, e_slc, e_call, e_bi, e_meth, es_nil, es_cons, g_n, g_t, g_sub, gs_cons, gs_nil, s_asg, s_par, s_aug, s_ex, s_ret, s_ife, s_for, ss_nil, ss_cons, th_nx, th_rt, b_add, b_sub, c_eqi, c_nei, c_eqs, c_nes, c_lt, c_le, c_gt, c_ge, c_isn, c_isnn, i_tup, bi_len_t, bi_min2, bi_max2, R_bind, R_pure, R_lift, R_rd, R_alloc, R_tst, some_ex, L0, LS, OB, id_eq, M0, setAll, S0, SS, AP, Rp0, RpS, A0, A1, A2, A3, AN2, AN3, Nat.reduceBEq, beq_self_eq_true, if_true, if_false, Bool.false_eq_true, reduceCtorEq, decide_eq_true_eq, Bool.not_true, Bool.not_false, true_and, and_true, exists_const, decide_true, decide_false, List.nil_append]
      refine ⟨some (.tup [.str 3, .int c, .int x]), ?_⟩
      have e : x + 0 = x := Int.add_zero x
      rw [e]
      rfl
  · rintro σ s ⟨y, rfl, rfl⟩
    try simp only [un_tup, e_var, e_int, e_bl, e_non, e_str, e_ty, e_fnv, e_tup, e_lst, e_bin, e_not, e_neg, neg_i, e_cmp, e_chain, e_and, e_or, e_ife, e_idx, e_slc, e_call, e_bi, e_meth, es_nil, es_cons, g_n, g_t, g_sub, gs_cons, gs_nil, s_asg, s_par, s_aug, s_ex, s_ret, s_ife, s_for, ss_nil, ss_cons, th_nx, th_rt, b_add, b_sub, c_eqi, c_nei, c_eqs, c_nes, c_lt, c_le, c_gt, c_ge, c_isn, c_isnn, i_tup, bi_len_t, bi_min2, bi_max2, R_bind, R_pure, R_lift, R_rd, R_alloc, R_tst, some_ex, L0, LS, OB, id_eq, M0, setAll, S0, SS, AP, Rp0, RpS, A0, A1, A2, A3, AN2, AN3, Nat.reduceBEq, beq_self_eq_true, if_true, if_false, Bool.false_eq_true, reduceCtorEq, decide_eq_true_eq, Bool.not_true, Bool.not_false, true_and, and_true, exists_const, decide_true, decide_false, List.nil_append]
    rw [List.length_map, List.take_length, rchG_wid ps 1 (Int.le_refl _)]
    exact h
end
/-! ### the words' meaning -/
def WOk (ps1 ps2 : List Fi) (x : Wd (List Pt × List Pt)) : Prop := x.1 ≠ [] ∧ Up x.1 ∧ x.2.1 = (mrun ps1 x.1).1 ∧ x.2.2 = (mrun ps2 x.1).1
theorem last_of {xs : List Int} (h : xs ≠ []) : xs.getLast? = some (xs.getLastD 0) := by
  cases hl : xs.getLast? with
  | none => exact absurd (List.getLast?_eq_none_iff.mp hl) h
  | some u => rw [List.getLastD_eq_getLast?, hl]; rfl
theorem met_ext {ps : List Fi} {xs : List Int} {g : Nat} (h : xs ≠ []) : met ps xs (xs.getLastD 0 + g) = ageAll g ps (mrun ps xs).1 := by
  unfold met aged
  rw [mrun_prev, last_of h]
  show ageAll (xs.getLastD 0 + g - xs.getLastD 0) ps _ = _
  congr 1
  omega
theorem up_ext {xs : List Int} {g : Nat} (h : xs ≠ []) (hu : Up xs) (hg : 0 < g) : Up (ext1 xs g) := by
  refine List.pairwise_append.mpr ⟨hu, List.pairwise_singleton _ _, fun a ha b hb => ?_⟩
  rw [List.mem_singleton.mp hb]
  obtain ⟨ys, e⟩ := List.getLast?_eq_some_iff.mp (last_of h)
  rw [e] at ha hu
  have hl := (up_split hu).2
  rcases List.mem_append.mp ha with ha | ha
  · have := hl a ha
    show a < xs.getLastD 0 + (g : Int)
    omega
  · rw [List.mem_singleton.mp ha]
    show xs.getLastD 0 < xs.getLastD 0 + (g : Int)
    omega
theorem wok_step {ps1 ps2 : List Fi} {x : Wd (List Pt × List Pt)} {j : Nat} (h : WOk ps1 ps2 x) : WOk ps1 ps2 (ext1 x.1 (j + 1), stepP ps1 ps2 (j + 1) x.2) := by
  obtain ⟨h1, h2, h3, h4⟩ := h
  refine ⟨?_, up_ext h1 h2 (by omega), ?_, ?_⟩
  · show x.1 ++ [_] ≠ []
    simp
  · show (stp ps1 ((j + 1 : Nat) : Int) x.2.1).1 = (mrun ps1 (ext1 x.1 (j + 1))).1
    unfold ext1
    rw [mrun_snoc]
    show _ = (rd ps1 (met ps1 x.1 _)).1
    rw [met_ext h1, h3]
    rfl
  · show (stp ps2 ((j + 1 : Nat) : Int) x.2.2).1 = (mrun ps2 (ext1 x.1 (j + 1))).1
    unfold ext1
    rw [mrun_snoc]
    show _ = (rd ps2 (met ps2 x.1 _)).1
    rw [met_ext h1, h4]
    rfl
theorem wok_zero {ps1 ps2 : List Fi} : WOk ps1 ps2 ([0], q00 ps1 ps2) := ⟨by simp, List.pairwise_singleton _ _, rfl, rfl⟩
theorem wok_lev {ps1 ps2 : List Fi} {R k : Nat} : ∀ x ∈ lev R (stepP ps1 ps2) (q00 ps1 ps2) k, WOk ps1 ps2 x := lev_inv wok_zero fun x j h _ => wok_step h
/-- what an event more keeps -/
theorem keep_ext {ps1 ps2 : List Fi} {x : Wd (List Pt × List Pt)} {j : Nat} (h : WOk ps1 ps2 x) :
    keepL ps1 (ext1 x.1 (j + 1)) = keepL ps1 x.1 ++ (if kp (stp ps1 ((j + 1 : Nat) : Int) x.2.1).2 = true then [x.1.getLastD 0 + ((j + 1 : Nat) : Int)] else []) ∧
    keepL ps2 (ext1 x.1 (j + 1)) = keepL ps2 x.1 ++ (if kp (stp ps2 ((j + 1 : Nat) : Int) x.2.2).2 = true then [x.1.getLastD 0 + ((j + 1 : Nat) : Int)] else []) := by
  obtain ⟨h1, h2, h3, h4⟩ := h
  have one : ∀ (ps : List Fi) (q : List Pt), q = (mrun ps x.1).1 → keepL ps (ext1 x.1 (j + 1)) = keepL ps x.1 ++ (if kp (stp ps ((j + 1 : Nat) : Int) q).2 = true then [x.1.getLastD 0 + ((j + 1 : Nat) : Int)] else []) := fun ps q hq => by
    unfold ext1
    rw [keepL_snoc, met_ext h1, ← hq]
    show _ ++ (if (stp ps ((j + 1 : Nat) : Int) q).2 = none then _ else _) = _
    unfold kp
    by_cases c : (stp ps ((j + 1 : Nat) : Int) q).2 = none
    · rw [if_pos c, if_pos (decide_eq_true c)]
    · rw [if_neg c, if_neg (by rw [decide_eq_false c]; exact Bool.false_ne_true)]
  exact ⟨one ps1 _ h3, one ps2 _ h4⟩
theorem keep_zero {ps : List Fi} : keepL ps [0] = if kp (ini ps).2 = true then [0] else [] := by
  have e := keepL_snoc (ps := ps) (xs := []) (t := 0)
  have e2 : keepL ps [0] = [] ++ if (rd ps (met ps [] 0)).2 = none then [0] else [] := e
  rw [e2, List.nil_append]
  show (if (ini ps).2 = none then [0] else []) = _
  unfold kp
  by_cases c : (ini ps).2 = none
  · rw [if_pos c, if_pos (decide_eq_true c)]
  · rw [if_neg c, if_neg (by rw [decide_eq_false c]; exact Bool.false_ne_true)]
end TL

/-! k05: all logs and the search. -/
namespace TL
def logsN (R : Nat) : Nat → List (List Int)
  | 0 => [[0]]
  | k + 1 => (logsN R k).flatMap fun x => (List.range R).map fun j => ext1 x (j + 1)
theorem logs_lev {σ : Type} {R : Nat} {step : Nat → σ → σ} {q : σ} : ∀ k, (lev R step q k).map (·.1) = logsN R k
  | 0 => rfl
  | k + 1 => by
    have ih := logs_lev (R := R) (step := step) (q := q) k
    show ((lev R step q k).flatMap (succs R step)).map (·.1) = (logsN R k).flatMap _
    rw [← ih, List.map_flatMap, List.flatMap_map]
    congr 1
    funext x
    unfold succs
    rw [List.map_map]
    rfl
theorem logs_len {R : Nat} : ∀ k, (logsN R k).length = R ^ k
  | 0 => rfl
  | k + 1 => by
    show ((logsN R k).flatMap _).length = _
    rw [flat_len (n := R) (fun x => by rw [List.length_map, List.length_range]), logs_len k, Nat.pow_succ]
theorem logs_each {R : Nat} : ∀ {k : Nat}, ∀ x ∈ logsN R k, x.length = k + 1 ∧ Up x
  | 0, x, h => by rw [List.mem_singleton.mp h]; exact ⟨rfl, List.pairwise_singleton _ _⟩
  | k + 1, x, h => by
    obtain ⟨y, hy, h⟩ := List.mem_flatMap.mp (show x ∈ (logsN R k).flatMap _ from h)
    obtain ⟨j, _, rfl⟩ := List.mem_map.mp h
    obtain ⟨a, b⟩ := logs_each y hy
    exact ⟨by unfold ext1; rw [List.length_append, a]; rfl, up_ext (fun z => by rw [z] at a; cases a) b (by omega)⟩
/-- the two pipelines keep other events -/
def tells (ps1 ps2 : List Fi) (log : List Int) : Bool := !decide (resL ps1 log = resL ps2 log)
section
variable {ps1 ps2 : List Fi} {R : Nat}
theorem tells_keep (h1 : Pip ps1) (h2 : Pip ps2) {log : List Int} (hu : Up log) : tells ps1 ps2 log = !decide (keepL ps1 log = keepL ps2 log) := by
  unfold tells
  rw [keep_res ps1 h1.good log hu, keep_res ps2 h2.good log hu]
theorem tells_zero (h1 : Pip ps1) (h2 : Pip ps2) : tells ps1 ps2 [0] = (kp (ini ps1).2 != kp (ini ps2).2) := by
  rw [tells_keep h1 h2 (List.pairwise_singleton _ _), keep_zero, keep_zero]
  cases kp (ini ps1).2 <;> cases kp (ini ps2).2 <;> rfl
theorem tells_ext (h1 : Pip ps1) (h2 : Pip ps2) {x : Wd (List Pt × List Pt)} {j : Nat} (h : WOk ps1 ps2 x) (n : tells ps1 ps2 x.1 = false) : tells ps1 ps2 (ext1 x.1 (j + 1)) = badP (fun a b => a != b) ps1 ps2 (j + 1) x.2 := by
  have w2 := wok_step (j := j) h
  rw [tells_keep h1 h2 h.2.1] at n
  have e : keepL ps1 x.1 = keepL ps2 x.1 := by
    rw [Bool.not_eq_false'] at n
    exact of_decide_eq_true n
  rw [tells_keep h1 h2 w2.2.1]
  obtain ⟨e1, e2⟩ := keep_ext (j := j) h
  rw [e1, e2, e]
  show _ = (kp (stp ps1 ((j + 1 : Nat) : Int) x.2.1).2 != kp (stp ps2 ((j + 1 : Nat) : Int) x.2.2).2)
  cases kp (stp ps1 ((j + 1 : Nat) : Int) x.2.1).2 <;> cases kp (stp ps2 ((j + 1 : Nat) : Int) x.2.2).2 <;> simp
theorem find_bads {σ : Type} {bad : Nat → σ → Bool} {D : List Int → Bool} (x : Wd σ) (h : ∀ j, D (ext1 x.1 (j + 1)) = bad (j + 1) x.2) : ((List.range R).map fun j => ext1 x.1 (j + 1)).find? D = (bads R bad x).head? := by
  unfold bads
  rw [List.find?_map, List.head?_map, List.head?_filter]
  have e : (D ∘ fun j => ext1 x.1 (j + 1)) = fun j => bad (j + 1) x.2 := funext h
  rw [e]
theorem find_badL {σ : Type} [DecidableEq σ] {bad : Nat → σ → Bool} {D : List Int → Bool} : ∀ (l : List (Wd σ)), (∀ x ∈ l, ∀ j, D (ext1 x.1 (j + 1)) = bad (j + 1) x.2) → (l.flatMap fun x => (List.range R).map fun j => ext1 x.1 (j + 1)).find? D = (badL R bad l).head?
  | [], _ => rfl
  | x :: l, h => by
    rw [List.flatMap_cons, List.find?_append, badL_cons, List.head?_append, find_bads x (h x List.mem_cons_self), find_badL l fun y hy => h y (List.mem_cons_of_mem _ hy)]
abbrev ne2 : Bool → Bool → Bool := fun a b => a != b
abbrev levP (ps1 ps2 : List Fi) (R k : Nat) := lev R (stepP ps1 ps2) (q00 ps1 ps2) k
theorem find_next (h1 : Pip ps1) (h2 : Pip ps2) {k : Nat} (n : ∀ log ∈ logsN R k, tells ps1 ps2 log = false) : (logsN R (k + 1)).find? (tells ps1 ps2) = (badL R (badP ne2 ps1 ps2) (levP ps1 ps2 R k)).head? := by
  show ((logsN R k).flatMap _).find? _ = _
  rw [← logs_lev (R := R) (step := stepP ps1 ps2) (q := q00 ps1 ps2) k, List.flatMap_map]
  refine find_badL _ fun x hx j => tells_ext h1 h2 (wok_lev x hx) (n x.1 ?_)
  rw [← logs_lev (R := R) (step := stepP ps1 ps2) (q := q00 ps1 ps2) k]
  exact List.mem_map.mpr ⟨x, hx, rfl⟩
theorem none_next (h1 : Pip ps1) (h2 : Pip ps2) {k : Nat} (n : ∀ log ∈ logsN R k, tells ps1 ps2 log = false) (e : badL R (badP ne2 ps1 ps2) (levP ps1 ps2 R k) = []) : ∀ log ∈ logsN R (k + 1), tells ps1 ps2 log = false := by
  have f := find_next (R := R) h1 h2 n
  rw [e] at f
  exact fun log hl => Bool.eq_false_iff.mpr (List.find?_eq_none.mp f log hl)
/-- the logs of at most n events -/
def upto (R n : Nat) : List (List Int) := (List.range n).flatMap (logsN R)
theorem upto_succ {n : Nat} : upto R (n + 1) = upto R n ++ logsN R n := by
  unfold upto
  rw [List.range_succ, List.flatMap_append]
  show _ ++ (logsN R n ++ []) = _
  rw [List.append_nil]
theorem upto_none {n : Nat} (h : ∀ k, k < n → ∀ log ∈ logsN R k, tells ps1 ps2 log = false) : (upto R n).find? (tells ps1 ps2) = none := by
  refine List.find?_eq_none.mpr fun log hl => ?_
  obtain ⟨k, hk, hl⟩ := List.mem_flatMap.mp hl
  rw [h k (List.mem_range.mp hk) log hl]
  exact Bool.false_ne_true
theorem upto_some {n m : Nat} {log : List Int} (h : (upto R n).find? (tells ps1 ps2) = some log) (hm : n ≤ m) : (upto R m).find? (tells ps1 ps2) = some log := by
  obtain ⟨d, rfl⟩ := Nat.exists_eq_add_of_le hm
  induction d with
  | zero => exact h
  | succ d ih =>
    show (upto R (n + d + 1)).find? _ = _
    rw [upto_succ, List.find?_append, ih (Nat.le_add_right _ _)]
    rfl
/-- the law -/
theorem first_upto (h1 : Pip ps1) (h2 : Pip ps2) {res : Option (List Int)} (h : Srch ne2 ps1 ps2 res) (n : Nat) :
    match (upto (rchN ps1 ps2) (n + 1)).find? (tells ps1 ps2) with
    | none => ∀ log, res = some log → n + 2 ≤ log.length
    | some e => res = some e := by
  unfold Srch at h
  split at h
  · rename_i c
    have e : (upto (rchN ps1 ps2) 1).find? (tells ps1 ps2) = some [0] := by
      show [[(0 : Int)]].find? (tells ps1 ps2) = _
      rw [List.find?_cons, tells_zero h1 h2]
      have c' : (kp (ini ps1).2 != kp (ini ps2).2) = true := c
      rw [c']
    rw [upto_some e (by omega : 1 ≤ n + 1)]
    exact h
  · rename_i c
    have n0 : ∀ log ∈ logsN (rchN ps1 ps2) 0, tells ps1 ps2 log = false := fun log hl => by
      rw [List.mem_singleton.mp hl, tells_zero h1 h2]
      exact Bool.eq_false_iff.mpr c
    have go : ∀ m, (∀ j, j < m → badL (rchN ps1 ps2) (badP ne2 ps1 ps2) (levP ps1 ps2 (rchN ps1 ps2) j) = []) → ∀ j, j ≤ m → ∀ log ∈ logsN (rchN ps1 ps2) j, tells ps1 ps2 log = false := fun m hm j => by
      induction j with
      | zero => exact fun _ => n0
      | succ j ih => exact fun hj => none_next h1 h2 (ih (by omega)) (hm j (by omega))
    cases res with
    | none =>
      have z := upto_none (ps1 := ps1) (ps2 := ps2) (R := rchN ps1 ps2) (n := n + 1) fun k hk => go k (fun j _ => h j) k (Nat.le_refl _)
      rw [z]
      exact fun log e => nomatch e
    | some log =>
      obtain ⟨m, hm, e⟩ := h
      by_cases c2 : m + 1 ≤ n
      · have z : (upto (rchN ps1 ps2) (m + 2)).find? (tells ps1 ps2) = some log := by
          rw [upto_succ, List.find?_append, upto_none fun k hk => go m hm k (by omega), find_next h1 h2 (go m hm m (Nat.le_refl _)), e]
          rfl
        rw [upto_some z (by omega : m + 2 ≤ n + 1)]
      · have z := upto_none (ps1 := ps1) (ps2 := ps2) (R := rchN ps1 ps2) (n := n + 1) fun k hk => go m hm k (by omega)
        rw [z]
        intro l2 e2
        cases e2
        have hmem : log ∈ badL (rchN ps1 ps2) (badP ne2 ps1 ps2) (levP ps1 ps2 (rchN ps1 ps2) m) := List.mem_of_head? e
        obtain ⟨x, hx, hl⟩ := List.mem_flatMap.mp hmem
        obtain ⟨j, _, rfl⟩ := List.mem_map.mp hl
        have := lev_len x hx
        unfold ext1
        rw [List.length_append, this]
        show n + 2 ≤ m + 1 + 1
        omega
end
/-! ### small filters -/
def smallF : Fi → Fi
  | .sp n => .sp (1 + n % 3)
  | .fr n => .fr (1 + n % 3)
  | .ev n r => .ev n r
  | .li c w => .li (if c < 2 then c else 2) (if w < 3 then w else 3)
theorem small_good {f : Fi} (h : f.good) : (smallF f).good ∧ (smallF f).wt ≤ 6 := by
  cases f with
  | sp n => exact ⟨⟨by omega, by omega⟩, by show 1 + n % 3 ≤ 6; omega⟩
  | fr n => exact ⟨⟨by omega, by omega⟩, by show 1 + n % 3 + 1 ≤ 6; omega⟩
  | ev n r => exact ⟨h, by have := h.2.1; show n ≤ 6; omega⟩
  | li c w =>
    obtain ⟨a1, a2, a3, a4⟩ := h
    have b1 : 1 ≤ (if c < 2 then c else 2) ∧ (if c < 2 then c else 2) ≤ 2 := by split <;> omega
    have b2 : 1 ≤ (if w < 3 then w else 3) ∧ (if w < 3 then w else 3) ≤ 3 := by split <;> omega
    refine ⟨⟨b1.1, by omega, b2.1, by omega⟩, ?_⟩
    show (if c < 2 then c else 2) * (if w < 3 then w else 3) ≤ 6
    have := Int.mul_le_mul b1.2 b2.2 (by omega) (by decide)
    omega
theorem small_pip {ps : List Fi} (hg : ∀ f ∈ ps, f.good) (hl : ps.length ≤ 2) : Pip (ps.map smallF) where
  good := fun f hf => by
    obtain ⟨g, hg', rfl⟩ := List.mem_map.mp hf
    exact (small_good (hg g hg')).1
  len := by rw [List.length_map]; omega
  wt := by
    match ps, hl with
    | [], _ => decide
    | [f], _ =>
      have a := (small_good (hg f List.mem_cons_self)).2
      show (smallF f).wt * 1 ≤ 60
      omega
    | [f, g], _ =>
      have a := small_good (hg f List.mem_cons_self)
      have b := small_good (hg g (List.mem_cons_of_mem _ List.mem_cons_self))
      have p := (wt_pos a.1).1
      have p2 := (wt_pos b.1).1
      show (smallF f).wt * ((smallF g).wt * 1) ≤ 60
      rw [Int.mul_one]
      have := Int.mul_le_mul a.2 b.2 (by omega) (by decide)
      omega
    | _ :: _ :: _ :: _, hl => exact absurd hl (by simp)
end TL

/-! k05: the walk. -/
namespace TL
section
variable {w k : Nat} {st : Sto}
theorem mod_3' {a : Int} : bop .mod (.int a) (.int 3) = pure (.int (a % 3)) := b_mod (by decide)
theorem run_small {f : Fi} {Q : D → Sto → Prop} (h : Q (smallF f).d st) : R (callF G w (k + 1) 53 [f.d]) st Q := by
  refine R_call (d := d_law_small_filter) rfl rfl ?_
  cases f <;> (simp only [d_law_small_filter, Fi.d, List.map, mod_3', e_var, e_int, e_bl, e_non, e_str, e_ty, e_fnv, e_tup, e_lst, e_bin, e_not, e_neg, neg_i, e_cmp, e_chain, e_and, e_or, e_ife, e_idx, e_slc, e_call, e_bi, e_meth, es_nil, es_cons, g_n, g_t, g_sub, gs_cons, gs_nil, s_asg, s_par, s_aug, s_ex, s_ret, s_ife, s_for, ss_nil, ss_cons, th_nx, th_rt, b_add, b_sub, c_eqi, c_nei, c_eqs, c_nes, c_lt, c_le, c_gt, c_ge, c_isn, c_isnn, i_tup, bi_len_t, bi_min2, bi_max2, R_bind, R_pure, R_lift, R_rd, R_alloc, R_tst, some_ex, L0, LS, OB, id_eq, M0, setAll, S0, SS, AP, Rp0, RpS, A0, A1, A2, A3, AN2, AN3, Nat.reduceBEq, beq_self_eq_true, if_true, if_false, Bool.false_eq_true, reduceCtorEq, decide_eq_true_eq, Bool.not_true, Bool.not_false, true_and, and_true, exists_const, decide_true, decide_false, List.nil_append]; exact h)
def tupI' (xs : List Int) : D := .tup (xs.map D.int)
def extD (x : List Int) : D → Option D
  | .int g => some (.tup ((x ++ [x.getLastD 0 + g]).map D.int))
  | _ => none
theorem extD_fm {x : List Int} {R : Nat} : (rgL R).filterMap (extD x) = ((List.range R).map fun j => ext1 x (j + 1)).map tupI' := by
  unfold rgL
  rw [List.filterMap_map, List.map_map]
  show List.filterMap (fun (j : Nat) => some (tupI' (x ++ [x.getLastD 0 + (1 + (j : Int))]))) (List.range R) = _
  rw [List.filterMap_eq_map']
  congr 1
  funext j
  show tupI' _ = tupI' (ext1 x (j + 1))
  unfold ext1
  rw [show (1 + (j : Int)) = ((j + 1 : Nat) : Int) by omega]
theorem run_logs5 {n : Nat} {r : Int} {Q : D → Sto → Prop} (hn : n ≤ 4) (h1 : 1 ≤ r) (h9 : r ≤ 9) (hw : 4000000 ≤ w) (h : ∀ s m, Ext st s → st.length ≤ m → s[m]? = some (.lst ((logsN r.toNat n).map tupI')) → Q (.ref m) s) :
    R (callF G w (k + 1) 52 [.int ((n + 1 : Nat) : Int), .int r]) st Q := by
  have LL : (9 ^ 5 : Nat) ≤ LIM := by decide
  have pw : ∀ i, i ≤ 5 → r.toNat ^ i ≤ 9 ^ 5 := fun i hi => Nat.le_trans (Nat.pow_le_pow_left (by omega) i) (Nat.pow_le_pow_right (by decide) hi)
  refine R_call (d := d_law_logs_k05) rfl rfl ?_
  try simp only [d_law_logs_k05, List.map, th_nx, ss_cons, s_asg, s_for, it_rng, e_var, e_int, e_bl, e_non, e_str, e_ty, e_fnv, e_tup, e_lst, e_bin, e_not, e_neg, neg_i, e_cmp, e_chain, e_and, e_or, e_ife, e_idx, e_slc, e_call, e_bi, e_meth, es_nil, es_cons, g_n, g_t, g_sub, gs_cons, gs_nil, s_asg, s_par, s_aug, s_ex, s_ret, s_ife, s_for, ss_nil, ss_cons, th_nil, th_rt, b_add, b_sub, c_eqi, c_nei, c_eqs, c_nes, c_lt, c_le, c_gt, c_ge, c_isn, c_isnn, i_tup, bi_len_t, bi_min2, bi_max2, R_bind, R_pure, R_lift, R_rd, R_alloc, R_tst, some_ex, L0, LS, OB, id_eq, M0, setAll, S0, SS, AP, Rp0, RpS, A0, A1, A2, A3, AN2, AN3, Nat.reduceBEq, beq_self_eq_true, if_true, if_false, Bool.false_eq_true, reduceCtorEq, decide_eq_true_eq, Bool.not_true, Bool.not_false, true_and, and_true, exists_const, decide_true, decide_false, List.nil_append]
  rw [show ((n + 1 : Nat) : Int) - 1 = (n : Int) by omega]
  refine R_rng1 (by omega) ?_
  refine R_for (xs := rngL n) (fun i σ s => ∃ m y3 y4 y5 y6, σ = [some (.int ((n + 1 : Nat) : Int)), some (.int r), some (.ref m), y3, y4, y5, y6] ∧ Ext st s ∧ st.length ≤ m ∧ s[m]? = some (.lst ((logsN r.toNat i).map tupI'))) (by rw [rngL_len]; omega) ⟨_, _, _, _, _, rfl, Ext.new _ _, Nat.le_refl _, ?_⟩ ?_ ?_ ?_
  · rw [List.getElem?_append_right (Nat.le_refl _), Nat.sub_self]
    rfl
  · intro i σ s hi _
    exact get_rng0 (by rw [rngL_len] at hi; exact hi)
  · rintro i x σ s hx ⟨m, y3, y4, y5, y6, rfl, ex, hm, hs⟩
    obtain ⟨hi, rfl⟩ := rngL_get hx
    try simp only [th_nx, ss_cons, s_asg, s_for, it_ex, e_var, e_int, e_bl, e_non, e_str, e_ty, e_fnv, e_tup, e_lst, e_bin, e_not, e_neg, neg_i, e_cmp, e_chain, e_and, e_or, e_ife, e_idx, e_slc, e_call, e_bi, e_meth, es_nil, es_cons, g_n, g_t, g_sub, gs_cons, gs_nil, s_asg, s_par, s_aug, s_ex, s_ret, s_ife, s_for, ss_nil, ss_cons, th_nil, th_rt, b_add, b_sub, c_eqi, c_nei, c_eqs, c_nes, c_lt, c_le, c_gt, c_ge, c_isn, c_isnn, i_tup, bi_len_t, bi_min2, bi_max2, R_bind, R_pure, R_lift, R_rd, R_alloc, R_tst, some_ex, L0, LS, OB, id_eq, M0, setAll, S0, SS, AP, Rp0, RpS, A0, A1, A2, A3, AN2, AN3, Nat.reduceBEq, beq_self_eq_true, if_true, if_false, Bool.false_eq_true, reduceCtorEq, decide_eq_true_eq, Bool.not_true, Bool.not_false, true_and, and_true, exists_const, decide_true, decide_false, List.nil_append]
    have hs1 := ext_get (Ext.new s (.lst [])) hs
    refine R_it_ref (getL_of hs1) ?_
    refine R_for (xs := (logsN r.toNat i).map tupI') (fun j σ s' => ∃ ml y5 y6, σ = [some (.int ((n + 1 : Nat) : Int)), some (.int r), some (.ref m), some (.int (i : Nat)), some (.ref ml), y5, y6] ∧ Ext s s' ∧ s.length ≤ ml ∧
      s'[ml]? = some (.lst ((((logsN r.toNat i).take j).flatMap fun x => (List.range r.toNat).map fun j => ext1 x (j + 1)).map tupI'))) (by rw [List.length_map, logs_len]; have := pw i (by omega); omega) ⟨_, _, _, rfl, Ext.new _ _, Nat.le_refl _, ?_⟩ ?_ ?_ ?_
    · rw [List.getElem?_append_right (Nat.le_refl _), Nat.sub_self]
      rfl
    · rintro j σ s' hj ⟨_, _, _, _, ex2, _, _⟩
      exact get_lst (ext_getL ex2 (getL_of hs)) hj
    · rintro j xd σ s' hx ⟨ml, y5, y6, rfl, ex2, hml, hs2⟩
      rw [List.getElem?_map, Option.map_eq_some_iff] at hx
      obtain ⟨x, hx, rfl⟩ := hx
      obtain ⟨xl, xu⟩ := logs_each x (List.mem_of_getElem? hx)
      have xne : x ≠ [] := fun z => by rw [z] at xl; cases xl
      try simp only [th_nx, ss_cons, s_asg, g_n, e_var, e_int, e_bl, e_non, e_str, e_ty, e_fnv, e_tup, e_lst, e_bin, e_not, e_neg, neg_i, e_cmp, e_chain, e_and, e_or, e_ife, e_idx, e_slc, e_call, e_bi, e_meth, es_nil, es_cons, g_n, g_t, g_sub, gs_cons, gs_nil, s_asg, s_par, s_aug, s_ex, s_ret, s_ife, s_for, ss_nil, ss_cons, th_nil, th_rt, b_add, b_sub, c_eqi, c_nei, c_eqs, c_nes, c_lt, c_le, c_gt, c_ge, c_isn, c_isnn, i_tup, bi_len_t, bi_min2, bi_max2, R_bind, R_pure, R_lift, R_rd, R_alloc, R_tst, some_ex, L0, LS, OB, id_eq, M0, setAll, S0, SS, AP, Rp0, RpS, A0, A1, A2, A3, AN2, AN3, Nat.reduceBEq, beq_self_eq_true, if_true, if_false, Bool.false_eq_true, reduceCtorEq, decide_eq_true_eq, Bool.not_true, Bool.not_false, true_and, and_true, exists_const, decide_true, decide_false, List.nil_append]
      refine R_comp (rgL r.toNat) (extD x) ?_ (by rw [rgL_len]; omega) (by rw [rgL_len]; omega)
      try simp only [it_rng, w_cons, w_nil, e_var, e_int, e_bl, e_non, e_str, e_ty, e_fnv, e_tup, e_lst, e_bin, e_not, e_neg, neg_i, e_cmp, e_chain, e_and, e_or, e_ife, e_idx, e_slc, e_call, e_bi, e_meth, es_nil, es_cons, g_n, g_t, g_sub, gs_cons, gs_nil, s_asg, s_par, s_aug, s_ex, s_ret, s_ife, s_for, ss_nil, ss_cons, th_nil, th_rt, b_add, b_sub, c_eqi, c_nei, c_eqs, c_nes, c_lt, c_le, c_gt, c_ge, c_isn, c_isnn, i_tup, bi_len_t, bi_min2, bi_max2, R_bind, R_pure, R_lift, R_rd, R_alloc, R_tst, some_ex, L0, LS, OB, id_eq, M0, setAll, S0, SS, AP, Rp0, RpS, A0, A1, A2, A3, AN2, AN3, Nat.reduceBEq, beq_self_eq_true, if_true, if_false, Bool.false_eq_true, reduceCtorEq, decide_eq_true_eq, Bool.not_true, Bool.not_false, true_and, and_true, exists_const, decide_true, decide_false, List.nil_append]
      refine R_rg1 h1 (by omega) ?_
      refine ⟨rfl, fun st' _ i hi => get_rg1 (by rw [rgL_len] at hi; exact hi), fun i2 y st' hy ex3 => ?_, fun st' ex3 hs3 => ?_⟩
      · obtain ⟨hi2, rfl⟩ := rgL_get hy
        unfold elt1
        try simp only [tupI', w_cons, w_nil, t_nil, g_n, lastD_atI xne, e_var, e_int, e_bl, e_non, e_str, e_ty, e_fnv, e_tup, e_lst, e_bin, e_not, e_neg, neg_i, e_cmp, e_chain, e_and, e_or, e_ife, e_idx, e_slc, e_call, e_bi, e_meth, es_nil, es_cons, g_n, g_t, g_sub, gs_cons, gs_nil, s_asg, s_par, s_aug, s_ex, s_ret, s_ife, s_for, ss_nil, ss_cons, th_nil, th_rt, b_add, b_sub, c_eqi, c_nei, c_eqs, c_nes, c_lt, c_le, c_gt, c_ge, c_isn, c_isnn, i_tup, bi_len_t, bi_min2, bi_max2, R_bind, R_pure, R_lift, R_rd, R_alloc, R_tst, some_ex, L0, LS, OB, id_eq, M0, setAll, S0, SS, AP, Rp0, RpS, A0, A1, A2, A3, AN2, AN3, Nat.reduceBEq, beq_self_eq_true, if_true, if_false, Bool.false_eq_true, reduceCtorEq, decide_eq_true_eq, Bool.not_true, Bool.not_false, true_and, and_true, exists_const, decide_true, decide_false, List.nil_append]
        rw [b_cat (by rw [List.length_map, xl]; exact Nat.le_trans (by show i + 1 + 1 ≤ 6; omega) (by decide))]
        try simp only [e_var, e_int, e_bl, e_non, e_str, e_ty, e_fnv, e_tup, e_lst, e_bin, e_not, e_neg, neg_i, e_cmp, e_chain, e_and, e_or, e_ife, e_idx, e_slc, e_call, e_bi, e_meth, es_nil, es_cons, g_n, g_t, g_sub, gs_cons, gs_nil, s_asg, s_par, s_aug, s_ex, s_ret, s_ife, s_for, ss_nil, ss_cons, th_nil, th_rt, b_add, b_sub, c_eqi, c_nei, c_eqs, c_nes, c_lt, c_le, c_gt, c_ge, c_isn, c_isnn, i_tup, bi_len_t, bi_min2, bi_max2, R_bind, R_pure, R_lift, R_rd, R_alloc, R_tst, some_ex, L0, LS, OB, id_eq, M0, setAll, S0, SS, AP, Rp0, RpS, A0, A1, A2, A3, AN2, AN3, Nat.reduceBEq, beq_self_eq_true, if_true, if_false, Bool.false_eq_true, reduceCtorEq, decide_eq_true_eq, Bool.not_true, Bool.not_false, true_and, and_true, exists_const, decide_true, decide_false, List.nil_append]
        refine ⟨?_, Ext.refl _⟩
        show _ = some (D.tup ((x ++ [x.getLastD 0 + (1 + (i2 : Int))]).map D.int))
        rw [List.map_append]
        rfl
      · rw [extD_fm] at hs3
        have lim : ((((logsN r.toNat i).take j).flatMap fun x => (List.range r.toNat).map fun j => ext1 x (j + 1)).map tupI').length + (((List.range r.toNat).map fun j => ext1 x (j + 1)).map tupI').length ≤ LIM := by
          rw [List.length_map, List.length_map, List.length_map, List.length_range, flat_len (n := r.toNat) (fun x => by rw [List.length_map, List.length_range]), List.length_take, logs_len]
          have a := pw i (by omega)
          have b : min j (r.toNat ^ i) * r.toNat ≤ 9 ^ 5 * 9 := Nat.mul_le_mul (by omega) (by omega)
          have c : 9 ^ 5 * 9 + 9 ≤ LIM := by decide
          omega
        have hs4 : st'[ml]? = some (.lst ((((logsN r.toNat i).take j).flatMap fun x => (List.range r.toNat).map fun j => ext1 x (j + 1)).map tupI')) := ext_get ex3 hs2
        refine R_cat hs4 hs3 lim ?_
        try simp only [g_n, e_var, e_int, e_bl, e_non, e_str, e_ty, e_fnv, e_tup, e_lst, e_bin, e_not, e_neg, neg_i, e_cmp, e_chain, e_and, e_or, e_ife, e_idx, e_slc, e_call, e_bi, e_meth, es_nil, es_cons, g_n, g_t, g_sub, gs_cons, gs_nil, s_asg, s_par, s_aug, s_ex, s_ret, s_ife, s_for, ss_nil, ss_cons, th_nil, th_rt, b_add, b_sub, c_eqi, c_nei, c_eqs, c_nes, c_lt, c_le, c_gt, c_ge, c_isn, c_isnn, i_tup, bi_len_t, bi_min2, bi_max2, R_bind, R_pure, R_lift, R_rd, R_alloc, R_tst, some_ex, L0, LS, OB, id_eq, M0, setAll, S0, SS, AP, Rp0, RpS, A0, A1, A2, A3, AN2, AN3, Nat.reduceBEq, beq_self_eq_true, if_true, if_false, Bool.false_eq_true, reduceCtorEq, decide_eq_true_eq, Bool.not_true, Bool.not_false, true_and, and_true, exists_const, decide_true, decide_false, List.nil_append]
        refine ⟨_, _, _, rfl, (ex2.trans ex3).trans (Ext.new _ _), ?_, ?_⟩
        · exact Nat.le_trans ex2.1 ex3.1
        · rw [List.getElem?_append_right (Nat.le_refl _), Nat.sub_self, cut_snoc hx, List.flatMap_append, List.map_append]
          show some (DO.lst _) = some (DO.lst (_ ++ List.map tupI' (_ ++ [])))
          rw [List.append_nil]
    · rintro σ s' ⟨ml, y5, y6, rfl, ex2, hml, hs2⟩
      try simp only [un_lst, th_nx, ss_cons, s_asg, e_var, e_int, e_bl, e_non, e_str, e_ty, e_fnv, e_tup, e_lst, e_bin, e_not, e_neg, neg_i, e_cmp, e_chain, e_and, e_or, e_ife, e_idx, e_slc, e_call, e_bi, e_meth, es_nil, es_cons, g_n, g_t, g_sub, gs_cons, gs_nil, s_asg, s_par, s_aug, s_ex, s_ret, s_ife, s_for, ss_nil, ss_cons, th_nil, th_rt, b_add, b_sub, c_eqi, c_nei, c_eqs, c_nes, c_lt, c_le, c_gt, c_ge, c_isn, c_isnn, i_tup, bi_len_t, bi_min2, bi_max2, R_bind, R_pure, R_lift, R_rd, R_alloc, R_tst, some_ex, L0, LS, OB, id_eq, M0, setAll, S0, SS, AP, Rp0, RpS, A0, A1, A2, A3, AN2, AN3, Nat.reduceBEq, beq_self_eq_true, if_true, if_false, Bool.false_eq_true, reduceCtorEq, decide_eq_true_eq, Bool.not_true, Bool.not_false, true_and, and_true, exists_const, decide_true, decide_false, List.nil_append]
      rw [List.length_map, List.take_length] at hs2
      exact ⟨_, _, _, _, _, rfl, ex.trans ex2, Nat.le_trans ex.1 hml, hs2⟩
  · rintro σ s ⟨m, y3, y4, y5, y6, rfl, ex, hm, hs⟩
    try simp only [un_rng, th_nx, ss_cons, s_ret, e_var, e_int, e_bl, e_non, e_str, e_ty, e_fnv, e_tup, e_lst, e_bin, e_not, e_neg, neg_i, e_cmp, e_chain, e_and, e_or, e_ife, e_idx, e_slc, e_call, e_bi, e_meth, es_nil, es_cons, g_n, g_t, g_sub, gs_cons, gs_nil, s_asg, s_par, s_aug, s_ex, s_ret, s_ife, s_for, ss_nil, ss_cons, th_nil, th_rt, b_add, b_sub, c_eqi, c_nei, c_eqs, c_nes, c_lt, c_le, c_gt, c_ge, c_isn, c_isnn, i_tup, bi_len_t, bi_min2, bi_max2, R_bind, R_pure, R_lift, R_rd, R_alloc, R_tst, some_ex, L0, LS, OB, id_eq, M0, setAll, S0, SS, AP, Rp0, RpS, A0, A1, A2, A3, AN2, AN3, Nat.reduceBEq, beq_self_eq_true, if_true, if_false, Bool.false_eq_true, reduceCtorEq, decide_eq_true_eq, Bool.not_true, Bool.not_false, true_and, and_true, exists_const, decide_true, decide_false, List.nil_append]
    rw [rngL_len] at hs
    exact h s m ex hm hs
end
end TL

/-! k05: the law. -/
namespace TL
section
variable {w k : Nat} {st : Sto}
def smallD (d : D) : Option D := match d with
  | .tup [.str 0, .int n] => some (Fi.sp (1 + n % 3)).d
  | .tup [.str 1, .int n] => some (Fi.fr (1 + n % 3)).d
  | .tup [.str 2, .int n, .int r] => some (Fi.ev n r).d
  | .tup [.str 3, .int c, .int w] => some (smallF (.li c w)).d
  | _ => none
theorem smallD_fm (ps : List Fi) : (ps.map Fi.d).filterMap smallD = (ps.map smallF).map Fi.d := by
  induction ps with
  | nil => rfl
  | cons f ps ih =>
    rw [List.map_cons, List.filterMap_cons, ih]
    cases f <;> rfl
theorem tuple_ref {n : Nat} {xs : List D} {Q : D → Sto → Prop} (h : st[n]? = some (.lst xs)) (q : Q (.tup xs) st) : R (bifn .tuple [.ref n]) st Q := R_tuple (getL_of h) q
theorem c_isR {res : Option (List Int)} : cop st .is (resD res) .non = some (.bl (decide (res = none))) := by rw [c_isn, resD_non]
theorem c_isnR {res : Option (List Int)} : cop st .isnot (resD res) .non = some (.bl !(decide (res = none))) := by rw [c_isnn, resD_non]
theorem turn05 {ps1 ps2 : List Fi} (h1 : Pip ps1) (h2 : Pip ps2) {a0 a1 a2 : D} {y4 y6 y7 y8 y9 y10 : Option D} {P : Fl → Sto → Prop} (hw : 4000000 ≤ w)
    (h : ∀ s σ, Ext st s → (∃ y6 y7 y8 y9 y10, σ = [some a0, some a1, some a2, some (.tup (ps1.map Fi.d)), y4, some (.tup (ps2.map Fi.d)), y6, y7, y8, y9, y10]) → P (.nx σ) s) :
    R (evSs w (callF G w (k + 6)) [(.par [6, 7] [(.bi .max [(.call 37 [(.var 3)]), (.call 37 [(.var 5)])]), .non]),
    (.for_ (.n 8) (.ex (.tup [(.int 1), (.int 2), (.int 3), (.int 4), (.int 5)]))
      [(.for_ (.n 9) (.ex (.call 52 [(.var 8), (.var 6)]))
        [(.ife (.and (.cmp .is (.var 7) .non) (.cmp .ne (.call 34 [(.var 3), (.var 9)]) (.call 34 [(.var 5), (.var 9)])))
          [(.asg (.n 7) (.var 9))]
          [])])]),
    (.asg (.n 10) (.call 44 [(.var 3), (.var 5)])),
    (.ife (.cmp .is (.var 7) .non)
      [(.ife (.and (.cmp .isnot (.var 10) .non) (.cmp .lt (.bi .len [(.var 10)]) (.int 6)))
        [(.ret (.bl false))]
        [])]
      [(.ife (.cmp .ne (.var 10) (.var 7))
        [(.ret (.bl false))]
        [])])] [some a0, some a1, some a2, some (.tup (ps1.map Fi.d)), y4, some (.tup (ps2.map Fi.d)), y6, y7, y8, y9, y10]) st P := by
  have l1 := h1.len
  have l2 := h2.len
  obtain ⟨r1, r9⟩ := rch_le h1 h2
  try simp only [th_nx, ss_cons, s_par, e_var, e_int, e_bl, e_non, e_str, e_ty, e_fnv, e_tup, e_lst, e_bin, e_not, e_neg, neg_i, e_cmp, e_chain, e_and, e_or, e_ife, e_idx, e_slc, e_call, e_bi, e_meth, es_nil, es_cons, g_n, g_t, g_sub, gs_cons, gs_nil, s_asg, s_par, s_aug, s_ex, s_ret, s_ife, s_for, ss_nil, ss_cons, th_nil, th_rt, b_add, b_sub, c_eqi, c_nei, c_eqs, c_nes, c_lt, c_le, c_gt, c_ge, c_isn, c_isnn, i_tup, bi_len_t, bi_min2, bi_max2, R_bind, R_pure, R_lift, R_rd, R_alloc, R_tst, some_ex, L0, LS, OB, id_eq, M0, setAll, S0, SS, AP, Rp0, RpS, A0, A1, A2, A3, AN2, AN3, Nat.reduceBEq, beq_self_eq_true, if_true, if_false, Bool.false_eq_true, reduceCtorEq, decide_eq_true_eq, Bool.not_true, Bool.not_false, true_and, and_true, exists_const, decide_true, decide_false, List.nil_append]
  refine run_reachW (by omega) ?_
  try simp only [e_var, e_int, e_bl, e_non, e_str, e_ty, e_fnv, e_tup, e_lst, e_bin, e_not, e_neg, neg_i, e_cmp, e_chain, e_and, e_or, e_ife, e_idx, e_slc, e_call, e_bi, e_meth, es_nil, es_cons, g_n, g_t, g_sub, gs_cons, gs_nil, s_asg, s_par, s_aug, s_ex, s_ret, s_ife, s_for, ss_nil, ss_cons, th_nil, th_rt, b_add, b_sub, c_eqi, c_nei, c_eqs, c_nes, c_lt, c_le, c_gt, c_ge, c_isn, c_isnn, i_tup, bi_len_t, bi_min2, bi_max2, R_bind, R_pure, R_lift, R_rd, R_alloc, R_tst, some_ex, L0, LS, OB, id_eq, M0, setAll, S0, SS, AP, Rp0, RpS, A0, A1, A2, A3, AN2, AN3, Nat.reduceBEq, beq_self_eq_true, if_true, if_false, Bool.false_eq_true, reduceCtorEq, decide_eq_true_eq, Bool.not_true, Bool.not_false, true_and, and_true, exists_const, decide_true, decide_false, List.nil_append]
  refine run_reachW (by omega) ?_
  try simp only [th_nx, ss_cons, s_par, s_for, it_ex, it_tup, e_var, e_int, e_bl, e_non, e_str, e_ty, e_fnv, e_tup, e_lst, e_bin, e_not, e_neg, neg_i, e_cmp, e_chain, e_and, e_or, e_ife, e_idx, e_slc, e_call, e_bi, e_meth, es_nil, es_cons, g_n, g_t, g_sub, gs_cons, gs_nil, s_asg, s_par, s_aug, s_ex, s_ret, s_ife, s_for, ss_nil, ss_cons, th_nil, th_rt, b_add, b_sub, c_eqi, c_nei, c_eqs, c_nes, c_lt, c_le, c_gt, c_ge, c_isn, c_isnn, i_tup, bi_len_t, bi_min2, bi_max2, R_bind, R_pure, R_lift, R_rd, R_alloc, R_tst, some_ex, L0, LS, OB, id_eq, M0, setAll, S0, SS, AP, Rp0, RpS, A0, A1, A2, A3, AN2, AN3, Nat.reduceBEq, beq_self_eq_true, if_true, if_false, Bool.false_eq_true, reduceCtorEq, decide_eq_true_eq, Bool.not_true, Bool.not_false, true_and, and_true, exists_const, decide_true, decide_false, List.nil_append]
  rw [show (if wid ps2 > wid ps1 then wid ps2 else wid ps1) = mxJ (wid ps1) (wid ps2) from rfl]
  refine R_for (xs := [.int 1, .int 2, .int 3, .int 4, .int 5]) (fun i σ s => ∃ y8 y9, σ = [some a0, some a1, some a2, some (.tup (ps1.map Fi.d)), y4, some (.tup (ps2.map Fi.d)), some (.int (mxJ (wid ps1) (wid ps2))), some (resD ((upto (rchN ps1 ps2) i).find? (tells ps1 ps2))), y8, y9, y10] ∧ Ext st s) (by show 5 < w; omega) ⟨_, _, rfl, Ext.refl _⟩ (fun i σ s hi _ => get_tup hi) ?_ ?_
  · rintro i x σ s hx ⟨y8, y9, rfl, ex⟩
    obtain ⟨hi, rfl⟩ : i ≤ 4 ∧ x = .int ((i + 1 : Nat) : Int) := by
      match i, hx with
      | 0, hx => cases hx; exact ⟨by decide, rfl⟩
      | 1, hx => cases hx; exact ⟨by decide, rfl⟩
      | 2, hx => cases hx; exact ⟨by decide, rfl⟩
      | 3, hx => cases hx; exact ⟨by decide, rfl⟩
      | 4, hx => cases hx; exact ⟨by decide, rfl⟩
      | _ + 5, hx => exact absurd hx (by simp)
    try simp only [th_nx, ss_cons, s_for, it_ex, e_var, e_int, e_bl, e_non, e_str, e_ty, e_fnv, e_tup, e_lst, e_bin, e_not, e_neg, neg_i, e_cmp, e_chain, e_and, e_or, e_ife, e_idx, e_slc, e_call, e_bi, e_meth, es_nil, es_cons, g_n, g_t, g_sub, gs_cons, gs_nil, s_asg, s_par, s_aug, s_ex, s_ret, s_ife, s_for, ss_nil, ss_cons, th_nil, th_rt, b_add, b_sub, c_eqi, c_nei, c_eqs, c_nes, c_lt, c_le, c_gt, c_ge, c_isn, c_isnn, i_tup, bi_len_t, bi_min2, bi_max2, R_bind, R_pure, R_lift, R_rd, R_alloc, R_tst, some_ex, L0, LS, OB, id_eq, M0, setAll, S0, SS, AP, Rp0, RpS, A0, A1, A2, A3, AN2, AN3, Nat.reduceBEq, beq_self_eq_true, if_true, if_false, Bool.false_eq_true, reduceCtorEq, decide_eq_true_eq, Bool.not_true, Bool.not_false, true_and, and_true, exists_const, decide_true, decide_false, List.nil_append]
    refine run_logs5 hi r1 r9 hw fun s1 m ex1 hm hs1 => ?_
    have er : (mxJ (wid ps1) (wid ps2)).toNat = rchN ps1 ps2 := rfl
    rw [er] at hs1
    try simp only [e_var, e_int, e_bl, e_non, e_str, e_ty, e_fnv, e_tup, e_lst, e_bin, e_not, e_neg, neg_i, e_cmp, e_chain, e_and, e_or, e_ife, e_idx, e_slc, e_call, e_bi, e_meth, es_nil, es_cons, g_n, g_t, g_sub, gs_cons, gs_nil, s_asg, s_par, s_aug, s_ex, s_ret, s_ife, s_for, ss_nil, ss_cons, th_nil, th_rt, b_add, b_sub, c_eqi, c_nei, c_eqs, c_nes, c_lt, c_le, c_gt, c_ge, c_isn, c_isnn, i_tup, bi_len_t, bi_min2, bi_max2, R_bind, R_pure, R_lift, R_rd, R_alloc, R_tst, some_ex, L0, LS, OB, id_eq, M0, setAll, S0, SS, AP, Rp0, RpS, A0, A1, A2, A3, AN2, AN3, Nat.reduceBEq, beq_self_eq_true, if_true, if_false, Bool.false_eq_true, reduceCtorEq, decide_eq_true_eq, Bool.not_true, Bool.not_false, true_and, and_true, exists_const, decide_true, decide_false, List.nil_append]
    refine R_it_ref (getL_of hs1) ?_
    have ll : (logsN (rchN ps1 ps2) i).length ≤ 9 ^ 4 := by
      rw [logs_len]
      exact Nat.le_trans (Nat.pow_le_pow_left (by show (mxJ (wid ps1) (wid ps2)).toNat ≤ 9; omega) i) (Nat.pow_le_pow_right (by decide) hi)
    refine R_for (xs := (logsN (rchN ps1 ps2) i).map tupI') (fun j σ s => ∃ y9, σ = [some a0, some a1, some a2, some (.tup (ps1.map Fi.d)), y4, some (.tup (ps2.map Fi.d)), some (.int (mxJ (wid ps1) (wid ps2))), some (resD ((upto (rchN ps1 ps2) i ++ (logsN (rchN ps1 ps2) i).take j).find? (tells ps1 ps2))), some (.int ((i + 1 : Nat) : Int)), y9, y10] ∧ Ext s1 s) (by rw [List.length_map]; omega) ⟨_, by rw [List.take_zero, List.append_nil], Ext.refl _⟩ ?_ ?_ ?_
    · rintro j σ s2 hj ⟨_, _, ex2⟩
      exact get_lst (ext_getL ex2 (getL_of hs1)) hj
    · rintro j xd σ s2 hx ⟨y9, rfl, ex2⟩
      rw [List.getElem?_map, Option.map_eq_some_iff] at hx
      obtain ⟨x, hx, rfl⟩ := hx
      obtain ⟨xl, xu⟩ := logs_each x (List.mem_of_getElem? hx)
      have xl5 : x.length ≤ 5 := by omega
      have LL : (5 : Nat) ≤ LIM := by decide
      have en : (upto (rchN ps1 ps2) i ++ (logsN (rchN ps1 ps2) i).take (j + 1)).find? (tells ps1 ps2) = ((upto (rchN ps1 ps2) i ++ (logsN (rchN ps1 ps2) i).take j).find? (tells ps1 ps2)).or ([x].find? (tells ps1 ps2)) := by
        rw [cut_snoc hx, ← List.append_assoc, List.find?_append]
      rw [en]
      generalize (upto (rchN ps1 ps2) i ++ (logsN (rchN ps1 ps2) i).take j).find? (tells ps1 ps2) = E
      cases E with
      | some e =>
        try simp only [resD, th_nx, ss_cons, s_ife, e_var, e_int, e_bl, e_non, e_str, e_ty, e_fnv, e_tup, e_lst, e_bin, e_not, e_neg, neg_i, e_cmp, e_chain, e_and, e_or, e_ife, e_idx, e_slc, e_call, e_bi, e_meth, es_nil, es_cons, g_n, g_t, g_sub, gs_cons, gs_nil, s_asg, s_par, s_aug, s_ex, s_ret, s_ife, s_for, ss_nil, ss_cons, th_nil, th_rt, b_add, b_sub, c_eqi, c_nei, c_eqs, c_nes, c_lt, c_le, c_gt, c_ge, c_isn, c_isnn, i_tup, bi_len_t, bi_min2, bi_max2, R_bind, R_pure, R_lift, R_rd, R_alloc, R_tst, some_ex, L0, LS, OB, id_eq, M0, setAll, S0, SS, AP, Rp0, RpS, A0, A1, A2, A3, AN2, AN3, Nat.reduceBEq, beq_self_eq_true, if_true, if_false, Bool.false_eq_true, reduceCtorEq, decide_eq_true_eq, Bool.not_true, Bool.not_false, true_and, and_true, exists_const, decide_true, decide_false, List.nil_append]
        exact ⟨_, rfl, ex2⟩
      | none =>
        try simp only [resD, tupI', th_nx, ss_cons, s_ife, e_var, e_int, e_bl, e_non, e_str, e_ty, e_fnv, e_tup, e_lst, e_bin, e_not, e_neg, neg_i, e_cmp, e_chain, e_and, e_or, e_ife, e_idx, e_slc, e_call, e_bi, e_meth, es_nil, es_cons, g_n, g_t, g_sub, gs_cons, gs_nil, s_asg, s_par, s_aug, s_ex, s_ret, s_ife, s_for, ss_nil, ss_cons, th_nil, th_rt, b_add, b_sub, c_eqi, c_nei, c_eqs, c_nes, c_lt, c_le, c_gt, c_ge, c_isn, c_isnn, i_tup, bi_len_t, bi_min2, bi_max2, R_bind, R_pure, R_lift, R_rd, R_alloc, R_tst, some_ex, L0, LS, OB, id_eq, M0, setAll, S0, SS, AP, Rp0, RpS, A0, A1, A2, A3, AN2, AN3, Nat.reduceBEq, beq_self_eq_true, if_true, if_false, Bool.false_eq_true, reduceCtorEq, decide_eq_true_eq, Bool.not_true, Bool.not_false, true_and, and_true, exists_const, decide_true, decide_false, List.nil_append]
        refine run_result h1.good (by omega) (by omega) (by omega) fun s3 ex3 => ?_
        try simp only [e_var, e_int, e_bl, e_non, e_str, e_ty, e_fnv, e_tup, e_lst, e_bin, e_not, e_neg, neg_i, e_cmp, e_chain, e_and, e_or, e_ife, e_idx, e_slc, e_call, e_bi, e_meth, es_nil, es_cons, g_n, g_t, g_sub, gs_cons, gs_nil, s_asg, s_par, s_aug, s_ex, s_ret, s_ife, s_for, ss_nil, ss_cons, th_nil, th_rt, b_add, b_sub, c_eqi, c_nei, c_eqs, c_nes, c_lt, c_le, c_gt, c_ge, c_isn, c_isnn, i_tup, bi_len_t, bi_min2, bi_max2, R_bind, R_pure, R_lift, R_rd, R_alloc, R_tst, some_ex, L0, LS, OB, id_eq, M0, setAll, S0, SS, AP, Rp0, RpS, A0, A1, A2, A3, AN2, AN3, Nat.reduceBEq, beq_self_eq_true, if_true, if_false, Bool.false_eq_true, reduceCtorEq, decide_eq_true_eq, Bool.not_true, Bool.not_false, true_and, and_true, exists_const, decide_true, decide_false, List.nil_append]
        refine run_result h2.good (by omega) (by omega) (by omega) fun s4 ex4 => ?_
        try simp only [c_net, e_var, e_int, e_bl, e_non, e_str, e_ty, e_fnv, e_tup, e_lst, e_bin, e_not, e_neg, neg_i, e_cmp, e_chain, e_and, e_or, e_ife, e_idx, e_slc, e_call, e_bi, e_meth, es_nil, es_cons, g_n, g_t, g_sub, gs_cons, gs_nil, s_asg, s_par, s_aug, s_ex, s_ret, s_ife, s_for, ss_nil, ss_cons, th_nil, th_rt, b_add, b_sub, c_eqi, c_nei, c_eqs, c_nes, c_lt, c_le, c_gt, c_ge, c_isn, c_isnn, i_tup, bi_len_t, bi_min2, bi_max2, R_bind, R_pure, R_lift, R_rd, R_alloc, R_tst, some_ex, L0, LS, OB, id_eq, M0, setAll, S0, SS, AP, Rp0, RpS, A0, A1, A2, A3, AN2, AN3, Nat.reduceBEq, beq_self_eq_true, if_true, if_false, Bool.false_eq_true, reduceCtorEq, decide_eq_true_eq, Bool.not_true, Bool.not_false, true_and, and_true, exists_const, decide_true, decide_false, List.nil_append]
        have et : tells ps1 ps2 x = !decide (resL ps1 x = resL ps2 x) := rfl
        by_cases c : resL ps1 x = resL ps2 x
        · rw [decide_eq_true c] at et
          rw [List.find?_cons, et]
          try simp only [c, e_var, e_int, e_bl, e_non, e_str, e_ty, e_fnv, e_tup, e_lst, e_bin, e_not, e_neg, neg_i, e_cmp, e_chain, e_and, e_or, e_ife, e_idx, e_slc, e_call, e_bi, e_meth, es_nil, es_cons, g_n, g_t, g_sub, gs_cons, gs_nil, s_asg, s_par, s_aug, s_ex, s_ret, s_ife, s_for, ss_nil, ss_cons, th_nil, th_rt, b_add, b_sub, c_eqi, c_nei, c_eqs, c_nes, c_lt, c_le, c_gt, c_ge, c_isn, c_isnn, i_tup, bi_len_t, bi_min2, bi_max2, R_bind, R_pure, R_lift, R_rd, R_alloc, R_tst, some_ex, L0, LS, OB, id_eq, M0, setAll, S0, SS, AP, Rp0, RpS, A0, A1, A2, A3, AN2, AN3, Nat.reduceBEq, beq_self_eq_true, if_true, if_false, Bool.false_eq_true, reduceCtorEq, decide_eq_true_eq, Bool.not_true, Bool.not_false, true_and, and_true, exists_const, decide_true, decide_false, List.nil_append]
          exact ⟨_, rfl, ex2.trans (ex3.trans ex4)⟩
        · rw [decide_eq_false c] at et
          rw [List.find?_cons, et]
          try simp only [c, th_nx, ss_cons, s_asg, e_var, e_int, e_bl, e_non, e_str, e_ty, e_fnv, e_tup, e_lst, e_bin, e_not, e_neg, neg_i, e_cmp, e_chain, e_and, e_or, e_ife, e_idx, e_slc, e_call, e_bi, e_meth, es_nil, es_cons, g_n, g_t, g_sub, gs_cons, gs_nil, s_asg, s_par, s_aug, s_ex, s_ret, s_ife, s_for, ss_nil, ss_cons, th_nil, th_rt, b_add, b_sub, c_eqi, c_nei, c_eqs, c_nes, c_lt, c_le, c_gt, c_ge, c_isn, c_isnn, i_tup, bi_len_t, bi_min2, bi_max2, R_bind, R_pure, R_lift, R_rd, R_alloc, R_tst, some_ex, L0, LS, OB, id_eq, M0, setAll, S0, SS, AP, Rp0, RpS, A0, A1, A2, A3, AN2, AN3, Nat.reduceBEq, beq_self_eq_true, if_true, if_false, Bool.false_eq_true, reduceCtorEq, decide_eq_true_eq, Bool.not_true, Bool.not_false, true_and, and_true, exists_const, decide_true, decide_false, List.nil_append]
          exact ⟨_, rfl, ex2.trans (ex3.trans ex4)⟩
    · rintro σ s2 ⟨y9, rfl, ex2⟩
      try simp only [un_lst, e_var, e_int, e_bl, e_non, e_str, e_ty, e_fnv, e_tup, e_lst, e_bin, e_not, e_neg, neg_i, e_cmp, e_chain, e_and, e_or, e_ife, e_idx, e_slc, e_call, e_bi, e_meth, es_nil, es_cons, g_n, g_t, g_sub, gs_cons, gs_nil, s_asg, s_par, s_aug, s_ex, s_ret, s_ife, s_for, ss_nil, ss_cons, th_nil, th_rt, b_add, b_sub, c_eqi, c_nei, c_eqs, c_nes, c_lt, c_le, c_gt, c_ge, c_isn, c_isnn, i_tup, bi_len_t, bi_min2, bi_max2, R_bind, R_pure, R_lift, R_rd, R_alloc, R_tst, some_ex, L0, LS, OB, id_eq, M0, setAll, S0, SS, AP, Rp0, RpS, A0, A1, A2, A3, AN2, AN3, Nat.reduceBEq, beq_self_eq_true, if_true, if_false, Bool.false_eq_true, reduceCtorEq, decide_eq_true_eq, Bool.not_true, Bool.not_false, true_and, and_true, exists_const, decide_true, decide_false, List.nil_append]
      rw [List.length_map, List.take_length, ← upto_succ]
      exact ⟨_, _, rfl, ex.trans (ex1.trans ex2)⟩
  · rintro σ s ⟨y8, y9, rfl, ex⟩
    try simp only [un_tup, th_nx, ss_cons, s_asg, e_var, e_int, e_bl, e_non, e_str, e_ty, e_fnv, e_tup, e_lst, e_bin, e_not, e_neg, neg_i, e_cmp, e_chain, e_and, e_or, e_ife, e_idx, e_slc, e_call, e_bi, e_meth, es_nil, es_cons, g_n, g_t, g_sub, gs_cons, gs_nil, s_asg, s_par, s_aug, s_ex, s_ret, s_ife, s_for, ss_nil, ss_cons, th_nil, th_rt, b_add, b_sub, c_eqi, c_nei, c_eqs, c_nes, c_lt, c_le, c_gt, c_ge, c_isn, c_isnn, i_tup, bi_len_t, bi_min2, bi_max2, R_bind, R_pure, R_lift, R_rd, R_alloc, R_tst, some_ex, L0, LS, OB, id_eq, M0, setAll, S0, SS, AP, Rp0, RpS, A0, A1, A2, A3, AN2, AN3, Nat.reduceBEq, beq_self_eq_true, if_true, if_false, Bool.false_eq_true, reduceCtorEq, decide_eq_true_eq, Bool.not_true, Bool.not_false, true_and, and_true, exists_const, decide_true, decide_false, List.nil_append]
    refine run_first h1 h2 hw fun s1 res ex1 z => ?_
    have fu := first_upto h1 h2 z 4
    show R _ _ _
    cases hf : (upto (rchN ps1 ps2) 5).find? (tells ps1 ps2) with
    | none =>
      rw [hf] at fu
      try simp only [th_nx, ss_cons, s_ife, hf, List.length_cons, List.length_nil, resD, e_var, e_int, e_bl, e_non, e_str, e_ty, e_fnv, e_tup, e_lst, e_bin, e_not, e_neg, neg_i, e_cmp, e_chain, e_and, e_or, e_ife, e_idx, e_slc, e_call, e_bi, e_meth, es_nil, es_cons, g_n, g_t, g_sub, gs_cons, gs_nil, s_asg, s_par, s_aug, s_ex, s_ret, s_ife, s_for, ss_nil, ss_cons, th_nil, th_rt, b_add, b_sub, c_eqi, c_nei, c_eqs, c_nes, c_lt, c_le, c_gt, c_ge, c_isn, c_isnn, i_tup, bi_len_t, bi_min2, bi_max2, R_bind, R_pure, R_lift, R_rd, R_alloc, R_tst, some_ex, L0, LS, OB, id_eq, M0, setAll, S0, SS, AP, Rp0, RpS, A0, A1, A2, A3, AN2, AN3, Nat.reduceBEq, beq_self_eq_true, if_true, if_false, Bool.false_eq_true, reduceCtorEq, decide_eq_true_eq, Bool.not_true, Bool.not_false, true_and, and_true, exists_const, decide_true, decide_false, List.nil_append]
      cases res with
      | none =>
        try simp only [e_var, e_int, e_bl, e_non, e_str, e_ty, e_fnv, e_tup, e_lst, e_bin, e_not, e_neg, neg_i, e_cmp, e_chain, e_and, e_or, e_ife, e_idx, e_slc, e_call, e_bi, e_meth, es_nil, es_cons, g_n, g_t, g_sub, gs_cons, gs_nil, s_asg, s_par, s_aug, s_ex, s_ret, s_ife, s_for, ss_nil, ss_cons, th_nil, th_rt, b_add, b_sub, c_eqi, c_nei, c_eqs, c_nes, c_lt, c_le, c_gt, c_ge, c_isn, c_isnn, i_tup, bi_len_t, bi_min2, bi_max2, R_bind, R_pure, R_lift, R_rd, R_alloc, R_tst, some_ex, L0, LS, OB, id_eq, M0, setAll, S0, SS, AP, Rp0, RpS, A0, A1, A2, A3, AN2, AN3, Nat.reduceBEq, beq_self_eq_true, if_true, if_false, Bool.false_eq_true, reduceCtorEq, decide_eq_true_eq, Bool.not_true, Bool.not_false, true_and, and_true, exists_const, decide_true, decide_false, List.nil_append]
        exact h _ _ (ex.trans ex1) ⟨_, _, _, _, _, rfl⟩
      | some log =>
        have l6 := fu log rfl
        have lf : ¬ ((log.length : Int) < 6) := by omega
        try simp only [resD, List.length_map, lf, e_var, e_int, e_bl, e_non, e_str, e_ty, e_fnv, e_tup, e_lst, e_bin, e_not, e_neg, neg_i, e_cmp, e_chain, e_and, e_or, e_ife, e_idx, e_slc, e_call, e_bi, e_meth, es_nil, es_cons, g_n, g_t, g_sub, gs_cons, gs_nil, s_asg, s_par, s_aug, s_ex, s_ret, s_ife, s_for, ss_nil, ss_cons, th_nil, th_rt, b_add, b_sub, c_eqi, c_nei, c_eqs, c_nes, c_lt, c_le, c_gt, c_ge, c_isn, c_isnn, i_tup, bi_len_t, bi_min2, bi_max2, R_bind, R_pure, R_lift, R_rd, R_alloc, R_tst, some_ex, L0, LS, OB, id_eq, M0, setAll, S0, SS, AP, Rp0, RpS, A0, A1, A2, A3, AN2, AN3, Nat.reduceBEq, beq_self_eq_true, if_true, if_false, Bool.false_eq_true, reduceCtorEq, decide_eq_true_eq, Bool.not_true, Bool.not_false, true_and, and_true, exists_const, decide_true, decide_false, List.nil_append]
        exact h _ _ (ex.trans ex1) ⟨_, _, _, _, _, rfl⟩
    | some e =>
      rw [hf] at fu
      have fu' : res = some e := fu
      subst fu'
      try simp only [th_nx, ss_cons, s_ife, hf, List.length_cons, List.length_nil, resD, c_net, e_var, e_int, e_bl, e_non, e_str, e_ty, e_fnv, e_tup, e_lst, e_bin, e_not, e_neg, neg_i, e_cmp, e_chain, e_and, e_or, e_ife, e_idx, e_slc, e_call, e_bi, e_meth, es_nil, es_cons, g_n, g_t, g_sub, gs_cons, gs_nil, s_asg, s_par, s_aug, s_ex, s_ret, s_ife, s_for, ss_nil, ss_cons, th_nil, th_rt, b_add, b_sub, c_eqi, c_nei, c_eqs, c_nes, c_lt, c_le, c_gt, c_ge, c_isn, c_isnn, i_tup, bi_len_t, bi_min2, bi_max2, R_bind, R_pure, R_lift, R_rd, R_alloc, R_tst, some_ex, L0, LS, OB, id_eq, M0, setAll, S0, SS, AP, Rp0, RpS, A0, A1, A2, A3, AN2, AN3, Nat.reduceBEq, beq_self_eq_true, if_true, if_false, Bool.false_eq_true, reduceCtorEq, decide_eq_true_eq, Bool.not_true, Bool.not_false, true_and, and_true, exists_const, decide_true, decide_false, List.nil_append]
      exact h _ _ (ex.trans ex1) ⟨_, _, _, _, _, rfl⟩
end
theorem R_compSmall {cf : Nat → List D → M D} {w : Nat} {st : Sto} {σ : Env} {it : E} {Q : D → Sto → Prop} (hcf : cf = callF G w 11) (hw : 4000000 ≤ w) (hσ : 4 < σ.length)
    (hi : ∀ P : D → Sto → Prop, (∀ (s : Sto) (ps : List Fi), Ext st s → ps.length ≤ 2 → (∀ f ∈ ps, f.good) → P (.tup (ps.map Fi.d)) s) → R (ev w cf it σ) st P) (h : ∀ (s : Sto) (n : Nat) (ps : List Fi), Ext st s → Pip ps → s[n]? = some (.lst (ps.map Fi.d)) → Q (.ref n) s) :
    R (ev w cf (.comp [4] (.n 4) (.ex it) [] (.call 53 [.var 4])) σ) st Q := by
  subst hcf
  have LL : (100 : Nat) ≤ LIM := by decide
  obtain ⟨d, s0, e0, ps, rfl, ex0, hl, hgd⟩ := hi (fun d s => ∃ ps : List Fi, d = .tup (ps.map Fi.d) ∧ Ext st s ∧ ps.length ≤ 2 ∧ ∀ f ∈ ps, f.good) fun s ps a b c => ⟨ps, rfl, a, b, c⟩
  refine R_comp (ps.map Fi.d) smallD ?_ (by rw [List.length_map]; omega) (by rw [List.length_map]; omega)
  rw [it_ex, R_bind]
  refine ⟨_, s0, e0, ?_⟩
  try simp only [it_tup, e_var, e_int, e_bl, e_non, e_str, e_ty, e_fnv, e_tup, e_lst, e_bin, e_not, e_neg, neg_i, e_cmp, e_chain, e_and, e_or, e_ife, e_idx, e_slc, e_call, e_bi, e_meth, es_nil, es_cons, g_n, g_t, g_sub, gs_cons, gs_nil, s_asg, s_par, s_aug, s_ex, s_ret, s_ife, s_for, ss_nil, ss_cons, th_nil, th_rt, b_add, b_sub, c_eqi, c_nei, c_eqs, c_nes, c_lt, c_le, c_gt, c_ge, c_isn, c_isnn, i_tup, bi_len_t, bi_min2, bi_max2, R_bind, R_pure, R_lift, R_rd, R_alloc, R_tst, some_ex, L0, LS, OB, id_eq, M0, setAll, S0, SS, AP, Rp0, RpS, A0, A1, A2, A3, AN2, AN3, Nat.reduceBEq, beq_self_eq_true, if_true, if_false, Bool.false_eq_true, reduceCtorEq, decide_eq_true_eq, Bool.not_true, Bool.not_false, true_and, and_true, exists_const, decide_true, decide_false, List.nil_append]
  refine ⟨rfl, fun st' _ i hi => get_tup hi, fun i x st' hx ex2 => ?_, fun st' ex2 hs => ?_⟩
  · rw [List.getElem?_map, Option.map_eq_some_iff] at hx
    obtain ⟨f, hf, rfl⟩ := hx
    unfold elt1
    have e4 : ((wipe σ [4]).set 4 (some f.d))[4]? = some (some f.d) := by
      rw [List.getElem?_set_self]
      show 4 < (σ.set 4 none).length
      rw [List.length_set]
      exact hσ
    try simp only [t_nil, g_n, e_var, e_int, e_bl, e_non, e_str, e_ty, e_fnv, e_tup, e_lst, e_bin, e_not, e_neg, neg_i, e_cmp, e_chain, e_and, e_or, e_ife, e_idx, e_slc, e_call, e_bi, e_meth, es_nil, es_cons, g_n, g_t, g_sub, gs_cons, gs_nil, s_asg, s_par, s_aug, s_ex, s_ret, s_ife, s_for, ss_nil, ss_cons, th_nil, th_rt, b_add, b_sub, c_eqi, c_nei, c_eqs, c_nes, c_lt, c_le, c_gt, c_ge, c_isn, c_isnn, i_tup, bi_len_t, bi_min2, bi_max2, R_bind, R_pure, R_lift, R_rd, R_alloc, R_tst, some_ex, L0, LS, OB, id_eq, M0, setAll, S0, SS, AP, Rp0, RpS, A0, A1, A2, A3, AN2, AN3, Nat.reduceBEq, beq_self_eq_true, if_true, if_false, Bool.false_eq_true, reduceCtorEq, decide_eq_true_eq, Bool.not_true, Bool.not_false, true_and, and_true, exists_const, decide_true, decide_false, List.nil_append]
    rw [e4]
    try simp only [e_var, e_int, e_bl, e_non, e_str, e_ty, e_fnv, e_tup, e_lst, e_bin, e_not, e_neg, neg_i, e_cmp, e_chain, e_and, e_or, e_ife, e_idx, e_slc, e_call, e_bi, e_meth, es_nil, es_cons, g_n, g_t, g_sub, gs_cons, gs_nil, s_asg, s_par, s_aug, s_ex, s_ret, s_ife, s_for, ss_nil, ss_cons, th_nil, th_rt, b_add, b_sub, c_eqi, c_nei, c_eqs, c_nes, c_lt, c_le, c_gt, c_ge, c_isn, c_isnn, i_tup, bi_len_t, bi_min2, bi_max2, R_bind, R_pure, R_lift, R_rd, R_alloc, R_tst, some_ex, L0, LS, OB, id_eq, M0, setAll, S0, SS, AP, Rp0, RpS, A0, A1, A2, A3, AN2, AN3, Nat.reduceBEq, beq_self_eq_true, if_true, if_false, Bool.false_eq_true, reduceCtorEq, decide_eq_true_eq, Bool.not_true, Bool.not_false, true_and, and_true, exists_const, decide_true, decide_false, List.nil_append]
    refine run_small ⟨?_, Ext.refl _⟩
    cases f <;> rfl
  · rw [smallD_fm] at hs
    exact h st' s0.length (ps.map smallF) (ex0.trans ex2) (small_pip hgd hl) hs
theorem law05 {ns : List Int} {st : Sto} {w : Nat} (hs : getL st 0 = some (ns.map D.int)) (hw : 4000000 ≤ w) : R (callF G w 12 54 [.ref 0]) st fun v _ => v = .bl true := by
  refine R_call (d := d_law_k05) rfl rfl ?_
  try simp only [d_law_k05, List.map, it_rng, e_var, e_int, e_bl, e_non, e_str, e_ty, e_fnv, e_tup, e_lst, e_bin, e_not, e_neg, neg_i, e_cmp, e_chain, e_and, e_or, e_ife, e_idx, e_slc, e_call, e_bi, e_meth, es_nil, es_cons, g_n, g_t, g_sub, gs_cons, gs_nil, s_asg, s_par, s_aug, s_ex, s_ret, s_ife, s_for, ss_nil, ss_cons, th_nil, th_rt, b_add, b_sub, c_eqi, c_nei, c_eqs, c_nes, c_lt, c_le, c_gt, c_ge, c_isn, c_isnn, i_tup, bi_len_t, bi_min2, bi_max2, R_bind, R_pure, R_lift, R_rd, R_alloc, R_tst, some_ex, L0, LS, OB, id_eq, M0, setAll, S0, SS, AP, Rp0, RpS, A0, A1, A2, A3, AN2, AN3, Nat.reduceBEq, beq_self_eq_true, if_true, if_false, Bool.false_eq_true, reduceCtorEq, decide_eq_true_eq, Bool.not_true, Bool.not_false, true_and, and_true, exists_const, decide_true, decide_false, List.nil_append]
  refine R_rng1 (n := 8) (by decide) ?_
  refine R_for (xs := rngL 8) (fun j σ s => ∃ y1 y2 y3 y5 y6 y7 y8 y9 y10, σ = [some (.ref 0), y1, y2, y3, none, y5, y6, y7, y8, y9, y10] ∧ Ext st s) (by rw [rngL_len]; omega) ⟨_, _, _, _, _, _, _, _, _, rfl, Ext.refl _⟩ (fun j σ s hj _ => get_rng0 (by rw [rngL_len] at hj; exact hj)) ?_ ?_
  · rintro j x σ s hx ⟨y1, y2, y3, y5, y6, y7, y8, y9, y10, rfl, ex⟩
    obtain ⟨hj, rfl⟩ := rngL_get hx
    try simp only [e_var, e_int, e_bl, e_non, e_str, e_ty, e_fnv, e_tup, e_lst, e_bin, e_not, e_neg, neg_i, e_cmp, e_chain, e_and, e_or, e_ife, e_idx, e_slc, e_call, e_bi, e_meth, es_nil, es_cons, g_n, g_t, g_sub, gs_cons, gs_nil, s_asg, s_par, s_aug, s_ex, s_ret, s_ife, s_for, ss_nil, ss_cons, th_nil, th_rt, b_add, b_sub, c_eqi, c_nei, c_eqs, c_nes, c_lt, c_le, c_gt, c_ge, c_isn, c_isnn, i_tup, bi_len_t, bi_min2, bi_max2, R_bind, R_pure, R_lift, R_rd, R_alloc, R_tst, some_ex, L0, LS, OB, id_eq, M0, setAll, S0, SS, AP, Rp0, RpS, A0, A1, A2, A3, AN2, AN3, Nat.reduceBEq, beq_self_eq_true, if_true, if_false, Bool.false_eq_true, reduceCtorEq, decide_eq_true_eq, Bool.not_true, Bool.not_false, true_and, and_true, exists_const, decide_true, decide_false, List.nil_append]
    refine run_digits (n := 60) (base := 27720) (ext_getL ex hs) (by decide) (by decide) (by decide) (by omega) fun s1 ds ex1 hds hdl hall => ?_
    rw [th_nx, ss_cons]
    try simp only [s_asg, e_var, e_int, e_bl, e_non, e_str, e_ty, e_fnv, e_tup, e_lst, e_bin, e_not, e_neg, neg_i, e_cmp, e_chain, e_and, e_or, e_ife, e_idx, e_slc, e_call, e_bi, e_meth, es_nil, es_cons, g_n, g_t, g_sub, gs_cons, gs_nil, s_asg, s_par, s_aug, s_ex, s_ret, s_ife, s_for, ss_nil, ss_cons, th_nil, th_rt, b_add, b_sub, c_eqi, c_nei, c_eqs, c_nes, c_lt, c_le, c_gt, c_ge, c_isn, c_isnn, i_tup, bi_len_t, bi_min2, bi_max2, R_bind, R_pure, R_lift, R_rd, R_alloc, R_tst, some_ex, L0, LS, OB, id_eq, M0, setAll, S0, SS, AP, Rp0, RpS, A0, A1, A2, A3, AN2, AN3, Nat.reduceBEq, beq_self_eq_true, if_true, if_false, Bool.false_eq_true, reduceCtorEq, decide_eq_true_eq, Bool.not_true, Bool.not_false, true_and, and_true, exists_const, decide_true, decide_false, List.nil_append]
    have c20 : cut (ds.map D.int) (some 20) none = (ds.drop 20).map D.int := by
      rw [show (20 : Int) = ((20 : Nat) : Int) from rfl, cut_drop, List.map_drop]
    refine R_compSmall rfl hw (by show 4 < 11; decide) (fun P hP => ?_) fun s2 n2 ps1 ex2 hp1 hs2 => ?_
    · simp only [e_var, e_int, e_bl, e_non, e_str, e_ty, e_fnv, e_tup, e_lst, e_bin, e_not, e_neg, neg_i, e_cmp, e_chain, e_and, e_or, e_ife, e_idx, e_slc, e_call, e_bi, e_meth, es_nil, es_cons, g_n, g_t, g_sub, gs_cons, gs_nil, s_asg, s_par, s_aug, s_ex, s_ret, s_ife, s_for, ss_nil, ss_cons, th_nil, th_rt, b_add, b_sub, c_eqi, c_nei, c_eqs, c_nes, c_lt, c_le, c_gt, c_ge, c_isn, c_isnn, i_tup, bi_len_t, bi_min2, bi_max2, R_bind, R_pure, R_lift, R_rd, R_alloc, R_tst, some_ex, L0, LS, OB, id_eq, M0, setAll, S0, SS, AP, Rp0, RpS, A0, A1, A2, A3, AN2, AN3, Nat.reduceBEq, beq_self_eq_true, if_true, if_false, Bool.false_eq_true, reduceCtorEq, decide_eq_true_eq, Bool.not_true, Bool.not_false, true_and, and_true, exists_const, decide_true, decide_false, List.nil_append]
      exact run_pipeline (size := 2) (top := 60) hds (by omega) (by decide) (by omega) (by decide) fun s2 ps ex2 hpl hgood hwt => hP s2 ps ex2 hpl hgood
    refine R_tuple (getL_of hs2) ?_
    rw [th_nx, ss_cons]
    try simp only [s_asg, e_var, e_int, e_bl, e_non, e_str, e_ty, e_fnv, e_tup, e_lst, e_bin, e_not, e_neg, neg_i, e_cmp, e_chain, e_and, e_or, e_ife, e_idx, e_slc, e_call, e_bi, e_meth, es_nil, es_cons, g_n, g_t, g_sub, gs_cons, gs_nil, s_asg, s_par, s_aug, s_ex, s_ret, s_ife, s_for, ss_nil, ss_cons, th_nil, th_rt, b_add, b_sub, c_eqi, c_nei, c_eqs, c_nes, c_lt, c_le, c_gt, c_ge, c_isn, c_isnn, i_tup, bi_len_t, bi_min2, bi_max2, R_bind, R_pure, R_lift, R_rd, R_alloc, R_tst, some_ex, L0, LS, OB, id_eq, M0, setAll, S0, SS, AP, Rp0, RpS, A0, A1, A2, A3, AN2, AN3, Nat.reduceBEq, beq_self_eq_true, if_true, if_false, Bool.false_eq_true, reduceCtorEq, decide_eq_true_eq, Bool.not_true, Bool.not_false, true_and, and_true, exists_const, decide_true, decide_false, List.nil_append]
    refine R_compSmall rfl hw (by show 4 < 11; decide) (fun P hP => ?_) fun s3 n3 ps2 ex3 hp2 hs3 => ?_
    · simp only [E.isNon, optI, e_var, e_int, e_bl, e_non, e_str, e_ty, e_fnv, e_tup, e_lst, e_bin, e_not, e_neg, neg_i, e_cmp, e_chain, e_and, e_or, e_ife, e_idx, e_slc, e_call, e_bi, e_meth, es_nil, es_cons, g_n, g_t, g_sub, gs_cons, gs_nil, s_asg, s_par, s_aug, s_ex, s_ret, s_ife, s_for, ss_nil, ss_cons, th_nil, th_rt, b_add, b_sub, c_eqi, c_nei, c_eqs, c_nes, c_lt, c_le, c_gt, c_ge, c_isn, c_isnn, i_tup, bi_len_t, bi_min2, bi_max2, R_bind, R_pure, R_lift, R_rd, R_alloc, R_tst, some_ex, L0, LS, OB, id_eq, M0, setAll, S0, SS, AP, Rp0, RpS, A0, A1, A2, A3, AN2, AN3, Nat.reduceBEq, beq_self_eq_true, if_true, if_false, Bool.false_eq_true, reduceCtorEq, decide_eq_true_eq, Bool.not_true, Bool.not_false, true_and, and_true, exists_const, decide_true, decide_false, List.nil_append]
      refine R_slice_ref (ext_getL ex2 hds) ?_
      rw [c20]
      try simp only [e_var, e_int, e_bl, e_non, e_str, e_ty, e_fnv, e_tup, e_lst, e_bin, e_not, e_neg, neg_i, e_cmp, e_chain, e_and, e_or, e_ife, e_idx, e_slc, e_call, e_bi, e_meth, es_nil, es_cons, g_n, g_t, g_sub, gs_cons, gs_nil, s_asg, s_par, s_aug, s_ex, s_ret, s_ife, s_for, ss_nil, ss_cons, th_nil, th_rt, b_add, b_sub, c_eqi, c_nei, c_eqs, c_nes, c_lt, c_le, c_gt, c_ge, c_isn, c_isnn, i_tup, bi_len_t, bi_min2, bi_max2, R_bind, R_pure, R_lift, R_rd, R_alloc, R_tst, some_ex, L0, LS, OB, id_eq, M0, setAll, S0, SS, AP, Rp0, RpS, A0, A1, A2, A3, AN2, AN3, Nat.reduceBEq, beq_self_eq_true, if_true, if_false, Bool.false_eq_true, reduceCtorEq, decide_eq_true_eq, Bool.not_true, Bool.not_false, true_and, and_true, exists_const, decide_true, decide_false, List.nil_append]
      exact run_pipeline (size := 2) (top := 60) (ds := ds.drop 20) getL_new (by rw [List.length_drop]; omega) (by decide) (by omega) (by decide) fun s2 ps ex2 hpl hgood hwt => hP s2 ps ((Ext.new _ _).trans ex2) hpl hgood
    refine R_tuple (getL_of hs3) ?_
    rw [th_nx]
    exact turn05 (k := 5) hp1 hp2 hw fun s4 σ4 ex4 ⟨_, _, _, _, _, e⟩ => ⟨_, _, _, _, _, _, _, _, _, e, ex.trans (ex1.trans (ex2.trans (ex3.trans ex4)))⟩
  · rintro σ s ⟨y1, y2, y3, y5, y6, y7, y8, y9, y10, rfl, ex⟩
    try simp only [un_rng, e_var, e_int, e_bl, e_non, e_str, e_ty, e_fnv, e_tup, e_lst, e_bin, e_not, e_neg, neg_i, e_cmp, e_chain, e_and, e_or, e_ife, e_idx, e_slc, e_call, e_bi, e_meth, es_nil, es_cons, g_n, g_t, g_sub, gs_cons, gs_nil, s_asg, s_par, s_aug, s_ex, s_ret, s_ife, s_for, ss_nil, ss_cons, th_nx, th_rt, b_add, b_sub, c_eqi, c_nei, c_eqs, c_nes, c_lt, c_le, c_gt, c_ge, c_isn, c_isnn, i_tup, bi_len_t, bi_min2, bi_max2, R_bind, R_pure, R_lift, R_rd, R_alloc, R_tst, some_ex, L0, LS, OB, id_eq, M0, setAll, S0, SS, AP, Rp0, RpS, A0, A1, A2, A3, AN2, AN3, Nat.reduceBEq, beq_self_eq_true, if_true, if_false, Bool.false_eq_true, reduceCtorEq, decide_eq_true_eq, Bool.not_true, Bool.not_false, true_and, and_true, exists_const, decide_true, decide_false, List.nil_append]
    have p1 : Pip [.sp 2] := ⟨fun f hf => by rw [List.mem_singleton.mp hf]; exact ⟨by decide, by decide⟩, by decide, by decide⟩
    have p2 : Pip [.fr 1] := ⟨fun f hf => by rw [List.mem_singleton.mp hf]; exact ⟨by decide, by decide⟩, by decide, by decide⟩
    refine run_first (k := 6) p1 p2 hw fun s1 res ex1 z => ?_
    have fu := first_upto p1 p2 z 3
    have e : (upto (rchN [.sp 2] [.fr 1]) 4).find? (tells [.sp 2] [.fr 1]) = some [0, 1, 2] := by decide +kernel
    rw [e] at fu
    have fu' : res = some [0, 1, 2] := fu
    subst fu'
    exact ⟨_, rfl, rfl⟩
theorem law_ev : ∀ ns : List Int, ns.length ≤ 63 → ∃ st', callF G 4000000 12 54 [.ref 0] [.rol (ns.map D.int)] = some (.bl true, st') := fun ns _ => by
  obtain ⟨v, st', e, rfl⟩ := law05 (st := [.rol (ns.map D.int)]) (w := 4000000) (ns := ns) rfl (Nat.le_refl _)
  exact ⟨st', e⟩
end TL

namespace TL
open PySem PySem.Spec PyProof.Rows L2
def topS (i : Nat) : Stmt := PySem.Challenge.pw_thinlog_k05_first_differences_by_all_log.main.body.getD i (.Pass ⟨0, 0, 0, 0⟩)
abbrev r_memory : Row := ⟨"memory", 24, ["one"], ["one"], topS 1, d_memory⟩
abbrev r_widest : Row := ⟨"widest", 40, ["pipeline"], ["pipeline", "one"], topS 2, d_widest⟩
abbrev r_initial : Row := ⟨"initial", 25, ["pipeline"], ["pipeline", "state", "one"], topS 3, d_initial⟩
abbrev r_later : Row := ⟨"later", 26, ["pipeline", "state", "gap"], ["pipeline", "state", "gap", "result", "one", "part", "age"], topS 4, d_later⟩
abbrev r_decide_ : Row := ⟨"decide", 27, ["one", "part"], ["one", "part"], topS 5, d_decide_⟩
abbrev r_read : Row := ⟨"read", 28, ["pipeline", "state"], ["pipeline", "state", "result", "index", "one", "kept"], topS 6, d_read⟩
abbrev r_step : Row := ⟨"step", 41, ["pipeline", "state", "gap"], ["pipeline", "state", "gap"], topS 7, d_step⟩
abbrev r_search : Row := ⟨"search", 42, ["first", "second", "differs"], ["first", "second", "differs", "one", "dropped", "other", "missing", "front", "seen", "reach", "found", "log", "gap", "left", "right", "longer"], topS 9, d_search⟩
abbrev r_unlike : Row := ⟨"unlike", 43, ["one", "other"], ["one", "other"], topS 10, d_unlike⟩
abbrev r_first_difference : Row := ⟨"first_difference", 44, ["first", "second"], ["first", "second"], topS 11, d_first_difference⟩
abbrev r_law_cell : Row := ⟨"_law_cell", 5, ["script", "index"], ["script", "index"], topS 13, d_law_cell⟩
abbrev r_law_digits : Row := ⟨"_law_digits", 6, ["script", "index", "count", "base"], ["script", "index", "count", "base", "primes", "cell", "rest", "digits", "k", "mixed"], topS 14, d_law_digits⟩
abbrev r_law_weight : Row := ⟨"_law_weight", 15, ["one"], ["one"], topS 15, d_law_weight⟩
abbrev r_law_filter : Row := ⟨"_law_filter", 16, ["digits"], ["digits", "count"], topS 16, d_law_filter⟩
abbrev r_law_pipeline : Row := ⟨"_law_pipeline", 17, ["digits", "size", "top"], ["digits", "size", "top", "pipeline", "weight_left", "k", "one"], topS 17, d_law_pipeline⟩
abbrev r_law_kept : Row := ⟨"_law_kept", 33, ["one", "events"], ["one", "events", "kept", "index", "time", "good", "other"], topS 18, d_law_kept⟩
abbrev r_law_result : Row := ⟨"_law_result", 34, ["pipeline", "log"], ["pipeline", "log", "events", "one"], topS 19, d_law_result⟩
abbrev r_law_reach : Row := ⟨"_law_reach", 37, ["pipeline"], ["pipeline", "reach", "one"], topS 20, d_law_reach⟩
abbrev r_law_logs_k05 : Row := ⟨"_law_logs", 52, ["count", "reach"], ["count", "reach", "logs", "turn", "longer", "log", "gap"], topS 21, d_law_logs_k05⟩
abbrev r_law_small_filter : Row := ⟨"_law_small_filter", 53, ["one"], ["one"], topS 22, d_law_small_filter⟩
abbrev r_law_k05 : Row := ⟨"law", 54, ["script"], ["script", "index", "digits", "first", "one", "second", "reach", "expected", "count", "log", "found"], topS 23, d_law_k05⟩
def theRows : List Row := [r_memory, r_widest, r_initial, r_later, r_decide_, r_read, r_step, r_search, r_unlike, r_first_difference, r_law_cell, r_law_digits, r_law_weight, r_law_filter, r_law_pipeline, r_law_kept, r_law_result, r_law_reach, r_law_logs_k05, r_law_small_filter, r_law_k05]
abbrev theTab : List (Str × Nat) := [("memory", 24), ("widest", 40), ("initial", 25), ("later", 26), ("decide", 27), ("read", 28), ("step", 41), ("search", 42), ("unlike", 43), ("first_difference", 44), ("_law_cell", 5), ("_law_digits", 6), ("_law_weight", 15), ("_law_filter", 16), ("_law_pipeline", 17), ("_law_kept", 33), ("_law_result", 34), ("_law_reach", 37), ("_law_logs", 52), ("_law_small_filter", 53), ("law", 54)]
theorem rok_memory : RowOk theTab r_memory := ⟨⟨rfl, rfl, rfl, by decide +kernel, rfl, by decide +kernel, by decide +kernel⟩, by rfl, rfl, rfl⟩
theorem rbd_memory : BindsAll r_memory := fun _ _ _ _ _ _ us hl => match us, hl with | [_], _ => rfl
theorem rok_widest : RowOk theTab r_widest := ⟨⟨rfl, rfl, rfl, by decide +kernel, rfl, by decide +kernel, by decide +kernel⟩, by rfl, rfl, rfl⟩
theorem rbd_widest : BindsAll r_widest := fun _ _ _ _ _ _ us hl => match us, hl with | [_], _ => rfl
theorem rok_initial : RowOk theTab r_initial := ⟨⟨rfl, rfl, rfl, by decide +kernel, rfl, by decide +kernel, by decide +kernel⟩, by rfl, rfl, rfl⟩
theorem rbd_initial : BindsAll r_initial := fun _ _ _ _ _ _ us hl => match us, hl with | [_], _ => rfl
theorem rok_later : RowOk theTab r_later := ⟨⟨rfl, rfl, rfl, by decide +kernel, rfl, by decide +kernel, by decide +kernel⟩, by rfl, rfl, rfl⟩
theorem rbd_later : BindsAll r_later := fun _ _ _ _ _ _ us hl => match us, hl with | [_, _, _], _ => rfl
theorem rok_decide_ : RowOk theTab r_decide_ := ⟨⟨rfl, rfl, rfl, by decide +kernel, rfl, by decide +kernel, by decide +kernel⟩, by rfl, rfl, rfl⟩
theorem rbd_decide_ : BindsAll r_decide_ := fun _ _ _ _ _ _ us hl => match us, hl with | [_, _], _ => rfl
theorem rok_read : RowOk theTab r_read := ⟨⟨rfl, rfl, rfl, by decide +kernel, rfl, by decide +kernel, by decide +kernel⟩, by rfl, rfl, rfl⟩
theorem rbd_read : BindsAll r_read := fun _ _ _ _ _ _ us hl => match us, hl with | [_, _], _ => rfl
theorem rok_step : RowOk theTab r_step := ⟨⟨rfl, rfl, rfl, by decide +kernel, rfl, by decide +kernel, by decide +kernel⟩, by rfl, rfl, rfl⟩
theorem rbd_step : BindsAll r_step := fun _ _ _ _ _ _ us hl => match us, hl with | [_, _, _], _ => rfl
theorem rok_search : RowOk theTab r_search := ⟨⟨rfl, rfl, rfl, by decide +kernel, rfl, by decide +kernel, by decide +kernel⟩, by rfl, rfl, rfl⟩
theorem rbd_search : BindsAll r_search := fun _ _ _ _ _ _ us hl => match us, hl with | [_, _, _], _ => rfl
theorem rok_unlike : RowOk theTab r_unlike := ⟨⟨rfl, rfl, rfl, by decide +kernel, rfl, by decide +kernel, by decide +kernel⟩, by rfl, rfl, rfl⟩
theorem rbd_unlike : BindsAll r_unlike := fun _ _ _ _ _ _ us hl => match us, hl with | [_, _], _ => rfl
theorem rok_first_difference : RowOk theTab r_first_difference := ⟨⟨rfl, rfl, rfl, by decide +kernel, rfl, by decide +kernel, by decide +kernel⟩, by rfl, rfl, rfl⟩
theorem rbd_first_difference : BindsAll r_first_difference := fun _ _ _ _ _ _ us hl => match us, hl with | [_, _], _ => rfl
theorem rok_law_cell : RowOk theTab r_law_cell := ⟨⟨rfl, rfl, rfl, by decide +kernel, rfl, by decide +kernel, by decide +kernel⟩, by rfl, rfl, rfl⟩
theorem rbd_law_cell : BindsAll r_law_cell := fun _ _ _ _ _ _ us hl => match us, hl with | [_, _], _ => rfl
theorem rok_law_digits : RowOk theTab r_law_digits := ⟨⟨rfl, rfl, rfl, by decide +kernel, rfl, by decide +kernel, by decide +kernel⟩, by rfl, rfl, rfl⟩
theorem rbd_law_digits : BindsAll r_law_digits := fun _ _ _ _ _ _ us hl => match us, hl with | [_, _, _, _], _ => rfl
theorem rok_law_weight : RowOk theTab r_law_weight := ⟨⟨rfl, rfl, rfl, by decide +kernel, rfl, by decide +kernel, by decide +kernel⟩, by rfl, rfl, rfl⟩
theorem rbd_law_weight : BindsAll r_law_weight := fun _ _ _ _ _ _ us hl => match us, hl with | [_], _ => rfl
theorem rok_law_filter : RowOk theTab r_law_filter := ⟨⟨rfl, rfl, rfl, by decide +kernel, rfl, by decide +kernel, by decide +kernel⟩, by rfl, rfl, rfl⟩
theorem rbd_law_filter : BindsAll r_law_filter := fun _ _ _ _ _ _ us hl => match us, hl with | [_], _ => rfl
theorem rok_law_pipeline : RowOk theTab r_law_pipeline := ⟨⟨rfl, rfl, rfl, by decide +kernel, rfl, by decide +kernel, by decide +kernel⟩, by rfl, rfl, rfl⟩
theorem rbd_law_pipeline : BindsAll r_law_pipeline := fun _ _ _ _ _ _ us hl => match us, hl with | [_, _, _], _ => rfl
theorem rok_law_kept : RowOk theTab r_law_kept := ⟨⟨rfl, rfl, rfl, by decide +kernel, rfl, by decide +kernel, by decide +kernel⟩, by rfl, rfl, rfl⟩
theorem rbd_law_kept : BindsAll r_law_kept := fun _ _ _ _ _ _ us hl => match us, hl with | [_, _], _ => rfl
theorem rok_law_result : RowOk theTab r_law_result := ⟨⟨rfl, rfl, rfl, by decide +kernel, rfl, by decide +kernel, by decide +kernel⟩, by rfl, rfl, rfl⟩
theorem rbd_law_result : BindsAll r_law_result := fun _ _ _ _ _ _ us hl => match us, hl with | [_, _], _ => rfl
theorem rok_law_reach : RowOk theTab r_law_reach := ⟨⟨rfl, rfl, rfl, by decide +kernel, rfl, by decide +kernel, by decide +kernel⟩, by rfl, rfl, rfl⟩
theorem rbd_law_reach : BindsAll r_law_reach := fun _ _ _ _ _ _ us hl => match us, hl with | [_], _ => rfl
theorem rok_law_logs_k05 : RowOk theTab r_law_logs_k05 := ⟨⟨rfl, rfl, rfl, by decide +kernel, rfl, by decide +kernel, by decide +kernel⟩, by rfl, rfl, rfl⟩
theorem rbd_law_logs_k05 : BindsAll r_law_logs_k05 := fun _ _ _ _ _ _ us hl => match us, hl with | [_, _], _ => rfl
theorem rok_law_small_filter : RowOk theTab r_law_small_filter := ⟨⟨rfl, rfl, rfl, by decide +kernel, rfl, by decide +kernel, by decide +kernel⟩, by rfl, rfl, rfl⟩
theorem rbd_law_small_filter : BindsAll r_law_small_filter := fun _ _ _ _ _ _ us hl => match us, hl with | [_], _ => rfl
theorem rok_law_k05 : RowOk theTab r_law_k05 := ⟨⟨rfl, rfl, rfl, by decide +kernel, rfl, by decide +kernel, by decide +kernel⟩, by rfl, rfl, rfl⟩
theorem rbd_law_k05 : BindsAll r_law_k05 := fun _ _ _ _ _ _ us hl => match us, hl with | [_], _ => rfl
theorem rows_ok : ∀ r ∈ theRows, RowOk (tabOf theRows) r := List.forall_mem_cons.mpr ⟨rok_memory, List.forall_mem_cons.mpr ⟨rok_widest, List.forall_mem_cons.mpr ⟨rok_initial, List.forall_mem_cons.mpr ⟨rok_later, List.forall_mem_cons.mpr ⟨rok_decide_, List.forall_mem_cons.mpr ⟨rok_read, List.forall_mem_cons.mpr ⟨rok_step, List.forall_mem_cons.mpr ⟨rok_search, List.forall_mem_cons.mpr ⟨rok_unlike, List.forall_mem_cons.mpr ⟨rok_first_difference, List.forall_mem_cons.mpr ⟨rok_law_cell, List.forall_mem_cons.mpr ⟨rok_law_digits, List.forall_mem_cons.mpr ⟨rok_law_weight, List.forall_mem_cons.mpr ⟨rok_law_filter, List.forall_mem_cons.mpr ⟨rok_law_pipeline, List.forall_mem_cons.mpr ⟨rok_law_kept, List.forall_mem_cons.mpr ⟨rok_law_result, List.forall_mem_cons.mpr ⟨rok_law_reach, List.forall_mem_cons.mpr ⟨rok_law_logs_k05, List.forall_mem_cons.mpr ⟨rok_law_small_filter, List.forall_mem_cons.mpr ⟨rok_law_k05, fun _ h => nomatch h⟩⟩⟩⟩⟩⟩⟩⟩⟩⟩⟩⟩⟩⟩⟩⟩⟩⟩⟩⟩⟩
theorem rows_bd : ∀ r ∈ theRows, BindsAll r := List.forall_mem_cons.mpr ⟨rbd_memory, List.forall_mem_cons.mpr ⟨rbd_widest, List.forall_mem_cons.mpr ⟨rbd_initial, List.forall_mem_cons.mpr ⟨rbd_later, List.forall_mem_cons.mpr ⟨rbd_decide_, List.forall_mem_cons.mpr ⟨rbd_read, List.forall_mem_cons.mpr ⟨rbd_step, List.forall_mem_cons.mpr ⟨rbd_search, List.forall_mem_cons.mpr ⟨rbd_unlike, List.forall_mem_cons.mpr ⟨rbd_first_difference, List.forall_mem_cons.mpr ⟨rbd_law_cell, List.forall_mem_cons.mpr ⟨rbd_law_digits, List.forall_mem_cons.mpr ⟨rbd_law_weight, List.forall_mem_cons.mpr ⟨rbd_law_filter, List.forall_mem_cons.mpr ⟨rbd_law_pipeline, List.forall_mem_cons.mpr ⟨rbd_law_kept, List.forall_mem_cons.mpr ⟨rbd_law_result, List.forall_mem_cons.mpr ⟨rbd_law_reach, List.forall_mem_cons.mpr ⟨rbd_law_logs_k05, List.forall_mem_cons.mpr ⟨rbd_law_small_filter, List.forall_mem_cons.mpr ⟨rbd_law_k05, fun _ h => nomatch h⟩⟩⟩⟩⟩⟩⟩⟩⟩⟩⟩⟩⟩⟩⟩⟩⟩⟩⟩⟩⟩
theorem rows_nd : (theRows.map (·.f)).Nodup := by decide +kernel
theorem rows_G : ∀ r ∈ theRows, G r.f = some r.d := List.forall_mem_cons.mpr ⟨rfl, List.forall_mem_cons.mpr ⟨rfl, List.forall_mem_cons.mpr ⟨rfl, List.forall_mem_cons.mpr ⟨rfl, List.forall_mem_cons.mpr ⟨rfl, List.forall_mem_cons.mpr ⟨rfl, List.forall_mem_cons.mpr ⟨rfl, List.forall_mem_cons.mpr ⟨rfl, List.forall_mem_cons.mpr ⟨rfl, List.forall_mem_cons.mpr ⟨rfl, List.forall_mem_cons.mpr ⟨rfl, List.forall_mem_cons.mpr ⟨rfl, List.forall_mem_cons.mpr ⟨rfl, List.forall_mem_cons.mpr ⟨rfl, List.forall_mem_cons.mpr ⟨rfl, List.forall_mem_cons.mpr ⟨rfl, List.forall_mem_cons.mpr ⟨rfl, List.forall_mem_cons.mpr ⟨rfl, List.forall_mem_cons.mpr ⟨rfl, List.forall_mem_cons.mpr ⟨rfl, List.forall_mem_cons.mpr ⟨rfl, fun _ h => nomatch h⟩⟩⟩⟩⟩⟩⟩⟩⟩⟩⟩⟩⟩⟩⟩⟩⟩⟩⟩⟩⟩
section
variable {l : PySem.W.OpenLaw} {w : World} {K : PySem.W.Frag} {h : Heap} {mg : Str → Option Value} {fa : Addr}
variable {f0 : Addr} {od0 an0 : Option Addr} {sl0 : Array (Option Value)} {oc0 kV0 dc0 pm0 cd0 ct0 : Value} {f1 : Addr} {od1 an1 : Option Addr} {sl1 : Array (Option Value)} {oc1 kV1 dc1 pm1 cd1 ct1 : Value} {f2 : Addr} {od2 an2 : Option Addr} {sl2 : Array (Option Value)} {oc2 kV2 dc2 pm2 cd2 ct2 : Value} {f3 : Addr} {od3 an3 : Option Addr} {sl3 : Array (Option Value)} {oc3 kV3 dc3 pm3 cd3 ct3 : Value} {f4 : Addr} {od4 an4 : Option Addr} {sl4 : Array (Option Value)} {oc4 kV4 dc4 pm4 cd4 ct4 : Value} {f5 : Addr} {od5 an5 : Option Addr} {sl5 : Array (Option Value)} {oc5 kV5 dc5 pm5 cd5 ct5 : Value} {f6 : Addr} {od6 an6 : Option Addr} {sl6 : Array (Option Value)} {oc6 kV6 dc6 pm6 cd6 ct6 : Value} {f7 : Addr} {od7 an7 : Option Addr} {sl7 : Array (Option Value)} {oc7 kV7 dc7 pm7 cd7 ct7 : Value} {f8 : Addr} {od8 an8 : Option Addr} {sl8 : Array (Option Value)} {oc8 kV8 dc8 pm8 cd8 ct8 : Value} {f9 : Addr} {od9 an9 : Option Addr} {sl9 : Array (Option Value)} {oc9 kV9 dc9 pm9 cd9 ct9 : Value} {f10 : Addr} {od10 an10 : Option Addr} {sl10 : Array (Option Value)} {oc10 kV10 dc10 pm10 cd10 ct10 : Value} {f11 : Addr} {od11 an11 : Option Addr} {sl11 : Array (Option Value)} {oc11 kV11 dc11 pm11 cd11 ct11 : Value} {f12 : Addr} {od12 an12 : Option Addr} {sl12 : Array (Option Value)} {oc12 kV12 dc12 pm12 cd12 ct12 : Value} {f13 : Addr} {od13 an13 : Option Addr} {sl13 : Array (Option Value)} {oc13 kV13 dc13 pm13 cd13 ct13 : Value} {f14 : Addr} {od14 an14 : Option Addr} {sl14 : Array (Option Value)} {oc14 kV14 dc14 pm14 cd14 ct14 : Value} {f15 : Addr} {od15 an15 : Option Addr} {sl15 : Array (Option Value)} {oc15 kV15 dc15 pm15 cd15 ct15 : Value} {f16 : Addr} {od16 an16 : Option Addr} {sl16 : Array (Option Value)} {oc16 kV16 dc16 pm16 cd16 ct16 : Value} {f17 : Addr} {od17 an17 : Option Addr} {sl17 : Array (Option Value)} {oc17 kV17 dc17 pm17 cd17 ct17 : Value} {f18 : Addr} {od18 an18 : Option Addr} {sl18 : Array (Option Value)} {oc18 kV18 dc18 pm18 cd18 ct18 : Value} {f19 : Addr} {od19 an19 : Option Addr} {sl19 : Array (Option Value)} {oc19 kV19 dc19 pm19 cd19 ct19 : Value} {f20 : Addr} {od20 an20 : Option Addr} {sl20 : Array (Option Value)} {oc20 kV20 dc20 pm20 cd20 ct20 : Value}
theorem all_mk (X : K.In h) (Gn : h.Ns mainGlobals mg) (hfa : mg "law" = some (.ref fa))
  (a0 : PySem.W.nsIn K mainGlobals "memory" = some (some (.ref f0)))
  (l0 : K.lookup f0 = some ⟨oc0, od0, .func (PySem.W.fnOf "memory" "memory" (defArgs (topS 1)) (defBody (topS 1)) (defScope (topS 1)) .none kV0 dc0 pm0 an0 cd0 ct0), sl0⟩)
  (c0 : PySem.W.codeIn K cd0 "memory" = true) (k0 : PySem.W.keepIn K (.ref f0) = true)
  (a1 : PySem.W.nsIn K mainGlobals "widest" = some (some (.ref f1)))
  (l1 : K.lookup f1 = some ⟨oc1, od1, .func (PySem.W.fnOf "widest" "widest" (defArgs (topS 2)) (defBody (topS 2)) (defScope (topS 2)) .none kV1 dc1 pm1 an1 cd1 ct1), sl1⟩)
  (c1 : PySem.W.codeIn K cd1 "widest" = true) (k1 : PySem.W.keepIn K (.ref f1) = true)
  (a2 : PySem.W.nsIn K mainGlobals "initial" = some (some (.ref f2)))
  (l2 : K.lookup f2 = some ⟨oc2, od2, .func (PySem.W.fnOf "initial" "initial" (defArgs (topS 3)) (defBody (topS 3)) (defScope (topS 3)) .none kV2 dc2 pm2 an2 cd2 ct2), sl2⟩)
  (c2 : PySem.W.codeIn K cd2 "initial" = true) (k2 : PySem.W.keepIn K (.ref f2) = true)
  (a3 : PySem.W.nsIn K mainGlobals "later" = some (some (.ref f3)))
  (l3 : K.lookup f3 = some ⟨oc3, od3, .func (PySem.W.fnOf "later" "later" (defArgs (topS 4)) (defBody (topS 4)) (defScope (topS 4)) .none kV3 dc3 pm3 an3 cd3 ct3), sl3⟩)
  (c3 : PySem.W.codeIn K cd3 "later" = true) (k3 : PySem.W.keepIn K (.ref f3) = true)
  (a4 : PySem.W.nsIn K mainGlobals "decide" = some (some (.ref f4)))
  (l4 : K.lookup f4 = some ⟨oc4, od4, .func (PySem.W.fnOf "decide" "decide" (defArgs (topS 5)) (defBody (topS 5)) (defScope (topS 5)) .none kV4 dc4 pm4 an4 cd4 ct4), sl4⟩)
  (c4 : PySem.W.codeIn K cd4 "decide" = true) (k4 : PySem.W.keepIn K (.ref f4) = true)
  (a5 : PySem.W.nsIn K mainGlobals "read" = some (some (.ref f5)))
  (l5 : K.lookup f5 = some ⟨oc5, od5, .func (PySem.W.fnOf "read" "read" (defArgs (topS 6)) (defBody (topS 6)) (defScope (topS 6)) .none kV5 dc5 pm5 an5 cd5 ct5), sl5⟩)
  (c5 : PySem.W.codeIn K cd5 "read" = true) (k5 : PySem.W.keepIn K (.ref f5) = true)
  (a6 : PySem.W.nsIn K mainGlobals "step" = some (some (.ref f6)))
  (l6 : K.lookup f6 = some ⟨oc6, od6, .func (PySem.W.fnOf "step" "step" (defArgs (topS 7)) (defBody (topS 7)) (defScope (topS 7)) .none kV6 dc6 pm6 an6 cd6 ct6), sl6⟩)
  (c6 : PySem.W.codeIn K cd6 "step" = true) (k6 : PySem.W.keepIn K (.ref f6) = true)
  (a7 : PySem.W.nsIn K mainGlobals "search" = some (some (.ref f7)))
  (l7 : K.lookup f7 = some ⟨oc7, od7, .func (PySem.W.fnOf "search" "search" (defArgs (topS 9)) (defBody (topS 9)) (defScope (topS 9)) .none kV7 dc7 pm7 an7 cd7 ct7), sl7⟩)
  (c7 : PySem.W.codeIn K cd7 "search" = true) (k7 : PySem.W.keepIn K (.ref f7) = true)
  (a8 : PySem.W.nsIn K mainGlobals "unlike" = some (some (.ref f8)))
  (l8 : K.lookup f8 = some ⟨oc8, od8, .func (PySem.W.fnOf "unlike" "unlike" (defArgs (topS 10)) (defBody (topS 10)) (defScope (topS 10)) .none kV8 dc8 pm8 an8 cd8 ct8), sl8⟩)
  (c8 : PySem.W.codeIn K cd8 "unlike" = true) (k8 : PySem.W.keepIn K (.ref f8) = true)
  (a9 : PySem.W.nsIn K mainGlobals "first_difference" = some (some (.ref f9)))
  (l9 : K.lookup f9 = some ⟨oc9, od9, .func (PySem.W.fnOf "first_difference" "first_difference" (defArgs (topS 11)) (defBody (topS 11)) (defScope (topS 11)) .none kV9 dc9 pm9 an9 cd9 ct9), sl9⟩)
  (c9 : PySem.W.codeIn K cd9 "first_difference" = true) (k9 : PySem.W.keepIn K (.ref f9) = true)
  (a10 : PySem.W.nsIn K mainGlobals "_law_cell" = some (some (.ref f10)))
  (l10 : K.lookup f10 = some ⟨oc10, od10, .func (PySem.W.fnOf "_law_cell" "_law_cell" (defArgs (topS 13)) (defBody (topS 13)) (defScope (topS 13)) .none kV10 dc10 pm10 an10 cd10 ct10), sl10⟩)
  (c10 : PySem.W.codeIn K cd10 "_law_cell" = true) (k10 : PySem.W.keepIn K (.ref f10) = true)
  (a11 : PySem.W.nsIn K mainGlobals "_law_digits" = some (some (.ref f11)))
  (l11 : K.lookup f11 = some ⟨oc11, od11, .func (PySem.W.fnOf "_law_digits" "_law_digits" (defArgs (topS 14)) (defBody (topS 14)) (defScope (topS 14)) .none kV11 dc11 pm11 an11 cd11 ct11), sl11⟩)
  (c11 : PySem.W.codeIn K cd11 "_law_digits" = true) (k11 : PySem.W.keepIn K (.ref f11) = true)
  (a12 : PySem.W.nsIn K mainGlobals "_law_weight" = some (some (.ref f12)))
  (l12 : K.lookup f12 = some ⟨oc12, od12, .func (PySem.W.fnOf "_law_weight" "_law_weight" (defArgs (topS 15)) (defBody (topS 15)) (defScope (topS 15)) .none kV12 dc12 pm12 an12 cd12 ct12), sl12⟩)
  (c12 : PySem.W.codeIn K cd12 "_law_weight" = true) (k12 : PySem.W.keepIn K (.ref f12) = true)
  (a13 : PySem.W.nsIn K mainGlobals "_law_filter" = some (some (.ref f13)))
  (l13 : K.lookup f13 = some ⟨oc13, od13, .func (PySem.W.fnOf "_law_filter" "_law_filter" (defArgs (topS 16)) (defBody (topS 16)) (defScope (topS 16)) .none kV13 dc13 pm13 an13 cd13 ct13), sl13⟩)
  (c13 : PySem.W.codeIn K cd13 "_law_filter" = true) (k13 : PySem.W.keepIn K (.ref f13) = true)
  (a14 : PySem.W.nsIn K mainGlobals "_law_pipeline" = some (some (.ref f14)))
  (l14 : K.lookup f14 = some ⟨oc14, od14, .func (PySem.W.fnOf "_law_pipeline" "_law_pipeline" (defArgs (topS 17)) (defBody (topS 17)) (defScope (topS 17)) .none kV14 dc14 pm14 an14 cd14 ct14), sl14⟩)
  (c14 : PySem.W.codeIn K cd14 "_law_pipeline" = true) (k14 : PySem.W.keepIn K (.ref f14) = true)
  (a15 : PySem.W.nsIn K mainGlobals "_law_kept" = some (some (.ref f15)))
  (l15 : K.lookup f15 = some ⟨oc15, od15, .func (PySem.W.fnOf "_law_kept" "_law_kept" (defArgs (topS 18)) (defBody (topS 18)) (defScope (topS 18)) .none kV15 dc15 pm15 an15 cd15 ct15), sl15⟩)
  (c15 : PySem.W.codeIn K cd15 "_law_kept" = true) (k15 : PySem.W.keepIn K (.ref f15) = true)
  (a16 : PySem.W.nsIn K mainGlobals "_law_result" = some (some (.ref f16)))
  (l16 : K.lookup f16 = some ⟨oc16, od16, .func (PySem.W.fnOf "_law_result" "_law_result" (defArgs (topS 19)) (defBody (topS 19)) (defScope (topS 19)) .none kV16 dc16 pm16 an16 cd16 ct16), sl16⟩)
  (c16 : PySem.W.codeIn K cd16 "_law_result" = true) (k16 : PySem.W.keepIn K (.ref f16) = true)
  (a17 : PySem.W.nsIn K mainGlobals "_law_reach" = some (some (.ref f17)))
  (l17 : K.lookup f17 = some ⟨oc17, od17, .func (PySem.W.fnOf "_law_reach" "_law_reach" (defArgs (topS 20)) (defBody (topS 20)) (defScope (topS 20)) .none kV17 dc17 pm17 an17 cd17 ct17), sl17⟩)
  (c17 : PySem.W.codeIn K cd17 "_law_reach" = true) (k17 : PySem.W.keepIn K (.ref f17) = true)
  (a18 : PySem.W.nsIn K mainGlobals "_law_logs" = some (some (.ref f18)))
  (l18 : K.lookup f18 = some ⟨oc18, od18, .func (PySem.W.fnOf "_law_logs" "_law_logs" (defArgs (topS 21)) (defBody (topS 21)) (defScope (topS 21)) .none kV18 dc18 pm18 an18 cd18 ct18), sl18⟩)
  (c18 : PySem.W.codeIn K cd18 "_law_logs" = true) (k18 : PySem.W.keepIn K (.ref f18) = true)
  (a19 : PySem.W.nsIn K mainGlobals "_law_small_filter" = some (some (.ref f19)))
  (l19 : K.lookup f19 = some ⟨oc19, od19, .func (PySem.W.fnOf "_law_small_filter" "_law_small_filter" (defArgs (topS 22)) (defBody (topS 22)) (defScope (topS 22)) .none kV19 dc19 pm19 an19 cd19 ct19), sl19⟩)
  (c19 : PySem.W.codeIn K cd19 "_law_small_filter" = true) (k19 : PySem.W.keepIn K (.ref f19) = true)
  (a20 : PySem.W.nsIn K mainGlobals "law" = some (some (.ref f20)))
  (l20 : K.lookup f20 = some ⟨oc20, od20, .func (PySem.W.fnOf "law" "law" (defArgs (topS 23)) (defBody (topS 23)) (defScope (topS 23)) .none kV20 dc20 pm20 an20 cd20 ct20), sl20⟩)
  (c20 : PySem.W.codeIn K cd20 "law" = true) (k20 : PySem.W.keepIn K (.ref f20) = true)
  (z0 : PySem.W.nsIn K mainGlobals "len" = some none)
  (z1 : PySem.W.nsIn K mainGlobals "list" = some none)
  (z2 : PySem.W.nsIn K mainGlobals "tuple" = some none)
  (z3 : PySem.W.nsIn K mainGlobals "max" = some none)
  (z4 : PySem.W.nsIn K mainGlobals "min" = some none)
  (z5 : PySem.W.nsIn K mainGlobals "any" = some none)
  (z6 : PySem.W.nsIn K mainGlobals "all" = some none)
  (z7 : PySem.W.nsIn K mainGlobals "int" = some none)
  (z8 : PySem.W.nsIn K mainGlobals "bool" = some none)
  (z9 : PySem.W.nsIn K mainGlobals "str" = some none)
  (z10 : PySem.W.nsIn K mainGlobals "isinstance" = some none)
  (z11 : PySem.W.nsIn K mainGlobals "sorted" = some none)
  (z12 : PySem.W.nsIn K mainGlobals "set" = some none)
  (z13 : PySem.W.nsIn K mainGlobals "dict" = some none)
  (z14 : PySem.W.nsIn K mainGlobals "sum" = some none)
  (z15 : PySem.W.nsIn K mainGlobals "range" = some none)
  (z16 : PySem.W.nsIn K mainGlobals "zip" = some none)
  (z17 : PySem.W.nsIn K mainGlobals "enumerate" = some none) :
  ∃ fd : FuncData, (∀ (s : Shared) (v : Value), BindsTo s fd ⟨[v], []⟩ [("script", v)]) ∧ ∀ base : Heap, K.In base → base.Ns mainGlobals mg → FnOk l.prog w K mg base CX0 12 fa fd ["script"] (spLaw K 63) := by
  have e0 : At K r_memory f0 := at_mk l0 c0 k0
  have e1 : At K r_widest f1 := at_mk l1 c1 k1
  have e2 : At K r_initial f2 := at_mk l2 c2 k2
  have e3 : At K r_later f3 := at_mk l3 c3 k3
  have e4 : At K r_decide_ f4 := at_mk l4 c4 k4
  have e5 : At K r_read f5 := at_mk l5 c5 k5
  have e6 : At K r_step f6 := at_mk l6 c6 k6
  have e7 : At K r_search f7 := at_mk l7 c7 k7
  have e8 : At K r_unlike f8 := at_mk l8 c8 k8
  have e9 : At K r_first_difference f9 := at_mk l9 c9 k9
  have e10 : At K r_law_cell f10 := at_mk l10 c10 k10
  have e11 : At K r_law_digits f11 := at_mk l11 c11 k11
  have e12 : At K r_law_weight f12 := at_mk l12 c12 k12
  have e13 : At K r_law_filter f13 := at_mk l13 c13 k13
  have e14 : At K r_law_pipeline f14 := at_mk l14 c14 k14
  have e15 : At K r_law_kept f15 := at_mk l15 c15 k15
  have e16 : At K r_law_result f16 := at_mk l16 c16 k16
  have e17 : At K r_law_reach f17 := at_mk l17 c17 k17
  have e18 : At K r_law_logs_k05 f18 := at_mk l18 c18 k18
  have e19 : At K r_law_small_filter f19 := at_mk l19 c19 k19
  have e20 : At K r_law_k05 f20 := at_mk l20 c20 k20
  have hA : AllAt K mg theRows [f0, f1, f2, f3, f4, f5, f6, f7, f8, f9, f10, f11, f12, f13, f14, f15, f16, f17, f18, f19, f20] := .cons e0 (PySem.W.mg_of X Gn a0) (.cons e1 (PySem.W.mg_of X Gn a1) (.cons e2 (PySem.W.mg_of X Gn a2) (.cons e3 (PySem.W.mg_of X Gn a3) (.cons e4 (PySem.W.mg_of X Gn a4) (.cons e5 (PySem.W.mg_of X Gn a5) (.cons e6 (PySem.W.mg_of X Gn a6) (.cons e7 (PySem.W.mg_of X Gn a7) (.cons e8 (PySem.W.mg_of X Gn a8) (.cons e9 (PySem.W.mg_of X Gn a9) (.cons e10 (PySem.W.mg_of X Gn a10) (.cons e11 (PySem.W.mg_of X Gn a11) (.cons e12 (PySem.W.mg_of X Gn a12) (.cons e13 (PySem.W.mg_of X Gn a13) (.cons e14 (PySem.W.mg_of X Gn a14) (.cons e15 (PySem.W.mg_of X Gn a15) (.cons e16 (PySem.W.mg_of X Gn a16) (.cons e17 (PySem.W.mg_of X Gn a17) (.cons e18 (PySem.W.mg_of X Gn a18) (.cons e19 (PySem.W.mg_of X Gn a19) (.cons e20 (PySem.W.mg_of X Gn a20) (.nil)))))))))))))))))))))
  have hm : ∀ x ∈ bNames, mg x = none := List.forall_mem_cons.mpr ⟨PySem.W.mg_none_of X Gn z0, List.forall_mem_cons.mpr ⟨PySem.W.mg_none_of X Gn z1, List.forall_mem_cons.mpr ⟨PySem.W.mg_none_of X Gn z2, List.forall_mem_cons.mpr ⟨PySem.W.mg_none_of X Gn z3, List.forall_mem_cons.mpr ⟨PySem.W.mg_none_of X Gn z4, List.forall_mem_cons.mpr ⟨PySem.W.mg_none_of X Gn z5, List.forall_mem_cons.mpr ⟨PySem.W.mg_none_of X Gn z6, List.forall_mem_cons.mpr ⟨PySem.W.mg_none_of X Gn z7, List.forall_mem_cons.mpr ⟨PySem.W.mg_none_of X Gn z8, List.forall_mem_cons.mpr ⟨PySem.W.mg_none_of X Gn z9, List.forall_mem_cons.mpr ⟨PySem.W.mg_none_of X Gn z10, List.forall_mem_cons.mpr ⟨PySem.W.mg_none_of X Gn z11, List.forall_mem_cons.mpr ⟨PySem.W.mg_none_of X Gn z12, List.forall_mem_cons.mpr ⟨PySem.W.mg_none_of X Gn z13, List.forall_mem_cons.mpr ⟨PySem.W.mg_none_of X Gn z14, List.forall_mem_cons.mpr ⟨PySem.W.mg_none_of X Gn z15, List.forall_mem_cons.mpr ⟨PySem.W.mg_none_of X Gn z16, List.forall_mem_cons.mpr ⟨PySem.W.mg_none_of X Gn z17, fun _ h => nomatch h⟩⟩⟩⟩⟩⟩⟩⟩⟩⟩⟩⟩⟩⟩⟩⟩⟩⟩
  obtain ⟨fd, b, F⟩ := law_fn (P := l.prog) (W := w) (k := 12) (w := 4000000) (n := 63) (r0 := r_law_k05) hA rows_nd rows_bd rows_G hm rows_ok (by unfold theRows; simp only [List.mem_cons, true_or, or_true]) rfl hfa law_ev
  exact ⟨fd, b, fun base _ _ => F base⟩
end
end TL
open PySem PySem.W PyProof.Rows
set_option maxHeartbeats 0 in
theorem PySem.Challenge.cw_thinlog_k05_first_differences_by_all_log_holds : PySem.Challenge.rw_thinlog_k05_first_differences_by_all_log.Holds := by
  w_on; o_law; k_head; (case hw => w_witness2)
  k_fill
  refine L2.walk_of (l := PySem.Challenge.rw_thinlog_k05_first_differences_by_all_log) (n := 63) (k := 12) (x := "script") (CX := fun _ => L2.CX0) (sp := fun w => TL.spLaw _ 63) rfl (by decide) rfl ⟨rfl, by decide, by decide⟩ (fun w h Y => PySem.W.kIn_of Y) ?F (fun _ _ a ns hl ho hS => ⟨a, ns, rfl, hl, ho, hS, fun _ => rfl⟩) (fun _ _ _ _ _ h => h)
  case F =>
    intro w mg fa h KX Gn hmg
    refine' TL.all_mk KX Gn hmg ?a0 ?l0 ?c0 ?k0 ?a1 ?l1 ?c1 ?k1 ?a2 ?l2 ?c2 ?k2 ?a3 ?l3 ?c3 ?k3 ?a4 ?l4 ?c4 ?k4 ?a5 ?l5 ?c5 ?k5 ?a6 ?l6 ?c6 ?k6 ?a7 ?l7 ?c7 ?k7 ?a8 ?l8 ?c8 ?k8 ?a9 ?l9 ?c9 ?k9 ?a10 ?l10 ?c10 ?k10 ?a11 ?l11 ?c11 ?k11 ?a12 ?l12 ?c12 ?k12 ?a13 ?l13 ?c13 ?k13 ?a14 ?l14 ?c14 ?k14 ?a15 ?l15 ?c15 ?k15 ?a16 ?l16 ?c16 ?k16 ?a17 ?l17 ?c17 ?k17 ?a18 ?l18 ?c18 ?k18 ?a19 ?l19 ?c19 ?k19 ?a20 ?l20 ?c20 ?k20 ?z0 ?z1 ?z2 ?z3 ?z4 ?z5 ?z6 ?z7 ?z8 ?z9 ?z10 ?z11 ?z12 ?z13 ?z14 ?z15 ?z16 ?z17
    (case a0 => k_is); (case l0 => k_is); (case c0 => k_is); (case k0 => k_is); (case a1 => k_is); (case l1 => k_is); (case c1 => k_is); (case k1 => k_is); (case a2 => k_is); (case l2 => k_is); (case c2 => k_is); (case k2 => k_is); (case a3 => k_is); (case l3 => k_is); (case c3 => k_is); (case k3 => k_is); (case a4 => k_is); (case l4 => k_is); (case c4 => k_is); (case k4 => k_is); (case a5 => k_is); (case l5 => k_is); (case c5 => k_is); (case k5 => k_is); (case a6 => k_is); (case l6 => k_is); (case c6 => k_is); (case k6 => k_is); (case a7 => k_is); (case l7 => k_is); (case c7 => k_is); (case k7 => k_is); (case a8 => k_is); (case l8 => k_is); (case c8 => k_is); (case k8 => k_is); (case a9 => k_is); (case l9 => k_is); (case c9 => k_is); (case k9 => k_is); (case a10 => k_is); (case l10 => k_is); (case c10 => k_is); (case k10 => k_is); (case a11 => k_is); (case l11 => k_is); (case c11 => k_is); (case k11 => k_is); (case a12 => k_is); (case l12 => k_is); (case c12 => k_is); (case k12 => k_is); (case a13 => k_is); (case l13 => k_is); (case c13 => k_is); (case k13 => k_is); (case a14 => k_is); (case l14 => k_is); (case c14 => k_is); (case k14 => k_is); (case a15 => k_is); (case l15 => k_is); (case c15 => k_is); (case k15 => k_is); (case a16 => k_is); (case l16 => k_is); (case c16 => k_is); (case k16 => k_is); (case a17 => k_is); (case l17 => k_is); (case c17 => k_is); (case k17 => k_is); (case a18 => k_is); (case l18 => k_is); (case c18 => k_is); (case k18 => k_is); (case a19 => k_is); (case l19 => k_is); (case c19 => k_is); (case k19 => k_is); (case a20 => k_is); (case l20 => k_is); (case c20 => k_is); (case k20 => k_is); (case z0 => k_is); (case z1 => k_is); (case z2 => k_is); (case z3 => k_is); (case z4 => k_is); (case z5 => k_is); (case z6 => k_is); (case z7 => k_is); (case z8 => k_is); (case z9 => k_is); (case z10 => k_is); (case z11 => k_is); (case z12 => k_is); (case z13 => k_is); (case z14 => k_is); (case z15 => k_is); (case z16 => k_is); (case z17 => k_is)
