import PyProof.Rows.All
import Wide.All
import OpenK.AllK
import Wide.FinOn
import HandS.ForMost
import HandS.Exc
import HandS.TryOnly
import HandS.ExcOwn
import HandS.WordsExc
import HandS.Wide
import HandS.Conv
import HandS.IsInst
import HandS.TupAny
import HandS.Zip
import HandS.SortInts
import HandS.Style
import HandS.Defaults
import HandS.Text
import HandS.Iter
import HandS.ExcInit
import HandS.ExcField
import HandS.TryMany
import HandS.Property
import HandS.MakeKw
import HandS.WideBits
import KE.SortData
import KE.DataCmp
import KE.DataEq
import KE.DataFind
import KE.DataMinMax
import HandS.Deep
import HandS.RevTup
import HandS.Rev
import HandS.Walk
import KE.KTupSum
import PyProof.SeqIndex
import KE.GoesEnum
import HandS.Comp
import HandS.Star
import OpenK.KTop
import PyProof.MeetsDict
import HandS.More
import HandS.Head0
import HandS.Head1
import HandS.Head2
import HandS.HeadEnd
import HandS.HeadHook1
import HandS.HeadHook2
import HandS.HeadHook3
import PySem.Challenge.RW_endorders_k66_claims_by_hand
set_option Elab.async false
set_option linter.all false
set_option maxRecDepth 100000
set_option maxHeartbeats 4000000
namespace EV
open PySem

/-! ### values, the heap of shared cells, environments -/
inductive Val where
  | non | bl (b : Bool) | int (i : Int) | str (x : Str)
  | tup (xs : List Val) | lst (xs : List Val)
  | cup | ref (n : Nat)
  | mls (xs : List Val)
  /-- a cup, opened in the frame of a drawing def -/
  | mcp (xs : List Val)
  | scr (n : Nat)
  | scl (ns : List Int)
  | obj (c : Nat) (fs : List Val)
  | mob (c : Nat) (as : List Nat) (fs : List Val)
  | clo (f : Nat) (vs : List Val)
  | dic (ks vs : List Val)
  | mdc (ks vs : List Val)
  | exn (c : Nat) (fs : List Val)
  | tupk (xs : List Val)
  deriving Inhabited
inductive Cell where
  | ins (c : Nat) (fs : List Val)
abbrev Hs := List Cell
abbrev Env := List (Option Val)
abbrev KV := Val → Hs → Bool
abbrev KVs := List Val → Hs → Bool
abbrev KB := Bool → Hs → Bool
abbrev KE := Env → Hs → Bool

mutual
def toD : Val → Option PyData
  | .non => some .none
  | .bl b => some (.bool b)
  | .int i => some (.int i)
  | .str x => some (.str x)
  | .tup xs => match toDs xs with | some ds => some (.tuple ds) | none => none
  | .lst xs => match toDs xs with | some ds => some (.list ds) | none => none
  | .tupk xs => match toDs xs with | some ds => some (.tuple ds) | none => none
  | _ => none
def toDs : List Val → Option (List PyData)
  | [] => some []
  | x :: xs => match toD x with
    | some d => match toDs xs with | some ds => some (d :: ds) | none => none
    | none => none
end

def strEq (a b : Str) : Bool := a == b
/-- not too deep -/
def dOk (d : PyData) : Bool := decide (d.depth ≤ 60)
/-- == of two values -/
def eqvD (a b : Val) : Option Bool :=
  match toD a, toD b with
  | some d, some e => if dOk d && dOk e then some (PyData.eqv d e) else none
  | _, _ => none
def eqv (a b : Val) : Option Bool :=
  match a, b with
  | .int i, .int j => some (i == j)
  | .str x, .str y => some (strEq x y)
  | .bl x, .bl y => some (x == y)
  | _, _ => eqvD a b

inductive Bop | add | sub | mul | fdv | mod | pow
  deriving DecidableEq
def mulOk (i j : Int) : Bool := decide (i.natAbs.log2 + j.natAbs.log2 < 1000000) || decide (-(2 ^ 64) < j ∧ j < 2 ^ 64) || decide (-(2 ^ 64) < i ∧ i < 2 ^ 64)
def bop : Bop → Val → Val → Option Val
  | .add, .int i, .int j => some (.int (i + j))
  | .add, .str x, .str y => if x.length + y.length ≤ sizeLine then some (.str (x ++ y)) else none
  | .add, .lst xs, .lst ys => if xs.length + ys.length ≤ sizeLine then some (.lst (xs ++ ys)) else none
  | .add, .tup xs, .tup ys => if xs.length + ys.length ≤ sizeLine then some (.tup (xs ++ ys)) else none
  | .sub, .int i, .int j => some (.int (i - j))
  | .mul, .int i, .int j => if mulOk i j then some (.int (i * j)) else none
  | .mul, .lst xs, .int k => if -(2 ^ 63) ≤ k ∧ k < 2 ^ 63 ∧ xs.length * k.toNat ≤ sizeLine then some (.lst (List.replicate k.toNat xs).flatten) else none
  | .fdv, .int i, .int j => if 0 < j ∧ j.natAbs.log2 < 9000 then some (.int (i / j)) else none
  | .mod, .int i, .int j => if 0 < j then some (.int (i % j)) else none
  | .pow, .int i, .int j => if 0 ≤ j ∧ j ≤ 1000000 ∧ i.natAbs < 2 ^ 64 then some (.int (i ^ j.toNat)) else none
  | _, _, _ => none

inductive Cop | eq | ne | lt | le | gt | ge | isN | notN | inn | nin
  deriving DecidableEq
def itemsOf : Val → Option (List Val)
  | .tup xs => some xs
  | .lst xs => some xs
  | .mls xs => some xs
  | .tupk xs => some xs
  | _ => none
/-- x in a row: flat items, or data of any shape -/
def inL (x : Val) : List Val → Option Bool
  | [] => some false
  | y :: ys => match eqv y x with
    | some true => match inL x ys with | some _ => some true | none => none
    | some false => inL x ys
    | none => none
def dataOk (x : Val) : Bool := match x with
  | .non | .bl _ | .int _ | .str _ => true
  | x => match toD x with | some d => dOk d | none => false
def flat : Val → Bool
  | .non | .bl _ | .int _ | .str _ => true
  | _ => false
def cop : Cop → Val → Val → Option Bool
  | .eq, a, b => eqv a b
  | .ne, a, b => match eqv a b with | some r => some (!r) | none => none
  | .lt, .int i, .int j => some (decide (i < j))
  | .le, .int i, .int j => some (decide (i ≤ j))
  | .gt, .int i, .int j => some (decide (j < i))
  | .ge, .int i, .int j => some (decide (j ≤ i))
  | .inn, x, b => match itemsOf b with | some ys => if dataOk x then inL x ys else none | none => none
  | .nin, x, b => match itemsOf b with | some ys => if dataOk x then (inL x ys).map (!·) else none | none => none
  | _, _, _ => none

/-- built-in functions -/
inductive Blt | len | int | abs | max2 | min2 | max | min | sum | all | any | list | tuple | divmod | sorted
  deriving DecidableEq
def intsOf : List Val → Option (List Int)
  | [] => some []
  | .int i :: r => (intsOf r).map (i :: ·)
  | _ => none
def blsOf : List Val → Option (List Bool)
  | [] => some []
  | .bl i :: r => (blsOf r).map (i :: ·)
  | _ => none
def maxI : List Int → Int
  | [] => 0
  | [x] => x
  | x :: r => let m := maxI r; if m < x then x else m
def minI : List Int → Int
  | [] => 0
  | [x] => x
  | x :: r => let m := minI r; if x < m then x else m
def insI (x : Int) : List Int → List Int
  | [] => [x]
  | y :: r => if x ≤ y then x :: y :: r else y :: insI x r
def sortI : List Int → List Int
  | [] => []
  | x :: r => insI x (sortI r)
/-! data in order -/
mutual
def alB : Val → Val → Bool
  | .int _, v => match v with | .int _ => true | _ => false
  | .bl _, v => match v with | .bl _ => true | _ => false
  | .str _, v => match v with | .str _ => true | _ => false
  | .tup xs, v => match v with | .tup ys => alBs xs ys | _ => false
  | .lst xs, v => match v with | .lst ys => alBs xs ys | _ => false
  | _, _ => false
def alBs : List Val → List Val → Bool
  | [], _ => true
  | x :: xs, ys => match ys with | [] => true | y :: ys => alB x y && alBs xs ys
end
mutual
def eqB : Val → Val → Bool
  | .int i, v => match v with | .int j => i == j | _ => false
  | .bl i, v => match v with | .bl j => i == j | _ => false
  | .str i, v => match v with | .str j => strEq i j | _ => false
  | .tup xs, v => match v with | .tup ys => eqBs xs ys | _ => false
  | .lst xs, v => match v with | .lst ys => eqBs xs ys | _ => false
  | _, _ => false
def eqBs : List Val → List Val → Bool
  | [], ys => match ys with | [] => true | _ => false
  | x :: xs, ys => match ys with | [] => false | y :: ys => eqB x y && eqBs xs ys
end
mutual
/-- less, of alike data -/
def ltB : Val → Val → Bool
  | .int i, v => match v with | .int j => decide (i < j) | _ => false
  | .bl i, v => match v with | .bl j => !i && j | _ => false
  | .str i, v => match v with | .str j => decide (i.cps.toList < j.cps.toList) | _ => false
  | .tup xs, v => match v with | .tup ys => ltBs xs ys | _ => false
  | .lst xs, v => match v with | .lst ys => ltBs xs ys | _ => false
  | _, _ => false
def ltBs : List Val → List Val → Bool
  | [], ys => match ys with | [] => false | _ => true
  | x :: xs, ys => match ys with
    | [] => false
    | y :: ys => match eqB x y with | true => ltBs xs ys | false => ltB x y
end
def insV (x : Val) : List Val → List Val
  | [] => [x]
  | y :: r => match ltB x y with | true => x :: y :: r | false => y :: insV x r
def sortV : List Val → List Val
  | [] => []
  | x :: r => insV x (sortV r)
def strB : List Val → Bool
  | [] => true
  | x :: r => match r with | [] => true | y :: _ => ltB x y && strB r
def allTup : List Val → Bool
  | [] => true
  | .tup (_ :: _) :: r => allTup r
  | _ => false
def noTup : List Val → Bool
  | [] => true
  | .tup _ :: _ => false
  | .non :: _ => false
  | _ :: r => noTup r
def datOk (x : Val) : Bool := match toD x with | some d => dOk d | none => false
/-- the rows that sorted() puts in order: data alike, no two the same -/
def srtV (xs : List Val) : Option (List Val) :=
  if (xs.all datOk && xs.all fun x => xs.all fun y => alB x y) && (allTup xs || noTup xs) && strB (sortV xs) then some (sortV xs) else none
def blt : Blt → List Val → Option Val
  | .len, [.lst xs] => some (.int xs.length)
  | .len, [.mls xs] => some (.int xs.length)
  | .len, [.scr n] => some (.int n)
  | .len, [.tup xs] => some (.int xs.length)
  | .len, [.str x] => if x.length ≤ sizeLine then some (.int x.length) else none
  | .len, [.scl ns] => some (.int ns.length)
  | .int, [.int i] => some (.int i)
  | .abs, [.int i] => some (.int (if i < 0 then -i else i))
  | .max2, [.int i, .int j] => some (.int (if j > i then j else i))
  | .min2, [.int i, .int j] => some (.int (if j < i then j else i))
  | .max, [.tup xs] => match intsOf xs with | some ns => if ns.isEmpty then none else some (.int (maxI ns)) | none => none
  | .min, [.tup xs] => match intsOf xs with | some ns => if ns.isEmpty then none else some (.int (minI ns)) | none => none
  | .int, [.bl b] => some (.int (if b then 1 else 0))
  | .max, [.lst xs] => match intsOf xs with | some ns => if ns.isEmpty then none else some (.int (maxI ns)) | none => none
  | .min, [.lst xs] => match intsOf xs with | some ns => if ns.isEmpty then none else some (.int (minI ns)) | none => none
  | .sum, [.tup xs] => match intsOf xs with | some ns => some (.int ns.sum) | none => none
  | .sum, [.lst xs] => match intsOf xs with | some ns => some (.int ns.sum) | none => none
  | .all, [.lst xs] => match blsOf xs with | some bs => some (.bl (bs.all id)) | none => none
  | .any, [.lst xs] => match blsOf xs with | some bs => some (.bl (bs.any id)) | none => none
  | .list, [.lst xs] => some (.lst xs)
  | .list, [.tup xs] => some (.lst xs)
  | .tuple, [.lst xs] => some (.tup xs)
  | .tuple, [.mls xs] => some (.tup xs)
  | .tuple, [.tup xs] => some (.tup xs)
  | .divmod, [.int i, .int j] => if 0 < j ∧ j < 1073741824 then some (.tup [.int (i / j), .int (i % j)]) else none
  | .sorted, [.lst xs] => match intsOf xs with | some ns => some (.lst ((sortI ns).map .int)) | none => (srtV xs).map .lst
  | .sorted, [.tup xs] => match intsOf xs with | some ns => some (.lst ((sortI ns).map .int)) | none => none
  | _, _ => none

/-- methods of data -/
inductive Mth | index | count
  deriving DecidableEq
def indexL (x : Val) : Nat → List Val → Option Nat
  | _, [] => none
  | i, y :: ys => match eqv y x with
    | some true => some i
    | some false => indexL x (i + 1) ys
    | none => none
def countL (x : Val) : List Val → Option Nat
  | [] => some 0
  | y :: ys => match eqv y x, countL x ys with
    | some true, some n => some (n + 1)
    | some false, some n => some n
    | _, _ => none
def mth : Mth → Val → List Val → Option Val
  | .index, v, [x] => match itemsOf v with | some ys => if dataOk x && ys.all dataOk then (indexL x 0 ys).map fun n => .int (n : Nat) else none | none => none
  | .count, v, [x] => match itemsOf v with | some ys => if dataOk x && ys.all dataOk then (countL x ys).map fun n => .int (n : Nat) else none | none => none
  | _, _, _ => none

def isRow : Val → Bool
  | .tup _ | .lst _ => true
  | _ => false
def ixv (v i : Val) : Option Val := match v, i with
  | .lst xs, .int k => L2.atI xs k
  | .mls xs, .int k => L2.atI xs k
  | .mcp xs, .int k => L2.atI xs k
  | .scl ns, .int k => L2.atI (ns.map .int) k
  | .tup xs, .int k => L2.atI xs k
  | .str z, .int k => if z.length ≤ sizeLine then (L2.atI z.cps.toList k).map fun c => .str ⟨#[c]⟩ else none
  | _, _ => none
def cut (xs : List Val) (lo hi : Option Int) : List Val := (xs.drop (HT.sIx xs.length 0 lo)).take (HT.sIx xs.length xs.length hi - HT.sIx xs.length 0 lo)
open L2 in
def slv (v : Val) (lo hi : Option Int) : Option Val := match v with
  | .lst xs => some (.lst (cut xs lo hi))
  | .scl ns => some (.lst (cut (ns.map .int) lo hi))
  | .tup xs => some (.tup (cut xs lo hi))
  | .str z => if z.length ≤ sizeLine then some (.str (cutS z lo hi)) else none
  | _ => none

/-- classes of isinstance -/
inductive Ty | int | bool | str | tuple | list
  deriving DecidableEq
def isi : Val → Ty → Option Bool
  | .non, _ => some false
  | .bl _, t => some (t = .bool || t = .int)
  | .int _, t => some (t = .int)
  | .str _, t => some (t = .str)
  | .tup _, t => some (t = .tuple)
  | .lst _, t => some (t = .list)
  | .cup, t => some (t = .list)
  | _, _ => none

/-- targets -/
inductive T | name (i : Nat) | tup (ts : List T)

mutual
/-- expressions -/
inductive E where
  | var (i : Nat) | non | bl (b : Bool) | int (i : Int) | str (x : Str) | kon (i : Nat)
  | bin (op : Bop) (a b : E) | neg (a : E)
  | cmp (op : Cop) (a b : E) | chain (o1 o2 : Cop) (a b c : E)
  | andE (a b : E) | orE (a b : E) | one (a : E) | notE (a : E) | ife (c a b : E)
  | tup (es : Es) | lst (es : Es)
  | ix (a b : E) | slc (a : E) (lo hi : P)
  | ixo (i : Nat) (b : E) | lenO (i : Nat) | tupO (i : Nat)
  | call (f : Nat) (es : Es) | new (f : Nat) (es : Es) | callK (f : Nat) (es ks : Es) (names : List Str) (perm : List Nat)
  | blt (b : Blt) (es : Es) | mth (m : Mth) (o : E) (es : Es)
  | lc (elt : E) (t : T) (it : I) (ifs : P)
  | lc2 (elt : E) (t : T) (it : I) (t2 : T) (it2 : I) (ifs : P)
  | stup (l : Bool) (pre : Es) (a : E) (post : Es)
  | sel (ks : List Str) (vs : Es) (i : E)
  | cget (c : Nat) (a : E) (d : Int)
  | isi (a : E) (t : Ty)
  | lrg (a b : P)
  | attr (e : E) (a : Nat) | meth (e : E) (m : Nat) (es : Es) | isiC (e : E) (c : Nat)
  | xfld (i : Nat) (a : Nat) | xisi (i : Nat) (c : Nat)
inductive Es where
  | nil | cons (e : E) (es : Es)
/-- an optional part -/
inductive P where
  | no | some (e : E)
/-- what is walked -/
inductive I where
  | seq (e : E) | rng1 (a : E) | rng2 (a b : E) | enm (e : E) | zip (a b : E)
end

def Es.len : Es → Nat
  | .nil => 0
  | .cons _ es => es.len + 1
/-- the right side of an assignment: an expression, a list that the name is to own, what is taken out of an owned list, an owned list given away -/
inductive R where
  | e (e : E) | own (e : E) | popAt (i : Nat) (e : E) | pop (i : Nat)
mutual
inductive S where
  | expr (r : R) | ret (r : R) | retN | set (t : T) (r : R) | par (is : List Nat) (rs : List R) | append (i : Nat) (r : R) | setIx (i : Nat) (e r : E) | insert (i : Nat) (a b : E) | extend (i : Nat) (e : E) | setDm (i : Nat) (e : E) (j : Nat) (a b : E)
  | ifS (c : E) (a b : Ss) | forS (t : T) (it : I) (b : Ss) | whl (n : Nat) (c : E) (b : Ss)
  | brk | cont | pass | never
  | raise (c : Nat) (es : Es) | tryS (b : Ss) (hs : Hn) | setA (i a : Nat) (e : E) | parA (i : Nat) (as : List Nat) (es : Es) | setF (o : E) (a : Nat) (e : E)
inductive Ss where
  | nil | cons (s : S) (ss : Ss) | frz (i : Nat) (ss : Ss)
/-- except clauses: the classes, the name, the suite -/
inductive Hn where
  | nil | cons (cs : List Nat) (nm : Option Nat) (b : Ss) (r : Hn)
end

/-! ### the evaluator -/
structure Txt where
  konst : Nat → Option Val
  kdict : Nat → Option (List (Str × Int))
  /-- a class: its attributes in the order in which they are stored, its properties, its methods; what is under what -/
  cf : Nat → List Nat := fun _ => []
  /-- a class of objects that do not change: its attributes in the order in which they are stored -/
  of : Nat → Option (List Nat) := fun _ => none
  pr : Nat → Nat → Option Nat := fun _ _ => none
  me : Nat → Nat → Option Nat := fun _ _ => none
  sub : Nat → Nat → Bool := fun a b => a == b
  /-- the method that == calls -/
  eqm : Nat → Option Nat := fun _ => none
abbrev Sem := Nat → List Val → Hs → KV → KV → Bool

def stepK {α : Type} (o : Option α) (k : α → Bool) : Bool := match o with | some a => k a | none => false
def fNat (n : Nat) (k : Nat → Bool) : Bool := match n with | 0 => k 0 | m + 1 => k (m + 1)
def fInt (i : Int) (k : Int → Bool) : Bool := match i with | .ofNat n => fNat n fun n => k (.ofNat n) | .negSucc n => fNat n fun n => k (.negSucc n)
/-- a list's spine is walked -/
def fSp : List Val → (List Val → Bool) → Bool
  | [], k => k []
  | x :: r, k => fSp r fun r => k (x :: r)
def fV (v : Val) (k : Val → Bool) : Bool := match v with | .int i => fInt i fun i => k (.int i) | .lst xs => fSp xs fun xs => k (.lst xs) | v => k v
theorem fSp_eq : ∀ (xs : List Val) (k : List Val → Bool), fSp xs k = k xs
  | [], _ => rfl
  | x :: r, k => fSp_eq r fun r => k (x :: r)
theorem fNat_eq (n : Nat) (k : Nat → Bool) : fNat n k = k n := by cases n <;> rfl
theorem fInt_eq (i : Int) (k : Int → Bool) : fInt i k = k i := by
  cases i with
  | ofNat n => exact fNat_eq n fun n => k (.ofNat n)
  | negSucc n => exact fNat_eq n fun n => k (.negSucc n)
theorem fV_eq (v : Val) (k : Val → Bool) : fV v k = k v := by
  cases v with
  | int i => exact fInt_eq i fun i => k (.int i)
  | lst xs => exact fSp_eq xs fun xs => k (.lst xs)
  | _ => rfl

def isData : Val → Bool
  | .mls _ | .mcp _ | .mob _ _ _ | .mdc _ _ | .exn _ _ => false
  | _ => true
def getV (env : Env) (i : Nat) : Option Val := match env[i]? with
  | some (some v) => some v
  | _ => none
/-- a list that may be written here -/
def mlOf : Val → Option (List Val)
  | .mls xs => some xs
  | .mcp xs => some xs
  | _ => none
def mlPut (v : Val) (ys : List Val) : Val := match v with
  | .mcp _ => .mcp ys
  | _ => .mls ys
def getM (env : Env) (i : Nat) : Option (Val × List Val) := match getV env i with
  | some v => match mlOf v with | some xs => some (v, xs) | none => none
  | none => none
/-- a plain read of a name: no owned list -/
def getD (env : Env) (i : Nat) : Option Val := match getV env i with
  | some v => if isData v then some v else none
  | none => none

mutual
/-- stores: data alone -/
def asg : T → Val → Env → Option Env
  | .name i, v, env => if i < env.length then some (env.set i (some v)) else none
  | .tup ts, .tup xs, env => asgs ts xs env
  | .tup ts, .tupk xs, env => asgs ts xs env
  | .tup ts, .lst xs, env => asgs ts xs env
  | _, _, _ => none
def asgs : List T → List Val → Env → Option Env
  | [], [], env => some env
  | t :: ts, x :: xs, env => match asg t x env with | some env' => asgs ts xs env' | none => none
  | _, _, _ => none
end
mutual
def tvars : T → List Nat
  | .name i => [i]
  | .tup ts => tvarsL ts
def tvarsL : List T → List Nat
  | [] => []
  | t :: ts => tvars t ++ tvarsL ts
end
def wipeE (env : Env) : List Nat → Env
  | [] => env
  | v :: vs => (wipeE env vs).set v none

def rgl (lo : Int) (n : Nat) : List Val := (List.range n).map fun i => .int (lo + (i : Nat))
def enumL : Nat → List Val → List Val
  | _, [] => []
  | i, x :: xs => .tupk [.int (i : Nat), x] :: enumL (i + 1) xs
def zipL : List Val → List Val → List Val
  | x :: xs, y :: ys => .tupk [x, y] :: zipL xs ys
  | _, _ => []
def rgOk (i : Int) : Bool := decide (-(2 ^ 62) ≤ i) && decide (i < 2 ^ 62)

/-- the turns of a comprehension: one turn is body; acc the items so far -/
def lcL (turn : Val → Hs → (Option Val → Hs → Bool) → Bool) : List Val → List Val → Nat → Hs → KVs → Bool
  | [], acc, _, h, k => k acc.reverse h
  | x :: xs, acc, n, h, k => turn x h fun r h' => match r with
    | some v => if n < sizeLine then lcL turn xs (v :: acc) (n + 1) h' k else false
    | none => lcL turn xs acc n h' k
def noX : KV := fun _ _ => false
/-- turns that lay any number of items -/
def lcF (turn : Val → List Val → Hs → (List Val → Hs → Bool) → Bool) : List Val → List Val → Hs → (List Val → Hs → Bool) → Bool
  | [], acc, h, k => k acc h
  | x :: xs, acc, h, k => turn x acc h fun acc h => lcF turn xs acc h k
def rowK (v : Val) (k : List Val → Bool) : Bool := match v with | .tup ys => k ys | .lst ys => k ys | _ => false
def stv (l : Bool) (xs : List Val) : Val := match l with | true => .lst xs | false => .tup xs

def posOf (a : Nat) : List Nat → Nat → Option Nat
  | [], _ => none
  | b :: r, i => match a == b with | true => some i | false => posOf a r (i + 1)
section
variable (X : Txt) (sem : Sem)
/-- a comparison of values; == of objects by their own method -/
def cmpV (op : Cop) (x y : Val) (h : Hs) (k kx : KV) : Bool := match op, x with
  | .eq, .obj c _ => stepK (X.eqm c) fun f => sem f [x, y] h k kx
  | .ne, .obj c _ => stepK (X.eqm c) fun f => sem f [x, y] h (fun r h => match r with | .bl b => k (.bl (!b)) h | _ => false) kx
  | op, x => stepK (cop op x y) fun v => k (.bl v) h
def clsOf (v : Val) (h : Hs) : Option (Nat × List Val) := match v with
  | .obj c fs => some (c, fs)
  | .ref n => match h[n]? with | some (.ins c fs) => some (c, fs) | none => none
  | _ => none
def attrV (v : Val) (a : Nat) (h : Hs) (k kx : KV) : Bool := match v with
  | .obj c fs => match X.of c with
    | some os => match X.pr c a with
      | some f => sem f [v] h k noX
      | none => stepK (posOf a os 0) fun i => stepK fs[i]? fun u => k u h
    | none => false
  | _ => false
def methV (v : Val) (m : Nat) (xs : List Val) (h : Hs) (k kx : KV) : Bool := match clsOf v h with
  | some (c, _) => stepK (X.me c m) fun f => sem f (v :: xs) h k kx
  | none => false
def isiCV (v : Val) (c : Nat) (h : Hs) : Option Bool := match v with
  | .obj d _ => match X.of d with | some _ => some (X.sub d c) | none => none
  | .non | .bl _ | .int _ | .str _ | .tup _ | .lst _ => some false
  | _ => none
mutual
def ev : E → Env → Hs → KV → KV → Bool
  | .var i, env, h, k, _ => stepK (getD env i) fun v => k v h
  | .non, _, h, k, _ => k .non h
  | .bl b, _, h, k, _ => k (.bl b) h
  | .int i, _, h, k, _ => k (.int i) h
  | .str x, _, h, k, _ => k (.str x) h
  | .kon i, _, h, k, _ => stepK (X.konst i) fun v => k v h
  | .bin op a b, env, h, k, kx => ev a env h (fun x h => ev b env h (fun y h => stepK (bop op x y) fun v => k v h) kx) kx
  | .neg a, env, h, k, kx => ev a env h (fun x h => match x with | .int i => k (.int (-i)) h | _ => false) kx
  | .cmp op a b, env, h, k, kx => match op, b with
    | .isN, .non => ev a env h (fun x h => k (.bl (match x with | .non => true | _ => false)) h) kx
    | .notN, .non => ev a env h (fun x h => k (.bl (match x with | .non => false | _ => true)) h) kx
    | .isN, .bl c => ev a env h (fun x h => match x with | .bl d => k (.bl (d == c)) h | _ => false) kx
    | .notN, .bl c => ev a env h (fun x h => match x with | .bl d => k (.bl (!(d == c))) h | _ => false) kx
    | op, b => ev a env h (fun x h => ev b env h (fun y h => cmpV X sem op x y h k kx) kx) kx
  | .chain o1 o2 a b c, env, h, k, kx => ev a env h (fun x h => ev b env h (fun y h => stepK (cop o1 x y) fun r =>
      match r with
      | true => ev c env h (fun z h => stepK (cop o2 y z) fun v => k (.bl v) h) kx
      | false => k (.bl false) h) kx) kx
  | .andE a b, env, h, k, kx => ev a env h (fun x h => match x with | .bl true => ev b env h k kx | .bl false => k (.bl false) h | _ => false) kx
  | .orE a b, env, h, k, kx => ev a env h (fun x h => match x with | .bl true => k (.bl true) h | .bl false => ev b env h k kx | _ => false) kx
  | .one a, env, h, k, kx => ev a env h k kx
  | .notE a, env, h, k, kx => ev a env h (fun x h => match x with | .bl b => k (.bl (!b)) h | _ => false) kx
  | .ife c a b, env, h, k, kx => ev c env h (fun x h => match x with | .bl true => ev a env h k kx | .bl false => ev b env h k kx | _ => false) kx
  | .tup es, env, h, k, kx => evs es env h (fun xs h => if xs.length ≤ sizeLine then k (.tup xs) h else false) kx
  | .lst es, env, h, k, kx => evs es env h (fun xs h => if xs.length ≤ sizeLine then k (.lst xs) h else false) kx
  | .ix a b, env, h, k, kx => ev a env h (fun x h => ev b env h (fun y h => stepK (ixv x y) fun v => k v h) kx) kx
  | .slc a lo hi, env, h, k, kx => ev a env h (fun x h => evp lo env h (fun l h => evp hi env h (fun u h => stepK (slv x l u) fun v => k v h) kx) kx) kx
  | .ixo i b, env, h, k, kx => stepK (getV env i) fun x => ev b env h (fun y h => stepK (ixv x y) fun v => k v h) kx
  | .lenO i, env, h, k, _ => stepK (getV env i) fun x => stepK (blt .len [x]) fun v => k v h
  | .tupO i, env, h, k, _ => stepK (getV env i) fun x => stepK (blt .tuple [x]) fun v => k v h
  | .call f es, env, h, k, kx => evs es env h (fun xs h => sem f xs h k kx) kx
  | .new f es, env, h, k, kx => evs es env h (fun xs h => sem f xs h k kx) kx
  | .callK f es ks ns perm, env, h, k, kx => evs es env h (fun xs h => evs ks env h (fun ys h => if xs.length = es.len ∧ ys.length = ns.length then sem f (perm.map fun j => (xs ++ ys).getD j .non) h k kx else false) kx) kx
  | .blt b es, env, h, k, kx => evs es env h (fun xs h => stepK (blt b xs) fun v => k v h) kx
  | .mth m o es, env, h, k, kx => ev o env h (fun x h => match isRow x with | true => evs es env h (fun ys h => stepK (mth m x ys) fun v => k v h) kx | false => false) kx
  | .lc elt t it ifs, env, h, k, kx => evi it env h (fun xs h =>
      lcL (fun x h kt => stepK (asg t x (wipeE env (tvars t))) fun env' =>
        match ifs with
        | .no => ev elt env' h (fun v h => fV v fun v => kt (some v) h) noX
        | .some c => ev c env' h (fun b h => match b with
          | .bl true => ev elt env' h (fun v h => fV v fun v => kt (some v) h) noX
          | .bl false => kt none h
          | _ => false) noX) xs [] 0 h fun ys h => k (.lst ys) h) kx
  | .lc2 elt t it t2 it2 ifs, env, h, k, kx => evi it env h (fun xs h =>
      lcF (fun x acc h kt => stepK (asg t x (wipeE env (tvars t ++ tvars t2))) fun env' => evi it2 env' h (fun ys h =>
        lcL (fun y h kt => stepK (asg t2 y (wipeE env' (tvars t2))) fun env'' =>
          match ifs with
          | .no => ev elt env'' h (fun v h => fV v fun v => kt (some v) h) noX
          | .some c => ev c env'' h (fun b h => match b with
            | .bl true => ev elt env'' h (fun v h => fV v fun v => kt (some v) h) noX
            | .bl false => kt none h
            | _ => false) noX) ys acc acc.length h fun zs h => kt zs.reverse h) noX) xs [] h fun acc h => k (.lst acc.reverse) h) kx
  | .stup l pre a post, env, h, k, kx => evs pre env h (fun xs h => ev a env h (fun v h => rowK v fun ys => evs post env h (fun zs h => if (xs ++ (ys ++ zs)).length ≤ sizeLine then k (stv l (xs ++ (ys ++ zs))) h else false) kx) kx) kx
  | .sel ks vs i, env, h, k, kx => evs vs env h (fun xs h => ev i env h (fun y h => match y with
      | .str s => stepK ((ks.zip xs).lookup s) fun v => k v h
      | _ => false) kx) kx
  | .cget c a d, env, h, k, kx => ev a env h (fun x h => match x with
      | .str s => stepK (X.kdict c) fun kvs => k (.int ((kvs.lookup s).getD d)) h
      | _ => false) kx
  | .isi a t, env, h, k, kx => ev a env h (fun x h => stepK (isi x t) fun b => k (.bl b) h) kx
  | .lrg a b, env, h, k, kx => evp a env h (fun l h => evp b env h (fun u h =>
      match u with
      | some j => let i := l.getD 0; if rgOk i && rgOk j && decide ((j - i).toNat ≤ 2 ^ 24) then k (.lst (rgl i (j - i).toNat)) h else false
      | none => false) kx) kx
  | .attr e a, env, h, k, kx => ev e env h (fun v h => attrV X sem v a h k kx) kx
  | .meth e m es, env, h, k, kx => ev e env h (fun v h => evs es env h (fun xs h => methV X sem v m xs h k kx) kx) kx
  | .isiC e c, env, h, k, kx => ev e env h (fun v h => stepK (isiCV X v c h) fun b => k (.bl b) h) kx
  | .xfld i a, env, h, k, _ => match getV env i with
      | some (.exn c fs) => stepK (posOf a (X.cf c) 0) fun i => stepK fs[i]? fun u => k u h
      | _ => false
  | .xisi i c, env, h, k, _ => match getV env i with
      | some (.exn d _) => k (.bl (X.sub d c)) h
      | _ => false
def evs : Es → Env → Hs → KVs → KV → Bool
  | .nil, _, h, k, _ => k [] h
  | .cons e es, env, h, k, kx => ev e env h (fun v h => fV v fun v => evs es env h (fun vs h => k (v :: vs) h) kx) kx
def evp : P → Env → Hs → (Option Int → Hs → Bool) → KV → Bool
  | .no, _, h, k, _ => k none h
  | .some e, env, h, k, kx => ev e env h (fun x h => match x with | .int i => k (some i) h | _ => false) kx
def evi : I → Env → Hs → KVs → KV → Bool
  | .seq e, env, h, k, kx => ev e env h (fun x h => match x with | .lst xs => k xs h | .tup xs => k xs h | .str z => k (z.cps.toList.map fun c => .str ⟨#[c]⟩) h | _ => false) kx
  | .rng1 a, env, h, k, kx => ev a env h (fun x h => match x with | .int j => if rgOk j then k (rgl 0 j.toNat) h else false | _ => false) kx
  | .rng2 a b, env, h, k, kx => ev a env h (fun x h => ev b env h (fun y h => match x, y with
      | .int i, .int j => if rgOk i && rgOk j then k (rgl i (j - i).toNat) h else false
      | _, _ => false) kx) kx
  | .enm e, env, h, k, kx => ev e env h (fun x h => match x with | .lst xs => k (enumL 0 xs) h | .tup xs => k (enumL 0 xs) h | _ => false) kx
  | .zip a b, env, h, k, kx => ev a env h (fun x h => ev b env h (fun y h => match x, y with
      | .lst xs, .lst ys => k (zipL xs ys) h
      | .tup xs, .tup ys => k (zipL xs ys) h
      | _, _ => false) kx) kx
end

def evr : R → Env → Hs → (Val → Env → Hs → Bool) → KV → Bool
  | .e e, env, h, k, kx => ev X sem e env h (fun v h => k v env h) kx
  | .own e, env, h, k, kx => ev X sem e env h (fun v h => match v with | .lst xs => k (.mls xs) env h | _ => false) kx
  | .popAt i e, env, h, k, kx => match getV env i with
      | some (.mls xs) => ev X sem e env h (fun y h => match y with
        | .int j => match L2.ixN xs.length j with
          | some m => if -(2 ^ 63) ≤ j ∧ j < 2 ^ 63 then stepK xs[m]? fun v => k v (env.set i (some (.mls (xs.eraseIdx m)))) h else false
          | none => false
        | _ => false) kx
      | _ => false
  | .pop i, env, h, k, _ => match getV env i with
      | some (.mls xs) => stepK xs[xs.length - 1]? fun v => k v (env.set i (some (.mls xs.dropLast))) h
      | _ => false
/-- what is right of a row of names -/
def evrs : List R → Env → Hs → KVs → KV → Bool
  | [], _, h, k, _ => k [] h
  | r :: rs, env, h, k, kx => evr X sem r env h (fun v _ h => evrs rs env h (fun vs h => k (v :: vs) h) kx) kx

/-- where a statement goes on -/
structure C where
  nx : Env → Hs → Bool
  rt : Env → KV
  bk : Env → Hs → Bool := fun _ _ => false
  ct : Env → Hs → Bool := fun _ _ => false
  kx : Env → KV := fun _ => noX
def forL (body : Val → Env → Hs → C → Bool) : List Val → Env → Hs → C → Bool
  | [], env, h, c => c.nx env h
  | x :: xs, env, h, c => body x env h { c with nx := fun env h => forL body xs env h c, ct := fun env h => forL body xs env h c, bk := c.nx }
def whlL (test : Env → Hs → KB → KV → Bool) (body : Env → Hs → C → Bool) : Nat → Env → Hs → C → Bool
  | 0, _, _, _ => false
  | n + 1, env, h, c => test env h (fun b h => match b with
      | true => body env h { c with nx := fun env h => whlL test body n env h c, ct := fun env h => whlL test body n env h c, bk := c.nx }
      | false => c.nx env h) (c.kx env)
/-- a name is stored: data, or an owned list -/
def put (i : Nat) (v : Val) (env : Env) (h : Hs) (k : Env → Hs → Bool) : Bool := if i < env.length then fV v fun v => k (env.set i (some v)) h else false
def putAll : List Nat → List Val → Env → Hs → (Env → Hs → Bool) → Bool
  | [], [], env, h, k => k env h
  | i :: is, v :: vs, env, h, k => put i v env h fun env h => putAll is vs env h k
  | _, _, _, _, _ => false
/-- an attribute of an object that is being made -/
def newA (X : Txt) (cl a : Nat) (as : List Nat) (v : Val) : Bool := isData v && (match X.of cl with | some os => os.any (Nat.beq a) | none => false) && !as.any (Nat.beq a) && decide (as.length < 900)
def putA (X : Txt) (i a : Nat) (v : Val) (env : Env) (h : Hs) (k : Env → Hs → Bool) : Bool := match getV env i with
  | some (.mob cl as fs) => match newA X cl a as v with
    | true => fV v fun v => k (env.set i (some (.mob cl (as ++ [a]) (fs ++ [v])))) h
    | false => false
  | _ => false
def putAs (X : Txt) (i : Nat) : List Nat → List Val → Env → Hs → (Env → Hs → Bool) → Bool
  | [], [], env, h, k => k env h
  | a :: as, v :: vs, env, h, k => putA X i a v env h fun env h => putAs X i as vs env h k
  | _, _, _, _, _ => false
mutual
def ex : S → Env → Hs → C → Bool
  | .expr r, env, h, c => evr X sem r env h (fun _ env h => c.nx env h) (c.kx env)
  | .ret r, env, h, c => evr X sem r env h (fun v env h => c.rt env v h) (c.kx env)
  | .retN, env, h, c => c.rt env .non h
  | .set (.name i) r, env, h, c => evr X sem r env h (fun v env h => put i v env h c.nx) (c.kx env)
  | .set t r, env, h, c => evr X sem r env h (fun v env h => stepK (asg t v env) fun env => c.nx env h) (c.kx env)
  | .par is rs, env, h, c => evrs X sem rs env h (fun vs h => putAll is vs env h c.nx) (c.kx env)
  | .append i r, env, h, c => match getV env i with
      | some (.mls _) => evr X sem r env h (fun v env h => match isData v with
        | true => match getV env i with
          | some (.mls xs) => if xs.length < sizeLine then fV v fun v => c.nx (env.set i (some (.mls (xs ++ [v])))) h else false
          | _ => false
        | false => false) (c.kx env)
      | _ => false
  | .insert i a b, env, h, c => match getV env i with
      | some (.mls xs) => ev X sem a env h (fun y h => match y with
        | .int k => ev X sem b env h (fun v h => if xs.length < sizeLine ∧ 0 ≤ k ∧ k < 2 ^ 63 then fV v fun v => c.nx (env.set i (some (.mls (xs.take k.toNat ++ [v] ++ xs.drop k.toNat)))) h else false) (c.kx env)
        | _ => false) (c.kx env)
      | _ => false
  | .extend i e, env, h, c => match getV env i with
      | some (.mls xs) => ev X sem e env h (fun y h => match y with
        | .lst ys => if xs.length + ys.length ≤ sizeLine then c.nx (env.set i (some (.mls (xs ++ ys)))) h else false
        | _ => false) (c.kx env)
      | _ => false
  | .setIx i e r, env, h, c => match getM env i with
      | some (w, xs) => ev X sem r env h (fun v h => ev X sem e env h (fun y h => match y with
        | .int k => match L2.ixN xs.length k with
          | some j => fV v fun v => c.nx (env.set i (some (mlPut w (xs.set j v)))) h
          | none => false
        | _ => false) (c.kx env)) (c.kx env)
      | _ => false
  | .setDm i e j a b, env, h, c => match getM env i with
      | some (w, xs) => ev X sem a env h (fun x h => ev X sem b env h (fun y h => match x with
        | .int p => match y with
          | .int q => if 0 < q ∧ q < 1073741824 then ev X sem e env h (fun z h => match z with
            | .int k => match L2.ixN xs.length k with
              | some t => fInt (p / q) fun v => put j (.int (p % q)) (env.set i (some (mlPut w (xs.set t (.int v))))) h c.nx
              | none => false
            | _ => false) (c.kx env) else false
          | _ => false
        | _ => false) (c.kx env)) (c.kx env)
      | _ => false
  | .ifS t a b, env, h, c => ev X sem t env h (fun x h => match x with | .bl true => exs a env h c | .bl false => exs b env h c | _ => false) (c.kx env)
  | .forS t it b, env, h, c => evi X sem it env h (fun xs h => forL (fun x env h c => stepK (asg t x env) fun env => exs b env h c) xs env h c) (c.kx env)
  | .whl n t b, env, h, c => whlL (fun env h k kx => ev X sem t env h (fun x h => match x with | .bl b => k b h | _ => false) kx) (fun env h c => exs b env h c) n env h c
  | .brk, env, h, c => c.bk env h
  | .cont, env, h, c => c.ct env h
  | .pass, env, h, c => c.nx env h
  | .never, _, _, _ => false
  | .raise c es, env, h, cc => evs X sem es env h (fun vs h => if vs.length = (X.cf c).length then cc.kx env (.obj c vs) h else false) (cc.kx env)
  | .tryS b hs, env, h, c => exs b env h { c with kx := fun env v h => exh hs v env h c }
  | .setA i a e, env, h, c => ev X sem e env h (fun v h => putA X i a v env h c.nx) (c.kx env)
  | .parA i as es, env, h, c => evs X sem es env h (fun vs h => putAs X i as vs env h c.nx) (c.kx env)
  | .setF o a e, env, h, c => ev X sem e env h (fun v h => ev X sem o env h (fun y h => match y with
      | .ref n => match h[n]? with
        | some (.ins cl fs) => stepK (posOf a (X.cf cl) 0) fun j => fV v fun v => c.nx env (h.set n (.ins cl (fs.set j v)))
        | none => false
      | _ => false) (c.kx env)) (c.kx env)
def exs : Ss → Env → Hs → C → Bool
  | .nil, env, h, c => c.nx env h
  | .cons s ss, env, h, c => ex s env h { c with nx := fun env h => exs ss env h c }
  | .frz i ss, env, h, c => match getV env i with
      | some (.mls xs) => exs ss (env.set i (some (.lst xs))) h c
      | _ => exs ss env h c
def exh : Hn → Val → Env → Hs → C → Bool
  | .nil, v, env, h, c => c.kx env v h
  | .cons cs nm b r, v, env, h, c => match v with
    | .obj d fs => match cs.any (X.sub d) with
      | true => match nm with
        | none => exs b env h { c with kx := fun _ => noX }
        | some i => exs b (env.set i (some (.exn d fs))) h { nx := fun env h => c.nx (env.set i none) h, rt := c.rt, bk := fun env h => c.bk (env.set i none) h, ct := fun env h => c.ct (env.set i none) h }
      | false => exh r v env h c
    | _ => false
end
end

/-- a def: how many parameters, how many names, the body -/
structure Def where
  pars : Nat
  names : Nat
  body : Ss
/-- a primitive of a law: a cup is made; a number is drawn from a cup -/
inductive Fn where
  | body (d : Def)
  | mkcup | draw
  /-- an object is made: its class, its __init__ -/
  | init (c : Nat) (d : Def)
  /-- what is known of a def: its answers, one of them comes -/
  | spec (g : List Val → Option (List Val))
def allBelow : Nat → (Nat → Bool) → Bool
  | 0, _ => true
  | n + 1, f => f n && allBelow n f
def runDef (X : Txt) (sem : Sem) (d : Def) (args : List Val) (h : Hs) (k kx : KV) : Bool :=
  if args.length = d.pars then
    exs X sem d.body (args.map some ++ List.replicate (d.names - d.pars) none) h { nx := fun _ h => k .non h, rt := fun _ v h => match isData v with | true => k v h | false => false, kx := fun _ => kx }
  else false
def runInit (X : Txt) (sem : Sem) (c : Nat) (d : Def) (args : List Val) (h : Hs) (k kx : KV) : Bool :=
  if args.length + 1 = d.pars then
    let fin : Env → Hs → Bool := fun env h => match getV env 0 with
      | some (.mob c' as fs) => if c' = c ∧ X.of c = some as then k (.obj c fs) h else false
      | _ => false
    exs X sem d.body (some (.mob c [] []) :: args.map some ++ List.replicate (d.names - d.pars) none) h { nx := fin, rt := fun _ _ _ => false, kx := fun _ => kx }
  else false
/-- calls up to a depth -/
def sem (X : Txt) (F : Nat → Option Fn) : Nat → Sem
  | 0, _, _, _, _, _ => false
  | n + 1, f, args, h, k, kx => match F f with
    | some (.body d) => runDef X (sem X F n) d args h k kx
    | some (.init c d) => runInit X (sem X F n) c d args h k kx
    | some .mkcup => match args with
      | [.scr _, .int i] => decide (0 ≤ i) && h.isEmpty && k .cup h
      | _ => false
    | some .draw => match args with
      | [.cup, .int m] => decide (0 < m) && decide (m < 1073741824) && h.isEmpty && allBelow m.toNat fun r => k (.int (r : Nat)) h
      | _ => false
    | some (.spec g) => match g args with
      | some vs => h.isEmpty && vs.all fun v => k v h
      | none => false
    | none => false
end EV
namespace EV
open PySem PySem.Spec PyProof.Rows L2

/-- what is known of an address that changes: a cup, a cell -/
inductive Um where
  | cup | cell (n : Nat)
/-- the ghost state: what is frozen, what changes, the classes with their attributes -/
structure Gs where
  F : Hp
  U : Addr → Option Um
  cl : Nat → Option (Addr × List Str)
  an : Nat → Str
  xc : Option (Addr × Value × Option Addr)
/-- a tuple without a dict of its own -/
def SqD (K : PySem.W.Frag) (F : Hp) (a : Addr) (vs : List L2.V) : Prop := (∃ o, F a = some (.frz o (.tup vs)) ∧ o.dict = none) ∨
  ∃ (o : Obj) (its : Array Value) (n : Nat), K.lookup a = some o ∧ o.cls = .type "tuple" ∧ o.dict = none ∧ o.data = .seq its n ∧ its.size ≤ sizeLine ∧ Vals vs its.toList
theorem SqD.sqT {K : PySem.W.Frag} {F : Hp} {a : Addr} {vs : List L2.V} (s : SqD K F a vs) : SqT K F a vs := by
  rcases s with ⟨o, e, _⟩ | ⟨o, its, n, h1, h2, _, h3, h4, h5⟩
  · exact .inl (.inr ⟨o, e⟩)
  · exact .inr ⟨o, its, n, h1, h2, h3, h4, h5⟩
theorem SqD.mono {K : PySem.W.Frag} {H H' : Hp} {a : Addr} {xs : List L2.V} (h : ∀ a o, H a = some o → H' a = some o) (s : SqD K H a xs) : SqD K H' a xs := by
  rcases s with ⟨o, e, d⟩ | z
  · exact .inl ⟨o, h _ _ e, d⟩
  · exact .inr z
mutual
inductive VR (K : PySem.W.Frag) (g : Gs) : Val → L2.V → Prop where
  | non : VR K g .non .non
  | bl (b : Bool) : VR K g (.bl b) (.bl b)
  | int (i : Int) : VR K g (.int i) (.int i)
  | str (x : Str) : VR K g (.str x) (.str x)
  | tup {a : Addr} {xs : List Val} {vs : List L2.V} : SqD K g.F a vs → VRs K g xs vs → VR K g (.tup xs) (.ref a)
  | tupk {a : Addr} {xs : List Val} {vs : List L2.V} : SqT K g.F a vs → VRs K g xs vs → VR K g (.tupk xs) (.ref a)
  | lst {a : Addr} {xs : List Val} {vs : List L2.V} : g.F a = some (.lst vs) → VRs K g xs vs → VR K g (.lst xs) (.ref a)
  | scr {a : Addr} {n : Nat} {vs : List Int} : SqL K g.F a (vs.map L2.V.int) → vs.length = n → VR K g (.scr n) (.ref a)
  | scl {a : Addr} {vs : List Int} : SqL K g.F a (vs.map L2.V.int) → VR K g (.scl vs) (.ref a)
  | cup {a : Addr} : g.U a = some .cup → VR K g .cup (.ref a)
  | ref {a : Addr} {n : Nat} : g.U a = some (.cell n) → VR K g (.ref n) (.ref a)
  | obj {a C dx : Addr} {c : Nat} {ns : List Str} {fs : List Val} {vs : List L2.V} : g.cl c = some (C, ns) → g.F a = some (.ins C dx (ns.zip vs)) → ns.length = vs.length → VRs K g fs vs → VR K g (.obj c fs) (.ref a)
inductive VRs (K : PySem.W.Frag) (g : Gs) : List Val → List L2.V → Prop where
  | nil : VRs K g [] []
  | cons {x : Val} {v : L2.V} {xs : List Val} {vs : List L2.V} : VR K g x v → VRs K g xs vs → VRs K g (x :: xs) (v :: vs)
end

structure Dat where
  P : Program
  w : World
  K : PySem.W.Frag
  mg : Str → Option Value
  base : Heap
  CP : List L2.V → Prop
  X : Txt
  cl : Nat → Option (Addr × List Str)
  an : Nat → Str
/-- an exception, as a value, by its class and its own dict -/
def XR (K : PySem.W.Frag) (g : Gs) (H : Hp) (v : Val) (cls : Value) (d : Option Addr) : Prop :=
  ∃ c fs C ns, v = .obj c fs ∧ g.cl c = some (C, ns) ∧ cls = .ref C ∧ ((fs = [] ∧ ns = [] ∧ d = none) ∨ ∃ a vs, d = some a ∧ H a = some (.xd (ns.zip vs)) ∧ ns.length = vs.length ∧ VRs K g fs vs)

/-- a step: what was frozen stays, what changes goes on, all else that was tracked stays -/
structure Ex (g : Gs) (H : Hp) (g' : Gs) (H' : Hp) : Prop where
  ff : ∀ a o, g.F a = some o → g'.F a = some o
  uu : ∀ a u, g.U a = some u → g'.U a = some u
  cl : g'.cl = g.cl ∧ g'.an = g.an ∧ g'.xc = g.xc
  hh : ∀ a o, H a = some o → g.U a = none → H' a = some o
  th : ∀ a, H a ≠ none → H' a ≠ none
  nw : ∀ a, g'.F a ≠ none → g.F a ≠ none ∨ H a = none
  nu : ∀ a u, g'.U a = some u → g.U a = some u ∨ H a = none
structure GOk (D : Dat) (g : Gs) (h : Hs) (H : Hp) : Prop where
  fh : ∀ a o, g.F a = some o → H a = some o
  cup : ∀ a, g.U a = some .cup → g.F a = none ∧ ∃ vs, D.CP vs ∧ H a = some (.lst vs)
  cell : ∀ a n, g.U a = some (.cell n) → g.F a = none ∧ ∃ c fs C ns dx vs, h[n]? = some (.ins c fs) ∧ g.cl c = some (C, ns) ∧ H a = some (.ins C dx (ns.zip vs)) ∧ ns.length = vs.length ∧ VRs D.K g fs vs
  inj : ∀ a b n, g.U a = some (.cell n) → g.U b = some (.cell n) → a = b
  all : ∀ n, n < h.length → ∃ a, g.U a = some (.cell n)
  cl : g.cl = D.cl ∧ g.an = D.an

theorem Ex.refl (g : Gs) (H : Hp) : Ex g H g H := ⟨fun _ _ e => e, fun _ _ e => e, ⟨rfl, rfl, rfl⟩, fun _ _ e _ => e, fun _ e => e, fun _ e => .inl e, fun _ _ e => .inl e⟩
theorem Ex.trans {g g1 g2 : Gs} {H H1 H2 : Hp} (a : Ex g H g1 H1) (b : Ex g1 H1 g2 H2) : Ex g H g2 H2 where
  ff := fun x o e => b.ff x o (a.ff x o e)
  uu := fun x u e => b.uu x u (a.uu x u e)
  cl := ⟨b.cl.1.trans a.cl.1, b.cl.2.1.trans a.cl.2.1, b.cl.2.2.trans a.cl.2.2⟩
  hh := fun x o e n => by
    refine b.hh x o (a.hh x o e n) ?_
    cases q : g1.U x with
    | none => rfl
    | some u =>
      rcases a.nu x u q with z | z
      · rw [n] at z; cases z
      · rw [e] at z; cases z
  th := fun x e => b.th x (a.th x e)
  nw := fun x e => by
    rcases b.nw x e with z | z
    · exact a.nw x z
    · refine .inr ?_
      cases q : H x with
      | none => rfl
      | some o => exact absurd z (a.th x (by rw [q]; simp))
  nu := fun x u e => by
    rcases b.nu x u e with z | z
    · exact a.nu x u z
    · refine .inr ?_
      cases q : H x with
      | none => rfl
      | some o => exact absurd z (a.th x (by rw [q]; simp))

theorem SqT.mono {K : PySem.W.Frag} {H H' : Hp} {a : Addr} {xs : List L2.V} (h : ∀ a o, H a = some o → H' a = some o) (s : SqT K H a xs) : SqT K H' a xs := by
  rcases s with (z | ⟨o, z⟩) | z
  · exact .inl (.inl (h _ _ z))
  · exact .inl (.inr ⟨o, h _ _ z⟩)
  · exact .inr z
theorem SqL.mono {K : PySem.W.Frag} {H H' : Hp} {a : Addr} {xs : List L2.V} (h : ∀ a o, H a = some o → H' a = some o) (s : SqL K H a xs) : SqL K H' a xs := by
  rcases s with (z | ⟨o, z⟩) | z
  · exact .inl (.inl (h _ _ z))
  · exact .inl (.inr ⟨o, h _ _ z⟩)
  · exact .inr z
mutual
theorem VR.mono {K : PySem.W.Frag} {g g' : Gs} (ff : ∀ a o, g.F a = some o → g'.F a = some o) (uu : ∀ a u, g.U a = some u → g'.U a = some u) (cl : g'.cl = g.cl) : ∀ {v : Val} {x : L2.V}, VR K g v x → VR K g' v x
  | _, _, .non => .non
  | _, _, .bl b => .bl b
  | _, _, .int i => .int i
  | _, _, .str x => .str x
  | _, _, .tup s r => .tup (SqD.mono ff s) (VRs.mono ff uu cl r)
  | _, _, .tupk s r => .tupk (SqT.mono ff s) (VRs.mono ff uu cl r)
  | _, _, .lst s r => .lst (ff _ _ s) (VRs.mono ff uu cl r)
  | _, _, .scr s r => .scr (SqL.mono ff s) r
  | _, _, .scl s => .scl (SqL.mono ff s)
  | _, _, .cup c => .cup (uu _ _ c)
  | _, _, .ref c => .ref (uu _ _ c)
  | _, _, .obj c s l r => .obj (by rw [cl]; exact c) (ff _ _ s) l (VRs.mono ff uu cl r)
theorem VRs.mono {K : PySem.W.Frag} {g g' : Gs} (ff : ∀ a o, g.F a = some o → g'.F a = some o) (uu : ∀ a u, g.U a = some u → g'.U a = some u) (cl : g'.cl = g.cl) : ∀ {v : List Val} {x : List L2.V}, VRs K g v x → VRs K g' v x
  | _, _, .nil => .nil
  | _, _, .cons a r => .cons (VR.mono ff uu cl a) (VRs.mono ff uu cl r)
end
section
variable {K : PySem.W.Frag} {g g' : Gs} {H H' : Hp}
theorem Ex.vr (x : Ex g H g' H') {v : Val} {y : L2.V} (r : VR K g v y) : VR K g' v y := r.mono x.ff x.uu x.cl.1
theorem Ex.vrs (x : Ex g H g' H') {v : List Val} {y : List L2.V} (r : VRs K g v y) : VRs K g' v y := r.mono x.ff x.uu x.cl.1
theorem VRs.length : ∀ {xs : List Val} {vs : List L2.V}, VRs K g xs vs → xs.length = vs.length
  | _, _, .nil => rfl
  | _, _, .cons _ r => by simp [VRs.length r]
theorem VRs.get : ∀ {xs : List Val} {vs : List L2.V} {i : Nat} {x : Val}, VRs K g xs vs → xs[i]? = some x → ∃ v, vs[i]? = some v ∧ VR K g x v
  | _, _, _, _, .nil, e => by simp at e
  | _, _, 0, _, .cons r _, e => by simp at e; subst e; exact ⟨_, rfl, r⟩
  | _, _, i + 1, x, .cons _ t, e => by
    obtain ⟨u, h1, h2⟩ := VRs.get (i := i) (x := x) t (by simpa using e)
    exact ⟨u, by simpa using h1, h2⟩
theorem VRs.append : ∀ {xs ys : List Val} {vs ws : List L2.V}, VRs K g xs vs → VRs K g ys ws → VRs K g (xs ++ ys) (vs ++ ws)
  | _, _, _, _, .nil, s => s
  | _, _, _, _, .cons r t, s => .cons r (VRs.append t s)
theorem VRs.set {x : Val} {v : L2.V} (r : VR K g x v) : ∀ {xs : List Val} {vs : List L2.V} (i : Nat), VRs K g xs vs → VRs K g (xs.set i x) (vs.set i v)
  | _, _, _, .nil => .nil
  | _, _, 0, .cons _ t => .cons r t
  | _, _, i + 1, .cons q t => .cons q (VRs.set r i t)
theorem VRs.take : ∀ {xs : List Val} {vs : List L2.V} (n : Nat), VRs K g xs vs → VRs K g (xs.take n) (vs.take n)
  | _, _, 0, _ => .nil
  | _, _, _ + 1, .nil => .nil
  | _, _, n + 1, .cons r t => .cons r (VRs.take n t)
theorem VRs.drop : ∀ {xs : List Val} {vs : List L2.V} (n : Nat), VRs K g xs vs → VRs K g (xs.drop n) (vs.drop n)
  | _, _, 0, r => r
  | _, _, _ + 1, .nil => .nil
  | _, _, n + 1, .cons _ t => VRs.drop n t
theorem VRs.eraseIdx : ∀ {xs : List Val} {vs : List L2.V} (i : Nat), VRs K g xs vs → VRs K g (xs.eraseIdx i) (vs.eraseIdx i)
  | _, _, _, .nil => .nil
  | _, _, 0, .cons _ t => t
  | _, _, i + 1, .cons q t => .cons q (VRs.eraseIdx i t)
theorem VRs.rep {xs : List Val} {vs : List L2.V} (r : VRs K g xs vs) : ∀ n : Nat, VRs K g (List.replicate n xs).flatten (List.replicate n vs).flatten
  | 0 => .nil
  | n + 1 => by simpa [List.replicate_succ] using VRs.append r (VRs.rep r n)
theorem VRs.ints : ∀ (ns : List Int), VRs K g (ns.map .int) (ns.map L2.V.int)
  | [] => .nil
  | n :: r => .cons (.int n) (VRs.ints r)
theorem VRs.intsOf : ∀ {xs : List Val} {vs : List L2.V} {ns : List Int}, VRs K g xs vs → intsOf xs = some ns → vs = ns.map L2.V.int
  | _, _, ns, .nil, e => by simp [EV.intsOf] at e; subst e; rfl
  | _, _, ns, .cons r t, e => by
    cases r with
    | int i =>
      simp only [EV.intsOf] at e
      cases q : EV.intsOf _ with
      | none => rw [q] at e; simp at e
      | some ms =>
        rw [q] at e
        simp at e
        subst e
        rw [VRs.intsOf t q]; rfl
    | _ => simp [EV.intsOf] at e
theorem VRs.blsOf : ∀ {xs : List Val} {vs : List L2.V} {ns : List Bool}, VRs K g xs vs → blsOf xs = some ns → vs = ns.map L2.V.bl
  | _, _, ns, .nil, e => by simp [EV.blsOf] at e; subst e; rfl
  | _, _, ns, .cons r t, e => by
    cases r with
    | bl i =>
      simp only [EV.blsOf] at e
      cases q : EV.blsOf _ with
      | none => rw [q] at e; simp at e
      | some ms =>
        rw [q] at e
        simp at e
        subst e
        rw [VRs.blsOf t q]; rfl
    | _ => simp [EV.blsOf] at e
/-- data as the library's data -/
theorem sqlH (fh : ∀ a o, g.F a = some o → H a = some o) {a : Addr} {vs : List L2.V} (s : SqL K g.F a vs) : SqL K H a vs := SqL.mono fh s
theorem sqtH (fh : ∀ a o, g.F a = some o → H a = some o) {a : Addr} {vs : List L2.V} (s : SqT K g.F a vs) : SqT K H a vs := SqT.mono fh s
mutual
theorem VR.dp (fh : ∀ a o, g.F a = some o → H a = some o) : ∀ {v : Val} {x : L2.V} {d : PyData}, VR K g v x → toD v = some d → Dp K H x d
  | _, _, _, .non, e => by simp [toD] at e; subst e; exact .non
  | _, _, _, .bl b, e => by simp [toD] at e; subst e; exact .bl b
  | _, _, _, .int b, e => by simp [toD] at e; subst e; exact .int b
  | _, _, _, .str b, e => by simp [toD] at e; subst e; exact .str b
  | .tup xs, _, d, .tup s r, e => by
    cases q : toDs xs with
    | none => rw [toD, q] at e; cases e
    | some ds => rw [toD, q] at e; cases e; exact .tup (sqtH fh s.sqT) (VRs.dp fh r q)
  | .tupk xs, _, d, .tupk s r, e => by
    cases q : toDs xs with
    | none => rw [toD, q] at e; cases e
    | some ds => rw [toD, q] at e; cases e; exact .tup (sqtH fh s) (VRs.dp fh r q)
  | .lst xs, _, d, .lst s r, e => by
    cases q : toDs xs with
    | none => rw [toD, q] at e; cases e
    | some ds => rw [toD, q] at e; cases e; exact .lst (SqL.of (fh _ _ s)) (VRs.dp fh r q)
  | _, _, _, .cup _, e => by simp [toD] at e
  | _, _, _, .scr _ _, e => by simp [toD] at e
  | _, _, _, .scl _, e => by simp [toD] at e
  | _, _, _, .ref _, e => by simp [toD] at e
  | _, _, _, .obj _ _ _ _, e => by simp [toD] at e
theorem VRs.dp (fh : ∀ a o, g.F a = some o → H a = some o) : ∀ {xs : List Val} {vs : List L2.V} {ds : List PyData}, VRs K g xs vs → toDs xs = some ds → DpAll K H vs ds
  | _, _, _, .nil, e => by simp [toDs] at e; subst e; exact .nil
  | x :: xs, _, _, .cons r t, e => by
    cases q : toD x with
    | none => rw [toDs, q] at e; cases e
    | some d =>
      cases q2 : toDs xs with
      | none => rw [toDs, q, q2] at e; cases e
      | some ds => rw [toDs, q, q2] at e; cases e; exact .cons (VR.dp fh r q) (VRs.dp fh t q2)
end
end

/-- what a name holds: data, or what is owned: a list, an object that is being made, the error that was caught -/
def SR (K : PySem.W.Frag) (g : Gs) (H : Hp) (ow : Option Addr) (v : Val) (x : L2.V) : Prop :=
  match v with
  | .mls xs => ∃ a vs, ow = some a ∧ x = .ref a ∧ H a = some (.lst vs) ∧ VRs K g xs vs ∧ g.F a = none ∧ g.U a = none
  | .mcp xs => ∃ a vs, ow = some a ∧ x = .ref a ∧ H a = some (.lst vs) ∧ VRs K g xs vs ∧ g.F a = none ∧ g.U a = none ∧ g.xc = some (a, .none, none)
  | .mob c as fs => ∃ a C dx ns vs, ow = some a ∧ x = .ref a ∧ g.cl c = some (C, ns) ∧ H a = some (.ins C dx ((as.map g.an).zip vs)) ∧ as.length = vs.length ∧ VRs K g fs vs ∧ g.F a = none ∧ g.U a = none ∧ g.xc = some (a, .none, none)
  | .mdc _ _ => False
  | .exn c fs => ∃ a C d ns, g.xc = some (a, .ref C, d) ∧ x = .ref a ∧ g.cl c = some (C, ns) ∧ ((fs = [] ∧ ns = [] ∧ d = none) ∨ ∃ dd vs, d = some dd ∧ H dd = some (.xd (ns.zip vs)) ∧ g.U dd = none ∧ ns.length = vs.length ∧ VRs K g fs vs)
  | v => VR K g v x
structure EnvR (K : PySem.W.Frag) (g : Gs) (H : Hp) (P : Addr → Prop) (env : Env) (σ : L2.St) : Prop where
  len : env.length = σ.length
  ow : ∃ ow : Nat → Option Addr, (∀ i j a, ow i = some a → ow j = some a → i = j) ∧ (∀ i a, ow i = some a → P a) ∧
    ∀ i v, env[i]? = some (some v) → ∃ x, σ[i]? = some (some x) ∧ SR K g H (ow i) v x
section
variable {K : PySem.W.Frag} {g g' : Gs} {H H' : Hp} {P : Addr → Prop} {env : Env} {σ : L2.St}
theorem SR.of {o : Option Addr} {v : Val} {x : L2.V} (r : VR K g v x) : SR K g H o v x := by
  cases r <;> unfold SR <;> first | exact .non | exact .bl _ | exact .int _ | exact .str _ | (rename_i a b; exact .tup a b) | (rename_i a b; exact .tupk a b) | (rename_i a b; exact .lst a b) | (rename_i a b; exact .scr a b) | (rename_i a; exact .scl a) | (rename_i a; exact .cup a) | (rename_i a; exact .ref a) | (rename_i a b c d; exact .obj a b c d)
theorem VR.isD {v : Val} {x : L2.V} (r : VR K g v x) : isData v = true := by cases r <;> rfl
theorem SR.data {o : Option Addr} {v : Val} {x : L2.V} (r : SR K g H o v x) (n : isData v = true) : VR K g v x := by
  cases v <;> first | exact r | (simp [isData] at n)
/-- what is tracked, not frozen and no cell stays so -/
theorem Ex.loose (e : Ex g H g' H') {a : Addr} {o : HO} (h3 : H a = some o) (h5 : g.F a = none) (h6 : g.U a = none) : g'.F a = none ∧ g'.U a = none := by
  constructor
  · cases q : g'.F a with
    | none => rfl
    | some u =>
      rcases e.nw a (by rw [q]; simp) with z | z
      · exact absurd h5 z
      · rw [h3] at z; cases z
  · cases q : g'.U a with
    | none => rfl
    | some u =>
      rcases e.nu a u q with z | z
      · rw [h6] at z; cases z
      · rw [h3] at z; cases z
theorem SR.ext {o : Option Addr} {v : Val} {x : L2.V} (e : Ex g H g' H') (r : SR K g H o v x) : SR K g' H' o v x := by
  cases v with
  | mls xs =>
    obtain ⟨a, vs, h1, h2, h3, h4, h5, h6⟩ := r
    obtain ⟨e1, e2⟩ := e.loose h3 h5 h6
    exact ⟨a, vs, h1, h2, e.hh _ _ h3 h6, e.vrs h4, e1, e2⟩
  | mcp xs =>
    obtain ⟨a, vs, h1, h2, h3, h4, h5, h6, h7⟩ := r
    obtain ⟨e1, e2⟩ := e.loose h3 h5 h6
    exact ⟨a, vs, h1, h2, e.hh _ _ h3 h6, e.vrs h4, e1, e2, by rw [e.cl.2.2]; exact h7⟩
  | mob c as fs =>
    obtain ⟨a, C, dx, ns, vs, h1, h2, h3, h4, h5, h6, h7, h8, h9⟩ := r
    obtain ⟨e1, e2⟩ := e.loose h4 h7 h8
    exact ⟨a, C, dx, ns, vs, h1, h2, by rw [e.cl.1]; exact h3, by rw [e.cl.2.1]; exact e.hh _ _ h4 h8, h5, e.vrs h6, e1, e2, by rw [e.cl.2.2]; exact h9⟩
  | mdc _ _ => exact r.elim
  | exn c fs =>
    obtain ⟨a, C, d, ns, h1, h2, h3, h4⟩ := r
    refine ⟨a, C, d, ns, by rw [e.cl.2.2]; exact h1, h2, by rw [e.cl.1]; exact h3, ?_⟩
    rcases h4 with z | ⟨dd, vs, z1, z2, z3, z4, z5⟩
    · exact .inl z
    · refine .inr ⟨dd, vs, z1, e.hh _ _ z2 z3, ?_, z4, e.vrs z5⟩
      cases q : g'.U dd with
      | none => rfl
      | some u =>
        rcases e.nu dd u q with y | y
        · rw [z3] at y; cases y
        · rw [z2] at y; cases y
  | _ => exact e.vr r
theorem EnvR.ext (e : Ex g H g' H') (r : EnvR K g H P env σ) : EnvR K g' H' P env σ := by
  obtain ⟨l, ow, h1, h2, h3⟩ := r
  exact ⟨l, ow, h1, h2, fun i v q => let ⟨x, a, b⟩ := h3 i v q; ⟨x, a, b.ext e⟩⟩
theorem getV_some {i : Nat} {v : Val} (e : getV env i = some v) : env[i]? = some (some v) := by
  unfold getV at e
  split at e
  · rename_i h; rw [h]; cases e; rfl
  · cases e
theorem getD_some {i : Nat} {v : Val} (e : EV.getD env i = some v) : env[i]? = some (some v) ∧ isData v = true := by
  unfold EV.getD at e
  split at e
  · rename_i u h
    split at e
    · cases e
      exact ⟨getV_some h, by assumption⟩
    · cases e
  · cases e
theorem EnvR.data (r : EnvR K g H P env σ) {i : Nat} {v : Val} (e : EV.getD env i = some v) : ∃ x, σ[i]? = some (some x) ∧ VR K g v x := by
  obtain ⟨h1, h2⟩ := getD_some e
  obtain ⟨l, ow, _, _, h3⟩ := r
  obtain ⟨x, a, b⟩ := h3 i v h1
  exact ⟨x, a, b.data h2⟩
/-- an owned list is read -/
theorem EnvR.own (r : EnvR K g H P env σ) {i : Nat} {xs : List Val} (e : getV env i = some (.mls xs)) : ∃ a vs, σ[i]? = some (some (.ref a)) ∧ H a = some (.lst vs) ∧ VRs K g xs vs := by
  obtain ⟨l, ow, _, _, h3⟩ := r
  obtain ⟨x, a, b⟩ := h3 i _ (getV_some e)
  obtain ⟨p, vs, _, h2, h3, h4, _, _⟩ := b
  subst h2
  exact ⟨p, vs, a, h3, h4⟩
end

theorem GOk.fresh {D : Dat} {g : Gs} {h : Hs} {H : Hp} {p : Addr} (ok : GOk D g h H) (hp : H p = none) : g.F p = none ∧ g.U p = none := by
  constructor
  · cases q : g.F p with
    | none => rfl
    | some u => have := ok.fh p u q; rw [hp] at this; cases this
  · cases q : g.U p with
    | none => rfl
    | some u =>
      cases u with
      | cup => obtain ⟨_, vs, _, e⟩ := ok.cup p q; rw [hp] at e; cases e
      | cell n => obtain ⟨_, _, _, _, _, _, _, _, _, e, _⟩ := ok.cell p n q; rw [hp] at e; cases e
/-- the cells of a heap that keeps them, a ghost state that knows more frozen things -/
theorem GOk.more {D : Dat} {g : Gs} {h : Hs} {H H' : Hp} {F' : Hp} (ok : GOk D g h H) (hf : ∀ a o, g.F a = some o → F' a = some o) (hu : ∀ a, g.U a ≠ none → F' a = none ∧ H' a = H a) (fh : ∀ a o, F' a = some o → H' a = some o) :
    GOk D { g with F := F' } h H' where
  fh := fh
  cup := fun a c => by
    obtain ⟨h1, vs, h2, h3⟩ := ok.cup a c
    obtain ⟨e1, e2⟩ := hu a (by rw [c]; simp)
    exact ⟨e1, vs, h2, e2.trans h3⟩
  cell := fun a n c => by
    obtain ⟨h1, c', fs, C, ns, dx, vs, h2, h3, h4, h5, h6⟩ := ok.cell a n c
    obtain ⟨e1, e2⟩ := hu a (by rw [c]; simp)
    exact ⟨e1, c', fs, C, ns, dx, vs, h2, h3, e2.trans h4, h5, VRs.mono (g := g) (g' := { g with F := F' }) hf (fun _ _ e => e) rfl h6⟩
  inj := ok.inj
  all := ok.all
  cl := ok.cl
/-- a new frozen object -/
theorem fresh_ex {D : Dat} {g : Gs} {h : Hs} {H : Hp} {p : Addr} {o : HO} (ok : GOk D g h H) (hp : H p = none) :
    Ex g H { g with F := upd g.F p o } (upd H p o) ∧ GOk D { g with F := upd g.F p o } h (upd H p o) := by
  obtain ⟨fp, up⟩ := ok.fresh hp
  have hf : ∀ a u, g.F a = some u → upd g.F p o a = some u := fun a u e => by rw [upd_ne (ne_of_none e fp)]; exact e
  refine ⟨⟨hf, fun _ _ e => e, ⟨rfl, rfl, rfl⟩, fun a u e _ => ?_, fun a e => ?_, fun a e => ?_, fun _ _ e => .inl e⟩, ok.more hf (fun a c => ?_) fun a u e => ?_⟩
  · rw [upd_ne (ne_of_none e hp)]; exact e
  · by_cases q : a = p
    · subst q; rw [upd_same]; simp
    · rw [upd_ne q]; exact e
  · by_cases q : a = p
    · subst q; exact .inr hp
    · refine .inl ?_
      have e' : upd g.F p o a ≠ none := e
      rw [upd_ne q] at e'; exact e'
  · have q : a ≠ p := fun z => c (by rw [z]; exact up)
    have fa : g.F a = none := by
      cases w : g.U a with
      | none => exact absurd w c
      | some u =>
        cases u with
        | cup => exact (ok.cup a w).1
        | cell n => exact (ok.cell a n w).1
    exact ⟨by rw [upd_ne q]; exact fa, upd_ne q⟩
  · by_cases q : a = p
    · subst q; rw [upd_same] at e ⊢; exact e
    · rw [upd_ne q] at e ⊢; exact ok.fh a u e
/-- a new object that is not frozen -/
theorem loose_ex {D : Dat} {g : Gs} {h : Hs} {H : Hp} {p : Addr} {o : HO} (ok : GOk D g h H) (hp : H p = none) : Ex g H g (upd H p o) ∧ GOk D g h (upd H p o) := by
  obtain ⟨fp, up⟩ := ok.fresh hp
  refine ⟨⟨fun a u e => e, fun _ _ e => e, ⟨rfl, rfl, rfl⟩, fun a u e _ => ?_, fun a e => ?_, fun a e => .inl e, fun _ _ e => .inl e⟩, ok.more (fun _ _ e => e) (fun a c => ?_) fun a u e => ?_⟩
  · rw [upd_ne (ne_of_none e hp)]; exact e
  · by_cases q : a = p
    · subst q; rw [upd_same]; simp
    · rw [upd_ne q]; exact e
  · have q : a ≠ p := fun z => c (by rw [z]; exact up)
    have fa : g.F a = none := by
      cases w : g.U a with
      | none => exact absurd w c
      | some u =>
        cases u with
        | cup => exact (ok.cup a w).1
        | cell n => exact (ok.cell a n w).1
    exact ⟨fa, upd_ne q⟩
  · have e' := ok.fh a u e
    rw [upd_ne (ne_of_none e' hp)]; exact e'

section
variable (D : Dat) (Γ : Sem) (W : WX)
def PostV (g : Gs) (H : Hp) (k : KV) (Q : VK) : Prop := ∀ v h' g' H' x, k v h' = true → Ex g H g' H' → GOk D g' h' H' → VR D.K g' v x → Q x H'
def PostX (σ : L2.St) (g : Gs) (H : Hp) (kx : KV) : Prop := ∀ v h' g' H' cls d, kx v h' = true → Ex g H g' H' → GOk D g' h' H' → XR D.K g' H' v cls d → W cls d σ H'
def PostVs (g : Gs) (H : Hp) (k : KVs) (Q : List L2.V → Hp → Prop) : Prop := ∀ v h' g' H' x, k v h' = true → Ex g H g' H' → GOk D g' h' H' → VRs D.K g' v x → Q x H'
structure Sta (P : Addr → Prop) (g : Gs) (h : Hs) (H : Hp) (env : Env) (σ : L2.St) : Prop where
  er : EnvR D.K g H P env σ
  ok : GOk D g h H
def simE (e : EV.E) : TE := fun σ H Q => ∃ P g h env k kx, Sta D P g h H env σ ∧ ev D.X Γ e env h k kx = true ∧ PostV D g H k Q ∧ PostX D W σ g H kx
def simT (e : EV.E) : TT := fun σ H Q => ∃ P g h env k kx, Sta D P g h H env σ ∧ ev D.X Γ e env h k kx = true ∧
  (∀ v h' g' H', k v h' = true → Ex g H g' H' → GOk D g' h' H' → ∃ b, v = .bl b ∧ Q b H') ∧ PostX D W σ g H kx
def simA (es : Es) : TA := fun σ H Q => ∃ P g h env k kx, Sta D P g h H env σ ∧ evs D.X Γ es env h k kx = true ∧ PostVs D g H k Q ∧ PostX D W σ g H kx
end
section
variable {D : Dat} {Γ : Sem} {W : WX} {g g' : Gs} {H H' : Hp} {h h' : Hs} {P : Addr → Prop} {env : Env} {σ : L2.St}
theorem Sta.ext (s : Sta D P g h H env σ) (e : Ex g H g' H') (ok : GOk D g' h' H') : Sta D P g' h' H' env σ := ⟨s.er.ext e, ok⟩
theorem PostV.ext {k : KV} {Q : VK} (p : PostV D g H k Q) (e : Ex g H g' H') : PostV D g' H' k Q := fun v h1 g1 H1 x a b c d => p v h1 g1 H1 x a (e.trans b) c d
theorem PostX.ext {k : KV} (p : PostX D W σ g H k) (e : Ex g H g' H') : PostX D W σ g' H' k := fun v h1 g1 H1 x y a b c d => p v h1 g1 H1 x y a (e.trans b) c d
theorem PostVs.ext {k : KVs} {Q : List L2.V → Hp → Prop} (p : PostVs D g H k Q) (e : Ex g H g' H') : PostVs D g' H' k Q := fun v h1 g1 H1 x a b c d => p v h1 g1 H1 x a (e.trans b) c d
/-- the heap as it is: a value comes -/
theorem PostV.now {k : KV} {Q : VK} {v : Val} {x : L2.V} (p : PostV D g H k Q) (hk : k v h = true) (ok : GOk D g h H) (r : VR D.K g v x) : Q x H := p v h g H x hk (Ex.refl _ _) ok r
/-- a new frozen object comes -/
theorem PostV.new {k : KV} {Q : VK} {v : Val} {p : Addr} {o : HO} (q : PostV D g H k Q) (hk : k v h = true) (ok : GOk D g h H) (hp : H p = none)
    (r : VR D.K { g with F := upd g.F p o } v (.ref p)) : Q (.ref p) (upd H p o) :=
  let ⟨a, b⟩ := fresh_ex (o := o) ok hp
  q v h _ _ _ hk a b r
/-- behind an expression the next one -/
theorem seqE {e : EV.E} {k : KV} {kx : KV} {Q : VK} (s : Sta D P g h H env σ) (hk : ev D.X Γ e env h k kx = true) (hx : PostX D W σ g H kx)
    (n : ∀ v h1 g1 H1 x, k v h1 = true → Ex g H g1 H1 → Sta D P g1 h1 H1 env σ → PostX D W σ g1 H1 kx → VR D.K g1 v x → Q x H1) : simE D Γ W e σ H Q :=
  ⟨P, g, h, env, k, kx, s, hk, fun v h1 g1 H1 x a b c d => n v h1 g1 H1 x a b (s.ext b c) (hx.ext b) d, hx⟩
theorem seqT {e : EV.E} {k : KV} {kx : KV} {Q : Bool → Hp → Prop} (s : Sta D P g h H env σ) (hk : ev D.X Γ e env h k kx = true) (hx : PostX D W σ g H kx)
    (n : ∀ v h1 g1 H1, k v h1 = true → Ex g H g1 H1 → Sta D P g1 h1 H1 env σ → PostX D W σ g1 H1 kx → ∃ b, v = .bl b ∧ Q b H1) : simT D Γ W e σ H Q :=
  ⟨P, g, h, env, k, kx, s, hk, fun v h1 g1 H1 a b c => n v h1 g1 H1 a b (s.ext b c) (hx.ext b), hx⟩
theorem seqA {e : Es} {k : KVs} {kx : KV} {Q : List L2.V → Hp → Prop} (s : Sta D P g h H env σ) (hk : evs D.X Γ e env h k kx = true) (hx : PostX D W σ g H kx)
    (n : ∀ v h1 g1 H1 x, k v h1 = true → Ex g H g1 H1 → Sta D P g1 h1 H1 env σ → PostX D W σ g1 H1 kx → VRs D.K g1 v x → Q x H1) : simA D Γ W e σ H Q :=
  ⟨P, g, h, env, k, kx, s, hk, fun v h1 g1 H1 x a b c d => n v h1 g1 H1 x a b (s.ext b c) (hx.ext b) d, hx⟩
theorem stepK_some {α : Type} {o : Option α} {k : α → Bool} (h : stepK o k = true) : ∃ a, o = some a ∧ k a = true := by
  cases o with
  | none => cases h
  | some a => exact ⟨a, rfl, h⟩
end
theorem PE.weak {X : Cx} {e : Expr} {t t' : TE} (p : PE X e t) (h : ∀ σ H Q, t' σ H Q → t σ H Q) : PE X e t' := ⟨fun pins s σ H Q I q => p.run pins s σ H Q I (h σ H Q q)⟩
theorem PT.weak {X : Cx} {e : Expr} {t t' : TT} (p : PT X e t) (h : ∀ σ H Q, t' σ H Q → t σ H Q) : PT X e t' := ⟨fun pins s σ H Q I q => p.run pins s σ H Q I (h σ H Q q)⟩
theorem PW.weak {X : Cx} {e : Expr} {t t' : TT} (p : PW X e t) (h : ∀ σ H Q, t' σ H Q → t σ H Q) : PW X e t' := ⟨fun wh pins s σ H Q I q => p.run wh pins s σ H Q I (h σ H Q q)⟩
theorem PA.weak {X : Cx} {e : List Expr} {t t' : TA} (p : PA X e t) (h : ∀ σ H Q, t' σ H Q → t σ H Q) : PA X e t' := ⟨fun pos pins s σ H Q I q => p.run pos pins s σ H Q I (h σ H Q q)⟩
theorem PS.weak {X : Cx} {e : Stmt} {t t' : TS} (p : PS X e t) (h : ∀ D σ H, t' D σ H → t D σ H) : PS X e t' := ⟨fun pins s σ H D I q => p.run pins s σ H D I (h D σ H q)⟩
theorem PSs.weak {X : Cx} {e : List Stmt} {t t' : TS} (p : PSs X e t) (h : ∀ D σ H, t' D σ H → t D σ H) : PSs X e t' := ⟨fun pins s σ H D I q => p.run pins s σ H D I (h D σ H q)⟩
end EV
namespace EV
open PySem PySem.Spec PyProof.Rows L2

/-- the names of a text -/
structure Tab where
  fn : Nat → Option Str
  pars : Nat → List Str
  kn : Nat → Option Str
  dn : Nat → Option Str
  an : Nat → Str := fun _ => ""
  cn : Nat → Option Str := fun _ => none
  nw : Nat → Option Str := fun _ => none
  /-- objects are known -/
  ob : Bool := false
  /-- calls with keywords: how many are positional, the keywords, where each parameter's value stands -/
  kw : Nat → List (Nat × List Str × List Nat) := fun _ => []

def kwNm : Keyword → Option Str
  | ⟨n, _, _⟩ => n
def kwVal : Keyword → Expr
  | ⟨_, e, _⟩ => e
def bnm : Blt → Str
  | .len => "len" | .int => "int" | .abs => "abs" | .max2 => "max" | .min2 => "min" | .max => "max" | .min => "min" | .sum => "sum" | .all => "all" | .any => "any" | .list => "list" | .tuple => "tuple" | .divmod => "divmod" | .sorted => "sorted"
def bar : Blt → Nat
  | .max2 => 2 | .min2 => 2 | .divmod => 2 | _ => 1
def mnm : Mth → Str
  | .index => "index" | .count => "count"
def tnm : Ty → Str
  | .int => "int" | .bool => "bool" | .str => "str" | .tuple => "tuple" | .list => "list"

def visB (sc : Scope) (x : Str) : Bool := match sc.names.lookup x with
  | some .local => true | some .cell => true | some .free => true | _ => false
def glB (sc : Scope) (x : Str) : Bool := match sc.names.lookup x with
  | some .globalImplicit => true | _ => false
def locB (sc : Scope) (x : Str) : Bool := match sc.names.lookup x with
  | some .local => true | some .cell => true | _ => false
def plainN (x : Str) : Bool := !(x == ("__debug__" : Str)) && !(x == ("__classdict__" : Str)) && !decide (x = ("__name__" : Str))
/-- neither a star nor a slice nor a set nor a call without arguments -/
def tame : Expr → Bool
  | .Starred .. => false
  | .Slice .. => false
  | .Set .. => false
  | .Call (.Name f _) [] [] _ => !decide (f = "super")
  | _ => true
/-- no set display -/
def noSet : Expr → Bool
  | .Set .. => false
  | _ => true
def bopB : Bop → Operator → Bool
  | .add, .Add => true | .sub, .Sub => true | .mul, .Mult => true | .fdv, .FloorDiv => true | .mod, .Mod => true | .pow, .Pow => true
  | _, _ => false
def copB : Cop → CmpOp → Bool
  | .eq, .Eq => true | .ne, .NotEq => true | .lt, .Lt => true | .le, .LtE => true | .gt, .Gt => true | .ge, .GtE => true | .isN, .Is => true | .notN, .IsNot => true | .inn, .In => true | .nin, .NotIn => true
  | _, _ => false
/-- the op is none of «is» -/
def copV : Cop → Bool
  | .isN => false | .notN => false | _ => true
def allTame (ps : List Expr) : Bool := ps.all tame
def keysB : List Str → List (Option Expr) → Bool
  | [], [] => true
  | k :: ks, some (.Constant (.str x) _ _) :: ps => decide (k = x) && keysB ks ps
  | _, _ => false
/-- the scope of a block within -/
def relSc (sc scope : Scope) : Scope := { scope with names := scope.names.map fun (n, k) => if (k == NameKind.free && sc.kind == .function && sc.names.lookup n == some .cell) then (n, NameKind.cell) else (n, k) }

def ownOf (N : List Str) (t : T) : List (Str × Nat) := (tvars t).map fun i => ((N[i]?).getD "", i)
mutual
def chkT (N : List Str) (sc : Scope) : T → Expr → Bool
  | .name i, py => match py with
    | .Name x _ => decide (N[i]? = some x) && locB sc x
    | _ => false
  | .tup ts, py => match py with
    | .Tuple ps _ _ => chkTs N sc ts ps
    | _ => false
def chkTs (N : List Str) (sc : Scope) : List T → List Expr → Bool
  | [], ps => match ps with | [] => true | _ => false
  | t :: ts, ps => match ps with
    | p :: ps => tame p && chkT N sc t p && chkTs N sc ts ps
    | _ => false
end
section
variable (T : Tab) (N : List Str)
mutual
def chkE (sc : Scope) : E → Expr → Bool
  | .var i, py => match py with
    | .Name x _ => decide (N[i]? = some x) && visB sc x && plainN x
    | _ => false
  | .non, py => match py with | .Constant .none _ _ => true | _ => false
  | .bl b, py => match py with | .Constant (.bool c) _ _ => decide (b = c) | _ => false
  | .int i, py => match py with | .Constant (.int j) _ _ => decide (i = j) | _ => false
  | .str x, py => match py with | .Constant (.str y) _ _ => decide (x = y) | _ => false
  | .kon i, py => match py with
    | .Name x _ => decide (T.kn i = some x) && glB sc x && plainN x
    | _ => false
  | .bin op a b, py => match py with
    | .BinOp pa o pb _ => bopB op o && chkE sc a pa && chkE sc b pb
    | _ => false
  | .neg a, py => match py with
    | .UnaryOp .USub pa _ => chkE sc a pa
    | _ => false
  | .cmp op a b, py => match py with
    | .Compare pa [o] [pb] _ => copB op o && tame pb && chkE sc a pa && chkE sc b pb && (copV op || (match b with | .non => true | .bl _ => true | _ => false))
    | _ => false
  | .chain o1 o2 a b c, py => match py with
    | .Compare pa [p1, p2] [pb, pc] _ => copB o1 p1 && copB o2 p2 && copV o1 && copV o2 && tame pc && chkE sc a pa && chkE sc b pb && chkE sc c pc
    | _ => false
  | .andE a b, py => match py with
    | .BoolOp .And (pa :: pb :: r) pos => chkE sc a pa && chkE sc b (.BoolOp .And (pb :: r) pos)
    | _ => false
  | .orE a b, py => match py with
    | .BoolOp .Or (pa :: pb :: r) pos => chkE sc a pa && chkE sc b (.BoolOp .Or (pb :: r) pos)
    | _ => false
  | .one a, py => match py with
    | .BoolOp _ [pa] _ => chkE sc a pa
    | _ => false
  | .notE a, py => match py with
    | .UnaryOp .Not pa _ => chkE sc a pa
    | _ => false
  | .ife c a b, py => match py with
    | .IfExp pc pa pb _ => chkE sc c pc && chkE sc a pa && chkE sc b pb
    | _ => false
  | .tup es, py => match py with
    | .Tuple ps _ _ => allTame ps && chkEs sc es ps
    | _ => false
  | .lst es, py => match py with
    | .List ps _ => allTame ps && chkEs sc es ps
    | _ => false
  | .ix a b, py => match py with
    | .Subscript pa pb _ => tame pb && chkE sc a pa && chkE sc b pb
    | _ => false
  | .slc a lo hi, py => match py with
    | .Subscript pa (.Slice pl ph none _) _ => chkE sc a pa && chkP sc lo pl && chkP sc hi ph
    | _ => false
  | .ixo i b, py => match py with
    | .Subscript (.Name x _) pb _ => decide (N[i]? = some x) && visB sc x && plainN x && tame pb && chkE sc b pb
    | _ => false
  | .lenO i, py => match py with
    | .Call (.Name f _) [.Name x _] [] _ => decide (f = "len") && glB sc f && decide (N[i]? = some x) && visB sc x && plainN x
    | _ => false
  | .tupO i, py => match py with
    | .Call (.Name f _) [.Name x _] [] _ => decide (f = "tuple") && glB sc f && decide (N[i]? = some x) && visB sc x && plainN x
    | _ => false
  | .call f es, py => match py with
    | .Call (.Name x _) ps [] _ => decide (T.fn f = some x) && glB sc x && plainN x && allTame ps && chkEs sc es ps
    | _ => false
  | .new f es, py => match py with
    | .Call (.Name x _) ps [] _ => decide (T.nw f = some x) && glB sc x && plainN x && allTame ps && chkEs sc es ps
    | _ => false
  | .callK f es ks ns perm, py => match py with
    | .Call (.Name x _) ps kws _ => decide (T.fn f = some x) && glB sc x && plainN x && allTame ps && chkEs sc es ps && decide (kws.map kwNm = ns.map some) && !kws.isEmpty && chkEs sc ks (kws.map kwVal) && decide ((ps.length, ns, perm) ∈ T.kw f)
    | _ => false
  | .blt b es, py => match py with
    | .Call (.Name x _) (p :: ps) [] _ => decide (b ≠ .divmod) && decide (x = bnm b) && glB sc x && decide ((p :: ps).length = bar b) && allTame (p :: ps) && chkEs sc es (p :: ps)
    | _ => false
  | .mth m o es, py => match py with
    | .Call (.Attribute po name apos) [p] [] cpos => decide (name = mnm m) && (apos.endLine == cpos.line) && tame po && tame p && chkE sc o po && chkEs sc es [p]
    | _ => false
  | .lc elt t it ifs, py => match py with
    | .ListComp pelt [⟨ptg, pit, pifs, 0⟩] scope _ =>
      blkC N sc scope (ownOf N t) && chkT N scope t ptg && chkI sc it ptg pit && noSet pit && chkE (relSc sc scope) elt pelt && (match pifs with
        | [] => match ifs with | .no => true | _ => false
        | [p] => match ifs with | .some c => chkE (relSc sc scope) c p | _ => false
        | _ => false)
    | _ => false
  | .lc2 elt t it t2 it2 ifs, py => match py with
    | .ListComp pelt [⟨ptg, pit, [], 0⟩, ⟨ptg2, pit2, pifs, 0⟩] scope _ =>
      blkC N sc scope (ownOf N t ++ ownOf N t2) && chkT N scope t ptg && chkI sc it ptg pit && noSet pit && chkT N scope t2 ptg2 && chkI (relSc sc scope) it2 ptg2 pit2 && noSet pit2 && chkE (relSc sc scope) elt pelt && (match pifs with
        | [] => match ifs with | .no => true | _ => false
        | [p] => match ifs with | .some c => chkE (relSc sc scope) c p | _ => false
        | _ => false)
    | _ => false
  | .stup l pre a post, py => match py with
    | .Tuple ps _ _ => !l && allTame (ps.take pre.len) && chkEs sc pre (ps.take pre.len) && (match ps.drop pre.len with
      | .Starred pa _ :: r => chkE sc a pa && allTame r && chkEs sc post r
      | _ => false)
    | .List ps _ => l && allTame (ps.take pre.len) && chkEs sc pre (ps.take pre.len) && (match ps.drop pre.len with
      | .Starred pa _ :: r => chkE sc a pa && allTame r && chkEs sc post r
      | _ => false)
    | _ => false
  | .sel ks vs i, py => match py with
    | .Subscript (.Dict keys values _) pi _ => keysB ks keys && decide (ks.length = values.length) && decide (ks.length ≤ 15) && !ks.isEmpty && decide ks.Nodup && tame pi && chkEs sc vs values && chkE sc i pi
    | _ => false
  | .cget c a d, py => match py with
    | .Call (.Attribute (.Name x _) name apos) [pa, .Constant (.int j) _ _] [] cpos => decide (T.dn c = some x) && glB sc x && plainN x && decide (name = "get") && decide (j = d) && (apos.endLine == cpos.line) && decide (x ≠ "super") && tame pa && chkE sc a pa
    | _ => false
  | .isi a t, py => match py with
    | .Call (.Name f _) [pa, .Name x _] [] _ => decide (f = "isinstance") && glB sc f && decide (x = tnm t) && glB sc x && tame pa && chkE sc a pa
    | _ => false
  | .lrg a b, py => match py with
    | .Call (.Name f _) [.Call (.Name x _) ps [] _] [] _ => decide (f = "list") && glB sc f && decide (x = "range") && glB sc x && (match ps with
      | [pb] => tame pb && (match a with | .no => chkP sc b (some pb) | _ => false)
      | [pa, pb] => tame pa && tame pb && chkP sc a (some pa) && chkP sc b (some pb)
      | _ => false)
    | _ => false
  | .attr e a, py => match py with
    | .Attribute p name _ => T.ob && decide (name = T.an a) && tame p && chkE sc e p
    | _ => false
  | .meth _ _ _, _ => false
  | .isiC e c, py => match py with
    | .Call (.Name f _) [pa, .Name x _] [] _ => T.ob && decide (f = "isinstance") && glB sc f && decide (T.cn c = some x) && glB sc x && plainN x && tame pa && chkE sc e pa
    | _ => false
  | .xfld _ _, _ => false
  | .xisi _ _, _ => false
def chkEs (sc : Scope) : Es → List Expr → Bool
  | .nil, ps => match ps with | [] => true | _ => false
  | .cons e es, ps => match ps with
    | p :: ps => chkE sc e p && chkEs sc es ps
    | _ => false
def chkP (sc : Scope) : P → Option Expr → Bool
  | .no, p => match p with | none => true | _ => false
  | .some e, p => match p with | some p => chkE sc e p | _ => false
/-- an iterable with its target -/
def chkI (sc : Scope) : I → Expr → Expr → Bool
  | .seq e, _, py => chkE sc e py
  | .rng1 a, _, py => match py with
    | .Call (.Name x _) [pa] [] _ => decide (x = "range") && glB sc x && tame pa && chkE sc a pa
    | _ => false
  | .rng2 a b, _, py => match py with
    | .Call (.Name x _) [pa, pb] [] _ => decide (x = "range") && glB sc x && tame pa && tame pb && chkE sc a pa && chkE sc b pb
    | _ => false
  | .enm e, tg, py => match tg with
    | .Tuple _ _ _ => match py with
      | .Call (.Name x _) [pa] [] _ => decide (x = "enumerate") && glB sc x && tame pa && chkE sc e pa
      | _ => false
    | _ => false
  | .zip a b, tg, py => match tg with
    | .Tuple _ _ _ => match py with
      | .Call (.Name x _) [pa, pb] [] _ => decide (x = "zip") && glB sc x && tame pa && tame pb && chkE sc a pa && chkE sc b pb
      | _ => false
    | _ => false
end
end

/-! ### the calls -/
def spF (D : Dat) (Γ : Sem) (f m : Nat) : Sp := fun vs H Q E => vs.length = m ∧ ∃ g h args k kx, GOk D g h H ∧ VRs D.K g args vs ∧ Γ f args h k kx = true ∧ PostV D g H k Q ∧
  (∀ v h' g' H' cls d, kx v h' = true → Ex g H g' H' → GOk D g' h' H' → XR D.K g' H' v cls d → E cls d H')
/-- how a call with keywords binds -/
def KwB (K : PySem.W.Frag) (fd : FuncData) (ps : List Str) (e : Nat × List Str × List Nat) : Prop := KBn K fd ps e.1 e.2.1 (fun us ws => e.2.2.map fun j => (us ++ ws).getD j .none) (fun vs zs => e.2.2.map fun j => (vs ++ zs).getD j .non)
structure FOk (D : Dat) (Γ : Sem) (n : Nat) (ps : List Str) (kw : List (Nat × List Str × List Nat)) (f : Nat) (x : Str) : Prop where
  ex : ∃ fa fd, D.mg x = some (.ref fa) ∧ PySem.W.keepIn D.K (.ref fa) = true ∧ Binds D.K fd ps [] ∧ FnOk D.P D.w D.K D.mg D.base (L2.CX D.P D.w) n fa fd ps (spF D Γ f ps.length) ∧ ∀ e ∈ kw, KwB D.K fd ps e
def bltNames : List Str := ["len", "int", "abs", "max", "min", "sum", "all", "any", "list", "tuple", "divmod", "sorted", "range", "enumerate", "zip", "isinstance", "bool", "str"]
/-- __init__ of a new object of the class at C -/
def spN (D : Dat) (Γ : Sem) (f m : Nat) (c : Nat) (C : Addr) : Sp := fun vs H Q E => ∃ x dx vs' ns H1 g h args k kx, vs = .ref x :: vs' ∧ vs'.length = m ∧ D.cl c = some (C, ns) ∧ H = upd (upd H1 dx (.own x)) x (.ins C dx []) ∧ H1 x = none ∧ H1 dx = none ∧ dx ≠ x ∧
  GOk D g h H1 ∧ VRs D.K g args vs' ∧ Γ f args h k kx = true ∧ (∀ v h' g' H', k v h' = true → Ex g H1 g' H' → GOk D g' h' H' → VR D.K g' v (.ref x) → Q .non H') ∧
  (∀ v h' g' H' cls d, kx v h' = true → Ex g H1 g' H' → GOk D g' h' H' → XR D.K g' H' v cls d → E cls d H')
/-- a class that is called -/
structure MOk (D : Dat) (Γ : Sem) (n : Nat) (m f : Nat) (x : Str) : Prop where
  ex : ∃ k c C fI fd ps, n = k + 1 ∧ D.mg x = some (.ref C) ∧ Mk D.K C fI ∧ FnOk D.P D.w D.K D.mg D.base (L2.CX D.P D.w) k fI fd ps (spN D Γ f m c C) ∧ Binds D.K fd ps [] ∧ ∃ ns, D.cl c = some (C, ns)
/-- a property -/
structure POk (D : Dat) (Γ : Sem) (n : Nat) (C : Addr) (nm : Str) (f : Nat) : Prop where
  ex : ∃ k p gA fd ps, n = k + 1 ∧ PropOf D.K C nm p gA ∧ FnOk D.P D.w D.K D.mg D.base (L2.CX D.P D.w) k gA fd ps (spF D Γ f 1) ∧ Binds D.K fd ps []
/-- a class of objects -/
structure COk (D : Dat) (Γ : Sem) (n : Nat) (c : Nat) (os : List Nat) : Prop where
  ex : ∃ C, D.cl c = some (C, os.map D.an) ∧ Cls D.K C ∧ (∀ a ∈ os, NoAttr D.K C (D.an a)) ∧ (∀ a f, D.X.pr c a = some f → POk D Γ n C (D.an a) f) ∧ os.length ≤ 900 ∧
    PySem.W.findIn D.K (.ref C) "__class__" = some (some (.builtin "object.__class__")) ∧ PySem.W.specialIn D.K (.builtin "object.__class__") "__get__" = some (some (.builtin "getset_descriptor.__get__")) ∧ PySem.W.takesIn D.K (.builtin "object.__class__") = some true ∧ PySem.W.mroIn D.K C (.type "object") = some true
/-- a class that isinstance asks for -/
structure IOk (D : Dat) (c : Nat) (x : Str) : Prop where
  ex : ∃ C, D.mg x = some (.ref C) ∧ (∀ t ∈ ["NoneType", "bool", "int", "str", "tuple", "list"], PySem.W.kitOne D.K (.type t) (.ref C) = some false) ∧ ∀ d os C' ns, D.X.of d = some os → D.cl d = some (C', ns) → PySem.W.kitOne D.K (.ref C') (.ref C) = some (D.X.sub d c)
/-- an entry of a table of the module: a text, an integer -/
def entI (e : DictEntry) : Option (Str × Int) := match e.key with
  | .str x _ => match e.val with | .int i _ => some (x, i) | _ => none
  | _ => none
/-- a table of the module -/
def KTab (K : PySem.W.Frag) (w : World) (a : Addr) (kvs : List (Str × Int)) : Prop := ∃ es n, K.lookup a = some ⟨.type "dict", none, .dict es n, #[]⟩ ∧ PySem.W.KeysLit w.params es.toList ∧ (a == sysModules) = false ∧ es.toList.map entI = kvs.map some
structure Fns (D : Dat) (T : Tab) (Γ : Sem) (n : Nat) : Prop where
  kdc : ∀ c x, T.dn c = some x → ∃ a kvs, D.X.kdict c = some kvs ∧ D.mg x = some (.ref a) ∧ KTab D.K D.w a kvs
  eqm : ∀ c, D.X.eqm c = none
  len : ∀ f x args h k kx, T.fn f = some x → Γ f args h k kx = true → args.length = (T.pars f).length
  fn : ∀ f x, T.fn f = some x → FOk D Γ n (T.pars f) (T.kw f) f x
  blt : ∀ x ∈ bltNames, D.mg x = none
  kon : ∀ i x, T.kn i = some x → ∃ u v y, D.X.konst i = some v ∧ D.mg x = some u ∧ RelV y u ∧ ∀ g, VR D.K g v y
  nwk : ∀ f x, T.nw f = some x → MOk D Γ n (T.pars f).length f x
  nwl : ∀ f x args h k kx, T.nw f = some x → Γ f args h k kx = true → args.length = (T.pars f).length
  an : ∀ a, D.an a = T.an a
  inj : ∀ a b, T.an a = T.an b → a = b
  obj : T.ob = true → ∀ c os, D.X.of c = some os → COk D Γ n c os
  isc : ∀ c x, T.cn c = some x → IOk D c x
structure Gd (D : Dat) (T : Tab) (Γ : Sem) (N : List Str) (sc : Scope) (n : Nat) (W : WX) (X : Cx) : Prop where
  dat : ∃ CP Xt cl an, D = ⟨X.prog, X.w, X.K, X.mg, X.base, CP, Xt, cl, an⟩
  eN : X.N = N
  nd : N.Nodup
  eSc : X.env.scope = sc
  room : Room n X.A
  calm : X.calm = true
  tk : Takes X W
  fns : Fns D T Γ n

section
variable {D : Dat} {T : Tab} {Γ : Sem} {N : List Str} {sc : Scope} {n : Nat} {W : WX} {X : Cx}
theorem Gd.hN (G : Gd D T Γ N sc n W X) {i : Nat} {x : Str} (h : N[i]? = some x) : X.N[i]? = some x := by rw [G.eN]; exact h
theorem Gd.hnd (G : Gd D T Γ N sc n W X) : X.N.Nodup := by rw [G.eN]; exact G.nd
theorem Gd.vis (G : Gd D T Γ N sc n W X) {x : Str} (h : visB sc x = true) : Vis X.env.scope x := by
  rw [G.eSc]; unfold visB at h; unfold Vis
  split at h
  · exact .inl (by assumption)
  · exact .inr (.inl (by assumption))
  · exact .inr (.inr (by assumption))
  · cases h
theorem Gd.gl (G : Gd D T Γ N sc n W X) {x : Str} (h : glB sc x = true) : Gl X x := by
  unfold glB at h; unfold Gl Env.kindOf; rw [G.eSc]
  split at h
  · assumption
  · cases h
theorem plainN_d {x : Str} (h : plainN x = true) : (x == ("__debug__" : Str)) = false ∧ (x == ("__classdict__" : Str)) = false ∧ x ≠ "__name__" := by
  unfold plainN at h
  simp only [Bool.and_eq_true, Bool.not_eq_true', decide_eq_false_iff_not] at h
  exact ⟨h.1.1, h.1.2, h.2⟩
theorem tame_star {e : Expr} (h : tame e = true) (es : List Expr) (env : PySem.Env) : starEach (e :: es) env = (false, eval e env) :: starEach es env := by
  cases e <;> first | rfl | (simp [tame] at h)
theorem tame_asg {e : Expr} (h : tame e = true) (es : List Expr) (env : PySem.Env) : assignEach (e :: es) env = (false, assign e env) :: assignEach es env := by
  cases e <;> first | rfl | (simp [tame] at h)
theorem tame_plain {es : List Expr} (h : allTame es = true) (env : PySem.Env) (pos : Pos) : (backTo pos (starEach es env)).any (·.1) = false := by
  induction es with
  | nil => rfl
  | cons e r ih =>
    unfold allTame at h ih
    rw [List.all_cons, Bool.and_eq_true] at h
    rw [tame_star h.1]
    unfold backTo at ih ⊢
    rw [List.map_cons, List.any_cons]
    simp only [Bool.false_or]
    exact ih h.2
theorem tame_ix {e : Expr} (h : tame e = true) : PlainIx e := by
  intro o i
  cases e <;> first | rfl | (simp [tame] at h)
theorem tame_mark {e : Expr} (h : tame e = true) (op : CmpOp) : behindInMarks op e = false := by
  cases e <;> first | rfl | (simp [tame] at h)
theorem tame_fold {e : Expr} (h : noSet e = true) (env : PySem.Env) : ∀ x, foldedSetIterable e env x = pure x := by
  intro x
  cases e <;> first | rfl | (simp [noSet] at h)
theorem tame_base {o : Expr} (h : tame o = true) (name : Str) (env : PySem.Env) : attributeBase o name env (eval o env) = eval o env := by
  unfold attributeBase
  split
  · rename_i id p1 p2
    simp only [tame, Bool.not_eq_true', decide_eq_false_iff_not] at h
    have e : (id != ("super" : Str)) = true := bne_iff_ne.mpr h
    rw [e]
    rfl
  · rfl
theorem bltN {b : Blt} : bnm b ∈ bltNames := by cases b <;> decide +kernel
end
end EV
namespace EV
open PySem PySem.Spec PyProof.Rows L2

/-! ### the cases of expressions -/
def Val.isB : Val → Bool → Bool
  | .bl d, c => decide (d = c)
  | _, _ => false
/-- what is shown of an expression: as a value, as a test, as a chain's rest -/
structure Sd (D : Dat) (Γ : Sem) (W : WX) (X : Cx) (e : EV.E) (py : Expr) : Prop where
  pe : PE X py (simE D Γ W e)
  pt : PT X py (simT D Γ W e)
  pw : (∃ o vs pos, py = .BoolOp o vs pos) → PW X py (simT D Γ W e)
def notTest : Expr → Bool
  | .UnaryOp .Not _ _ => false
  | .BoolOp _ _ _ => false
  | .IfExp _ _ _ _ => false
  | .Compare _ _ _ _ => false
  | _ => true
theorem notTest_is {py : Expr} (h : notTest py = true) (env : PySem.Env) (whole : PySem.Sem Value) : isTrue py env whole = (do let v ← whole; standAt py.pos; holding [v] (truthy v)) := by
  cases py with
  | UnaryOp op a p => cases op <;> first | (simp [notTest] at h; done) | rfl
  | BoolOp => simp [notTest] at h
  | IfExp => simp [notTest] at h
  | Compare => simp [notTest] at h
  | _ => rfl
section
variable {D : Dat} {T : Tab} {Γ : Sem} {N : List Str} {sc : Scope} {n : Nat} {W : WX} {X : Cx}
theorem simT_E {e : EV.E} {σ : L2.St} {H : Hp} {Q : Bool → Hp → Prop} (s : simT D Γ W e σ H Q) : simE D Γ W e σ H fun x H' => ∃ b, x = .bl b ∧ Q b H' := by
  obtain ⟨P, g, h, env, k, kx, st, hk, pv, px⟩ := s
  refine ⟨P, g, h, env, k, kx, st, hk, fun v h1 g1 H1 x a b c d => ?_, px⟩
  obtain ⟨b', e1, q⟩ := pv v h1 g1 H1 a b c
  subst e1
  cases d
  exact ⟨b', rfl, q⟩
/-- no special test -/
theorem sd_of {e : EV.E} {py : Expr} (p : PE X py (simE D Γ W e)) (h : notTest py = true) : Sd D Γ W X e py where
  pe := p
  pt := PT.weak (pt_val p fun whole => notTest_is h X.env whole) fun σ H Q s => simT_E s
  pw := fun ⟨_, _, _, e⟩ => by subst e; simp [notTest] at h
/-- a comparison: the test by its value's reading -/
theorem sd_var (G : Gd D T Γ N sc n W X) {i : Nat} {py : Expr} (h : chkE T N sc (.var i) py = true) : Sd D Γ W X (.var i) py := by
  unfold chkE at h
  split at h
  · rename_i x pos
    simp only [Bool.and_eq_true, decide_eq_true_eq] at h
    obtain ⟨⟨h1, h2⟩, h3⟩ := h
    refine sd_of (PE.weak (pe_var (i := i) (G.hN h1) (G.vis h2) (plainN_d h3).1 (plainN_d h3).2.1) ?_) rfl
    rintro σ H Q ⟨P, g, h, env, k, kx, st, hk, pv, px⟩
    obtain ⟨v, ev, hv⟩ := stepK_some hk
    obtain ⟨x, e1, r⟩ := st.er.data ev
    exact ⟨x, e1, pv.now hv st.ok r⟩
  · cases h
theorem sd_non (G : Gd D T Γ N sc n W X) {py : Expr} (h : chkE T N sc .non py = true) : Sd D Γ W X .non py := by
  unfold chkE at h
  split at h
  · refine sd_of (PE.weak pe_non ?_) rfl
    rintro σ H Q ⟨P, g, h, env, k, kx, st, hk, pv, px⟩
    exact pv.now hk st.ok .non
  · cases h
theorem sd_bl (G : Gd D T Γ N sc n W X) {b : Bool} {py : Expr} (h : chkE T N sc (.bl b) py = true) : Sd D Γ W X (.bl b) py := by
  unfold chkE at h
  split at h
  · have e := of_decide_eq_true h
    subst e
    refine sd_of (PE.weak pe_bl ?_) rfl
    rintro σ H Q ⟨P, g, h, env, k, kx, st, hk, pv, px⟩
    exact pv.now hk st.ok (.bl _)
  · cases h
theorem sd_int (G : Gd D T Γ N sc n W X) {b : Int} {py : Expr} (h : chkE T N sc (.int b) py = true) : Sd D Γ W X (.int b) py := by
  unfold chkE at h
  split at h
  · have e := of_decide_eq_true h
    subst e
    refine sd_of (PE.weak pe_int ?_) rfl
    rintro σ H Q ⟨P, g, h, env, k, kx, st, hk, pv, px⟩
    exact pv.now hk st.ok (.int _)
  · cases h
theorem sd_str (G : Gd D T Γ N sc n W X) {b : Str} {py : Expr} (h : chkE T N sc (.str b) py = true) : Sd D Γ W X (.str b) py := by
  unfold chkE at h
  split at h
  · have e := of_decide_eq_true h
    subst e
    refine sd_of (PE.weak pe_str ?_) rfl
    rintro σ H Q ⟨P, g, h, env, k, kx, st, hk, pv, px⟩
    exact pv.now hk st.ok (.str _)
  · cases h
theorem sd_kon (G : Gd D T Γ N sc n W X) {i : Nat} {py : Expr} (h : chkE T N sc (.kon i) py = true) : Sd D Γ W X (.kon i) py := by
  unfold chkE at h
  split at h
  · rename_i x pos
    simp only [Bool.and_eq_true, decide_eq_true_eq] at h
    obtain ⟨⟨h1, h2⟩, h3⟩ := h
    obtain ⟨u, v, y, e1, e2, r1, r2⟩ := G.fns.kon i x h1
    obtain ⟨CP, Xt, cl, an, rfl⟩ := id G.dat
    refine sd_of (PE.weak (pe_glob (v := y) (G.gl h2) e2 r1 (plainN_d h3).1) ?_) rfl
    rintro σ H Q ⟨P, g, h, env, k, kx, st, hk, pv, px⟩
    obtain ⟨v', ev, hv⟩ := stepK_some hk
    have e1' := e1.symm.trans ev
    cases e1'
    exact pv.now hv st.ok (r2 g)
  · cases h

/-! operators -/
theorem npF {g : Gs} {H : Hp} (fh : ∀ p o, g.F p = some o → H p = some o) {p : Addr} (hp : H p = none) : g.F p = none := by
  cases q : g.F p with
  | none => rfl
  | some o => rw [fh _ _ q] at hp; cases hp
theorem newL {K : PySem.W.Frag} {g : Gs} {p : Addr} (np : g.F p = none) {zs : List Val} {us : List L2.V} (q : VRs K g zs us) : VR K { g with F := upd g.F p (.lst us) } (.lst zs) (.ref p) :=
  .lst upd_same (VRs.mono (g := g) (g' := { g with F := upd g.F p (.lst us) }) (fun a o e => by show upd g.F p _ a = some o; rw [upd_ne (ne_of_none e np)]; exact e) (fun _ _ e => e) rfl q)
theorem newT {K : PySem.W.Frag} {g : Gs} {p : Addr} {o : Obj} (np : g.F p = none) (hd : o.dict = none) {zs : List Val} {us : List L2.V} (q : VRs K g zs us) : VR K { g with F := upd g.F p (.frz o (.tup us)) } (.tup zs) (.ref p) :=
  .tup (.inl ⟨o, upd_same, hd⟩) (VRs.mono (g := g) (g' := { g with F := upd g.F p (.frz o (.tup us)) }) (fun a o e => by show upd g.F p _ a = some o; rw [upd_ne (ne_of_none e np)]; exact e) (fun _ _ e => e) rfl q)
theorem newK {K : PySem.W.Frag} {g : Gs} {p : Addr} (np : g.F p = none) {zs : List Val} {us : List L2.V} (q : VRs K g zs us) : VR K { g with F := upd g.F p (.tup us) } (.tupk zs) (.ref p) :=
  .tupk (SqT.of upd_same) (VRs.mono (g := g) (g' := { g with F := upd g.F p (.tup us) }) (fun a o e => by show upd g.F p _ a = some o; rw [upd_ne (ne_of_none e np)]; exact e) (fun _ _ e => e) rfl q)
theorem PostV.newL {g : Gs} {H : Hp} {h : Hs} {k : KV} {Q : VK} {xs : List Val} {vs : List L2.V} {p : Addr} (pv : PostV D g H k Q) (hk : k (.lst xs) h = true) (ok : GOk D g h H) (r : VRs D.K g xs vs) (hp : H p = none) :
    Q (.ref p) (upd H p (.lst vs)) := pv.new hk ok hp (EV.newL (npF ok.fh hp) r)
theorem PostV.newT {g : Gs} {H : Hp} {h : Hs} {k : KV} {Q : VK} {xs : List Val} {vs : List L2.V} {p : Addr} {o : Obj} (pv : PostV D g H k Q) (hk : k (.tup xs) h = true) (ok : GOk D g h H) (r : VRs D.K g xs vs) (hp : H p = none) (hd : o.dict = none) :
    Q (.ref p) (upd H p (.frz o (.tup vs))) := pv.new hk ok hp (EV.newT (npF ok.fh hp) hd r)
/-- what an operator on two values is to give -/
def OpS (D : Dat) (f : Val → Val → Option Val) (r : R2) : Prop := ∀ (g : Gs) (h : Hs) (H : Hp) (k : KV) (Q : VK) (a b v : Val) (x y : L2.V), GOk D g h H → VR D.K g a x → VR D.K g b y → f a b = some v → k v h = true → PostV D g H k Q → r x y H Q
def tupObj (us : List Value) : Obj := { cls := .type "tuple", data := .seq us.toArray }
/-- a tuple is laid, known as it is -/
theorem laidT {pins : List (Addr × Obj)} {s : Shared} {σ : L2.St} {H : Hp} {xs : List L2.V} {us : List Value} (I : Inv X pins σ H s) (r : Vals xs us) (hz : xs.length ≤ sizeLine) :
    Inv X pins σ (upd H s.heap.objs.size (.frz (tupObj us) (.tup xs))) { s with heap := s.heap.push (tupObj us) } ∧ H s.heap.objs.size = none :=
  ⟨I.laid (t' := s.toks) (fun _ _ q => Heap.get?_push_of_some _ q) (Nat.le_refl _) ⟨Heap.get?_push_size _ rfl, hz, us, r, IsTup.new _ _⟩, I.hok.fresh (Nat.le_refl _)⟩
/-- t + u; the new tuple has no dict of its own -/
def rCatZ (K : PySem.W.Frag) : R2 := fun x y H Q => ∃ a b xs ys, x = .ref a ∧ y = .ref b ∧ SqT K H a xs ∧ SqT K H b ys ∧ xs.length + ys.length ≤ sizeLine ∧
  (xs = [] → Q (.ref b) H) ∧ (xs ≠ [] → ys = [] → Q (.ref a) H) ∧ (xs ≠ [] → ys ≠ [] → ∀ p o, H p = none → o.dict = none → Q (.ref p) (upd H p (.frz o (.tup (xs ++ ys)))))
theorem op_catZ : OpR X (binaryOp .Add) (rCatZ X.K) := by
  rintro pins s σ H x y v u Q I rx ry ⟨a, b, xs, ys, rfl, rfl, ha, hb, hz, q0, q1, q2⟩
  by_cases hx : xs = []
  · exact op_catA pins s σ H _ _ v u Q I rx ry ⟨a, b, xs, ys, rfl, rfl, ha, hb, hz, q0, q1, fun z => absurd hx z⟩
  by_cases hy : ys = []
  · exact op_catA pins s σ H _ _ v u Q I rx ry ⟨a, b, xs, ys, rfl, rfl, ha, hb, hz, q0, q1, fun _ z => absurd hy z⟩
  cases rx; cases ry
  obtain ⟨us, r1, p1, _⟩ := I.tuple ha
  obtain ⟨ws, r2, p2, _⟩ := I.tuple hb
  refine HT.cat_tup p1 p2 (fun z => hx (r1.nil_iff.mp z)) (fun z => absurd (r2.nil_iff.mp z) hy) (fun _ => ?_) (by rw [← r1.length, ← r2.length]; exact hz)
  obtain ⟨J, hn⟩ := laidT I (r1.append r2) (by rw [List.length_append]; exact hz)
  exact ⟨.ref _, _, J, rfl, q2 hx hy _ _ hn rfl⟩
theorem ops_add (e : D.K = X.K) : ∃ r, OpR X (binaryOp .Add) r ∧ OpS D (bop .add) r := by
  refine ⟨_, OpR.or op_add (OpR.or op_add_str (OpR.or op_cat op_catZ)), fun g h H k Q a b v x y ok ra rb hf hk pv => ?_⟩
  cases ra <;> cases rb <;> simp only [bop] at hf <;> try (cases hf; done)
  · cases hf; exact .inl ⟨_, _, rfl, rfl, pv.now hk ok (.int _)⟩
  · split at hf
    · cases hf; exact .inr (.inl ⟨_, _, rfl, rfl, by assumption, pv.now hk ok (.str _)⟩)
    · cases hf
  · rename_i a1 xs vs s1 r1 a2 ys ws s2 r2
    split at hf
    · rename_i hz
      cases hf
      rw [r1.length, r2.length] at hz
      refine .inr (.inr (.inr ⟨_, _, _, _, rfl, rfl, e ▸ SqT.mono ok.fh s1.sqT, e ▸ SqT.mono ok.fh s2.sqT, hz, fun q => ?_, fun _ q => ?_, fun _ _ p o hp hd => ?_⟩))
      · subst q
        cases r1
        exact pv.now hk ok (.tup s2 r2)
      · subst q
        cases r2
        rw [List.append_nil] at hk
        exact pv.now hk ok (.tup s1 r1)
      · exact pv.newT hk ok (r1.append r2) hp hd
    · cases hf
  · rename_i a1 xs vs s1 r1 a2 ys ws s2 r2
    split at hf
    · rename_i hz
      cases hf
      rw [r1.length, r2.length] at hz
      exact .inr (.inr (.inl ⟨_, _, _, _, rfl, rfl, ok.fh _ _ s1, ok.fh _ _ s2, hz, fun p hp => pv.newL hk ok (r1.append r2) hp⟩))
    · cases hf
theorem ops_sub : ∃ r, OpR X (binaryOp .Sub) r ∧ OpS D (bop .sub) r := by
  refine ⟨_, op_sub, fun g h H k Q a b v x y ok ra rb hf hk pv => ?_⟩
  cases ra <;> cases rb <;> simp only [bop] at hf <;> try (cases hf; done)
  cases hf; exact ⟨_, _, rfl, rfl, pv.now hk ok (.int _)⟩
theorem ops_mul : ∃ r, OpR X (binaryOp .Mult) r ∧ OpS D (bop .mul) r := by
  refine ⟨_, OpR.or op_mulW (OpR.or op_rep op_mul), fun g h H k Q a b v x y ok ra rb hf hk pv => ?_⟩
  cases ra <;> cases rb <;> simp only [bop] at hf <;> try (cases hf; done)
  · split at hf
    · rename_i hz
      cases hf
      unfold mulOk at hz
      rw [Bool.or_eq_true, Bool.or_eq_true, decide_eq_true_eq, decide_eq_true_eq, decide_eq_true_eq] at hz
      rcases hz with (hz | hz) | hz
      · exact .inl ⟨_, _, rfl, rfl, hz, pv.now hk ok (.int _)⟩
      · exact .inr (.inr ⟨_, _, rfl, rfl, .inr hz, pv.now hk ok (.int _)⟩)
      · exact .inr (.inr ⟨_, _, rfl, rfl, .inl hz, pv.now hk ok (.int _)⟩)
    · cases hf
  · rename_i a1 xs vs s1 r1 i
    split at hf
    · rename_i hz
      cases hf
      rw [r1.length] at hz
      exact .inr (.inl ⟨_, _, _, rfl, rfl, ok.fh _ _ s1, hz.1, hz.2.1, hz.2.2, fun p hp => pv.newL hk ok (r1.rep _) hp⟩)
    · cases hf
theorem ops_fdv : ∃ r, OpR X (binaryOp .FloorDiv) r ∧ OpS D (bop .fdv) r := by
  refine ⟨_, op_fdivW, fun g h H k Q a b v x y ok ra rb hf hk pv => ?_⟩
  cases ra <;> cases rb <;> simp only [bop] at hf <;> try (cases hf; done)
  split at hf
  · cases hf; exact ⟨_, _, rfl, rfl, by assumption, pv.now hk ok (.int _)⟩
  · cases hf
theorem ops_mod : ∃ r, OpR X (binaryOp .Mod) r ∧ OpS D (bop .mod) r := by
  refine ⟨_, op_mod, fun g h H k Q a b v x y ok ra rb hf hk pv => ?_⟩
  cases ra <;> cases rb <;> simp only [bop] at hf <;> try (cases hf; done)
  split at hf
  · cases hf; exact ⟨_, _, rfl, rfl, by assumption, pv.now hk ok (.int _)⟩
  · cases hf
theorem ops_pow : ∃ r, OpR X (binaryOp .Pow) r ∧ OpS D (bop .pow) r := by
  refine ⟨_, op_pow, fun g h H k Q a b v x y ok ra rb hf hk pv => ?_⟩
  cases ra <;> cases rb <;> simp only [bop] at hf <;> try (cases hf; done)
  split at hf
  · cases hf; exact ⟨_, _, rfl, rfl, by assumption, pv.now hk ok (.int _)⟩
  · cases hf
theorem ops_of (e : D.K = X.K) {op : Bop} {o : Operator} (h : bopB op o = true) : ∃ r, OpR X (binaryOp o) r ∧ OpS D (bop op) r := by
  cases op <;> cases o <;> first | (simp [bopB] at h; done) | exact ops_add e | exact ops_sub | exact ops_mul | exact ops_fdv | exact ops_mod | exact ops_pow
theorem Gd.eK (G : Gd D T Γ N sc n W X) : D.K = X.K := by obtain ⟨_, _, _, _, e⟩ := G.dat; rw [e]
theorem sd_bin (G : Gd D T Γ N sc n W X) {op : Bop} {a b : EV.E} {py : Expr} (h : chkE T N sc (.bin op a b) py = true)
    (iha : ∀ p, chkE T N sc a p = true → Sd D Γ W X a p) (ihb : ∀ p, chkE T N sc b p = true → Sd D Γ W X b p) : Sd D Γ W X (.bin op a b) py := by
  unfold chkE at h
  split at h
  · rename_i pa o pb pos
    simp only [Bool.and_eq_true] at h
    obtain ⟨⟨h1, h2⟩, h3⟩ := h
    obtain ⟨r, ho, hs⟩ := ops_of G.eK h1
    refine sd_of (PE.weak (pe_op ho (iha _ h2).pe (ihb _ h3).pe) ?_) rfl
    rintro σ H Q ⟨P, g, h, env, k, kx, st, hk, pv, px⟩
    refine seqE st hk px fun v h1 g1 H1 x hk1 e1 st1 px1 r1 => ?_
    refine seqE st1 hk1 px1 fun u h2 g2 H2 y hk2 e2 st2 px2 r2 => ?_
    obtain ⟨z, ez, hz⟩ := stepK_some hk2
    exact hs g2 h2 H2 k Q v u z x y st2.ok (e2.vr r1) r2 ez hz (pv.ext (e1.trans e2))
  · cases h
theorem sd_neg (G : Gd D T Γ N sc n W X) {a : EV.E} {py : Expr} (h : chkE T N sc (.neg a) py = true) (iha : ∀ p, chkE T N sc a p = true → Sd D Γ W X a p) : Sd D Γ W X (.neg a) py := by
  unfold chkE at h
  split at h
  · refine sd_of (PE.weak (pe_un un_neg (iha _ h).pe) ?_) rfl
    rintro σ H Q ⟨P, g, h, env, k, kx, st, hk, pv, px⟩
    refine seqE st hk px fun v h1 g1 H1 x hk1 e1 st1 px1 r1 => ?_
    cases r1 <;> simp only at hk1 <;> try (cases hk1; done)
    exact ⟨_, rfl, (pv.ext e1).now hk1 st1.ok (.int _)⟩
  · cases h

/-! comparisons -/
def OpC (D : Dat) (op : Cop) (r : R2) : Prop := ∀ (g : Gs) (h : Hs) (H : Hp) (Q : VK) (a b : Val) (v : Bool) (x y : L2.V), GOk D g h H → VR D.K g a x → VR D.K g b y → cop op a b = some v → Q (.bl v) H → r x y H Q
mutual
theorem toD_plain : ∀ {a : Val} {d : PyData}, toD a = some d → d.plain = true
  | .non, d, e => by simp [toD] at e; subst e; rfl
  | .bl b, d, e => by simp [toD] at e; subst e; rfl
  | .int b, d, e => by simp [toD] at e; subst e; rfl
  | .str b, d, e => by simp [toD] at e; subst e; rfl
  | .tup xs, d, e => by
    cases q : toDs xs with
    | none => rw [toD, q] at e; cases e
    | some ds => rw [toD, q] at e; cases e; simpa [PyData.plain] using toDs_plain q
  | .lst xs, d, e => by
    cases q : toDs xs with
    | none => rw [toD, q] at e; cases e
    | some ds => rw [toD, q] at e; cases e; simpa [PyData.plain] using toDs_plain q
  | .cup, d, e => by simp [toD] at e
  | .ref _, d, e => by simp [toD] at e
  | .mls _, d, e => by simp [toD] at e
  | .scr _, d, e => by simp [toD] at e
  | .scl _, d, e => by simp [toD] at e
  | .obj _ _, d, e => by simp [toD] at e
  | .mob _ _ _, d, e => by simp [toD] at e
  | .clo _ _, d, e => by simp [toD] at e
  | .dic _ _, d, e => by simp [toD] at e
  | .mdc _ _, d, e => by simp [toD] at e
  | .exn _ _, d, e => by simp [toD] at e
  | .tupk xs, d, e => by
    cases q : toDs xs with
    | none => rw [toD, q] at e; cases e
    | some ds => rw [toD, q] at e; cases e; simpa [PyData.plain] using toDs_plain q
theorem toDs_plain : ∀ {a : List Val} {d : List PyData}, toDs a = some d → PyData.plainAll d = true
  | [], d, e => by simp [toDs] at e; subst e; simp [PyData.plainAll]
  | x :: xs, d, e => by
    cases q : toD x with
    | none => rw [toDs, q] at e; cases e
    | some d =>
      cases q2 : toDs xs with
      | none => rw [toDs, q, q2] at e; cases e
      | some ds => rw [toDs, q, q2] at e; cases e; rw [PyData.plainAll, toD_plain q, toDs_plain q2]; rfl
end
/-- what == says, in the library's words -/
theorem eqv_is {a b : Val} {r : Bool} (h : eqv a b = some r) : ∃ d e, toD a = some d ∧ toD b = some e ∧ dOk d = true ∧ dOk e = true ∧ PyData.eqv d e = r := by
  have gen : eqvD a b = some r → ∃ d e, toD a = some d ∧ toD b = some e ∧ dOk d = true ∧ dOk e = true ∧ PyData.eqv d e = r := fun z => by
    unfold eqvD at z
    split at z
    · rename_i d f hd hf
      split at z
      · rename_i hs
        rw [Bool.and_eq_true] at hs
        cases z
        exact ⟨d, f, hd, hf, hs.1, hs.2, rfl⟩
      · cases z
    · cases z
  unfold eqv at h
  split at h
  · cases h; exact ⟨_, _, by simp [toD]; rfl, by simp [toD]; rfl, rfl, rfl, rfl⟩
  · rename_i x y
    cases h
    refine ⟨.str x, .str y, by simp [toD], by simp [toD], rfl, rfl, ?_⟩
    show PyData.eqv (.str x) (.str y) = strEq x y
    simp [PyData.eqv, strEq]
  · rename_i x y
    cases h
    refine ⟨.bool x, .bool y, by simp [toD], by simp [toD], rfl, rfl, ?_⟩
    cases x <;> cases y <;> rfl
  · exact gen h
theorem dOk_room {A : Around} {d e : PyData} (h : dOk d = true) (hu : A.units + 64 < cLine) : A.units + min d.depth e.depth < cLine := by
  have h1 : d.depth ≤ 60 := of_decide_eq_true h
  have h2 : min d.depth e.depth ≤ d.depth := Nat.min_le_left _ _
  omega
def rEqP (K : PySem.W.Frag) (neg : Bool) : R2 := fun x y H Q => ∃ d e, Dp K H x d ∧ Dp K H y e ∧ d.plain = true ∧ e.plain = true ∧ dOk d = true ∧ Q (.bl (if neg then !(PyData.eqv d e) else PyData.eqv d e)) H
theorem op_eqP (hu : X.A.units + 64 < cLine) : OpR X (compareOp .Eq) (rEqP X.K false) := by
  intro pins s σ H x y v u Q I rx ry h
  obtain ⟨d, e, hd, he, pd, pe, od, q⟩ := h
  obtain ⟨as, r1⟩ := Dp.reads I d x v hd rx
  obtain ⟨bs, r2⟩ := Dp.reads I e y u he ry
  exact SeqAt.eq_plain r1 r2 pd pe (dOk_room od hu) ⟨.bl _, H, I, rfl, q⟩
theorem op_neP (hu : X.A.units + 64 < cLine) : OpR X (compareOp .NotEq) (rEqP X.K true) := by
  intro pins s σ H x y v u Q I rx ry h
  obtain ⟨d, e, hd, he, pd, pe, od, q⟩ := h
  obtain ⟨as, r1⟩ := Dp.reads I d x v hd rx
  obtain ⟨bs, r2⟩ := Dp.reads I e y u he ry
  exact SeqAt.ne_plain r1 r2 pd pe (dOk_room od hu) ⟨.bl _, H, I, rfl, q⟩
theorem opc_eq (e : D.K = X.K) (hu : X.A.units + 64 < cLine) : ∃ r, OpR X (compareOp .Eq) r ∧ OpC D .eq r := by
  refine ⟨_, op_eqP hu, fun g h H Q a b v x y ok ra rb hf q => ?_⟩
  obtain ⟨d, f, h1, h2, h3, h4, h5⟩ := eqv_is (show eqv a b = some v from hf)
  subst h5
  exact ⟨d, f, e ▸ ra.dp ok.fh h1, e ▸ rb.dp ok.fh h2, toD_plain h1, toD_plain h2, h3, q⟩
theorem opc_ne (e : D.K = X.K) (hu : X.A.units + 64 < cLine) : ∃ r, OpR X (compareOp .NotEq) r ∧ OpC D .ne r := by
  refine ⟨_, op_neP hu, fun g h H Q a b v x y ok ra rb hf q => ?_⟩
  have hf' : ∃ u, eqv a b = some u ∧ v = !u := by
    simp only [cop] at hf
    split at hf
    · cases hf; exact ⟨_, by assumption, rfl⟩
    · cases hf
  obtain ⟨u, hu', rfl⟩ := hf'
  obtain ⟨d, f, h1, h2, h3, h4, h5⟩ := eqv_is hu'
  subst h5
  exact ⟨d, f, e ▸ ra.dp ok.fh h1, e ▸ rb.dp ok.fh h2, toD_plain h1, toD_plain h2, h3, q⟩
theorem opc_lt : ∃ r, OpR X (compareOp .Lt) r ∧ OpC D .lt r := by
  refine ⟨_, op_lt, fun g h H Q a b v x y ok ra rb hf q => ?_⟩
  cases ra <;> cases rb <;> simp only [cop] at hf <;> try (cases hf; done)
  cases hf; exact ⟨_, _, rfl, rfl, q⟩
theorem opc_le : ∃ r, OpR X (compareOp .LtE) r ∧ OpC D .le r := by
  refine ⟨_, op_le, fun g h H Q a b v x y ok ra rb hf q => ?_⟩
  cases ra <;> cases rb <;> simp only [cop] at hf <;> try (cases hf; done)
  cases hf; exact ⟨_, _, rfl, rfl, q⟩
theorem opc_gt : ∃ r, OpR X (compareOp .Gt) r ∧ OpC D .gt r := by
  refine ⟨_, op_gt, fun g h H Q a b v x y ok ra rb hf q => ?_⟩
  cases ra <;> cases rb <;> simp only [cop] at hf <;> try (cases hf; done)
  cases hf; exact ⟨_, _, rfl, rfl, q⟩
theorem opc_ge : ∃ r, OpR X (compareOp .GtE) r ∧ OpC D .ge r := by
  refine ⟨_, op_ge, fun g h H Q a b v x y ok ra rb hf q => ?_⟩
  cases ra <;> cases rb <;> simp only [cop] at hf <;> try (cases hf; done)
  cases hf; exact ⟨_, _, rfl, rfl, q⟩
theorem dataOk_is {x : Val} (h : dataOk x = true) : ∃ d, toD x = some d ∧ dOk d = true := by
  unfold dataOk at h
  split at h
  · exact ⟨.none, by simp [toD], rfl⟩
  · exact ⟨.bool _, by simp [toD]; rfl, rfl⟩
  · exact ⟨.int _, by simp [toD]; rfl, rfl⟩
  · exact ⟨.str _, by simp [toD]; rfl, rfl⟩
  · split at h
    · exact ⟨_, by assumption, h⟩
    · cases h
theorem inL_is {x : Val} {d : PyData} (hd : toD x = some d) : ∀ {ys : List Val} {r : Bool}, inL x ys = some r → ∃ ds, toDs ys = some ds ∧ (ds.any fun y => PyData.eqv y d) = r
  | [], r, h => by cases h; exact ⟨[], by simp [toDs], rfl⟩
  | y :: ys, r, h => by
    unfold inL at h
    cases q : eqv y x with
    | none => rw [q] at h; cases h
    | some u =>
      obtain ⟨e, d', h1, h2, h3, h4, h5⟩ := eqv_is q
      have ed : d' = d := Option.some.inj (h2.symm.trans hd)
      subst ed
      cases q2 : inL x ys with
      | none => rw [q, q2] at h; cases u <;> cases h
      | some w =>
        obtain ⟨ds, k1, k3⟩ := inL_is hd q2
        refine ⟨e :: ds, by rw [toDs, h1, k1], ?_⟩
        rw [q, q2] at h
        rw [List.any_cons, h5, k3]
        cases u <;> cases h <;> rfl
theorem seqs {g : Gs} {h : Hs} {H : Hp} {b : Val} {y : L2.V} {ys : List Val} (ok : GOk D g h H) (n : ∀ xs, b ≠ .mls xs) (rb : VR D.K g b y) (e : itemsOf b = some ys) :
    ∃ p vs, y = .ref p ∧ (SqL D.K H p vs ∨ SqT D.K H p vs) ∧ VRs D.K g ys vs := by
  cases rb with
  | tup s r => cases e; exact ⟨_, _, rfl, .inr (SqT.mono ok.fh s.sqT), r⟩
  | tupk s r => cases e; exact ⟨_, _, rfl, .inr (SqT.mono ok.fh s), r⟩
  | lst s r => cases e; exact ⟨_, _, rfl, .inl (SqL.of (ok.fh _ _ s)), r⟩
  | _ => cases e
theorem VR.noMls {K : PySem.W.Frag} {g : Gs} {a : Val} {x : L2.V} (r : VR K g a x) : ∀ xs, a ≠ .mls xs := by
  intro xs e; subst e; cases r
theorem dOk_roomIn {A : Around} {ds : List PyData} {d : PyData} (h : dOk d = true) (hu : A.units + 65 < cLine) : A.units + 1 + min (PyData.depthAll ds) d.depth < cLine := by
  have h1 : d.depth ≤ 60 := of_decide_eq_true h
  have h2 : min (PyData.depthAll ds) d.depth ≤ d.depth := Nat.min_le_right _ _
  omega
/-- x in a row of data -/
def rInA (K : PySem.W.Frag) (neg : Bool) : R2 := fun x y H Q => ∃ p vs d ds, y = .ref p ∧ (SqL K H p vs ∨ SqT K H p vs) ∧ DpAll K H vs ds ∧ Dp K H x d ∧ PyData.plainAll ds = true ∧ d.plain = true ∧ dOk d = true ∧ Q (.bl (if neg then !(ds.any fun y => PyData.eqv y d) else ds.any fun y => PyData.eqv y d)) H
theorem op_inA (hu : X.A.units + 65 < cLine) : OpR X (compareOp .In) (rInA X.K false) := by
  intro pins s σ H x y v u Q I rx ry h
  obtain ⟨p, vs, d, ds, rfl, hs, ha, hd, hl, hp, sd, q⟩ := h
  obtain ⟨as, r1⟩ := Dp.reads I d x v hd rx
  rcases hs with hs | hs
  · obtain ⟨bs, r2⟩ := Dp.reads I (.list ds) (.ref p) u (.lst hs ha) ry
    exact SeqAt.in_list_data r2 r1 hl hp (dOk_roomIn sd hu) ⟨.bl _, H, I, rfl, q⟩
  · obtain ⟨bs, r2⟩ := Dp.reads I (.tuple ds) (.ref p) u (.tup hs ha) ry
    exact SeqAt.in_tuple_data r2 r1 hl hp (dOk_roomIn sd hu) ⟨.bl _, H, I, rfl, q⟩
theorem op_ninA (hu : X.A.units + 65 < cLine) : OpR X (compareOp .NotIn) (rInA X.K true) := by
  intro pins s σ H x y v u Q I rx ry h
  obtain ⟨p, vs, d, ds, rfl, hs, ha, hd, hl, hp, sd, q⟩ := h
  obtain ⟨as, r1⟩ := Dp.reads I d x v hd rx
  rcases hs with hs | hs
  · obtain ⟨bs, r2⟩ := Dp.reads I (.list ds) (.ref p) u (.lst hs ha) ry
    exact SeqAt.notIn_list_data r2 r1 hl hp (dOk_roomIn sd hu) ⟨.bl _, H, I, rfl, q⟩
  · obtain ⟨bs, r2⟩ := Dp.reads I (.tuple ds) (.ref p) u (.tup hs ha) ry
    exact SeqAt.notIn_tuple_data r2 r1 hl hp (dOk_roomIn sd hu) ⟨.bl _, H, I, rfl, q⟩
theorem opc_in (e : D.K = X.K) (hu : X.A.units + 65 < cLine) : ∃ r, OpR X (compareOp .In) r ∧ OpC D .inn r := by
  refine ⟨_, op_inA hu, fun g h H Q a b v x y ok ra rb hf q => ?_⟩
  have hf' : ∃ ys, itemsOf b = some ys ∧ dataOk a = true ∧ inL a ys = some v := by
    simp only [cop] at hf
    split at hf
    · split at hf
      · exact ⟨_, by assumption, by assumption, hf⟩
      · cases hf
    · cases hf
  obtain ⟨ys, e1, e2, e3⟩ := hf'
  obtain ⟨p, vs, e4, e5, r⟩ := seqs ok rb.noMls rb e1
  obtain ⟨d, f1, f2⟩ := dataOk_is e2
  obtain ⟨ds, k1, k3⟩ := inL_is f1 e3
  subst k3
  exact ⟨p, vs, d, ds, e4, e ▸ e5, e ▸ r.dp ok.fh k1, e ▸ ra.dp ok.fh f1, toDs_plain k1, toD_plain f1, f2, q⟩
theorem opc_nin (e : D.K = X.K) (hu : X.A.units + 65 < cLine) : ∃ r, OpR X (compareOp .NotIn) r ∧ OpC D .nin r := by
  refine ⟨_, op_ninA hu, fun g h H Q a b v x y ok ra rb hf q => ?_⟩
  have hf' : ∃ ys u, itemsOf b = some ys ∧ dataOk a = true ∧ inL a ys = some u ∧ v = !u := by
    simp only [cop] at hf
    split at hf
    · split at hf
      · cases q2 : inL a _ with
        | none => rw [q2] at hf; cases hf
        | some u => rw [q2] at hf; cases hf; exact ⟨_, u, by assumption, by assumption, q2, rfl⟩
      · cases hf
    · cases hf
  obtain ⟨ys, u, e1, e2, e3, rfl⟩ := hf'
  obtain ⟨p, vs, e4, e5, r⟩ := seqs ok rb.noMls rb e1
  obtain ⟨d, f1, f2⟩ := dataOk_is e2
  obtain ⟨ds, k1, k3⟩ := inL_is f1 e3
  subst k3
  exact ⟨p, vs, d, ds, e4, e ▸ e5, e ▸ r.dp ok.fh k1, e ▸ ra.dp ok.fh f1, toDs_plain k1, toD_plain f1, f2, q⟩
theorem Gd.un (G : Gd D T Γ N sc n W X) : X.A.units + 64 < cLine := G.room.units
theorem Gd.un2 (G : Gd D T Γ N sc n W X) : X.A.units + 65 < cLine := by have := G.room.un; omega
theorem opc_of (G : Gd D T Γ N sc n W X) {op : Cop} {o : CmpOp} (h : copB op o = true) (hv : copV op = true) : ∃ r, OpR X (compareOp o) r ∧ OpC D op r := by
  cases op <;> cases o <;> first | (simp [copB] at h; done) | (simp [copV] at hv; done) | exact opc_eq G.eK G.un | exact opc_ne G.eK G.un | exact opc_lt | exact opc_le | exact opc_gt | exact opc_ge | exact opc_in G.eK G.un2 | exact opc_nin G.eK G.un2
theorem cmp_ev {op : Cop} {a b : EV.E} {env : Env} {h : Hs} {k kx : KV} (hv : copV op = true) :
    ev D.X Γ (.cmp op a b) env h k kx = ev D.X Γ a env h (fun x h => ev D.X Γ b env h (fun y h => cmpV D.X Γ op x y h k kx) kx) kx := by
  cases op <;> first | (simp [copV] at hv; done) | (cases b <;> rfl)
theorem cmpV_plain {op : Cop} {x y : Val} {h : Hs} {k kx : KV} (e : ∀ c, D.X.eqm c = none) (hk : cmpV D.X Γ op x y h k kx = true) : ∃ z, cop op x y = some z ∧ k (.bl z) h = true := by
  unfold cmpV at hk
  split at hk
  · rw [e] at hk; cases hk
  · rw [e] at hk; cases hk
  · obtain ⟨z, e1, e2⟩ := stepK_some hk
    exact ⟨z, e1, e2⟩
theorem ev_isN {a : EV.E} {env : Env} {h : Hs} {k kx : KV} : ev D.X Γ (.cmp .isN a .non) env h k kx = ev D.X Γ a env h (fun x h => k (.bl (match x with | .non => true | _ => false)) h) kx := rfl
theorem ev_notN {a : EV.E} {env : Env} {h : Hs} {k kx : KV} : ev D.X Γ (.cmp .notN a .non) env h k kx = ev D.X Γ a env h (fun x h => k (.bl (match x with | .non => false | _ => true)) h) kx := rfl
theorem ev_isB {a : EV.E} {c : Bool} {env : Env} {h : Hs} {k kx : KV} : ev D.X Γ (.cmp .isN a (.bl c)) env h k kx = ev D.X Γ a env h (fun x h => match x with | .bl d => k (.bl (d == c)) h | _ => false) kx := rfl
theorem ev_notB {a : EV.E} {c : Bool} {env : Env} {h : Hs} {k kx : KV} : ev D.X Γ (.cmp .notN a (.bl c)) env h k kx = ev D.X Γ a env h (fun x h => match x with | .bl d => k (.bl (!(d == c))) h | _ => false) kx := rfl
/-- what is shown of a comparison by its two readings -/
def CmpK (D : Dat) (Γ : Sem) (W : WX) (e : EV.E) (t : TE) : Prop := ∀ (σ : L2.St) (H : Hp) (Q : VK), (∃ (P : Addr → Prop) (g : Gs) (h : Hs) (env : Env) (k kx : KV), Sta D P g h H env σ ∧ ev D.X Γ e env h k kx = true ∧ (∀ v h' g' H', k (.bl v) h' = true → Ex g H g' H' → GOk D g' h' H' → Q (.bl v) H') ∧ PostX D W σ g H kx) → t σ H Q
theorem CmpK.pe {e : EV.E} {t : TE} (c : CmpK D Γ W e t) : ∀ σ H Q, simE D Γ W e σ H Q → t σ H Q := by
  rintro σ H Q ⟨P, g, h, env, k, kx, st, hk, pv, px⟩
  exact c σ H Q ⟨P, g, h, env, k, kx, st, hk, fun v h' g' H' a b c => pv _ _ _ _ _ a b c (.bl _), px⟩
theorem CmpK.pt {e : EV.E} {t : TE} (c : CmpK D Γ W e t) : ∀ σ H Q, simT D Γ W e σ H Q → tTest t σ H Q := by
  rintro σ H Q ⟨P, g, h, env, k, kx, st, hk, pv, px⟩
  refine c σ H _ ⟨P, g, h, env, k, kx, st, hk, fun v h' g' H' a b c => ?_, px⟩
  obtain ⟨u, e, q⟩ := pv _ _ _ _ a b c
  cases e
  exact ⟨_, rfl, q⟩
theorem CmpK.sd {e : EV.E} {pa pb : Expr} {o : CmpOp} {pos : Pos} {t : TE} (c : CmpK D Γ W e t) (e0 : PE X (.Compare pa [o] [pb] pos) t) (t0 : PT X (.Compare pa [o] [pb] pos) (tTest t)) : Sd D Γ W X e (.Compare pa [o] [pb] pos) :=
  ⟨PE.weak e0 c.pe, PT.weak t0 c.pt, fun ⟨_, _, _, z⟩ => by cases z⟩
theorem sd_cmp (G : Gd D T Γ N sc n W X) {op : Cop} {a b : EV.E} {py : Expr} (h : chkE T N sc (.cmp op a b) py = true)
    (iha : ∀ p, chkE T N sc a p = true → Sd D Γ W X a p) (ihb : ∀ p, chkE T N sc b p = true → Sd D Γ W X b p) : Sd D Γ W X (.cmp op a b) py := by
  unfold chkE at h
  split at h
  · rename_i pa o pb pos
    simp only [Bool.and_eq_true] at h
    obtain ⟨⟨⟨⟨h1, h2⟩, h3⟩, h4⟩, h5⟩ := h
    cases hv : copV op with
    | true =>
      obtain ⟨r, ho, hs⟩ := opc_of G h1 hv
      have key : CmpK D Γ W (.cmp op a b) (tOp r (simE D Γ W a) (simE D Γ W b)) := by
        rintro σ H Q ⟨P, g, h, env, k, kx, st, hk, pv, px⟩
        rw [cmp_ev hv] at hk
        refine seqE st hk px fun v h1 g1 H1 x hk1 e1 st1 px1 r1 => ?_
        refine seqE st1 hk1 px1 fun u h2 g2 H2 y hk2 e2 st2 px2 r2 => ?_
        obtain ⟨z, ez, hz⟩ := cmpV_plain G.fns.eqm hk2
        exact hs g2 h2 H2 Q v u z x y st2.ok (e2.vr r1) r2 ez (pv _ _ _ _ hz (e1.trans e2) st2.ok)
      exact key.sd (pe_cmpR ho (iha _ h3).pe (ihb _ h4).pe (tame_mark h2 o)) (pt_cmpR ho (iha _ h3).pe (ihb _ h4).pe (tame_mark h2 o))
    | false =>
      rw [hv, Bool.false_or] at h5
      have hb : b = .non ∨ ∃ c, b = .bl c := by
        split at h5
        · exact .inl rfl
        · exact .inr ⟨_, rfl⟩
        · cases h5
      rcases hb with rfl | ⟨c, rfl⟩
      · have hpb : ∃ j p, pb = .Constant .none j p := by
          unfold chkE at h4
          split at h4
          · exact ⟨_, _, rfl⟩
          · cases h4
        obtain ⟨j, p, rfl⟩ := hpb
        cases op <;> first | (simp [copV] at hv; done) | skip
        · cases o <;> first | (simp [copB] at h1; done) | skip
          have key : CmpK D Γ W (.cmp .isN a .non) (tIsN (simE D Γ W a)) := by
            rintro σ H Q ⟨P, g, h, env, k, kx, st, hk, pv, px⟩
            rw [ev_isN] at hk
            refine seqE st hk px fun v h1 g1 H1 x hk1 e1 st1 px1 r1 => ?_
            cases r1 <;> exact pv _ _ _ _ hk1 e1 st1.ok
          have pc := pc_isN (j := j) (pos' := p) (iha _ h3).pe
          exact key.sd (pe_cmp (pos := pos) pc rfl) (pt_cmp (pos := pos) pc rfl)
        · cases o <;> first | (simp [copB] at h1; done) | skip
          have key : CmpK D Γ W (.cmp .notN a .non) (tNotN (simE D Γ W a)) := by
            rintro σ H Q ⟨P, g, h, env, k, kx, st, hk, pv, px⟩
            rw [ev_notN] at hk
            refine seqE st hk px fun v h1 g1 H1 x hk1 e1 st1 px1 r1 => ?_
            cases r1 <;> exact pv _ _ _ _ hk1 e1 st1.ok
          have pc := pc_notN (j := j) (pos' := p) (iha _ h3).pe
          exact key.sd (pe_cmp (pos := pos) pc rfl) (pt_cmp (pos := pos) pc rfl)
      · cases op <;> first | (simp [copV] at hv; done) | skip
        · cases o <;> first | (simp [copB] at h1; done) | skip
          have key : CmpK D Γ W (.cmp .isN a (.bl c)) (tOp rIsB (simE D Γ W a) (simE D Γ W (.bl c))) := by
            rintro σ H Q ⟨P, g, h, env, k, kx, st, hk, pv, px⟩
            rw [ev_isB] at hk
            refine seqE st hk px fun v h1 g1 H1 x hk1 e1 st1 px1 r1 => ?_
            cases r1 <;> simp only at hk1 <;> try (cases hk1; done)
            rename_i d
            refine ⟨_, _, h1, env, fun v h' => v.isB c && k (.bl (d == c)) h', noX, st1, ?_, ?_, fun _ _ _ _ _ _ z => by cases z⟩
            · show (Val.isB (.bl c) c && k (.bl (d == c)) h1) = true
              rw [hk1]; simp [Val.isB]
            · intro v h' g' H' x z ez ok' r
              rw [Bool.and_eq_true] at z
              cases r <;> simp only [Val.isB] at z <;> try (cases z.1; done)
              have e0 := of_decide_eq_true z.1
              subst e0
              refine ⟨d, _, rfl, rfl, ?_⟩
              rw [show decide (d = _) = (d == _) from rfl]
              exact pv _ _ _ _ z.2 (e1.trans ez) ok'
          exact key.sd (pe_cmpR op_isBl (iha _ h3).pe (ihb _ h4).pe (tame_mark h2 .Is)) (pt_cmpR op_isBl (iha _ h3).pe (ihb _ h4).pe (tame_mark h2 .Is))
        · cases o <;> first | (simp [copB] at h1; done) | skip
          have key : CmpK D Γ W (.cmp .notN a (.bl c)) (tOp rNotB (simE D Γ W a) (simE D Γ W (.bl c))) := by
            rintro σ H Q ⟨P, g, h, env, k, kx, st, hk, pv, px⟩
            rw [ev_notB] at hk
            refine seqE st hk px fun v h1 g1 H1 x hk1 e1 st1 px1 r1 => ?_
            cases r1 <;> simp only at hk1 <;> try (cases hk1; done)
            rename_i d
            refine ⟨_, _, h1, env, fun v h' => v.isB c && k (.bl (!(d == c))) h', noX, st1, ?_, ?_, fun _ _ _ _ _ _ z => by cases z⟩
            · show (Val.isB (.bl c) c && k (.bl (!(d == c))) h1) = true
              rw [hk1]; simp [Val.isB]
            · intro v h' g' H' x z ez ok' r
              rw [Bool.and_eq_true] at z
              cases r <;> simp only [Val.isB] at z <;> try (cases z.1; done)
              have e0 := of_decide_eq_true z.1
              subst e0
              refine ⟨d, _, rfl, rfl, ?_⟩
              rw [show decide (d = _) = (d == _) from rfl]
              exact pv _ _ _ _ z.2 (e1.trans ez) ok'
          exact key.sd (pe_cmpR op_notBl (iha _ h3).pe (ihb _ h4).pe (tame_mark h2 .IsNot)) (pt_cmpR op_notBl (iha _ h3).pe (ihb _ h4).pe (tame_mark h2 .IsNot))
  · cases h
end
end EV
namespace EV
open PySem PySem.Spec PyProof.Rows L2

/-! ### and, or, not, if else, chains -/
section
variable {X : Cx}
def tIfT (tc : TT) (ta tb : TT) : TT := fun σ H Q => tc σ H fun k H1 => if k = true then ta σ H1 Q else tb σ H1 Q
theorem pt_ife {c a b : Expr} {pos : Pos} {tc ta tb : TT} (hc : PT X c tc) (ha : PT X a ta) (hb : PT X b tb) : PT X (.IfExp c a b pos) (tIfT tc ta tb) := by
  refine ⟨fun pins s σ H Q I h => isTrue_IfExp (thn (hc.run pins s σ H _ I h) fun d s1 ⟨H1, I1, q1⟩ => ?_)⟩
  cases d with
  | true => exact ha.run pins s1 σ H1 Q I1 q1
  | false => exact hb.run pins s1 σ H1 Q I1 q1
end
section
variable {D : Dat} {T : Tab} {Γ : Sem} {N : List Str} {sc : Scope} {n : Nat} {W : WX} {X : Cx}
def mB (v : Val) (A : Bool → Bool) : Bool := match v with | .bl true => A true | .bl false => A false | _ => false
theorem boolV {v : Val} {A : Bool → Bool} (hk : mB v A = true) : ∃ b, v = .bl b ∧ A b = true := by
  cases v <;> first | (cases hk; done) | skip
  rename_i b
  cases b <;> exact ⟨_, rfl, hk⟩
theorem boolK {g : Gs} {v : Val} {x : L2.V} (r : VR D.K g v x) {A : Bool → Bool} (hk : mB v A = true) : ∃ b, v = .bl b ∧ x = .bl b ∧ A b = true := by
  obtain ⟨b, rfl, e⟩ := boolV hk
  cases r
  exact ⟨_, rfl, rfl, e⟩
theorem sd_and (G : Gd D T Γ N sc n W X) {a b : EV.E} {py : Expr} (h : chkE T N sc (.andE a b) py = true)
    (iha : ∀ p, chkE T N sc a p = true → Sd D Γ W X a p) (ihb : ∀ p, chkE T N sc b p = true → Sd D Γ W X b p) : Sd D Γ W X (.andE a b) py := by
  unfold chkE at h
  split at h
  · rename_i pa pb r pos
    rw [Bool.and_eq_true] at h
    have A := iha _ h.1
    have B := ihb _ h.2
    have w := pw_and (pos := pos) A.pt (B.pw ⟨_, _, _, rfl⟩)
    have w' : PW X (.BoolOp .And (pa :: pb :: r) pos) (simT D Γ W (.andE a b)) := by
      refine PW.weak w ?_
      rintro σ H Q ⟨P, g, h, env, k, kx, st, hk, pv, px⟩
      refine seqT st hk px fun v h1 g1 H1 hk1 e1 st1 px1 => ?_
      obtain ⟨c, rfl, hc⟩ := boolV (A := fun c => match c with | true => ev D.X Γ b env h1 k kx | false => k (.bl false) h1) hk1
      refine ⟨c, rfl, ?_⟩
      cases c with
      | true => exact seqT st1 hc px1 fun v h2 g2 H2 hk2 e2 st2 px2 => pv v h2 g2 H2 hk2 (e1.trans e2) st2.ok
      | false =>
        obtain ⟨d, e, q⟩ := pv _ _ _ _ hc e1 st1.ok
        cases e
        exact q
    refine ⟨PE.weak (pe_and (pos := pos) A.pe B.pe) ?_, w'.pt, fun _ => w'⟩
    rintro σ H Q ⟨P, g, h, env, k, kx, st, hk, pv, px⟩
    refine seqE st hk px fun v h1 g1 H1 x hk1 e1 st1 px1 r1 => ?_
    obtain ⟨c, rfl, rfl, hc⟩ := boolK r1 (A := fun c => match c with | true => ev D.X Γ b env h1 k kx | false => k (.bl false) h1) hk1
    refine ⟨c, rfl, ?_⟩
    cases c with
    | true => exact seqE st1 hc px1 fun v h2 g2 H2 x hk2 e2 st2 px2 r2 => pv v h2 g2 H2 x hk2 (e1.trans e2) st2.ok r2
    | false => exact pv _ _ _ _ _ hc e1 st1.ok (.bl _)
  · cases h
theorem sd_or (G : Gd D T Γ N sc n W X) {a b : EV.E} {py : Expr} (h : chkE T N sc (.orE a b) py = true)
    (iha : ∀ p, chkE T N sc a p = true → Sd D Γ W X a p) (ihb : ∀ p, chkE T N sc b p = true → Sd D Γ W X b p) : Sd D Γ W X (.orE a b) py := by
  unfold chkE at h
  split at h
  · rename_i pa pb r pos
    rw [Bool.and_eq_true] at h
    have A := iha _ h.1
    have B := ihb _ h.2
    have w := pw_or (pos := pos) A.pt (B.pw ⟨_, _, _, rfl⟩)
    have w' : PW X (.BoolOp .Or (pa :: pb :: r) pos) (simT D Γ W (.orE a b)) := by
      refine PW.weak w ?_
      rintro σ H Q ⟨P, g, h, env, k, kx, st, hk, pv, px⟩
      refine seqT st hk px fun v h1 g1 H1 hk1 e1 st1 px1 => ?_
      obtain ⟨c, rfl, hc⟩ := boolV (A := fun c => match c with | true => k (.bl true) h1 | false => ev D.X Γ b env h1 k kx) hk1
      refine ⟨c, rfl, ?_⟩
      cases c with
      | false => exact seqT st1 hc px1 fun v h2 g2 H2 hk2 e2 st2 px2 => pv v h2 g2 H2 hk2 (e1.trans e2) st2.ok
      | true =>
        obtain ⟨d, e, q⟩ := pv _ _ _ _ hc e1 st1.ok
        cases e
        exact q
    refine ⟨PE.weak (pe_or (pos := pos) A.pe B.pe) ?_, w'.pt, fun _ => w'⟩
    rintro σ H Q ⟨P, g, h, env, k, kx, st, hk, pv, px⟩
    refine seqE st hk px fun v h1 g1 H1 x hk1 e1 st1 px1 r1 => ?_
    obtain ⟨c, rfl, rfl, hc⟩ := boolK r1 (A := fun c => match c with | true => k (.bl true) h1 | false => ev D.X Γ b env h1 k kx) hk1
    refine ⟨c, rfl, ?_⟩
    cases c with
    | false => exact seqE st1 hc px1 fun v h2 g2 H2 x hk2 e2 st2 px2 r2 => pv v h2 g2 H2 x hk2 (e1.trans e2) st2.ok r2
    | true => exact pv _ _ _ _ _ hc e1 st1.ok (.bl _)
  · cases h
theorem sd_one (G : Gd D T Γ N sc n W X) {a : EV.E} {py : Expr} (h : chkE T N sc (.one a) py = true)
    (iha : ∀ p, chkE T N sc a p = true → Sd D Γ W X a p) : Sd D Γ W X (.one a) py := by
  unfold chkE at h
  split at h
  · rename_i op pa pos
    have A := iha _ h
    have w' : PW X (.BoolOp op [pa] pos) (simT D Γ W (.one a)) := by
      have t : PT X pa (simT D Γ W (.one a)) := PT.weak A.pt fun σ H Q z => z
      cases op
      · exact pw_and1 t
      · exact pw_or1 t
    exact ⟨PE.weak (pe_one A.pe) fun σ H Q z => z, w'.pt, fun _ => w'⟩
  · cases h
theorem sd_not (G : Gd D T Γ N sc n W X) {a : EV.E} {py : Expr} (h : chkE T N sc (.notE a) py = true)
    (iha : ∀ p, chkE T N sc a p = true → Sd D Γ W X a p) : Sd D Γ W X (.notE a) py := by
  unfold chkE at h
  split at h
  · rename_i pa pos
    have A := iha _ h
    refine ⟨PE.weak (pe_not A.pe) ?_, PT.weak (pt_not A.pt) ?_, fun ⟨_, _, _, z⟩ => by cases z⟩
    · rintro σ H Q ⟨P, g, h, env, k, kx, st, hk, pv, px⟩
      refine seqE st hk px fun v h1 g1 H1 x hk1 e1 st1 px1 r1 => ?_
      cases r1 <;> first | (cases hk1; done) | skip
      exact ⟨_, rfl, pv _ _ _ _ _ hk1 e1 st1.ok (.bl _)⟩
    · rintro σ H Q ⟨P, g, h, env, k, kx, st, hk, pv, px⟩
      refine seqT st hk px fun v h1 g1 H1 hk1 e1 st1 px1 => ?_
      cases v <;> first | (cases hk1; done) | skip
      obtain ⟨d, e, q⟩ := pv _ _ _ _ hk1 e1 st1.ok
      cases e
      exact ⟨_, rfl, q⟩
  · cases h
theorem sd_ife (G : Gd D T Γ N sc n W X) {c a b : EV.E} {py : Expr} (h : chkE T N sc (.ife c a b) py = true)
    (ihc : ∀ p, chkE T N sc c p = true → Sd D Γ W X c p) (iha : ∀ p, chkE T N sc a p = true → Sd D Γ W X a p) (ihb : ∀ p, chkE T N sc b p = true → Sd D Γ W X b p) : Sd D Γ W X (.ife c a b) py := by
  unfold chkE at h
  split at h
  · rename_i pc pa pb pos
    simp only [Bool.and_eq_true] at h
    have C := ihc _ h.1.1
    have A := iha _ h.1.2
    have B := ihb _ h.2
    refine ⟨PE.weak (pe_ifExp C.pt A.pe B.pe) ?_, PT.weak (pt_ife C.pt A.pt B.pt) ?_, fun ⟨_, _, _, z⟩ => by cases z⟩
    · rintro σ H Q ⟨P, g, h, env, k, kx, st, hk, pv, px⟩
      refine seqT st hk px fun v h1 g1 H1 hk1 e1 st1 px1 => ?_
      obtain ⟨c, rfl, hc⟩ := boolV (A := fun c => match c with | true => ev D.X Γ a env h1 k kx | false => ev D.X Γ b env h1 k kx) hk1
      refine ⟨c, rfl, ?_⟩
      cases c <;> exact seqE st1 hc px1 fun v h2 g2 H2 x hk2 e2 st2 px2 r2 => pv v h2 g2 H2 x hk2 (e1.trans e2) st2.ok r2
    · rintro σ H Q ⟨P, g, h, env, k, kx, st, hk, pv, px⟩
      refine seqT st hk px fun v h1 g1 H1 hk1 e1 st1 px1 => ?_
      obtain ⟨c, rfl, hc⟩ := boolV (A := fun c => match c with | true => ev D.X Γ a env h1 k kx | false => ev D.X Γ b env h1 k kx) hk1
      refine ⟨c, rfl, ?_⟩
      cases c <;> exact seqT st1 hc px1 fun v h2 g2 H2 hk2 e2 st2 px2 => pv v h2 g2 H2 hk2 (e1.trans e2) st2.ok
  · cases h
theorem sd_chain (G : Gd D T Γ N sc n W X) {o1 o2 : Cop} {a b c : EV.E} {py : Expr} (h : chkE T N sc (.chain o1 o2 a b c) py = true)
    (iha : ∀ p, chkE T N sc a p = true → Sd D Γ W X a p) (ihb : ∀ p, chkE T N sc b p = true → Sd D Γ W X b p) (ihc : ∀ p, chkE T N sc c p = true → Sd D Γ W X c p) : Sd D Γ W X (.chain o1 o2 a b c) py := by
  unfold chkE at h
  split at h
  · rename_i pa p1 p2 pb pc pos
    simp only [Bool.and_eq_true] at h
    obtain ⟨⟨⟨⟨⟨⟨⟨h1, h2⟩, h3⟩, h4⟩, h5⟩, h6⟩, h7⟩, h8⟩ := h
    obtain ⟨r1, ho1, hs1⟩ := opc_of G h1 h3
    obtain ⟨r2, ho2, hs2⟩ := opc_of G h2 h4
    have A := iha _ h6
    have B := ihb _ h7
    have C := ihc _ h8
    have lm : lastMarks [p1, p2] [pb, pc] = false := tame_mark h5 p2
    have key : ∀ (σ : L2.St) (H : Hp) (Q : VK), (∃ (P : Addr → Prop) (g : Gs) (h : Hs) (env : Env) (k kx : KV), Sta D P g h H env σ ∧ ev D.X Γ (.chain o1 o2 a b c) env h k kx = true ∧ (∀ v h' g' H', k (.bl v) h' = true → Ex g H g' H' → GOk D g' h' H' → Q (.bl v) H') ∧ PostX D W σ g H kx) →
        tChain r1 r2 (simE D Γ W a) (simE D Γ W b) (simE D Γ W c) σ H Q := by
      rintro σ H Q ⟨P, g, h, env, k, kx, st, hk, pv, px⟩
      refine seqE st hk px fun v h1 g1 H1 x hk1 e1 st1 px1 r1 => ?_
      refine seqE st1 hk1 px1 fun u h2 g2 H2 y hk2 e2 st2 px2 r2 => ?_
      obtain ⟨z, ez, hz⟩ := stepK_some hk2
      refine hs1 g2 h2 H2 _ v u z x y st2.ok (e2.vr r1) r2 ez ?_
      refine ⟨z, rfl, ?_⟩
      cases z with
      | true =>
        refine seqE st2 hz px2 fun w h3 g3 H3 y3 hk3 e3 st3 px3 r3 => ?_
        obtain ⟨z, ez, hz⟩ := stepK_some hk3
        exact hs2 g3 h3 H3 Q u w z y y3 st3.ok (e3.vr r2) r3 ez (pv _ _ _ _ hz ((e1.trans e2).trans e3) st3.ok)
      | false => exact pv _ _ _ _ hz (e1.trans e2) st2.ok
    have ck : CmpK D Γ W (.chain o1 o2 a b c) (tChain r1 r2 (simE D Γ W a) (simE D Γ W b) (simE D Γ W c)) := key
    exact ⟨PE.weak (pe_chain ho1 ho2 A.pe B.pe C.pe lm) ck.pe, PT.weak (pt_chain ho1 ho2 A.pe B.pe C.pe lm) ck.pt, fun ⟨_, _, _, z⟩ => by cases z⟩
  · cases h
end
end EV
namespace EV
open PySem PySem.Spec PyProof.Rows L2

/-- the ghost state has grown -/
structure Up (g g' : Gs) : Prop where
  ff : ∀ a o, g.F a = some o → g'.F a = some o
  uu : ∀ a u, g.U a = some u → g'.U a = some u
  cl : g'.cl = g.cl
theorem Up.refl (g : Gs) : Up g g := ⟨fun _ _ e => e, fun _ _ e => e, rfl⟩
theorem Up.trans {a b c : Gs} (x : Up a b) (y : Up b c) : Up a c := ⟨fun p o e => y.ff p o (x.ff p o e), fun p o e => y.uu p o (x.uu p o e), y.cl.trans x.cl⟩
theorem Ex.up {g g' : Gs} {H H' : Hp} (e : Ex g H g' H') : Up g g' := ⟨e.ff, e.uu, e.cl.1⟩
theorem Up.vr {K : PySem.W.Frag} {g g' : Gs} (u : Up g g') {v : Val} {x : L2.V} (r : VR K g v x) : VR K g' v x := r.mono u.ff u.uu u.cl
theorem Up.vrs {K : PySem.W.Frag} {g g' : Gs} (u : Up g g') {v : List Val} {x : List L2.V} (r : VRs K g v x) : VRs K g' v x := r.mono u.ff u.uu u.cl
/-- an iterator that gives xs -/
structure JR (D : Dat) (g : Gs) (xs : List Val) (J : It) : Prop where
  go : ∀ i g' h H, i < xs.length → Up g g' → GOk D g' h H → J.go i H
  stop : ∀ i g' h H, i = xs.length → Up g g' → GOk D g' h H → J.stop i H
  yld : ∀ i x g' h H v H', xs[i]? = some x → Up g g' → GOk D g' h H → J.yld i H v H' → ∃ g'', Ex g' H g'' H' ∧ GOk D g'' h H' ∧ VR D.K g'' x v
theorem JR.up {D : Dat} {g g' : Gs} {xs : List Val} {J : It} (j : JR D g xs J) (u : Up g g') : JR D g' xs J :=
  ⟨fun i a h H l x => j.go i a h H l (u.trans x), fun i a h H l x => j.stop i a h H l (u.trans x), fun i x a h H v H' l y => j.yld i x a h H v H' l (u.trans y)⟩
section
variable (D : Dat) (Γ : Sem) (W : WX)
def simP (e : EV.P) : TO := fun σ H Q => ∃ P g h env k kx, Sta D P g h H env σ ∧ evp D.X Γ e env h k kx = true ∧ (∀ o h' g' H', k o h' = true → Ex g H g' H' → GOk D g' h' H' → Q o H') ∧ PostX D W σ g H kx
def simI (e : EV.I) : TI := fun σ H R => ∃ P g h env k kx, Sta D P g h H env σ ∧ evi D.X Γ e env h k kx = true ∧ (∀ xs h' g' H' J, k xs h' = true → Ex g H g' H' → GOk D g' h' H' → JR D g' xs J → R J H') ∧ PostX D W σ g H kx
end
theorem PO.weak {X : Cx} {e : Option Expr} {t t' : TO} (p : PO X e t) (h : ∀ σ H Q, t' σ H Q → t σ H Q) : PO X e t' := ⟨fun pins s σ H Q I q => p.run pins s σ H Q I (h σ H Q q)⟩
theorem PI.weak {X : Cx} {tg e : Expr} {t t' : TI} (p : PI X tg e t) (h : ∀ σ H Q, t' σ H Q → t σ H Q) : PI X tg e t' := ⟨fun pins s σ H Q I q => p.run pins s σ H Q I (h σ H Q q)⟩
theorem PI.or {X : Cx} {tg e : Expr} {t t' : TI} (p : PI X tg e t) (q : PI X tg e t') : PI X tg e (fun σ H R => t σ H R ∨ t' σ H R) :=
  ⟨fun pins s σ H R I z => z.elim (fun z => p.run pins s σ H R I z) fun z => q.run pins s σ H R I z⟩

section
variable {D : Dat} {T : Tab} {Γ : Sem} {N : List Str} {sc : Scope} {n : Nat} {W : WX} {X : Cx}
variable {g g' : Gs} {H H' : Hp} {h h' : Hs} {P : Addr → Prop} {env : Env} {σ : L2.St}
/-- behind an argument list, a part -/
theorem seqP {e : EV.P} {k : Option Int → Hs → Bool} {kx : KV} {Q : Option Int → Hp → Prop} (s : Sta D P g h H env σ) (hk : evp D.X Γ e env h k kx = true) (hx : PostX D W σ g H kx)
    (n : ∀ v h1 g1 H1, k v h1 = true → Ex g H g1 H1 → Sta D P g1 h1 H1 env σ → PostX D W σ g1 H1 kx → Q v H1) : simP D Γ W e σ H Q :=
  ⟨P, g, h, env, k, kx, s, hk, fun v h1 g1 H1 a b c => n v h1 g1 H1 a b (s.ext b c) (hx.ext b), hx⟩
theorem sd_nilA {ps : List Expr} (h : chkEs T N sc .nil ps = true) : PA X ps (simA D Γ W .nil) := by
  unfold chkEs at h
  split at h
  · refine PA.weak pa_nil ?_
    rintro σ H Q ⟨P, g, h, env, k, kx, st, hk, pv, px⟩
    exact pv [] h g H [] hk (Ex.refl _ _) st.ok .nil
  · cases h
theorem sd_consA {e : EV.E} {es : Es} {ps : List Expr} (h : chkEs T N sc (.cons e es) ps = true) (ht : allTame ps = true)
    (ihe : ∀ p, chkE T N sc e p = true → Sd D Γ W X e p) (ihs : ∀ ps, chkEs T N sc es ps = true → allTame ps = true → PA X ps (simA D Γ W es)) : PA X ps (simA D Γ W (.cons e es)) := by
  unfold chkEs at h
  split at h
  · rename_i p r
    rw [Bool.and_eq_true] at h
    unfold allTame at ht ihs
    rw [List.all_cons, Bool.and_eq_true] at ht
    refine PA.weak (pa_cons (ihe _ h.1).pe (ihs _ h.2 ht.2) (tame_star ht.1 _ _)) ?_
    rintro σ H Q ⟨P, g, h, env, k, kx, st, hk, pv, px⟩
    refine seqE st hk px fun v h1 g1 H1 x hk1 e1 st1 px1 r1 => ?_
    rw [fV_eq] at hk1
    refine seqA st1 hk1 px1 fun vs h2 g2 H2 xs hk2 e2 st2 px2 r2 => ?_
    exact pv (v :: vs) h2 g2 H2 (x :: xs) hk2 (e1.trans e2) st2.ok (.cons (e2.vr r1) r2)
  · cases h
theorem sd_noP {p : Option Expr} (h : chkP T N sc .no p = true) : PO X p (simP D Γ W .no) := by
  unfold chkP at h
  split at h
  · refine PO.weak po_none ?_
    rintro σ H Q ⟨P, g, h, env, k, kx, st, hk, pv, px⟩
    exact pv none h g H hk (Ex.refl _ _) st.ok
  · cases h
theorem sd_someP {e : EV.E} {p : Option Expr} (h : chkP T N sc (.some e) p = true) (ihe : ∀ p, chkE T N sc e p = true → Sd D Γ W X e p) : PO X p (simP D Γ W (.some e)) := by
  unfold chkP at h
  split at h
  · refine PO.weak (po_some (ihe _ h).pe) ?_
    rintro σ H Q ⟨P, g, h, env, k, kx, st, hk, pv, px⟩
    refine seqE st hk px fun v h1 g1 H1 x hk1 e1 st1 px1 r1 => ?_
    cases r1 <;> first | (cases hk1; done) | skip
    exact ⟨_, rfl, pv _ _ _ _ hk1 e1 st1.ok⟩
  · cases h
/-! displays -/
def tTupZ (t : TA) : TE := fun σ H Q => t σ H fun xs H1 => xs.length ≤ sizeLine ∧ ∀ p o, H1 p = none → o.dict = none → Q (.ref p) (upd H1 p (.frz o (.tup xs)))
theorem pe_tupZ {es : List Expr} {c : Nat} {pos : Pos} {t : TA} (h : PA X es t) : PE X (.Tuple es c pos) (tTupZ t) := by
  refine ⟨fun pins s σ H Q I hq => wpAny_Tuple_spliced (thn (h.run pos pins s σ H _ I hq) fun us s1 ⟨xs, H1, I1, r, z, q⟩ => ⟨by rw [← r.length]; exact z, ?_⟩)⟩
  obtain ⟨J, hn⟩ := laidT I1 r z
  exact ⟨.ref _, _, J, rfl, q _ _ hn rfl⟩
theorem sd_tup (G : Gd D T Γ N sc n W X) {es : Es} {py : Expr} (h : chkE T N sc (.tup es) py = true) (ihs : ∀ ps, chkEs T N sc es ps = true → allTame ps = true → PA X ps (simA D Γ W es)) : Sd D Γ W X (.tup es) py := by
  unfold chkE at h
  split at h
  · rw [Bool.and_eq_true] at h
    refine sd_of (PE.weak (pe_tupZ (ihs _ h.2 h.1)) ?_) rfl
    rintro σ H Q ⟨P, g, h, env, k, kx, st, hk, pv, px⟩
    refine seqA st hk px fun vs h1 g1 H1 xs hk1 e1 st1 px1 r1 => ?_
    split at hk1
    · rename_i hz
      exact ⟨by rw [← r1.length]; exact hz, fun p o hp hd => (pv.ext e1).newT hk1 st1.ok r1 hp hd⟩
    · cases hk1
  · cases h
theorem sd_lst (G : Gd D T Γ N sc n W X) {es : Es} {py : Expr} (h : chkE T N sc (.lst es) py = true) (ihs : ∀ ps, chkEs T N sc es ps = true → allTame ps = true → PA X ps (simA D Γ W es)) : Sd D Γ W X (.lst es) py := by
  unfold chkE at h
  split at h
  · rw [Bool.and_eq_true] at h
    refine sd_of (PE.weak (pe_lst (ihs _ h.2 h.1)) ?_) rfl
    rintro σ H Q ⟨P, g, h, env, k, kx, st, hk, pv, px⟩
    refine seqA st hk px fun vs h1 g1 H1 xs hk1 e1 st1 px1 r1 => ?_
    split at hk1
    · rename_i hz
      exact ⟨by rw [← r1.length]; exact hz, fun p hp => (pv.ext e1).newL hk1 st1.ok r1 hp⟩
    · cases hk1
  · cases h
/-! subscripts -/
theorem VRs.atI {xs : List Val} {vs : List L2.V} {i : Int} {x : Val} (r : VRs D.K g xs vs) (e : L2.atI xs i = some x) : ∃ v, L2.atI vs i = some v ∧ VR D.K g x v := by
  unfold L2.atI at e ⊢
  rw [← r.length]
  cases q : ixN xs.length i with
  | none => rw [q] at e; cases e
  | some j =>
    rw [q] at e
    exact r.get e
/-- what an index gives: of data, of an owned list -/
theorem ix_any {g : Gs} {H : Hp} {h : Hs} {Q : VK} {ow : Option Addr} {a b v : Val} {x y : L2.V} (ok : GOk D g h H) (e : D.K = X.K) (ra : SR D.K g H ow a x) (rb : VR D.K g b y) (hf : ixv a b = some v) (q : ∀ u, VR D.K g v u → Q u H) : rIx X.K x y H Q := by
  unfold ixv at hf
  split at hf
  · rename_i xs i
    cases rb
    have ra' : VR D.K g (.lst xs) x := ra
    cases ra' with
    | lst s r =>
      obtain ⟨u, e1, e2⟩ := r.atI hf
      exact .inl ⟨_, _, _, u, rfl, rfl, SqL.of (ok.fh _ _ s), e1, q _ e2⟩
  · rename_i xs i
    cases rb
    obtain ⟨p, vs, _, h2, h3, h4, _⟩ := ra
    subst h2
    obtain ⟨u, e1, e2⟩ := h4.atI hf
    exact .inl ⟨_, _, _, u, rfl, rfl, SqL.of h3, e1, q _ e2⟩
  · rename_i xs i
    cases rb
    obtain ⟨p, vs, _, h2, h3, h4, _⟩ := ra
    subst h2
    obtain ⟨u, e1, e2⟩ := h4.atI hf
    exact .inl ⟨_, _, _, u, rfl, rfl, SqL.of h3, e1, q _ e2⟩
  · rename_i ns i
    cases rb
    have ra' : VR D.K g (.scl ns) x := ra
    cases ra' with
    | scl s =>
      obtain ⟨u, e1, e2⟩ := (VRs.ints (K := D.K) (g := g) ns).atI hf
      exact .inl ⟨_, _, _, u, rfl, rfl, e ▸ SqL.mono ok.fh s, e1, q _ e2⟩
  · rename_i xs i
    cases rb
    have ra' : VR D.K g (.tup xs) x := ra
    cases ra' with
    | tup s r =>
      obtain ⟨u, e1, e2⟩ := r.atI hf
      exact .inr (.inl ⟨_, _, _, u, rfl, rfl, e ▸ SqT.mono ok.fh s.sqT, e1, q _ e2⟩)
  · rename_i z i
    cases rb
    have ra' : VR D.K g (.str z) x := ra
    cases ra'
    split at hf
    · rename_i hz
      cases q2 : L2.atI z.cps.toList i with
      | none => rw [q2] at hf; cases hf
      | some c =>
        rw [q2] at hf
        cases hf
        exact .inr (.inr ⟨_, _, c, rfl, rfl, hz, q2, q _ (.str _)⟩)
    · cases hf
  · cases hf
theorem sd_ix (G : Gd D T Γ N sc n W X) {a b : EV.E} {py : Expr} (h : chkE T N sc (.ix a b) py = true)
    (iha : ∀ p, chkE T N sc a p = true → Sd D Γ W X a p) (ihb : ∀ p, chkE T N sc b p = true → Sd D Γ W X b p) : Sd D Γ W X (.ix a b) py := by
  unfold chkE at h
  split at h
  · simp only [Bool.and_eq_true] at h
    refine sd_of (PE.weak (pe_ix ix_seq (iha _ h.1.2).pe (ihb _ h.2).pe (tame_ix h.1.1)) ?_) rfl
    rintro σ H Q ⟨P, g, h, env, k, kx, st, hk, pv, px⟩
    refine seqE st hk px fun v h1 g1 H1 x hk1 e1 st1 px1 r1 => ?_
    refine seqE st1 hk1 px1 fun u h2 g2 H2 y hk2 e2 st2 px2 r2 => ?_
    obtain ⟨z, ez, hz⟩ := stepK_some hk2
    exact ix_any (ow := none) st2.ok G.eK (SR.of (e2.vr r1)) r2 ez fun u ru => pv _ _ _ _ _ hz (e1.trans e2) st2.ok ru
  · cases h
theorem EnvR.sr (r : EnvR D.K g H P env σ) {i : Nat} {v : Val} (e : getV env i = some v) : ∃ ow x, σ[i]? = some (some x) ∧ SR D.K g H ow v x := by
  obtain ⟨l, ow, _, _, h3⟩ := r
  obtain ⟨x, a, b⟩ := h3 i v (getV_some e)
  exact ⟨_, x, a, b⟩
theorem sd_ixo (G : Gd D T Γ N sc n W X) {i : Nat} {b : EV.E} {py : Expr} (h : chkE T N sc (.ixo i b) py = true)
    (ihb : ∀ p, chkE T N sc b p = true → Sd D Γ W X b p) : Sd D Γ W X (.ixo i b) py := by
  unfold chkE at h
  split at h
  · simp only [Bool.and_eq_true, decide_eq_true_eq] at h
    obtain ⟨⟨⟨⟨h1, h2⟩, h3⟩, h4⟩, h5⟩ := h
    refine sd_of (PE.weak (pe_ix ix_seq (pe_var (i := i) (G.hN h1) (G.vis h2) (plainN_d h3).1 (plainN_d h3).2.1) (ihb _ h5).pe (tame_ix h4)) ?_) rfl
    rintro σ H Q ⟨P, g, h, env, k, kx, st, hk, pv, px⟩
    obtain ⟨a, ea, hk'⟩ := stepK_some hk
    obtain ⟨ow, x0, e0, sr⟩ := st.er.sr ea
    refine ⟨x0, e0, ?_⟩
    refine seqE st hk' px fun u h2 g2 H2 y hk2 e2 st2 px2 r2 => ?_
    obtain ⟨z, ez, hz⟩ := stepK_some hk2
    exact ix_any st2.ok G.eK (sr.ext e2) r2 ez fun u ru => pv _ _ _ _ _ hz e2 st2.ok ru
  · cases h
end
end EV
namespace EV
open PySem PySem.Spec PyProof.Rows L2

section
variable {D : Dat} {T : Tab} {Γ : Sem} {N : List Str} {sc : Scope} {n : Nat} {W : WX} {X : Cx}
variable {g g' : Gs} {H H' : Hp} {h h' : Hs} {P : Addr → Prop} {env : Env} {σ : L2.St}
/-! slices -/
def rSlZ (K : PySem.W.Frag) : L2.V → Option Int → Option Int → Hp → VK → Prop := fun x lo hi H Q => ∃ a xs, x = .ref a ∧ SqT K H a xs ∧
  (HT.sIx xs.length 0 lo = 0 ∧ HT.sIx xs.length xs.length hi = xs.length → Q (.ref a) H) ∧ (¬ (HT.sIx xs.length 0 lo = 0 ∧ HT.sIx xs.length xs.length hi = xs.length) → ∀ p o, H p = none → o.dict = none → Q (.ref p) (upd H p (.frz o (.tup (cutV xs lo hi)))))
theorem sl_tupZ : SlR X (rSlZ X.K) := by
  rintro pins s σ H x v vl vu lo hi sl Q I rx hs pl pu ⟨a, xs, rfl, hx, q1, q2⟩
  by_cases hw : HT.sIx xs.length 0 lo = 0 ∧ HT.sIx xs.length xs.length hi = xs.length
  · exact sl_tupA pins s σ H _ v vl vu lo hi sl Q I rx hs pl pu ⟨a, xs, rfl, hx, q1, fun z => absurd hw z⟩
  cases rx
  obtain ⟨us, r, ht, hz⟩ := I.tuple hx
  have hl : us.toArray.size = xs.length := by rw [List.size_toArray]; exact r.length.symm
  have rc : Vals (cutV xs lo hi) ((us.drop (HT.sIx xs.length 0 lo)).take (HT.sIx xs.length xs.length hi - HT.sIx xs.length 0 lo)) := (r.drop _).take _
  refine ⟨"tuple", _, PyProof.Rows.slot_tuple_getitem.lookup, ht.typeIs, HT.getItem_tuple_cut ht hs pl pu (by rw [hl]; exact hw) ?_ (by rw [hl]; exact hz)⟩
  rw [hl]
  obtain ⟨J, hn⟩ := laidT I rc (Nat.le_trans (cutV_length xs lo hi) hz)
  exact ⟨.ref _, _, J, rfl, q2 hw _ _ hn rfl⟩
theorem cut_whole {xs : List Val} {lo hi : Option Int} (w : HT.sIx xs.length 0 lo = 0 ∧ HT.sIx xs.length xs.length hi = xs.length) : cut xs lo hi = xs := by
  unfold cut
  rw [w.1, w.2]
  simp
theorem cut_rel {xs : List Val} {vs : List L2.V} (r : VRs D.K g xs vs) (lo hi : Option Int) : VRs D.K g (cut xs lo hi) (cutV vs lo hi) := by
  unfold cut cutV
  rw [← r.length]
  exact (r.drop _).take _
theorem sl_any (e : D.K = X.K) : ∃ r, SlR X r ∧ ∀ (g : Gs) (h : Hs) (H : Hp) (k : KV) (Q : VK) (a v : Val) (x : L2.V) (lo hi : Option Int), GOk D g h H → VR D.K g a x → slv a lo hi = some v → k v h = true → PostV D g H k Q → r x lo hi H Q := by
  refine ⟨_, SlR.or sl_list (SlR.or sl_tupZ sl_str), fun g h H k Q a v x lo hi ok ra hf hk pv => ?_⟩
  cases ra with
  | lst s r =>
    cases hf
    exact .inl ⟨_, _, rfl, SqL.of (ok.fh _ _ s), fun p hp => pv.newL hk ok (cut_rel r lo hi) hp⟩
  | scl s =>
    cases hf
    exact .inl ⟨_, _, rfl, e ▸ SqL.mono ok.fh s, fun p hp => pv.newL hk ok (cut_rel (VRs.ints _) lo hi) hp⟩
  | tup s r =>
    cases hf
    refine .inr (.inl ⟨_, _, rfl, e ▸ SqT.mono ok.fh s.sqT, fun w => ?_, fun _ p o hp hd => pv.newT hk ok (cut_rel r lo hi) hp hd⟩)
    have hz : cut _ lo hi = _ := cut_whole (lo := lo) (hi := hi) (by rw [r.length]; exact w)
    rw [hz] at hk
    exact pv.now hk ok (.tup s r)
  | str z =>
    have hf' : (if z.length ≤ sizeLine then some (Val.str (cutS z lo hi)) else none) = some v := hf
    split at hf'
    · cases hf'
      exact .inr (.inr ⟨_, rfl, by assumption, pv.now hk ok (.str _)⟩)
    · cases hf'
  | _ => cases hf
theorem sd_slc (G : Gd D T Γ N sc n W X) {a : EV.E} {lo hi : EV.P} {py : Expr} (h : chkE T N sc (.slc a lo hi) py = true)
    (iha : ∀ p, chkE T N sc a p = true → Sd D Γ W X a p) (ihl : ∀ p, chkP T N sc lo p = true → PO X p (simP D Γ W lo)) (ihh : ∀ p, chkP T N sc hi p = true → PO X p (simP D Γ W hi)) : Sd D Γ W X (.slc a lo hi) py := by
  unfold chkE at h
  split at h
  · simp only [Bool.and_eq_true] at h
    obtain ⟨r, hr, hs⟩ := sl_any (X := X) G.eK
    refine sd_of (PE.weak (pe_slice hr (iha _ h.1.1).pe (ihl _ h.1.2) (ihh _ h.2)) ?_) rfl
    rintro σ H Q ⟨P, g, h, env, k, kx, st, hk, pv, px⟩
    refine seqE st hk px fun v h1 g1 H1 x hk1 e1 st1 px1 r1 => ?_
    refine seqP st1 hk1 px1 fun l h2 g2 H2 hk2 e2 st2 px2 => ?_
    refine seqP st2 hk2 px2 fun u h3 g3 H3 hk3 e3 st3 px3 => ?_
    obtain ⟨z, ez, hz⟩ := stepK_some hk3
    exact hs g3 h3 H3 k Q v z x l u st3.ok (e3.vr (e2.vr r1)) ez hz (pv.ext ((e1.trans e2).trans e3))
  · cases h

/-! built-in functions by values -/
def CalS (D : Dat) (f : List Val → Option Val) (r : List L2.V → Hp → VK → Prop) : Prop := ∀ (g : Gs) (h : Hs) (H : Hp) (k : KV) (Q : VK) (as : List Val) (v : Val) (xs : List L2.V), GOk D g h H → VRs D.K g as xs → f as = some v → k v h = true → PostV D g H k Q → r xs H Q
theorem CallR.or {f : Value} {r r' : List L2.V → Hp → VK → Prop} (a : CallR X f r) (b : CallR X f r') : CallR X f (fun xs H Q => r xs H Q ∨ r' xs H Q) := fun pins s σ H xs us Q I rv q => q.elim (a pins s σ H xs us Q I rv) (b pins s σ H xs us Q I rv)
/-- one argument -/
theorem one_arg {as : List Val} {xs : List L2.V} {a : Val} (r : VRs D.K g as xs) (e : as = [a]) : ∃ x, xs = [x] ∧ VR D.K g a x := by
  subst e
  cases r with
  | cons r t => cases t; exact ⟨_, rfl, r⟩
theorem two_arg {as : List Val} {xs : List L2.V} {a b : Val} (r : VRs D.K g as xs) (e : as = [a, b]) : ∃ x y, xs = [x, y] ∧ VR D.K g a x ∧ VR D.K g b y := by
  subst e
  cases r with
  | cons r t =>
    cases t with
    | cons r' t => cases t; exact ⟨_, _, rfl, r, r'⟩
theorem seqR (e : D.K = X.K) (ok : GOk D g h H) {a : Val} {x : L2.V} {ys : List Val} (r : VR D.K g a x) (hf : itemsOf a = some ys) : ∃ p vs, x = .ref p ∧ (SqL X.K H p vs ∨ SqT X.K H p vs) ∧ VRs D.K g ys vs := by
  obtain ⟨p, vs, h1, h2, h3⟩ := seqs ok r.noMls r hf
  exact ⟨p, vs, h1, e ▸ h2, h3⟩
theorem cs_len (e : D.K = X.K) : ∃ r, CallR X (.builtin "len") r ∧ CalS D (blt .len) r := by
  refine ⟨_, CallR.or call_len_seq call_len_str, fun g h H k Q as v xs ok r hf hk pv => ?_⟩
  have fin : ∀ (a : Val) (ys : List Val), as = [a] → itemsOf a = some ys → v = .int ys.length → (∃ p ys, xs = [.ref p] ∧ (SqL X.K H p ys ∨ SqT X.K H p ys) ∧ Q (.int ys.length) H) := fun a ys e1 e2 e3 => by
    subst e3
    obtain ⟨x, rfl, rx⟩ := one_arg r e1
    obtain ⟨p, vs, rfl, hs, rv⟩ := seqR e ok rx e2
    refine ⟨p, vs, rfl, hs, ?_⟩
    rw [← rv.length]
    exact pv.now hk ok (.int _)
  unfold blt at hf
  split at hf <;> first | (exfalso; simp_all; done) | skip
  · cases hf; exact .inl (fin _ _ rfl rfl rfl)
  · obtain ⟨x, _, rx⟩ := one_arg r rfl
    cases rx
  · cases hf
    obtain ⟨x, rfl, rx⟩ := one_arg r rfl
    cases rx with
    | scr s hl =>
      refine .inl ⟨_, _, rfl, .inl (e ▸ SqL.mono ok.fh s), ?_⟩
      rw [List.length_map, hl]
      exact pv.now hk ok (.int _)
  · cases hf; exact .inl (fin _ _ rfl rfl rfl)
  · split at hf
    · cases hf
      obtain ⟨x, rfl, rx⟩ := one_arg r rfl
      cases rx
      exact .inr ⟨_, rfl, by assumption, pv.now hk ok (.int _)⟩
    · cases hf
  · cases hf
    obtain ⟨x, rfl, rx⟩ := one_arg r rfl
    cases rx with
    | scl s =>
      refine .inl ⟨_, _, rfl, .inl (e ▸ SqL.mono ok.fh s), ?_⟩
      rw [List.length_map]
      exact pv.now hk ok (.int _)
theorem cs_int : ∃ r, CallR X (.type "int") r ∧ CalS D (blt .int) r := by
  refine ⟨_, call_int1, fun g h H k Q as v xs ok r hf hk pv => ?_⟩
  unfold blt at hf
  split at hf <;> first | (exfalso; simp_all; done) | skip
  · cases hf
    obtain ⟨x, rfl, rx⟩ := one_arg r rfl
    cases rx
    exact .inl ⟨_, rfl, pv.now hk ok (.int _)⟩
  · cases hf
    obtain ⟨x, rfl, rx⟩ := one_arg r rfl
    cases rx
    exact .inr ⟨_, rfl, pv.now hk ok (.int _)⟩
theorem cs_abs : ∃ r, CallR X (.builtin "abs") r ∧ CalS D (blt .abs) r := by
  refine ⟨_, call_abs, fun g h H k Q as v xs ok r hf hk pv => ?_⟩
  unfold blt at hf
  split at hf <;> first | (exfalso; simp_all; done) | skip
  cases hf
  obtain ⟨x, rfl, rx⟩ := one_arg r rfl
  cases rx
  exact ⟨_, rfl, pv.now hk ok (.int _)⟩
theorem cs_max2 (hc : X.calm = true) : ∃ r, CallR X (.builtin "max") r ∧ CalS D (blt .max2) r := by
  refine ⟨_, call_max2 hc, fun g h H k Q as v xs ok r hf hk pv => ?_⟩
  unfold blt at hf
  split at hf <;> first | (exfalso; simp_all; done) | skip
  cases hf
  obtain ⟨x, y, rfl, rx, ry⟩ := two_arg r rfl
  cases rx; cases ry
  exact ⟨_, _, rfl, pv.now hk ok (.int _)⟩
theorem cs_min2 (hc : X.calm = true) : ∃ r, CallR X (.builtin "min") r ∧ CalS D (blt .min2) r := by
  refine ⟨_, call_min2 hc, fun g h H k Q as v xs ok r hf hk pv => ?_⟩
  unfold blt at hf
  split at hf <;> first | (exfalso; simp_all; done) | skip
  cases hf
  obtain ⟨x, y, rfl, rx, ry⟩ := two_arg r rfl
  cases rx; cases ry
  exact ⟨_, _, rfl, pv.now hk ok (.int _)⟩
theorem maxI_is : ∀ {ns : List Int} {m : Int}, m ∈ ns → (∀ y ∈ ns, y ≤ m) → maxI ns = m
  | [], m, h, _ => by cases h
  | [x], m, h, _ => by simp at h; subst h; rfl
  | x :: y :: r, m, h, hm => by
    have h1 := hm x (by simp)
    show (if maxI (y :: r) < x then x else maxI (y :: r)) = m
    have hr : ∀ z ∈ y :: r, z ≤ m := fun z q => hm z (by simp [List.mem_cons] at q ⊢; exact .inr q)
    have key : ∀ l : List Int, l ≠ [] → maxI l ∈ l ∧ ∀ z ∈ l, z ≤ maxI l := by
      intro l
      induction l with
      | nil => intro q; exact absurd rfl q
      | cons a l ih =>
        intro _
        cases l with
        | nil => exact ⟨by simp [maxI], fun z q => by simp at q; subst q; simp [maxI]⟩
        | cons b l =>
          obtain ⟨i1, i2⟩ := ih (by simp)
          show (if maxI (b :: l) < a then a else maxI (b :: l)) ∈ _ ∧ ∀ z ∈ _, z ≤ (if maxI (b :: l) < a then a else maxI (b :: l))
          split
          · refine ⟨by simp, fun z q => ?_⟩
            rcases List.mem_cons.mp q with q | q
            · omega
            · have := i2 z q; omega
          · refine ⟨by simp only [List.mem_cons] at i1 ⊢; exact .inr i1, fun z q => ?_⟩
            rcases List.mem_cons.mp q with q | q
            · omega
            · exact i2 z q
    obtain ⟨k1, k2⟩ := key (y :: r) (by simp)
    have k3 := hr _ k1
    rcases List.mem_cons.mp h with q | q
    · subst q
      split
      · rfl
      · omega
    · have k4 := k2 m q
      split <;> omega
theorem minI_is : ∀ {ns : List Int} {m : Int}, m ∈ ns → (∀ y ∈ ns, m ≤ y) → minI ns = m
  | [], m, h, _ => by cases h
  | [x], m, h, _ => by simp at h; subst h; rfl
  | x :: y :: r, m, h, hm => by
    have h1 := hm x (by simp)
    show (if x < minI (y :: r) then x else minI (y :: r)) = m
    have hr : ∀ z ∈ y :: r, m ≤ z := fun z q => hm z (by simp [List.mem_cons] at q ⊢; exact .inr q)
    have key : ∀ l : List Int, l ≠ [] → minI l ∈ l ∧ ∀ z ∈ l, minI l ≤ z := by
      intro l
      induction l with
      | nil => intro q; exact absurd rfl q
      | cons a l ih =>
        intro _
        cases l with
        | nil => exact ⟨by simp [minI], fun z q => by simp at q; subst q; simp [minI]⟩
        | cons b l =>
          obtain ⟨i1, i2⟩ := ih (by simp)
          show (if a < minI (b :: l) then a else minI (b :: l)) ∈ _ ∧ ∀ z ∈ _, (if a < minI (b :: l) then a else minI (b :: l)) ≤ z
          split
          · refine ⟨by simp, fun z q => ?_⟩
            rcases List.mem_cons.mp q with q | q
            · omega
            · have := i2 z q; omega
          · refine ⟨by simp only [List.mem_cons] at i1 ⊢; exact .inr i1, fun z q => ?_⟩
            rcases List.mem_cons.mp q with q | q
            · omega
            · exact i2 z q
    obtain ⟨k1, k2⟩ := key (y :: r) (by simp)
    have k3 := hr _ k1
    rcases List.mem_cons.mp h with q | q
    · subst q
      split
      · rfl
      · omega
    · have k4 := k2 m q
      split <;> omega
/-- a list of ints, of bools -/
theorem lstI (ok : GOk D g h H) (e : D.K = X.K) {as : List Val} {xs : List L2.V} {ys : List Val} {ns : List Int} (r : VRs D.K g as xs) (ea : as = [.lst ys]) (en : intsOf ys = some ns) : ∃ p, xs = [.ref p] ∧ SqL X.K H p (ns.map L2.V.int) := by
  obtain ⟨x, rfl, rx⟩ := one_arg r ea
  cases rx with
  | lst s rv =>
    have q := rv.intsOf en
    subst q
    exact ⟨_, rfl, SqL.of (ok.fh _ _ s)⟩
theorem lstB (ok : GOk D g h H) (e : D.K = X.K) {as : List Val} {xs : List L2.V} {ys : List Val} {ns : List Bool} (r : VRs D.K g as xs) (ea : as = [.lst ys]) (en : blsOf ys = some ns) : ∃ p, xs = [.ref p] ∧ SqL X.K H p (ns.map L2.V.bl) := by
  obtain ⟨x, rfl, rx⟩ := one_arg r ea
  cases rx with
  | lst s rv =>
    have q := rv.blsOf en
    subst q
    exact ⟨_, rfl, SqL.of (ok.fh _ _ s)⟩
def rMaxA (K : PySem.W.Frag) : List L2.V → Hp → VK → Prop := fun vs H Q => ∃ (a : Addr) (ns : List Int), vs = [L2.V.ref a] ∧ (SqL K H a (ns.map L2.V.int) ∨ SqT K H a (ns.map L2.V.int)) ∧ ns ≠ [] ∧ ∀ m, m ∈ ns → (∀ y ∈ ns, y ≤ m) → Q (.int m) H
def rMinA (K : PySem.W.Frag) : List L2.V → Hp → VK → Prop := fun vs H Q => ∃ (a : Addr) (ns : List Int), vs = [L2.V.ref a] ∧ (SqL K H a (ns.map L2.V.int) ∨ SqT K H a (ns.map L2.V.int)) ∧ ns ≠ [] ∧ ∀ m, m ∈ ns → (∀ y ∈ ns, m ≤ y) → Q (.int m) H
theorem fold_max : ∀ (ns : List Int) (n : Int), ns.foldl max n ∈ n :: ns ∧ ∀ y ∈ n :: ns, y ≤ ns.foldl max n
  | [], n => by simp
  | x :: ns, n => by
    obtain ⟨h1, h2⟩ := fold_max ns (max n x)
    rw [List.foldl_cons]
    have hm : max n x = n ∨ max n x = x := by omega
    constructor
    · rcases List.mem_cons.mp h1 with e | e
      · rw [e]
        rcases hm with q | q <;> rw [q] <;> simp
      · exact List.mem_cons_of_mem _ (List.mem_cons_of_mem _ e)
    · intro y hy
      have b := h2 (max n x) List.mem_cons_self
      rcases List.mem_cons.mp hy with e | e
      · subst e; omega
      · rcases List.mem_cons.mp e with e | e
        · subst e; omega
        · exact h2 y (List.mem_cons_of_mem _ e)
theorem fold_min : ∀ (ns : List Int) (n : Int), ns.foldl min n ∈ n :: ns ∧ ∀ y ∈ n :: ns, ns.foldl min n ≤ y
  | [], n => by simp
  | x :: ns, n => by
    obtain ⟨h1, h2⟩ := fold_min ns (min n x)
    rw [List.foldl_cons]
    have hm : min n x = n ∨ min n x = x := by omega
    constructor
    · rcases List.mem_cons.mp h1 with e | e
      · rw [e]
        rcases hm with q | q <;> rw [q] <;> simp
      · exact List.mem_cons_of_mem _ (List.mem_cons_of_mem _ e)
    · intro y hy
      have b := h2 (min n x) List.mem_cons_self
      rcases List.mem_cons.mp hy with e | e
      · subst e; omega
      · rcases List.mem_cons.mp e with e | e
        · subst e; omega
        · exact h2 y (List.mem_cons_of_mem _ e)
theorem ints_dp {K : PySem.W.Frag} {H : Hp} : ∀ ns : List Int, DpAll K H (ns.map L2.V.int) (ns.map .int)
  | [] => .nil
  | n :: r => .cons (.int n) (ints_dp r)
theorem ints_alike (ns : List Int) : PySem.W.AlikeAll (ns.map PyData.int) := by
  refine ⟨fun x hx y hy => ?_, fun x hx => ?_⟩
  · obtain ⟨a, _, rfl⟩ := List.mem_map.mp hx
    obtain ⟨b, _, rfl⟩ := List.mem_map.mp hy
    rfl
  · obtain ⟨a, _, rfl⟩ := List.mem_map.mp hx
    simp
theorem cr_maxA (hc : X.calm = true) (hu : X.A.units + 65 < cLine) : CallR X (.builtin "max") (rMaxA X.K) := by
  intro pins s σ H vs us Q I r h
  obtain ⟨a, ns, rfl, hs | hs, hne, q⟩ := h
  · exact cr_max hc pins s σ H _ us Q I r ⟨a, ns, rfl, hs, List.length_pos_iff.mpr hne, q⟩
  · obtain ⟨its, rv, hl, _⟩ := I.tuple hs
    rw [Vals.ref1 r]
    obtain ⟨as, rs⟩ := Dp.readsAll I _ _ its (ints_dp ns) rv
    cases ns with
    | nil => exact absurd rfl hne
    | cons n ns =>
      refine PySem.W.max_tuple_data (I.ok.hd hc) hl (show ReadsAll s.heap its.toArray.toList (.int n :: ns.map .int) as from rs) (ints_alike (n :: ns)) (by rw [show (PyData.int n :: ns.map .int) = (n :: ns).map .int from rfl, PySem.W.depth_ints]; omega) fun i v h' tk bs _ rd hk => ?_
      rw [PySem.W.maxD_ints] at rd
      cases rd
      obtain ⟨f1, f2⟩ := fold_max ns n
      exact ⟨.int _, H, I.kept hk, ⟨_, rfl⟩, q _ f1 f2⟩
theorem cr_minA (hc : X.calm = true) (hu : X.A.units + 65 < cLine) : CallR X (.builtin "min") (rMinA X.K) := by
  intro pins s σ H vs us Q I r h
  obtain ⟨a, ns, rfl, hs | hs, hne, q⟩ := h
  · exact cr_min hc pins s σ H _ us Q I r ⟨a, ns, rfl, hs, List.length_pos_iff.mpr hne, q⟩
  · obtain ⟨its, rv, hl, _⟩ := I.tuple hs
    rw [Vals.ref1 r]
    obtain ⟨as, rs⟩ := Dp.readsAll I _ _ its (ints_dp ns) rv
    cases ns with
    | nil => exact absurd rfl hne
    | cons n ns =>
      refine PySem.W.min_tuple_data (I.ok.hd hc) hl (show ReadsAll s.heap its.toArray.toList (.int n :: ns.map .int) as from rs) (ints_alike (n :: ns)) (by rw [show (PyData.int n :: ns.map .int) = (n :: ns).map .int from rfl, PySem.W.depth_ints]; omega) fun i v h' tk bs _ rd hk => ?_
      rw [PySem.W.minD_ints] at rd
      cases rd
      obtain ⟨f1, f2⟩ := fold_min ns n
      exact ⟨.int _, H, I.kept hk, ⟨_, rfl⟩, q _ f1 f2⟩
theorem tupI (ok : GOk D g h H) (e : D.K = X.K) {as : List Val} {xs : List L2.V} {ys : List Val} {ns : List Int} (r : VRs D.K g as xs) (ea : as = [.tup ys]) (en : intsOf ys = some ns) : ∃ p, xs = [.ref p] ∧ SqT X.K H p (ns.map L2.V.int) := by
  obtain ⟨x, rfl, rx⟩ := one_arg r ea
  cases rx with
  | tup s rv =>
    have q := rv.intsOf en
    subst q
    exact ⟨_, rfl, e ▸ SqT.mono ok.fh s.sqT⟩
theorem cs_max (e : D.K = X.K) (hc : X.calm = true) (hu : X.A.units + 65 < cLine) : ∃ r, CallR X (.builtin "max") r ∧ CalS D (blt .max) r := by
  refine ⟨_, cr_maxA hc hu, fun g h H k Q as v xs ok r hf hk pv => ?_⟩
  unfold blt at hf
  split at hf <;> first | (exfalso; simp_all; done) | skip
  · skip
    split at hf
    · rename_i ns en
      split at hf
      · cases hf
      · rename_i he
        cases hf
        obtain ⟨p, rfl, hs⟩ := tupI ok e r rfl en
        refine ⟨p, ns, rfl, .inr hs, ?_, fun m h1 h2 => ?_⟩
        · cases ns with
          | nil => exact absurd rfl he
          | cons _ _ => simp
        · rw [← maxI_is h1 h2]; exact pv.now hk ok (.int _)
    · cases hf
  · skip
    split at hf
    · rename_i ns en
      split at hf
      · cases hf
      · rename_i he
        cases hf
        obtain ⟨p, rfl, hs⟩ := lstI ok e r rfl en
        refine ⟨p, ns, rfl, .inl hs, ?_, fun m h1 h2 => ?_⟩
        · cases ns with
          | nil => exact absurd rfl he
          | cons _ _ => simp
        · rw [← maxI_is h1 h2]; exact pv.now hk ok (.int _)
    · cases hf
theorem cs_min (e : D.K = X.K) (hc : X.calm = true) (hu : X.A.units + 65 < cLine) : ∃ r, CallR X (.builtin "min") r ∧ CalS D (blt .min) r := by
  refine ⟨_, cr_minA hc hu, fun g h H k Q as v xs ok r hf hk pv => ?_⟩
  unfold blt at hf
  split at hf <;> first | (exfalso; simp_all; done) | skip
  · skip
    split at hf
    · rename_i ns en
      split at hf
      · cases hf
      · rename_i he
        cases hf
        obtain ⟨p, rfl, hs⟩ := tupI ok e r rfl en
        refine ⟨p, ns, rfl, .inr hs, ?_, fun m h1 h2 => ?_⟩
        · cases ns with
          | nil => exact absurd rfl he
          | cons _ _ => simp
        · rw [← minI_is h1 h2]; exact pv.now hk ok (.int _)
    · cases hf
  · skip
    split at hf
    · rename_i ns en
      split at hf
      · cases hf
      · rename_i he
        cases hf
        obtain ⟨p, rfl, hs⟩ := lstI ok e r rfl en
        refine ⟨p, ns, rfl, .inl hs, ?_, fun m h1 h2 => ?_⟩
        · cases ns with
          | nil => exact absurd rfl he
          | cons _ _ => simp
        · rw [← minI_is h1 h2]; exact pv.now hk ok (.int _)
    · cases hf
def rSumA (K : PySem.W.Frag) : List L2.V → Hp → VK → Prop := fun vs H Q => ∃ (a : Addr) (ns : List Int), vs = [L2.V.ref a] ∧ (SqL K H a (ns.map L2.V.int) ∨ SqT K H a (ns.map L2.V.int)) ∧ Q (.int ns.sum) H
theorem cr_sumA (hc : X.calm = true) : CallR X (.builtin "sum") (rSumA X.K) := by
  intro pins s σ H vs us Q I r h
  obtain ⟨a, ns, rfl, hs | hs, q⟩ := h
  · exact cr_sum hc pins s σ H _ us Q I r ⟨a, ns, rfl, hs, q⟩
  · obtain ⟨its, rv, hl, _⟩ := I.tuple hs
    rw [Vals.ref1 r]
    have hi := rv.ints
    obtain ⟨xs, e⟩ := hi.allInts.items
    have hn : numsOf (intItems xs).toList = ns := by rw [← e]; exact hi.numsOf
    rw [nums_intItems] at hn
    have hl' : s.heap.IsTuple a its.toArray := hl
    rw [e] at hl'
    refine PySem.W.ktm_sumG (I.ok.hd hc) hl' fun h' tk t' hk => ?_
    rw [preSum_eq, List.take_of_length_le (by simp), hn]
    exact ⟨.int _, H, I.kept hk, ⟨_, rfl⟩, q⟩
theorem cs_sum (e : D.K = X.K) (hc : X.calm = true) : ∃ r, CallR X (.builtin "sum") r ∧ CalS D (blt .sum) r := by
  refine ⟨_, cr_sumA hc, fun g h H k Q as v xs ok r hf hk pv => ?_⟩
  unfold blt at hf
  split at hf <;> first | (exfalso; simp_all; done) | skip
  · split at hf
    · rename_i ns en
      cases hf
      obtain ⟨p, rfl, hs⟩ := tupI ok e r rfl en
      exact ⟨p, ns, rfl, .inr hs, pv.now hk ok (.int _)⟩
    · cases hf
  · split at hf
    · rename_i ns en
      cases hf
      obtain ⟨p, rfl, hs⟩ := lstI ok e r rfl en
      exact ⟨p, ns, rfl, .inl hs, pv.now hk ok (.int _)⟩
    · cases hf
theorem cs_all (e : D.K = X.K) (hc : X.calm = true) : ∃ r, CallR X (.builtin "all") r ∧ CalS D (blt .all) r := by
  refine ⟨_, cr_all hc, fun g h H k Q as v xs ok r hf hk pv => ?_⟩
  unfold blt at hf
  split at hf <;> first | (exfalso; simp_all; done) | skip
  split at hf
  · rename_i ns en
    cases hf
    obtain ⟨p, rfl, hs⟩ := lstB ok e r rfl en
    exact ⟨p, ns, rfl, hs, pv.now hk ok (.bl _)⟩
  · cases hf
theorem cs_any (e : D.K = X.K) (hc : X.calm = true) : ∃ r, CallR X (.builtin "any") r ∧ CalS D (blt .any) r := by
  refine ⟨_, cr_any hc, fun g h H k Q as v xs ok r hf hk pv => ?_⟩
  unfold blt at hf
  split at hf <;> first | (exfalso; simp_all; done) | skip
  split at hf
  · rename_i ns en
    cases hf
    obtain ⟨p, rfl, hs⟩ := lstB ok e r rfl en
    exact ⟨p, ns, rfl, hs, pv.now hk ok (.bl _)⟩
  · cases hf
theorem cs_list (e : D.K = X.K) : ∃ r, CallR X (.type "list") r ∧ CalS D (blt .list) r := by
  refine ⟨_, call_list_of, fun g h H k Q as v xs ok r hf hk pv => ?_⟩
  unfold blt at hf
  split at hf <;> first | (exfalso; simp_all; done) | skip
  all_goals
    cases hf
    obtain ⟨x, rfl, rx⟩ := one_arg r rfl
    obtain ⟨p, vs, rfl, hs, rv⟩ := seqR e ok rx rfl
    exact ⟨p, vs, rfl, hs, fun l hl => pv.newL hk ok rv hl⟩
def rTupZ (K : PySem.W.Frag) : List L2.V → Hp → VK → Prop := fun xs H Q => ∃ p ys, xs = [.ref p] ∧ ((SqL K H p ys ∧ ∀ l o, H l = none → o.dict = none → Q (.ref l) (upd H l (.frz o (.tup ys)))) ∨ (SqT K H p ys ∧ Q (.ref p) H))
theorem call_tupZ : CallR X (.type "tuple") (rTupZ X.K) := by
  rintro pins s σ H xs us Q I r ⟨p, ys, rfl, ⟨hq, q⟩ | ⟨hq, q⟩⟩
  · cases r with
    | cons rx rt =>
      cases rt
      cases rx
      obtain ⟨its, r', pl, hz⟩ := I.list hq
      refine call_tuple_list pl.isList (fun h' kp => ?_) (by rw [List.size_toArray, ← r'.length]; exact hz)
      have J1 : Inv X pins σ H { s with heap := h' } := I.kept (t' := s.toks) kp
      obtain ⟨J, hn⟩ := laidT J1 r' hz
      exact ⟨.ref _, _, J, rfl, q _ _ hn rfl⟩
  · exact call_tuple_of pins s σ H _ us Q I r ⟨p, ys, rfl, .inr ⟨hq, q⟩⟩
theorem cs_tuple (e : D.K = X.K) : ∃ r, CallR X (.type "tuple") r ∧ CalS D (blt .tuple) r := by
  refine ⟨_, call_tupZ, fun g h H k Q as v xs ok r hf hk pv => ?_⟩
  unfold blt at hf
  split at hf <;> first | (exfalso; simp_all; done) | skip
  · cases hf
    obtain ⟨x, rfl, rx⟩ := one_arg r rfl
    cases rx with
    | lst s rv => exact ⟨_, _, rfl, .inl ⟨SqL.of (ok.fh _ _ s), fun l o hl hd => pv.newT hk ok rv hl hd⟩⟩
  · obtain ⟨x, _, rx⟩ := one_arg r rfl
    cases rx
  · cases hf
    obtain ⟨x, rfl, rx⟩ := one_arg r rfl
    cases rx with
    | tup s rv => exact ⟨_, _, rfl, .inr ⟨e ▸ SqT.mono ok.fh s.sqT, pv.now hk ok (.tup s rv)⟩⟩
theorem insI_perm (x : Int) : ∀ l : List Int, (insI x l).Perm (x :: l)
  | [] => .refl _
  | y :: r => by
    unfold insI
    split
    · exact .refl _
    · exact ((insI_perm x r).cons y).trans (.swap x y r)
theorem sortI_perm : ∀ l : List Int, (sortI l).Perm l
  | [] => .refl _
  | x :: r => (insI_perm x _).trans ((sortI_perm r).cons x)
theorem insI_sorted (x : Int) : ∀ l : List Int, l.Pairwise (· ≤ ·) → (insI x l).Pairwise (· ≤ ·)
  | [], _ => by simp [insI]
  | y :: r, h => by
    unfold insI
    rw [List.pairwise_cons] at h
    split
    · rename_i hx
      refine List.pairwise_cons.mpr ⟨fun z hz => ?_, List.pairwise_cons.mpr h⟩
      rcases List.mem_cons.mp hz with q | q
      · omega
      · have := h.1 z q; omega
    · rename_i hx
      refine List.pairwise_cons.mpr ⟨fun z hz => ?_, insI_sorted x r h.2⟩
      rcases List.mem_cons.mp ((insI_perm x r).mem_iff.mp hz) with q | q
      · omega
      · exact h.1 z q
theorem sortI_sorted : ∀ l : List Int, (sortI l).Pairwise (· ≤ ·)
  | [] => .nil
  | x :: r => insI_sorted x _ (sortI_sorted r)
theorem sortI_is {a ns : List Int} (hp : a.Perm ns) (hs : a.Pairwise (· ≤ ·)) : a = sortI ns :=
  List.Perm.eq_of_pairwise (fun _ _ _ _ h1 h2 => Int.le_antisymm h1 h2) hs (sortI_sorted ns) (hp.trans (sortI_perm ns).symm)
end
end EV
namespace EV
open PySem PySem.Spec PyProof.Rows L2
open PySem.W (alike alikeAll dataLt AllAlike Sortable EachIs dataLe TotalLe)

/-! data in order: what sorted() does with it -/
mutual
theorem alB_ok : ∀ {x y : Val} {d e : PyData}, alB x y = true → toD x = some d → toD y = some e → alike d e = true
  | .int i, y, d, e, h, hx, hy => by
    unfold alB at h; split at h
    · simp only [toD, Option.some.injEq] at hx hy; subst hx hy; rfl
    · cases h
  | .bl i, y, d, e, h, hx, hy => by
    unfold alB at h; split at h
    · simp only [toD, Option.some.injEq] at hx hy; subst hx hy; rfl
    · cases h
  | .str i, y, d, e, h, hx, hy => by
    unfold alB at h; split at h
    · simp only [toD, Option.some.injEq] at hx hy; subst hx hy; rfl
    · cases h
  | .tup xs, y, d, e, h, hx, hy => by
    unfold alB at h; split at h
    · rename_i ys
      cases q1 : toDs xs with
      | none => rw [toD, q1] at hx; cases hx
      | some ds =>
        cases q2 : toDs ys with
        | none => rw [toD, q2] at hy; cases hy
        | some es =>
          rw [toD, q1] at hx; rw [toD, q2] at hy; cases hx; cases hy
          show alikeAll ds es = true
          exact alBs_ok h q1 q2
    · cases h
  | .lst xs, y, d, e, h, hx, hy => by
    unfold alB at h; split at h
    · rename_i ys
      cases q1 : toDs xs with
      | none => rw [toD, q1] at hx; cases hx
      | some ds =>
        cases q2 : toDs ys with
        | none => rw [toD, q2] at hy; cases hy
        | some es =>
          rw [toD, q1] at hx; rw [toD, q2] at hy; cases hx; cases hy
          show alikeAll ds es = true
          exact alBs_ok h q1 q2
    · cases h
  | .non, _, _, _, h, _, _ => by unfold alB at h; cases h
  | .cup, _, _, _, h, _, _ => by unfold alB at h; cases h
  | .ref _, _, _, _, h, _, _ => by unfold alB at h; cases h
  | .mls _, _, _, _, h, _, _ => by unfold alB at h; cases h
  | .mcp _, _, _, _, h, _, _ => by unfold alB at h; cases h
  | .scr _, _, _, _, h, _, _ => by unfold alB at h; cases h
  | .scl _, _, _, _, h, _, _ => by unfold alB at h; cases h
  | .obj _ _, _, _, _, h, _, _ => by unfold alB at h; cases h
  | .mob _ _ _, _, _, _, h, _, _ => by unfold alB at h; cases h
  | .clo _ _, _, _, _, h, _, _ => by unfold alB at h; cases h
  | .dic _ _, _, _, _, h, _, _ => by unfold alB at h; cases h
  | .mdc _ _, _, _, _, h, _, _ => by unfold alB at h; cases h
  | .exn _ _, _, _, _, h, _, _ => by unfold alB at h; cases h
  | .tupk _, _, _, _, h, _, _ => by unfold alB at h; cases h
theorem alBs_ok : ∀ {xs ys : List Val} {ds es : List PyData}, alBs xs ys = true → toDs xs = some ds → toDs ys = some es → alikeAll ds es = true
  | [], ys, ds, es, h, hx, hy => by
    simp only [toDs, Option.some.injEq] at hx
    subst hx
    cases es <;> rfl
  | x :: xs, ys, ds, es, h, hx, hy => by
    unfold alBs at h
    split at h
    · simp only [toDs, Option.some.injEq] at hy
      subst hy
      cases ds <;> rfl
    · rename_i y ys'
      rw [Bool.and_eq_true] at h
      cases q1 : toD x with
      | none => rw [toDs, q1] at hx; cases hx
      | some d =>
      cases q2 : toDs xs with
      | none => rw [toDs, q1, q2] at hx; cases hx
      | some ds' =>
      cases q3 : toD y with
      | none => rw [toDs, q3] at hy; cases hy
      | some e =>
      cases q4 : toDs ys' with
      | none => rw [toDs, q3, q4] at hy; cases hy
      | some es' =>
        rw [toDs, q1, q2] at hx; rw [toDs, q3, q4] at hy; cases hx; cases hy
        show (alike d e && alikeAll ds' es') = true
        rw [alB_ok h.1 q1 q3, alBs_ok h.2 q2 q4]; rfl
end
mutual
theorem eqB_ok : ∀ {x y : Val} {d e : PyData}, alB x y = true → toD x = some d → toD y = some e → PyData.eqv d e = eqB x y
  | .int i, y, d, e, h, hx, hy => by
    unfold alB at h; split at h
    · simp only [toD, Option.some.injEq] at hx hy; subst hx hy; simp [PyData.eqv, eqB]
    · cases h
  | .bl i, y, d, e, h, hx, hy => by
    unfold alB at h; split at h
    · simp only [toD, Option.some.injEq] at hx hy; subst hx hy; simp [PyData.eqv, eqB]
    · cases h
  | .str i, y, d, e, h, hx, hy => by
    unfold alB at h; split at h
    · simp only [toD, Option.some.injEq] at hx hy; subst hx hy; simp [PyData.eqv, eqB, strEq]
    · cases h
  | .tup xs, y, d, e, h, hx, hy => by
    unfold alB at h; split at h
    · rename_i ys
      cases q1 : toDs xs with
      | none => rw [toD, q1] at hx; cases hx
      | some ds =>
        cases q2 : toDs ys with
        | none => rw [toD, q2] at hy; cases hy
        | some es =>
          rw [toD, q1] at hx; rw [toD, q2] at hy; cases hx; cases hy
          unfold eqB
          rw [PyData.eqv]
          exact eqBs_ok h q1 q2
    · cases h
  | .lst xs, y, d, e, h, hx, hy => by
    unfold alB at h; split at h
    · rename_i ys
      cases q1 : toDs xs with
      | none => rw [toD, q1] at hx; cases hx
      | some ds =>
        cases q2 : toDs ys with
        | none => rw [toD, q2] at hy; cases hy
        | some es =>
          rw [toD, q1] at hx; rw [toD, q2] at hy; cases hx; cases hy
          unfold eqB
          rw [PyData.eqv]
          exact eqBs_ok h q1 q2
    · cases h
  | .non, _, _, _, h, _, _ => by unfold alB at h; cases h
  | .cup, _, _, _, h, _, _ => by unfold alB at h; cases h
  | .ref _, _, _, _, h, _, _ => by unfold alB at h; cases h
  | .mls _, _, _, _, h, _, _ => by unfold alB at h; cases h
  | .mcp _, _, _, _, h, _, _ => by unfold alB at h; cases h
  | .scr _, _, _, _, h, _, _ => by unfold alB at h; cases h
  | .scl _, _, _, _, h, _, _ => by unfold alB at h; cases h
  | .obj _ _, _, _, _, h, _, _ => by unfold alB at h; cases h
  | .mob _ _ _, _, _, _, h, _, _ => by unfold alB at h; cases h
  | .clo _ _, _, _, _, h, _, _ => by unfold alB at h; cases h
  | .dic _ _, _, _, _, h, _, _ => by unfold alB at h; cases h
  | .mdc _ _, _, _, _, h, _, _ => by unfold alB at h; cases h
  | .exn _ _, _, _, _, h, _, _ => by unfold alB at h; cases h
  | .tupk _, _, _, _, h, _, _ => by unfold alB at h; cases h
theorem eqBs_ok : ∀ {xs ys : List Val} {ds es : List PyData}, alBs xs ys = true → toDs xs = some ds → toDs ys = some es → PyData.eqvAll ds es = eqBs xs ys
  | [], ys, ds, es, h, hx, hy => by
    simp only [toDs, Option.some.injEq] at hx
    subst hx
    cases ys with
    | nil => simp only [toDs, Option.some.injEq] at hy; subst hy; simp [PyData.eqvAll, eqBs]
    | cons y ys =>
      cases q3 : toD y with
      | none => rw [toDs, q3] at hy; cases hy
      | some e =>
      cases q4 : toDs ys with
      | none => rw [toDs, q3, q4] at hy; cases hy
      | some es' => rw [toDs, q3, q4] at hy; cases hy; simp [PyData.eqvAll, eqBs]
  | x :: xs, ys, ds, es, h, hx, hy => by
    cases q1 : toD x with
    | none => rw [toDs, q1] at hx; cases hx
    | some d =>
    cases q2 : toDs xs with
    | none => rw [toDs, q1, q2] at hx; cases hx
    | some ds' =>
    rw [toDs, q1, q2] at hx; cases hx
    unfold alBs at h
    split at h
    · simp only [toDs, Option.some.injEq] at hy
      subst hy
      simp [PyData.eqvAll, eqBs]
    · rename_i y ys'
      rw [Bool.and_eq_true] at h
      cases q3 : toD y with
      | none => rw [toDs, q3] at hy; cases hy
      | some e =>
      cases q4 : toDs ys' with
      | none => rw [toDs, q3, q4] at hy; cases hy
      | some es' =>
        rw [toDs, q3, q4] at hy; cases hy
        simp only [PyData.eqvAll, eqBs]
        rw [eqB_ok h.1 q1 q3, eqBs_ok h.2 q2 q4]
end
mutual
theorem ltB_ok : ∀ {x y : Val} {d e : PyData}, alB x y = true → toD x = some d → toD y = some e → dataLt d e = ltB x y
  | .int i, y, d, e, h, hx, hy => by
    unfold alB at h; split at h
    · simp only [toD, Option.some.injEq] at hx hy; subst hx hy; rw [PySem.W.dataLt_int]; rfl
    · cases h
  | .bl i, y, d, e, h, hx, hy => by
    unfold alB at h; split at h
    · rename_i j
      simp only [toD, Option.some.injEq] at hx hy; subst hx hy; rw [PySem.W.dataLt_bool]; cases i <;> cases j <;> rfl
    · cases h
  | .str i, y, d, e, h, hx, hy => by
    unfold alB at h; split at h
    · simp only [toD, Option.some.injEq] at hx hy; subst hx hy; rw [PySem.W.dataLt_str]; rfl
    · cases h
  | .tup xs, y, d, e, h, hx, hy => by
    unfold alB at h; split at h
    · rename_i ys
      cases q1 : toDs xs with
      | none => rw [toD, q1] at hx; cases hx
      | some ds =>
        cases q2 : toDs ys with
        | none => rw [toD, q2] at hy; cases hy
        | some es =>
          rw [toD, q1] at hx; rw [toD, q2] at hy; cases hx; cases hy
          rw [PySem.W.dataLt_tuple]
          unfold ltB
          exact ltBs_ok h q1 q2
    · cases h
  | .lst xs, y, d, e, h, hx, hy => by
    unfold alB at h; split at h
    · rename_i ys
      cases q1 : toDs xs with
      | none => rw [toD, q1] at hx; cases hx
      | some ds =>
        cases q2 : toDs ys with
        | none => rw [toD, q2] at hy; cases hy
        | some es =>
          rw [toD, q1] at hx; rw [toD, q2] at hy; cases hx; cases hy
          rw [PySem.W.dataLt_list]
          unfold ltB
          exact ltBs_ok h q1 q2
    · cases h
  | .non, _, _, _, h, _, _ => by unfold alB at h; cases h
  | .cup, _, _, _, h, _, _ => by unfold alB at h; cases h
  | .ref _, _, _, _, h, _, _ => by unfold alB at h; cases h
  | .mls _, _, _, _, h, _, _ => by unfold alB at h; cases h
  | .mcp _, _, _, _, h, _, _ => by unfold alB at h; cases h
  | .scr _, _, _, _, h, _, _ => by unfold alB at h; cases h
  | .scl _, _, _, _, h, _, _ => by unfold alB at h; cases h
  | .obj _ _, _, _, _, h, _, _ => by unfold alB at h; cases h
  | .mob _ _ _, _, _, _, h, _, _ => by unfold alB at h; cases h
  | .clo _ _, _, _, _, h, _, _ => by unfold alB at h; cases h
  | .dic _ _, _, _, _, h, _, _ => by unfold alB at h; cases h
  | .mdc _ _, _, _, _, h, _, _ => by unfold alB at h; cases h
  | .exn _ _, _, _, _, h, _, _ => by unfold alB at h; cases h
  | .tupk _, _, _, _, h, _, _ => by unfold alB at h; cases h
theorem ltBs_ok : ∀ {xs ys : List Val} {ds es : List PyData}, alBs xs ys = true → toDs xs = some ds → toDs ys = some es → PyProof.Rows.lexLt PyProof.Rows.itemOrd (PySem.W.keyToksAll ds) (PySem.W.keyToksAll es) = ltBs xs ys
  | [], ys, ds, es, h, hx, hy => by
    simp only [toDs, Option.some.injEq] at hx
    subst hx
    cases ys with
    | nil => simp only [toDs, Option.some.injEq] at hy; subst hy; exact PyProof.Rows.lex_irrefl _
    | cons y ys =>
      cases q3 : toD y with
      | none => rw [toDs, q3] at hy; cases hy
      | some e =>
      cases q4 : toDs ys with
      | none => rw [toDs, q3, q4] at hy; cases hy
      | some es' => rw [toDs, q3, q4] at hy; cases hy; simp [PySem.W.keyToksAll, PyProof.Rows.lexLt, PyProof.Rows.itemLt, ltBs]
  | x :: xs, ys, ds, es, h, hx, hy => by
    cases q1 : toD x with
    | none => rw [toDs, q1] at hx; cases hx
    | some d =>
    cases q2 : toDs xs with
    | none => rw [toDs, q1, q2] at hx; cases hx
    | some ds' =>
    rw [toDs, q1, q2] at hx; cases hx
    unfold alBs at h
    split at h
    · simp only [toDs, Option.some.injEq] at hy
      subst hy
      simp [PySem.W.keyToksAll, PyProof.Rows.lexLt, PyProof.Rows.itemLt, ltBs]
    · rename_i y ys'
      rw [Bool.and_eq_true] at h
      cases q3 : toD y with
      | none => rw [toDs, q3] at hy; cases hy
      | some e =>
      cases q4 : toDs ys' with
      | none => rw [toDs, q3, q4] at hy; cases hy
      | some es' =>
        rw [toDs, q3, q4] at hy; cases hy
        rw [PySem.W.dataLt_cons (alB_ok h.1 q1 q3), eqB_ok h.1 q1 q3]
        simp only [ltBs]
        cases q : eqB x y with
        | true => rw [if_pos rfl]; exact ltBs_ok h.2 q2 q4
        | false => rw [if_neg (by simp)]; exact ltB_ok h.1 q1 q3
end

/-! the rows in order -/
def encV (x : Val) : PyData := (toD x).getD .none
theorem datOk_is {x : Val} (h : datOk x = true) : toD x = some (encV x) ∧ dOk (encV x) = true := by
  unfold datOk at h
  unfold encV
  split at h
  · rename_i d e; rw [e]; exact ⟨rfl, h⟩
  · cases h
theorem insV_perm (x : Val) : ∀ l : List Val, (insV x l).Perm (x :: l)
  | [] => .refl _
  | y :: r => by
    unfold insV
    split
    · exact .refl _
    · exact ((insV_perm x r).cons y).trans (.swap x y r)
theorem sortV_perm : ∀ l : List Val, (sortV l).Perm l
  | [] => .refl _
  | x :: r => (insV_perm x _).trans ((sortV_perm r).cons x)
def leV (a b : Val) : Bool := dataLe false encV a b
theorem leV_total : TotalLe leV := by
  have h := PySem.W.sortLe_total (PyProof.Rows.listOrd PyProof.Rows.itemOrd) false (fun b : Val => PySem.W.keyToks (encV b))
  exact ⟨fun a b c => h.trans a b c, fun a b => h.total a b⟩
theorem leV_is (a b : Val) : leV a b = !dataLt (encV b) (encV a) := rfl
theorem toDs_all {xs : List Val} (h : ∀ x ∈ xs, toD x = some (encV x)) : toDs xs = some (xs.map encV) := by
  induction xs with
  | nil => simp [toDs]
  | cons x r ih =>
    rw [toDs, h x List.mem_cons_self, ih fun y hy => h y (List.mem_cons_of_mem _ hy)]
    rfl
/-- a strictly rising row: each item is less than all behind -/
theorem strB_pw : ∀ (l : List Val), (∀ x ∈ l, ∀ y ∈ l, dataLt (encV x) (encV y) = ltB x y) → strB l = true → l.Pairwise fun a b => dataLt (encV a) (encV b) = true
  | [], _, _ => .nil
  | [x], _, _ => by simp
  | x :: y :: r, hl, h => by
    have h' : (ltB x y && strB (y :: r)) = true := h
    rw [Bool.and_eq_true] at h'
    have ih := strB_pw (y :: r) (fun a ha b hb => hl a (List.mem_cons_of_mem _ ha) b (List.mem_cons_of_mem _ hb)) h'.2
    have hxy : dataLt (encV x) (encV y) = true := by rw [hl x (by simp) y (by simp)]; exact h'.1
    refine List.pairwise_cons.mpr ⟨fun z hz => ?_, ih⟩
    rcases List.mem_cons.mp hz with e | e
    · rw [e]; exact hxy
    · have hyz := (List.pairwise_cons.mp ih).1 z e
      -- x < y, y < z
      have t := leV_total.trans x y z
      by_cases q : dataLt (encV x) (encV z) = true
      · exact q
      · exfalso
        have q' : dataLt (encV x) (encV z) = false := by simpa using q
        have e1 : leV z x = true := by rw [leV_is, q']; rfl
        have e2 : leV x y = true := by
          rcases leV_total.total x y with k | k
          · exact k
          · rw [leV_is, hxy] at k; cases k
        have e3 := leV_total.trans z x y e1 e2
        rw [leV_is, hyz] at e3; cases e3
theorem srtV_is {xs ys : List Val} (h : srtV xs = some ys) : (∀ x ∈ xs, toD x = some (encV x) ∧ dOk (encV x) = true) ∧ AllAlike (xs.map encV) ∧ Sortable (xs.map encV) ∧ ys = xs.mergeSort leV := by
  unfold srtV at h
  split at h
  · rename_i hb
    cases h
    rw [Bool.and_eq_true, Bool.and_eq_true, Bool.and_eq_true] at hb
    obtain ⟨⟨⟨h1, h2⟩, h3⟩, h4⟩ := hb
    have k1 : ∀ x ∈ xs, toD x = some (encV x) ∧ dOk (encV x) = true := fun x hx => datOk_is (List.all_eq_true.mp h1 x hx)
    have k2 : ∀ x ∈ xs, ∀ y ∈ xs, alB x y = true := fun x hx y hy => List.all_eq_true.mp (List.all_eq_true.mp h2 x hx) y hy
    have k3 : ∀ x ∈ xs, ∀ y ∈ xs, dataLt (encV x) (encV y) = ltB x y := fun x hx y hy => ltB_ok (k2 x hx y hy) (k1 x hx).1 (k1 y hy).1
    refine ⟨k1, ?_, ?_, ?_⟩
    · intro d hd e he
      obtain ⟨x, hx, rfl⟩ := List.mem_map.mp hd
      obtain ⟨y, hy, rfl⟩ := List.mem_map.mp he
      exact alB_ok (k2 x hx y hy) (k1 x hx).1 (k1 y hy).1
    · rw [Bool.or_eq_true] at h3
      rcases h3 with q | q
      · refine .inl fun d hd => ?_
        obtain ⟨x, hx, rfl⟩ := List.mem_map.mp hd
        have key : ∀ l : List Val, allTup l = true → ∀ x ∈ l, ∃ y r, x = .tup (y :: r) := by
          intro l
          induction l with
          | nil => intro _ x hx; simp at hx
          | cons z r ih =>
            intro hq x hx
            unfold allTup at hq
            split at hq
            · rename_i e; cases e
            · rename_i y r1 r2 e
              cases e
              rcases List.mem_cons.mp hx with e | e
              · exact ⟨_, _, e⟩
              · exact ih hq x e
            · cases hq
        obtain ⟨y, r, e⟩ := key xs q x hx
        have t := (k1 x hx).1
        subst e
        cases q1 : toD y with
        | none => rw [toD, toDs, q1] at t; cases t
        | some d1 =>
          cases q2 : toDs r with
          | none => rw [toD, toDs, q1, q2] at t; cases t
          | some ds =>
            rw [toD, toDs, q1, q2] at t
            exact ⟨d1, ds, (Option.some.inj t).symm⟩
      · refine .inr fun d hd => ?_
        obtain ⟨x, hx, rfl⟩ := List.mem_map.mp hd
        have key : ∀ l : List Val, noTup l = true → ∀ x ∈ l, x ≠ .non ∧ ∀ ys, x ≠ .tup ys := by
          intro l
          induction l with
          | nil => intro _ x hx; simp at hx
          | cons z r ih =>
            intro hq x hx
            unfold noTup at hq
            split at hq <;> first | (rename_i e; cases e; done) | (cases hq; done) | skip
            rename_i z' r' n1 n2 e
            cases e
            rcases List.mem_cons.mp hx with e | e
            · subst e; exact ⟨fun z => n2 z, fun ys z => n1 ys z⟩
            · exact ih hq x e
        obtain ⟨n1, n2⟩ := key xs q x hx
        have t := (k1 x hx).1
        have a := k2 x hx x hx
        cases x with
        | tup ys => exact absurd rfl (n2 ys)
        | int i => simp only [toD, Option.some.injEq] at t; rw [← t]; exact ⟨by simp, by simp⟩
        | bl i => simp only [toD, Option.some.injEq] at t; rw [← t]; exact ⟨by simp, by simp⟩
        | str i => simp only [toD, Option.some.injEq] at t; rw [← t]; exact ⟨by simp, by simp⟩
        | lst ys =>
          cases q1 : toDs ys with
          | none => rw [toD, q1] at t; cases t
          | some ds => rw [toD, q1] at t; rw [← Option.some.inj t]; exact ⟨by simp, by simp⟩
        | _ => unfold alB at a; cases a
    · have hp := sortV_perm xs
      have mem : ∀ x ∈ sortV xs, x ∈ xs := fun x hx => hp.mem_iff.mp hx
      have pw := strB_pw (sortV xs) (fun x hx y hy => k3 x (mem x hx) y (mem y hy)) h4
      have pl : (sortV xs).Pairwise fun a b => leV a b = true := pw.imp fun {a b} q => by
        rcases leV_total.total a b with k | k
        · exact k
        · rw [leV_is, q] at k; cases k
      have anti : ∀ a b : Val, a ∈ sortV xs → b ∈ sortV xs → leV a b = true → leV b a = true → a = b := by
        intro a b ha hb h1 h2
        obtain ⟨i, hi, rfl⟩ := List.mem_iff_getElem.mp ha
        obtain ⟨j, hj, rfl⟩ := List.mem_iff_getElem.mp hb
        rcases Nat.lt_trichotomy i j with q | q | q
        · have := List.pairwise_iff_getElem.mp pw i j hi hj q
          rw [leV_is, this] at h2; cases h2
        · subst q; rfl
        · have := List.pairwise_iff_getElem.mp pw j i hj hi q
          rw [leV_is, this] at h1; cases h1
      have pm := hp.trans (List.mergeSort_perm xs leV).symm
      exact List.Perm.eq_of_pairwise (le := fun a b => leV a b = true) (fun a b ha hb => anti a b ha (pm.mem_iff.mpr hb)) pl (PySem.W.sort_pairwise leV_total xs) pm
  · cases h

/-! sorted() of a tuple, at the model's level -/
section
open PySem.W
variable {prog : Program} {w : World} {A : Around} {E : Value → Shared → Prop} {s : Shared}
theorem collect_tup {l : Addr} {vs : List Value} {Q : List Value → Shared → Prop} (hl : IsTup s.heap l vs.toArray)
    (h : Q vs { s with heap := (s.heap.push (seqObj "list" #[] 0)).update s.heap.objs.size (Obj.mapSeq (· ++ vs.toArray)) }) (hsz : vs.length ≤ sizeLine) :
    wpAny (model prog w) A (collect (.ref l)) Q E s := by
  obtain ⟨o, ho, hc, n, hd⟩ := id hl
  unfold collect
  refine wpAny_bind (wpAny_runValue (codeAny_builtin entry_proto_collect' ?_))
  show wpAny _ _ (do again (.builtin "list.__iadd__" ⟨[← newList [], .ref l], []⟩)) _ _ s
  refine wpAny_bind (wpAny_newList (wpAny_pure ⟨Code.quiet_builtin _ (by decide +kernel), codeAny_builtin entry_list_iadd' ?_⟩))
  show wpAny _ _ (Builtin.List.listExtendWith (.ref s.heap.objs.size) (.ref l) (.ref s.heap.objs.size)) _ _ { s with heap := s.heap.push (seqObj "list" #[] 0) }
  unfold Builtin.List.listExtendWith
  have ho' : (s.heap.push (seqObj "list" #[] 0)).get? l = some o := Heap.get?_push_of_some _ ho
  refine wpAny_bind (wpAny_typeOf (T := "tuple") ⟨o, ho', hc⟩ ?_)
  have ht : (Value.type "tuple" == Value.type "tuple") = true := by rfl
  rw [if_pos (by rw [ht]; simp)]
  refine wpAny_bind (listItems_at ho' hd ?_)
  refine wpAny_bind (listItems_at (xs := #[]) (n := 0) (Heap.get?_push_size _ rfl) rfl ?_)
  rw [if_neg (by simp)]
  refine wpAny_bind (listUpdate_at (xs := #[]) (n := 0) (Heap.get?_push_size _ rfl) rfl ?_ (Nat.zero_le _) (by show (#[] ++ vs.toArray).size ≤ sizeLine + 1; simp only [Array.size_append, List.size_toArray, List.length_nil]; omega))
  refine wpAny_pure ?_
  show wpAny (model prog w) A (do
      let o ← load s.heap.objs.size
      match o.data with
      | .seq xs _ => pure xs.toList
      | _ => unsupported "internal:collect") Q E { s with heap := (s.heap.push (seqObj "list" #[] 0)).update s.heap.objs.size (Obj.mapSeq (· ++ vs.toArray)) }
  refine wpAny_bind (wpAny_load (get?_update_seq (Heap.get?_push_size _ rfl) _) ?_)
  show wpAny _ _ (pure ((#[] : Array Value) ++ vs.toArray).toList) Q E _
  rw [show ((#[] : Array Value) ++ vs.toArray).toList = vs by simp]
  exact wpAny_pure h
theorem sorted_of_sortT {l : Addr} {vs : List Value} {Q : Value → Shared → Prop} (hl : IsTup s.heap l vs.toArray) (hL : vs.length ≤ sizeLine)
    (body : ∀ E' : Value → Shared → Prop, wpAny (model prog w) A.in1.in1 (Builtin.«list.sort» ⟨[.ref (s.heap.objs.size + 1)], []⟩) (fun f s' => f = .done (.ret .none) ∧ Q (.ref (s.heap.objs.size + 1)) s') E' { s with heap := copyHeap s.heap vs }) :
    wpAny (model prog w) A (call (.builtin "sorted") [.ref l]) Q E s := by
  refine call_function_entry_kw kind_sorted plain_sorted entry_sorted (args_sorted1 _) ?_
  unfold Builtin.«sorted»
  refine wpAny_bind (m := checkCount "sorted" 1 1 _) (wpAny_pure ?_)
  refine wpAny_bind (collect_tup hl ?_ hL)
  refine wpAny_bind (wpAny_newList ?_ hL)
  have hsz : ((s.heap.push (seqObj "list" #[] 0)).update s.heap.objs.size (Obj.mapSeq (· ++ vs.toArray))).objs.size = s.heap.objs.size + 1 := by
    rw [Heap.size_update, size_push']
  show wpAny _ _ _ _ _ { s with heap := copyHeap s.heap vs }
  rw [hsz]
  refine wpAny_bind (wpAny_holding (wpAny_call_entry_kw slot_list_sort ⟨_, copyHeap_at s.heap vs, rfl⟩ entry_list_sort ?body (args_list_sort _)))
  case body =>
    show wpAny (model prog w) A.in1.in1 (Builtin.«list.sort» ⟨[.ref (s.heap.objs.size + 1)], []⟩) _ _ _
    refine wpAny_mono (body _) (fun f s' hf => ?_) fun _ _ e => e
    obtain ⟨rfl, hq⟩ := hf
    exact ⟨_, rfl, wpAny_pure ⟨_, rfl, hq⟩⟩
theorem sorted_dataT {β : Type} {vs : List Value} {bs : List β} {enc : β → PyData} {R : Value → β → Prop} {l : Addr} {Q : Value → Shared → Prop} (hl : IsTup s.heap l vs.toArray) (e : EachIs R vs bs) (er : EachIs (fun v b => ∃ as, Reads s.heap v (enc b) as) vs bs) (hal : AllAlike (bs.map enc)) (hk : Sortable (bs.map enc)) (hL : bs.length ≤ sizeLine)
    (hu : ∀ b, b ∈ bs → A.units + 2 + (enc b).depth < cLine) (h : ∀ out, out.length = bs.length → EachIs R out (bs.mergeSort (dataLe false enc)) → Q (.ref (s.heap.objs.size + 1)) { s with heap := sortedAll s.heap vs (List.toArray out) }) :
    wpAny (model prog w) A (call (.builtin "sorted") [.ref l]) Q E s := by
  have er' : EachIs (fun v b => ∃ as, Reads (sortingHeap (copyHeap s.heap vs) (s.heap.objs.size + 1) vs) v (enc b) as) vs bs := er.mono fun _ _ ⟨as, r⟩ => ⟨as, PyProof.Rows.Reads.keeps (fun _ _ => sorting_copy_old) r⟩
  have S := SortsAt.data (prog := prog) (w := w) (A := A.in1.in1) (s := { s with heap := sortingHeap (copyHeap s.heap vs) (s.heap.objs.size + 1) vs }) (each_map (R := fun v d => ∃ as, Reads (sortingHeap (copyHeap s.heap vs) (s.heap.objs.size + 1) vs) v d as) enc er') hal hk (bound_map hu)
  exact sorted_of_sortT hl (by rw [e.length]; exact hL) fun _ => list_sort_vals (s := { s with heap := copyHeap s.heap vs }) (copyHeap_at s.heap vs) S (by rw [e.length]; exact hL) ⟨rfl, h _ (by rw [sortVals_length false rfl]; exact e.length) (sortVals_data false e er' hal)⟩
end
/-! the rule -/
section
variable {D : Dat} {X : Cx} {g : Gs} {h : Hs} {H : Hp}
/-- the rows as the data read: as they come out -/
def outOf (xs : List L2.V) (ds : List PyData) : List L2.V := ((xs.zip ds).mergeSort (dataLe false Prod.snd)).map Prod.fst
def rSortA (K : PySem.W.Frag) : List L2.V → Hp → VK → Prop := fun vs H Q => ∃ (a : Addr) (xs : List L2.V) (ds : List PyData), vs = [.ref a] ∧ (SqL K H a xs ∨ SqT K H a xs) ∧ DpAll K H xs ds ∧ AllAlike ds ∧ Sortable ds ∧ (∀ d ∈ ds, dOk d = true) ∧
  ∀ p, H p = none → Q (.ref p) (upd H p (.lst (outOf xs ds)))
theorem each_zip {s : Shared} {pins : List (Addr × Obj)} {σ : L2.St} (I : Inv X pins σ H s) : ∀ (ds : List PyData) (xs : List L2.V) (us : List Value), DpAll X.K H xs ds → Vals xs us →
    EachIs (fun (v : Value) (b : L2.V × PyData) => RelV b.1 v) us (xs.zip ds) ∧ EachIs (fun (v : Value) (b : L2.V × PyData) => ∃ as, Reads s.heap v b.2 as) us (xs.zip ds) ∧ (xs.zip ds).map Prod.snd = ds ∧ (xs.zip ds).length = xs.length
  | [], _, _, h, r => by
    cases h
    cases r
    exact ⟨.nil, .nil, rfl, rfl⟩
  | d :: ds, _, _, h, r => by
    cases h with
    | cons h1 h2 =>
      cases r with
      | cons r1 r2 =>
        obtain ⟨a, b, c, e⟩ := each_zip I ds _ _ h2 r2
        exact ⟨.cons r1 a, .cons (Dp.reads I d _ _ h1 r1) b, by rw [List.zip_cons_cons, List.map_cons, c], by rw [List.zip_cons_cons, List.length_cons, e, List.length_cons]⟩
theorem each_vals {us : List Value} {bs : List (L2.V × PyData)} (e : EachIs (fun (v : Value) (b : L2.V × PyData) => RelV b.1 v) us bs) : Vals (bs.map Prod.fst) us := by
  induction e with
  | nil => exact .nil
  | cons a _ ih => exact .cons a ih
theorem cr_sortedA (hu : X.A.units + 65 < cLine) : CallR X (.builtin "sorted") (rSortA X.K) := by
  intro pins s σ H vs us Q I r hr
  obtain ⟨a, xs, ds, rfl, hs, hd, hal, hk, ho, q⟩ := hr
  rw [Vals.ref1 r]
  have rm : ∀ (its : List Value), Vals xs its → (∀ b, b ∈ xs.zip ds → X.A.units + 2 + (b.2).depth < cLine) := fun its rv b hb => by
    have : b.2 ∈ ds := (List.of_mem_zip (by exact hb : (b.1, b.2) ∈ xs.zip ds)).2
    have := ho _ this
    unfold dOk at this
    have := of_decide_eq_true this
    omega
  have fin : ∀ (its : List Value), Vals xs its → xs.length ≤ sizeLine → ∀ out : List Value, out.length = (xs.zip ds).length → EachIs (fun (v : Value) (b : L2.V × PyData) => RelV b.1 v) out ((xs.zip ds).mergeSort (dataLe false Prod.snd)) →
      EP X pins σ Q (.ref (s.heap.objs.size + 1)) { s with heap := sortedAll s.heap its (List.toArray out) } := fun its rv hz out hl e => by
    obtain ⟨_, _, _, zl⟩ := each_zip I ds xs its hd rv
    obtain ⟨ep, he'⟩ := PyProof.Rows.sortedAll_at s.heap its out.toArray
    have hv := each_vals e
    have hlen : (outOf xs ds).length ≤ sizeLine := by
      unfold outOf
      rw [List.length_map, (List.mergeSort_perm _ _).length_eq, zl]; exact hz
    exact ⟨.ref _, upd H (s.heap.objs.size + 1) (.lst (outOf xs ds)), I.laid (t' := s.toks) (fun _ _ => PyProof.Rows.sortedAll_old) (Nat.le_succ _) ⟨hlen, out, ep, hv, he'⟩, rfl, q _ (I.hok.fresh (Nat.le_succ _))⟩
  rcases hs with hs | hs
  · obtain ⟨its, rv, hl, hz⟩ := I.list hs
    obtain ⟨e1, e2, e3, e4⟩ := each_zip I ds xs its hd rv
    exact PySem.W.sorted_data hl.isList e1 e2 (by rw [e3]; exact hal) (by rw [e3]; exact hk) (by rw [e4]; exact hz) (rm its rv) (fin its rv hz)
  · obtain ⟨its, rv, hl, hz⟩ := I.tuple hs
    obtain ⟨e1, e2, e3, e4⟩ := each_zip I ds xs its hd rv
    exact sorted_dataT hl e1 e2 (by rw [e3]; exact hal) (by rw [e3]; exact hk) (by rw [e4]; exact hz) (rm its rv) (fin its rv hz)
/-- the values sorted go with the rows sorted -/
theorem each_rel {K : PySem.W.Frag} : ∀ {as : List Val} {xs : List L2.V} {ds : List PyData}, VRs K g as xs → toDs as = some ds → EachIs (fun (a : Val) (b : L2.V × PyData) => VR K g a b.1 ∧ toD a = some b.2) as (xs.zip ds)
  | _, _, ds, .nil, e => by simp only [toDs, Option.some.injEq] at e; subst e; exact .nil
  | a :: as, x :: xs, ds, .cons r t, e => by
    cases q1 : toD a with
    | none => rw [toDs, q1] at e; cases e
    | some d =>
    cases q2 : toDs as with
    | none => rw [toDs, q1, q2] at e; cases e
    | some ds' =>
      rw [toDs, q1, q2] at e; cases e
      exact .cons ⟨r, q1⟩ (each_rel t q2)
theorem rel_each {K : PySem.W.Frag} {as : List Val} {bs : List (L2.V × PyData)} (e : EachIs (fun (a : Val) (b : L2.V × PyData) => VR K g a b.1 ∧ toD a = some b.2) as bs) : VRs K g as (bs.map Prod.fst) := by
  induction e with
  | nil => exact .nil
  | cons a _ ih => exact .cons a.1 ih
theorem out_rel {K : PySem.W.Frag} {as : List Val} {xs : List L2.V} {ds : List PyData} (r : VRs K g as xs) (e : toDs as = some ds) : VRs K g (as.mergeSort leV) (outOf xs ds) := by
  refine rel_each (PySem.W.sort_each (each_rel r e) fun p hp q hq => ?_)
  have h1 := ((each_rel r e).zip p hp).2
  have h2 := ((each_rel r e).zip q hq).2
  show (!dataLt (encV q.1) (encV p.1)) = !dataLt q.2.2 p.2.2
  unfold encV
  rw [h1, h2]; rfl
theorem ints_sort (ns : List Int) : (ns.map Val.int).mergeSort leV = (sortI ns).map .int := by
  have hp : ((sortI ns).map Val.int).Perm (ns.map Val.int) := (sortI_perm ns).map _
  have hl : ∀ a b : Int, leV (.int a) (.int b) = decide (a ≤ b) := fun a b => by
    rw [leV_is]
    show (!dataLt (.int b) (.int a)) = _
    rw [PySem.W.dataLt_int]
    by_cases q : a ≤ b <;> simp [q] <;> omega
  have pl : ((sortI ns).map Val.int).Pairwise fun a b => leV a b = true := by
    rw [List.pairwise_map]
    exact (sortI_sorted ns).imp fun {a b} q => by rw [hl]; exact decide_eq_true q
  have pm := hp.trans (List.mergeSort_perm (ns.map Val.int) leV).symm
  refine (List.Perm.eq_of_pairwise (le := fun a b => leV a b = true) (fun a b ha hb h1 h2 => ?_) pl (PySem.W.sort_pairwise leV_total _) pm).symm
  obtain ⟨i, _, rfl⟩ := List.mem_map.mp ha
  obtain ⟨j, _, rfl⟩ := List.mem_map.mp ((List.mergeSort_perm _ _).mem_iff.mp hb)
  rw [hl, decide_eq_true_eq] at h1 h2
  have : i = j := by omega
  rw [this]
theorem ints_toDs : ∀ ns : List Int, toDs (ns.map Val.int) = some (ns.map .int)
  | [] => by simp [toDs]
  | n :: r => by rw [List.map_cons, toDs, ints_toDs r]; rfl
theorem intsOf_map : ∀ {xs : List Val} {ns : List Int}, intsOf xs = some ns → xs = ns.map .int
  | [], ns, h => by cases h; rfl
  | x :: r, ns, h => by
    unfold intsOf at h
    split at h
    · rename_i e; cases e
    · rename_i i r' e
      cases e
      cases q : intsOf r with
      | none => rw [q] at h; cases h
      | some ms => rw [q] at h; cases h; rw [intsOf_map q]; rfl
    · cases h
theorem cs_sorted (e : D.K = X.K) (hu : X.A.units + 65 < cLine) : ∃ r, CallR X (.builtin "sorted") r ∧ CalS D (blt .sorted) r := by
  refine ⟨_, cr_sortedA hu, fun g h H k Q as v xs ok r hf hk pv => ?_⟩
  have go : ∀ (a : Val) (ys : List Val) (us : List L2.V) (p : Addr), VRs D.K g ys us → (SqL X.K H p us ∨ SqT X.K H p us) → (∃ ds, toDs ys = some ds ∧ AllAlike ds ∧ Sortable ds ∧ ∀ d ∈ ds, dOk d = true) → v = .lst (ys.mergeSort leV) → rSortA X.K [.ref p] H Q := by
    intro a ys us p rv hs hd hv
    obtain ⟨ds, e1, e2, e3, e4⟩ := hd
    subst hv
    exact ⟨p, us, ds, rfl, hs, e ▸ VRs.dp ok.fh rv e1, e2, e3, e4, fun q hq => pv.newL hk ok (out_rel rv e1) hq⟩
  have di : ∀ ns : List Int, ∃ ds, toDs (ns.map Val.int) = some ds ∧ AllAlike ds ∧ Sortable ds ∧ ∀ d ∈ ds, dOk d = true := fun ns => by
    refine ⟨_, ints_toDs ns, fun d hd d' hd' => ?_, .inr fun d hd => ?_, fun d hd => ?_⟩
    · obtain ⟨i, _, rfl⟩ := List.mem_map.mp hd
      obtain ⟨j, _, rfl⟩ := List.mem_map.mp hd'
      rfl
    · obtain ⟨i, _, rfl⟩ := List.mem_map.mp hd
      exact ⟨by simp, by simp⟩
    · obtain ⟨i, _, rfl⟩ := List.mem_map.mp hd
      rfl
  unfold blt at hf
  split at hf <;> first | (exfalso; simp_all; done) | skip
  · rename_i ys _
    obtain ⟨x, rfl, rx⟩ := one_arg r rfl
    cases rx with
    | @lst p _ us s rv =>
      have hs : SqL X.K H p us := SqL.of (ok.fh _ _ s)
      split at hf
      · rename_i ns en
        cases hf
        have := intsOf_map en
        subst this
        exact go .non (ns.map .int) us p rv (.inl hs) (di ns) (by rw [ints_sort])
      · cases q : srtV ys with
        | none => rw [q] at hf; cases hf
        | some zs =>
          rw [q] at hf
          cases hf
          obtain ⟨k1, k2, k3, k4⟩ := srtV_is q
          refine go .non ys us p rv (.inl hs) ⟨_, toDs_all fun x hx => (k1 x hx).1, k2, k3, fun d hd => ?_⟩ (by rw [k4])
          obtain ⟨x, hx, rfl⟩ := List.mem_map.mp hd
          exact (k1 x hx).2
  · rename_i ys _
    obtain ⟨x, rfl, rx⟩ := one_arg r rfl
    cases rx with
    | @tup p _ us s rv =>
      have hs : SqT X.K H p us := e ▸ SqT.mono ok.fh s.sqT
      split at hf
      · rename_i ns en
        cases hf
        have := intsOf_map en
        subst this
        exact go .non (ns.map .int) us p rv (.inr hs) (di ns) (by rw [ints_sort])
      · cases hf
end
end EV
namespace EV
open PySem PySem.Spec PyProof.Rows L2

section
variable {D : Dat} {T : Tab} {Γ : Sem} {N : List Str} {sc : Scope} {n : Nat} {W : WX} {X : Cx}
variable {g g' : Gs} {H H' : Hp} {h h' : Hs} {P : Addr → Prop} {env : Env} {σ : L2.St}
/-- the value behind a built-in name -/
def bval : Blt → Value
  | .len => .builtin "len" | .int => .type "int" | .abs => .builtin "abs" | .max2 => .builtin "max" | .min2 => .builtin "min" | .max => .builtin "max" | .min => .builtin "min" | .sum => .builtin "sum" | .all => .builtin "all"
  | .any => .builtin "any" | .list => .type "list" | .tuple => .type "tuple" | .divmod => .builtin "divmod" | .sorted => .builtin "sorted"
theorem bval_boot (b : Blt) : bootBuiltins (bnm b) = some (bval b) := by cases b <;> decide +kernel
theorem cs_of (e : D.K = X.K) (hc : X.calm = true) (hu : X.A.units + 65 < cLine) (b : Blt) (hb : b ≠ .divmod) : ∃ r, CallR X (bval b) r ∧ CalS D (blt b) r := by
  cases b with
  | len => exact cs_len e
  | int => exact cs_int
  | abs => exact cs_abs
  | max2 => exact cs_max2 hc
  | min2 => exact cs_min2 hc
  | max => exact cs_max e hc hu
  | min => exact cs_min e hc hu
  | sum => exact cs_sum e hc
  | all => exact cs_all e hc
  | any => exact cs_any e hc
  | list => exact cs_list e
  | tuple => exact cs_tuple e
  | divmod => exact absurd rfl hb
  | sorted => exact cs_sorted e hu
theorem Gd.mgD (G : Gd D T Γ N sc n W X) : D.mg = X.mg := by obtain ⟨_, _, _, _, e⟩ := G.dat; rw [e]
theorem Gd.mgN (G : Gd D T Γ N sc n W X) {x : Str} (h : x ∈ bltNames) : X.mg x = none := by rw [← G.mgD]; exact G.fns.blt x h
theorem bnm_name (b : Blt) : bnm b ≠ "__name__" ∧ (bnm b == ("__debug__" : Str)) = false := by cases b <;> decide +kernel
/-- a call of a built-in, whatever it is -/
theorem pe_blt (G : Gd D T Γ N sc n W X) {b : Blt} {p pos : Pos} {e : Expr} {es : List Expr} {t : TA} {r : List L2.V → Hp → VK → Prop} (hr : CallR X (bval b) r) (hg : glB sc (bnm b) = true) (ha : PA X (e :: es) t) (ht : allTame (e :: es) = true) :
    PE X (.Call (.Name (bnm b) p) (e :: es) [] pos) (tCB r t) := by
  have h1 := (bnm_name b).1
  have h2 := (bnm_name b).2
  have ht' := ht
  unfold allTame at ht'
  rw [List.all_cons, Bool.and_eq_true] at ht'
  have s1 := tame_star ht'.1 es X.env
  have s2 := tame_plain (es := es) ht'.2 X.env pos
  have hb := bval_boot b
  have hm := G.mgN (bltN (b := b))
  cases b <;> first
    | exact pe_callB hr (G.gl hg) hm hb ha h1 h2 s1 s2
    | exact pe_callTy hr (G.gl hg) hm hb ha h1 h2 s1 s2
theorem sd_blt (G : Gd D T Γ N sc n W X) {b : Blt} {es : Es} {py : Expr} (h : chkE T N sc (.blt b es) py = true) (ihs : ∀ ps, chkEs T N sc es ps = true → allTame ps = true → PA X ps (simA D Γ W es)) : Sd D Γ W X (.blt b es) py := by
  unfold chkE at h
  split at h
  · simp only [Bool.and_eq_true, decide_eq_true_eq] at h
    obtain ⟨⟨⟨⟨⟨hd, h1⟩, h2⟩, h3⟩, h4⟩, h5⟩ := h
    subst h1
    obtain ⟨r, hr, hs⟩ := cs_of G.eK G.calm G.un2 b hd
    refine sd_of (PE.weak (pe_blt G hr h2 (ihs _ h5 h4) h4) ?_) rfl
    rintro σ H Q ⟨P, g, h, env, k, kx, st, hk, pv, px⟩
    refine seqA st hk px fun vs h1 g1 H1 xs hk1 e1 st1 px1 r1 => ?_
    obtain ⟨z, ez, hz⟩ := stepK_some hk1
    exact hs g1 h1 H1 k Q vs z xs st1.ok r1 ez hz (pv.ext e1)
  · cases h
/-! len and tuple of a name that owns its list -/
def rLenT (K : PySem.W.Frag) : List L2.V → Hp → VK → Prop := fun xs H Q => ∃ p ys, xs = [.ref p] ∧ (SqL K H p ys ∨ SqT K H p ys) ∧ Q (.int ys.length) H
theorem sd_lenO (G : Gd D T Γ N sc n W X) {i : Nat} {py : Expr} (h : chkE T N sc (.lenO i) py = true) : Sd D Γ W X (.lenO i) py := by
  unfold chkE at h
  split at h
  · simp only [Bool.and_eq_true, decide_eq_true_eq] at h
    obtain ⟨⟨⟨⟨h1, h2⟩, h3⟩, h4⟩, h5⟩ := h
    subst h1
    refine sd_of (PE.weak (pe_callB (CallR.or call_len_seq call_len_str) (G.gl h2) (G.mgN (by decide +kernel)) (bval_boot .len) (pa_cons (pe_var (i := i) (G.hN h3) (G.vis h4) (plainN_d h5).1 (plainN_d h5).2.1) pa_nil rfl) (by decide +kernel) (by decide +kernel) rfl rfl) ?_) rfl
    rintro σ H Q ⟨P, g, h, env, k, kx, st, hk, pv, px⟩
    obtain ⟨a, ea, hk1⟩ := stepK_some hk
    obtain ⟨z, ez, hz⟩ := stepK_some hk1
    obtain ⟨ow, x0, e0, sr⟩ := st.er.sr ea
    refine ⟨x0, e0, ?_⟩
    cases hd : isData a with
    | true =>
      obtain ⟨r, hr, hs⟩ := cs_len (X := X) G.eK
      have q := sr.data hd
      unfold blt at ez
      split at ez <;> first | (exfalso; simp_all; done) | skip
      · cases ez
        rename_i e1
        cases e1
        obtain ⟨p, vs, rfl, hs, rv⟩ := seqR G.eK st.ok q rfl
        refine .inl ⟨p, vs, rfl, hs, ?_⟩
        rw [← rv.length]
        exact pv.now hz st.ok (.int _)
      · rename_i e1; cases e1; cases hd
      · cases ez
        rename_i e1
        cases e1
        cases q with
        | scr s hl =>
          refine .inl ⟨_, _, rfl, .inl (G.eK ▸ SqL.mono st.ok.fh s), ?_⟩
          rw [List.length_map, hl]
          exact pv.now hz st.ok (.int _)
      · cases ez
        rename_i e1
        cases e1
        obtain ⟨p, vs, rfl, hs, rv⟩ := seqR G.eK st.ok q rfl
        refine .inl ⟨p, vs, rfl, hs, ?_⟩
        rw [← rv.length]
        exact pv.now hz st.ok (.int _)
      · split at ez
        · cases ez
          rename_i e1 _
          cases e1
          cases q
          exact .inr ⟨_, rfl, by assumption, pv.now hz st.ok (.int _)⟩
        · cases ez
      · cases ez
        rename_i e1
        cases e1
        cases q with
        | scl s =>
          refine .inl ⟨_, _, rfl, .inl (G.eK ▸ SqL.mono st.ok.fh s), ?_⟩
          rw [List.length_map]
          exact pv.now hz st.ok (.int _)
    | false =>
      cases a <;> first | (cases hd; done) | (cases ez; done) | skip
      cases ez
      obtain ⟨p, vs, _, rfl, h3, h4, _⟩ := sr
      refine .inl ⟨p, vs, rfl, .inl (SqL.of h3), ?_⟩
      rw [← h4.length]
      exact pv.now hz st.ok (.int _)
  · cases h
theorem sd_tupO (G : Gd D T Γ N sc n W X) {i : Nat} {py : Expr} (h : chkE T N sc (.tupO i) py = true) : Sd D Γ W X (.tupO i) py := by
  unfold chkE at h
  split at h
  · simp only [Bool.and_eq_true, decide_eq_true_eq] at h
    obtain ⟨⟨⟨⟨h1, h2⟩, h3⟩, h4⟩, h5⟩ := h
    subst h1
    refine sd_of (PE.weak (pe_callTy call_tupZ (G.gl h2) (G.mgN (by decide +kernel)) (bval_boot .tuple) (pa_cons (pe_var (i := i) (G.hN h3) (G.vis h4) (plainN_d h5).1 (plainN_d h5).2.1) pa_nil rfl) (by decide +kernel) (by decide +kernel) rfl rfl) ?_) rfl
    rintro σ H Q ⟨P, g, h, env, k, kx, st, hk, pv, px⟩
    obtain ⟨a, ea, hk1⟩ := stepK_some hk
    obtain ⟨z, ez, hz⟩ := stepK_some hk1
    obtain ⟨ow, x0, e0, sr⟩ := st.er.sr ea
    refine ⟨x0, e0, ?_⟩
    cases a <;> first | (cases ez; done) | skip
    · cases ez
      have q : VR D.K g (.tup _) x0 := sr
      cases q with
      | tup s rv => exact ⟨_, _, rfl, .inr ⟨G.eK ▸ SqT.mono st.ok.fh s.sqT, pv.now hz st.ok (.tup s rv)⟩⟩
    · cases ez
      have q : VR D.K g (.lst _) x0 := sr
      cases q with
      | lst s rv => exact ⟨_, _, rfl, .inl ⟨SqL.of (st.ok.fh _ _ s), fun l o hl hd => pv.newT hz st.ok rv hl hd⟩⟩
    · cases ez
      obtain ⟨p, vs, _, rfl, h3, h4, _⟩ := sr
      exact ⟨p, vs, rfl, .inl ⟨SqL.of h3, fun l o hl hd => pv.newT hz st.ok h4 hl hd⟩⟩
  · cases h
/-! isinstance of a built-in class -/
def tyv (t : Ty) : String := match t with | .int => "int" | .bool => "bool" | .str => "str" | .tuple => "tuple" | .list => "list"
theorem ty_x (e : D.K = X.K) (ok : GOk D g h H) {a : Val} {x : L2.V} {t : Ty} {b : Bool} (r : VR D.K g a x) (hf : isi a t = some b) : ∃ ty, TyX X.K H x (.type ty) ∧ PySem.W.kitOne X.K (.type ty) (.type (tyv t)) = some b := by
  have hk : PySem.W.kitOne X.K (.type "tuple") (.type (tyv t)) = some (decide (t = .tuple)) := by
    apply kit_ty
    cases t <;> decide +kernel
  have tk : ∀ {a : Addr} (vs : List L2.V), SqT D.K g.F a vs → ∃ ty, TyX X.K H (.ref a) (.type ty) ∧ PySem.W.kitOne X.K (.type ty) (.type (tyv t)) = some (decide (t = .tuple)) := fun {a} vs s => by
    rcases (e ▸ SqT.mono ok.fh s : SqT X.K H _ _) with (z | ⟨o, z⟩) | ⟨o, its, m, z1, z2, _⟩
    · exact ⟨"tuple", .base (.tup z), hk⟩
    · exact ⟨"tuple", .fTuple z, hk⟩
    · exact ⟨"tuple", .kTuple z1 z2, hk⟩
  cases r with
  | non => cases hf; refine ⟨"NoneType", .base .non, kit_ty ?_⟩; cases t <;> decide +kernel
  | bl c => cases hf; refine ⟨"bool", .base (.bl c), kit_ty ?_⟩; cases t <;> decide +kernel
  | int c => cases hf; refine ⟨"int", .base (.int c), kit_ty ?_⟩; cases t <;> decide +kernel
  | str c => cases hf; refine ⟨"str", .base (.str c), kit_ty ?_⟩; cases t <;> decide +kernel
  | tup s rv =>
    cases hf
    exact tk _ s.sqT
  | tupk s rv =>
    cases hf
  | lst s rv =>
    cases hf
    refine ⟨"list", .base (.lst (ok.fh _ _ s)), kit_ty ?_⟩
    cases t <;> decide +kernel
  | cup c =>
    cases hf
    obtain ⟨_, vs, _, h3⟩ := ok.cup _ c
    refine ⟨"list", .base (.lst h3), kit_ty ?_⟩
    cases t <;> decide +kernel
  | scr _ _ => cases hf
  | scl _ => cases hf
  | ref _ => cases hf
  | obj _ _ _ _ => cases hf
theorem tnm_boot (t : Ty) : bootBuiltins (tnm t) = some (.type (tyv t)) ∧ tnm t ∈ bltNames ∧ tnm t ≠ "__name__" ∧ (tnm t == ("__debug__" : Str)) = false := by cases t <;> decide +kernel
theorem sd_isi (G : Gd D T Γ N sc n W X) {a : EV.E} {t : Ty} {py : Expr} (h : chkE T N sc (.isi a t) py = true)
    (iha : ∀ p, chkE T N sc a p = true → Sd D Γ W X a p) : Sd D Γ W X (.isi a t) py := by
  unfold chkE at h
  split at h
  · simp only [Bool.and_eq_true, decide_eq_true_eq] at h
    obtain ⟨⟨⟨⟨⟨h1, h2⟩, h3⟩, h4⟩, h5⟩, h6⟩ := h
    subst h1 h3
    obtain ⟨b1, b2, b3, b4⟩ := tnm_boot t
    have hx := fun pos => pe_bltn (X := X) (v := .ty (tyv t)) (pos := pos) (G.gl h4) (G.mgN b2) b1 rfl b3 b4
    refine sd_of (PE.weak (pe_callB call_isi (G.gl h2) (G.mgN (by decide +kernel)) (by decide +kernel) (pa_cons (iha _ h6).pe (pa_cons (hx _) pa_nil rfl) (tame_star h5 _ _)) (by decide +kernel) (by decide +kernel) (tame_star h5 _ _) rfl) ?_) rfl
    rintro σ H Q ⟨P, g, h, env, k, kx, st, hk, pv, px⟩
    refine seqE st hk px fun v h1 g1 H1 x hk1 e1 st1 px1 r1 => ?_
    obtain ⟨z, ez, hz⟩ := stepK_some hk1
    obtain ⟨ty, t1, t2⟩ := ty_x G.eK st1.ok r1 ez
    refine ⟨x, .ty (tyv t), .type ty, .type (tyv t), z, rfl, .ty _, t1, ?_, pv _ _ _ _ _ hz e1 st1.ok (.bl _)⟩
    cases t <;> exact t2
  · cases h
/-! list(range(..)) -/
theorem rgl_rel (i j : Int) : VRs D.K g (rgl i (j - i).toNat) (rgV i j) := by
  unfold rgl rgV
  have key : ∀ l : List Nat, VRs D.K g (l.map fun (m : Nat) => Val.int (i + m)) (l.map fun (m : Nat) => L2.V.int (i + m)) := fun l => by
    induction l with
    | nil => exact .nil
    | cons x l ih => exact .cons (.int _) ih
  exact key _
theorem rgOk_of {i j : Int} (h : (rgOk i && rgOk j && decide ((j - i).toNat ≤ 2 ^ 24)) = true) : RgOk i j := by
  simp only [rgOk, Bool.and_eq_true, decide_eq_true_eq] at h
  obtain ⟨⟨⟨h1, h2⟩, h3, h4⟩, h5⟩ := h
  exact ⟨h1, h2, h3, h4, h5⟩
theorem sd_lrg (G : Gd D T Γ N sc n W X) {a b : EV.P} {py : Expr} (h : chkE T N sc (.lrg a b) py = true)
    (iha : ∀ e p, a = .some e → chkE T N sc e p = true → Sd D Γ W X e p) (ihb : ∀ e p, b = .some e → chkE T N sc e p = true → Sd D Γ W X e p) : Sd D Γ W X (.lrg a b) py := by
  unfold chkE at h
  split at h
  · simp only [Bool.and_eq_true, decide_eq_true_eq] at h
    obtain ⟨⟨⟨⟨h1, h2⟩, h3⟩, h4⟩, h5⟩ := h
    subst h1 h3
    split at h5
    · rw [Bool.and_eq_true] at h5
      obtain ⟨h5, h6⟩ := h5
      split at h6
      · cases b with
        | no => unfold chkP at h6; cases h6
        | some eb =>
          have h6' := h6
          unfold chkP at h6'
          refine sd_of (PE.weak (pe_listRg G.calm (G.gl h2) (G.mgN (by decide +kernel)) (prg_1 (G.gl h4) (G.mgN (by decide +kernel)) (ihb eb _ rfl h6').pe (tame_star h5 _ _)) rfl) ?_) rfl
          rintro σ H Q ⟨P, g, h, env, k, kx, st, hk, pv, px⟩
          have hk' : ev D.X Γ eb env h (fun x h => match x with | .int j => (if rgOk 0 && rgOk j && decide ((j - 0).toNat ≤ 2 ^ 24) then k (.lst (rgl 0 (j - 0).toNat)) h else false) | _ => false) kx = true := hk
          refine seqE st hk' px fun v h1 g1 H1 x hk1 e1 st1 px1 r1 => ?_
          cases r1 <;> first | (cases hk1; done) | skip
          rename_i j
          have hk2 : (if rgOk 0 && rgOk j && decide ((j - 0).toNat ≤ 2 ^ 24) then k (.lst (rgl 0 (j - 0).toNat)) h1 else false) = true := hk1
          split at hk2
          · rename_i hz
            exact ⟨j, rfl, rgOk_of hz, fun q hq => (pv.ext e1).newL hk2 st1.ok (rgl_rel 0 j) hq⟩
          · cases hk2
      · cases h6
    · simp only [Bool.and_eq_true] at h5
      obtain ⟨⟨⟨h5, h6⟩, h7⟩, h8⟩ := h5
      cases a with
      | no => unfold chkP at h7; cases h7
      | some ea =>
        cases b with
        | no => unfold chkP at h8; cases h8
        | some eb =>
          have h7' := h7
          unfold chkP at h7'
          have h8' := h8
          unfold chkP at h8'
          refine sd_of (PE.weak (pe_listRg G.calm (G.gl h2) (G.mgN (by decide +kernel)) (prg_2 (G.gl h4) (G.mgN (by decide +kernel)) (iha ea _ rfl h7').pe (ihb eb _ rfl h8').pe (tame_star h5 _ _) (tame_star h6 _ _) (tame_plain (by unfold allTame; rw [List.all_cons, h6]; rfl) X.env _)) rfl) ?_) rfl
          rintro σ H Q ⟨P, g, h, env, k, kx, st, hk, pv, px⟩
          have hk' : ev D.X Γ ea env h (fun x h => match x with | .int i => ev D.X Γ eb env h (fun x h => match x with | .int j => (if rgOk i && rgOk j && decide ((j - i).toNat ≤ 2 ^ 24) then k (.lst (rgl i (j - i).toNat)) h else false) | _ => false) kx | _ => false) kx = true := hk
          refine seqE st hk' px fun v h1 g1 H1 x hk1 e1 st1 px1 r1 => ?_
          cases r1 <;> first | (cases hk1; done) | skip
          rename_i i
          refine seqE st1 hk1 px1 fun v h2 g2 H2 x hk2 e2 st2 px2 r2 => ?_
          cases r2 <;> first | (cases hk2; done) | skip
          rename_i j
          have hk3 : (if rgOk i && rgOk j && decide ((j - i).toNat ≤ 2 ^ 24) then k (.lst (rgl i (j - i).toNat)) h2 else false) = true := hk2
          split at hk3
          · rename_i hz
            exact ⟨i, j, rfl, rfl, rgOk_of hz, fun q hq => (pv.ext (e1.trans e2)).newL hk3 st2.ok (rgl_rel i j) hq⟩
          · cases hk3
    · cases h5
  · cases h
end
end EV
namespace EV
open PySem PySem.Spec PyProof.Rows L2
open PySem.SeqAt (ItemsEq call_list_index call_tuple_index)

section
variable {D : Dat} {T : Tab} {Γ : Sem} {N : List Str} {sc : Scope} {n : Nat} {W : WX} {X : Cx}
variable {g g' : Gs} {H H' : Hp} {h h' : Hs} {P : Addr → Prop} {env : Env} {σ : L2.St}
/-! index and count of data -/
/-- the answers of the items -/
def ansL (ds : List PyData) (d : PyData) : List Bool := ds.map fun y => PyData.eqv y d
def mAns (m : Mth) (ds : List PyData) (d : PyData) : Option Int := match m with
  | .index => if true ∈ ansL ds d then some ((ansL ds d).idxOf true : Nat) else none
  | .count => some ((ds.countP fun y => PyData.eqv y d : Nat) : Int)
def mIdL : Mth → String
  | .index => "list.index" | .count => "list.count"
def mIdT : Mth → String
  | .index => "tuple.index" | .count => "tuple.count"
def rDat (m : Mth) (K : PySem.W.Frag) (vs : List L2.V) (y : L2.V) (H : Hp) (Q : VK) : Prop := ∃ d ds i, DpAll K H vs ds ∧ Dp K H y d ∧ PyData.plainAll ds = true ∧ d.plain = true ∧ dOk d = true ∧ mAns m ds d = some i ∧ Q (.int i) H
def tM1 (m : Mth) (K : PySem.W.Frag) (to te : TE) : TE := fun σ H Q => to σ H fun x H1 => ∃ p vs, x = .ref p ∧
  ((SqL K H1 p vs ∧ te σ H1 fun y H2 => SqL K H2 p vs ∧ rDat m K vs y H2 Q) ∨ (SqD K H1 p vs ∧ te σ H1 fun y H2 => SqT K H2 p vs ∧ rDat m K vs y H2 Q))
theorem items_ans {A : Around} {s : Shared} {us : List Value} {ds : List PyData} {as bs : List Addr} {x : Value} {d : PyData} (rs : ReadsAll s.heap us ds as) (rx : Reads s.heap x d bs) (hp : PyData.plainAll ds = true) (hd : d.plain = true) (hu : A.units + 1 + min (PyData.depthAll ds) d.depth < cLine) :
    ItemsEq A.in1 s us (ansL ds d) x true := by
  have hl : us.length = ds.length := SeqAt.ReadsAll.length _ _ _ rs
  have rs' : ReadsAll s.heap us.toArray.toList ds as := rs
  refine ⟨by unfold ansL; rw [List.length_map, hl], fun j h1 h2 => ?_⟩
  have hj : j < us.toArray.size := by simpa using h1
  obtain ⟨k1, k2⟩ := SeqAt.readOf_at rs' hp j hj
  have q := SeqAt.items_plain rs' rx hp hd hu us.toArray[j] (Array.getElem_mem hj)
  rw [k2] at q
  have e : (ansL ds d)[j] = PyData.eqv ds[j] d := by simp [ansL]
  rw [e, show decide (PyData.eqv ds[j] d = true) = PyData.eqv ds[j] d by cases PyData.eqv ds[j] d <;> rfl]
  simpa using q
theorem call_dat {m : Mth} {pins : List (Addr × Obj)} {s : Shared} {p : Addr} {vs : List L2.V} {y : L2.V} {u : Value} {Q : VK} (hu : X.A.units + 65 < cLine) (I : Inv X pins σ H s) (ry : RelV y u) (q : rDat m X.K vs y H Q) :
    (SqL X.K H p vs → wpAny (model X.prog X.w) X.A (call (.builtin (mIdL m)) [.ref p, u]) (EP X pins σ Q) X.xe s) ∧ (SqT X.K H p vs → wpAny (model X.prog X.w) X.A (call (.builtin (mIdT m)) [.ref p, u]) (EP X pins σ Q) X.xe s) := by
  obtain ⟨d, ds, i, ha, hd, pds, pd, od, hi, hq⟩ := q
  obtain ⟨bs, rx⟩ := Dp.reads I d y u hd ry
  have room := dOk_roomIn (ds := ds) od hu
  constructor
  · intro hs
    obtain ⟨its, rv, pl, hz⟩ := I.list hs
    obtain ⟨as, rs⟩ := Dp.readsAll I ds vs its ha rv
    have ie := items_ans (A := X.A) rs rx pds pd room
    cases m with
    | index =>
      simp only [mAns] at hi
      split at hi
      · rename_i hm
        cases hi
        refine call_list_index pl.isList ie ?_ hm ⟨.int _, H, I.tok _, ⟨_, rfl⟩, hq⟩
        have hl : its.length = ds.length := SeqAt.ReadsAll.length _ _ _ rs
        unfold ansL
        rw [List.length_map, ← hl, ← rv.length]
        exact hz
      · cases hi
    | count =>
      cases hi
      exact SeqAt.count_list_data pl.isList (show ReadsAll s.heap its.toArray.toList ds as from rs) rx pds pd room ⟨.int _, H, I.tok _, ⟨_, rfl⟩, hq⟩
  · intro hs
    obtain ⟨its, rv, pl, hz⟩ := I.tuple hs
    obtain ⟨as, rs⟩ := Dp.readsAll I ds vs its ha rv
    have ie := items_ans (A := X.A) rs rx pds pd room
    cases m with
    | index =>
      simp only [mAns] at hi
      split at hi
      · rename_i hm
        cases hi
        exact call_tuple_index pl ie hm ⟨.int _, H, I.tok _, ⟨_, rfl⟩, hq⟩
      · cases hi
    | count =>
      cases hi
      exact SeqAt.count_tuple_data pl (show ReadsAll s.heap its.toArray.toList ds as from rs) rx pds pd room ⟨.int _, H, I.tok _, ⟨_, rfl⟩, hq⟩
def q1D (m : Mth) (K : PySem.W.Frag) (S : Hp → Addr → List L2.V → Prop) (p : Addr) (vs : List L2.V) (Q : VK) : List L2.V → Hp → Prop := fun zs H => match zs with
  | [y] => S H p vs ∧ rDat m K vs y H Q
  | _ => False
theorem pe_m1D {m : Mth} {o e : Expr} {to te : TE} {apos cpos : Pos} (hu : X.A.units + 65 < cLine) (ho : PE X o to) (he : PE X e te) (hb : attributeBase o (mnm m) X.env (eval o X.env) = eval o X.env) (hline : (apos.endLine == cpos.line) = true) (hs : starEach [e] X.env = (false, eval e X.env) :: starEach [] X.env) :
    PE X (.Call (.Attribute o (mnm m) apos) [e] [] cpos) (tM1 m X.K to te) := by
  have few : ((backTo cpos (starEach [e] X.env)).all (fun x => !x.1) && (backToKw cpos (keywordEach [] X.env)).all (fun x => x.1.isSome) && decide (([e] : List Expr).length + ([] : List Keyword).length + (if ([] : List Keyword).isEmpty then 0 else 1) < 30)) = true := by
    rw [hs]; rfl
  refine ⟨fun pins s σ H Q I h => ?_⟩
  refine wpAny_Call_method_late hb few hline rfl (thn (ho.run pins s σ H _ I h) fun v s1 ⟨x, H1, I1, r1, q1⟩ => ?_)
  obtain ⟨p, vs, rfl, q1⟩ := q1
  cases r1
  have args : ∀ S : Hp → Addr → List L2.V → Prop, (te σ H1 fun y H2 => S H2 p vs ∧ rDat m X.K vs y H2 Q) → ∀ id : String, (∀ pins s H2 y u, Inv X pins σ H2 s → RelV y u → S H2 p vs → rDat m X.K vs y H2 Q → wpAny (model X.prog X.w) X.A (call (.builtin id) [.ref p, u]) (EP X pins σ Q) X.xe s) →
      wpAny (model X.prog X.w) X.A (callWith cpos (.builtin id) [.ref p] (backTo cpos (starEach [e] X.env)) []) (EP X pins σ Q) X.xe s1 := fun S q1 id hid => by
    have pa := (pa_cons he pa_nil hs).run cpos pins s1 σ H1 (q1D m X.K S p vs Q) I1 q1
    rw [hs] at pa ⊢
    refine Calls.callWith_builtin rfl (Calls.evalArgs_plain (thn pa fun us s2 ⟨ws, H2, I2, r2, q2⟩ => ?_))
    cases ws with
    | nil => exact q2.elim
    | cons y ws =>
      cases ws with
      | nil =>
        cases r2 with
        | cons ry rt =>
          cases rt
          exact hid pins s2 H2 y _ I2 ry q2.1 q2.2
      | cons _ _ => exact q2.elim
  rcases q1 with ⟨hs1, q1⟩ | ⟨hs1, q1⟩
  · obtain ⟨its, rv, pl, hz⟩ := I1.list hs1
    have hd : ∀ a, Value.ref p = .ref a → ∃ ob, s1.heap.get? a = some ob ∧ ob.dict = none := fun a e => by
      cases e
      obtain ⟨o, n, e, c, hd, _⟩ := pl
      exact ⟨o, e, hd⟩
    have fin := args (SqL X.K) q1 (mIdL m) fun pins s H2 y u I r s1 q => (call_dat hu I r q).1 s1
    cases m
    · exact ⟨"list", "list.index", PySem.F.plainAttrs_list, PySem.F.slot_list_index, PySem.F.type_list_index, pl.isList.typeIs, hd, fin⟩
    · exact ⟨"list", "list.count", PySem.F.plainAttrs_list, PySem.F.slot_list_count, PySem.F.type_list_count, pl.isList.typeIs, hd, fin⟩
  · obtain ⟨its, rv, pl, hz⟩ := I1.tuple hs1.sqT
    have hd : ∀ a, Value.ref p = .ref a → ∃ ob, s1.heap.get? a = some ob ∧ ob.dict = none := fun a e => by
      cases e
      rcases hs1 with ⟨o, e, d⟩ | ⟨o, its, n, h1, h2, h3, _⟩
      · exact ⟨o, (I1.hok p _ e).1, d⟩
      · exact ⟨o, I1.kIn p o h1, h3⟩
    have fin := args (SqT X.K) q1 (mIdT m) fun pins s H2 y u I r s1 q => (call_dat hu I r q).2 s1
    cases m
    · exact ⟨"tuple", "tuple.index", PySem.F.plainAttrs_tuple, PySem.F.slot_tuple_index, PySem.F.type_tuple_index, pl.typeIs, hd, fin⟩
    · exact ⟨"tuple", "tuple.count", PySem.F.plainAttrs_tuple, PySem.F.slot_tuple_count, PySem.F.type_tuple_count, pl.typeIs, hd, fin⟩
theorem indexL_is {x : Val} {d : PyData} (hd : toD x = some d) : ∀ {ys : List Val} {i n : Nat}, indexL x i ys = some n → ys.all dataOk = true → ∃ ds, toDs ys = some ds ∧ true ∈ ansL ds d ∧ n = i + (ansL ds d).idxOf true
  | [], i, n, h, _ => by cases h
  | y :: ys, i, n, h, ho => by
    rw [List.all_cons, Bool.and_eq_true] at ho
    unfold indexL at h
    cases q : eqv y x with
    | none => rw [q] at h; cases h
    | some u =>
      obtain ⟨e, d', h1, h2, h3, h4, h5⟩ := eqv_is q
      have ed : d' = d := Option.some.inj (h2.symm.trans hd)
      subst ed
      rw [q] at h
      cases u with
      | true =>
        cases h
        have key : ∀ ys : List Val, ys.all dataOk = true → ∃ ds, toDs ys = some ds := fun ys => by
          induction ys with
          | nil => exact fun _ => ⟨[], by simp [toDs]⟩
          | cons z zs ih =>
            intro a
            rw [List.all_cons, Bool.and_eq_true] at a
            obtain ⟨d1, k1, _⟩ := dataOk_is a.1
            obtain ⟨ds, k2⟩ := ih a.2
            exact ⟨d1 :: ds, by rw [toDs, k1, k2]⟩
        obtain ⟨ds, k⟩ := key ys ho.2
        refine ⟨e :: ds, by rw [toDs, h1, k], ?_, ?_⟩
        · unfold ansL; rw [List.map_cons, h5]; exact List.mem_cons_self
        · unfold ansL; rw [List.map_cons, h5, List.idxOf_cons_self]; rfl
      | false =>
        obtain ⟨ds, k1, k2, k3⟩ := indexL_is hd (show indexL x (i + 1) ys = some n from h) ho.2
        refine ⟨e :: ds, by rw [toDs, h1, k1], ?_, ?_⟩
        · unfold ansL at k2 ⊢; rw [List.map_cons]; exact List.mem_cons_of_mem _ k2
        · unfold ansL at k3 ⊢
          rw [List.map_cons, h5, k3]
          simp [List.idxOf_cons]
          omega
theorem countL_is {x : Val} {d : PyData} (hd : toD x = some d) : ∀ {ys : List Val} {n : Nat}, countL x ys = some n → ∃ ds, toDs ys = some ds ∧ n = ds.countP fun y => PyData.eqv y d
  | [], n, h => by cases h; exact ⟨[], by simp [toDs], rfl⟩
  | y :: ys, n, h => by
    unfold countL at h
    cases q : eqv y x with
    | none => rw [q] at h; cases h
    | some u =>
      obtain ⟨e, d', h1, h2, h3, h4, h5⟩ := eqv_is q
      have ed : d' = d := Option.some.inj (h2.symm.trans hd)
      subst ed
      cases q2 : countL x ys with
      | none => rw [q, q2] at h; cases u <;> cases h
      | some m =>
        obtain ⟨ds, k1, k2⟩ := countL_is hd q2
        refine ⟨e :: ds, by rw [toDs, h1, k1], ?_⟩
        rw [q, q2] at h
        rw [List.countP_cons, h5]
        cases u <;> cases h <;> simp [k2]
theorem mth_is {m : Mth} {a x v : Val} (h : mth m a [x] = some v) : ∃ ys d ds i, itemsOf a = some ys ∧ toD x = some d ∧ toDs ys = some ds ∧ dOk d = true ∧ mAns m ds d = some i ∧ v = .int i := by
  cases m with
  | index =>
    simp only [mth] at h
    split at h
    · rename_i ys e1
      split at h
      · rename_i e2
        rw [Bool.and_eq_true] at e2
        cases q : indexL x 0 ys with
        | none => rw [q] at h; cases h
        | some j =>
          rw [q] at h
          cases h
          obtain ⟨d, f1, f2⟩ := dataOk_is e2.1
          obtain ⟨ds, k1, k2, k3⟩ := indexL_is f1 q e2.2
          refine ⟨ys, d, ds, _, e1, f1, k1, f2, ?_, rfl⟩
          simp only [mAns]
          rw [if_pos k2, k3, Nat.zero_add]
      · cases h
    · cases h
  | count =>
    simp only [mth] at h
    split at h
    · rename_i ys e1
      split at h
      · rename_i e2
        rw [Bool.and_eq_true] at e2
        cases q : countL x ys with
        | none => rw [q] at h; cases h
        | some j =>
          rw [q] at h
          cases h
          obtain ⟨d, f1, f2⟩ := dataOk_is e2.1
          obtain ⟨ds, k1, k3⟩ := countL_is f1 q
          refine ⟨ys, d, ds, _, e1, f1, k1, f2, ?_, rfl⟩
          simp only [mAns]
          rw [k3]
      · cases h
    · cases h
theorem sd_mth (G : Gd D T Γ N sc n W X) {m : Mth} {o : EV.E} {es : Es} {py : Expr} (h : chkE T N sc (.mth m o es) py = true)
    (iho : ∀ p, chkE T N sc o p = true → Sd D Γ W X o p) (ihs : ∀ e p, es = .cons e .nil → chkE T N sc e p = true → Sd D Γ W X e p) : Sd D Γ W X (.mth m o es) py := by
  unfold chkE at h
  split at h
  · simp only [Bool.and_eq_true, decide_eq_true_eq] at h
    obtain ⟨⟨⟨⟨⟨h1, h2⟩, h3⟩, h4⟩, h5⟩, h6⟩ := h
    subst h1
    cases es with
    | nil => unfold chkEs at h6; cases h6
    | cons e r =>
      have h6' := h6
      unfold chkEs at h6'
      simp only [Bool.and_eq_true] at h6'
      have hr : r = .nil := by
        cases r with
        | nil => rfl
        | cons _ _ => have z := h6'.2; unfold chkEs at z; cases z
      subst hr
      refine sd_of (PE.weak (pe_m1D G.un2 (iho _ h5).pe (ihs e _ rfl h6'.1).pe (tame_base h3 _ _) h2 (tame_star h4 _ _)) ?_) rfl
      rintro σ H Q ⟨P, g, h, env, k, kx, st, hk, pv, px⟩
      have hk' : ev D.X Γ o env h (fun x h => match isRow x with | true => ev D.X Γ e env h (fun v h => fV v fun v => stepK (mth m x [v]) fun v => k v h) kx | false => false) kx = true := hk
      refine seqE st hk' px fun v h1 g1 H1 x hk1 e1 st1 px1 r1 => ?_
      -- what is walked is a row: known once the argument has come
      cases r1 with
      | tup s rv =>
        refine ⟨_, _, rfl, .inr ⟨G.eK ▸ SqD.mono st1.ok.fh s, seqE st1 hk1 px1 fun u h2 g2 H2 y hk2 e2 st2 px2 r2 => ?_⟩⟩
        rw [fV_eq] at hk2
        obtain ⟨z, ez, hz⟩ := stepK_some hk2
        obtain ⟨ys, d, ds, i, k1, k2, k3, k4, k5, rfl⟩ := mth_is ez
        cases k1
        exact ⟨(G.eK ▸ SqT.mono st2.ok.fh (SqT.mono e2.ff s.sqT)), d, ds, i, G.eK ▸ (e2.vrs rv).dp st2.ok.fh k3, G.eK ▸ r2.dp st2.ok.fh k2, toDs_plain k3, toD_plain k2, k4, k5, pv _ _ _ _ _ hz (e1.trans e2) st2.ok (.int _)⟩
      | lst s rv =>
        refine ⟨_, _, rfl, .inl ⟨SqL.of (st1.ok.fh _ _ s), seqE st1 hk1 px1 fun u h2 g2 H2 y hk2 e2 st2 px2 r2 => ?_⟩⟩
        rw [fV_eq] at hk2
        obtain ⟨z, ez, hz⟩ := stepK_some hk2
        obtain ⟨ys, d, ds, i, k1, k2, k3, k4, k5, rfl⟩ := mth_is ez
        cases k1
        exact ⟨SqL.of (st2.ok.fh _ _ (e2.ff _ _ s)), d, ds, i, G.eK ▸ (e2.vrs rv).dp st2.ok.fh k3, G.eK ▸ r2.dp st2.ok.fh k2, toDs_plain k3, toD_plain k2, k4, k5, pv _ _ _ _ _ hz (e1.trans e2) st2.ok (.int _)⟩
      | _ => cases hk1
  · cases h
end
end EV
namespace EV
open PySem PySem.Spec PyProof.Rows L2
/-! enumerate of a tuple -/
theorem meets_enumerate_new1 {v : Value} {o : Obj} {H : Heap → Prop} (B : Begins v o H) :
    Meets (Builtin.«enumerate.__new__» ⟨[.type "enumerate", v], []⟩) (fun _ R s => H s.heap ∧
      R (.ok (.ret (.ref (s.heap.push o).objs.size))) { s with heap := (s.heap.push o).push { cls := .type "enumerate", data := .fields #[.none, .bool false, .ref s.heap.objs.size, rawInt 0, .none, .none] } }) :=
  .of_wp fun prog w A R s h => by
    obtain ⟨hp, g, d, tk, os⟩ := s; obtain ⟨h1, h⟩ := h
    have hsub := sub_enumerate
    have q1 : ∀ {A' : Around} {E : Value → Shared → Prop} {Q : Value → Shared → Prop}, Q (.ref hp.objs.size) ⟨hp.push o, g, d, tk, os⟩ → wpAny (model prog w) A' (pyIter v) Q E ⟨hp, g, d, tk, os⟩ :=
      fun q => B.iter prog w _ _ ⟨hp, g, d, tk, os⟩ _ h1 q
    wp_walk using q1
    refine wpAny_stack_any fun st => wpAny_pure ?_
    split
    · rename_i c _ _ _ _ _
      cases (c == Value.type "enumerate")
      · wp_walk using q1
        exact ⟨_, rfl, h⟩
      · wp_walk using q1
        exact ⟨_, rfl, h⟩
    · wp_walk using q1
      exact ⟨_, rfl, h⟩
section
variable {prog : Program} {w : World} {A : Around} {E : Value → Shared → Prop} {s : Shared}
theorem enum_begins1 {v : Value} {o : Obj} {H : Heap → Prop} {Q : Value → Shared → Prop} (B : Begins v o H) (h1 : H s.heap)
    (h : ∀ h', IsEnum h' (s.heap.objs.size + 1) s.heap.objs.size 0 .none → h'.get? s.heap.objs.size = some o → h'.objs.size = s.heap.objs.size + 2 →
      (∀ b o, s.heap.get? b = some o → h'.get? b = some o) → Q (.ref (s.heap.objs.size + 1)) { s with heap := h' }) :
    wpAny (model prog w) A (call (.type "enumerate") [v]) Q E s := by
  refine callType_new F.called_enumerate (by decide) (F.typeCall_enumerate_1 _) (F.newCall_enumerate_1 _) (fun obj => F.args_object_init_2 obj _) F.entry_enumerate_new
    (meets_enumerate_new1 B) ⟨h1, ?_⟩
  have hz : (s.heap.push o).objs.size = s.heap.objs.size + 1 := Heap.size_push ..
  show _ ∧ _
  rw [hz]
  have he : IsEnum ((s.heap.push o).push { cls := .type "enumerate", data := .fields #[.none, .bool false, .ref s.heap.objs.size, rawInt 0, .none, .none] }) (s.heap.objs.size + 1) s.heap.objs.size 0 .none := by
    have := Heap.get?_push_size (s.heap.push o) (o := { cls := .type "enumerate", data := .fields #[.none, .bool false, .ref s.heap.objs.size, rawInt 0, .none, .none] }) rfl
    rw [hz] at this; exact this
  refine ⟨⟨_, he, rfl⟩, h _ he (Heap.get?_push_of_some _ (Heap.get?_push_size _ B.free)) (by rw [Heap.size_push, hz]) fun b o x => Heap.get?_push_of_some _ (Heap.get?_push_of_some _ x)⟩
end
/-- the tuple at a as it stands at each turn, each item in a new pair -/
def IteT (K : PySem.W.Frag) (a : Addr) : It :=
  ⟨fun i H => ∃ (xs : List L2.V) (x : L2.V), SqT K H a xs ∧ xs[i]? = some x, fun i H v H' => ∃ T x, v = .ref T ∧ H T = none ∧ H' = upd H T (.tup [.int (i : Nat), x]) ∧ ∀ xs, SqT K H a xs → xs[i]? = some x, fun i H => ∃ xs : List L2.V, SqT K H a xs ∧ xs.length ≤ i⟩
theorem turn_enumT {P : Program} {w : World} {K : PySem.W.Frag} {elts : List Expr} {kk : Nat} {tpos : Pos} (a e it : Addr) :
    Turn P w K (.Tuple elts kk tpos) (IteT K a) [e, it] e (fun i h => (∃ old, IsEnum h e it ((i : Nat) : Int) old) ∧ h.IsTupleIter it a i ∧ e ≠ it ∧ a ≠ it ∧ e ≠ a) where
  mem := by simp
  obj := fun i h st b hb => by
    obtain ⟨⟨old, he⟩, ⟨o, ho, hc, hd⟩, _⟩ := st
    have e' : b = e ∨ b = it := by simpa using hb
    rcases e' with z | z
    · rw [z]; exact ⟨_, he, fun v q => nomatch q⟩
    · rw [z]; exact ⟨o, ho, fun v q => by rw [hd] at q; cases q⟩
  keep := fun i h h' st k => let ⟨⟨old, he⟩, hi, hne⟩ := st; ⟨⟨old, k e (by simp) _ he⟩, hi.at fun o q => k it (by simp) o q, hne⟩
  item := by
    intro X hP hw hK hc i pins s σ H E I hf st hg
    subst hP hw hK
    obtain ⟨⟨old, he⟩, hit, hne, hai, hea⟩ := st
    obtain ⟨xs, x, hq, hx⟩ := hg
    obtain ⟨its, rv, p, hz⟩ := I.tuple hq
    obtain ⟨u, hu, ru⟩ := rv.get hx
    have hel : e < s.heap.objs.size := Heap.lt_size he
    have hil : it < s.heap.objs.size := by obtain ⟨_, q, _⟩ := hit; exact Heap.lt_size q
    have hi : i < its.toArray.size := by
      obtain ⟨k, _⟩ := List.getElem?_eq_some_iff.mp hu
      simpa using k
    have Dr := Draws.tuple (prog := X.prog) (w := X.w) (A := X.A.in1) (by exact I.ok.hd hc) it a hai its.toArray
    refine wpAny_pyNext_enum_itemD Dr he ⟨hit, p⟩ hi hne (by simp [hne, hea]) fun y h' tk hy ho hst' hT hsz hk => ?_
    have eu : y = u := by
      have : its.toArray[i]? = some u := by simpa using hu
      rw [hy] at this; exact Option.some.inj this
    subst eu
    refine ⟨_, rfl, wpAny_letOwnedTupleGo_enum (s := { s with heap := h', toks := tk + 1 }) ho fun h'' he' sb => ?_⟩
    have hT2 : h''.get? s.heap.objs.size = some { cls := .type "tuple", data := .seq #[.int i tk, y] } := (sb.2 _ (Nat.ne_of_gt hel)).trans hT
    have new : ObjOk X.prog X.w (upd H s.heap.objs.size (.tup [.int (i : Nat), x])) h'' s.heap.objs.size (.tup [.int (i : Nat), x]) :=
      ⟨by show 2 ≤ sizeLine; decide, [.int i tk, y], .cons ⟨_, rfl⟩ (.cons ru .nil), ⟨_, hT2, rfl, _, rfl⟩⟩
    have I1 : Inv X pins σ (upd H s.heap.objs.size (.tup [.int (i : Nat), x])) { s with heap := h'', toks := tk + 1 } :=
      I.turnedNew (ch := [e, it]) (fun b ob hb q => (sb.2 b (fun z => hb (by simp [z]))).trans (hk b ob (fun z => hb (by simp [z])) (fun z => hb (by simp [z])) q)) hf (Nat.le_refl _) new
    refine ⟨.ref s.heap.objs.size, _, I1, rfl, ⟨_, x, rfl, I.hok.fresh (Nat.le_refl _), rfl, fun ys hy => by rw [I.tuple_inj hy hq]; exact hx⟩, ⟨⟨y, ?_⟩, hst'.1.at fun o q => (sb.2 it (Ne.symm hne)).trans q, hne, hai, hea⟩, fun b hb => ?_⟩
    · have e1 : ((i + 1 : Nat) : Int) = (i : Int) + 1 := by omega
      rw [e1]; exact he'
    · have hb' : b < s.heap.objs.size := by
        have e' : b = e ∨ b = it := by simpa using hb
        rcases e' with z | z
        · rw [z]; exact hel
        · rw [z]; exact hil
      rw [upd_ne (Nat.ne_of_lt hb')]
      exact (hf b hb).1
  done := by
    intro X hP hw hK hc i pins s σ H E I hf st hg
    subst hP hw hK
    obtain ⟨⟨old, he⟩, hit, hne, hai, hea⟩ := st
    obtain ⟨xs, hq, hx⟩ := hg
    obtain ⟨its, rv, p, hz⟩ := I.tuple hq
    obtain ⟨f0, f1, f2, f3, f4, f5⟩ := hf it (by simp)
    have hl := rv.length
    have hT : s.TypeIs (.ref e) "enumerate" := ⟨_, he, rfl⟩
    unfold pyNext
    refine wpAny_bind (wpAny_attempt (wpAny_callSpecial?_slot (name := Str.ofString "__next__") hT F.slot_enumerate_next
      (wpAny_call_entry F.slot_enumerate_next hT F.entry_enumerate_next ?_ (F.args_enumerate_next_1 _))))
    show wpAny _ _ (field (.ref e) 2 >>= _) _ _ _
    refine wpAny_bind (wpAny_field he rfl (x := .ref it) rfl ?_)
    refine wpAny_bind (wpAny_nextOf_tuple_end (I.ok.hd hc) hit p (by simp; omega) fun h' x he' hx' => ?_)
    obtain ⟨o, ho, hc'⟩ := hx'
    refine wpAny_bind (wpAny_isInstance (T := "StopIteration") (b := true) ⟨o, ho, hc'⟩ isSubtype_stop ?_)
    exact wpAny_pure ⟨rfl, I.turned (t' := s.toks) (fun b o hb q => he' b o hb q) f0 f1 f3 f4 f5⟩
  self := fun A i s Q E st h => let ⟨⟨_, he⟩, _⟩ := st; wpAny_pyIter_enum he h
/-- enumerate of a list or of a tuple -/
def iEnumA (K : PySem.W.Frag) (ta : TA) : TI := fun σ H R => ta σ H fun vs H1 => ∃ a xs, vs = [.ref a] ∧ ((SqL K H1 a xs ∧ R (Ite K a) H1) ∨ (SqT K H1 a xs ∧ R (IteT K a) H1))
theorem pi_enumA {X : Cx} {e : Expr} {ta : TA} {p pos tpos : Pos} {elts : List Expr} {kk : Nat} (hg : Gl X "enumerate") (hm : X.mg "enumerate" = none) (ha : PA X [e] ta) (hs : starEach [e] X.env = [(false, eval e X.env)] := by rfl) :
    PI X (.Tuple elts kk tpos) (.Call (.Name "enumerate" p) [e] [] pos) (iEnumA X.K ta) := by
  refine ⟨fun pins s σ H R I h => ?_⟩
  refine Call_ (ld_blt I hg hm boot_enumerate (PyProof.Rows.callWith_type1 (thn (ha.run pos pins s σ H _ I h) fun us s1 ⟨vs, H1, I1, r1, q1⟩ => ?_) hs rfl))
  obtain ⟨a, xs, ex, q⟩ := q1
  subst ex
  have fp : ∀ b ∈ [s1.heap.objs.size + 1, s1.heap.objs.size], s1.heap.objs.size ≤ b := fun b hb => by
    have e' : b = s1.heap.objs.size + 1 ∨ b = s1.heap.objs.size := by simpa using hb
    rcases e' with z | z
    · rw [z]; exact Nat.le_add_right _ _
    · rw [z]; exact Nat.le_refl _
  cases r1 with
  | cons r rr =>
    cases rr
    cases r
    rcases q with ⟨hq, q⟩ | ⟨hq, q⟩
    · obtain ⟨its, rv, p', hz⟩ := I1.list hq
      refine call_enumerate_list p'.isList fun h' he hit hsz hk => wpAny_pyIter_enum he ?_
      have I2 : Inv X pins σ H1 { s1 with heap := h' } := I1.kept (t' := s1.toks) hk
      exact ⟨s1.heap.objs.size + 1, [s1.heap.objs.size + 1, s1.heap.objs.size], _, _, H1, rfl, I2, turn_enum a (s1.heap.objs.size + 1) s1.heap.objs.size, ⟨⟨.none, he⟩, hit, Nat.succ_ne_self _⟩, fun b hb => I1.fpOk (fp b hb) (I1.hok.fresh (fp b hb)), q⟩
    · obtain ⟨its, rv, p', hz⟩ := I1.tuple hq
      have hal : a < s1.heap.objs.size := by obtain ⟨o, e, _⟩ := p'; exact Heap.lt_size e
      refine enum_begins1 (begins_tuple a its.toArray) p' fun h' he hit hsz hk => wpAny_pyIter_enum he ?_
      have I2 : Inv X pins σ H1 { s1 with heap := h' } := I1.kept (t' := s1.toks) hk
      exact ⟨s1.heap.objs.size + 1, [s1.heap.objs.size + 1, s1.heap.objs.size], _, _, H1, rfl, I2, turn_enumT a (s1.heap.objs.size + 1) s1.heap.objs.size, ⟨⟨.none, he⟩, ⟨_, hit, rfl, rfl⟩, Nat.succ_ne_self _, Nat.ne_of_lt hal, Nat.ne_of_gt (Nat.lt_succ_of_lt hal)⟩, fun b hb => I1.fpOk (fp b hb) (I1.hok.fresh (fp b hb)), q⟩
theorem walk_enumT {K : PySem.W.Frag} {a : Addr} {xs : List L2.V} : Walk (IteT K a) xs.length (fun H => SqT K H a xs) (YPair (fun i => some (.int (i : Nat))) (fun i => xs[i]?)) := by
  refine ⟨fun i _ hi q => ⟨xs, xs[i], q, by simp [hi]⟩, fun _ q => ⟨xs, q, Nat.le_refl _⟩, fun i H v H' _ q y => ?_⟩
  obtain ⟨T, x, h1, h2, h3, h4⟩ := y
  exact ⟨T, .int (i : Nat), x, h1, h2, h3, rfl, h4 xs q⟩
theorem walk_zipT {K : PySem.W.Frag} {a b : Addr} {xs ys : List L2.V} {n : Nat} (hn : n = min xs.length ys.length) : Walk (RZ.ItzT K a b) n (fun H => SqT K H a xs ∧ SqT K H b ys) (YPair (fun i => xs[i]?) (fun i => ys[i]?)) := by
  subst hn
  refine ⟨fun i _ hi q => ?_, fun _ q => ⟨xs, ys, q.1, q.2, by omega⟩, fun i H v H' _ q y => ?_⟩
  · have h1 : i < xs.length := by omega
    have h2 : i < ys.length := by omega
    exact ⟨xs, ys, xs[i], ys[i], q.1, q.2, by simp [h1], by simp [h2]⟩
  · obtain ⟨T, x, z, h1, h2, h3, h4, h5⟩ := y
    exact ⟨T, x, z, h1, h2, h3, h4 xs q.1, h5 ys q.2⟩
end EV
namespace EV
open PySem PySem.Spec PyProof.Rows L2

section
variable {D : Dat} {T : Tab} {Γ : Sem} {N : List Str} {sc : Scope} {n : Nat} {W : WX} {X : Cx}
variable {g g' : Gs} {H H' : Hp} {h h' : Hs} {P : Addr → Prop} {env : Env} {σ : L2.St}
/-! calls -/
theorem pe_call0S {CX : CXT} {k : Nat} {f : Addr} {fd : FuncData} {ps : List Str} {sp : Sp} {E : L2.St → XK} {x : Str} {p pos : Pos} (F : FnOk X.prog X.w X.K X.mg X.base CX k f fd ps sp) (hr : Room k X.A) (hg : Gl X x) (hm : X.mg x = some (.ref f)) (hk : PySem.W.keepIn X.K (.ref f) = true)
    (hb : Binds X.K fd ps []) (hx : ∀ σ, PassesAt CX X σ (E σ)) (hdb : (x == ("__debug__" : Str)) = false) : PE X (.Call (.Name x p) [] [] pos) (tCallS sp E tNil) :=
  ⟨fun _ _ σ _ _ I h => wpAny_Call_Name_kw (ld_glob I hg hm (PySem.W.callWith_K0 I.kIn hk (run_fnS (us := []) F hr hb (hx σ) I .nil h)) hdb)⟩
theorem Gd.fnX (G : Gd D T Γ N sc n W X) {f fa : Nat} {ps : List Str} {fd : FuncData} {sp : Sp} {a : Addr} (F : FnOk D.P D.w D.K D.mg D.base (L2.CX D.P D.w) n a fd ps sp) : FnOk X.prog X.w X.K X.mg X.base (L2.CX X.prog X.w) n a fd ps sp := by
  obtain ⟨CP, Xt, cl, an, rfl⟩ := id G.dat
  exact F
/-- what a call's arguments lead to -/
theorem call_sp {es : Es} {f : Nat} {x : Str} {Q : VK} {k kx : KV} (G : Gd D T Γ N sc n W X) (hf : T.fn f = some x) (st : Sta D P g h H env σ) (pv : PostV D g H k Q) (px : PostX D W σ g H kx)
    {h1 : Hs} {g1 : Gs} {H1 : Hp} {vs : List Val} {xs : List L2.V} (hk : Γ f vs h1 k kx = true) (e1 : Ex g H g1 H1) (st1 : Sta D P g1 h1 H1 env σ) (r1 : VRs D.K g1 vs xs) : spF D Γ f (T.pars f).length xs H1 Q (WE W σ) := by
  refine ⟨by rw [← r1.length]; exact G.fns.len f x vs h1 k kx hf hk, g1, h1, vs, k, kx, st1.ok, r1, hk, pv.ext e1, fun v h2 g2 H2 cls d a b c e => px v h2 g2 H2 cls d a (e1.trans b) c e⟩
theorem sd_call (G : Gd D T Γ N sc n W X) {f : Nat} {es : Es} {py : Expr} (h : chkE T N sc (.call f es) py = true) (ihs : ∀ ps, chkEs T N sc es ps = true → allTame ps = true → PA X ps (simA D Γ W es)) : Sd D Γ W X (.call f es) py := by
  unfold chkE at h
  split at h
  · rename_i x p ps pos
    simp only [Bool.and_eq_true, decide_eq_true_eq] at h
    obtain ⟨⟨⟨⟨h1, h2⟩, h3⟩, h4⟩, h5⟩ := h
    obtain ⟨fa, fd, m1, m2, m3, F, _⟩ := (G.fns.fn f x h1).ex
    have F' := G.fnX (f := f) (fa := 0) F
    rw [G.mgD] at m1
    rw [G.eK] at m2 m3
    refine sd_of (py := .Call (.Name x p) ps [] pos) ?_ rfl
    have key : ∀ σ H Q, simE D Γ W (.call f es) σ H Q → tCallS (spF D Γ f (T.pars f).length) (WE W) (simA D Γ W es) σ H Q := by
      rintro σ H Q ⟨P, g, h, env, k, kx, st, hk, pv, px⟩
      refine seqA st hk px fun vs h1' g1 H1 xs hk1 e1 st1 px1 r1 => ?_
      exact call_sp (es := es) G h1 st pv px hk1 e1 st1 r1
    cases ps with
    | cons e r =>
      have ht := h4
      unfold allTame at ht
      rw [List.all_cons, Bool.and_eq_true] at ht
      exact PE.weak (pe_callS F' G.room (G.gl h2) m1 m2 m3 (fun σ => passAt G.tk σ) (ihs _ h5 h4) (plainN_d h3).1 (tame_star ht.1 _ _) (tame_plain (es := r) ht.2 X.env pos)) key
    | nil =>
      cases es with
      | cons _ _ => unfold chkEs at h5; cases h5
      | nil =>
        refine PE.weak (pe_call0S F' G.room (G.gl h2) m1 m2 m3 (fun σ => passAt G.tk σ) (plainN_d h3).1) ?_
        rintro σ H Q ⟨P, g, h, env, k, kx, st, hk, pv, px⟩
        exact call_sp (es := .nil) (vs := []) G h1 st pv px hk (Ex.refl _ _) st .nil
  · cases h
/-! what is walked -/
theorem jr_walk {J : It} {m : Nat} {Gh : Hp → Prop} {Y : Nat → Hp → L2.V → Hp → Prop} {xs : List Val} (w : Walk J m Gh Y) (hm : m = xs.length) (hg : ∀ g' h H, Up g g' → GOk D g' h H → Gh H)
    (hy : ∀ i x g' h H v H', xs[i]? = some x → Up g g' → GOk D g' h H → Y i H v H' → ∃ g'', Ex g' H g'' H' ∧ GOk D g'' h H' ∧ VR D.K g'' x v) : JR D g xs J := by
  subst hm
  refine ⟨fun i g' h H l u ok => w.goes i H l (hg g' h H u ok), fun i g' h H l u ok => by subst l; exact w.stops H (hg g' h H u ok), fun i x g' h H v H' l u ok y => ?_⟩
  have hi : i < xs.length := (List.getElem?_eq_some_iff.mp l).1
  exact hy i x g' h H v H' l u ok (w.yields i H v H' hi (hg g' h H u ok) y)
theorem jr_at {xs : List Val} {vs : List L2.V} (r : VRs D.K g xs vs) : ∀ i x g' h H v H', xs[i]? = some x → Up g g' → GOk D g' h H → YAt vs i H v H' → ∃ g'', Ex g' H g'' H' ∧ GOk D g'' h H' ∧ VR D.K g'' x v := by
  rintro i x g' h H v H' hi u ok ⟨rfl, hv⟩
  obtain ⟨y, e, ry⟩ := (u.vrs r).get hi
  rw [hv] at e
  cases e
  exact ⟨g', Ex.refl _ _, ok, ry⟩
theorem jr_list (e : D.K = X.K) {a : Addr} {xs : List Val} {vs : List L2.V} (s : g.F a = some (.lst vs)) (r : VRs D.K g xs vs) : JR D g xs (Itl X.K a) :=
  jr_walk walk_list r.length.symm (fun g' h H u ok => SqL.of (ok.fh _ _ (u.ff _ _ s))) (jr_at r)
theorem jr_tup (e : D.K = X.K) {a : Addr} {xs : List Val} {vs : List L2.V} (s : SqT D.K g.F a vs) (r : VRs D.K g xs vs) : JR D g xs (Itt X.K a) :=
  jr_walk walk_tup r.length.symm (fun g' h H u ok => e ▸ SqT.mono ok.fh (SqT.mono u.ff s)) (jr_at r)
theorem jr_range {lo : Int} {m : Nat} : JR D g (rgl lo m) (Itr lo m) := by
  refine jr_walk walk_range (by simp [rgl]) (fun _ _ _ _ _ => trivial) ?_
  rintro i x g' h H v H' hi u ok ⟨rfl, rfl⟩
  refine ⟨g', Ex.refl _ _, ok, ?_⟩
  unfold rgl at hi
  rw [List.getElem?_map] at hi
  cases q : (List.range m)[i]? with
  | none => rw [q] at hi; cases hi
  | some j =>
    rw [q] at hi
    cases hi
    have e : j = i := by
      obtain ⟨k1, k2⟩ := List.getElem?_eq_some_iff.mp q
      rw [← k2, List.getElem_range]
    subst e
    exact .int _
theorem jr_str {z : Str} : JR D g (z.cps.toList.map fun c => .str ⟨#[c]⟩) (Its z) := by
  refine jr_walk walk_str (by simp) (fun _ _ _ _ _ => trivial) ?_
  rintro i x g' h H v H' hi u ok ⟨rfl, c, hc, rfl⟩
  refine ⟨g', Ex.refl _ _, ok, ?_⟩
  rw [List.getElem?_map, Array.getElem?_toList, hc] at hi
  cases hi
  exact .str _
/-- a pair is made at each turn -/
theorem jr_pair {xs : List Val} {fx fy : Nat → Option L2.V} (hy : ∀ i x g', xs[i]? = some x → Up g g' → ∃ a b u v, x = .tupk [a, b] ∧ fx i = some u ∧ fy i = some v ∧ VR D.K g' a u ∧ VR D.K g' b v) :
    ∀ i x g' h H v H', xs[i]? = some x → Up g g' → GOk D g' h H → YPair fx fy i H v H' → ∃ g'', Ex g' H g'' H' ∧ GOk D g'' h H' ∧ VR D.K g'' x v := by
  rintro i x g' h H v H' hi u ok ⟨T, y, z, rfl, hT, rfl, e1, e2⟩
  obtain ⟨a, b, u', v', rfl, k1, k2, r1, r2⟩ := hy i x g' hi u
  rw [e1] at k1
  rw [e2] at k2
  cases k1; cases k2
  obtain ⟨m1, m2⟩ := fresh_ex (o := .tup [y, z]) ok hT
  exact ⟨_, m1, m2, newK (npF ok.fh hT) (.cons r1 (.cons r2 .nil))⟩
theorem enumL_get : ∀ {xs : List Val} {j i : Nat} {x : Val}, (enumL j xs)[i]? = some x → ∃ y, xs[i]? = some y ∧ x = .tupk [.int ((j + i : Nat) : Int), y]
  | [], j, i, x, h => by simp [enumL] at h
  | y :: ys, j, 0, x, h => by simp [enumL] at h; exact ⟨y, rfl, h.symm⟩
  | y :: ys, j, i + 1, x, h => by
    have h' : (enumL (j + 1) ys)[i]? = some x := by simpa [enumL] using h
    obtain ⟨z, e1, e2⟩ := enumL_get h'
    exact ⟨z, by simpa using e1, by rw [e2]; congr 2; congr 1; omega⟩
theorem enumL_length : ∀ (xs : List Val) (j : Nat), (enumL j xs).length = xs.length
  | [], _ => rfl
  | _ :: r, j => by simp [enumL, enumL_length r]
theorem zipL_length : ∀ (xs ys : List Val), (zipL xs ys).length = min xs.length ys.length
  | [], _ => by simp [zipL]
  | _ :: _, [] => by simp [zipL]
  | _ :: r, _ :: t => by simp [zipL, zipL_length r t, Nat.succ_min_succ]
theorem zipL_get : ∀ {xs ys : List Val} {i : Nat} {x : Val}, (zipL xs ys)[i]? = some x → ∃ a b, xs[i]? = some a ∧ ys[i]? = some b ∧ x = .tupk [a, b]
  | [], _, i, x, h => by simp [zipL] at h
  | _ :: _, [], i, x, h => by simp [zipL] at h
  | a :: r, b :: t, 0, x, h => by simp [zipL] at h; exact ⟨a, b, rfl, rfl, h.symm⟩
  | a :: r, b :: t, i + 1, x, h => by
    have h' : (zipL r t)[i]? = some x := by simpa [zipL] using h
    obtain ⟨u, v, e1, e2, e3⟩ := zipL_get h'
    exact ⟨u, v, by simpa using e1, by simpa using e2, e3⟩
theorem jr_enum {a : Addr} {xs : List Val} {vs : List L2.V} (s : g.F a = some (.lst vs)) (r : VRs D.K g xs vs) : JR D g (enumL 0 xs) (Ite X.K a) := by
  refine jr_walk walk_enum (by rw [enumL_length]; exact r.length.symm) (fun g' h H u ok => SqL.of (ok.fh _ _ (u.ff _ _ s))) (jr_pair fun i x g' hi u => ?_)
  obtain ⟨y, e1, rfl⟩ := enumL_get hi
  obtain ⟨v, e2, rv⟩ := (u.vrs r).get e1
  exact ⟨_, y, .int (i : Nat), v, rfl, rfl, e2, by rw [Nat.zero_add]; exact .int _, rv⟩
theorem jr_enumT (e : D.K = X.K) {a : Addr} {xs : List Val} {vs : List L2.V} (s : SqT D.K g.F a vs) (r : VRs D.K g xs vs) : JR D g (enumL 0 xs) (IteT X.K a) := by
  refine jr_walk walk_enumT (by rw [enumL_length]; exact r.length.symm) (fun g' h H u ok => e ▸ SqT.mono ok.fh (SqT.mono u.ff s)) (jr_pair fun i x g' hi u => ?_)
  obtain ⟨y, e1, rfl⟩ := enumL_get hi
  obtain ⟨v, e2, rv⟩ := (u.vrs r).get e1
  exact ⟨_, y, .int (i : Nat), v, rfl, rfl, e2, by rw [Nat.zero_add]; exact .int _, rv⟩
theorem jr_zipT (e : D.K = X.K) {a b : Addr} {xs ys : List Val} {vs ws : List L2.V} (s : SqT D.K g.F a vs) (r : VRs D.K g xs vs) (s' : SqT D.K g.F b ws) (r' : VRs D.K g ys ws) : JR D g (zipL xs ys) (RZ.ItzT X.K a b) := by
  refine jr_walk (walk_zipT (xs := vs) (ys := ws) rfl) (by rw [zipL_length, r.length, r'.length]) (fun g' h H u ok => ⟨e ▸ SqT.mono ok.fh (SqT.mono u.ff s), e ▸ SqT.mono ok.fh (SqT.mono u.ff s')⟩) (jr_pair fun i x g' hi u => ?_)
  obtain ⟨y, z, e1, e2, rfl⟩ := zipL_get hi
  obtain ⟨v, k1, r1⟩ := (u.vrs r).get e1
  obtain ⟨w, k2, r2⟩ := (u.vrs r').get e2
  exact ⟨y, z, v, w, rfl, k1, k2, r1, r2⟩
theorem jr_zip {a b : Addr} {xs ys : List Val} {vs ws : List L2.V} (s : g.F a = some (.lst vs)) (r : VRs D.K g xs vs) (s' : g.F b = some (.lst ws)) (r' : VRs D.K g ys ws) : JR D g (zipL xs ys) (Itz X.K a b) := by
  refine jr_walk (walk_zip (xs := vs) (ys := ws) rfl) (by rw [zipL_length, r.length, r'.length]) (fun g' h H u ok => ⟨SqL.of (ok.fh _ _ (u.ff _ _ s)), SqL.of (ok.fh _ _ (u.ff _ _ s'))⟩) (jr_pair fun i x g' hi u => ?_)
  obtain ⟨y, z, e1, e2, rfl⟩ := zipL_get hi
  obtain ⟨v, k1, r1⟩ := (u.vrs r).get e1
  obtain ⟨w, k2, r2⟩ := (u.vrs r').get e2
  exact ⟨y, z, v, w, rfl, k1, k2, r1, r2⟩
/-- a list, a tuple or a text is walked -/
def iSeq (K : PySem.W.Frag) (te : TE) : TI := fun σ H R => te σ H fun x H1 =>
  (∃ a xs, x = .ref a ∧ SqL K H1 a xs ∧ R (Itl K a) H1) ∨ (∃ a xs, x = .ref a ∧ SqT K H1 a xs ∧ R (Itt K a) H1) ∨ ∃ z, x = .str z ∧ R (Its z) H1
theorem pi_seq {tg e : Expr} {te : TE} (he : PE X e te) : PI X tg e (iSeq X.K te) := by
  refine ⟨fun pins s σ H R I h => thn (he.run pins s σ H _ I h) ?_⟩
  rintro v s1 ⟨x, H1, I1, r1, ⟨a, xs, rfl, hs, q⟩ | ⟨a, xs, rfl, hs, q⟩ | ⟨z, rfl, q⟩⟩
  · cases r1
    obtain ⟨its, _, pl, _⟩ := I1.list hs
    exact wpAny_pyIter_list pl.isList (pi_one (tk := s1.toks) I1 _ (turn_list a _) ⟨_, Heap.get?_push_size _ rfl, rfl, rfl⟩ q)
  · cases r1
    obtain ⟨its, _, pl, _⟩ := I1.tuple hs
    exact wpAny_pyIter_tuple (items := its.toArray) pl (pi_one (tk := s1.toks) I1 _ (turn_tuple a _) ⟨_, Heap.get?_push_size _ rfl, rfl, rfl⟩ q)
  · obtain ⟨t, rfl⟩ := r1
    cases ha : z.cps.all (· < 128)
    · exact wpAny_pyIter_wide ha (pi_one (tk := s1.toks) I1 _ (turn_str _ z t "str_iterator" (.inr rfl)) ⟨_, Heap.get?_push_size _ rfl, rfl, rfl⟩ q)
    · exact wpAny_pyIter_ascii ha (pi_one (tk := s1.toks) I1 _ (turn_str _ z t "str_ascii_iterator" (.inl rfl)) ⟨_, Heap.get?_push_size _ rfl, rfl, rfl⟩ q)
theorem sd_seqI (G : Gd D T Γ N sc n W X) {e : EV.E} {tg py : Expr} (h : chkI T N sc (.seq e) tg py = true) (ihe : ∀ p, chkE T N sc e p = true → Sd D Γ W X e p) : PI X tg py (simI D Γ W (.seq e)) := by
  unfold chkI at h
  refine PI.weak (pi_seq (ihe _ h).pe) ?_
  rintro σ H R ⟨P, g, h, env, k, kx, st, hk, pv, px⟩
  refine seqE st hk px fun v h1 g1 H1 x hk1 e1 st1 px1 r1 => ?_
  cases r1 <;> first | (cases hk1; done) | skip
  · exact .inr (.inr ⟨_, rfl, pv _ _ _ _ _ hk1 e1 st1.ok jr_str⟩)
  · rename_i a xs vs s rv
    exact .inr (.inl ⟨a, vs, rfl, G.eK ▸ SqT.mono st1.ok.fh s.sqT, pv _ _ _ _ _ hk1 e1 st1.ok (jr_tup G.eK s.sqT rv)⟩)
  · rename_i a xs vs s rv
    exact .inl ⟨a, vs, rfl, SqL.of (st1.ok.fh _ _ s), pv _ _ _ _ _ hk1 e1 st1.ok (jr_list G.eK s rv)⟩
theorem sd_rng1 (G : Gd D T Γ N sc n W X) {a : EV.E} {tg py : Expr} (h : chkI T N sc (.rng1 a) tg py = true) (iha : ∀ p, chkE T N sc a p = true → Sd D Γ W X a p) : PI X tg py (simI D Γ W (.rng1 a)) := by
  unfold chkI at h
  split at h
  · simp only [Bool.and_eq_true, decide_eq_true_eq] at h
    obtain ⟨⟨⟨h1, h2⟩, h3⟩, h4⟩ := h
    subst h1
    refine PI.weak (pi_range1 (G.gl h2) (G.mgN (by decide +kernel)) (pa_cons (iha _ h4).pe pa_nil (tame_star h3 _ _)) (tame_star h3 _ _)) ?_
    rintro σ H R ⟨P, g, h, env, k, kx, st, hk, pv, px⟩
    refine seqE st hk px fun v h1 g1 H1 x hk1 e1 st1 px1 r1 => ?_
    cases r1 <;> first | (cases hk1; done) | skip
    rename_i j
    have hk2 : (if rgOk j = true then k (rgl 0 j.toNat) h1 else false) = true := hk1
    split at hk2
    · rename_i hz
      simp only [rgOk, Bool.and_eq_true, decide_eq_true_eq] at hz
      exact ⟨j, rfl, hz.1, hz.2, pv _ _ _ _ _ hk2 e1 st1.ok jr_range⟩
    · cases hk2
  · cases h
theorem sd_rng2 (G : Gd D T Γ N sc n W X) {a b : EV.E} {tg py : Expr} (h : chkI T N sc (.rng2 a b) tg py = true) (iha : ∀ p, chkE T N sc a p = true → Sd D Γ W X a p) (ihb : ∀ p, chkE T N sc b p = true → Sd D Γ W X b p) : PI X tg py (simI D Γ W (.rng2 a b)) := by
  unfold chkI at h
  split at h
  · simp only [Bool.and_eq_true, decide_eq_true_eq] at h
    obtain ⟨⟨⟨⟨⟨h1, h2⟩, h3⟩, h4⟩, h5⟩, h6⟩ := h
    subst h1
    have s2 := tame_star h4 [] X.env
    refine PI.weak (pi_range2 (G.gl h2) (G.mgN (by decide +kernel)) (pa_cons (iha _ h5).pe (pa_cons (ihb _ h6).pe pa_nil s2) (tame_star h3 _ _)) (by rw [tame_star h3, s2]; rfl) s2) ?_
    rintro σ H R ⟨P, g, h, env, k, kx, st, hk, pv, px⟩
    refine seqE st hk px fun v h1 g1 H1 x hk1 e1 st1 px1 r1 => ?_
    refine seqE st1 hk1 px1 fun u h2 g2 H2 y hk2 e2 st2 px2 r2 => ?_
    cases r1 <;> first | (cases r2 <;> cases hk2; done) | skip
    cases r2 <;> first | (cases hk2; done) | skip
    rename_i i j
    have hk3 : (if (rgOk i && rgOk j) = true then k (rgl i (j - i).toNat) h2 else false) = true := hk2
    split at hk3
    · rename_i hz
      simp only [rgOk, Bool.and_eq_true, decide_eq_true_eq] at hz
      exact ⟨i, j, rfl, ⟨hz.1.1, hz.1.2, hz.2.1, hz.2.2⟩, pv _ _ _ _ _ hk3 (e1.trans e2) st2.ok jr_range⟩
    · cases hk3
  · cases h
theorem sd_enm (G : Gd D T Γ N sc n W X) {e : EV.E} {tg py : Expr} (h : chkI T N sc (.enm e) tg py = true) (ihe : ∀ p, chkE T N sc e p = true → Sd D Γ W X e p) : PI X tg py (simI D Γ W (.enm e)) := by
  unfold chkI at h
  split at h
  · split at h
    · simp only [Bool.and_eq_true, decide_eq_true_eq] at h
      obtain ⟨⟨⟨h1, h2⟩, h3⟩, h4⟩ := h
      subst h1
      refine PI.weak (pi_enumA (G.gl h2) (G.mgN (by decide +kernel)) (pa_cons (ihe _ h4).pe pa_nil (tame_star h3 _ _)) (tame_star h3 _ _)) ?_
      rintro σ H R ⟨P, g, h, env, k, kx, st, hk, pv, px⟩
      refine seqE st hk px fun v h1 g1 H1 x hk1 e1 st1 px1 r1 => ?_
      cases r1 <;> first | (cases hk1; done) | skip
      · rename_i a xs vs s rv
        exact ⟨a, vs, rfl, .inr ⟨G.eK ▸ SqT.mono st1.ok.fh s.sqT, pv _ _ _ _ _ hk1 e1 st1.ok (jr_enumT G.eK s.sqT rv)⟩⟩
      · rename_i a xs vs s rv
        exact ⟨a, vs, rfl, .inl ⟨SqL.of (st1.ok.fh _ _ s), pv _ _ _ _ _ hk1 e1 st1.ok (jr_enum s rv)⟩⟩
    · cases h
  · cases h
theorem sd_zip (G : Gd D T Γ N sc n W X) {a b : EV.E} {tg py : Expr} (h : chkI T N sc (.zip a b) tg py = true) (iha : ∀ p, chkE T N sc a p = true → Sd D Γ W X a p) (ihb : ∀ p, chkE T N sc b p = true → Sd D Γ W X b p) : PI X tg py (simI D Γ W (.zip a b)) := by
  unfold chkI at h
  split at h
  · split at h
    · simp only [Bool.and_eq_true, decide_eq_true_eq] at h
      obtain ⟨⟨⟨⟨⟨h1, h2⟩, h3⟩, h4⟩, h5⟩, h6⟩ := h
      subst h1
      have s2 := tame_star h4 [] X.env
      refine PI.weak (RZ.pi_zipA (G.gl h2) (G.mgN (by decide +kernel)) (pa_cons (iha _ h5).pe (pa_cons (ihb _ h6).pe pa_nil s2) (tame_star h3 _ _)) (tame_star h3 _ _) (tame_plain (by unfold allTame; rw [List.all_cons, h4]; rfl) X.env _)) ?_
      rintro σ H R ⟨P, g, h, env, k, kx, st, hk, pv, px⟩
      refine seqE st hk px fun v h1 g1 H1 x hk1 e1 st1 px1 r1 => ?_
      refine seqE st1 hk1 px1 fun u h2 g2 H2 y hk2 e2 st2 px2 r2 => ?_
      cases r1 <;> first | (cases r2 <;> cases hk2; done) | skip
      · cases r2 <;> first | (cases hk2; done) | skip
        rename_i a xs vs s rv b ys ws s' rv'
        have s'' := SqD.mono e2.ff s
        exact ⟨a, b, vs, ws, rfl, .inr ⟨G.eK ▸ SqT.mono st2.ok.fh s''.sqT, G.eK ▸ SqT.mono st2.ok.fh s'.sqT, pv _ _ _ _ _ hk2 (e1.trans e2) st2.ok (jr_zipT G.eK s''.sqT (e2.vrs rv) s'.sqT rv')⟩⟩
      · cases r2 <;> first | (cases hk2; done) | skip
        rename_i a xs vs s rv b ys ws s' rv'
        have s'' := e2.ff _ _ s
        exact ⟨a, b, vs, ws, rfl, .inl ⟨SqL.of (st2.ok.fh _ _ s''), SqL.of (st2.ok.fh _ _ s'), pv _ _ _ _ _ hk2 (e1.trans e2) st2.ok (jr_zip s'' (e2.vrs rv) s' rv')⟩⟩
    · cases h
  · cases h
end
end EV
namespace EV
open PySem PySem.Spec PyProof.Rows L2

section
variable {D : Dat} {T : Tab} {Γ : Sem} {N : List Str} {sc : Scope} {n : Nat} {W : WX} {X : Cx}
variable {g g' : Gs} {H H' : Hp} {h h' : Hs} {P : Addr → Prop} {env : EV.Env} {σ : L2.St}
/-! stores of data -/
theorem EnvR.set (r : EnvR D.K g H P env σ) {i : Nat} {v : Val} {x : L2.V} (q : VR D.K g v x) : EnvR D.K g H P (env.set i (some v)) (σ.set i (some x)) := by
  obtain ⟨l, ow, h1, h2, h3⟩ := r
  refine ⟨by simp [l], fun j => if j = i then none else ow j, fun a b c e1 e2 => ?_, fun a b e1 => ?_, fun j u e => ?_⟩
  · dsimp only at e1 e2
    split at e1
    · cases e1
    · split at e2
      · cases e2
      · exact h1 a b c e1 e2
  · dsimp only at e1
    split at e1
    · cases e1
    · exact h2 a b e1
  · by_cases hj : j = i
    · subst hj
      have hl : j < env.length := by
        have := (List.getElem?_eq_some_iff.mp e).1
        simpa using this
      rw [List.getElem?_set_self hl] at e
      cases e
      exact ⟨x, List.getElem?_set_self (by rw [← l]; exact hl), SR.of q⟩
    · rw [List.getElem?_set_ne (Ne.symm hj)] at e
      obtain ⟨y, e1, e2⟩ := h3 j u e
      refine ⟨y, by rw [List.getElem?_set_ne (Ne.symm hj)]; exact e1, ?_⟩
      dsimp only
      rw [if_neg hj]
      exact e2
theorem EnvR.unset (r : EnvR D.K g H P env σ) (i : Nat) : EnvR D.K g H P (env.set i none) (σ.set i none) := by
  obtain ⟨l, ow, h1, h2, h3⟩ := r
  refine ⟨by simp [l], ow, h1, h2, fun j u e => ?_⟩
  by_cases hj : j = i
  · subst hj
    have hl : j < env.length := by
      have := (List.getElem?_eq_some_iff.mp e).1
      simpa using this
    rw [List.getElem?_set_self hl] at e
    cases e
  · rw [List.getElem?_set_ne (Ne.symm hj)] at e ⊢
    exact h3 j u e
theorem EnvR.wipe (r : EnvR D.K g H P env σ) : ∀ vs : List Nat, EnvR D.K g H P (wipeE env vs) (L2.wipe σ vs)
  | [] => r
  | v :: vs => (EnvR.wipe r vs).unset v
/-- the slots but vs are as they were -/
def SameBut (vs : List Nat) (σ σ' : L2.St) : Prop := σ'.length = σ.length ∧ ∀ i : Nat, i ∉ vs → σ'[i]? = σ[i]?
theorem SameBut.refl (vs : List Nat) (σ : L2.St) : SameBut vs σ σ := ⟨rfl, fun _ _ => rfl⟩
theorem SameBut.trans {vs : List Nat} {a b c : L2.St} (x : SameBut vs a b) (y : SameBut vs b c) : SameBut vs a c := ⟨y.1.trans x.1, fun i hi => (y.2 i hi).trans (x.2 i hi)⟩
theorem SameBut.more {vs ws : List Nat} {a b : L2.St} (x : SameBut vs a b) (h : ∀ i ∈ vs, i ∈ ws) : SameBut ws a b := ⟨x.1, fun i hi => x.2 i fun z => hi (h i z)⟩
theorem SameBut.wipe {vs : List Nat} {a b : L2.St} (x : SameBut vs a b) : L2.wipe b vs = L2.wipe a vs := by
  have key : ∀ (ws : List Nat) (a b : L2.St), b.length = a.length → (∀ i : Nat, i ∉ ws → b[i]? = a[i]?) → ∀ i : Nat, (L2.wipe b ws)[i]? = (L2.wipe a ws)[i]? := by
    intro ws
    induction ws with
    | nil => exact fun a b _ h i => h i (by simp)
    | cons v vs ih =>
      intro a b hl h i
      show ((L2.wipe b vs).set v none)[i]? = ((L2.wipe a vs).set v none)[i]?
      have wl : (L2.wipe b vs).length = (L2.wipe a vs).length := by rw [wipe_length, wipe_length, hl]
      by_cases hi : v = i
      · subst hi
        by_cases hv : v < (L2.wipe b vs).length
        · rw [List.getElem?_set_self hv, List.getElem?_set_self (by rw [← wl]; exact hv)]
        · rw [List.getElem?_eq_none (by simpa using hv), List.getElem?_eq_none (by rw [List.length_set, ← wl]; simpa using hv)]
      · rw [List.getElem?_set_ne hi, List.getElem?_set_ne hi]
        -- a slot that is not wiped by vs, or is
        have w2 : ∀ (ws : List Nat) (c : L2.St), (i ∈ ws → (L2.wipe c ws)[i]? = if i < c.length then some none else none) ∧ (i ∉ ws → (L2.wipe c ws)[i]? = c[i]?) := by
          intro ws
          induction ws with
          | nil => exact fun c => ⟨fun z => absurd z (by simp), fun _ => rfl⟩
          | cons u us ih2 =>
            intro c
            obtain ⟨k1, k2⟩ := ih2 c
            show (_ → ((L2.wipe c us).set u none)[i]? = _) ∧ (_ → ((L2.wipe c us).set u none)[i]? = _)
            by_cases hu : u = i
            · subst hu
              refine ⟨fun _ => ?_, fun z => absurd List.mem_cons_self z⟩
              by_cases hc : u < c.length
              · rw [List.getElem?_set_self (by rw [wipe_length]; exact hc), if_pos hc]
              · rw [List.getElem?_eq_none (by rw [List.length_set, wipe_length]; omega), if_neg hc]
            · rw [List.getElem?_set_ne hu]
              exact ⟨fun z => k1 ((List.mem_cons.mp z).resolve_left fun e => hu e.symm), fun z => k2 fun y => z (List.mem_cons_of_mem _ y)⟩
        by_cases hm : i ∈ vs
        · rw [(w2 vs b).1 hm, (w2 vs a).1 hm, hl]
        · rw [(w2 vs b).2 hm, (w2 vs a).2 hm]
          exact h i (by simp only [List.mem_cons, not_or]; exact ⟨fun e => hi e.symm, hm⟩)
  exact List.ext_getElem? (key vs a b x.1 x.2)
def simG (D : Dat) (t : EV.T) : TG := fun v σ H Q => ∃ P g h env x env', Sta D P g h H env σ ∧ VR D.K g x v ∧ asg t x env = some env' ∧ ∀ σ', EnvR D.K g H P env' σ' → SameBut (tvars t) σ σ' → Q σ' H
def simGs (D : Dat) (ts : List EV.T) : TGs := fun vs σ H Q => ∃ P g h env xs env', Sta D P g h H env σ ∧ VRs D.K g xs vs ∧ asgs ts xs env = some env' ∧ ∀ σ', EnvR D.K g H P env' σ' → SameBut (tvarsL ts) σ σ' → Q σ' H
theorem PG.weak {tg : Expr} {t t' : TG} (p : PG X tg t) (h : ∀ v σ H Q, t' v σ H Q → t v σ H Q) : PG X tg t' := ⟨fun pins s σ H v u Q I r q => p.run pins s σ H v u Q I r (h v σ H Q q)⟩
theorem PG.or {tg : Expr} {t t' : TG} (p : PG X tg t) (q : PG X tg t') : PG X tg (fun v σ H Q => t v σ H Q ∨ t' v σ H Q) := ⟨fun pins s σ H v u Q I r z => z.elim (fun z => p.run pins s σ H v u Q I r z) fun z => q.run pins s σ H v u Q I r z⟩
theorem PGs.weak {tg : List Expr} {t t' : TGs} (p : PGs X tg t) (h : ∀ v σ H Q, t' v σ H Q → t v σ H Q) : PGs X tg t' := ⟨fun pins s σ H v u Q I r q => p.run pins s σ H v u Q I r (h v σ H Q q)⟩
theorem tame_asgs {es : List Expr} (h : allTame es = true) (env : PySem.Env) : (assignEach es env).findIdx? (·.1) = none ∧ (assignEach es env).length = es.length := by
  induction es with
  | nil => exact ⟨rfl, rfl⟩
  | cons e r ih =>
    unfold allTame at h ih
    rw [List.all_cons, Bool.and_eq_true] at h
    obtain ⟨h1, h2⟩ := ih h.2
    rw [tame_asg h.1]
    refine ⟨?_, by rw [List.length_cons, h2, List.length_cons]⟩
    rw [List.findIdx?_cons]
    simp [h1]
theorem asgs_len : ∀ {ts : List EV.T} {xs : List Val} {env env' : EV.Env}, asgs ts xs env = some env' → xs.length = ts.length
  | [], [], _, _, _ => rfl
  | [], _ :: _, _, _, h => by simp [asgs] at h
  | _ :: _, [], _, _, h => by simp [asgs] at h
  | t :: ts, x :: xs, env, env', h => by
    simp only [asgs] at h
    split at h
    · rw [List.length_cons, List.length_cons, asgs_len h]
    · cases h
theorem chkTs_len : ∀ {ts : List EV.T} {ps : List Expr}, chkTs N sc ts ps = true → ts.length = ps.length ∧ allTame ps = true
  | [], ps, h => by
    unfold chkTs at h
    split at h
    · exact ⟨rfl, rfl⟩
    · cases h
  | t :: ts, ps, h => by
    unfold chkTs at h
    split at h
    · simp only [Bool.and_eq_true] at h
      obtain ⟨h1, h2⟩ := chkTs_len h.2
      exact ⟨by rw [List.length_cons, List.length_cons, h1], by unfold allTame at h2 ⊢; rw [List.all_cons, h.1.1, h2]; rfl⟩
    · cases h
mutual
theorem sd_tg (hN : X.N = N) (hnd : N.Nodup) (hc : X.calm = true) (hK : D.K = X.K) (hl : ∀ x, locB sc x = true → Loc X.env.scope x ∧ (X.fn x = true ∨ X.env.scope.names.lookup x = some .local)) :
    ∀ (t : EV.T) (py : Expr), chkT N sc t py = true → PG X py (simG D t)
  | .name i, py, h => by
    unfold chkT at h
    split at h
    · rename_i x pos
      rw [Bool.and_eq_true, decide_eq_true_eq] at h
      obtain ⟨l1, l2⟩ := hl x h.2
      refine PG.weak (pg_name (i := i) (by rw [hN]; exact hnd) (by rw [hN]; exact h.1) l1 l2) ?_
      rintro v σ H Q ⟨P, g, h, env, y, env', st, r, e, q⟩
      simp only [asg] at e
      split at e
      · cases e
        refine q _ (st.er.set r) ⟨by simp, fun j hj => ?_⟩
        rw [List.getElem?_set_ne]
        intro z
        exact hj (by simp [tvars, z])
      · cases e
    · cases h
  | .tup ts, py, h => by
    unfold chkT at h
    split at h
    · rename_i ps kk pos
      obtain ⟨h1, h2⟩ := chkTs_len h
      obtain ⟨k1, k2⟩ := tame_asgs h2 X.env
      refine PG.weak (PG.or (pg_tup (n := ts.length) hc (sd_tgs hN hnd hc hK hl ts ps h) (by rw [k2, h1]) k1) (pg_lst (n := ts.length) hc (sd_tgs hN hnd hc hK hl ts ps h) (by rw [k2, h1]) k1)) ?_
      rintro v σ H Q ⟨P, g, h, env, y, env', st, r, e, q⟩
      cases r <;> first | (simp [asg] at e; done) | skip
      · rename_i a xs vs s rv
        have e' : asgs ts xs env = some env' := by simpa [asg] using e
        refine .inl ?_
        exact ⟨a, vs, rfl, hK ▸ SqT.mono st.ok.fh s.sqT, by rw [← rv.length]; exact asgs_len e', P, g, h, env, xs, env', st, rv, e', fun σ' a b => q σ' a (by simpa [tvars] using b)⟩
      · rename_i a xs vs s rv
        have e' : asgs ts xs env = some env' := by simpa [asg] using e
        exact .inl ⟨a, vs, rfl, hK ▸ SqT.mono st.ok.fh s, by rw [← rv.length]; exact asgs_len e', P, g, h, env, xs, env', st, rv, e', fun σ' a b => q σ' a (by simpa [tvars] using b)⟩
      · rename_i a xs vs s rv
        have e' : asgs ts xs env = some env' := by simpa [asg] using e
        exact .inr ⟨a, vs, rfl, SqL.of (st.ok.fh _ _ s), by rw [← rv.length]; exact asgs_len e', P, g, h, env, xs, env', st, rv, e', fun σ' a b => q σ' a (by simpa [tvars] using b)⟩
    · cases h
theorem sd_tgs (hN : X.N = N) (hnd : N.Nodup) (hc : X.calm = true) (hK : D.K = X.K) (hl : ∀ x, locB sc x = true → Loc X.env.scope x ∧ (X.fn x = true ∨ X.env.scope.names.lookup x = some .local)) :
    ∀ (ts : List EV.T) (ps : List Expr), chkTs N sc ts ps = true → PGs X ps (simGs D ts)
  | [], ps, h => by
    unfold chkTs at h
    split at h
    · refine PGs.weak pgs_nil ?_
      rintro v σ H Q ⟨P, g, h, env, xs, env', st, r, e, q⟩
      cases r with
      | nil =>
        simp only [asgs] at e
        cases e
        exact ⟨rfl, q σ st.er (SameBut.refl _ _)⟩
      | cons _ _ => simp [asgs] at e
    · cases h
  | t :: ts, ps, h => by
    unfold chkTs at h
    split at h
    · rename_i p r
      simp only [Bool.and_eq_true] at h
      refine PGs.weak (pgs_cons (sd_tg hN hnd hc hK hl t p h.1.2) (sd_tgs hN hnd hc hK hl ts r h.2) (by rw [tame_asg h.1.1]; rfl)) ?_
      rintro v σ H Q ⟨P, g, h, env, xs, env', st, r, e, q⟩
      cases r with
      | nil => simp [asgs] at e
      | @cons x v xs vs r1 r2 =>
        simp only [asgs] at e
        split at e
        · rename_i env1 e1
          refine ⟨v, vs, rfl, P, g, h, env, x, env1, st, r1, e1, fun σ1 a1 b1 => ?_⟩
          refine ⟨P, g, h, env1, xs, env', ⟨a1, st.ok⟩, r2, e, fun σ2 a2 b2 => q σ2 a2 ?_⟩
          exact (b1.more fun i hi => by simp [tvarsL, hi]).trans (b2.more fun i hi => by simp [tvarsL, hi])
        · cases e
    · cases h
end
end
end EV
namespace EV
open PySem PySem.Spec PyProof.Rows L2

theorem GOk.noF {D : Dat} {g : Gs} {h : Hs} {H : Hp} (ok : GOk D g h H) {a : Addr} (c : g.U a ≠ none) : g.F a = none := by
  cases w : g.U a with
  | none => exact absurd w c
  | some u =>
    cases u with
    | cup => exact (ok.cup a w).1
    | cell n => exact (ok.cell a n w).1
/-- an owned object is changed -/
theorem mut_ex {D : Dat} {g g' : Gs} {h : Hs} {H H' : Hp} {p : Addr} {o : HO} (e : Ex g H g' H') (ok : GOk D g' h H') (hp : H p = none) (h2 : g'.F p = none) (h3 : g'.U p = none) : Ex g H g' (upd H' p o) ∧ GOk D g' h (upd H' p o) := by
  refine ⟨⟨e.ff, e.uu, e.cl, fun a u q n => ?_, fun a q => ?_, e.nw, e.nu⟩, ok.more (fun _ _ q => q) (fun a c => ⟨ok.noF c, upd_ne fun z => c (by rw [z]; exact h3)⟩) fun a u q => ?_⟩
  · rw [upd_ne (ne_of_none q hp)]; exact e.hh a u q n
  · rw [upd_ne fun z => q (by rw [z]; exact hp)]; exact e.th a q
  · rw [upd_ne fun z => by rw [z, h2] at q; cases q]; exact ok.fh a u q
/-- an owned object is frozen -/
theorem freeze_ex {D : Dat} {g g' : Gs} {h : Hs} {H H' : Hp} {p : Addr} {o : HO} (e : Ex g H g' H') (ok : GOk D g' h H') (hp : H p = none) (h1 : H' p = some o) (h2 : g'.F p = none) (h3 : g'.U p = none) :
    Ex g H { g' with F := upd g'.F p o } H' ∧ GOk D { g' with F := upd g'.F p o } h H' := by
  have hf : ∀ a u, g'.F a = some u → upd g'.F p o a = some u := fun a u q => by rw [upd_ne (ne_of_none q h2)]; exact q
  refine ⟨⟨fun a u q => hf a u (e.ff a u q), e.uu, e.cl, e.hh, e.th, fun a q => ?_, e.nu⟩, ok.more hf (fun a c => ⟨?_, rfl⟩) fun a u q => ?_⟩
  · by_cases z : a = p
    · subst z; exact .inr hp
    · have q' : upd g'.F p o a ≠ none := q
      rw [upd_ne z] at q'; exact e.nw a q'
  · rw [upd_ne fun z => c (by rw [z]; exact h3)]; exact ok.noF c
  · by_cases z : a = p
    · subst z; rw [upd_same] at q; cases q; exact h1
    · rw [upd_ne z] at q; exact ok.fh a u q
section
variable {D : Dat} {T : Tab} {Γ : Sem} {N : List Str} {sc : Scope} {n : Nat} {W : WX} {X : Cx}
variable {g g' : Gs} {H H' : Hp} {h h' : Hs} {P : Addr → Prop} {env : EV.Env} {σ : L2.St}
theorem VRs.frz {p : Addr} {o : HO} (np : g.F p = none) {zs : List Val} {us : List L2.V} (q : VRs D.K g zs us) : VRs D.K { g with F := upd g.F p o } zs us :=
  VRs.mono (g := g) (g' := { g with F := upd g.F p o }) (fun a u e => by show upd g.F p _ a = some u; rw [upd_ne (ne_of_none e np)]; exact e) (fun _ _ e => e) rfl q
theorem wipe_same : ∀ (vs : List Nat) (σ : L2.St), SameBut vs σ (L2.wipe σ vs)
  | [], σ => SameBut.refl _ _
  | v :: vs, σ => by
    obtain ⟨h1, h2⟩ := wipe_same vs σ
    refine ⟨by rw [wipe_length], fun i hi => ?_⟩
    simp only [List.mem_cons, not_or] at hi
    show ((L2.wipe σ vs).set v none)[i]? = σ[i]?
    rw [List.getElem?_set_ne (Ne.symm hi.1)]
    exact h2 i hi.2
theorem lookup_rel (sc : Scope) (x : Str) : ∀ names : List (Str × NameKind), (names.map fun (n, k) => if (k == NameKind.free && sc.kind == .function && sc.names.lookup n == some .cell) then (n, NameKind.cell) else (n, k)).lookup x =
    (names.lookup x).map fun k => if (k == NameKind.free && sc.kind == .function && sc.names.lookup x == some .cell) then NameKind.cell else k
  | [] => rfl
  | (m, k) :: r => by
    rw [List.map_cons]
    show List.lookup x ((if (k == NameKind.free && sc.kind == .function && sc.names.lookup m == some .cell) = true then (m, NameKind.cell) else (m, k)) :: _) = _
    have ih := lookup_rel sc x r
    by_cases c : (k == NameKind.free && sc.kind == .function && sc.names.lookup m == some .cell) = true
    · rw [if_pos c]
      simp only [List.lookup_cons]
      cases q : x == m with
      | true =>
        have em : x = m := by simpa using q
        subst em
        simp only [Option.map_some]
        rw [if_pos c]
      | false => exact ih
    · rw [if_neg c]
      simp only [List.lookup_cons]
      cases q : x == m with
      | true =>
        have em : x = m := by simpa using q
        subst em
        simp only [Option.map_some]
        rw [if_neg c]
      | false => exact ih
abbrev WF : WX := fun _ _ _ _ => False
theorem takesF {X : Cx} : Takes X WF := takes_none5
theorem gd_blk (G : Gd D T Γ N sc n W X) (scope : Scope) (s : Shared) (H : Hp) (C : Addr) (cl : List (Str × Addr)) (fp : List Addr) : Gd D T Γ N (relSc sc scope) n WF (X.blk s H scope (compEnvC scope cl C X.env) fp) where
  dat := G.dat
  eN := G.eN
  nd := G.nd
  eSc := by rw [← G.eSc]; rfl
  room := G.room
  calm := G.calm
  tk := takesF
  fns := G.fns
theorem loc_blk (G : Gd D T Γ N sc n W X) (scope : Scope) (s : Shared) (H : Hp) (C : Addr) (cl : List (Str × Addr)) (fp : List Addr) : ∀ x, locB scope x = true →
    Loc (X.blk s H scope (compEnvC scope cl C X.env) fp).env.scope x ∧ ((X.blk s H scope (compEnvC scope cl C X.env) fp).fn x = true ∨ (X.blk s H scope (compEnvC scope cl C X.env) fp).env.scope.names.lookup x = some .local) := by
  intro x hx
  have e : (X.blk s H scope (compEnvC scope cl C X.env) fp).env.scope = relSc sc scope := (gd_blk G scope s H C cl fp).eSc
  rw [e]
  unfold locB at hx
  have l := lookup_rel sc x scope.names
  split at hx
  · rename_i q
    rw [q] at l
    have l' : (relSc sc scope).names.lookup x = some .local := l
    exact ⟨.inl l', .inr l'⟩
  · rename_i q
    rw [q] at l
    have l' : (relSc sc scope).names.lookup x = some .cell := l
    refine ⟨.inr l', .inl ?_⟩
    show (scope.names.lookup x == some NameKind.cell) = true
    rw [q]; rfl
  · cases hx
theorem tvars_own (t : EV.T) : (ownOf N t).map (·.2) = tvars t := by
  unfold ownOf
  rw [List.map_map]
  induction tvars t with
  | nil => rfl
  | cons a r ih => rw [List.map_cons, ih]; rfl
/-- one turn of a comprehension -/
def lcT (X : Txt) (sem : Sem) (elt : EV.E) (t : EV.T) (ifs : EV.P) (env : EV.Env) : Val → Hs → (Option Val → Hs → Bool) → Bool := fun x h kt => stepK (asg t x (wipeE env (tvars t))) fun env' =>
  match ifs with
  | .no => ev X sem elt env' h (fun v h => fV v fun v => kt (some v) h) noX
  | .some c => ev X sem c env' h (fun b h => match b with
    | .bl true => ev X sem elt env' h (fun v h => fV v fun v => kt (some v) h) noX
    | .bl false => kt none h
    | _ => false) noX
theorem ev_lc {X : Txt} {sem : Sem} {elt : EV.E} {t : EV.T} {it : EV.I} {ifs : EV.P} {env : EV.Env} {h : Hs} {k kx : KV} :
    ev X sem (.lc elt t it ifs) env h k kx = evi X sem it env h (fun xs h => lcL (lcT X sem elt t ifs env) xs [] 0 h fun ys h => k (.lst ys) h) kx := by
  cases ifs <;> rfl
/-- the tests of a comprehension -/
def ttOf (D : Dat) (Γ : Sem) (ifs : EV.P) : TT := match ifs with
  | .no => tYes
  | .some c => simT D Γ WF c
structure LcS (D : Dat) (Γ : Sem) (g1 : Gs) (H1 : Hp) (Dl : Addr) (xs : List Val) (turn : Val → Hs → (Option Val → Hs → Bool) → Bool) (K : KVs) (i m : Nat) (H' : Hp) : Prop where
  ex : ∃ g' h' acc vs, i + m = xs.length ∧ Ex g1 H1 g' H' ∧ GOk D g' h' H' ∧ H' Dl = some (.lst vs) ∧ VRs D.K g' acc.reverse vs ∧ g'.F Dl = none ∧ g'.U Dl = none ∧ lcL turn (xs.drop i) acc acc.length h' K = true
/-- an item is laid behind the others -/
theorem lc_app {g1 g3 : Gs} {H1 H3 : Hp} {h3 : Hs} {Dl : Addr} {xs : List Val} {turn : Val → Hs → (Option Val → Hs → Bool) → Bool} {K : KVs} {i m : Nat} {acc : List Val} {vs : List L2.V} {v : Val} {y : L2.V} (hm : i + 1 + m = xs.length) (hD : H1 Dl = none)
    (e : Ex g1 H1 g3 H3) (ok : GOk D g3 h3 H3) (hl : H3 Dl = some (.lst vs)) (hr : VRs D.K g3 acc.reverse vs) (hf : g3.F Dl = none) (hu : g3.U Dl = none) (rv : VR D.K g3 v y)
    (hk : (if acc.length < sizeLine then lcL turn (xs.drop (i + 1)) (v :: acc) (acc.length + 1) h3 K else false) = true) :
    ∃ acc', H3 Dl = some (.lst acc') ∧ acc'.length < sizeLine ∧ LcS D Γ g1 H1 Dl xs turn K (i + 1) m (upd H3 Dl (.lst (acc' ++ [y]))) := by
  split at hk
  · rename_i hz
    obtain ⟨m1, m2⟩ := mut_ex (o := .lst (vs ++ [y])) e ok hD hf hu
    refine ⟨vs, hl, by rw [← hr.length, List.length_reverse]; exact hz, ⟨g3, h3, v :: acc, vs ++ [y], hm, m1, m2, upd_same, ?_, hf, hu, hk⟩⟩
    rw [List.reverse_cons]
    exact hr.append (.cons rv .nil)
  · cases hk
/-- an expression that makes a new list, not yet frozen -/
def simL0 (D : Dat) (Γ : Sem) (W : WX) (e : EV.E) : TE := fun σ H Q => ∃ P g h env k kx, Sta D P g h H env σ ∧ ev D.X Γ e env h k kx = true ∧
  (∀ xs h' g' H' p vs, k (.lst xs) h' = true → Ex g H g' H' → GOk D g' h' H' → H p = none → H' p = some (.lst vs) → VRs D.K g' xs vs → g'.F p = none → g'.U p = none → Q (.ref p) H') ∧ PostX D W σ g H kx
theorem simE_L0 {e : EV.E} {σ : L2.St} {H : Hp} {Q : VK} (z : simE D Γ W e σ H Q) : simL0 D Γ W e σ H Q := by
  obtain ⟨P, g, h, env, k, kx, st, hk, pv, px⟩ := z
  refine ⟨P, g, h, env, k, kx, st, hk, fun xs h' g' H' p vs a b c d e f i j => ?_, px⟩
  obtain ⟨m1, m2⟩ := freeze_ex (o := .lst vs) b c d e i j
  exact pv _ _ _ _ _ a m1 m2 (.lst upd_same (VRs.frz i f))
theorem lc_t {elt : EV.E} {t : EV.T} {it : EV.I} {ifs : EV.P} : ∀ (σ : L2.St) (H : Hp) (Q : VK), simL0 D Γ W (.lc elt t it ifs) σ H Q → tLc (simI D Γ W it) (simG D t) (ttOf D Γ ifs) (simE D Γ WF elt) (tvars t) σ H Q := by
  rintro σ H Q ⟨P, g, h, env, k, kx, st, hk, pv, px⟩
  rw [ev_lc] at hk
  refine ⟨P, g, h, env, _, kx, st, hk, fun xs h1 g1 H1 J hk1 e1 ok1 jr => ?_, px⟩
  intro Dl hD
  refine ⟨LcS D Γ g1 H1 Dl xs (lcT D.X Γ elt t ifs env) (fun ys h => k (.lst ys) h), ⟨xs.length, ?_⟩, ?_⟩
  · obtain ⟨m1, m2⟩ := loose_ex (o := .lst []) ok1 hD
    obtain ⟨f1, f2⟩ := ok1.fresh hD
    exact ⟨g1, h1, [], [], Nat.zero_add _, m1, m2, upd_same, .nil, f1, f2, hk1⟩
  · rintro i m H' ⟨g', h', acc, vs, hm, ex, ok, hl, hr, hf, hu, hc⟩
    by_cases hi : i < xs.length
    · right
      obtain ⟨m, rfl⟩ : ∃ m', m = m' + 1 := ⟨m - 1, by omega⟩
      refine ⟨jr.go i g' h' H' hi ex.up ok, LcS D Γ g1 H1 Dl xs (lcT D.X Γ elt t ifs env) (fun ys h => k (.lst ys) h) (i + 1) m, fun H2 z => ⟨m, Nat.lt_succ_self _, z⟩, fun y H2 hy => ?_⟩
      have hx : xs[i]? = some xs[i] := List.getElem?_eq_getElem hi
      obtain ⟨g2, e2, ok2, r2⟩ := jr.yld i _ g' h' H' y H2 hx ex.up ok hy
      rw [List.drop_eq_getElem_cons hi] at hc
      have hc' : lcT D.X Γ elt t ifs env xs[i] h' (fun r h' => match r with
        | some v => if acc.length < sizeLine then lcL (lcT D.X Γ elt t ifs env) (xs.drop (i + 1)) (v :: acc) (acc.length + 1) h' (fun ys h => k (.lst ys) h) else false
        | none => lcL (lcT D.X Γ elt t ifs env) (xs.drop (i + 1)) acc acc.length h' (fun ys h => k (.lst ys) h)) = true := hc
      obtain ⟨env', ea, hb⟩ := stepK_some hc'
      have er : EnvR D.K g2 H2 P (wipeE env (tvars t)) (L2.wipe σ (tvars t)) := (((st.er.ext e1).ext ex).ext e2).wipe _
      refine ⟨P, g2, h', wipeE env (tvars t), xs[i], env', ⟨er, ok2⟩, r2, ea, fun σ' er' sb => ⟨?_, ?_⟩⟩
      · rw [sb.wipe, (wipe_same (tvars t) σ).wipe]
      have keep : ∀ {g3 : Gs} {H3 : Hp}, Ex g2 H2 g3 H3 → H3 Dl = some (.lst vs) ∧ VRs D.K g3 acc.reverse vs ∧ g3.F Dl = none ∧ g3.U Dl = none := fun {g3 H3} e3 => by
        have e := e2.trans e3
        obtain ⟨z1, z2⟩ := e.loose hl hf hu
        exact ⟨e.hh _ _ hl hu, e.vrs hr, z1, z2⟩
      have elt_ : ∀ {g3 : Gs} {h3 : Hs} {H3 : Hp}, Ex g2 H2 g3 H3 → GOk D g3 h3 H3 → EnvR D.K g3 H3 P env' σ' →
          ev D.X Γ elt env' h3 (fun v h => fV v fun v => if acc.length < sizeLine then lcL (lcT D.X Γ elt t ifs env) (xs.drop (i + 1)) (v :: acc) (acc.length + 1) h (fun ys h => k (.lst ys) h) else false) noX = true →
          simE D Γ WF elt σ' H3 fun y H4 => ∃ acc, H4 Dl = some (.lst acc) ∧ acc.length < sizeLine ∧ LcS D Γ g1 H1 Dl xs (lcT D.X Γ elt t ifs env) (fun ys h => k (.lst ys) h) (i + 1) m (upd H4 Dl (.lst (acc ++ [y]))) :=
        fun {g3 h3 H3} e3 ok3 er3 hk3 => ⟨P, g3, h3, env', _, _, ⟨er3, ok3⟩, hk3, fun v h4 g4 H4 y4 hk4 e4 ok4 r4 => by
          dsimp only at hk4
          rw [fV_eq] at hk4
          obtain ⟨z1, z2, z3, z4⟩ := keep (e3.trans e4)
          exact lc_app (by omega) hD (ex.trans (e2.trans (e3.trans e4))) ok4 z1 z2 z3 z4 r4 hk4, fun _ _ _ _ _ _ z => by cases z⟩
      cases ifs with
      | no => exact elt_ (Ex.refl _ _) ok2 er' hb
      | some c =>
        have hb' : ev D.X Γ c env' h' (fun b h => match b with
          | .bl true => ev D.X Γ elt env' h (fun v h => fV v fun v => if acc.length < sizeLine then lcL (lcT D.X Γ elt t (.some c) env) (xs.drop (i + 1)) (v :: acc) (acc.length + 1) h (fun ys h => k (.lst ys) h) else false) noX
          | .bl false => lcL (lcT D.X Γ elt t (.some c) env) (xs.drop (i + 1)) acc acc.length h (fun ys h => k (.lst ys) h)
          | _ => false) noX = true := hb
        refine ⟨P, g2, h', env', _, _, ⟨er', ok2⟩, hb', fun v h3 g3 H3 hk3 e3 ok3 => ?_, fun _ _ _ _ _ _ z => by cases z⟩
        obtain ⟨b, rfl, hb3⟩ := boolV (A := fun b => match b with
          | true => ev D.X Γ elt env' h3 (fun v h => fV v fun v => if acc.length < sizeLine then lcL (lcT D.X Γ elt t (.some c) env) (xs.drop (i + 1)) (v :: acc) (acc.length + 1) h (fun ys h => k (.lst ys) h) else false) noX
          | false => lcL (lcT D.X Γ elt t (.some c) env) (xs.drop (i + 1)) acc acc.length h3 (fun ys h => k (.lst ys) h)) hk3
        refine ⟨b, rfl, ?_⟩
        cases b with
        | true => exact elt_ e3 ok3 (er'.ext e3) hb3
        | false =>
          obtain ⟨z1, z2, z3, z4⟩ := keep e3
          exact ⟨g3, h3, acc, vs, by omega, ex.trans (e2.trans e3), ok3, z1, z2, z3, z4, hb3⟩
    · left
      have ei : i = xs.length := by omega
      refine ⟨jr.stop i g' h' H' ei ex.up ok, ?_⟩
      rw [List.drop_eq_nil_of_le (by omega)] at hc
      have hc' : k (.lst acc.reverse) h' = true := hc
      have h0 : H Dl = none := by
        cases q : H Dl with
        | none => rfl
        | some o => exact absurd hD (e1.th Dl (by rw [q]; simp))
      exact pv _ _ _ _ _ _ hc' (e1.trans ex) ok h0 hl hr hf hu
/-! two clauses -/
/-- all but one object -/
def rem (H : Hp) (p : Addr) : Hp := fun a => if a = p then none else H a
theorem rem_at {H : Hp} {p : Addr} : rem H p p = none := if_pos rfl
theorem rem_ne {H : Hp} {p a : Addr} (h : a ≠ p) : rem H p a = H a := if_neg h
theorem rem_some {H : Hp} {p a : Addr} {o : HO} (h : rem H p a = some o) : a ≠ p ∧ H a = some o := by
  by_cases q : a = p
  · rw [q, rem_at] at h; cases h
  · rw [rem_ne q] at h; exact ⟨q, h⟩
theorem ex_rem0 {g : Gs} {H : Hp} {p : Addr} : Ex g (rem H p) g H :=
  ⟨fun _ _ e => e, fun _ _ e => e, ⟨rfl, rfl, rfl⟩, fun _ _ e _ => (rem_some e).2, fun a e => by
    cases q : rem H p a with
    | none => exact absurd q e
    | some o => rw [(rem_some q).2]; simp, fun _ e => .inl e, fun _ _ e => .inl e⟩
theorem ex_rem {g1 g3 g4 : Gs} {H1 H3 H4 : Hp} {p : Addr} (a : Ex g1 H1 g3 H3) (hp : H1 p = none) (b : Ex g3 (rem H3 p) g4 H4) : Ex g1 H1 g4 H4 where
  ff := fun x o e => b.ff x o (a.ff x o e)
  uu := fun x u e => b.uu x u (a.uu x u e)
  cl := ⟨b.cl.1.trans a.cl.1, b.cl.2.1.trans a.cl.2.1, b.cl.2.2.trans a.cl.2.2⟩
  hh := fun x o e n => by
    have hx : x ≠ p := fun z => by rw [z, hp] at e; cases e
    refine b.hh x o (by rw [rem_ne hx]; exact a.hh x o e n) ?_
    cases q : g3.U x with
    | none => rfl
    | some u =>
      rcases a.nu x u q with z | z
      · rw [n] at z; cases z
      · rw [e] at z; cases z
  th := fun x e => b.th x (by rw [rem_ne fun z => e (by rw [z]; exact hp)]; exact a.th x e)
  nw := fun x e => by
    rcases b.nw x e with z | z
    · exact a.nw x z
    · refine .inr ?_
      by_cases hx : x = p
      · rw [hx]; exact hp
      · rw [rem_ne hx] at z
        cases q : H1 x with
        | none => rfl
        | some o => exact absurd z (a.th x (by rw [q]; simp))
  nu := fun x u e => by
    rcases b.nu x u e with z | z
    · exact a.nu x u z
    · refine .inr ?_
      by_cases hx : x = p
      · rw [hx]; exact hp
      · rw [rem_ne hx] at z
        cases q : H1 x with
        | none => rfl
        | some o => exact absurd z (a.th x (by rw [q]; simp))
/-- what is owned is there -/
theorem SR.ow_there {ow : Option Addr} {v : Val} {x : L2.V} (r : SR D.K g H ow v x) : (∃ a, ow = some a ∧ H a ≠ none) ∨ ∀ o, SR D.K g H o v x := by
  cases v with
  | mls xs => obtain ⟨a, vs, h1, h2, h3, h4⟩ := r; exact .inl ⟨a, h1, by rw [h3]; simp⟩
  | mcp xs => obtain ⟨a, vs, h1, h2, h3, h4⟩ := r; exact .inl ⟨a, h1, by rw [h3]; simp⟩
  | mob c as fs => obtain ⟨a, C, dx, ns, vs, h1, h2, h3, h4, _⟩ := r; exact .inl ⟨a, h1, by rw [h4]; simp⟩
  | mdc _ _ => exact r.elim
  | exn c fs => exact .inr fun _ => r
  | _ => exact .inr fun _ => r
theorem EnvR.avoid0 (r : EnvR D.K g H P env σ) : EnvR D.K g H (fun a => P a ∧ H a ≠ none) env σ := by
  obtain ⟨l, ow, h1, h2, h3⟩ := r
  have key : ∀ i a, ((ow i).bind fun a => if (H a).isSome then some a else none) = some a → ow i = some a ∧ H a ≠ none := by
    intro i a e
    cases q : ow i with
    | none => rw [q] at e; cases e
    | some c =>
      rw [q] at e
      have e' : (if (H c).isSome then some c else none) = some a := e
      split at e'
      · rename_i z
        cases e'
        exact ⟨rfl, fun w => by rw [w] at z; cases z⟩
      · cases e'
  refine ⟨l, fun i => (ow i).bind fun a => if (H a).isSome then some a else none, fun i j a e1 e2 => h1 i j a (key i a e1).1 (key j a e2).1, fun i a e => ⟨h2 i a (key i a e).1, (key i a e).2⟩, fun i v e => ?_⟩
  obtain ⟨x, e1, e2⟩ := h3 i v e
  refine ⟨x, e1, ?_⟩
  rcases e2.ow_there with ⟨a, z1, z2⟩ | z
  · have t : ((ow i).bind fun a => if (H a).isSome then some a else none) = ow i := by
      rw [z1]
      show (if (H a).isSome then some a else none) = some a
      cases q : H a with
      | none => exact absurd q z2
      | some _ => rfl
    show SR D.K g H ((ow i).bind fun a => if (H a).isSome then some a else none) v x
    rw [t]; exact e2
  · exact z _
/-- a list that no name owns is left out -/
theorem EnvR.rem {Dl : Addr} {ws : List L2.V} (r : EnvR D.K g H P env σ) (hp : ∀ a, P a → a ≠ Dl) (hl : H Dl = some (.lst ws)) : EnvR D.K g (EV.rem H Dl) P env σ := by
  obtain ⟨l, ow, h1, h2, h3⟩ := r
  refine ⟨l, ow, h1, h2, fun i v e => ?_⟩
  obtain ⟨x, e1, e2⟩ := h3 i v e
  refine ⟨x, e1, ?_⟩
  cases v with
  | mls xs =>
    obtain ⟨a, vs, k1, k2, k3, k4⟩ := e2
    exact ⟨a, vs, k1, k2, by rw [rem_ne (hp a (h2 i a k1))]; exact k3, k4⟩
  | mcp xs =>
    obtain ⟨a, vs, k1, k2, k3, k4⟩ := e2
    exact ⟨a, vs, k1, k2, by rw [rem_ne (hp a (h2 i a k1))]; exact k3, k4⟩
  | mob c as fs =>
    obtain ⟨a, C, dx, ns, vs, k1, k2, k3, k4, k5⟩ := e2
    exact ⟨a, C, dx, ns, vs, k1, k2, k3, by rw [rem_ne (hp a (h2 i a k1))]; exact k4, k5⟩
  | mdc _ _ => exact e2.elim
  | exn c fs =>
    obtain ⟨a, C, d, ns, k1, k2, k3, k4⟩ := e2
    refine ⟨a, C, d, ns, k1, k2, k3, ?_⟩
    rcases k4 with z | ⟨dd, vs, z1, z2, z3⟩
    · exact .inl z
    · exact .inr ⟨dd, vs, z1, by rw [rem_ne (fun q => by rw [q, hl] at z2; cases z2)]; exact z2, z3⟩
  | _ => exact e2
structure LxS (D : Dat) (g1 : Gs) (H1 : Hp) (Dl : Addr) (n : Nat) (C : Nat → List Val → Hs → Prop) (i m : Nat) (H' : Hp) : Prop where
  ex : ∃ g' h' acc vs, i + m = n ∧ Ex g1 H1 g' H' ∧ GOk D g' h' H' ∧ H' Dl = some (.lst vs) ∧ VRs D.K g' acc.reverse vs ∧ g'.F Dl = none ∧ g'.U Dl = none ∧ C i acc h'
theorem lx_app {g1 g3 : Gs} {H1 H3 : Hp} {h3 : Hs} {Dl : Addr} {n : Nat} {C : Nat → List Val → Hs → Prop} {i m : Nat} {acc : List Val} {vs : List L2.V} {v : Val} {y : L2.V} {B : Bool} (hm : i + 1 + m = n) (hD : H1 Dl = none)
    (e : Ex g1 H1 g3 H3) (ok : GOk D g3 h3 H3) (hl : H3 Dl = some (.lst vs)) (hr : VRs D.K g3 acc.reverse vs) (hf : g3.F Dl = none) (hu : g3.U Dl = none) (rv : VR D.K g3 v y)
    (hk : (if acc.length < sizeLine then B else false) = true) (hB : B = true → C (i + 1) (v :: acc) h3) :
    ∃ acc', H3 Dl = some (.lst acc') ∧ acc'.length < sizeLine ∧ LxS D g1 H1 Dl n C (i + 1) m (upd H3 Dl (.lst (acc' ++ [y]))) := by
  split at hk
  · rename_i hz
    obtain ⟨m1, m2⟩ := mut_ex (o := .lst (vs ++ [y])) e ok hD hf hu
    refine ⟨vs, hl, by rw [← hr.length, List.length_reverse]; exact hz, ⟨g3, h3, v :: acc, vs ++ [y], hm, m1, m2, upd_same, ?_, hf, hu, hB hk⟩⟩
    rw [List.reverse_cons]
    exact hr.append (.cons rv .nil)
  · cases hk
def lcT2 (X : Txt) (sem : Sem) (elt : EV.E) (t t2 : EV.T) (it2 : EV.I) (ifs : EV.P) (env : EV.Env) : Val → List Val → Hs → (List Val → Hs → Bool) → Bool := fun x acc h kt => stepK (asg t x (wipeE env (tvars t ++ tvars t2))) fun env' =>
  evi X sem it2 env' h (fun ys h => lcL (lcT X sem elt t2 ifs env') ys acc acc.length h fun zs h => kt zs.reverse h) noX
theorem ev_lc2 {X : Txt} {sem : Sem} {elt : EV.E} {t t2 : EV.T} {it it2 : EV.I} {ifs : EV.P} {env : EV.Env} {h : Hs} {k kx : KV} :
    ev X sem (.lc2 elt t it t2 it2 ifs) env h k kx = evi X sem it env h (fun xs h => lcF (lcT2 X sem elt t t2 it2 ifs env) xs [] h fun acc h => k (.lst acc.reverse) h) kx := by
  cases ifs <;> rfl
theorem lc2_t {elt : EV.E} {t t2 : EV.T} {it it2 : EV.I} {ifs : EV.P} : ∀ (σ : L2.St) (H : Hp) (Q : VK), simL0 D Γ W (.lc2 elt t it t2 it2 ifs) σ H Q →
    tLc2 (simI D Γ W it) (simG D t) tYes (simI D Γ WF it2) (simG D t2) (ttOf D Γ ifs) (simE D Γ WF elt) (tvars t ++ tvars t2) (tvars t2) σ H Q := by
  rintro σ H Q ⟨P, g, h, env, k, kx, st, hk, pv, px⟩
  rw [ev_lc2] at hk
  refine ⟨P, g, h, env, _, kx, st, hk, fun xs h1 g1 H1 J hk1 e1 ok1 jr => ?_, px⟩
  intro Dl hD
  have h0 : H Dl = none := by
    cases q : H Dl with
    | none => rfl
    | some o => exact absurd hD (e1.th Dl (by rw [q]; simp))
  have sav := st.er.avoid0
  let C : Nat → List Val → Hs → Prop := fun i acc h => lcF (lcT2 D.X Γ elt t t2 it2 ifs env) (xs.drop i) acc h (fun acc h => k (.lst acc.reverse) h) = true
  refine ⟨LxS D g1 H1 Dl xs.length C, ⟨xs.length, ?_⟩, ?_⟩
  · obtain ⟨m1, m2⟩ := loose_ex (o := .lst []) ok1 hD
    obtain ⟨f1, f2⟩ := ok1.fresh hD
    exact ⟨g1, h1, [], [], Nat.zero_add _, m1, m2, upd_same, .nil, f1, f2, hk1⟩
  · rintro i m H' ⟨g', h', acc, vs, hm, ex, ok, hl, hr, hf, hu, hc⟩
    by_cases hi : i < xs.length
    · right
      obtain ⟨m, rfl⟩ : ∃ m', m = m' + 1 := ⟨m - 1, by omega⟩
      refine ⟨jr.go i g' h' H' hi ex.up ok, LxS D g1 H1 Dl xs.length C (i + 1) m, fun H2 z => ⟨m, Nat.lt_succ_self _, z⟩, fun y H2 hy => ?_⟩
      have hx : xs[i]? = some xs[i] := List.getElem?_eq_getElem hi
      obtain ⟨g2, e2, ok2, r2⟩ := jr.yld i _ g' h' H' y H2 hx ex.up ok hy
      have hc1 : lcF (lcT2 D.X Γ elt t t2 it2 ifs env) (xs.drop i) acc h' (fun acc h => k (.lst acc.reverse) h) = true := hc
      rw [List.drop_eq_getElem_cons hi] at hc1
      have hc' : lcT2 D.X Γ elt t t2 it2 ifs env xs[i] acc h' (fun acc h => lcF (lcT2 D.X Γ elt t t2 it2 ifs env) (xs.drop (i + 1)) acc h (fun acc h => k (.lst acc.reverse) h)) = true := hc1
      obtain ⟨env', ea, hb⟩ := stepK_some hc'
      have er : EnvR D.K g2 H2 (fun a => P a ∧ H a ≠ none) (wipeE env (tvars t ++ tvars t2)) (L2.wipe σ (tvars t ++ tvars t2)) := (((sav.ext e1).ext ex).ext e2).wipe _
      refine ⟨_, g2, h', wipeE env (tvars t ++ tvars t2), xs[i], env', ⟨er, ok2⟩, r2, ea, fun σ' er' sb => ⟨?_, ?_⟩⟩
      · rw [(sb.more fun i hi => List.mem_append_left _ hi).wipe, (wipe_same (tvars t ++ tvars t2) σ).wipe]
      unfold tYes
      dsimp only
      rw [if_pos rfl]
      refine ⟨_, g2, h', env', _, noX, ⟨er', ok2⟩, hb, fun ys h3 g3 H3 J1 hk3 e3 ok3 jr1 => ?_, fun _ _ _ _ _ _ z => by cases z⟩
      let C1 : Nat → List Val → Hs → Prop := fun j acc h => lcL (lcT D.X Γ elt t2 ifs env') (ys.drop j) acc acc.length h (fun zs h => lcF (lcT2 D.X Γ elt t t2 it2 ifs env) (xs.drop (i + 1)) zs.reverse h (fun acc h => k (.lst acc.reverse) h)) = true
      have x3 : Ex g1 H1 g3 H3 := ex.trans (e2.trans e3)
      have hl3 : H3 Dl = some (.lst vs) := (e2.trans e3).hh _ _ hl hu
      refine ⟨LxS D g3 (rem H3 Dl) Dl ys.length C1, ⟨ys.length, ?_⟩, ?_⟩
      · have e := e2.trans e3
        obtain ⟨z1, z2⟩ := e.loose hl hf hu
        exact ⟨g3, h3, acc, vs, Nat.zero_add _, ex_rem0, ok3, hl3, e.vrs hr, z1, z2, hk3⟩
      · rintro j m1 H4 ⟨g4, h4, acc4, vs4, hm4, ex4, ok4, hl4, hr4, hf4, hu4, hc4⟩
        have hc4' : lcL (lcT D.X Γ elt t2 ifs env') (ys.drop j) acc4 acc4.length h4 (fun zs h => lcF (lcT2 D.X Γ elt t t2 it2 ifs env) (xs.drop (i + 1)) zs.reverse h (fun acc h => k (.lst acc.reverse) h)) = true := hc4
        by_cases hj : j < ys.length
        · right
          obtain ⟨m1, rfl⟩ : ∃ m', m1 = m' + 1 := ⟨m1 - 1, by omega⟩
          refine ⟨jr1.go j g4 h4 H4 hj ex4.up ok4, LxS D g3 (rem H3 Dl) Dl ys.length C1 (j + 1) m1, fun H5 z => ⟨m1, Nat.lt_succ_self _, z⟩, fun y5 H5 hy5 => ?_⟩
          have hx5 : ys[j]? = some ys[j] := List.getElem?_eq_getElem hj
          obtain ⟨g5, e5, ok5, r5⟩ := jr1.yld j _ g4 h4 H4 y5 H5 hx5 ex4.up ok4 hy5
          rw [List.drop_eq_getElem_cons hj] at hc4'
          have hc5 : lcT D.X Γ elt t2 ifs env' ys[j] h4 (fun r h' => match r with
            | some v => if acc4.length < sizeLine then lcL (lcT D.X Γ elt t2 ifs env') (ys.drop (j + 1)) (v :: acc4) (acc4.length + 1) h' (fun zs h => lcF (lcT2 D.X Γ elt t t2 it2 ifs env) (xs.drop (i + 1)) zs.reverse h (fun acc h => k (.lst acc.reverse) h)) else false
            | none => lcL (lcT D.X Γ elt t2 ifs env') (ys.drop (j + 1)) acc4 acc4.length h' (fun zs h => lcF (lcT2 D.X Γ elt t t2 it2 ifs env) (xs.drop (i + 1)) zs.reverse h (fun acc h => k (.lst acc.reverse) h))) = true := hc4'
          obtain ⟨env5, ea5, hb5⟩ := stepK_some hc5
          -- from the frame's store on
          have sr : EnvR D.K g5 H5 (fun a => P a ∧ H a ≠ none) (wipeE env' (tvars t2)) (L2.wipe σ' (tvars t2)) := by
            have a1 := (er'.ext e3).rem (Dl := Dl) (fun a z e => z.2 (by rw [e]; exact h0)) hl3
            exact ((a1.ext ex4).ext e5).wipe _
          refine ⟨_, g5, h4, wipeE env' (tvars t2), ys[j], env5, ⟨sr, ok5⟩, r5, ea5, fun σ5 er5 sb5 => ⟨?_, ?_⟩⟩
          · rw [sb5.wipe, (wipe_same (tvars t2) σ').wipe]
          have keep : ∀ {g6 : Gs} {H6 : Hp}, Ex g5 H5 g6 H6 → H6 Dl = some (.lst vs4) ∧ VRs D.K g6 acc4.reverse vs4 ∧ g6.F Dl = none ∧ g6.U Dl = none := fun {g6 H6} e6 => by
            have e := e5.trans e6
            obtain ⟨z1, z2⟩ := e.loose hl4 hf4 hu4
            exact ⟨e.hh _ _ hl4 hu4, e.vrs hr4, z1, z2⟩
          have elt_ : ∀ {g6 : Gs} {h6 : Hs} {H6 : Hp}, Ex g5 H5 g6 H6 → GOk D g6 h6 H6 → EnvR D.K g6 H6 (fun a => P a ∧ H a ≠ none) env5 σ5 →
              ev D.X Γ elt env5 h6 (fun v h => fV v fun v => if acc4.length < sizeLine then lcL (lcT D.X Γ elt t2 ifs env') (ys.drop (j + 1)) (v :: acc4) (acc4.length + 1) h (fun zs h => lcF (lcT2 D.X Γ elt t t2 it2 ifs env) (xs.drop (i + 1)) zs.reverse h (fun acc h => k (.lst acc.reverse) h)) else false) noX = true →
              simE D Γ WF elt σ5 H6 fun y H7 => ∃ acc, H7 Dl = some (.lst acc) ∧ acc.length < sizeLine ∧ LxS D g3 (rem H3 Dl) Dl ys.length C1 (j + 1) m1 (upd H7 Dl (.lst (acc ++ [y]))) :=
            fun {g6 h6 H6} e6 ok6 er6 hk6 => ⟨_, g6, h6, env5, _, _, ⟨er6, ok6⟩, hk6, fun v h7 g7 H7 y7 hk7 e7 ok7 r7 => by
              dsimp only at hk7
              rw [fV_eq] at hk7
              obtain ⟨z1, z2, z3, z4⟩ := keep (e6.trans e7)
              exact lx_app (C := C1) (by omega) rem_at (ex4.trans (e5.trans (e6.trans e7))) ok7 z1 z2 z3 z4 r7 hk7 fun z => z, fun _ _ _ _ _ _ z => by cases z⟩
          cases ifs with
          | no => exact elt_ (Ex.refl _ _) ok5 er5 hb5
          | some c =>
            have hb' : ev D.X Γ c env5 h4 (fun b h => match b with
              | .bl true => ev D.X Γ elt env5 h (fun v h => fV v fun v => if acc4.length < sizeLine then lcL (lcT D.X Γ elt t2 (.some c) env') (ys.drop (j + 1)) (v :: acc4) (acc4.length + 1) h (fun zs h => lcF (lcT2 D.X Γ elt t t2 it2 (.some c) env) (xs.drop (i + 1)) zs.reverse h (fun acc h => k (.lst acc.reverse) h)) else false) noX
              | .bl false => lcL (lcT D.X Γ elt t2 (.some c) env') (ys.drop (j + 1)) acc4 acc4.length h (fun zs h => lcF (lcT2 D.X Γ elt t t2 it2 (.some c) env) (xs.drop (i + 1)) zs.reverse h (fun acc h => k (.lst acc.reverse) h))
              | _ => false) noX = true := hb5
            refine ⟨_, g5, h4, env5, _, _, ⟨er5, ok5⟩, hb', fun v h6 g6 H6 hk6 e6 ok6 => ?_, fun _ _ _ _ _ _ z => by cases z⟩
            obtain ⟨b, rfl, hb6⟩ := boolV (A := fun b => match b with
              | true => ev D.X Γ elt env5 h6 (fun v h => fV v fun v => if acc4.length < sizeLine then lcL (lcT D.X Γ elt t2 (.some c) env') (ys.drop (j + 1)) (v :: acc4) (acc4.length + 1) h (fun zs h => lcF (lcT2 D.X Γ elt t t2 it2 (.some c) env) (xs.drop (i + 1)) zs.reverse h (fun acc h => k (.lst acc.reverse) h)) else false) noX
              | false => lcL (lcT D.X Γ elt t2 (.some c) env') (ys.drop (j + 1)) acc4 acc4.length h6 (fun zs h => lcF (lcT2 D.X Γ elt t t2 it2 (.some c) env) (xs.drop (i + 1)) zs.reverse h (fun acc h => k (.lst acc.reverse) h))) hk6
            refine ⟨b, rfl, ?_⟩
            cases b with
            | true => exact elt_ e6 ok6 (er5.ext e6) hb6
            | false =>
              obtain ⟨z1, z2, z3, z4⟩ := keep e6
              exact ⟨g6, h6, acc4, vs4, by omega, ex4.trans (e5.trans e6), ok6, z1, z2, z3, z4, hb6⟩
        · left
          have ej : j = ys.length := by omega
          refine ⟨jr1.stop j g4 h4 H4 ej ex4.up ok4, ?_⟩
          rw [List.drop_eq_nil_of_le (by omega)] at hc4'
          have hc5 : lcF (lcT2 D.X Γ elt t t2 it2 ifs env) (xs.drop (i + 1)) acc4.reverse.reverse h4 (fun acc h => k (.lst acc.reverse) h) = true := hc4'
          rw [List.reverse_reverse] at hc5
          exact ⟨g4, h4, acc4, vs4, by omega, ex_rem x3 hD ex4, ok4, hl4, hr4, hf4, hu4, hc5⟩
    · left
      have ei : i = xs.length := by omega
      refine ⟨jr.stop i g' h' H' ei ex.up ok, ?_⟩
      have hc1 : lcF (lcT2 D.X Γ elt t t2 it2 ifs env) (xs.drop i) acc h' (fun acc h => k (.lst acc.reverse) h) = true := hc
      rw [List.drop_eq_nil_of_le (by omega)] at hc1
      have hc' : k (.lst acc.reverse) h' = true := hc1
      exact pv _ _ _ _ _ _ hc' (e1.trans ex) ok h0 hl hr hf hu
theorem sd_lc (G : Gd D T Γ N sc n W X) {elt : EV.E} {t : EV.T} {it : EV.I} {ifs : EV.P} {py : Expr} (h : chkE T N sc (.lc elt t it ifs) py = true)
    (ihi : ∀ tg p, chkI T N sc it tg p = true → PI X tg p (simI D Γ W it))
    (ihe : ∀ (sc' : Scope) (W' : WX) (X' : Cx), Gd D T Γ N sc' n W' X' → ∀ p, chkE T N sc' elt p = true → Sd D Γ W' X' elt p)
    (ihc : ∀ c, ifs = .some c → ∀ (sc' : Scope) (W' : WX) (X' : Cx), Gd D T Γ N sc' n W' X' → ∀ p, chkE T N sc' c p = true → Sd D Γ W' X' c p) : Sd D Γ W X (.lc elt t it ifs) py := by
  unfold chkE at h
  split at h
  · rename_i pelt ptg pit pifs scope pos
    simp only [Bool.and_eq_true] at h
    obtain ⟨⟨⟨⟨⟨h1, h2⟩, h3⟩, h4⟩, h5⟩, h6⟩ := h
    have hts : ∀ (s : Shared) (H : Hp) (C : Addr) (cl : List (Str × Addr)) (fp : List Addr), PTs (X.blk s H scope (compEnvC scope cl C X.env) fp) pifs (ttOf D Γ ifs) := by
      intro s H C cl fp
      split at h6
      · cases ifs with
        | no => exact pts_nil
        | some _ => cases h6
      · cases ifs with
        | no => cases h6
        | some c => exact pts_one (ihc c rfl _ _ _ (gd_blk G scope s H C cl fp) _ h6).pt
      · cases h6
    have A := pe_lc (own := ownOf N t) (pos := pos) G.calm G.hnd (ihi _ _ h3) (by rw [G.eN, G.eSc]; exact blkOk_by h1)
      (fun s H C cl fp => sd_tg (X := X.blk s H scope (compEnvC scope cl C X.env) fp) (sc := scope) G.eN G.nd G.calm G.eK (loc_blk G scope s H C cl fp) t ptg h2) hts (fun s H C cl fp => (ihe _ _ _ (gd_blk G scope s H C cl fp) _ h5).pe) (tame_fold h4 X.env)
    rw [tvars_own] at A
    exact sd_of (PE.weak A fun σ H Q z => lc_t σ H Q (simE_L0 z)) rfl
  · cases h
theorem sd_lc2 (G : Gd D T Γ N sc n W X) {elt : EV.E} {t t2 : EV.T} {it it2 : EV.I} {ifs : EV.P} {py : Expr} (h : chkE T N sc (.lc2 elt t it t2 it2 ifs) py = true)
    (ihi : ∀ tg p, chkI T N sc it tg p = true → PI X tg p (simI D Γ W it))
    (ihi2 : ∀ (sc' : Scope) (W' : WX) (X' : Cx), Gd D T Γ N sc' n W' X' → ∀ tg p, chkI T N sc' it2 tg p = true → PI X' tg p (simI D Γ W' it2))
    (ihe : ∀ (sc' : Scope) (W' : WX) (X' : Cx), Gd D T Γ N sc' n W' X' → ∀ p, chkE T N sc' elt p = true → Sd D Γ W' X' elt p)
    (ihc : ∀ c, ifs = .some c → ∀ (sc' : Scope) (W' : WX) (X' : Cx), Gd D T Γ N sc' n W' X' → ∀ p, chkE T N sc' c p = true → Sd D Γ W' X' c p) :
    PE X py (tLc2 (simI D Γ W it) (simG D t) tYes (simI D Γ WF it2) (simG D t2) (ttOf D Γ ifs) (simE D Γ WF elt) (tvars t ++ tvars t2) (tvars t2)) ∧
    ∀ (i : Nat) (y : Str) (ty spos : Pos), X.N[i]? = some y → X.env.scope.names.lookup y = some .local → swapsWith py (some (.Name y ty)) spos.line X.env = pure true →
      PS X (.Assign [.Name y ty] py spos) (tAsg (tLc2 (simI D Γ W it) (simG D t) tYes (simI D Γ WF it2) (simG D t2) (ttOf D Γ ifs) (simE D Γ WF elt) (tvars t ++ tvars t2) (tvars t2)) (gName i)) := by
  unfold chkE at h
  split at h
  · rename_i pelt ptg pit ptg2 pit2 pifs scope pos
    simp only [Bool.and_eq_true] at h
    obtain ⟨⟨⟨⟨⟨⟨⟨⟨h1, h2⟩, h3⟩, h4⟩, h7⟩, h8⟩, h9⟩, h5⟩, h6⟩ := h
    have hts : ∀ (s : Shared) (H : Hp) (C : Addr) (cl : List (Str × Addr)) (fp : List Addr), PTs (X.blk s H scope (compEnvC scope cl C X.env) fp) pifs (ttOf D Γ ifs) := by
      intro s H C cl fp
      split at h6
      · cases ifs with
        | no => exact pts_nil
        | some _ => cases h6
      · cases ifs with
        | no => cases h6
        | some c => exact pts_one (ihc c rfl _ _ _ (gd_blk G scope s H C cl fp) _ h6).pt
      · cases h6
    have hv : ∀ i ∈ tvars t2, i ∈ (ownOf N t ++ ownOf N t2).map (·.2) := fun i hi => by
      rw [List.map_append, tvars_own, tvars_own]; exact List.mem_append_right _ hi
    have ow : (ownOf N t ++ ownOf N t2).map (·.2) = tvars t ++ tvars t2 := by rw [List.map_append, tvars_own, tvars_own]
    constructor
    · have A := pe_lc2 (own := ownOf N t ++ ownOf N t2) (vs1 := tvars t2) (pos := pos) G.calm G.hnd (ihi _ _ h3) (by rw [G.eN, G.eSc]; exact blkOk_by h1) hv
        (fun s H C cl fp => sd_tg (X := X.blk s H scope (compEnvC scope cl C X.env) fp) (sc := scope) G.eN G.nd G.calm G.eK (loc_blk G scope s H C cl fp) t ptg h2) (fun s H C cl fp => pts_nil)
        (fun s H C cl fp => ihi2 _ _ _ (gd_blk G scope s H C cl fp) _ _ h8)
        (fun s H C cl fp => sd_tg (X := X.blk s H scope (compEnvC scope cl C X.env) fp) (sc := scope) G.eN G.nd G.calm G.eK (loc_blk G scope s H C cl fp) t2 ptg2 h7) hts (fun s H C cl fp => (ihe _ _ _ (gd_blk G scope s H C cl fp) _ h5).pe) (tame_fold h4 X.env) (fun env => tame_fold h9 env)
      rw [ow] at A
      exact A
    · intro i y ty spos hy hyl hsw
      have A := ps_setLc2 (own := ownOf N t ++ ownOf N t2) (vs1 := tvars t2) (pos := pos) G.calm G.hnd hy hyl hsw (ihi _ _ h3) (by rw [G.eN, G.eSc]; exact blkOk_by h1) hv
        (fun s H C cl fp => sd_tg (X := X.blk s H scope (compEnvC scope cl C X.env) fp) (sc := scope) G.eN G.nd G.calm G.eK (loc_blk G scope s H C cl fp) t ptg h2) (fun s H C cl fp => pts_nil)
        (fun s H C cl fp => ihi2 _ _ _ (gd_blk G scope s H C cl fp) _ _ h8)
        (fun s H C cl fp => sd_tg (X := X.blk s H scope (compEnvC scope cl C X.env) fp) (sc := scope) G.eN G.nd G.calm G.eK (loc_blk G scope s H C cl fp) t2 ptg2 h7) hts (fun s H C cl fp => (ihe _ _ _ (gd_blk G scope s H C cl fp) _ h5).pe) (tame_fold h4 X.env) (fun env => tame_fold h9 env)
      rw [ow] at A
      exact A
  · cases h
end
end EV
namespace EV
open PySem PySem.Spec PyProof.Rows L2

section
variable {D : Dat} {T : Tab} {Γ : Sem} {N : List Str} {sc : Scope} {n : Nat} {W : WX} {X : Cx}
variable {g g' : Gs} {H H' : Hp} {h h' : Hs} {P : Addr → Prop} {env : EV.Env} {σ : L2.St}
/-- expressions one by one -/
def Pes (D : Dat) (Γ : Sem) (W : WX) (X : Cx) : Es → List Expr → Prop
  | .nil, [] => True
  | .cons e es, p :: ps => Sd D Γ W X e p ∧ Pes D Γ W X es ps
  | _, _ => False
theorem pes_pa : ∀ {es : Es} {ps : List Expr}, Pes D Γ W X es ps → allTame ps = true → PA X ps (simA D Γ W es)
  | .nil, [], _, _ => sd_nilA (T := ⟨fun _ => none, fun _ => [], fun _ => none, fun _ => none, fun _ => "", fun _ => none, fun _ => none, false, fun _ => []⟩) (N := []) (sc := ⟨.function, [], false, false, []⟩) (by unfold chkEs; rfl)
  | .cons e es, p :: ps, h, ht => by
    unfold allTame at ht
    rw [List.all_cons, Bool.and_eq_true] at ht
    refine PA.weak (pa_cons h.1.pe (pes_pa h.2 ht.2) (tame_star ht.1 _ _)) ?_
    rintro σ H Q ⟨P, g, h, env, k, kx, st, hk, pv, px⟩
    refine seqE st hk px fun v h1 g1 H1 x hk1 e1 st1 px1 r1 => ?_
    rw [fV_eq] at hk1
    refine seqA st1 hk1 px1 fun vs h2 g2 H2 xs hk2 e2 st2 px2 r2 => ?_
    exact pv (v :: vs) h2 g2 H2 (x :: xs) hk2 (e1.trans e2) st2.ok (.cons (e2.vr r1) r2)
  | .nil, _ :: _, h, _ => h.elim
  | .cons _ _, [], h, _ => h.elim
/-! calls with keywords -/
theorem pes_pk : ∀ {es : Es} {kws : List Keyword}, Pes D Γ W X es (kws.map kwVal) → PK X kws (simA D Γ W es)
  | .nil, [], _ => ⟨fun pos pins s σ H Q I q => by
      obtain ⟨P, g, h, env, k, kx, st, hk, pv, px⟩ := q
      exact pk_nil.run pos pins s σ H Q I (pv [] h g H [] hk (Ex.refl _ _) st.ok .nil)⟩
  | .cons e es, ⟨nm, p, kp⟩ :: kws, h => ⟨fun pos pins s σ H Q I q => by
      refine (pk_cons (nm := nm) (kpos := kp) h.1.pe (pes_pk h.2)).run pos pins s σ H Q I ?_
      obtain ⟨P, g, h, env, k, kx, st, hk, pv, px⟩ := q
      refine seqE st hk px fun v h1 g1 H1 x hk1 e1 st1 px1 r1 => ?_
      rw [fV_eq] at hk1
      refine seqA st1 hk1 px1 fun vs h2 g2 H2 xs hk2 e2 st2 px2 r2 => ?_
      exact pv (v :: vs) h2 g2 H2 (x :: xs) hk2 (e1.trans e2) st2.ok (.cons (e2.vr r1) r2)⟩
  | .nil, _ :: _, h => h.elim
  | .cons _ _, [], h => h.elim
theorem kw_names : ∀ (kws : List Keyword) (ns : List Str) (pos : Pos) (env : PySem.Env), kws.map kwNm = ns.map some →
    (backToKw pos (keywordEach kws env)).all (·.1.isSome) = true ∧ (backToKw pos (keywordEach kws env)).filterMap (·.1) = ns ∧ (backToKw pos (keywordEach kws env)).any (·.1.isNone) = false
  | [], [], pos, env, _ => ⟨rfl, rfl, rfl⟩
  | [], _ :: _, _, _, h => by cases h
  | ⟨nm, p, kp⟩ :: kws, [], _, _, h => by cases h
  | ⟨nm, p, kp⟩ :: kws, m :: ns, pos, env, h => by
    rw [List.map_cons, List.map_cons, List.cons.injEq] at h
    obtain ⟨h1, h2⟩ := h
    obtain ⟨k1, k2, k3⟩ := kw_names kws ns pos env h2
    have h1' : nm = some m := h1
    subst h1'
    unfold backToKw at k1 k2 k3 ⊢
    exact ⟨by show (true && _) = true; rw [k1]; rfl, by show m :: _ = m :: ns; rw [k2], by show (false || _) = false; rw [k3]; rfl⟩
theorem run_fnNS {CX : CXT} {k n : Nat} {f : Addr} {fd : FuncData} {ps ks : List Str} {sp : Sp} {gg : List Value → List Value → List Value} {gV : List L2.V → List L2.V → List L2.V} {E : XK} {pins : List (Addr × Obj)} {σ : L2.St} {H : Hp} {s : Shared} {Q : VK} {us ws : List Value} {vs zs : List L2.V}
    (F : FnOk X.prog X.w X.K X.mg X.base CX k f fd ps sp) (hr : Room k X.A) (hb : KBn X.K fd ps n ks gg gV) (hx : PassesAt CX X σ E)
    (I : Inv X pins σ H s) (r : Vals vs us) (rz : Vals zs ws) (l1 : vs.length = n) (l2 : zs.length = ks.length) (h : sp (gV vs zs) H Q E) : wpAny (model X.prog X.w) X.A (call (.ref f) us (ks.zip ws)) (EP X pins σ Q) X.xe s := by
  have r2 := hb.rel r rz
  have run := F.run X.A X.stack s H ⟨us, ks.zip ws⟩ (gg us ws) (gV vs zs) Q E hr I.env0 (hb.to s us ws I.kIn (r.length.symm.trans l1) (rz.length.symm.trans l2)) r2 h
  exact wpAny_call (codeAny_mono run fun res s' hq => match res with
    | .error e => hx pins H s e s' I hq
    | .ok (.ret _) => I.after hq
    | .ok .next => False.elim hq
    | .ok .brk => False.elim hq
    | .ok .cont => False.elim hq)
def tCallNS (n m : Nat) (sp : Sp) (gV : List L2.V → List L2.V → List L2.V) (E : L2.St → XK) (t tk : TA) : TE := fun σ H Q => t σ H fun vs H1 => tk σ H1 fun zs H2 => vs.length = n ∧ zs.length = m ∧ sp (gV vs zs) H2 Q (E σ)
theorem pe_callNS {CX : CXT} {k n : Nat} {f : Addr} {fd : FuncData} {pars ks : List Str} {sp : Sp} {gg : List Value → List Value → List Value} {gV : List L2.V → List L2.V → List L2.V} {E : L2.St → XK} {x : Str} {p pos : Pos} {e : Expr} {es : List Expr} {kws : List Keyword} {t tk : TA}
    (F : FnOk X.prog X.w X.K X.mg X.base CX k f fd pars sp) (hr : Room k X.A) (hg : Gl X x) (hm : X.mg x = some (.ref f)) (hk : PySem.W.keepIn X.K (.ref f) = true) (hb : KBn X.K fd pars n ks gg gV) (hx : ∀ σ, PassesAt CX X σ (E σ))
    (ha : PA X (e :: es) t) (ht : allTame (e :: es) = true) (hkw : PK X kws tk) (hks : kws.map kwNm = ks.map some) (hdb : (x == ("__debug__" : Str)) = false) : PE X (.Call (.Name x p) (e :: es) kws pos) (tCallNS n ks.length sp gV E t tk) := by
  obtain ⟨k1, k2, k3⟩ := kw_names kws ks pos X.env hks
  refine ⟨fun pins s σ H Q I h => wpAny_Call_Name_kw (ld_glob I hg hm ?_ hdb)⟩
  have ht' := ht
  unfold allTame at ht'
  rw [List.all_cons, Bool.and_eq_true] at ht'
  refine PySem.W.callWith_KW (h₀ := X.base) I.ok.mod.kin hk k1 (thn (ha.run pos pins s σ H _ I h) fun us s1 ⟨vs, H1, I1, r, q⟩ => ?_) (by rw [tame_plain ht, k3]; rfl) (tame_star ht'.1 _ _)
  refine thn (hkw.run pos pins s1 σ H1 _ I1 q) fun ws s2 ⟨zs, H2, I2, rz, l1, l2, q2⟩ => ⟨I2.kIn, ?_⟩
  rw [k2]
  exact run_fnNS F hr hb (hx σ) I2 r rz l1 l2 q2
theorem pe_call0NS {CX : CXT} {k n : Nat} {f : Addr} {fd : FuncData} {pars ks : List Str} {sp : Sp} {gg : List Value → List Value → List Value} {gV : List L2.V → List L2.V → List L2.V} {E : L2.St → XK} {x : Str} {p pos : Pos} {kws : List Keyword} {tk : TA}
    (F : FnOk X.prog X.w X.K X.mg X.base CX k f fd pars sp) (hr : Room k X.A) (hg : Gl X x) (hm : X.mg x = some (.ref f)) (hk : PySem.W.keepIn X.K (.ref f) = true) (hb : KBn X.K fd pars n ks gg gV) (hx : ∀ σ, PassesAt CX X σ (E σ))
    (hkw : PK X kws tk) (hks : kws.map kwNm = ks.map some) (hdb : (x == ("__debug__" : Str)) = false) : PE X (.Call (.Name x p) [] kws pos) (tCallNS n ks.length sp gV E tNil tk) := by
  obtain ⟨k1, k2, k3⟩ := kw_names kws ks pos X.env hks
  refine ⟨fun pins s σ H Q I h => wpAny_Call_Name_kw (ld_glob I hg hm ?_ hdb)⟩
  refine PySem.W.callWith_KW0 (h₀ := X.base) I.ok.mod.kin hk k1 ?_ (by rw [k3]; rfl)
  refine thn (hkw.run pos pins s σ H _ I h) fun ws s2 ⟨zs, H2, I2, rz, l1, l2, q2⟩ => ⟨I2.kIn, ?_⟩
  rw [k2]
  exact run_fnNS F hr hb (hx σ) I2 .nil rz l1 l2 q2
theorem VRs.pick {K : PySem.W.Frag} : ∀ {xs : List Val} {vs : List L2.V} (pm : List Nat), VRs K g xs vs → VRs K g (pm.map fun j => xs.getD j .non) (pm.map fun j => vs.getD j .non)
  | _, _, [], _ => .nil
  | xs, vs, j :: pm, r => by
    refine .cons ?_ (VRs.pick pm r)
    by_cases hj : j < xs.length
    · have e := List.getElem?_eq_getElem hj
      obtain ⟨v, e1, e2⟩ := r.get e
      show VR K g (xs.getD j .non) (vs.getD j .non)
      rw [List.getD_eq_getElem?_getD, List.getD_eq_getElem?_getD, e, e1]
      exact e2
    · have e1 : xs[j]? = none := List.getElem?_eq_none (by omega)
      have e2 : vs[j]? = none := List.getElem?_eq_none (by rw [← r.length]; omega)
      show VR K g (xs.getD j .non) (vs.getD j .non)
      rw [List.getD_eq_getElem?_getD, List.getD_eq_getElem?_getD, e1, e2]
      exact .non
theorem pes_len2 : ∀ {es : Es} {ps : List Expr}, Pes D Γ W X es ps → es.len = ps.length
  | .nil, [], _ => rfl
  | .cons e es, p :: ps, h => by
    show es.len + 1 = ps.length + 1
    rw [pes_len2 h.2]
  | .nil, _ :: _, h => h.elim
  | .cons _ _, [], h => h.elim
theorem sd_callK (G : Gd D T Γ N sc n W X) {f : Nat} {es ks : Es} {ns : List Str} {pm : List Nat} {py : Expr} (h : chkE T N sc (.callK f es ks ns pm) py = true)
    (ihs : ∀ ps, chkEs T N sc es ps = true → Pes D Γ W X es ps) (ihk : ∀ ps, chkEs T N sc ks ps = true → Pes D Γ W X ks ps) : Sd D Γ W X (.callK f es ks ns pm) py := by
  unfold chkE at h
  split at h
  · rename_i x p ps kws pos
    simp only [Bool.and_eq_true, decide_eq_true_eq] at h
    obtain ⟨⟨⟨⟨⟨⟨⟨⟨h1, h2⟩, h3⟩, h4⟩, h5⟩, h6⟩, h6'⟩, h7⟩, h8⟩ := h
    obtain ⟨fa, fd, m1, m2, m3, F, kwb⟩ := (G.fns.fn f x h1).ex
    have F' := G.fnX (f := f) (fa := 0) F
    have kb := kwb _ h8
    unfold KwB at kb
    rw [G.mgD] at m1
    rw [G.eK] at m2 kb
    have key : ∀ {σ H Q}, simE D Γ W (.callK f es ks ns pm) σ H Q → tCallNS ps.length ns.length (spF D Γ f (T.pars f).length) (fun vs zs => pm.map fun j => (vs ++ zs).getD j .non) (WE W) (simA D Γ W es) (simA D Γ W ks) σ H Q := by
      rintro σ H Q ⟨P, g, h, env, k, kx, st, hk, pv, px⟩
      refine ⟨P, g, h, env, _, kx, st, hk, fun vs h1' g1 H1 xs hk1 e1 ok1 r1 => ?_, px⟩
      have st1 := st.ext e1 ok1
      refine ⟨P, g1, h1', env, _, kx, st1, hk1, fun us h2' g2 H2 ys hk2 e2 ok2 r2 => ?_, px.ext e1⟩
      have hk2' : (if vs.length = es.len ∧ us.length = ns.length then Γ f (pm.map fun j => (vs ++ us).getD j .non) h2' k kx else false) = true := hk2
      split at hk2'
      · rename_i hl
        refine ⟨by rw [← r1.length, hl.1, pes_len2 (ihs _ h5)], by rw [← r2.length, hl.2], ?_⟩
        exact call_sp (es := es) G h1 st pv px hk2' (e1.trans e2) (st1.ext e2 ok2) (VRs.pick pm ((e2.vrs r1).append r2))
      · cases hk2'
    have hd := (plainN_d h3).1
    cases ps with
    | nil =>
      refine sd_of (PE.weak (pe_call0NS F' G.room (G.gl h2) m1 m2 kb (fun σ => passAt G.tk σ) (pes_pk (ihk _ h7)) h6 hd) fun σ H Q z => ?_) rfl
      have z' := key z
      obtain ⟨P, g, h, env, k, kx, st, hk, pv, px⟩ := z'
      cases es with
      | nil => exact pv [] h g H [] hk (Ex.refl _ _) st.ok .nil
      | cons _ _ => exact (ihs _ h5).elim
    | cons e r =>
      exact sd_of (PE.weak (pe_callNS F' G.room (G.gl h2) m1 m2 kb (fun σ => passAt G.tk σ) (pes_pa (ihs _ h5) h4) h4 (pes_pk (ihk _ h7)) h6 hd) fun σ H Q z => key z) rfl
  · cases h
/-! {k: v, ..}[i] -/
def trsOf (D : Dat) (Γ : Sem) (W : WX) : List Str → Es → List (TE × TE)
  | k :: ks, .cons e es => (tC (.str k), simE D Γ W e) :: trsOf D Γ W ks es
  | _, _ => []
theorem pps_of {pos : Pos} : ∀ (es : Es) (ks : List Str) (keys : List (Option Expr)) (values : List Expr), keysB ks keys = true → Pes D Γ W X es values → ks.length = values.length → PPs X pos keys values (trsOf D Γ W ks es)
  | .nil, ks, keys, values, h1, h2, h3 => by
    cases values with
    | cons _ _ => exact h2.elim
    | nil =>
      cases ks with
      | cons _ _ => cases h3
      | nil =>
        cases keys with
        | nil => exact pps_nil
        | cons _ _ => cases h1
  | .cons e es, ks, keys, values, h1, h2, h3 => by
    cases values with
    | nil => exact h2.elim
    | cons v vs =>
      cases ks with
      | nil => cases h3
      | cons k ks =>
        unfold keysB at h1
        split at h1
        · rename_i e1; cases e1
        · rename_i e1
          cases e1
          rw [Bool.and_eq_true, decide_eq_true_eq] at h1
          obtain ⟨rfl, h1⟩ := h1
          exact pps_cons pe_str h2.1.pe (pps_of es _ _ vs h1 h2.2 (by simpa using h3))
        · cases h1
theorem pes_len : ∀ {es : Es} {ps : List Expr}, Pes D Γ W X es ps → ∀ {h : Hs} {K : KVs} {kx : KV}, True → True
  | _, _, _, _, _, _, _ => trivial
theorem pairs_read : ∀ (es : Es) (ks : List Str) (values : List Expr), Pes D Γ W X es values → ks.length = values.length → ∀ {g : Gs} {h : Hs} {H : Hp} {K : KVs} {kx : KV} {Q : List (L2.V × L2.V) → Hp → Prop}, Sta D P g h H env σ → evs D.X Γ es env h K kx = true → PostX D W σ g H kx →
    (∀ xs h' g' H' vs, K xs h' = true → Ex g H g' H' → GOk D g' h' H' → VRs D.K g' xs vs → xs.length = ks.length → Q ((ks.map L2.V.str).zip vs) H') → tPairs (trsOf D Γ W ks es) σ H Q
  | .nil, ks, values, hp, hl, g, h, H, K, kx, Q, st, hk, px, q => by
    cases values with
    | cons _ _ => exact hp.elim
    | nil =>
      cases ks with
      | cons _ _ => cases hl
      | nil => exact q [] h g H [] hk (Ex.refl _ _) st.ok .nil rfl
  | .cons e es, ks, values, hp, hl, g, h, H, K, kx, Q, st, hk, px, q => by
    cases values with
    | nil => exact hp.elim
    | cons v vs =>
      cases ks with
      | nil => cases hl
      | cons k ks =>
        refine seqE st hk px fun x h1 g1 H1 y hk1 e1 st1 px1 r1 => ?_
        rw [fV_eq] at hk1
        exact pairs_read es ks vs hp.2 (by simpa using hl) st1 hk1 px1 fun xs h2 g2 H2 ws hk2 e2 ok2 r2 l2 => q (x :: xs) h2 g2 H2 (y :: ws) hk2 (e1.trans e2) ok2 (.cons (e2.vr r1) r2) (by simp [l2])
/-- the pairs of a display with unlike keys, told by lookup -/
theorem merge_val (ks : List Str) (vs : List L2.V) (hn : ks.Nodup) (s : Str) : ∀ acc : List (L2.Key × L2.V), (∀ k ∈ ks, valV acc (Sum.inr k) = none) →
    valV (mergeK acc ((ks.zip vs).map fun p => (Sum.inr p.1, p.2))) (Sum.inr s) = match valV acc (Sum.inr s) with | some v => some v | none => (ks.zip vs).lookup s := by
  induction ks generalizing vs with
  | nil =>
    intro acc _
    show valV acc (Sum.inr s) = _
    cases valV acc (Sum.inr s) <;> rfl
  | cons k ks ih =>
    intro acc ha
    cases vs with
    | nil =>
      show valV acc (Sum.inr s) = _
      cases valV acc (Sum.inr s) <;> rfl
    | cons v vs =>
      rw [List.nodup_cons] at hn
      show valV (mergeK (putK acc (Sum.inr k) v) ((ks.zip vs).map fun p => (Sum.inr p.1, p.2))) (Sum.inr s) = _
      rw [ih vs hn.2 _ fun j hj => ?_]
      · rw [valV_put]
        have hk := ha k (by simp)
        by_cases e : s = k
        · subst e
          rw [if_pos rfl, hk]
          simp
        · rw [if_neg fun z => e (Sum.inr.inj z)]
          have e2 : (s == k) = false := by simpa using e
          cases valV acc (Sum.inr s) with
          | some _ => rfl
          | none =>
            show _ = List.lookup s ((k, v) :: ks.zip vs)
            rw [List.lookup_cons, e2]
      · rw [valV_put, if_neg fun z => hn.1 (by rw [← Sum.inr.inj z]; exact hj)]
        exact ha j (by simp [hj])
theorem lookup_rel2 {K : PySem.W.Frag} {s : Str} {x : Val} : ∀ {ks : List Str} {xs : List Val} {vs : List L2.V}, VRs K g xs vs → (ks.zip xs).lookup s = some x → ∃ v, (ks.zip vs).lookup s = some v ∧ VR K g x v
  | [], _, _, _, h => by simp at h
  | _ :: _, _, _, .nil, h => by simp at h
  | k :: ks, _, _, .cons (x := a) (v := b) r t, h => by
    rw [List.zip_cons_cons, List.lookup_cons] at h ⊢
    cases q : s == k with
    | true => rw [q] at h; cases h; exact ⟨b, rfl, r⟩
    | false => rw [q] at h; exact lookup_rel2 t h
theorem zip_str : ∀ (ks : List Str) (ws : List L2.V), (ks.map L2.V.str).zip ws = (ks.zip ws).map ((fun kv : L2.Key × L2.V => (kV kv.1, kv.2)) ∘ fun q => (Sum.inr q.1, q.2))
  | [], _ => rfl
  | _ :: _, [] => rfl
  | k :: ks, w :: ws => by
    show (L2.V.str k, w) :: (ks.map L2.V.str).zip ws = _ :: _
    rw [zip_str ks ws]
    rfl
theorem sd_sel (G : Gd D T Γ N sc n W X) {ks : List Str} {vs : Es} {i : EV.E} {py : Expr} (h : chkE T N sc (.sel ks vs i) py = true)
    (ihs : ∀ ps, chkEs T N sc vs ps = true → Pes D Γ W X vs ps) (ihi : ∀ p, chkE T N sc i p = true → Sd D Γ W X i p) : Sd D Γ W X (.sel ks vs i) py := by
  unfold chkE at h
  split at h
  · rename_i keys values dpos pi pos
    simp only [Bool.and_eq_true, decide_eq_true_eq, Bool.not_eq_true'] at h
    obtain ⟨⟨⟨⟨⟨⟨⟨h1, h2⟩, h3⟩, h4⟩, h5⟩, h6⟩, h7⟩, h8⟩ := h
    have hp := ihs _ h7
    have klen : ∀ (ks : List Str) (keys : List (Option Expr)), keysB ks keys = true → keys.length = ks.length ∧ keys.all (·.isSome) = true := by
      intro ks
      induction ks with
      | nil =>
        intro keys h
        cases keys with
        | nil => exact ⟨rfl, rfl⟩
        | cons _ _ => cases h
      | cons k ks ih =>
        intro keys h
        unfold keysB at h
        split at h
        · rename_i e1; cases e1
        · rename_i e1
          cases e1
          rw [Bool.and_eq_true] at h
          obtain ⟨k1, k2⟩ := ih _ h.2
          exact ⟨by simp [k1], by simpa using k2⟩
        · cases h
    obtain ⟨k1, k2⟩ := klen ks keys h1
    have hne : keys ≠ [] := fun z => by
      subst z
      cases ks with
      | nil => cases h4
      | cons _ _ => cases k1
    have A := pe_disp (X := X) (pos := dpos) (pps_of (pos := dpos) vs ks keys values h1 hp h2) k2 (by rw [k1, h2]) hne (by rw [k1]; exact h3)
    refine sd_of (PE.weak (pe_dget (by have := G.un; omega) A (ihi _ h8).pe (tame_ix h6)) ?_) rfl
    rintro σ H Q ⟨P, g, h, env, k, kx, st, hk, pv, px⟩
    have hk' : evs D.X Γ vs env h (fun xs h => ev D.X Γ i env h (fun y h => match y with | .str s => stepK ((ks.zip xs).lookup s) fun v => k v h | _ => false) kx) kx = true := hk
    intro p hn
    obtain ⟨m1, m2⟩ := loose_ex (o := .dK []) st.ok hn
    obtain ⟨np1, np2⟩ := st.ok.fresh hn
    refine pairs_read vs ks values hp h2 (st.ext m1 m2) hk' (px.ext m1) fun xs h1 g1 H1 ws hk1 e1 ok1 r1 l1 => ?_
    have hd : H1 p = some (.dK []) := e1.hh p _ upd_same np2
    refine ⟨hd, (ks.zip ws).map fun q => (Sum.inr q.1, q.2), ?_, by rw [List.length_map, List.length_zip]; omega, ?_⟩
    · rw [List.map_map]; exact zip_str ks ws
    · obtain ⟨f1, f2⟩ : g1.F p = none ∧ g1.U p = none := e1.loose upd_same np1 np2
      obtain ⟨q1, q2⟩ := mut_ex (o := .dK (mergeK [] ((ks.zip ws).map fun q => (Sum.inr q.1, q.2)))) (m1.trans e1) ok1 hn f1 f2
      refine seqE (st.ext q1 q2) hk1 (px.ext q1) fun y h2 g2 H2 z hk2 e2 st2 px2 r2 => ?_
      cases r2 <;> first | (cases hk2; done) | skip
      rename_i s
      obtain ⟨u, eu, hu⟩ := stepK_some hk2
      obtain ⟨v, ev, rv⟩ := lookup_rel2 r1 eu
      have hd2 : H2 p = some _ := e2.hh p _ upd_same f2
      refine ⟨p, v, rfl, ?_, pv _ _ _ _ _ hu (q1.trans e2) st2.ok (e2.vr rv)⟩
      have g := DGet.k (k := Sum.inr s) hd2
      rw [merge_val ks ws h5 s [] fun _ _ => rfl, show valV ([] : List (L2.Key × L2.V)) (Sum.inr s) = none from rfl] at g
      dsimp only at g
      rw [ev] at g
      exact g
  · cases h
end
end EV
namespace EV
open PySem PySem.Spec PyProof.Rows L2

/-! objects that are made and asked -/
section
variable {X : Cx} {CX : CXT} {k : Nat} {f C : Addr} {fd : FuncData} {ps : List Str} {sp : Sp} {x nm : Str} {p pos apos : Pos} {e : Expr} {es : List Expr} {t : TA} {ta : TE}
theorem run_makeS {E : XK} {pins : List (Addr × Obj)} {σ : L2.St} {H : Hp} {s : Shared} {Q : VK} {us : List Value} {vs : List L2.V} (M : Mk X.K C f) (F : FnOk X.prog X.w X.K X.mg X.base CX k f fd ps sp) (hr : Room (k + 1) X.A) (hb : Binds X.K fd ps [])
    (hx : PassesAt CX X σ E) (I : Inv X pins σ H s) (r : Vals vs us)
    (h : ∀ x dx, H x = none → H dx = none → dx ≠ x → sp (.ref x :: vs) (upd (upd H dx (.own x)) x (.ins C dx [])) (fun v H2 => v = .non ∧ Q (.ref x) H2) E) :
    wpAny (model X.prog X.w) X.A (call (.ref C) us) (EP X pins σ Q) X.xe s := by
  have hq := h (s.heap.objs.size + 1) s.heap.objs.size (I.hok.fresh (Nat.le_succ _)) (I.hok.fresh (Nat.le_refl _)) (Nat.ne_of_lt (Nat.lt_succ_self _))
  have I2 := Inv.made (C := C) I
  have r2 : Vals (L2.V.ref (s.heap.objs.size + 1) :: vs) (Value.ref (s.heap.objs.size + 1) :: us) := .cons rfl r
  have hl : ((Value.ref (s.heap.objs.size + 1) :: us) ++ []).length = ps.length := by
    have e := r2.length
    rw [F.len _ _ _ _ hq] at e
    rw [List.append_nil]
    exact e.symm
  have hb2 := hb _ (Value.ref (s.heap.objs.size + 1) :: us) I2.kIn hl
  rw [List.append_nil] at hb2
  refine wpAny_call (make_map (f := f) I.kIn M.makes M.init (beq_iff_eq.mp M.fn) (codeAny_mono (F.run _ X.stack _ _ ⟨Value.ref (s.heap.objs.size + 1) :: us, []⟩ (Value.ref (s.heap.objs.size + 1) :: us) _ _ E (hr.make C us [])
    (I2.env0.make C us []) hb2 r2 hq) fun r s' hq' => ?_))
  cases r with
  | error e => exact hx pins _ _ e s' I2 hq'
  | ok fl =>
    cases fl with
    | ret u =>
      obtain ⟨v, H', I3, rv, ev, q3⟩ := I2.after hq'
      subst ev
      exact ⟨rv, ⟨L2.V.ref (s.heap.objs.size + 1), H', I3, rfl, q3⟩⟩
    | next => exact False.elim hq'
    | brk => exact False.elim hq'
    | cont => exact False.elim hq'
def tMakeS (C : Addr) (sp : Sp) (E : L2.St → XK) (t : TA) : TE := fun σ H Q => t σ H fun vs H1 => ∀ x dx, H1 x = none → H1 dx = none → dx ≠ x → sp (.ref x :: vs) (upd (upd H1 dx (.own x)) x (.ins C dx [])) (fun v H2 => v = .non ∧ Q (.ref x) H2) (E σ)
theorem pe_makeS {E : L2.St → XK} (M : Mk X.K C f) (F : FnOk X.prog X.w X.K X.mg X.base CX k f fd ps sp) (hr : Room (k + 1) X.A) (hg : Gl X x) (hm : X.mg x = some (.ref C)) (hb : Binds X.K fd ps []) (hx : ∀ σ, PassesAt CX X σ (E σ))
    (ha : PA X (e :: es) t) (hdb : (x == ("__debug__" : Str)) = false) (he : starEach (e :: es) X.env = (false, eval e X.env) :: starEach es X.env) (hpl : (backTo pos (starEach es X.env)).any (·.1) = false) :
    PE X (.Call (.Name x p) (e :: es) [] pos) (tMakeS C sp E t) := by
  refine ⟨fun pins s σ H Q I h => ?_⟩
  refine wpAny_Call_Name_kw (ld_glob I hg hm ?_ hdb)
  refine PySem.W.callWith_K (h₀ := X.base) I.ok.mod.kin M.kp (thn (ha.run pos pins s σ H _ I h) fun us s1 ⟨vs, H1, I1, r, q⟩ => ⟨I1.kIn, ?_⟩) he hpl
  exact run_makeS M F hr hb (hx σ) I1 r q
theorem pe_make0S {E : L2.St → XK} (M : Mk X.K C f) (F : FnOk X.prog X.w X.K X.mg X.base CX k f fd ps sp) (hr : Room (k + 1) X.A) (hg : Gl X x) (hm : X.mg x = some (.ref C)) (hb : Binds X.K fd ps []) (hx : ∀ σ, PassesAt CX X σ (E σ))
    (hdb : (x == ("__debug__" : Str)) = false) : PE X (.Call (.Name x p) [] [] pos) (tMakeS C sp E tNil) := by
  refine ⟨fun pins s σ H Q I h => ?_⟩
  refine wpAny_Call_Name_kw (ld_glob I hg hm ?_ hdb)
  exact PySem.W.callWith_K0 I.kIn M.kp (run_makeS (us := []) M F hr hb (hx σ) I .nil h)
/-- e.f: a field, or a property -/
def tAttrO (X : Cx) (nm : Str) (ta : TE) : TE := fun σ H Q => ta σ H fun x H1 => ∃ a C dx fs, x = .ref a ∧ H1 a = some (.ins C dx fs) ∧ Cls X.K C ∧ ((NoAttr X.K C nm ∧ ∃ v, fs.lookup nm = some v ∧ Q v H1) ∨
  ∃ k p gA fd ps sp, PropOf X.K C nm p gA ∧ FnOk X.prog X.w X.K X.mg X.base (L2.CX X.prog X.w) k gA fd ps sp ∧ Room (k + 1) X.A ∧ Binds X.K fd ps [] ∧ sp [.ref a] H1 Q fun _ _ _ => False)
theorem pe_attrO (he : PE X e ta) (hab : attributeBase e nm X.env (eval e X.env) = eval e X.env) : PE X (.Attribute e nm pos) (tAttrO X nm ta) := by
  refine ⟨fun pins s σ H Q I h => ?_⟩
  refine attr_of hab (thn (he.run pins s σ H _ I h) fun u s1 ⟨x, H1, I1, rx, a, C, dx, fs, ex, ea, c, z⟩ => ?_)
  subst ex
  obtain rfl : u = Value.ref a := rx
  rcases z with ⟨n, v, l, q⟩ | ⟨k, p, gA, fd, ps, sp, hp, F, hr, hb, q⟩
  · exact getattr_ok I1 ea c n l fun u' s2 I2 ru => ⟨v, H1, I2, ru, q⟩
  · refine getprop_ok (dvs := []) (ds := []) I1 ea c hp F hr hb .nil (fun pins σ H s e s' I c => ?_) q
    obtain ⟨a, B, H', cls, d, rfl, fl, hok, ub, na, os, ag, hE⟩ := c
    exact hE.elim
end
section
variable {D : Dat} {T : Tab} {Γ : Sem} {N : List Str} {sc : Scope} {n : Nat} {W : WX} {X : Cx}
variable {g g' : Gs} {H H' : Hp} {h h' : Hs} {P : Addr → Prop} {env : EV.Env} {σ : L2.St}
theorem sd_new (G : Gd D T Γ N sc n W X) {f : Nat} {es : Es} {py : Expr} (h : chkE T N sc (.new f es) py = true) (ihs : ∀ ps, chkEs T N sc es ps = true → allTame ps = true → PA X ps (simA D Γ W es)) : Sd D Γ W X (.new f es) py := by
  unfold chkE at h
  split at h
  · rename_i x p ps pos
    simp only [Bool.and_eq_true, decide_eq_true_eq] at h
    obtain ⟨⟨⟨⟨h1, h2⟩, h3⟩, h4⟩, h5⟩ := h
    obtain ⟨k, c, C, fI, fd, pI, en, m1, M, F, m3, ns, hcl⟩ := (G.fns.nwk f x h1).ex
    have hlen := G.fns.nwl
    have room := G.room
    rw [en] at room
    have tk := G.tk
    have gl := G.gl h2
    obtain ⟨CP, Xt, cl, an, rfl⟩ := id G.dat
    refine sd_of (py := .Call (.Name x p) ps [] pos) ?_ rfl
    cases ps with
    | cons e r =>
      have ht := h4
      unfold allTame at ht
      rw [List.all_cons, Bool.and_eq_true] at ht
      refine PE.weak (pe_makeS M F room gl m1 m3 (fun σ => passAt tk σ) (ihs _ h5 h4) (plainN_d h3).1 (tame_star ht.1 _ _) (tame_plain (es := r) ht.2 X.env pos)) ?_
      rintro σ H Q ⟨P, g, h, env, kv, kx, st, hk, pv, px⟩
      refine seqA st hk px fun vs h1' g1 H1 xs hk1 e1 st1 px1 r1 => ?_
      intro y dx hy hdx hne
      exact ⟨y, dx, xs, ns, H1, g1, h1', vs, kv, kx, rfl, by rw [← r1.length]; exact hlen f x vs h1' kv kx h1 hk1, hcl, rfl, hy, hdx, hne, st1.ok, r1, hk1,
        fun v h' g' H' a b c d => ⟨rfl, pv v h' g' H' (.ref y) a (e1.trans b) c d⟩, fun v h' g' H' cls d a b c e => px v h' g' H' cls d a (e1.trans b) c e⟩
    | nil =>
      cases es with
      | cons _ _ => unfold chkEs at h5; cases h5
      | nil =>
        refine PE.weak (pe_make0S M F room gl m1 m3 (fun σ => passAt tk σ) (plainN_d h3).1) ?_
        rintro σ H Q ⟨P, g, h, env, kv, kx, st, hk, pv, px⟩
        intro y dx hy hdx hne
        exact ⟨y, dx, [], ns, H, g, h, [], kv, kx, rfl, hlen f x [] h kv kx h1 hk, hcl, rfl, hy, hdx, hne, st.ok, .nil, hk,
          fun v h' g' H' a b c d => ⟨rfl, pv v h' g' H' (.ref y) a b c d⟩, fun v h' g' H' cls d a b c e => px v h' g' H' cls d a b c e⟩
  · cases h
theorem posOf_at {an : Nat → Str} (inj : ∀ a b, an a = an b → a = b) {a : Nat} : ∀ {os : List Nat} {j i : Nat}, posOf a os j = some i → j ≤ i ∧ a ∈ os ∧ ∀ (vs : List L2.V) v, vs[i - j]? = some v → ((os.map an).zip vs).lookup (an a) = some v
  | [], j, i, h => by cases h
  | b :: r, j, i, h => by
    unfold posOf at h
    split at h
    · rename_i q
      cases h
      rw [beq_iff_eq] at q
      subst q
      refine ⟨Nat.le_refl _, List.mem_cons_self, fun vs v e => ?_⟩
      cases vs with
      | nil => rw [Nat.sub_self] at e; cases e
      | cons w vs =>
        rw [Nat.sub_self] at e
        cases e
        show List.lookup (an a) ((an a, v) :: _) = _
        rw [List.lookup_cons, beq_self_eq_true]
    · rename_i q
      obtain ⟨h1, h2, h3⟩ := posOf_at inj h
      refine ⟨by omega, List.mem_cons_of_mem _ h2, fun vs v e => ?_⟩
      cases vs with
      | nil => simp at e
      | cons w vs =>
        have hne : ¬ an a = an b := fun z => by
          have := inj _ _ z
          rw [this, beq_self_eq_true] at q; cases q
        have e2 : vs[i - (j + 1)]? = some v := by
          rw [show i - j = (i - (j + 1)) + 1 by omega] at e
          exact e
        show List.lookup (an a) ((an b, w) :: _) = _
        rw [List.lookup_cons, beq_eq_false_iff_ne.mpr hne]
        exact h3 vs v e2
theorem sd_attr (G : Gd D T Γ N sc n W X) {a : EV.E} {at_ : Nat} {py : Expr} (h : chkE T N sc (.attr a at_) py = true) (iha : ∀ p, chkE T N sc a p = true → Sd D Γ W X a p) : Sd D Γ W X (.attr a at_) py := by
  unfold chkE at h
  split at h
  · rename_i p name pos
    simp only [Bool.and_eq_true, decide_eq_true_eq] at h
    obtain ⟨⟨⟨hob, h1⟩, h2⟩, h3⟩ := h
    subst h1
    have hobj := G.fns.obj hob
    have han := G.fns.an
    have hinj := G.fns.inj
    have room := G.room
    have ih := iha _ h3
    obtain ⟨CP, Xt, cl, an, rfl⟩ := id G.dat
    have ean : an = T.an := funext han
    subst ean
    refine sd_of (PE.weak (pe_attrO ih.pe (tame_base h2 _ _)) ?_) rfl
    rintro σ H Q ⟨P, g, h, env, k, kx, st, hk, pv, px⟩
    refine seqE st hk px fun v h1 g1 H1 x hk1 e1 st1 px1 r1 => ?_
    unfold attrV at hk1
    split at hk1
    · rename_i c fs
      split at hk1
      · rename_i os hos
        obtain ⟨C, c1, c2, c3, c4, c5, _⟩ := (hobj c os hos).ex
        cases r1 with
        | @obj aa C' dx _ ns _ vs q1 q2 q3 q4 =>
        have q1' : cl c = some (C', ns) := by
          have := st1.ok.cl.1
          rw [this] at q1; exact q1
        have c1' := q1'.symm.trans c1
        simp only [Option.some.injEq, Prod.mk.injEq] at c1'
        obtain ⟨z1, z2⟩ := c1'
        subst z1 z2
        refine ⟨aa, C', dx, _, rfl, st1.ok.fh _ _ q2, c2, ?_⟩
        split at hk1
        · rename_i f hpr
          obtain ⟨k', p', gA, fd, ps, en, hp, F, hb⟩ := (c4 at_ f hpr).ex
          rw [en] at room
          refine .inr ⟨k', p', gA, fd, ps, _, hp, F, room, hb, rfl, g1, h1, [.obj c fs], k, noX, st1.ok, .cons (.obj q1 q2 q3 q4) .nil, hk1, pv.ext e1, fun v h' g' H' cls d z => by cases z⟩
        · obtain ⟨i, hi, hk2⟩ := stepK_some hk1
          obtain ⟨u, hu, hk3⟩ := stepK_some hk2
          obtain ⟨_, k2, k3⟩ := posOf_at hinj hi
          obtain ⟨y, ey, ry⟩ := q4.get hu
          exact .inl ⟨c3 _ k2, y, k3 vs y ey, pv _ _ _ _ _ hk3 e1 st1.ok ry⟩
      · cases hk1
    · cases hk1
  · cases h
theorem sd_isiC (G : Gd D T Γ N sc n W X) {a : EV.E} {c : Nat} {py : Expr} (h : chkE T N sc (.isiC a c) py = true)
    (iha : ∀ p, chkE T N sc a p = true → Sd D Γ W X a p) : Sd D Γ W X (.isiC a c) py := by
  unfold chkE at h
  split at h
  · rename_i fn fp pa x xp pos
    simp only [Bool.and_eq_true, decide_eq_true_eq] at h
    obtain ⟨⟨⟨⟨⟨⟨⟨hob, h1⟩, h2⟩, h3⟩, h4⟩, hpn⟩, h5⟩, h6⟩ := h
    subst h1
    obtain ⟨C, i1, i2, i3⟩ := (G.fns.isc c x h3).ex
    have hobj := G.fns.obj hob
    have ih := iha _ h6
    have gl4 := G.gl h4
    have gl2 := G.gl h2
    have mi := G.mgN (x := "isinstance") (by decide +kernel)
    have eK := G.eK
    obtain ⟨CP, Xt, cl, an, rfl⟩ := id G.dat
    have hx : ∀ pos, PE X (.Name x pos) (tC (.ref C)) := fun pos => pe_glob (v := .ref C) gl4 i1 rfl (plainN_d hpn).1
    refine sd_of (PE.weak (pe_callB call_isi gl2 mi (by decide +kernel) (pa_cons ih.pe (pa_cons (hx _) pa_nil rfl) (tame_star h5 _ _)) (by decide +kernel) (by decide +kernel) (tame_star h5 _ _) rfl) ?_) rfl
    rintro σ H Q ⟨P, g, h, env, k, kx, st, hk, pv, px⟩
    refine seqE st hk px fun v h1 g1 H1 y hk1 e1 st1 px1 r1 => ?_
    obtain ⟨z, ez, hz⟩ := stepK_some hk1
    have fin : ∀ {tv : Value}, TyX X.K H1 y tv → PySem.W.kitOne X.K tv (.ref C) = some z → rIsi X.K [y, .ref C] H1 Q := fun {tv} t1 t2 =>
      ⟨y, .ref C, tv, .ref C, z, rfl, .own C, t1, t2, pv _ _ _ _ _ hz e1 st1.ok (.bl _)⟩
    have tk : ∀ {a : Addr} (vs : List L2.V), SqT X.K g1.F a vs → TyX X.K H1 (.ref a) (.type "tuple") := fun {a} vs s => by
      rcases (SqT.mono st1.ok.fh s : SqT X.K H1 _ _) with (z | ⟨o, z⟩) | ⟨o, its, m, z1, z2, _⟩
      · exact .base (.tup z)
      · exact .fTuple z
      · exact .kTuple z1 z2
    unfold isiCV at ez
    cases r1 with
    | non => cases ez; exact fin (.base .non) (i2 "NoneType" (by simp))
    | bl b => cases ez; exact fin (.base (.bl b)) (i2 "bool" (by simp))
    | int b => cases ez; exact fin (.base (.int b)) (i2 "int" (by simp))
    | str b => cases ez; exact fin (.base (.str b)) (i2 "str" (by simp))
    | tup s rv => cases ez; exact fin (tk _ s.sqT) (i2 "tuple" (by simp))
    | tupk s rv => cases ez
    | lst s rv => cases ez; exact fin (.base (.lst (st1.ok.fh _ _ s))) (i2 "list" (by simp))
    | cup _ => cases ez
    | ref _ => cases ez
    | scr _ _ => cases ez
    | scl _ => cases ez
    | @obj aa C' dx d ns fs vs q1 q2 q3 q4 =>
      dsimp only at ez
      split at ez
      · rename_i os hos
        cases ez
        obtain ⟨C2, c1, c2, c3, c4, c5, c6, c7, c8, c9⟩ := (hobj d os hos).ex
        have q1' : cl d = some (C', ns) := by
          have := st1.ok.cl.1
          rw [this] at q1; exact q1
        have c1' := q1'.symm.trans c1
        simp only [Option.some.injEq, Prod.mk.injEq] at c1'
        obtain ⟨z1, z2⟩ := c1'
        subst z1 z2
        exact fin (.base (.ins (st1.ok.fh _ _ q2) c2 c6 c7 c8 c9)) (i3 d os _ _ hos q1')
      · cases ez
  · cases h
end
end EV
namespace EV
open PySem PySem.Spec PyProof.Rows L2
/-! displays with a star -/
section
variable {D : Dat} {T : Tab} {Γ : Sem} {N : List Str} {sc : Scope} {n : Nat} {W : WX} {X : Cx}
variable {g g' : Gs} {H H' : Hp} {h h' : Hs} {P : Addr → Prop} {env : EV.Env} {σ : L2.St}
theorem rowK_some {v : Val} {k : List Val → Bool} (h : rowK v k = true) : ∃ ys, (v = .tup ys ∨ v = .lst ys) ∧ k ys = true := by
  cases v <;> first | (cases h; done) | exact ⟨_, .inl rfl, h⟩ | exact ⟨_, .inr rfl, h⟩
/-- what is behind the first parts -/
def simSt (D : Dat) (Γ : Sem) (W : WX) (a : EV.E) (post : Es) : TA := fun σ H Q => ∃ P g h env, ∃ (k : KVs) (kx : KV), Sta D P g h H env σ ∧ ev D.X Γ a env h (fun v h => rowK v fun ys => evs D.X Γ post env h (fun zs h => k (ys ++ zs) h) kx) kx = true ∧
  (∀ vs h' g' H' xs, k vs h' = true → Ex g H g' H' → GOk D g' h' H' → VRs D.K g' vs xs → Q xs H') ∧ PostX D W σ g H kx
def simSp (D : Dat) (Γ : Sem) (W : WX) (pre : Es) (a : EV.E) (post : Es) : TA := fun σ H Q => ∃ P g h env, ∃ (k : KVs) (kx : KV), Sta D P g h H env σ ∧ evs D.X Γ pre env h (fun xs h => ev D.X Γ a env h (fun v h => rowK v fun ys => evs D.X Γ post env h (fun zs h => k (xs ++ (ys ++ zs)) h) kx) kx) kx = true ∧
  (∀ vs h' g' H' xs, k vs h' = true → Ex g H g' H' → GOk D g' h' H' → VRs D.K g' vs xs → Q xs H') ∧ PostX D W σ g H kx
theorem pa_st (G : Gd D T Γ N sc n W X) {a : EV.E} {post : Es} {pa : Expr} {pos : Pos} {r : List Expr} (ha : Sd D Γ W X a pa) (hp : Pes D Γ W X post r) (ht : allTame r = true) : PA X (.Starred pa pos :: r) (simSt D Γ W a post) := by
  refine PA.weak (StX.pa_star ha.pe (pes_pa hp ht)) ?_
  rintro σ H Q ⟨P, g, h, env, k, kx, st, hk, pv, px⟩
  refine seqE st hk px fun v h1 g1 H1 x hk1 e1 st1 px1 r1 => ?_
  obtain ⟨ys, hv, hk2⟩ := rowK_some hk1
  rcases hv with rfl | rfl
  · cases r1 with
    | tup s rv =>
      refine ⟨_, _, rfl, .inl (G.eK ▸ SqT.mono st1.ok.fh s.sqT), seqA st1 hk2 px1 fun zs h2 g2 H2 ws hk3 e2 st2 px2 r2 => ?_⟩
      exact pv _ _ _ _ _ hk3 (e1.trans e2) st2.ok ((e2.vrs rv).append r2)
  · cases r1 with
    | lst s rv =>
      refine ⟨_, _, rfl, .inr (SqL.of (st1.ok.fh _ _ s)), seqA st1 hk2 px1 fun zs h2 g2 H2 ws hk3 e2 st2 px2 r2 => ?_⟩
      exact pv _ _ _ _ _ hk3 (e1.trans e2) st2.ok ((e2.vrs rv).append r2)
theorem pa_sp (G : Gd D T Γ N sc n W X) {a : EV.E} {post : Es} {pa : Expr} {pos : Pos} {r : List Expr} (ha : Sd D Γ W X a pa) (hp : Pes D Γ W X post r) (ht : allTame r = true) : ∀ {pre : Es} {ps : List Expr}, Pes D Γ W X pre ps → allTame ps = true → PA X (ps ++ .Starred pa pos :: r) (simSp D Γ W pre a post)
  | .nil, [], _, _ => by
    refine PA.weak (pa_st G ha hp ht) ?_
    rintro σ H Q ⟨P, g, h, env, k, kx, st, hk, pv, px⟩
    exact ⟨P, g, h, env, k, kx, st, hk, pv, px⟩
  | .cons e es, p :: ps, h, hts => by
    unfold allTame at hts
    rw [List.all_cons, Bool.and_eq_true] at hts
    refine PA.weak (pa_cons h.1.pe (pa_sp G ha hp ht h.2 hts.2) (tame_star hts.1 _ _)) ?_
    rintro σ H Q ⟨P, g, h, env, k, kx, st, hk, pv, px⟩
    refine seqE st hk px fun v h1 g1 H1 x hk1 e1 st1 px1 r1 => ?_
    rw [fV_eq] at hk1
    exact ⟨P, g1, h1, env, fun zs h => k (v :: zs) h, kx, st1, hk1, fun vs h2 g2 H2 xs a b c d => pv (v :: vs) h2 g2 H2 (x :: xs) a (e1.trans b) c (.cons (b.vr r1) d), px1⟩
  | .nil, _ :: _, h, _ => h.elim
  | .cons _ _, [], h, _ => h.elim
theorem st_parts {ps : List Expr} {m : Nat} {F : Expr → List Expr → Bool} (h : (match ps.drop m with | .Starred pa _ :: r => F pa r | _ => false) = true) : ∃ pa pos r, ps = ps.take m ++ .Starred pa pos :: r ∧ F pa r = true := by
  split at h
  · rename_i pa pos r e
    exact ⟨pa, pos, r, by rw [← e, List.take_append_drop], h⟩
  · cases h
theorem sd_stup (G : Gd D T Γ N sc n W X) {l : Bool} {pre : Es} {a : EV.E} {post : Es} {py : Expr} (h : chkE T N sc (.stup l pre a post) py = true) (ih1 : ∀ ps, chkEs T N sc pre ps = true → Pes D Γ W X pre ps) (ih2 : ∀ p, chkE T N sc a p = true → Sd D Γ W X a p) (ih3 : ∀ ps, chkEs T N sc post ps = true → Pes D Γ W X post ps) : Sd D Γ W X (.stup l pre a post) py := by
  unfold chkE at h
  split at h
  · rename_i ps kk pos
    simp only [Bool.and_eq_true, Bool.not_eq_true'] at h
    obtain ⟨⟨⟨hl, h1⟩, h2⟩, h3⟩ := h
    subst hl
    obtain ⟨pa, pp, r, e, h4⟩ := st_parts (F := fun pa r => chkE T N sc a pa && allTame r && chkEs T N sc post r) h3
    simp only [Bool.and_eq_true] at h4
    have A := pa_sp G (pos := pp) (ih2 _ h4.1.1) (ih3 _ h4.2) h4.1.2 (ih1 _ h2) h1
    rw [← e] at A
    refine sd_of (PE.weak (pe_tupZ A) ?_) rfl
    rintro σ H Q ⟨P, g, h, env, k, kx, st, hk, pv, px⟩
    refine ⟨P, g, h, env, fun xs h => if xs.length ≤ sizeLine then k (stv false xs) h else false, kx, st, hk, fun vs h1 g1 H1 xs hk1 e1 ok1 r1 => ?_, px⟩
    dsimp only at hk1
    split at hk1
    · rename_i hz
      exact ⟨by rw [← r1.length]; exact hz, fun p o hp hd => (pv.ext e1).newT hk1 ok1 r1 hp hd⟩
    · cases hk1
  · rename_i ps pos
    simp only [Bool.and_eq_true] at h
    obtain ⟨⟨⟨hl, h1⟩, h2⟩, h3⟩ := h
    subst hl
    obtain ⟨pa, pp, r, e, h4⟩ := st_parts (F := fun pa r => chkE T N sc a pa && allTame r && chkEs T N sc post r) h3
    simp only [Bool.and_eq_true] at h4
    have A := pa_sp G (pos := pp) (ih2 _ h4.1.1) (ih3 _ h4.2) h4.1.2 (ih1 _ h2) h1
    rw [← e] at A
    refine sd_of (PE.weak (pe_lst A) ?_) rfl
    rintro σ H Q ⟨P, g, h, env, k, kx, st, hk, pv, px⟩
    refine ⟨P, g, h, env, fun xs h => if xs.length ≤ sizeLine then k (stv true xs) h else false, kx, st, hk, fun vs h1 g1 H1 xs hk1 e1 ok1 r1 => ?_, px⟩
    dsimp only at hk1
    split at hk1
    · rename_i hz
      exact ⟨by rw [← r1.length]; exact hz, fun p hp => (pv.ext e1).newL hk1 ok1 r1 hp⟩
    · cases hk1
  · cases h
end
end EV
namespace EV
open PySem PySem.Spec PyProof.Rows L2

/-! ### a table of the module, looked into by .get(e, i) -/
theorem tab_find {z : Str} : ∀ {l : List DictEntry} {kvs : List (Str × Int)}, l.map entI = kvs.map some → match kvs.lookup z with
    | some i => ∃ e t, l.find? (fun e => Value.isStrOf z e.key) = some e ∧ e.val = .int i t
    | none => l.find? (fun e => Value.isStrOf z e.key) = none
  | [], kvs, h => by
    cases kvs with
    | nil => rfl
    | cons _ _ => cases h
  | e :: l, [], h => by cases h
  | e :: l, (x, i) :: kvs, h => by
    have h1 : entI e :: l.map entI = some (x, i) :: kvs.map some := h
    injection h1 with h2 h3
    have ih := tab_find (z := z) h3
    unfold entI at h2
    split at h2
    · rename_i y t q
      split at h2
      · rename_i j t2 q2
        cases h2
        have is : Value.isStrOf z e.key = (x == z) := by rw [q]; rfl
        by_cases hz : x = z
        · subst hz
          have b1 : (x == x) = true := beq_self_eq_true x
          rw [List.lookup_cons, b1]
          dsimp only
          refine ⟨e, t2, ?_, q2⟩
          rw [List.find?_cons, is, b1]
        · have b1 : (x == z) = false := beq_eq_false_iff_ne.mpr hz
          have b2 : (z == x) = false := beq_eq_false_iff_ne.mpr fun e => hz e.symm
          rw [List.lookup_cons, b2]
          dsimp only
          rw [List.find?_cons, is, b1]
          exact ih
      · cases h2
    · cases h2
def tKGet (K : PySem.W.Frag) (w : World) (to te : TE) (d : Int) : TE := fun σ H Q => to σ H fun x H1 => ∃ a kvs, x = .ref a ∧ KTab K w a kvs ∧ te σ H1 fun y H2 => ∃ z, y = .str z ∧ Q (.int ((kvs.lookup z).getD d)) H2
section
variable {X : Cx} {o e : Expr} {apos cpos p2 : Pos} {kk : Nat} {to te : TE} {d : Int}
theorem pe_kget (hu : X.A.units + 1 < cLine) (ho : PE X o to) (he : PE X e te) (hb : attributeBase o "get" X.env (eval o X.env) = eval o X.env) (hline : (apos.endLine == cpos.line) = true) (hs : ∀ r, starEach (e :: r) X.env = (false, eval e X.env) :: starEach r X.env) :
    PE X (.Call (.Attribute o "get" apos) [e, .Constant (.int d) kk p2] [] cpos) (tKGet X.K X.w to te d) := by
  have st : starEach [e, .Constant (.int d) kk p2] X.env = [(false, eval e X.env), (false, eval (.Constant (.int d) kk p2) X.env)] := by rw [hs]; rfl
  have few : ((backTo cpos (starEach [e, .Constant (.int d) kk p2] X.env)).all (fun x => !x.1) && (backToKw cpos (keywordEach [] X.env)).all (fun x => x.1.isSome) && decide (([e, .Constant (.int d) kk p2] : List Expr).length + ([] : List Keyword).length + (if ([] : List Keyword).isEmpty then 0 else 1) < 30)) = true := by
    rw [st]; rfl
  refine ⟨fun pins s σ H Q I h => ?_⟩
  refine wpAny_Call_method hb few hline PySem.F.plainAttrs_dict PySem.F.slot_dict_get PySem.F.type_dict_get (thn (ho.run pins s σ H _ I h) fun u s1 ⟨x, H1, I1, rx, a, kvs, ex, ⟨es, n, hl, hk, low, hm⟩, q1⟩ => ?_)
  subst ex
  obtain rfl : u = Value.ref a := rx
  have mp := PySem.W.mapOf_K (prog := X.prog) (w := X.w) I1.kIn hl hk
  refine ⟨mp.typeIs, fun b q => ?_, ?_⟩
  · cases q
    exact ⟨_, I1.kIn _ _ hl, rfl⟩
  have pa := (pa_cons he (pa_cons (pe_int (X := X) (i := d) (j := kk) (pos := p2)) pa_nil rfl) (hs _)).run cpos pins s1 σ H1 (fun ys H2 => match ys with
    | [y, y2] => (match y2 with | .int j => ∃ z, y = .str z ∧ Q (.int ((kvs.lookup z).getD j)) H2 | _ => False)
    | _ => False) I1 q1
  rw [st] at pa ⊢
  refine Calls.callWith_builtin rfl (Calls.evalArgs_plain (thn pa fun us s2 ⟨ws, H2, I2, r2, q2⟩ => ?_))
  cases r2 with
  | nil => exact q2.elim
  | cons ry r3 =>
    cases r3 with
    | nil => exact q2.elim
    | cons rd r4 =>
     cases r4 with
     | cons _ _ => exact q2.elim
     | nil =>
      rename_i y2 b2 _
      cases y2 <;> first | exact q2.elim | skip
      rename_i d2
      obtain ⟨z, hz, q2⟩ := q2
      subst hz
      obtain ⟨t, ht⟩ := ry
      subst ht
      have mp2 := PySem.W.mapOf_K (prog := X.prog) (w := X.w) I2.kIn hl hk
      have r := tab_find (z := z) hm
      have val : ∀ dv : Value, RelV (.int d2) dv → RelV (.int ((kvs.lookup z).getD d2)) ((findBy Value.isStrOf es z).getD dv) := fun dv hd => by
        obtain ⟨l⟩ := es
        unfold findBy
        rw [List.find?_toArray]
        cases q : kvs.lookup z with
        | none =>
          rw [q] at r
          rw [show List.find? (fun e => Value.isStrOf z e.key) l = none from r]
          exact hd
        | some i =>
          rw [q] at r
          obtain ⟨e', t2, f1, f2⟩ := r
          rw [show List.find? (fun e => Value.isStrOf z e.key) l = some e' from f1]
          show RelV (.int i) e'.val
          rw [f2]
          exact ⟨t2, rfl⟩
      refine call_meetsIn PySem.F.slot_dict_get mp2.typeIs PySem.F.entry_dict_get (PySem.F.args_dict_get_3 _ _ _) (meets_dict_get_default (prog := X.prog) (w := X.w) (strKind X.prog X.w) a (strKind_is X.prog X.w z t) low _) ⟨_, mp2, ?_⟩
      exact ⟨_, H2, I2.tok _, val _ rd, q2⟩
end
section
variable {D : Dat} {T : Tab} {Γ : Sem} {N : List Str} {sc : Scope} {n : Nat} {W : WX} {X : Cx}
theorem sd_cget (G : Gd D T Γ N sc n W X) {c : Nat} {a : EV.E} {d : Int} {py : Expr} (h : chkE T N sc (.cget c a d) py = true) (iha : ∀ p, chkE T N sc a p = true → Sd D Γ W X a p) : Sd D Γ W X (.cget c a d) py := by
  unfold chkE at h
  split at h
  · rename_i x p1 name apos pa j kk p2 cpos
    simp only [Bool.and_eq_true, decide_eq_true_eq] at h
    obtain ⟨⟨⟨⟨⟨⟨⟨⟨h1, h2⟩, h3⟩, h4⟩, h5⟩, h6⟩, h7⟩, h8⟩, h9⟩ := h
    subst h4 h5
    obtain ⟨ad, kvs, e1, e2, kt⟩ := G.fns.kdc c x h1
    obtain ⟨CP, Xt, cl, an, rfl⟩ := id G.dat
    refine sd_of (PE.weak (pe_kget (by have := G.un2; omega) (pe_glob (v := .ref ad) (G.gl h2) e2 rfl (plainN_d h3).1) (iha _ h9).pe (tame_base (o := .Name x p1) rfl _ _) h6 (fun r => tame_star h8 r _)) ?_) rfl
    rintro σ H Q ⟨P, g, h, env, k, kx, st, hk, pv, px⟩
    have hk' : ev Xt Γ a env h (fun x h => match x with
      | .str s => stepK (Xt.kdict c) fun kvs => k (.int ((kvs.lookup s).getD j)) h
      | _ => false) kx = true := hk
    refine ⟨ad, kvs, rfl, kt, seqE st hk' px fun v h1 g1 H1 y hk1 e1' st1 px1 r1 => ?_⟩
    cases r1 with
    | str z =>
      refine ⟨z, rfl, ?_⟩
      obtain ⟨kv2, q1, q2⟩ := stepK_some hk1
      have q3 : kv2 = kvs := Option.some.inj (q1.symm.trans e1)
      subst q3
      exact pv _ _ _ _ _ q2 e1' st1.ok (.int _)
    | _ => cases hk1
  · cases h
end
end EV
namespace EV
open PySem PySem.Spec PyProof.Rows L2

section
variable {D : Dat} {T : Tab} {Γ : Sem} {N : List Str} {n : Nat}
theorem lc2_nt {sc : Scope} {elt : EV.E} {t t2 : EV.T} {it it2 : EV.I} {ifs : EV.P} {py : Expr} (h : chkE T N sc (.lc2 elt t it t2 it2 ifs) py = true) : notTest py = true := by
  unfold chkE at h
  split at h
  · rfl
  · cases h
mutual
/-- every expression that fits runs as the evaluator says -/
theorem sdE : ∀ (e : EV.E) {sc : Scope} {W : WX} {X : Cx}, Gd D T Γ N sc n W X → ∀ py, chkE T N sc e py = true → Sd D Γ W X e py
  | .var i, _, _, _, G, _, h => sd_var G h
  | .non, _, _, _, G, _, h => sd_non G h
  | .bl b, _, _, _, G, _, h => sd_bl G h
  | .int i, _, _, _, G, _, h => sd_int G h
  | .str x, _, _, _, G, _, h => sd_str G h
  | .kon i, _, _, _, G, _, h => sd_kon G h
  | .bin op a b, _, _, _, G, _, h => sd_bin G h (sdE a G) (sdE b G)
  | .neg a, _, _, _, G, _, h => sd_neg G h (sdE a G)
  | .cmp op a b, _, _, _, G, _, h => sd_cmp G h (sdE a G) (sdE b G)
  | .chain o1 o2 a b c, _, _, _, G, _, h => sd_chain G h (sdE a G) (sdE b G) (sdE c G)
  | .andE a b, _, _, _, G, _, h => sd_and G h (sdE a G) (sdE b G)
  | .orE a b, _, _, _, G, _, h => sd_or G h (sdE a G) (sdE b G)
  | .one a, _, _, _, G, _, h => sd_one G h (sdE a G)
  | .notE a, _, _, _, G, _, h => sd_not G h (sdE a G)
  | .ife c a b, _, _, _, G, _, h => sd_ife G h (sdE c G) (sdE a G) (sdE b G)
  | .tup es, _, _, _, G, _, h => sd_tup G h fun ps a b => pes_pa (sdEs es G ps a) b
  | .lst es, _, _, _, G, _, h => sd_lst G h fun ps a b => pes_pa (sdEs es G ps a) b
  | .ix a b, _, _, _, G, _, h => sd_ix G h (sdE a G) (sdE b G)
  | .slc a lo hi, _, _, _, G, _, h => sd_slc G h (sdE a G) (sdP lo G) (sdP hi G)
  | .ixo i b, _, _, _, G, _, h => sd_ixo G h (sdE b G)
  | .lenO i, _, _, _, G, _, h => sd_lenO G h
  | .tupO i, _, _, _, G, _, h => sd_tupO G h
  | .call f es, _, _, _, G, _, h => sd_call G h fun ps a b => pes_pa (sdEs es G ps a) b
  | .new f es, _, _, _, G, _, h => sd_new G h fun ps a b => pes_pa (sdEs es G ps a) b
  | .callK f es ks ns pm, _, _, _, G, _, h => sd_callK G h (fun ps a => sdEs es G ps a) (fun ps a => sdEs ks G ps a)
  | .blt b es, _, _, _, G, _, h => sd_blt G h fun ps a b => pes_pa (sdEs es G ps a) b
  | .mth m o es, _, _, _, G, _, h => sd_mth G h (sdE o G) fun e p he hc => by
      have z := sdEs es G [p] (by subst he; unfold chkEs; show (chkE T N _ e p && _) = true; rw [hc]; unfold chkEs; rfl)
      subst he
      exact z.1
  | .lc elt t it .no, _, _, _, G, _, h => sd_lc G h (fun tg p a => sdI it G tg p a) (fun _ _ _ G' p a => sdE elt G' p a) fun c hc => by cases hc
  | .lc elt t it (.some c), _, _, _, G, _, h => sd_lc G h (fun tg p a => sdI it G tg p a) (fun _ _ _ G' p a => sdE elt G' p a) fun c' hc _ _ _ G' p a => by
      cases hc
      exact sdE c G' p a
  | .lc2 elt t it t2 it2 .no, _, _, _, G, _, h => sd_of (PE.weak (sd_lc2 G h (fun tg p a => sdI it G tg p a) (fun _ _ _ G' tg p a => sdI it2 G' tg p a) (fun _ _ _ G' p a => sdE elt G' p a) fun c hc => by cases hc).1 fun σ H Q z => lc2_t σ H Q (simE_L0 z)) (lc2_nt h)
  | .lc2 elt t it t2 it2 (.some c), _, _, _, G, _, h => sd_of (PE.weak (sd_lc2 G h (fun tg p a => sdI it G tg p a) (fun _ _ _ G' tg p a => sdI it2 G' tg p a) (fun _ _ _ G' p a => sdE elt G' p a) fun c' hc _ _ _ G' p a => by
      cases hc
      exact sdE c G' p a).1 fun σ H Q z => lc2_t σ H Q (simE_L0 z)) (lc2_nt h)
  | .stup l pre a post, _, _, _, G, _, h => sd_stup G h (fun ps z => sdEs pre G ps z) (sdE a G) (fun ps z => sdEs post G ps z)
  | .sel ks vs i, _, _, _, G, _, h => sd_sel G h (fun ps a => sdEs vs G ps a) (sdE i G)
  | .cget c a d, _, _, _, G, _, h => sd_cget G h (sdE a G)
  | .isi a t, _, _, _, G, _, h => sd_isi G h (sdE a G)
  | .lrg .no .no, _, _, _, G, _, h => sd_lrg G h (fun e p he => by cases he) (fun e p he => by cases he)
  | .lrg .no (.some b), _, _, _, G, _, h => sd_lrg G h (fun e p he => by cases he) (fun e p he hc => by cases he; exact sdE b G p hc)
  | .lrg (.some a) .no, _, _, _, G, _, h => sd_lrg G h (fun e p he hc => by cases he; exact sdE a G p hc) (fun e p he => by cases he)
  | .lrg (.some a) (.some b), _, _, _, G, _, h => sd_lrg G h (fun e p he hc => by cases he; exact sdE a G p hc) (fun e p he hc => by cases he; exact sdE b G p hc)
  | .attr e a, _, _, _, G, _, h => sd_attr G h (sdE e G)
  | .meth _ _ _, _, _, _, _, _, h => by unfold chkE at h; cases h
  | .isiC e c, _, _, _, G, _, h => sd_isiC G h (sdE e G)
  | .xfld _ _, _, _, _, _, _, h => by unfold chkE at h; cases h
  | .xisi _ _, _, _, _, _, _, h => by unfold chkE at h; cases h
theorem sdEs : ∀ (es : Es) {sc : Scope} {W : WX} {X : Cx}, Gd D T Γ N sc n W X → ∀ ps, chkEs T N sc es ps = true → Pes D Γ W X es ps
  | .nil, _, _, _, _, ps, h => by
      cases ps with
      | nil => trivial
      | cons _ _ => unfold chkEs at h; cases h
  | .cons e es, _, _, _, G, ps, h => by
      cases ps with
      | nil => unfold chkEs at h; cases h
      | cons p ps =>
        unfold chkEs at h
        have h' : (chkE T N _ e p && chkEs T N _ es ps) = true := h
        rw [Bool.and_eq_true] at h'
        exact ⟨sdE e G p h'.1, sdEs es G ps h'.2⟩
theorem sdP : ∀ (p : EV.P) {sc : Scope} {W : WX} {X : Cx}, Gd D T Γ N sc n W X → ∀ po, chkP T N sc p po = true → PO X po (simP D Γ W p)
  | .no, _, _, _, _, _, h => sd_noP h
  | .some e, _, _, _, G, _, h => sd_someP h (sdE e G)
theorem sdI : ∀ (i : EV.I) {sc : Scope} {W : WX} {X : Cx}, Gd D T Γ N sc n W X → ∀ tg py, chkI T N sc i tg py = true → PI X tg py (simI D Γ W i)
  | .seq e, _, _, _, G, _, _, h => sd_seqI G h (sdE e G)
  | .rng1 a, _, _, _, G, _, _, h => sd_rng1 G h (sdE a G)
  | .rng2 a b, _, _, _, G, _, _, h => sd_rng2 G h (sdE a G) (sdE b G)
  | .enm e, _, _, _, G, _, _, h => sd_enm G h (sdE e G)
  | .zip a b, _, _, _, G, _, _, h => sd_zip G h (sdE a G) (sdE b G)
end
end
end EV
namespace EV
open PySem PySem.Spec PyProof.Rows L2

section
variable {D : Dat} {T : Tab} {Γ : Sem} {N : List Str} {sc : Scope} {n : Nat} {W : WX} {X : Cx}
variable {g g' : Gs} {H H' : Hp} {h h' : Hs} {P : Addr → Prop} {env : EV.Env} {σ : L2.St}
/-! names that own lists -/
theorem SR.tracked {o : Option Addr} {v : Val} {x : L2.V} (r : SR D.K g H o v x) {xs : List Val} (e : v = .mls xs) : ∃ a, o = some a ∧ H a ≠ none := by
  subst e
  obtain ⟨a, vs, h1, _, h3, _⟩ := r
  exact ⟨a, h1, by rw [h3]; simp⟩
/-- the owner of a value that owns nothing does not matter -/
theorem SR.any {o : Option Addr} {v : Val} {x : L2.V} (r : SR D.K g H o v x) (n : isData v = true ∨ ∃ c fs, v = .exn c fs) (o' : Option Addr) : SR D.K g H o' v x := by
  rcases n with n | ⟨c, fs, rfl⟩
  · exact SR.of (r.data n)
  · exact r
theorem SR.owns {o : Option Addr} {v : Val} {x : L2.V} (r : SR D.K g H o v x) : (isData v = true ∨ ∃ c fs, v = .exn c fs) ∨ ∃ a, o = some a ∧ x = .ref a ∧ H a ≠ none := by
  cases v <;> first | exact .inl (.inl rfl) | (exact r.elim) | skip
  · obtain ⟨a, vs, h1, h2, h3, _⟩ := r
    exact .inr ⟨a, h1, h2, by rw [h3]; simp⟩
  · obtain ⟨a, vs, h1, h2, h3, _⟩ := r
    exact .inr ⟨a, h1, h2, by rw [h3]; simp⟩
  · obtain ⟨a, C, dx, ns, vs, h1, h2, h3, h4, _⟩ := r
    exact .inr ⟨a, h1, h2, by rw [h4]; simp⟩
  · exact .inl (.inr ⟨_, _, rfl⟩)
/-- a name takes a list that was just made -/
theorem EnvR.setOwn (r : EnvR D.K g H P env σ) (e : Ex g H g' H') {p : Addr} {i : Nat} {xs : List Val} {vs : List L2.V} (hp : H p = none) (pp : P p) (hl : H' p = some (.lst vs)) (rv : VRs D.K g' xs vs) (hf : g'.F p = none) (hu : g'.U p = none) :
    EnvR D.K g' H' P (env.set i (some (.mls xs))) (σ.set i (some (.ref p))) := by
  obtain ⟨l, ow, h1, h2, h3⟩ := r
  refine ⟨by simp [l], fun j => if j = i then some p else if ow j = some p then none else ow j, fun a b c e1 e2 => ?_, fun a b e1 => ?_, fun j u q => ?_⟩
  · dsimp only at e1 e2
    split at e1
    · rename_i ha
      cases e1
      split at e2
      · rename_i hb; rw [ha, hb]
      · split at e2
        · cases e2
        · rename_i z; exact absurd e2 z
    · split at e1
      · cases e1
      · rename_i z
        split at e2
        · cases e2; exact absurd e1 z
        · split at e2
          · cases e2
          · exact h1 a b c e1 e2
  · dsimp only at e1
    split at e1
    · cases e1; exact pp
    · split at e1
      · cases e1
      · exact h2 a b e1
  · by_cases hj : j = i
    · subst hj
      have hlj : j < env.length := by
        have := (List.getElem?_eq_some_iff.mp q).1
        simpa using this
      rw [List.getElem?_set_self hlj] at q
      cases q
      refine ⟨.ref p, List.getElem?_set_self (by rw [← l]; exact hlj), p, vs, by dsimp only; rw [if_pos rfl], rfl, hl, rv, hf, hu⟩
    · rw [List.getElem?_set_ne (Ne.symm hj)] at q
      obtain ⟨y, e1, e2⟩ := h3 j u q
      refine ⟨y, by rw [List.getElem?_set_ne (Ne.symm hj)]; exact e1, ?_⟩
      dsimp only
      rw [if_neg hj]
      rcases e2.owns with z | ⟨a, z1, _, z2⟩
      · exact (e2.ext e).any z _
      · rw [if_neg fun w => z2 (by rw [z1] at w; cases w; exact hp)]
        exact e2.ext e
/-- the object that a name owns -/
theorem EnvR.own1 (r : EnvR D.K g H P env σ) {i : Nat} {xs : List Val} (e : getV env i = some (.mls xs)) : ∃ p vs, P p ∧ σ[i]? = some (some (.ref p)) ∧ H p = some (.lst vs) ∧ VRs D.K g xs vs ∧ g.F p = none ∧ g.U p = none ∧ i < env.length := by
  obtain ⟨l, ow, h1, h2, h3⟩ := r
  have q := getV_some e
  obtain ⟨x, a, p, vs, k1, k2, k3, k4, k5, k6⟩ := h3 i _ q
  subst k2
  exact ⟨p, vs, h2 i p k1, a, k3, k4, k5, k6, (List.getElem?_eq_some_iff.mp q).1⟩
/-- what a change at an owned object does not reach -/
theorem SR.keep {o : Option Addr} {v : Val} {x : L2.V} {p : Addr} {u w : HO} (r : SR D.K g H o v x) (hp : H p = some w) (hw : ∃ vs, w = .lst vs) (hn : o ≠ some p) : SR D.K g (upd H p u) o v x := by
  obtain ⟨ws, rfl⟩ := hw
  cases v <;> first | exact r | skip
  · obtain ⟨a, vs, h1, h2, h3, h4⟩ := r
    refine ⟨a, vs, h1, h2, ?_, h4⟩
    rw [upd_ne fun z => hn (by rw [h1, z])]; exact h3
  · obtain ⟨a, vs, h1, h2, h3, h4⟩ := r
    refine ⟨a, vs, h1, h2, ?_, h4⟩
    rw [upd_ne fun z => hn (by rw [h1, z])]; exact h3
  · obtain ⟨a, C, dx, ns, vs, h1, h2, h3, h4, h5⟩ := r
    refine ⟨a, C, dx, ns, vs, h1, h2, h3, ?_, h5⟩
    rw [upd_ne fun z => hn (by rw [h1, z])]; exact h4
  · obtain ⟨a, C, d, ns, h1, h2, h3, h4⟩ := r
    refine ⟨a, C, d, ns, h1, h2, h3, ?_⟩
    rcases h4 with z | ⟨dd, vs, z1, z2, z3⟩
    · exact .inl z
    · refine .inr ⟨dd, vs, z1, ?_, z3⟩
      rw [upd_ne fun z => by rw [z, hp] at z2; cases z2]; exact z2
/-- an owned list is changed -/
theorem EnvR.mutL (r : EnvR D.K g H P env σ) {i : Nat} {p : Addr} {xs ys : List Val} {ws : List L2.V} (e : getV env i = some (.mls xs)) (hi : σ[i]? = some (some (.ref p))) (rv : VRs D.K g ys ws) :
    EnvR D.K g (upd H p (.lst ws)) P (env.set i (some (.mls ys))) σ := by
  obtain ⟨l, ow, h1, h2, h3⟩ := r
  obtain ⟨x, a, q, vs, k1, k2, k3, k4, k5, k6⟩ := h3 i _ (getV_some e)
  subst k2
  rw [hi] at a
  cases a
  refine ⟨by simp [l], ow, h1, h2, fun j u z => ?_⟩
  by_cases hj : j = i
  · subst hj
    have hlj : j < env.length := by
      have := (List.getElem?_eq_some_iff.mp z).1
      simpa using this
    rw [List.getElem?_set_self hlj] at z
    cases z
    exact ⟨.ref p, hi, p, ws, k1, rfl, upd_same, rv, k5, k6⟩
  · rw [List.getElem?_set_ne (Ne.symm hj)] at z
    obtain ⟨y, e1, e2⟩ := h3 j u z
    exact ⟨y, e1, e2.keep k3 ⟨_, rfl⟩ fun w => hj (h1 j i p w k1)⟩
theorem getM_some {i : Nat} {w : Val} {xs : List Val} (e : getM env i = some (w, xs)) : getV env i = some w ∧ mlOf w = some xs := by
  unfold getM at e
  split at e
  · split at e
    · cases e; exact ⟨by assumption, by assumption⟩
    · cases e
  · cases e
theorem EnvR.own1M (r : EnvR D.K g H P env σ) {i : Nat} {w : Val} {xs : List Val} (e : getM env i = some (w, xs)) : ∃ p vs, P p ∧ σ[i]? = some (some (.ref p)) ∧ H p = some (.lst vs) ∧ VRs D.K g xs vs ∧ g.F p = none ∧ g.U p = none ∧ i < env.length := by
  obtain ⟨e1, e2⟩ := getM_some e
  cases w <;> first | (cases e2; done) | skip
  · cases e2; exact r.own1 e1
  · cases e2
    obtain ⟨l, ow, h1, h2, h3⟩ := r
    have q := getV_some e1
    obtain ⟨x, a, p, vs, k1, k2, k3, k4, k5, k6, _⟩ := h3 i _ q
    subst k2
    exact ⟨p, vs, h2 i p k1, a, k3, k4, k5, k6, (List.getElem?_eq_some_iff.mp q).1⟩
theorem EnvR.mutM (r : EnvR D.K g H P env σ) {i : Nat} {p : Addr} {w : Val} {xs ys : List Val} {ws : List L2.V} (e : getM env i = some (w, xs)) (hi : σ[i]? = some (some (.ref p))) (rv : VRs D.K g ys ws) :
    EnvR D.K g (upd H p (.lst ws)) P (env.set i (some (mlPut w ys))) σ := by
  obtain ⟨e1, e2⟩ := getM_some e
  cases w <;> first | (cases e2; done) | skip
  · cases e2; exact r.mutL e1 hi rv
  · cases e2
    obtain ⟨l, ow, h1, h2, h3⟩ := r
    obtain ⟨x, a, q, vs, k1, k2, k3, k4, k5, k6, k7⟩ := h3 i _ (getV_some e1)
    subst k2
    rw [hi] at a
    cases a
    refine ⟨by simp [l], ow, h1, h2, fun j u z => ?_⟩
    by_cases hj : j = i
    · subst hj
      have hlj : j < env.length := by
        have := (List.getElem?_eq_some_iff.mp z).1
        simpa using this
      rw [List.getElem?_set_self hlj] at z
      cases z
      exact ⟨.ref p, hi, p, ws, k1, rfl, upd_same, rv, k5, k6, k7⟩
    · rw [List.getElem?_set_ne (Ne.symm hj)] at z
      obtain ⟨y, e1, e2⟩ := h3 j u z
      exact ⟨y, e1, e2.keep k3 ⟨_, rfl⟩ fun w => hj (h1 j i p w k1)⟩
/-- an owned list is frozen -/
theorem EnvR.frz (r : EnvR D.K g H P env σ) {i : Nat} {p : Addr} {xs : List Val} {ws : List L2.V} (e : getV env i = some (.mls xs)) (hi : σ[i]? = some (some (.ref p))) (hl : H p = some (.lst ws)) (rv : VRs D.K g xs ws) (hf : g.F p = none) :
    EnvR D.K { g with F := upd g.F p (.lst ws) } H P (env.set i (some (.lst xs))) σ := by
  have nw : ∀ {v : Val} {x : L2.V}, VR D.K g v x → VR D.K { g with F := upd g.F p (.lst ws) } v x := fun q =>
    VR.mono (g := g) (g' := { g with F := upd g.F p (.lst ws) }) (fun a u e => by show upd g.F p _ a = some u; rw [upd_ne (ne_of_none e hf)]; exact e) (fun _ _ e => e) rfl q
  have nws : ∀ {v : List Val} {x : List L2.V}, VRs D.K g v x → VRs D.K { g with F := upd g.F p (.lst ws) } v x := fun q => VRs.frz hf q
  obtain ⟨l, ow, h1, h2, h3⟩ := r
  obtain ⟨x, a, q, vs, k1, k2, k3, k4, k5, k6⟩ := h3 i _ (getV_some e)
  subst k2
  rw [hi] at a
  cases a
  refine ⟨by simp [l], fun j => if j = i then none else ow j, fun a b c e1 e2 => ?_, fun a b e1 => ?_, fun j u z => ?_⟩
  · dsimp only at e1 e2
    split at e1
    · cases e1
    · split at e2
      · cases e2
      · exact h1 a b c e1 e2
  · dsimp only at e1
    split at e1
    · cases e1
    · exact h2 a b e1
  · by_cases hj : j = i
    · subst hj
      have hlj : j < env.length := by
        have := (List.getElem?_eq_some_iff.mp z).1
        simpa using this
      rw [List.getElem?_set_self hlj] at z
      cases z
      exact ⟨.ref p, hi, VR.lst upd_same (nws rv)⟩
    · rw [List.getElem?_set_ne (Ne.symm hj)] at z
      obtain ⟨y, e1, e2⟩ := h3 j u z
      refine ⟨y, e1, ?_⟩
      dsimp only
      rw [if_neg hj]
      cases u <;> first | exact nw e2 | exact e2.elim | skip
      · obtain ⟨a, vs', q1, q2, q3, q4, q5, q6⟩ := e2
        refine ⟨a, vs', q1, q2, q3, nws q4, ?_, q6⟩
        show upd g.F p _ a = none
        rw [upd_ne fun w => hj (h1 j i p (by rw [q1, w]) k1)]; exact q5
      · obtain ⟨a, vs', q1, q2, q3, q4, q5, q6⟩ := e2
        refine ⟨a, vs', q1, q2, q3, nws q4, ?_, q6⟩
        show upd g.F p _ a = none
        rw [upd_ne fun w => hj (h1 j i p (by rw [q1, w]) k1)]; exact q5
      · obtain ⟨a, C, dx, ns, vs', q1, q2, q3, q4, q5, q6, q7, q8⟩ := e2
        refine ⟨a, C, dx, ns, vs', q1, q2, q3, q4, q5, nws q6, ?_, q8⟩
        show upd g.F p _ a = none
        rw [upd_ne fun w => hj (h1 j i p (by rw [q1, w]) k1)]; exact q7
      · obtain ⟨a, C, d, ns, q1, q2, q3, q4⟩ := e2
        refine ⟨a, C, d, ns, q1, q2, q3, ?_⟩
        rcases q4 with z | ⟨dd, vs', z1, z2, z3, z4, z5⟩
        · exact .inl z
        · exact .inr ⟨dd, vs', z1, z2, z3, z4, nws z5⟩

/-! expressions that make a new list -/
def simL (D : Dat) (Γ : Sem) (W : WX) (e : EV.E) : TE := fun σ H Q => ∃ P g h env k kx, Sta D P g h H env σ ∧ ev D.X Γ e env h k kx = true ∧
  (∀ xs h' g' H' p vs, k (.lst xs) h' = true → Ex g H g' H' → GOk D g' h' H' → H p = none → H' p = some (.lst vs) → VRs D.K g' xs vs → g'.F p = none → g'.U p = none → Q (.ref p) H') ∧ PostX D W σ g H kx ∧ ∀ v h', k v h' = true → ∃ xs, v = .lst xs
/-- a new list is laid -/
theorem newLoose {Q : VK} {k : KV} {p : Addr} {xs : List Val} {vs : List L2.V} (pl : ∀ xs h' g' H' p vs, k (.lst xs) h' = true → Ex g H g' H' → GOk D g' h' H' → H p = none → H' p = some (.lst vs) → VRs D.K g' xs vs → g'.F p = none → g'.U p = none → Q (.ref p) H')
    {g1 : Gs} {h1 : Hs} {H1 : Hp} (e1 : Ex g H g1 H1) (ok : GOk D g1 h1 H1) (hk : k (.lst xs) h1 = true) (r : VRs D.K g1 xs vs) (hp : H1 p = none) : Q (.ref p) (upd H1 p (.lst vs)) := by
  obtain ⟨m1, m2⟩ := loose_ex (o := .lst vs) ok hp
  obtain ⟨f1, f2⟩ := ok.fresh hp
  have h0 : H p = none := by
    cases q : H p with
    | none => rfl
    | some o => exact absurd hp (e1.th p (by rw [q]; simp))
  exact pl _ _ _ _ p vs hk (e1.trans m1) m2 h0 upd_same r f1 f2
def freshE : EV.E → Bool
  | .lst _ => true
  | .lc _ _ _ _ => true
  | .lrg _ _ => true
  | .bin .add _ _ => true
  | .bin .mul _ _ => true
  | .lc2 _ _ _ _ _ _ => true
  | .blt .list _ => true
  | _ => false
theorem sl_lst (G : Gd D T Γ N sc n W X) {es : Es} {py : Expr} (h : chkE T N sc (.lst es) py = true) : PE X py (simL D Γ W (.lst es)) := by
  unfold chkE at h
  split at h
  · rw [Bool.and_eq_true] at h
    refine PE.weak (pe_lst (pes_pa (sdEs es G _ h.2) h.1)) ?_
    rintro σ H Q ⟨P, g, h, env, k, kx, st, hk, pl, px, _⟩
    refine seqA st hk px fun vs h1 g1 H1 xs hk1 e1 st1 px1 r1 => ?_
    split at hk1
    · rename_i hz
      exact ⟨by rw [← r1.length]; exact hz, fun p hp => newLoose pl e1 st1.ok hk1 r1 hp⟩
    · cases hk1
  · cases h
theorem sl_list (G : Gd D T Γ N sc n W X) {es : Es} {py : Expr} (h : chkE T N sc (.blt .list es) py = true) : PE X py (simL D Γ W (.blt .list es)) := by
  unfold chkE at h
  split at h
  · simp only [Bool.and_eq_true, decide_eq_true_eq] at h
    obtain ⟨⟨⟨⟨⟨hd, h1⟩, h2⟩, h3⟩, h4⟩, h5⟩ := h
    subst h1
    refine PE.weak (pe_blt (b := .list) G call_list_of h2 (pes_pa (sdEs es G _ h5) h4) h4) ?_
    rintro σ H Q ⟨P, g, h, env, k, kx, st, hk, pl, px, _⟩
    refine seqA st hk px fun vs h1 g1 H1 xs hk1 e1 st1 px1 r1 => ?_
    obtain ⟨z, ez, hz⟩ := stepK_some hk1
    unfold blt at ez
    split at ez <;> first | (exfalso; simp_all; done) | skip
    all_goals
      cases ez
      obtain ⟨x, rfl, rx⟩ := one_arg r1 rfl
      obtain ⟨p, ws, rfl, hs, rv⟩ := seqR G.eK st1.ok rx rfl
      exact ⟨p, ws, rfl, hs, fun l hl => newLoose pl e1 st1.ok hz rv hl⟩
  · cases h
theorem sl_add (G : Gd D T Γ N sc n W X) {a b : EV.E} {py : Expr} (h : chkE T N sc (.bin .add a b) py = true) : PE X py (simL D Γ W (.bin .add a b)) := by
  unfold chkE at h
  split at h
  · rename_i pa o pb pos
    simp only [Bool.and_eq_true] at h
    obtain ⟨⟨h1, h2⟩, h3⟩ := h
    cases o <;> first | (simp [bopB] at h1; done) | skip
    refine PE.weak (pe_op op_cat (sdE a G _ h2).pe (sdE b G _ h3).pe) ?_
    rintro σ H Q ⟨P, g, h, env, k, kx, st, hk, pl, px, nl⟩
    refine seqE st hk px fun v h1 g1 H1 x hk1 e1 st1 px1 r1 => ?_
    refine seqE st1 hk1 px1 fun u h2 g2 H2 y hk2 e2 st2 px2 r2 => ?_
    obtain ⟨z, ez, hz⟩ := stepK_some hk2
    obtain ⟨zs, rfl⟩ := nl _ _ hz
    have r1' := e2.vr r1
    cases r1' <;> cases r2 <;> simp only [bop] at ez <;> try (cases ez; done)
    · split at ez
      · cases ez
      · cases ez
    · split at ez
      · cases ez
      · cases ez
    · rename_i a1 xs vs s1 q1 a2 ys ws s2 q2
      split at ez
      · rename_i hz'
        cases ez
        rw [q1.length, q2.length] at hz'
        exact ⟨_, _, _, _, rfl, rfl, st2.ok.fh _ _ s1, st2.ok.fh _ _ s2, hz', fun p hp => newLoose pl (e1.trans e2) st2.ok hz (q1.append q2) hp⟩
      · cases ez
  · cases h
theorem sl_mul (G : Gd D T Γ N sc n W X) {a b : EV.E} {py : Expr} (h : chkE T N sc (.bin .mul a b) py = true) : PE X py (simL D Γ W (.bin .mul a b)) := by
  unfold chkE at h
  split at h
  · rename_i pa o pb pos
    simp only [Bool.and_eq_true] at h
    obtain ⟨⟨h1, h2⟩, h3⟩ := h
    cases o <;> first | (simp [bopB] at h1; done) | skip
    refine PE.weak (pe_op op_rep (sdE a G _ h2).pe (sdE b G _ h3).pe) ?_
    rintro σ H Q ⟨P, g, h, env, k, kx, st, hk, pl, px, nl⟩
    refine seqE st hk px fun v h1 g1 H1 x hk1 e1 st1 px1 r1 => ?_
    refine seqE st1 hk1 px1 fun u h2 g2 H2 y hk2 e2 st2 px2 r2 => ?_
    obtain ⟨z, ez, hz⟩ := stepK_some hk2
    obtain ⟨zs, rfl⟩ := nl _ _ hz
    have r1' := e2.vr r1
    cases r1' <;> cases r2 <;> simp only [bop] at ez <;> try (cases ez; done)
    · split at ez <;> cases ez
    · rename_i a1 xs vs s1 q1 i
      split at ez
      · rename_i hz'
        cases ez
        rw [q1.length] at hz'
        exact ⟨_, _, _, rfl, rfl, st2.ok.fh _ _ s1, hz'.1, hz'.2.1, hz'.2.2, fun p hp => newLoose pl (e1.trans e2) st2.ok hz (q1.rep _) hp⟩
      · cases ez
  · cases h
end
end EV
namespace EV
open PySem PySem.Spec PyProof.Rows L2

/-- where a frame began, and the loop that it is in -/
structure Bs where
  g0 : Gs
  H0 : Hp
  gu : Gs
structure Br (b : Bs) (g : Gs) (H : Hp) : Prop where
  ex : Ex b.g0 b.H0 g H
  up : Up b.gu g
abbrev Pb (b : Bs) : Addr → Prop := fun a => b.H0 a = none
theorem Br.ext {b : Bs} {g g' : Gs} {H H' : Hp} (x : Br b g H) (e : Ex g H g' H') : Br b g' H' := ⟨x.ex.trans e, x.up.trans e.up⟩
theorem Br.mut {D : Dat} {b : Bs} {g : Gs} {h : Hs} {H : Hp} {p : Addr} {o : HO} (x : Br b g H) (ok : GOk D g h H) (hp : b.H0 p = none) (h2 : g.F p = none) (h3 : g.U p = none) : Br b g (upd H p o) ∧ GOk D g h (upd H p o) :=
  let ⟨a, c⟩ := mut_ex (o := o) x.ex ok hp h2 h3
  ⟨⟨a, x.up⟩, c⟩
theorem Br.frz {D : Dat} {b : Bs} {g : Gs} {h : Hs} {H : Hp} {p : Addr} {o : HO} (x : Br b g H) (ok : GOk D g h H) (hp : b.H0 p = none) (h1 : H p = some o) (h2 : g.F p = none) (h3 : g.U p = none) :
    Br b { g with F := upd g.F p o } H ∧ GOk D { g with F := upd g.F p o } h H :=
  let ⟨a, c⟩ := freeze_ex x.ex ok hp h1 h2 h3
  ⟨⟨a, x.up.trans ⟨fun a u q => by show upd g.F p o a = some u; rw [upd_ne (ne_of_none q h2)]; exact q, fun _ _ e => e, rfl⟩⟩, c⟩
theorem Br.none {b : Bs} {g : Gs} {H : Hp} (x : Br b g H) {p : Addr} (hp : H p = none) : b.H0 p = none := by
  cases q : b.H0 p with
  | none => rfl
  | some o => exact absurd hp (x.ex.th p (by rw [q]; simp))
section
variable {D : Dat} {T : Tab} {Γ : Sem} {N : List Str} {sc : Scope} {n : Nat} {W : WX} {X : Cx}
variable {g g' : Gs} {H H' : Hp} {h h' : Hs} {P P' : Addr → Prop} {env : EV.Env} {σ : L2.St} {b : Bs}
theorem EnvR.weakP (r : EnvR D.K g H P env σ) (hp : ∀ a, P a → P' a) : EnvR D.K g H P' env σ := by
  obtain ⟨l, ow, h1, h2, h3⟩ := r
  exact ⟨l, ow, h1, fun i a e => hp a (h2 i a e), h3⟩
theorem Sta.weakP (s : Sta D P g h H env σ) (hp : ∀ a, P a → P' a) : Sta D P' g h H env σ := ⟨s.er.weakP hp, s.ok⟩
/-- what is not tracked is owned by none -/
theorem EnvR.avoid (r : EnvR D.K g H P env σ) : EnvR D.K g H (fun a => P a ∧ H a ≠ none) env σ := by
  obtain ⟨l, ow, h1, h2, h3⟩ := r
  have key : ∀ i a, ((ow i).bind fun a => if (H a).isSome then some a else none) = some a → ow i = some a ∧ H a ≠ none := by
    intro i a e
    cases q : ow i with
    | none => rw [q] at e; cases e
    | some c =>
      rw [q] at e
      have e' : (if (H c).isSome then some c else none) = some a := e
      split at e'
      · rename_i z
        cases e'
        exact ⟨rfl, fun w => by rw [w] at z; cases z⟩
      · cases e'
  refine ⟨l, fun i => (ow i).bind fun a => if (H a).isSome then some a else none, fun i j a e1 e2 => h1 i j a (key i a e1).1 (key j a e2).1, fun i a e => ⟨h2 i a (key i a e).1, (key i a e).2⟩, fun i v e => ?_⟩
  obtain ⟨x, e1, e2⟩ := h3 i v e
  refine ⟨x, e1, ?_⟩
  rcases e2.owns with z | ⟨a, z1, _, z2⟩
  · exact e2.any z _
  · have t : ((ow i).bind fun a => if (H a).isSome then some a else none) = ow i := by
      rw [z1]
      show (if (H a).isSome then some a else none) = some a
      cases q : H a with
      | none => exact absurd q z2
      | some _ => rfl
    show SR D.K g H ((ow i).bind fun a => if (H a).isSome then some a else none) v x
    rw [t]; exact e2
theorem Sta.avoid (s : Sta D P g h H env σ) : Sta D (fun a => P a ∧ H a ≠ none) g h H env σ := ⟨s.er.avoid, s.ok⟩
/-- a value: data, or a new list that nobody owns -/
def OV (D : Dat) (g : Gs) (H : Hp) (ps : List Addr) (v : Val) (x : L2.V) : Prop := match v with
  | .mls xs => ∃ p vs, ps = [p] ∧ x = .ref p ∧ H p = some (.lst vs) ∧ VRs D.K g xs vs ∧ g.F p = none ∧ g.U p = none
  | v => ps = [] ∧ VR D.K g v x
theorem OV.of {v : Val} {x : L2.V} (r : VR D.K g v x) : OV D g H [] v x := by
  have hd := r.isD
  cases v <;> first | exact ⟨rfl, r⟩ | cases hd
theorem OV.data {ps : List Addr} {v : Val} {x : L2.V} (r : OV D g H ps v x) (hd : isData v = true) : ps = [] ∧ VR D.K g v x := by
  cases v <;> first | exact r | cases hd
theorem OV.ext {ps : List Addr} {v : Val} {x : L2.V} (e : Ex g H g' H') (r : OV D g H ps v x) : OV D g' H' ps v x := by
  cases v <;> first | exact ⟨r.1, e.vr r.2⟩ | skip
  obtain ⟨p, vs, h1, h2, h3, h4, h5, h6⟩ := r
  obtain ⟨z1, z2⟩ := e.loose h3 h5 h6
  exact ⟨p, vs, h1, h2, e.hh _ _ h3 h6, e.vrs h4, z1, z2⟩
theorem OV.there {ps : List Addr} {v : Val} {x : L2.V} (r : OV D g H ps v x) : ps.Nodup ∧ ∀ p ∈ ps, H p ≠ none := by
  cases v <;> first | (obtain ⟨rfl, _⟩ := r; exact ⟨List.nodup_nil, fun p z => absurd z (by simp)⟩) | skip
  obtain ⟨p, vs, rfl, h2, h3, _⟩ := r
  exact ⟨by simp, fun q z => by rw [List.mem_singleton.mp z, h3]; simp⟩
/-- a name takes a value -/
theorem EnvR.put (r : EnvR D.K g H P env σ) {ps : List Addr} {v : Val} {x : L2.V} (ov : OV D g H ps v x) (np : ∀ p ∈ ps, ¬ P p) (i : Nat) : EnvR D.K g H (fun a => P a ∨ a ∈ ps) (env.set i (some v)) (σ.set i (some x)) := by
  cases hd : isData v with
  | true => exact (r.set (ov.data hd).2).weakP fun a z => .inl z
  | false =>
    cases v <;> first | (cases hd; done) | skip
    · obtain ⟨p, vs, rfl, rfl, h3', h4, h5, h6⟩ := ov
      have np := np p (by simp)
      obtain ⟨l, ow, h1, h2, h3⟩ := r
      refine ⟨by simp [l], fun j => if j = i then some p else ow j, fun a b c e1 e2 => ?_, fun a b e1 => ?_, fun j u q => ?_⟩
      · dsimp only at e1 e2
        split at e1
        · rename_i ha
          cases e1
          split at e2
          · rename_i hb; rw [ha, hb]
          · exact absurd (h2 b p e2) np
        · split at e2
          · cases e2; exact absurd (h2 a p e1) np
          · exact h1 a b c e1 e2
      · dsimp only at e1
        split at e1
        · cases e1; exact .inr (by simp)
        · exact .inl (h2 a b e1)
      · by_cases hj : j = i
        · subst hj
          have hlj : j < env.length := by
            have := (List.getElem?_eq_some_iff.mp q).1
            simpa using this
          rw [List.getElem?_set_self hlj] at q
          cases q
          refine ⟨.ref p, List.getElem?_set_self (by rw [← l]; exact hlj), p, vs, by dsimp only; rw [if_pos rfl], rfl, h3', h4, h5, h6⟩
        · rw [List.getElem?_set_ne (Ne.symm hj)] at q
          obtain ⟨y, e1, e2⟩ := h3 j u q
          refine ⟨y, by rw [List.getElem?_set_ne (Ne.symm hj)]; exact e1, ?_⟩
          dsimp only
          rw [if_neg hj]
          exact e2
    all_goals exact absurd ov.2.isD (by simp [isData])
/-! the right sides -/
def simQ (D : Dat) (Γ : Sem) (W : WX) (r : R) : TE := fun σ H Q => ∃ P g h env k kx, Sta D P g h H env σ ∧ evr D.X Γ r env h k kx = true ∧
  (∀ v h' g' H' x ps, k v env h' = true → Ex g H g' H' → Sta D (fun a => P a ∧ H a ≠ none) g' h' H' env σ → OV D g' H' ps v x → (∀ p ∈ ps, H p = none) → Q x H') ∧ PostX D W σ g H kx
def simR (D : Dat) (Γ : Sem) (W : WX) (r : R) : TE := fun σ H Q => ∃ b P g h env k kx, (∀ a, P a → b.H0 a = none) ∧ Br b g H ∧ Sta D P g h H env σ ∧ evr D.X Γ r env h k kx = true ∧
  (∀ v env' h' g' H' x ps, k v env' h' = true → Br b g' H' → Sta D (fun a => P a ∧ H a ≠ none) g' h' H' env' σ → OV D g' H' ps v x → (∀ p ∈ ps, H p = none) → Q x H') ∧ PostX D W σ g H kx
theorem simR_Q {r : R} {H : Hp} {Q : VK} (z : simR D Γ W r σ H Q) : simQ D Γ W r σ H Q := by
  obtain ⟨b, P, g, h, env, k, kx, hP, br, st, hk, pv, px⟩ := z
  exact ⟨P, g, h, env, k, kx, st, hk, fun v h' g' H' x ps a e s o q => pv v env h' g' H' x ps a (br.ext e) s o q, px⟩
theorem sl_lrg (G : Gd D T Γ N sc n W X) {a b : EV.P} {py : Expr} (h : chkE T N sc (.lrg a b) py = true) : PE X py (simL D Γ W (.lrg a b)) := by
  unfold chkE at h
  split at h
  · simp only [Bool.and_eq_true, decide_eq_true_eq] at h
    obtain ⟨⟨⟨⟨h1, h2⟩, h3⟩, h4⟩, h5⟩ := h
    subst h1 h3
    split at h5
    · rw [Bool.and_eq_true] at h5
      obtain ⟨h5, h6⟩ := h5
      split at h6
      · cases b with
        | no => unfold chkP at h6; cases h6
        | some eb =>
          have h6' := h6
          unfold chkP at h6'
          refine PE.weak (pe_listRg G.calm (G.gl h2) (G.mgN (by decide +kernel)) (prg_1 (G.gl h4) (G.mgN (by decide +kernel)) (sdE eb G _ h6').pe (tame_star h5 _ _)) rfl) ?_
          rintro σ H Q ⟨P, g, h, env, k, kx, st, hk, pl, px, _⟩
          have hk' : ev D.X Γ eb env h (fun x h => match x with | .int j => (if rgOk 0 && rgOk j && decide ((j - 0).toNat ≤ 2 ^ 24) then k (.lst (rgl 0 (j - 0).toNat)) h else false) | _ => false) kx = true := hk
          refine seqE st hk' px fun v h1 g1 H1 x hk1 e1 st1 px1 r1 => ?_
          cases r1 <;> first | (cases hk1; done) | skip
          rename_i j
          have hk2 : (if rgOk 0 && rgOk j && decide ((j - 0).toNat ≤ 2 ^ 24) then k (.lst (rgl 0 (j - 0).toNat)) h1 else false) = true := hk1
          split at hk2
          · rename_i hz
            exact ⟨j, rfl, rgOk_of hz, fun q hq => newLoose pl e1 st1.ok hk2 (rgl_rel 0 j) hq⟩
          · cases hk2
      · cases h6
    · simp only [Bool.and_eq_true] at h5
      obtain ⟨⟨⟨h5, h6⟩, h7⟩, h8⟩ := h5
      cases a with
      | no => unfold chkP at h7; cases h7
      | some ea =>
        cases b with
        | no => unfold chkP at h8; cases h8
        | some eb =>
          have h7' := h7
          unfold chkP at h7'
          have h8' := h8
          unfold chkP at h8'
          refine PE.weak (pe_listRg G.calm (G.gl h2) (G.mgN (by decide +kernel)) (prg_2 (G.gl h4) (G.mgN (by decide +kernel)) (sdE ea G _ h7').pe (sdE eb G _ h8').pe (tame_star h5 _ _) (tame_star h6 _ _) (tame_plain (by unfold allTame; rw [List.all_cons, h6]; rfl) X.env _)) rfl) ?_
          rintro σ H Q ⟨P, g, h, env, k, kx, st, hk, pl, px, _⟩
          have hk' : ev D.X Γ ea env h (fun x h => match x with | .int i => ev D.X Γ eb env h (fun x h => match x with | .int j => (if rgOk i && rgOk j && decide ((j - i).toNat ≤ 2 ^ 24) then k (.lst (rgl i (j - i).toNat)) h else false) | _ => false) kx | _ => false) kx = true := hk
          refine seqE st hk' px fun v h1 g1 H1 x hk1 e1 st1 px1 r1 => ?_
          cases r1 <;> first | (cases hk1; done) | skip
          rename_i i
          refine seqE st1 hk1 px1 fun v h2 g2 H2 x hk2 e2 st2 px2 r2 => ?_
          cases r2 <;> first | (cases hk2; done) | skip
          rename_i j
          have hk3 : (if rgOk i && rgOk j && decide ((j - i).toNat ≤ 2 ^ 24) then k (.lst (rgl i (j - i).toNat)) h2 else false) = true := hk2
          split at hk3
          · rename_i hz
            exact ⟨i, j, rfl, rfl, rgOk_of hz, fun q hq => newLoose pl (e1.trans e2) st2.ok hk3 (rgl_rel i j) hq⟩
          · cases hk3
    · cases h5
  · cases h
/-- the parts of a comprehension that fit -/
theorem lc_pe (G : Gd D T Γ N sc n W X) {elt : EV.E} {t : EV.T} {it : EV.I} {ifs : EV.P} {py : Expr} (h : chkE T N sc (.lc elt t it ifs) py = true) :
    PE X py (tLc (simI D Γ W it) (simG D t) (ttOf D Γ ifs) (simE D Γ WF elt) (tvars t)) ∧
    ∀ (i : Nat) (y : Str) (ty spos : Pos), X.N[i]? = some y → X.env.scope.names.lookup y = some .local → swapsWith py (some (.Name y ty)) spos.line X.env = pure true →
      PS X (.Assign [.Name y ty] py spos) (tAsg (tLc (simI D Γ W it) (simG D t) (ttOf D Γ ifs) (simE D Γ WF elt) (tvars t)) (gName i)) := by
  unfold chkE at h
  split at h
  · rename_i pelt ptg pit pifs scope pos
    simp only [Bool.and_eq_true] at h
    obtain ⟨⟨⟨⟨⟨h1, h2⟩, h3⟩, h4⟩, h5⟩, h6⟩ := h
    have hts : ∀ (s : Shared) (H : Hp) (C : Addr) (cl : List (Str × Addr)) (fp : List Addr), PTs (X.blk s H scope (compEnvC scope cl C X.env) fp) pifs (ttOf D Γ ifs) := by
      intro s H C cl fp
      split at h6
      · cases ifs with
        | no => exact pts_nil
        | some _ => cases h6
      · cases ifs with
        | no => cases h6
        | some c => exact pts_one (sdE c (gd_blk G scope s H C cl fp) _ h6).pt
      · cases h6
    constructor
    · have A := pe_lc (own := ownOf N t) (pos := pos) G.calm G.hnd (sdI it G _ _ h3) (by rw [G.eN, G.eSc]; exact blkOk_by h1)
        (fun s H C cl fp => sd_tg (X := X.blk s H scope (compEnvC scope cl C X.env) fp) (sc := scope) G.eN G.nd G.calm G.eK (loc_blk G scope s H C cl fp) t ptg h2) hts (fun s H C cl fp => (sdE elt (gd_blk G scope s H C cl fp) _ h5).pe) (tame_fold h4 X.env)
      rw [tvars_own] at A
      exact A
    · intro i y ty spos hy hyl hsw
      have A := ps_setLc (own := ownOf N t) (pos := pos) G.calm G.hnd hy hyl hsw (sdI it G _ _ h3) (by rw [G.eN, G.eSc]; exact blkOk_by h1)
        (fun s H C cl fp => sd_tg (X := X.blk s H scope (compEnvC scope cl C X.env) fp) (sc := scope) G.eN G.nd G.calm G.eK (loc_blk G scope s H C cl fp) t ptg h2) hts (fun s H C cl fp => (sdE elt (gd_blk G scope s H C cl fp) _ h5).pe) (tame_fold h4 X.env)
      rw [tvars_own] at A
      exact A
  · cases h
theorem simL_0 {e : EV.E} {H : Hp} {Q : VK} (z : simL D Γ W e σ H Q) : simL0 D Γ W e σ H Q := by
  obtain ⟨P, g, h, env, k, kx, st, hk, pl, px, _⟩ := z
  exact ⟨P, g, h, env, k, kx, st, hk, pl, px⟩
/-- the parts of a comprehension of two clauses that fit -/
theorem lc2_pe (G : Gd D T Γ N sc n W X) {elt : EV.E} {t t2 : EV.T} {it it2 : EV.I} {ifs : EV.P} {py : Expr} (h : chkE T N sc (.lc2 elt t it t2 it2 ifs) py = true) :
    PE X py (tLc2 (simI D Γ W it) (simG D t) tYes (simI D Γ WF it2) (simG D t2) (ttOf D Γ ifs) (simE D Γ WF elt) (tvars t ++ tvars t2) (tvars t2)) ∧
    ∀ (i : Nat) (y : Str) (ty spos : Pos), X.N[i]? = some y → X.env.scope.names.lookup y = some .local → swapsWith py (some (.Name y ty)) spos.line X.env = pure true →
      PS X (.Assign [.Name y ty] py spos) (tAsg (tLc2 (simI D Γ W it) (simG D t) tYes (simI D Γ WF it2) (simG D t2) (ttOf D Γ ifs) (simE D Γ WF elt) (tvars t ++ tvars t2) (tvars t2)) (gName i)) :=
  sd_lc2 G h (sdI it G) (fun _ _ _ G' => sdI it2 G') (fun _ _ _ G' => sdE elt G') (fun c _ _ _ _ G' => sdE c G')
theorem sl_fresh (G : Gd D T Γ N sc n W X) {e : EV.E} {py : Expr} (hf : freshE e = true) (h : chkE T N sc e py = true) : PE X py (simL D Γ W e) := by
  cases e <;> first | (cases hf; done) | skip
  case lst es => exact sl_lst G h
  case lrg a b => exact sl_lrg G h
  case lc elt t it ifs => exact PE.weak (lc_pe G h).1 fun σ H Q z => lc_t σ H Q (simL_0 z)
  case bin op a b => cases op <;> first | (cases hf; done) | exact sl_add G h | exact sl_mul G h
  case lc2 elt t it t2 it2 ifs => exact PE.weak (lc2_pe G h).1 fun σ H Q z => lc2_t σ H Q (simL_0 z)
  case blt b es => cases b <;> first | (cases hf; done) | exact sl_list G h
def chkR (T : Tab) (N : List Str) (sc : Scope) : R → Expr → Bool
  | .e e, py => chkE T N sc e py
  | .own e, py => freshE e && chkE T N sc e py
  | .popAt i e, py => match py with
    | .Call (.Attribute (.Name x _) name apos) [p] [] cpos => decide (name = "pop") && (apos.endLine == cpos.line) && decide (N[i]? = some x) && visB sc x && plainN x && tame p && chkE T N sc e p
    | _ => false
  | .pop i, py => match py with
    | .Call (.Attribute (.Name x _) name apos) [] [] cpos => decide (name = "pop") && (apos.endLine == cpos.line) && decide (N[i]? = some x) && visB sc x && plainN x
    | _ => false
def quiet : R → Bool
  | .e _ => true
  | .own _ => true
  | _ => false
theorem simQ_e {e : EV.E} {H : Hp} {Q : VK} (z : simQ D Γ W (.e e) σ H Q) : simE D Γ W e σ H Q := by
  obtain ⟨P, g, h, env, k, kx, st, hk, pv, px⟩ := z
  exact ⟨P, g, h, env, _, kx, st, hk, fun v h' g' H' x a e ok r => pv v h' g' H' x [] a e (st.avoid.ext e ok) (.of r) (by simp), px⟩
theorem simQ_own {e : EV.E} {H : Hp} {Q : VK} (z : simQ D Γ W (.own e) σ H Q) : simL D Γ W e σ H Q := by
  obtain ⟨P, g, h, env, k, kx, st, hk, pv, px⟩ := z
  refine ⟨P, g, h, env, _, kx, st, hk, fun xs h' g' H' p vs a e ok h0 h1 r f u => pv (.mls xs) h' g' H' (.ref p) [p] a e (st.avoid.ext e ok) ⟨p, vs, rfl, rfl, h1, r, f, u⟩ (by simpa using h0), px, fun v h' a => ?_⟩
  cases v <;> first | (cases a; done) | exact ⟨_, rfl⟩
theorem sd_Q (G : Gd D T Γ N sc n W X) {r : R} {py : Expr} (hq : quiet r = true) (h : chkR T N sc r py = true) : PE X py (simQ D Γ W r) := by
  cases r with
  | e e => exact PE.weak (sdE e G _ h).pe fun σ H Q z => simQ_e z
  | own e =>
    have h' : (freshE e && chkE T N sc e py) = true := h
    rw [Bool.and_eq_true] at h'
    exact PE.weak (sl_fresh G h'.1 h'.2) fun σ H Q z => simQ_own z
  | _ => cases hq
end
end EV
namespace EV
open PySem PySem.Spec PyProof.Rows L2

section
variable {D : Dat} {T : Tab} {Γ : Sem} {N : List Str} {sc : Scope} {n : Nat} {W : WX} {X : Cx}
variable {g g' : Gs} {H H' : Hp} {h h' : Hs} {P P' : Addr → Prop} {env : EV.Env} {σ : L2.St} {b : Bs}
/-- an owned list may be changed -/
theorem Sta.mut (hP : ∀ a, P a → b.H0 a = none) (br : Br b g H) (st : Sta D P g h H env σ) {i : Nat} {xs : List Val} (e : getV env i = some (.mls xs)) :
    ∃ p vs, σ[i]? = some (some (.ref p)) ∧ H p = some (.lst vs) ∧ VRs D.K g xs vs ∧ ∀ ys ws, VRs D.K g ys ws → Br b g (upd H p (.lst ws)) ∧ Sta D P g h (upd H p (.lst ws)) (env.set i (some (.mls ys))) σ := by
  obtain ⟨p, vs, h1, h2, h3, h4, h5, h6, _⟩ := st.er.own1 e
  refine ⟨p, vs, h2, h3, h4, fun ys ws r => ?_⟩
  obtain ⟨m1, m2⟩ := br.mut (o := .lst ws) st.ok (hP p h1) h5 h6
  exact ⟨m1, st.er.mutL e h2 r, m2⟩
theorem Sta.mutM (hP : ∀ a, P a → b.H0 a = none) (br : Br b g H) (st : Sta D P g h H env σ) {i : Nat} {w : Val} {xs : List Val} (e : getM env i = some (w, xs)) :
    ∃ p vs, σ[i]? = some (some (.ref p)) ∧ H p = some (.lst vs) ∧ VRs D.K g xs vs ∧ ∀ ys ws, VRs D.K g ys ws → Br b g (upd H p (.lst ws)) ∧ Sta D P g h (upd H p (.lst ws)) (env.set i (some (mlPut w ys))) σ := by
  obtain ⟨p, vs, h1, h2, h3, h4, h5, h6, _⟩ := st.er.own1M e
  refine ⟨p, vs, h2, h3, h4, fun ys ws r => ?_⟩
  obtain ⟨m1, m2⟩ := br.mut (o := .lst ws) st.ok (hP p h1) h5 h6
  exact ⟨m1, st.er.mutM e h2 r, m2⟩
theorem vrs_dropLast {xs : List Val} {vs : List L2.V} (r : VRs D.K g xs vs) : VRs D.K g xs.dropLast vs.dropLast := by
  rw [List.dropLast_eq_take, List.dropLast_eq_take, ← r.length]
  exact r.take _
theorem sd_popAt (G : Gd D T Γ N sc n W X) {i : Nat} {e : EV.E} {py : Expr} (h : chkR T N sc (.popAt i e) py = true) : PE X py (simR D Γ W (.popAt i e)) := by
  simp only [chkR] at h
  split at h
  · rename_i x xp name apos p cpos
    simp only [Bool.and_eq_true, decide_eq_true_eq] at h
    obtain ⟨⟨⟨⟨⟨⟨h1, h2⟩, h3⟩, h4⟩, h5⟩, h6⟩, h7⟩ := h
    subst h1
    have s1 := tame_star h6 [] X.env
    refine PE.weak (pe_bm (T := "list") (id := "list.pop") PySem.F.plainAttrs_list PySem.F.slot_list_pop PySem.F.type_list_pop mt_popAt (pe_var (i := i) (G.hN h3) (G.vis h4) (plainN_d h5).1 (plainN_d h5).2.1) (pa_cons (sdE e G _ h7).pe pa_nil s1) rfl (by rw [s1]; rfl) h2 s1 rfl) ?_
    rintro σ H Q ⟨b, P, g, h, env, k, kx, hP, br, st, hk, pv, px⟩
    simp only [evr] at hk
    split at hk
    · rename_i xs exs
      obtain ⟨p0, vs0, q1, q2, q3, _⟩ := st.mut hP br exs
      refine ⟨.ref p0, q1, .inl ⟨rfl, vs0, SqL.of q2⟩, seqE st hk px fun v h1 g1 H1 y hk1 e1 st1 px1 r1 => ?_⟩
      cases r1 <;> first | (cases hk1; done) | skip
      rename_i j
      have hk2 : (match L2.ixN xs.length j with
          | some m => if -(2 ^ 63) ≤ j ∧ j < 2 ^ 63 then stepK xs[m]? fun v => k v (env.set i (some (.mls (xs.eraseIdx m)))) h1 else false
          | none => false) = true := hk1
      split at hk2
      · rename_i m hm
        split at hk2
        · rename_i hz
          obtain ⟨v, hv, hk3⟩ := stepK_some hk2
          obtain ⟨p1, vs, w1, w2, w3, w4⟩ := (st.avoid.ext e1 st1.ok).mut (b := b) (fun a z => hP a z.1) (br.ext e1) exs
          rw [q1] at w1
          cases w1
          obtain ⟨y, ey, ry⟩ := w3.get hv
          obtain ⟨m1, m2⟩ := w4 _ _ (w3.eraseIdx m)
          refine ⟨p0, vs, j, m, y, rfl, rfl, w2, hz.1, hz.2, by rw [← w3.length]; exact (ixN_seq hm).1, ey, ?_⟩
          exact pv v _ _ _ _ _ [] hk3 m1 m2 (.of ry) (by simp)
        · cases hk2
      · cases hk2
    · cases hk
  · cases h
theorem sd_pop (G : Gd D T Γ N sc n W X) {i : Nat} {py : Expr} (h : chkR T N sc (.pop i) py = true) : PE X py (simR D Γ W (.pop i)) := by
  simp only [chkR] at h
  split at h
  · rename_i x xp name apos cpos
    simp only [Bool.and_eq_true, decide_eq_true_eq] at h
    obtain ⟨⟨⟨⟨h1, h2⟩, h3⟩, h4⟩, h5⟩ := h
    subst h1
    refine PE.weak (pe_bm0 (T := "list") (id := "list.pop") PySem.F.plainAttrs_list PySem.F.slot_list_pop PySem.F.type_list_pop mt_pop (pe_var (i := i) (G.hN h3) (G.vis h4) (plainN_d h5).1 (plainN_d h5).2.1) rfl h2) ?_
    rintro σ H Q ⟨b, P, g, h, env, k, kx, hP, br, st, hk, pv, px⟩
    simp only [evr] at hk
    split at hk
    · rename_i xs exs
      obtain ⟨v, hv, hk3⟩ := stepK_some hk
      obtain ⟨p0, vs, q1, q2, q3, w4⟩ := st.avoid.mut (b := b) (fun a z => hP a z.1) br exs
      obtain ⟨y, ey, ry⟩ := q3.get hv
      obtain ⟨m1, m2⟩ := w4 _ _ (vrs_dropLast q3)
      refine ⟨.ref p0, q1, .inl ⟨rfl, vs, SqL.of q2⟩, p0, vs, y, rfl, rfl, q2, by rw [← q3.length]; exact ey, ?_⟩
      exact pv v _ _ _ _ _ [] hk3 m1 m2 (.of ry) (by simp)
    · cases hk
  · cases h
theorem sd_R (G : Gd D T Γ N sc n W X) {r : R} {py : Expr} (h : chkR T N sc r py = true) : PE X py (simR D Γ W r) := by
  cases r with
  | e e => exact PE.weak (sd_Q G rfl h) fun σ H Q z => simR_Q z
  | own e => exact PE.weak (sd_Q G rfl h) fun σ H Q z => simR_Q z
  | popAt i e => exact sd_popAt G h
  | pop i => exact sd_pop G h

/-! what goes on behind a statement -/
structure PostC (D : Dat) (W : WX) (D' : Ends) (b : Bs) (c : C) : Prop where
  nx : ∀ env h g H σ, c.nx env h = true → Br b g H → Sta D (Pb b) g h H env σ → D'.nx σ H
  bk : ∀ env h g H σ, c.bk env h = true → Br b g H → Sta D (Pb b) g h H env σ → D'.bk σ H
  ct : ∀ env h g H σ, c.ct env h = true → Br b g H → Sta D (Pb b) g h H env σ → D'.ct σ H
  rt : ∀ env v h g H σ x ps, c.rt env v h = true → Br b g H → Sta D (Pb b) g h H env σ → OV D g H ps v x → (∀ p ∈ ps, b.H0 p = none) → D'.rt x H
  kx : ∀ env v h g H σ cls d, c.kx env v h = true → Br b g H → Sta D (Pb b) g h H env σ → XR D.K g H v cls d → W cls d σ H
def simS (D : Dat) (Γ : Sem) (W : WX) (s : S) : TS := fun D' σ H => ∃ b g h env c, Br b g H ∧ Sta D (Pb b) g h H env σ ∧ ex D.X Γ s env h c = true ∧ PostC D W D' b c
def simSs (D : Dat) (Γ : Sem) (W : WX) (s : Ss) : TS := fun D' σ H => ∃ b g h env c, Br b g H ∧ Sta D (Pb b) g h H env σ ∧ exs D.X Γ s env h c = true ∧ PostC D W D' b c
theorem PostC.px {D' : Ends} {c : C} (pc : PostC D W D' b c) (br : Br b g H) (st : Sta D (Pb b) g h H env σ) : PostX D W σ g H (c.kx env) :=
  fun v h' g' H' cls d a e ok xr => pc.kx env v h' g' H' σ cls d a (br.ext e) (st.ext e ok) xr
theorem Sta.un (st : Sta D (fun a => Pb b a ∧ H a ≠ none) g' h' H' env σ) : Sta D (Pb b) g' h' H' env σ := st.weakP fun _ z => z.1
/-- behind the right side -/
theorem seqR_ {D' : Ends} {c : C} {r : R} {k : Val → EV.Env → Hs → Bool} {Q : VK} (pc : PostC D W D' b c) (br : Br b g H) (st : Sta D (Pb b) g h H env σ) (hk : evr D.X Γ r env h k (c.kx env) = true)
    (nx : ∀ v env' h' g' H' x ps, k v env' h' = true → Br b g' H' → Sta D (fun a => Pb b a ∧ H a ≠ none) g' h' H' env' σ → OV D g' H' ps v x → (∀ p ∈ ps, H p = none) → Q x H') : simR D Γ W r σ H Q :=
  ⟨b, Pb b, g, h, env, k, _, fun _ z => z, br, st, hk, nx, pc.px br st⟩
/-- no comprehension -/
def nc : Expr → Bool
  | .ListComp .. => false
  | .SetComp .. => false
  | .DictComp .. => false
  | _ => true
theorem nc_sw {e : Expr} (h : nc e = true) (t : Option Expr) (l : Nat) (env : PySem.Env) : swapsWith e t l env = pure false := by
  cases e <;> first | rfl | cases h
theorem nc_sole {e : Expr} (h : nc e = true) (t : Expr) (l : Nat) (env : PySem.Env) : swapsWithSole [t] e l env = pure false := nc_sw h _ _ _
theorem sw_nt {t : Expr} {e : Expr} (ht : ∀ a k p, t ≠ .Tuple a k p) (ht2 : ∀ a p, t ≠ .List a p) (env : PySem.Env) : swappedStores [t] e env = pure none := by
  cases t <;> first | exact absurd rfl (ht _ _ _) | exact absurd rfl (ht2 _ _) | rfl
theorem ss_expr (G : Gd D T Γ N sc n W X) {r : R} {p : Expr} {pos : Pos} (hn : nc p = true) (h : chkR T N sc r p = true) : PS X (.Expr p pos) (simS D Γ W (.expr r)) := by
  refine PS.weak (ps_expr (sd_R G h) (nc_sw hn _ _ _)) ?_
  rintro D' σ H ⟨b, g, h, env, c, br, st, hk, pc⟩
  exact seqR_ pc br st hk fun v env' h' g' H' x ps a br1 st1 ov np => pc.nx env' h' g' H' σ a br1 st1.un
theorem ss_ret (G : Gd D T Γ N sc n W X) {r : R} {p : Expr} {pos : Pos} (h : chkR T N sc r p = true) : PS X (.Return (some p) pos) (simS D Γ W (.ret r)) := by
  refine PS.weak (ps_ret (sd_R G h)) ?_
  rintro D' σ H ⟨b, g, h, env, c, br, st, hk, pc⟩
  refine seqR_ pc br st hk fun v env' h' g' H' x ps a br1 st1 ov np => ?_
  exact pc.rt env' v h' g' H' σ x ps a br1 st1.un ov fun p hp => br.none (np p hp)
theorem ss_put {D' : Ends} {c : C} (pc : PostC D W D' b c) {i : Nat} {v : Val} {x : L2.V} {ps : List Addr} (br0 : Br b g H) (hk : put i v env h' c.nx = true) (br : Br b g' H') (st : Sta D (fun a => Pb b a ∧ H a ≠ none) g' h' H' env σ) (ov : OV D g' H' ps v x) (np : ∀ p ∈ ps, H p = none) : D'.nx (σ.set i (some x)) H' := by
  unfold put at hk
  split at hk
  · rw [fV_eq] at hk
    refine pc.nx _ h' g' H' _ hk br ⟨(st.er.put ov (fun p hp z => z.2 (np p hp)) i).weakP ?_, st.ok⟩
    rintro a (z | z)
    · exact z.1
    · exact br0.none (np a z)
  · cases hk
def lcOk (sc : Scope) (x : Str) (px : Pos) : Expr → Bool
  | .ListComp _ _ scope pos => (match sc.names.lookup x with | some .local => true | _ => false) && (px.line == pos.line) && !(scope.names.any fun (n, k) => n == x && (k == .local || k == .cell))
  | _ => false
theorem lcOk_sw (hk : X.env.scope.kind = .function) (hs : X.env.scope = sc) {x : Str} {px : Pos} {py : Expr} (h : lcOk sc x px py = true) (l : Nat) : X.env.scope.names.lookup x = some .local ∧ swapsWith py (some (.Name x px)) l X.env = pure true := by
  unfold lcOk at h
  split at h
  · simp only [Bool.and_eq_true, Bool.not_eq_true'] at h
    obtain ⟨⟨h1, h2⟩, h3⟩ := h
    have hy : X.env.scope.names.lookup x = some .local := by
      rw [hs]
      split at h1
      · assumption
      · cases h1
    exact ⟨hy, sw_true hk hy h2 h3⟩
  · cases h
structure GdS (D : Dat) (T : Tab) (Γ : Sem) (N : List Str) (sc : Scope) (n : Nat) (W : WX) (X : Cx) : Prop where
  gd : Gd D T Γ N sc n W X
  hp : PassesOwn (model X.prog X.w) X.A X.env X.xe
  kind : sc.kind = .function
  loc : ∀ x, locB sc x = true → Loc X.env.scope x ∧ (X.fn x = true ∨ X.env.scope.names.lookup x = some .local)
/-- a comprehension that a cell takes -/
def cellOk (sc : Scope) (x : Str) : Expr → Bool
  | .ListComp _ _ _ _ => (match sc.names.lookup x with | some .cell => true | _ => false)
  | _ => false
theorem cellOk_sw (hs : X.env.scope = sc) {x : Str} {px : Pos} {py : Expr} (h : cellOk sc x py = true) (l : Nat) : swapsWith py (some (.Name x px)) l X.env = pure false := by
  unfold cellOk at h
  split at h
  · have hy : X.env.kindOf x = some .cell := by
      show X.env.scope.names.lookup x = _
      rw [hs]
      split at h
      · assumption
      · cases h
    unfold swapsWith
    simp only [hy]
    rw [show ((some NameKind.cell == some NameKind.local) : Bool) = false from rfl, Bool.and_false, Bool.false_and, Bool.false_and]
  · cases h
theorem ss_set (G : GdS D T Γ N sc n W X) {i : Nat} {r : R} {x : Str} {px pos : Pos} {p : Expr} (hi : N[i]? = some x) (hl : locB sc x = true) (hn : (nc p = true ∨ cellOk sc x p = true) ∨ lcOk sc x px p = true) (h : chkR T N sc r p = true) : PS X (.Assign [.Name x px] p pos) (simS D Γ W (.set (.name i) r)) := by
  have key : PS X (.Assign [.Name x px] p pos) (tAsg (simR D Γ W r) (gName i)) := by
    obtain ⟨l1, l2⟩ := G.loc x hl
    rcases hn with hn | hn
    · exact ps_set G.gd.hnd (G.gd.hN hi) l1 (sd_R G.gd h) (hn.elim (fun z => nc_sw z _ _ _) fun z => cellOk_sw G.gd.eSc z _) l2
    · obtain ⟨k1, k2⟩ := lcOk_sw (X := X) (by rw [G.gd.eSc]; exact G.kind) G.gd.eSc hn pos.line
      have lc : ∀ e, (r = .e e ∨ r = .own e) → (∃ elt t it ifs, e = .lc elt t it ifs) ∨ ∃ elt t it t2 it2 ifs, e = .lc2 elt t it t2 it2 ifs := by
        intro e he
        unfold lcOk at hn
        split at hn
        · rename_i pe pg ps pp
          have hc : chkE T N sc e (.ListComp pe pg ps pp) = true := by
            rcases he with rfl | rfl
            · exact h
            · have h' : (freshE e && chkE T N sc e (.ListComp pe pg ps pp)) = true := h
              rw [Bool.and_eq_true] at h'
              exact h'.2
          cases e <;> first | exact .inl ⟨_, _, _, _, rfl⟩ | exact .inr ⟨_, _, _, _, _, _, rfl⟩ | (unfold chkE at hc; cases hc)
        · cases hn
      cases r with
      | e e =>
        rcases lc e (.inl rfl) with ⟨elt, t, it, ifs, rfl⟩ | ⟨elt, t, it, t2, it2, ifs, rfl⟩
        rotate_left
        · exact PS.weak ((lc2_pe G.gd (D := D) (T := T) h).2 i x px pos (G.gd.hN hi) k1 k2) fun D' σ H z => lc2_t (D := D) σ H _ (simE_L0 (simQ_e (simR_Q z)))
        exact PS.weak ((lc_pe G.gd (D := D) (T := T) h).2 i x px pos (G.gd.hN hi) k1 k2) fun D' σ H z => lc_t (D := D) σ H _ (simE_L0 (simQ_e (simR_Q z)))
      | own e =>
        rcases lc e (.inr rfl) with ⟨elt, t, it, ifs, rfl⟩ | ⟨elt, t, it, t2, it2, ifs, rfl⟩
        rotate_left
        · have h' : (freshE (.lc2 elt t it t2 it2 ifs) && chkE T N sc (.lc2 elt t it t2 it2 ifs) p) = true := h
          rw [Bool.and_eq_true] at h'
          exact PS.weak ((lc2_pe G.gd (D := D) (T := T) h'.2).2 i x px pos (G.gd.hN hi) k1 k2) fun D' σ H z => lc2_t (D := D) σ H _ (simL_0 (simQ_own (simR_Q z)))
        have h' : (freshE (.lc elt t it ifs) && chkE T N sc (.lc elt t it ifs) p) = true := h
        rw [Bool.and_eq_true] at h'
        exact PS.weak ((lc_pe G.gd (D := D) (T := T) h'.2).2 i x px pos (G.gd.hN hi) k1 k2) fun D' σ H z => lc_t (D := D) σ H _ (simL_0 (simQ_own (simR_Q z)))
      | popAt j e =>
        unfold lcOk at hn
        split at hn
        · simp [chkR] at h
        · cases hn
      | pop j =>
        unfold lcOk at hn
        split at hn
        · simp [chkR] at h
        · cases hn
  refine PS.weak key ?_
  rintro D' σ H ⟨b, g, h, env, c, br, st, hk, pc⟩
  exact seqR_ pc br st hk fun v env' h' g' H' x ps a br1 st1 ov np => ss_put pc br a br1 st1 ov np
theorem ss_append (G : Gd D T Γ N sc n W X) {i : Nat} {r : R} {x name : Str} {xp apos cpos pos : Pos} {p : Expr} (h1 : name = "append") (h2 : (apos.endLine == cpos.line) = true) (h3 : N[i]? = some x) (h4 : visB sc x = true) (h5 : plainN x = true) (h6 : tame p = true) (h7 : chkR T N sc r p = true) :
    PS X (.Expr (.Call (.Attribute (.Name x xp) name apos) [p] [] cpos) pos) (simS D Γ W (.append i r)) := by
  subst h1
  have s1 := tame_star h6 [] X.env
  refine PS.weak (ps_expr (pe_bm (T := "list") (id := "list.append") PySem.F.plainAttrs_list PySem.F.slot_list_append PySem.F.type_list_append mt_append (pe_var (i := i) (G.hN h3) (G.vis h4) (plainN_d h5).1 (plainN_d h5).2.1) (pa_cons (sd_R G h7) pa_nil s1) rfl (by rw [s1]; rfl) h2 s1 rfl) rfl) ?_
  rintro D' σ H ⟨b, g, h, env, c, br, st, hk, pc⟩
  simp only [ex] at hk
  split at hk
  · rename_i xs0 exs0
    obtain ⟨p0, vs0, q1, q2, q3, _⟩ := st.mut (b := b) (fun _ z => z) br exs0
    refine ⟨.ref p0, q1, .inl ⟨rfl, vs0, SqL.of q2⟩, seqR_ pc br st hk fun v env' h' g' H' x ps hk1 br1 st1 ov np => ?_⟩
    split at hk1
    · split at hk1
      · rename_i xs exs
        split at hk1
        · rename_i hz
          rw [fV_eq] at hk1
          obtain ⟨p1, vs, w1, w2, w3, w4⟩ := st1.un.mut (b := b) (fun _ z => z) br1 exs
          rw [q1] at w1
          cases w1
          obtain ⟨m1, m2⟩ := w4 _ _ (w3.append (.cons (ov.data (by assumption)).2 .nil))
          exact ⟨p0, vs, x, rfl, rfl, w2, by rw [← w3.length]; exact hz, pc.nx _ _ _ _ _ hk1 m1 m2⟩
        · cases hk1
      · cases hk1
    · cases hk1
  · cases hk
theorem ss_insert (G : Gd D T Γ N sc n W X) {i : Nat} {a b : EV.E} {x name : Str} {xp apos cpos pos : Pos} {p q : Expr} (h1 : name = "insert") (h2 : (apos.endLine == cpos.line) = true) (h3 : N[i]? = some x) (h4 : visB sc x = true) (h5 : plainN x = true) (h6 : tame p = true) (h6' : tame q = true) (h7 : chkE T N sc a p = true) (h7' : chkE T N sc b q = true) :
    PS X (.Expr (.Call (.Attribute (.Name x xp) name apos) [p, q] [] cpos) pos) (simS D Γ W (.insert i a b)) := by
  subst h1
  have s2 := tame_star h6' [] X.env
  have s1 := tame_star h6 [q] X.env
  refine PS.weak (ps_expr (pe_bm (T := "list") (id := "list.insert") PySem.F.plainAttrs_list PySem.F.slot_list_insert PySem.F.type_list_insert mt_insert (pe_var (i := i) (G.hN h3) (G.vis h4) (plainN_d h5).1 (plainN_d h5).2.1) (pa_cons (sdE a G _ h7).pe (pa_cons (sdE b G _ h7').pe pa_nil s2) s1) rfl (by rw [s1, s2]; rfl) h2 s1 (by rw [s2]; rfl)) rfl) ?_
  rintro D' σ H ⟨b0, g, h, env, c, br, st, hk, pc⟩
  simp only [ex] at hk
  split at hk
  · rename_i xs exs
    obtain ⟨p0, vs0, q1, q2, q3, _⟩ := st.mut (b := b0) (fun _ z => z) br exs
    refine ⟨.ref p0, q1, .inl ⟨rfl, vs0, SqL.of q2⟩, seqE st hk (pc.px br st) fun v h1 g1 H1 y hk1 e1 st1 px1 r1 => ?_⟩
    cases r1 <;> first | (cases hk1; done) | skip
    rename_i k
    have hk1' : ev D.X Γ b env h1 (fun v h => if xs.length < sizeLine ∧ 0 ≤ k ∧ k < 2 ^ 63 then fV v fun v => c.nx (env.set i (some (.mls (xs.take k.toNat ++ [v] ++ xs.drop k.toNat)))) h else false) (c.kx env) = true := hk1
    refine seqE st1 hk1' px1 fun v h2 g2 H2 y hk2 e2 st2 px2 r2 => ?_
    split at hk2
    · rename_i hz
      rw [fV_eq] at hk2
      obtain ⟨p1, vs, w1, w2, w3, w4⟩ := st2.mut (b := b0) (fun _ z => z) ((br.ext e1).ext e2) exs
      rw [q1] at w1
      cases w1
      obtain ⟨m1, m2⟩ := w4 _ _ (((w3.take k.toNat).append (.cons r2 .nil)).append (w3.drop k.toNat))
      exact ⟨p0, vs, k, y, rfl, rfl, w2, by rw [← w3.length]; exact hz.1, hz.2.1, hz.2.2, pc.nx _ _ _ _ _ hk2 m1 m2⟩
    · cases hk2
  · cases hk
theorem ss_extend (G : Gd D T Γ N sc n W X) {i : Nat} {a : EV.E} {x name : Str} {xp apos cpos pos : Pos} {p : Expr} (h1 : name = "extend") (h2 : (apos.endLine == cpos.line) = true) (h3 : N[i]? = some x) (h4 : visB sc x = true) (h5 : plainN x = true) (h6 : tame p = true) (h7 : chkE T N sc a p = true) :
    PS X (.Expr (.Call (.Attribute (.Name x xp) name apos) [p] [] cpos) pos) (simS D Γ W (.extend i a)) := by
  subst h1
  have s1 := tame_star h6 [] X.env
  refine PS.weak (ps_expr (pe_bm (T := "list") (id := "list.extend") PySem.F.plainAttrs_list PySem.F.slot_list_extend PySem.F.type_list_extend mt_extend (pe_var (i := i) (G.hN h3) (G.vis h4) (plainN_d h5).1 (plainN_d h5).2.1) (pa_cons (sdE a G _ h7).pe pa_nil s1) rfl (by rw [s1]; rfl) h2 s1 rfl) rfl) ?_
  rintro D' σ H ⟨b0, g, h, env, c, br, st, hk, pc⟩
  simp only [ex] at hk
  split at hk
  · rename_i xs exs
    obtain ⟨p0, vs0, q1, q2, q3, _⟩ := st.mut (b := b0) (fun _ z => z) br exs
    refine ⟨.ref p0, q1, .inl ⟨rfl, vs0, SqL.of q2⟩, seqE st hk (pc.px br st) fun v h1 g1 H1 y hk1 e1 st1 px1 r1 => ?_⟩
    cases r1 <;> first | (cases hk1; done) | skip
    rename_i p2 ys ws s2 rw2
    have hk2 : (if xs.length + ys.length ≤ sizeLine then c.nx (env.set i (some (.mls (xs ++ ys)))) h1 else false) = true := hk1
    split at hk2
    · rename_i hz
      obtain ⟨p1, vs, w1, w2, w3, w4⟩ := st1.mut (b := b0) (fun _ z => z) (br.ext e1) exs
      rw [q1] at w1
      cases w1
      obtain ⟨m1, m2⟩ := w4 _ _ (w3.append rw2)
      exact ⟨p0, p2, vs, ws, rfl, rfl, w2, st1.ok.fh _ _ s2, by rw [← w3.length, ← rw2.length]; exact hz, pc.nx _ _ _ _ _ hk2 m1 m2⟩
    · cases hk2
  · cases hk
theorem tame_sub {i : Expr} (h : tame i = true) (o : Expr) (pos : Pos) (env : PySem.Env) : ∀ v, assign (.Subscript o i pos) env v = (do
      let ov ← holding [v] (eval o env)
      let iv ← holding [v, ov] (eval i env)
      standAt pos
      holding [v, ov, iv] (setItem ov iv v)
      release [v, ov, iv] []) := by
  intro v
  cases i <;> first | rfl | (simp [tame] at h)
theorem ss_setIx (G : Gd D T Γ N sc n W X) {i : Nat} {e r : EV.E} {x : Str} {xp spos pos : Pos} {p q : Expr} (h3 : N[i]? = some x) (h4 : visB sc x = true) (h5 : plainN x = true) (h6 : tame q = true) (hn : nc p = true) (h7 : chkE T N sc e q = true) (h8 : chkE T N sc r p = true) :
    PS X (.Assign [.Subscript (.Name x xp) q spos] p pos) (simS D Γ W (.setIx i e r)) := by
  refine PS.weak (ps_asg (sdE r G _ h8).pe (pg_sub (pe_var (i := i) (G.hN h3) (G.vis h4) (plainN_d h5).1 (plainN_d h5).2.1) (sdE e G _ h7).pe set_list (tame_sub h6 _ _ _)) (nc_sole hn _ _ _) (sw_nt (by intro _ _ _ z; cases z) (by intro _ _ z; cases z) _)) ?_
  rintro D' σ H ⟨b0, g, h, env, c, br, st, hk, pc⟩
  simp only [ex] at hk
  split at hk
  · rename_i w xs exs
    refine seqE st hk (pc.px br st) fun v h1 g1 H1 y hk1 e1 st1 px1 r1 => ?_
    obtain ⟨p0, vs0, q1, q2, q3, _⟩ := st1.mutM (b := b0) (fun _ z => z) (br.ext e1) exs
    refine ⟨.ref p0, q1, seqE st1 hk1 px1 fun u h2 g2 H2 z hk2 e2 st2 px2 r2 => ?_⟩
    cases r2 <;> first | (cases hk2; done) | skip
    rename_i k
    have hk3 : (match L2.ixN xs.length k with
          | some j => fV v fun v => c.nx (env.set i (some (mlPut w (xs.set j v)))) h2
          | none => false) = true := hk2
    split at hk3
    · rename_i j hj
      rw [fV_eq] at hk3
      obtain ⟨p1, vs, w1, w2, w3, w4⟩ := st2.mutM (b := b0) (fun _ z => z) ((br.ext e1).ext e2) exs
      rw [q1] at w1
      cases w1
      obtain ⟨m1, m2⟩ := w4 _ _ (w3.set (e2.vr r1) j)
      exact ⟨p0, vs, k, j, rfl, rfl, w2, by rw [← w3.length]; exact hj, pc.nx _ _ _ _ _ hk3 m1 m2⟩
    · cases hk3
  · cases hk
theorem ss_divmod (G : Gd D T Γ N sc n W X) {i j : Nat} {e a b : EV.E} {x y f : Str} {fp xp sp yp cp tp pos : Pos} {kt : Nat} {q pa pb : Expr} (hf : f = "divmod") (hg : glB sc f = true) (h3 : N[i]? = some x) (h4 : visB sc x = true) (h5 : plainN x = true) (h6 : tame q = true)
    (hj : N[j]? = some y) (hl : Loc X.env.scope y ∧ (X.fn y = true ∨ X.env.scope.names.lookup y = some .local)) (ha : tame pa = true) (hb : tame pb = true) (h7 : chkE T N sc e q = true) (h8 : chkE T N sc a pa = true) (h9 : chkE T N sc b pb = true) :
    PS X (.Assign [.Tuple [.Subscript (.Name x xp) q sp, .Name y yp] kt tp] (.Call (.Name f fp) [pa, pb] [] cp) pos) (simS D Γ W (.setDm i e j a b)) := by
  subst hf
  have s2 := tame_star hb [] X.env
  have s1 := tame_star ha [pb] X.env
  refine PS.weak (ps_asg (pe_callB call_divmod (G.gl hg) (G.mgN (by decide +kernel)) (bval_boot .divmod) (pa_cons (sdE a G _ h8).pe (pa_cons (sdE b G _ h9).pe pa_nil s2) s1) (by decide +kernel) (by decide +kernel) s1 (by rw [s2]; rfl))
    (pg_tup (n := 2) G.calm (pgs_cons (pg_sub (pe_var (i := i) (G.hN h3) (G.vis h4) (plainN_d h5).1 (plainN_d h5).2.1) (sdE e G _ h7).pe set_list (tame_sub h6 _ _ _)) (pgs_cons (pg_name (i := j) G.hnd (G.hN hj) hl.1 hl.2) pgs_nil rfl) rfl) rfl rfl) rfl rfl rfl) ?_
  rintro D' σ H ⟨b0, g, h, env, c, br, st, hk, pc⟩
  simp only [ex] at hk
  split at hk
  · rename_i w xs exs
    refine seqE st hk (pc.px br st) fun v h1 g1 H1 z hk1 e1 st1 px1 r1 => ?_
    refine seqE st1 hk1 px1 fun u h2 g2 H2 w' hk2 e2 st2 px2 r2 => ?_
    cases r1 <;> first | (cases hk2; done) | skip
    rename_i p
    cases r2 <;> first | (cases hk2; done) | skip
    rename_i m
    have hk3 : (if 0 < m ∧ m < 1073741824 then ev D.X Γ e env h2 (fun z h => match z with
            | .int k => match L2.ixN xs.length k with
              | some t => fInt (p / m) fun v => put j (.int (p % m)) (env.set i (some (mlPut w (xs.set t (.int v))))) h c.nx
              | none => false
            | _ => false) (c.kx env) else false) = true := hk2
    split at hk3
    · rename_i hm
      refine ⟨p, m, rfl, ?_, fun tpl htp => ?_⟩
      · exact hm
      · obtain ⟨m1, m2⟩ := loose_ex (o := .tup [L2.V.int (p / m), L2.V.int (p % m)]) st2.ok htp
        have st3 := st2.ext m1 m2
        have br3 := ((br.ext e1).ext e2).ext m1
        refine ⟨tpl, _, rfl, SqT.of upd_same, rfl, _, _, rfl, ?_⟩
        obtain ⟨p0, vs0, q1, q2, q3, _⟩ := st3.mutM (b := b0) (fun _ z => z) br3 exs
        refine ⟨.ref p0, q1, seqE st3 hk3 (px2.ext m1) fun z h4 g4 H4 w4 hk4 e4 st4 px4 r4 => ?_⟩
        cases r4 <;> first | (cases hk4; done) | skip
        rename_i k
        have hk5 : (match L2.ixN xs.length k with
              | some t => fInt (p / m) fun v => put j (.int (p % m)) (env.set i (some (mlPut w (xs.set t (.int v))))) h4 c.nx
              | none => false) = true := hk4
        split at hk5
        · rename_i t ht
          rw [fInt_eq] at hk5
          obtain ⟨p1, vs, w1, w2, w3, w4⟩ := st4.mutM (b := b0) (fun _ z => z) (br3.ext e4) exs
          rw [q1] at w1
          cases w1
          obtain ⟨n1, n2⟩ := w4 _ _ (w3.set (.int (p / m)) t)
          refine ⟨p0, vs, k, t, rfl, rfl, w2, by rw [← w3.length]; exact ht, _, _, rfl, ?_⟩
          unfold put at hk5
          split at hk5
          · rw [fV_eq] at hk5
            exact ⟨rfl, pc.nx _ _ _ _ _ hk5 n1 ⟨n2.er.set (.int _), n2.ok⟩⟩
          · cases hk5
        · cases hk5
    · cases hk3
  · cases hk
end
end EV
namespace EV
open PySem PySem.Spec PyProof.Rows L2

theorem blk_fun {env : PySem.Env} (hk : env.scope.kind = .function) : env.blockKind = .function := by unfold PySem.Env.blockKind; rw [hk]; rfl
theorem sw_len {ts vs : List Expr} {a c : Nat} {b d : Pos} {env : PySem.Env} (h : (ts.length == 2 || ts.length == 3) = false) : swappedStores [.Tuple ts a b] (.Tuple vs c d) env = pure none := by
  unfold swappedStores
  simp only [h]
  rfl
theorem sw_fold {ts vs : List Expr} {a c : Nat} {b d : Pos} {env : PySem.Env} (h : vs.all (foldedForSure 8) = true) : swappedStores [.Tuple ts a b] (.Tuple vs c d) env = pure none := by
  unfold swappedStores
  simp only [h]
  repeat' (first | rfl | split)

theorem sw_2 {x y : Str} {px py pt pt2 : Pos} {kt k2 : Nat} {a b : Expr} {env : PySem.Env} (hk : env.scope.kind = .function) (hx : env.scope.names.lookup x = some .local) (hy : env.scope.names.lookup y = some .local) (hl : (py.line == px.line) = true) (hne : (y == x) = false)
    (ht : allTame [a, b] = true) (hf : [a, b].all (foldedForSure 8) = false) (hc : [a, b].all (constantsAlone 8) = false) : swappedStores [.Tuple [.Name x px, .Name y py] kt pt] (.Tuple [a, b] k2 pt2) env = pure (some [x, y]) := by
  have kx : (env.kindOf x == some NameKind.local) = true := by unfold PySem.Env.kindOf; rw [hx]; rfl
  have ky : (env.kindOf y == some NameKind.local) = true := by unfold PySem.Env.kindOf; rw [hy]; rfl
  have hst : ([a, b].any fun e => match e with | .Starred .. => true | _ => false) = false := by
    unfold allTame at ht
    simp only [List.all_cons, List.all_nil, Bool.and_true, Bool.and_eq_true] at ht
    have : ∀ e : Expr, tame e = true → (match e with | .Starred .. => true | _ => false) = false := by intro e h; cases e <;> first | rfl | (simp [tame] at h)
    simp only [List.any_cons, List.any_nil, this a ht.1, this b ht.2]; rfl
  have hn : ([Expr.Name x px, Expr.Name y py].filterMap fun e => match e with | .Name id pos => if (env.kindOf id == some NameKind.local && pos.line == px.line) = true then some id else none | _ => none) = [x, y] := by
    simp only [List.filterMap_cons, List.filterMap_nil, kx, ky, hl, beq_self_eq_true, Bool.and_true, if_true]
  have he : ([x, y].eraseDups).length = 2 := by
    simp [List.eraseDups_cons, hne]
  unfold swappedStores
  simp only [blk_fun hk]
  show (if (([a, b].any fun e => match e with | .Starred .. => true | _ => false) = true) then pure none else _) = _
  rw [hst]
  simp only [Bool.false_eq_true, if_false]
  have h0 : (Option.map (fun x => x.pos.line) [Expr.Name x px, Expr.Name y py].head?).getD 0 = px.line := rfl
  rw [h0]
  simp only [List.filterMap_cons, List.filterMap_nil, kx, ky, hl, beq_self_eq_true, Bool.and_true, if_true, Bool.and_self, hf, hc]
  show (if (([x, y].length != 2 || [x, y].eraseDups.length != [x, y].length) = true) then _ else _) = _
  rw [he]
  rfl

theorem sw_3 {x y z : Str} {px py pz pt pt2 : Pos} {kt k2 : Nat} {a b c : Expr} {env : PySem.Env} (hk : env.scope.kind = .function) (hx : env.scope.names.lookup x = some .local) (hy : env.scope.names.lookup y = some .local) (hz : env.scope.names.lookup z = some .local) (hl : (py.line == px.line) = true) (hl2 : (pz.line == px.line) = true)
    (hne : (y == x) = false) (hne2 : (z == x) = false) (hne3 : (z == y) = false)
    (ht : allTame [a, b, c] = true) (hf : [a, b, c].all (foldedForSure 8) = false) (hc : [a, b, c].all (constantsAlone 8) = false) : swappedStores [.Tuple [.Name x px, .Name y py, .Name z pz] kt pt] (.Tuple [a, b, c] k2 pt2) env = pure (some [x, y, z]) := by
  have kx : (env.kindOf x == some NameKind.local) = true := by unfold PySem.Env.kindOf; rw [hx]; rfl
  have ky : (env.kindOf y == some NameKind.local) = true := by unfold PySem.Env.kindOf; rw [hy]; rfl
  have kz : (env.kindOf z == some NameKind.local) = true := by unfold PySem.Env.kindOf; rw [hz]; rfl
  have hst : ([a, b, c].any fun e => match e with | .Starred .. => true | _ => false) = false := by
    unfold allTame at ht
    simp only [List.all_cons, List.all_nil, Bool.and_true, Bool.and_eq_true] at ht
    have : ∀ e : Expr, tame e = true → (match e with | .Starred .. => true | _ => false) = false := by intro e h; cases e <;> first | rfl | (simp [tame] at h)
    simp only [List.any_cons, List.any_nil, this a ht.1, this b ht.2.1, this c ht.2.2]; rfl
  have he : ([x, y, z].eraseDups).length = 3 := by
    simp [List.eraseDups_cons, hne, hne2, hne3]
  unfold swappedStores
  simp only [blk_fun hk]
  show (if (([a, b, c].any fun e => match e with | .Starred .. => true | _ => false) = true) then pure none else _) = _
  rw [hst]
  simp only [Bool.false_eq_true, if_false]
  have h0 : (Option.map (fun x => x.pos.line) [Expr.Name x px, Expr.Name y py, Expr.Name z pz].head?).getD 0 = px.line := rfl
  rw [h0]
  simp only [List.filterMap_cons, List.filterMap_nil, kx, ky, kz, hl, hl2, beq_self_eq_true, Bool.and_true, if_true, Bool.and_self, hf, hc]
  show (if (([x, y, z].length != 3 || [x, y, z].eraseDups.length != [x, y, z].length) = true) then _ else _) = _
  rw [he]
  rfl

section
variable {D : Dat} {T : Tab} {Γ : Sem} {N : List Str} {sc : Scope} {n : Nat} {W : WX} {X : Cx}
variable {g g' : Gs} {H H' : Hp} {h h' : Hs} {P P' : Addr → Prop} {env : EV.Env} {σ : L2.St} {b : Bs}
/-! a, b = x, y -/
inductive OVs (D : Dat) (g : Gs) (H : Hp) : List Addr → List Val → List L2.V → Prop where
  | nil : OVs D g H [] [] []
  | cons {ps qs : List Addr} {v : Val} {x : L2.V} {vs : List Val} {xs : List L2.V} : OV D g H ps v x → OVs D g H qs vs xs → OVs D g H (ps ++ qs) (v :: vs) (x :: xs)
theorem OVs.ext (e : Ex g H g' H') : ∀ {ps : List Addr} {vs : List Val} {xs : List L2.V}, OVs D g H ps vs xs → OVs D g' H' ps vs xs
  | _, _, _, .nil => .nil
  | _, _, _, .cons a r => .cons (a.ext e) (OVs.ext e r)
theorem OVs.length : ∀ {ps : List Addr} {vs : List Val} {xs : List L2.V}, OVs D g H ps vs xs → vs.length = xs.length
  | _, _, _, .nil => rfl
  | _, _, _, .cons _ r => by simp [OVs.length r]
def simQs (D : Dat) (Γ : Sem) (W : WX) (rs : List R) : TA := fun σ H Q => ∃ P g h env k kx, Sta D P g h H env σ ∧ evrs D.X Γ rs env h k kx = true ∧
  (∀ vs h' g' H' xs ps, k vs h' = true → Ex g H g' H' → Sta D (fun a => P a ∧ H a ≠ none) g' h' H' env σ → OVs D g' H' ps vs xs → ps.Nodup → (∀ p ∈ ps, H p = none) → Q xs H') ∧ PostX D W σ g H kx
def chkRs (T : Tab) (N : List Str) (sc : Scope) : List R → List Expr → Bool
  | [], [] => true
  | r :: rs, p :: ps => quiet r && tame p && chkR T N sc r p && chkRs T N sc rs ps
  | _, _ => false
theorem chkRs_tame : ∀ {rs : List R} {ps : List Expr}, chkRs T N sc rs ps = true → allTame ps = true ∧ rs.length = ps.length
  | [], [], _ => ⟨rfl, rfl⟩
  | [], _ :: _, h => by simp [chkRs] at h
  | _ :: _, [], h => by simp [chkRs] at h
  | r :: rs, p :: ps, h => by
    simp only [chkRs, Bool.and_eq_true] at h
    obtain ⟨h1, h2⟩ := chkRs_tame h.2
    unfold allTame at h1 ⊢
    exact ⟨by rw [List.all_cons, h.1.1.2, h1]; rfl, by simp [h2]⟩
theorem Ex.back (e : Ex g H g' H') {p : Addr} (hp : H' p = none) : H p = none := by
  cases q : H p with
  | none => rfl
  | some o => exact absurd hp (e.th p (by rw [q]; simp))
theorem sd_Qs (G : Gd D T Γ N sc n W X) : ∀ (rs : List R) (ps : List Expr), chkRs T N sc rs ps = true → PA X ps (simQs D Γ W rs)
  | [], [], _ => by
    refine PA.weak pa_nil ?_
    rintro σ H Q ⟨P, g, h, env, k, kx, st, hk, pv, px⟩
    exact pv [] h g H [] [] hk (Ex.refl _ _) st.avoid .nil List.nodup_nil (by simp)
  | [], _ :: _, h => by simp [chkRs] at h
  | _ :: _, [], h => by simp [chkRs] at h
  | r :: rs, p :: ps, h => by
    simp only [chkRs, Bool.and_eq_true] at h
    refine PA.weak (pa_cons (sd_Q G h.1.1.1 h.1.2) (sd_Qs G rs ps h.2) (tame_star h.1.1.2 _ _)) ?_
    rintro σ H Q ⟨P, g, h, env, k, kx, st, hk, pv, px⟩
    refine ⟨P, g, h, env, _, kx, st, hk, fun v h1 g1 H1 x p1 hk1 e1 st1 ov1 np1 => ?_, px⟩
    refine ⟨_, g1, h1, env, _, kx, st1, hk1, fun vs h2 g2 H2 xs qs hk2 e2 st2 ovs nd nq => ?_, px.ext e1⟩
    refine pv (v :: vs) h2 g2 H2 (x :: xs) (p1 ++ qs) hk2 (e1.trans e2) (st2.weakP fun a z => z.1) (.cons (ov1.ext e2) ovs) ?_ ?_
    · rw [List.nodup_append]
      exact ⟨ov1.there.1, nd, fun a ha c hc e => ov1.there.2 a ha (by rw [e]; exact nq c hc)⟩
    · intro q hq
      rcases List.mem_append.mp hq with z | z
      · exact np1 q z
      · exact e1.back (nq q z)
def setAll (σ : L2.St) : List Nat → List L2.V → L2.St
  | i :: is, x :: xs => setAll (σ.set i (some x)) is xs
  | _, _ => σ
theorem putAll_ok {k : EV.Env → Hs → Bool} : ∀ {is : List Nat} {ps : List Addr} {vs : List Val} {xs : List L2.V} {env : EV.Env} {σ : L2.St} {P : Addr → Prop}, OVs D g H ps vs xs → EnvR D.K g H P env σ → ps.Nodup → (∀ p ∈ ps, ¬ P p) → putAll is vs env h k = true →
    is.length = xs.length ∧ ∃ env', k env' h = true ∧ EnvR D.K g H (fun a => P a ∨ a ∈ ps) env' (setAll σ is xs)
  | [], _, _, _, env, σ, P, .nil, er, nd, np, hk => ⟨rfl, env, hk, er.weakP fun a z => .inl z⟩
  | i :: is, _, _, _, env, σ, P, .nil, er, nd, np, hk => by cases hk
  | [], _, _, _, env, σ, P, .cons _ _, er, nd, np, hk => by cases hk
  | i :: is, _, _, _, env, σ, P, @OVs.cons _ _ _ ps qs v x vs xs ov r, er, nd, np, hk => by
    simp only [putAll, put] at hk
    split at hk
    · rw [fV_eq] at hk
      rw [List.nodup_append] at nd
      have er' := er.put ov (fun p hp => np p (List.mem_append_left _ hp)) i
      obtain ⟨l, env', k1, k2⟩ := putAll_ok (is := is) r er' nd.2.1 (fun p hp z => z.elim (np p (List.mem_append_right _ hp)) fun y => nd.2.2 p y p hp rfl) hk
      refine ⟨by simp [l], env', k1, k2.weakP fun a z => ?_⟩
      rcases z with (z | z) | z
      · exact .inl z
      · exact .inr (List.mem_append_left _ z)
      · exact .inr (List.mem_append_right _ z)
    · cases hk
def chkNs (N : List Str) (sc : Scope) : List Nat → List Expr → Bool
  | [], [] => true
  | i :: is, .Name x _ :: ps => decide (N[i]? = some x) && locB sc x && chkNs N sc is ps
  | _, _ => false
def gNames : List Nat → TGs
  | [] => gNil
  | i :: is => gCons (gName i) (gNames is)
theorem chkNs_pg (G : GdS D T Γ N sc n W X) : ∀ (is : List Nat) (ps : List Expr), chkNs N sc is ps = true → PGs X ps (gNames is) ∧ ps.length = is.length ∧ allTame ps = true
  | [], [], _ => ⟨pgs_nil, rfl, rfl⟩
  | [], _ :: _, h => by simp [chkNs] at h
  | _ :: _, [], h => by simp [chkNs] at h
  | i :: is, p :: ps, h => by
    cases p <;> first | (simp [chkNs] at h; done) | skip
    rename_i x px
    simp only [chkNs, Bool.and_eq_true, decide_eq_true_eq] at h
    obtain ⟨k1, k2, k3⟩ := chkNs_pg G is ps h.2
    obtain ⟨l1, l2⟩ := G.loc x h.1.2
    refine ⟨pgs_cons (pg_name (i := i) G.gd.hnd (G.gd.hN h.1.1) l1 l2) k1 rfl, by simp [k2], ?_⟩
    unfold allTame at k3 ⊢
    rw [List.all_cons, k3]; rfl
theorem gNames_ok {Q : L2.St → Hp → Prop} : ∀ {is : List Nat} {xs : List L2.V} {σ : L2.St}, is.length = xs.length → Q (setAll σ is xs) H → gNames is xs σ H Q
  | [], [], _, _, q => ⟨rfl, q⟩
  | [], _ :: _, _, l, _ => by simp at l
  | _ :: _, [], _, l, _ => by simp at l
  | i :: is, x :: xs, σ, l, q => ⟨x, xs, rfl, gNames_ok (is := is) (xs := xs) (by simpa using l) q⟩
/-- stored one after another, or from the right -/
def parB (sc : Scope) : List Expr → List Expr → Bool
  | [.Name x px, .Name y py], [a, b] => (match sc.names.lookup x with | some .local => true | _ => false) && (match sc.names.lookup y with | some .local => true | _ => false) && (py.line == px.line) && !(y == x) && !([a, b].all (foldedForSure 8)) && !([a, b].all (constantsAlone 8))
  | [.Name x px, .Name y py, .Name z pz], [a, b, c] => (match sc.names.lookup x with | some .local => true | _ => false) && (match sc.names.lookup y with | some .local => true | _ => false) && (match sc.names.lookup z with | some .local => true | _ => false) && (py.line == px.line) && (pz.line == px.line) && !(y == x) && !(z == x) && !(z == y) && !([a, b, c].all (foldedForSure 8)) && !([a, b, c].all (constantsAlone 8))
  | _, _ => false
theorem locM {x : Str} (hs : X.env.scope = sc) (h : (match sc.names.lookup x with | some .local => true | _ => false) = true) : X.env.scope.names.lookup x = some .local := by
  rw [hs]
  split at h
  · assumption
  · cases h
/-- behind the values -/
theorem seqQs {D' : Ends} {c : C} {is : List Nat} {rs : List R} {Q : List L2.V → Hp → Prop} (pc : PostC D W D' b c) (br : Br b g H) (st : Sta D (Pb b) g h H env σ) (hk : evrs D.X Γ rs env h (fun vs h => putAll is vs env h c.nx) (c.kx env) = true)
    (nx : ∀ xs h1 g1 H1, is.length = xs.length → (∀ g2 H2, Ex g1 H1 g2 H2 → GOk D g2 h1 H2 → D'.nx (setAll σ is xs) H2) → GOk D g1 h1 H1 → Q xs H1) : simQs D Γ W rs σ H Q := by
  refine ⟨Pb b, g, h, env, _, _, st, hk, fun vs h1 g1 H1 xs ps hk1 e1 st1 ovs nd np => ?_, pc.px br st⟩
  have np' : ∀ p ∈ ps, ¬ (Pb b p ∧ H p ≠ none) := fun p hp z => z.2 (np p hp)
  obtain ⟨l, _⟩ := putAll_ok ovs st1.er nd np' hk1
  refine nx xs h1 g1 H1 l (fun g2 H2 e2 ok2 => ?_) st1.ok
  obtain ⟨_, env', k1, k2⟩ := putAll_ok (ovs.ext e2) (st1.er.ext e2) nd np' hk1
  refine pc.nx env' h1 g2 H2 _ k1 ((br.ext e1).ext e2) ⟨k2.weakP ?_, ok2⟩
  rintro a (z | z)
  · exact z.1
  · exact br.none (np a z)
/-- one of the names is a cell: stored one after another -/
def cellT (sc : Scope) (ts : List Expr) : Bool := ts.any fun e => match e with | .Name x _ => (match sc.names.lookup x with | some .cell => true | _ => false) | _ => false
theorem filterMap_short {α β : Type} {f : α → Option β} : ∀ {l : List α} {a : α}, a ∈ l → f a = none → (l.filterMap f).length < l.length
  | x :: l, a, ha, hf => by
    rw [List.filterMap_cons]
    rcases List.mem_cons.mp ha with e | e
    · rw [← e, hf]
      exact Nat.lt_succ_of_le (List.length_filterMap_le f l)
    · have := filterMap_short e hf
      cases f x with
      | none => exact Nat.lt_succ_of_lt this
      | some y => exact Nat.succ_lt_succ this
theorem sw_cell {ts vs : List Expr} {a c : Nat} {b d : Pos} (hs : X.env.scope = sc) (h : cellT sc ts = true) : swappedStores [.Tuple ts a b] (.Tuple vs c d) X.env = pure none := by
  obtain ⟨e, he, h⟩ := List.any_eq_true.mp h
  have hl : ∀ l : Nat, (ts.filterMap fun e => match e with | .Name id pos => if (X.env.kindOf id == some NameKind.local && pos.line == l) = true then some id else none | _ => none).length < ts.length := fun l => by
    refine filterMap_short he ?_
    cases e <;> first | rfl | skip
    rename_i x px
    have hy : X.env.kindOf x = some .cell := by
      show X.env.scope.names.lookup x = _
      rw [hs]
      dsimp only at h
      split at h
      · assumption
      · cases h
    show (if (X.env.kindOf x == some NameKind.local && px.line == l) = true then some x else none) = none
    rw [hy]
    rfl
  have key : ∀ L : List Str, L.length < ts.length → (L.length != ts.length || L.eraseDups.length != L.length) = true := fun L hL => by
    have : (L.length != ts.length) = true := bne_iff_ne.mpr (by omega)
    rw [this]; rfl
  unfold swappedStores
  simp only []
  repeat' (first | rfl | split)
  all_goals (rename_i z _ _; exact absurd (key _ (hl _)) z)
theorem ss_par (G : GdS D T Γ N sc n W X) {is : List Nat} {rs : List R} {ts vs : List Expr} {kt k2 : Nat} {pt pt2 pos : Pos} (h1 : chkNs N sc is ts = true) (h2 : chkRs T N sc rs vs = true) (hz : decide (is.length ≤ 15) = true)
    (h3 : parB sc ts vs = true ∨ (!(ts.length == 2 || ts.length == 3)) = true ∨ vs.all (foldedForSure 8) = true ∨ cellT sc ts = true) : PS X (.Assign [.Tuple ts kt pt] (.Tuple vs k2 pt2) pos) (simS D Γ W (.par is rs)) := by
  have hS : X.env.scope.kind = .function := by rw [G.gd.eSc]; exact G.kind
  obtain ⟨t1, t2⟩ := chkRs_tame h2
  rcases h3 with h3 | h3
  · unfold parB at h3
    split at h3
    · rename_i x px y py a b
      simp only [Bool.and_eq_true, Bool.not_eq_true'] at h3
      obtain ⟨⟨⟨⟨⟨l1, l2⟩, l3⟩, l4⟩, l5⟩, l6⟩ := h3
      cases is with
      | nil => simp [chkNs] at h1
      | cons i is =>
      cases is with
      | nil => simp [chkNs] at h1
      | cons j is =>
      cases is with
      | cons _ _ => simp [chkNs] at h1
      | nil =>
      simp only [chkNs, Bool.and_eq_true, decide_eq_true_eq, Bool.and_true] at h1
      obtain ⟨⟨n1, _⟩, n2, _⟩ := h1
      have v1 := locM G.gd.eSc l1
      have v2 := locM G.gd.eSc l2
      refine PS.weak (ps_par G.gd.calm G.gd.hnd (G.gd.hN n1) (G.gd.hN n2) (fun e => ?_) v1 v2 (sd_Qs G.gd rs _ h2) (sw_2 hS v1 v2 l3 l4 t1 l5 l6) rfl) ?_
      · subst e
        rw [n1] at n2
        cases n2
        simp at l4
      · rintro D' σ H ⟨b, g, h, env, c, br, st, hk, pc⟩
        refine seqQs pc br st hk fun xs h1 g1 H1 l nx ok => ?_
        match xs, l with
        | [v, w], _ => exact ⟨v, w, rfl, nx _ _ (Ex.refl _ _) ok⟩
    · rename_i x px y py z pz a b c
      simp only [Bool.and_eq_true, Bool.not_eq_true'] at h3
      obtain ⟨⟨⟨⟨⟨⟨⟨⟨⟨l1, l2⟩, l3⟩, m1⟩, m2⟩, m3⟩, m4⟩, m5⟩, l5⟩, l6⟩ := h3
      cases is with
      | nil => simp [chkNs] at h1
      | cons i is =>
      cases is with
      | nil => simp [chkNs] at h1
      | cons j is =>
      cases is with
      | nil => simp [chkNs] at h1
      | cons k is =>
      cases is with
      | cons _ _ => simp [chkNs] at h1
      | nil =>
      simp only [chkNs, Bool.and_eq_true, decide_eq_true_eq, Bool.and_true] at h1
      obtain ⟨⟨n1, _⟩, ⟨n2, _⟩, n3, _⟩ := h1
      have v1 := locM G.gd.eSc l1
      have v2 := locM G.gd.eSc l2
      have v3 := locM G.gd.eSc l3
      refine PS.weak (ps_par3 G.gd.calm G.gd.hnd (G.gd.hN n1) (G.gd.hN n2) (G.gd.hN n3) (fun e => ?_) (fun e => ?_) (fun e => ?_) v1 v2 v3 (sd_Qs G.gd rs _ h2) (sw_3 hS v1 v2 v3 m1 m2 m3 m4 m5 t1 l5 l6) rfl) ?_
      · subst e; rw [n1] at n2; cases n2; simp at m3
      · subst e; rw [n1] at n3; cases n3; simp at m4
      · subst e; rw [n2] at n3; cases n3; simp at m5
      · rintro D' σ H ⟨b, g, h, env, c, br, st, hk, pc⟩
        refine seqQs pc br st hk fun xs h1 g1 H1 l nx ok => ?_
        match xs, l with
        | [u, v, w], _ => exact ⟨u, v, w, rfl, nx _ _ (Ex.refl _ _) ok⟩
    · cases h3
  · have sw : swappedStores [.Tuple ts kt pt] (.Tuple vs k2 pt2) X.env = pure none := by
      rcases h3 with h3 | h3 | h3
      · exact sw_len (by simpa using h3)
      · exact sw_fold h3
      · exact sw_cell G.gd.eSc h3
    obtain ⟨a1, a2, a3⟩ := chkNs_pg G is ts h1
    obtain ⟨k1, k2⟩ := tame_asgs a3 X.env
    refine PS.weak (ps_asg (pe_tupZ (sd_Qs G.gd rs vs h2)) (pg_tup (n := is.length) G.gd.calm a1 (by rw [k2, a2]) k1) rfl sw rfl) ?_
    rintro D' σ H ⟨b, g, h, env, c, br, st, hk, pc⟩
    refine seqQs pc br st hk fun xs h1 g1 H1 l nx ok => ⟨?_, fun p o hp hd => ?_⟩
    · rw [← l]
      have := of_decide_eq_true hz
      exact Nat.le_trans this (by show 15 ≤ sizeLine; decide)
    · obtain ⟨m1, m2⟩ := loose_ex (o := .frz o (.tup xs)) ok hp
      refine ⟨p, xs, rfl, .inl (.inr ⟨o, upd_same⟩), l.symm, gNames_ok l (nx _ _ m1 m2)⟩

/-! if, for, while -/
theorem ss_if {t : EV.E} {a b : Ss} {pt : Expr} {pa pb : List Stmt} {pos : Pos} (ht : PT X pt (simT D Γ W t)) (ha : PSs X pa (simSs D Γ W a)) (hb : PSs X pb (simSs D Γ W b)) : PS X (.If pt pa pb pos) (simS D Γ W (.ifS t a b)) := by
  refine PS.weak (ps_if ht ha hb) ?_
  rintro D' σ H ⟨b0, g, h, env, c, br, st, hk, pc⟩
  have hk' : ev D.X Γ t env h (fun x h => match x with | .bl true => exs D.X Γ a env h c | .bl false => exs D.X Γ b env h c | _ => false) (c.kx env) = true := hk
  refine seqT st hk' (pc.px br st) fun v h1 g1 H1 hk1 e1 st1 px1 => ?_
  cases v <;> first | (cases hk1; done) | skip
  rename_i z
  refine ⟨z, rfl, ?_⟩
  cases z with
  | true => exact ⟨b0, g1, h1, env, c, br.ext e1, st1, hk1, pc⟩
  | false => exact ⟨b0, g1, h1, env, c, br.ext e1, st1, hk1, pc⟩
/-- the loop's base -/
abbrev Bs.at (b : Bs) (g : Gs) : Bs := { b with gu := g }
theorem Br.down {g1 : Gs} (u : Up b.gu g1) (x : Br (b.at g1) g H) : Br b g H := ⟨x.ex, u.trans x.up⟩
structure ForI (D : Dat) (b : Bs) (xs : List Val) (body : Val → EV.Env → Hs → C → Bool) (c : C) (i m : Nat) (σ : L2.St) (H : Hp) : Prop where
  ex : ∃ g h env, i + m = xs.length ∧ Br b g H ∧ Sta D (Pb b) g h H env σ ∧ forL body (xs.drop i) env h c = true
theorem ss_for (G : GdS D T Γ N sc n W X) {t : EV.T} {it : EV.I} {bd : Ss} {ptg pit : Expr} {pb : List Stmt} {pos : Pos} (ht : chkT N sc t ptg = true) (hi : chkI T N sc it ptg pit = true) (htm : noSet pit = true) (hb : PSs X pb (simSs D Γ W bd)) :
    PS X (.For ptg pit pb [] pos) (simS D Γ W (.forS t it bd)) := by
  refine PS.weak (ps_for G.hp G.gd.calm (sdI it G.gd _ _ hi) (sd_tg G.gd.eN G.gd.nd G.gd.calm G.gd.eK G.loc t ptg ht) hb (tame_fold htm X.env)) ?_
  rintro D' σ H ⟨b, g, h, env, c, br, st, hk, pc⟩
  have hk' : evi D.X Γ it env h (fun xs h => forL (fun x env h c => stepK (asg t x env) fun env => exs D.X Γ bd env h c) xs env h c) (c.kx env) = true := hk
  refine ⟨Pb b, g, h, env, _, _, st, hk', fun xs h1 g1 H1 J hk1 e1 ok1 jr => ?_, pc.px br st⟩
  have u1 : Up b.gu g1 := br.up.trans e1.up
  refine ⟨ForI D (b.at g1) xs (fun x env h c => stepK (asg t x env) fun env => exs D.X Γ bd env h c) c, ⟨xs.length, g1, h1, env, Nat.zero_add _, ⟨br.ex.trans e1, Up.refl _⟩, st.ext e1 ok1, hk1⟩, ?_⟩
  rintro i m σ' H' ⟨g', h', env', hm, br', st', hc⟩
  by_cases hi : i < xs.length
  · right
    obtain ⟨m, rfl⟩ : ∃ m', m = m' + 1 := ⟨m - 1, by omega⟩
    refine ⟨jr.go i g' h' H' hi br'.up st'.ok, ForI D (b.at g1) xs (fun x env h c => stepK (asg t x env) fun env => exs D.X Γ bd env h c) c (i + 1) m, fun σ2 H2 z => ⟨m, Nat.lt_succ_self _, z⟩, fun y H2 hy => ?_⟩
    have hx : xs[i]? = some xs[i] := List.getElem?_eq_getElem hi
    obtain ⟨g2, e2, ok2, r2⟩ := jr.yld i _ g' h' H' y H2 hx br'.up st'.ok hy
    rw [List.drop_eq_getElem_cons hi] at hc
    simp only [forL] at hc
    obtain ⟨env2, ea, hb2⟩ := stepK_some hc
    refine ⟨Pb b, g2, h', env', xs[i], env2, st'.ext e2 ok2, r2, ea, fun σ2 er2 sb => ?_⟩
    refine ⟨b.at g1, g2, h', env2, _, br'.ext e2, ⟨er2, ok2⟩, hb2, ⟨?_, ?_, ?_, ?_, ?_⟩⟩
    · intro env3 h3 g3 H3 σ3 a br3 st3
      exact ⟨g3, h3, env3, by omega, br3, st3, a⟩
    · intro env3 h3 g3 H3 σ3 a br3 st3
      exact pc.nx env3 h3 g3 H3 σ3 a (br3.down u1) st3
    · intro env3 h3 g3 H3 σ3 a br3 st3
      exact ⟨g3, h3, env3, by omega, br3, st3, a⟩
    · intro env3 v h3 g3 H3 σ3 x ps a br3 st3 r3 np
      exact pc.rt env3 v h3 g3 H3 σ3 x ps a (br3.down u1) st3 r3 np
    · intro env3 v h3 g3 H3 σ3 cls d a br3 st3 xr
      exact pc.kx env3 v h3 g3 H3 σ3 cls d a (br3.down u1) st3 xr
  · left
    have ei : i = xs.length := by omega
    refine ⟨jr.stop i g' h' H' ei br'.up st'.ok, ?_⟩
    rw [List.drop_eq_nil_of_le (by omega)] at hc
    exact pc.nx env' h' g' H' σ' hc (br'.down u1) st'
structure WhlI (D : Dat) (b : Bs) (test : EV.Env → Hs → KB → KV → Bool) (body : EV.Env → Hs → C → Bool) (c : C) (m : Nat) (σ : L2.St) (H : Hp) : Prop where
  ex : ∃ g h env, Br b g H ∧ Sta D (Pb b) g h H env σ ∧ whlL test body m env h c = true
theorem ss_whl (G : GdS D T Γ N sc n W X) {f : Nat} {t : EV.E} {bd : Ss} {pt : Expr} {pb : List Stmt} {pos : Pos} (ht : PT X pt (simT D Γ W t)) (hb : PSs X pb (simSs D Γ W bd)) : PS X (.While pt pb [] pos) (simS D Γ W (.whl f t bd)) := by
  refine PS.weak (ps_while G.hp ht hb) ?_
  rintro D' σ H ⟨b, g, h, env, c, br, st, hk, pc⟩
  refine ⟨WhlI D b (fun env h k kx => ev D.X Γ t env h (fun x h => match x with | .bl b => k b h | _ => false) kx) (fun env h c => exs D.X Γ bd env h c) c, ⟨f, g, h, env, br, st, hk⟩, ?_⟩
  rintro m σ' H' ⟨g', h', env', br', st', hc⟩
  cases m with
  | zero => cases hc
  | succ m =>
    simp only [whlL] at hc
    refine seqT st' hc (pc.px br' st') fun v h1 g1 H1 hk1 e1 st1 px1 => ?_
    cases v <;> first | (cases hk1; done) | skip
    rename_i z
    refine ⟨z, rfl, ?_⟩
    cases z with
    | true =>
      refine ⟨WhlI D b (fun env h k kx => ev D.X Γ t env h (fun x h => match x with | .bl b => k b h | _ => false) kx) (fun env h c => exs D.X Γ bd env h c) c m, fun σ2 H2 z => ⟨m, Nat.lt_succ_self _, z⟩, ?_⟩
      refine ⟨b, g1, h1, env', _, br'.ext e1, st1, hk1, ⟨?_, ?_, ?_, ?_, ?_⟩⟩
      · intro env3 h3 g3 H3 σ3 a br3 st3
        exact ⟨g3, h3, env3, br3, st3, a⟩
      · intro env3 h3 g3 H3 σ3 a br3 st3
        exact pc.nx env3 h3 g3 H3 σ3 a br3 st3
      · intro env3 h3 g3 H3 σ3 a br3 st3
        exact ⟨g3, h3, env3, br3, st3, a⟩
      · exact pc.rt
      · exact pc.kx
    | false => exact pc.nx env' h1 g1 H1 σ' hk1 (br'.ext e1) st1
end
end EV
namespace EV
open PySem PySem.Spec PyProof.Rows L2

/-! attributes of an object that is being made -/
def gFld (K : PySem.W.Frag) (ta : TE) (f : Str) : TG := fun v σ H Q => ta σ H fun x H1 => ∃ a C dx fs, x = .ref a ∧ H1 a = some (.ins C dx fs) ∧ Cls K C ∧ NoAttr K C f ∧ fs.length < 1000 ∧ Q σ (upd H1 a (.ins C dx (putF f v fs)))
theorem pg_fld {X : Cx} {o : Expr} {f : Str} {pos : Pos} {to : TE} (ho : PE X o to) : PG X (.Attribute o f pos) (gFld X.K to f) := by
  refine ⟨fun pins s σ H v u Q I r h => ?_⟩
  have ha : assign (.Attribute o f pos) X.env u = (do
      let ov ← holding [u] (eval o X.env)
      standAt pos.atName
      holding [u, ov] (setAttr ov f u)
      release [u, ov] []) := rfl
  rw [ha]
  refine wpAny_bind (wpAny_holding (thn (ho.run pins s σ H _ I h) fun ov s1 ⟨x, H1, I1, r1, a, C, dx, fs, ex, ea, c, n, l, q1⟩ => ?_))
  subst ex
  obtain rfl : ov = Value.ref a := r1
  refine wpAny_bind (wpAny_standAt (wpAny_bind (wpAny_holding ?_)))
  exact setattr_ok (I1.tok _) ea c n l r fun s3 I3 => wpAny_release ⟨σ, _, I3, q1⟩
def gAtt (K : PySem.W.Frag) (i : Nat) : List Str → TGs
  | [] => gNil
  | f :: fs => gCons (gFld K (tVar i) f) (gAtt K i fs)
section
variable (T : Tab) (N : List Str) (sc : Scope)
def chkAs (i : Nat) : List Nat → List Expr → Bool
  | [], [] => true
  | a :: as, .Attribute (.Name x _) nm _ :: ps => decide (nm = T.an a) && decide (N[i]? = some x) && visB sc x && plainN x && chkAs i as ps
  | _, _ => false
end
section
variable {D : Dat} {T : Tab} {Γ : Sem} {N : List Str} {sc : Scope} {n : Nat} {W : WX} {X : Cx}
variable {g g' : Gs} {H H' : Hp} {h h' : Hs} {P P' : Addr → Prop} {env : EV.Env} {σ : L2.St} {b : Bs}
theorem chkAs_pg (G : GdS D T Γ N sc n W X) {i : Nat} : ∀ (as : List Nat) (ps : List Expr), chkAs T N sc i as ps = true → PGs X ps (gAtt X.K i (as.map T.an)) ∧ ps.length = as.length ∧ allTame ps = true ∧ ∀ (l : Nat) (env : PySem.Env), (ps.filterMap fun e => match e with | .Name id pos => if (env.kindOf id == some NameKind.local && pos.line == l) = true then some id else none | _ => none) = []
  | [], [], _ => ⟨pgs_nil, rfl, rfl, fun _ _ => rfl⟩
  | [], _ :: _, h => by simp [chkAs] at h
  | _ :: _, [], h => by simp [chkAs] at h
  | a :: as, p :: ps, h => by
    cases p <;> first | (simp [chkAs] at h; done) | skip
    rename_i o nm pos
    cases o <;> first | (simp [chkAs] at h; done) | skip
    rename_i x px
    simp only [chkAs, Bool.and_eq_true, decide_eq_true_eq] at h
    obtain ⟨⟨⟨⟨h1, h2⟩, h3⟩, h4⟩, h5⟩ := h
    subst h1
    obtain ⟨k1, k2, k3, k4⟩ := chkAs_pg G as ps h5
    refine ⟨pgs_cons (pg_fld (pe_var (i := i) (G.gd.hN h2) (G.gd.vis h3) (plainN_d h4).1 (plainN_d h4).2.1)) k1 rfl, by simp [k2], ?_, fun l env => ?_⟩
    · unfold allTame at k3 ⊢
      rw [List.all_cons, k3]; rfl
    · rw [List.filterMap_cons]
      exact k4 l env
theorem SR.keepI {o : Option Addr} {v : Val} {x : L2.V} {p : Addr} {u w : HO} (r : SR D.K g H o v x) (hp : H p = some w) (hw : ∃ C dx fs, w = .ins C dx fs) (hn : o ≠ some p) : SR D.K g (upd H p u) o v x := by
  obtain ⟨C0, dx0, ws, rfl⟩ := hw
  cases v <;> first | exact r | skip
  · obtain ⟨a, vs, h1, h2, h3, h4⟩ := r
    refine ⟨a, vs, h1, h2, ?_, h4⟩
    rw [upd_ne fun z => hn (by rw [h1, z])]; exact h3
  · obtain ⟨a, vs, h1, h2, h3, h4⟩ := r
    refine ⟨a, vs, h1, h2, ?_, h4⟩
    rw [upd_ne fun z => hn (by rw [h1, z])]; exact h3
  · obtain ⟨a, C, dx, ns, vs, h1, h2, h3, h4, h5⟩ := r
    refine ⟨a, C, dx, ns, vs, h1, h2, h3, ?_, h5⟩
    rw [upd_ne fun z => hn (by rw [h1, z])]; exact h4
  · obtain ⟨a, C, d, ns, h1, h2, h3, h4⟩ := r
    refine ⟨a, C, d, ns, h1, h2, h3, ?_⟩
    rcases h4 with z | ⟨dd, vs, z1, z2, z3⟩
    · exact .inl z
    · refine .inr ⟨dd, vs, z1, ?_, z3⟩
      rw [upd_ne fun z => by rw [z, hp] at z2; cases z2]; exact z2
theorem zip_put {f : Str} {y : L2.V} : ∀ {ns : List Str} {vs : List L2.V}, ns.length = vs.length → f ∉ ns → putF f y (ns.zip vs) = (ns ++ [f]).zip (vs ++ [y])
  | [], [], _, _ => rfl
  | [], _ :: _, l, _ => by cases l
  | _ :: _, [], l, _ => by cases l
  | n :: ns, v :: vs, l, h => by
    have ih := zip_put (f := f) (y := y) (ns := ns) (vs := vs) (by simpa using l) fun z => h (List.mem_cons_of_mem _ z)
    show (if n = f then (n, y) :: ns.zip vs else (n, v) :: putF f y (ns.zip vs)) = (n, v) :: (ns ++ [f]).zip (vs ++ [y])
    rw [if_neg fun z => h (by rw [z]; exact List.mem_cons_self), ih]
theorem VRs.snoc {xs : List Val} {vs : List L2.V} {x : Val} {v : L2.V} (r : VRs D.K g xs vs) (s : VR D.K g x v) : VRs D.K g (xs ++ [x]) (vs ++ [v]) := by
  induction xs generalizing vs with
  | nil => cases r; exact .cons s .nil
  | cons y ys ih => cases r with | cons a r => exact .cons a (ih r)
theorem putA_ok (G : GdS D T Γ N sc n W X) (hob : T.ob = true) {i a : Nat} {v : Val} {y : L2.V} {k : EV.Env → Hs → Bool} (br : Br b g H) (st : Sta D (Pb b) g h H env σ) (r : VR D.K g v y) (hk : putA D.X i a v env h k = true) :
    ∃ p C dx fs, σ[i]? = some (some (.ref p)) ∧ H p = some (.ins C dx fs) ∧ Cls X.K C ∧ NoAttr X.K C (T.an a) ∧ fs.length < 1000 ∧ ∃ env', k env' h = true ∧ Br b g (upd H p (.ins C dx (putF (T.an a) y fs))) ∧ Sta D (Pb b) g h (upd H p (.ins C dx (putF (T.an a) y fs))) env' σ := by
  unfold putA at hk
  split at hk
  · rename_i cl as fs0 ex
    split at hk
    · rename_i hn
      rw [fV_eq] at hk
      simp only [newA, Bool.and_eq_true, Bool.not_eq_true', decide_eq_true_eq] at hn
      obtain ⟨⟨⟨hd, ho⟩, hna⟩, h900⟩ := hn
      obtain ⟨l, ow, h1, h2, h3⟩ := st.er
      obtain ⟨x, hx, p, C, dx, ns, vs, k1, k2, k3, k4, k5, k6, k7, k8, k9⟩ := h3 i _ (getV_some ex)
      subst k2
      cases hos : D.X.of cl with
      | none => rw [hos] at ho; cases ho
      | some os =>
      rw [hos] at ho
      have ham : a ∈ os := by
        obtain ⟨z, z1, z2⟩ := List.any_eq_true.mp ho
        rw [Nat.eq_of_beq_eq_true z2]; exact z1
      obtain ⟨C2, c1, c2, c3, _⟩ := (G.gd.fns.obj hob cl os hos).ex
      have ecl := st.ok.cl
      rw [ecl.1] at k3
      have z := k3.symm.trans c1
      simp only [Option.some.injEq, Prod.mk.injEq] at z
      obtain ⟨z1, z2⟩ := z
      subst z1
      have ean : D.an = T.an := funext G.gd.fns.an
      have ean2 : g.an = T.an := ecl.2.trans ean
      have hnot : T.an a ∉ as.map T.an := fun z => by
        obtain ⟨q, q1, q2⟩ := List.mem_map.mp z
        have := G.gd.fns.inj _ _ q2
        subst this
        have : as.any (Nat.beq q) = true := List.any_eq_true.mpr ⟨q, q1, Nat.beq_refl q⟩
        rw [hna] at this; cases this
      have hlen : (as.map T.an).length = vs.length := by rw [List.length_map, k5]
      have eK : D.K = X.K := G.gd.eK
      rw [ean2] at k4
      have hz : ((as.map T.an).zip vs).length < 1000 := by rw [List.length_zip, List.length_map]; omega
      have hp0 : b.H0 p = none := h2 i p k1
      obtain ⟨br2, ok2⟩ := br.mut (o := .ins C dx (putF (T.an a) y ((as.map T.an).zip vs))) st.ok hp0 k7 k8
      refine ⟨p, C, dx, _, hx, k4, eK ▸ c2, eK ▸ ean ▸ c3 a ham, hz, _, hk, br2, ⟨⟨by simp [l], ow, h1, h2, fun j u q => ?_⟩, ok2⟩⟩
      by_cases hj : j = i
      · subst hj
        have hlj : j < env.length := by
          have := (List.getElem?_eq_some_iff.mp q).1
          simpa using this
        rw [List.getElem?_set_self hlj] at q
        cases q
        refine ⟨.ref p, hx, p, C, dx, ns, vs ++ [y], k1, rfl, ecl.1 ▸ k3, ?_, by simp [k5], k6.snoc r, k7, k8, k9⟩
        rw [upd_same, ean2, zip_put hlen hnot, List.map_append]
        rfl
      · rw [List.getElem?_set_ne (Ne.symm hj)] at q
        obtain ⟨y2, e1, e2⟩ := h3 j u q
        exact ⟨y2, e1, e2.keepI k4 ⟨_, _, _, rfl⟩ fun w => hj (h1 j i p w k1)⟩
    · cases hk
  · cases hk
theorem ss_setA (G : GdS D T Γ N sc n W X) (hob : T.ob = true) {i a : Nat} {e : EV.E} {x nm : Str} {px pa pos : Pos} {p : Expr} (h1 : nm = T.an a) (h2 : N[i]? = some x) (h3 : visB sc x = true) (h4 : plainN x = true) (hn : nc p = true) (h : chkE T N sc e p = true) :
    PS X (.Assign [.Attribute (.Name x px) nm pa] p pos) (simS D Γ W (.setA i a e)) := by
  subst h1
  refine PS.weak (ps_fld (pe_var (i := i) (G.gd.hN h2) (G.gd.vis h3) (plainN_d h4).1 (plainN_d h4).2.1) (sdE e G.gd _ h).pe (nc_sw hn _ _ _)) ?_
  rintro D' σ H ⟨b, g, h, env, c, br, st, hk, pc⟩
  refine seqE st hk (pc.px br st) fun v h1 g1 H1 y hk1 e1 st1 px1 r1 => ?_
  obtain ⟨q, C, dx, fs, q1, q2, q3, q4, q5, env', q6, q7, q8⟩ := putA_ok G hob (br.ext e1) st1 r1 hk1
  exact ⟨.ref q, q1, q, C, dx, fs, rfl, q2, q3, q4, q5, pc.nx env' h1 g1 _ σ q6 q7 q8⟩
theorem putAs_ok (G : GdS D T Γ N sc n W X) (hob : T.ob = true) {i : Nat} {k : EV.Env → Hs → Bool} {Q : L2.St → Hp → Prop} : ∀ {as : List Nat} {vs : List Val} {xs : List L2.V} {env : EV.Env} {H : Hp}, Br b g H → Sta D (Pb b) g h H env σ → VRs D.K g vs xs → putAs D.X i as vs env h k = true →
    (∀ env' H', k env' h = true → Br b g H' → Sta D (Pb b) g h H' env' σ → Q σ H') → as.length = xs.length ∧ gAtt X.K i (as.map T.an) xs σ H Q
  | [], _, _, env, H, br, st, .nil, hk, nx => ⟨rfl, rfl, nx env H hk br st⟩
  | a :: as, _, _, env, H, br, st, .nil, hk, nx => by cases hk
  | [], _, _, env, H, br, st, .cons _ _, hk, nx => by cases hk
  | a :: as, _, _, env, H, br, st, @VRs.cons _ _ v y vs xs r rs, hk, nx => by
    obtain ⟨q, C, dx, fs, q1, q2, q3, q4, q5, env', q6, q7, q8⟩ := putA_ok G hob br st r hk
    obtain ⟨l, q9⟩ := putAs_ok G hob (as := as) q7 q8 rs q6 nx
    exact ⟨by simp [l], y, xs, rfl, .ref q, q1, q, C, dx, fs, rfl, q2, q3, q4, q5, q9⟩
theorem sw_att {ts vs : List Expr} {a c : Nat} {b d : Pos} {env : PySem.Env} (hl : ts ≠ []) (h : ∀ (l : Nat), (ts.filterMap fun e => match e with | .Name id pos => if (env.kindOf id == some NameKind.local && pos.line == l) = true then some id else none | _ => none) = []) : swappedStores [.Tuple ts a b] (.Tuple vs c d) env = pure none := by
  have hne : (([] : List Str).length != ts.length) = true := by
    cases ts with
    | nil => exact absurd rfl hl
    | cons _ _ => rfl
  have key : ∀ L : List Str, L = [] → (L.length != ts.length || L.eraseDups.length != L.length) = true := by
    rintro _ rfl
    rw [hne]; rfl
  unfold swappedStores
  simp only []
  repeat' (first | rfl | split)
  all_goals (rename_i z _ _; exact absurd (key _ (h _)) z)
theorem ss_parA (G : GdS D T Γ N sc n W X) (hob : T.ob = true) {i : Nat} {as : List Nat} {es : Es} {ts vs : List Expr} {kt k2 : Nat} {pt pt2 pos : Pos} (h1 : chkAs T N sc i as ts = true) (h2 : allTame vs = true) (h3 : chkEs T N sc es vs = true) (hz : decide (as.length ≤ 15) = true) (hn : as.isEmpty = false) :
    PS X (.Assign [.Tuple ts kt pt] (.Tuple vs k2 pt2) pos) (simS D Γ W (.parA i as es)) := by
  obtain ⟨a1, a2, a3, a4⟩ := chkAs_pg G as ts h1
  obtain ⟨k1, k2⟩ := tame_asgs a3 X.env
  have hts : ts ≠ [] := fun z => by
    rw [z] at a2
    cases as with
    | nil => cases hn
    | cons _ _ => cases a2
  refine PS.weak (ps_asg (pe_tupZ (pes_pa (sdEs es G.gd vs h3) h2)) (pg_tup (n := as.length) G.gd.calm a1 (by rw [k2, a2]) k1) rfl (sw_att hts fun l => a4 l X.env) rfl) ?_
  rintro D' σ H ⟨b, g, h, env, c, br, st, hk, pc⟩
  refine seqA st hk (pc.px br st) fun vs' h1' g1 H1 xs hk1 e1 st1 px1 r1 => ?_
  have br1 := br.ext e1
  obtain ⟨l, _⟩ := putAs_ok (Q := fun _ _ => True) G hob br1 st1 r1 hk1 fun _ _ _ _ _ => trivial
  refine ⟨?_, fun p o hp hd => ?_⟩
  · rw [← l]
    have := of_decide_eq_true hz
    exact Nat.le_trans this (by show 15 ≤ sizeLine; decide)
  · obtain ⟨m1, m2⟩ := loose_ex (o := .frz o (.tup xs)) st1.ok hp
    obtain ⟨_, q⟩ := putAs_ok (Q := D'.nx) G hob (br1.ext m1) (st1.ext m1 m2) (m1.vrs r1) hk1 fun env' H' a b c => pc.nx env' h1' g1 H' σ a b c
    exact ⟨p, xs, rfl, .inl (.inr ⟨o, upd_same⟩), l.symm, q⟩
end
end EV
namespace EV
open PySem PySem.Spec PyProof.Rows L2

def ntup : Expr → Bool
  | .Tuple .. => false
  | _ => true
section
variable (T : Tab) (N : List Str)
mutual
def chkS (sc : Scope) : S → Stmt → Bool
  | .expr r, py => match py with
    | .Expr p _ => nc p && chkR T N sc r p
    | _ => false
  | .ret r, py => match py with
    | .Return (some p) _ => chkR T N sc r p
    | _ => false
  | .retN, py => match py with
    | .Return none _ => true
    | _ => false
  | .set t r, py => match t with
    | .name i => match py with
      | .Assign [.Name x px] p _ => decide (N[i]? = some x) && locB sc x && (nc p || cellOk sc x p || lcOk sc x px p) && chkR T N sc r p
      | _ => false
    | .tup ts => match py with
      | .Assign [.Tuple ps _ _] p _ => nc p && chkTs N sc ts ps && (match r with | .e e => chkE T N sc e p | _ => false) && ntup p
      | _ => false
  | .par is rs, py => match py with
    | .Assign [.Tuple ts _ _] (.Tuple vs _ _) _ => chkNs N sc is ts && chkRs T N sc rs vs && decide (is.length ≤ 15) && (parB sc ts vs || !(ts.length == 2 || ts.length == 3) || vs.all (foldedForSure 8) || cellT sc ts)
    | _ => false
  | .append i r, py => match py with
    | .Expr (.Call (.Attribute (.Name x _) name apos) [p] [] cpos) _ => decide (name = "append") && (apos.endLine == cpos.line) && decide (N[i]? = some x) && visB sc x && plainN x && tame p && chkR T N sc r p
    | _ => false
  | .setIx i e r, py => match py with
    | .Assign [.Subscript (.Name x _) q _] p _ => decide (N[i]? = some x) && visB sc x && plainN x && tame q && nc p && chkE T N sc e q && chkE T N sc r p
    | _ => false
  | .insert i a b, py => match py with
    | .Expr (.Call (.Attribute (.Name x _) name apos) [p, q] [] cpos) _ => decide (name = "insert") && (apos.endLine == cpos.line) && decide (N[i]? = some x) && visB sc x && plainN x && tame p && tame q && chkE T N sc a p && chkE T N sc b q
    | _ => false
  | .extend i e, py => match py with
    | .Expr (.Call (.Attribute (.Name x _) name apos) [p] [] cpos) _ => decide (name = "extend") && (apos.endLine == cpos.line) && decide (N[i]? = some x) && visB sc x && plainN x && tame p && chkE T N sc e p
    | _ => false
  | .setDm i e j a b, py => match py with
    | .Assign [.Tuple [.Subscript (.Name x _) q _, .Name y _] _ _] (.Call (.Name f _) [pa, pb] [] _) _ => decide (f = "divmod") && glB sc f && decide (N[i]? = some x) && visB sc x && plainN x && tame q && decide (N[j]? = some y) && locB sc y && tame pa && tame pb && chkE T N sc e q && chkE T N sc a pa && chkE T N sc b pb
    | _ => false
  | .ifS t a b, py => match py with
    | .If pt pa pb _ => chkE T N sc t pt && chkSs sc a pa && chkSs sc b pb
    | _ => false
  | .forS t it b, py => match py with
    | .For ptg pit pb [] _ => chkT N sc t ptg && chkI T N sc it ptg pit && noSet pit && chkSs sc b pb
    | _ => false
  | .whl _ t b, py => match py with
    | .While pt pb [] _ => chkE T N sc t pt && chkSs sc b pb
    | _ => false
  | .brk, py => match py with | .Break _ => true | _ => false
  | .cont, py => match py with | .Continue _ => true | _ => false
  | .pass, py => match py with | .Pass _ => true | _ => false
  | .never, _ => true
  | .raise _ _, _ => false
  | .tryS _ _, _ => false
  | .setA i a e, py => match py with
    | .Assign [.Attribute (.Name x _) nm _] p _ => T.ob && decide (nm = T.an a) && decide (N[i]? = some x) && visB sc x && plainN x && nc p && chkE T N sc e p
    | _ => false
  | .parA i as es, py => match py with
    | .Assign [.Tuple ts _ _] (.Tuple vs _ _) _ => T.ob && chkAs T N sc i as ts && allTame vs && chkEs T N sc es vs && decide (as.length ≤ 15) && !as.isEmpty
    | _ => false
  | .setF _ _ _, _ => false
def chkSs (sc : Scope) : Ss → List Stmt → Bool
  | .nil, ps => match ps with | [] => true | _ => false
  | .cons s ss, ps => match ps with
    | p :: ps => chkS sc s p && chkSs sc ss ps
    | _ => false
  | .frz _ ss, ps => chkSs sc ss ps
end
end

section
variable {D : Dat} {T : Tab} {Γ : Sem} {N : List Str} {sc : Scope} {n : Nat}
theorem ss_tup {W : WX} {X : Cx} (G : GdS D T Γ N sc n W X) {ts : List EV.T} {e : EV.E} {ps : List Expr} {p : Expr} {k : Nat} {tp pos : Pos} (hn : nc p = true) (ht : chkTs N sc ts ps = true) (h : chkE T N sc e p = true) (hv : ntup p = true) :
    PS X (.Assign [.Tuple ps k tp] p pos) (simS D Γ W (.set (.tup ts) (.e e))) := by
  have sw : swappedStores [.Tuple ps k tp] p X.env = pure none := by
    cases p <;> first | rfl | cases hv
  have hT : chkT N sc (.tup ts) (.Tuple ps k tp) = true := by unfold chkT; exact ht
  refine PS.weak (ps_asg (sdE e G.gd _ h).pe (sd_tg G.gd.eN G.gd.nd G.gd.calm G.gd.eK G.loc (.tup ts) _ hT) (nc_sole hn _ _ _) sw rfl) ?_
  rintro D' σ H ⟨b, g, h, env, c, br, st, hk, pc⟩
  refine seqE st hk (pc.px br st) fun v h1 g1 H1 x hk1 e1 st1 px1 r1 => ?_
  obtain ⟨env', ea, hb⟩ := stepK_some hk1
  exact ⟨Pb b, g1, h1, env, v, env', st1, r1, ea, fun σ' er' _ => pc.nx env' h1 g1 H1 σ' hb (br.ext e1) ⟨er', st1.ok⟩⟩
mutual
/-- every statement that fits -/
theorem sdS : ∀ (s : S) {sc : Scope} {W : WX} {X : Cx}, GdS D T Γ N sc n W X → ∀ py, chkS T N sc s py = true → PS X py (simS D Γ W s)
  | .expr r, sc, W, X, G, py, h => by
    unfold chkS at h
    split at h
    · rw [Bool.and_eq_true] at h
      exact ss_expr G.gd h.1 h.2
    · cases h
  | .ret r, sc, W, X, G, py, h => by
    unfold chkS at h
    split at h
    · exact ss_ret G.gd h
    · cases h
  | .retN, sc, W, X, G, py, h => by
    unfold chkS at h
    split at h
    · refine PS.weak ps_retN ?_
      rintro D' σ H ⟨b, g, h, env, c, br, st, hk, pc⟩
      exact pc.rt env .non h g H σ .non [] hk br st (.of .non) (by simp)
    · cases h
  | .set t r, sc, W, X, G, py, h => by
    unfold chkS at h
    cases t with
    | name i =>
      dsimp only at h
      split at h
      · simp only [Bool.and_eq_true, decide_eq_true_eq, Bool.or_eq_true] at h
        exact ss_set G h.1.1.1 h.1.1.2 h.1.2 h.2
      · cases h
    | tup ts =>
      dsimp only at h
      split at h
      · simp only [Bool.and_eq_true] at h
        obtain ⟨⟨⟨h1, h2⟩, h3⟩, h4⟩ := h
        cases r <;> first | (cases h3; done) | skip
        exact ss_tup G h1 h2 h3 h4
      · cases h
  | .par is rs, sc, W, X, G, py, h => by
    unfold chkS at h
    split at h
    · simp only [Bool.and_eq_true, Bool.or_eq_true] at h
      obtain ⟨⟨⟨h1, h2⟩, h3⟩, h4⟩ := h
      exact ss_par G h1 h2 h3 (by rcases h4 with ((q | q) | q) | q <;> simp [q])
    · cases h
  | .append i r, sc, W, X, G, py, h => by
    unfold chkS at h
    split at h
    · simp only [Bool.and_eq_true, decide_eq_true_eq] at h
      obtain ⟨⟨⟨⟨⟨⟨h1, h2⟩, h3⟩, h4⟩, h5⟩, h6⟩, h7⟩ := h
      exact ss_append G.gd h1 h2 h3 h4 h5 h6 h7
    · cases h
  | .setIx i e r, sc, W, X, G, py, h => by
    unfold chkS at h
    split at h
    · simp only [Bool.and_eq_true, decide_eq_true_eq] at h
      obtain ⟨⟨⟨⟨⟨⟨h1, h2⟩, h3⟩, h4⟩, h5⟩, h6⟩, h7⟩ := h
      exact ss_setIx G.gd h1 h2 h3 h4 h5 h6 h7
    · cases h
  | .insert i a b, sc, W, X, G, py, h => by
    unfold chkS at h
    split at h
    · simp only [Bool.and_eq_true, decide_eq_true_eq] at h
      obtain ⟨⟨⟨⟨⟨⟨⟨⟨h1, h2⟩, h3⟩, h4⟩, h5⟩, h6⟩, h7⟩, h8⟩, h9⟩ := h
      exact ss_insert G.gd h1 h2 h3 h4 h5 h6 h7 h8 h9
    · cases h
  | .extend i e, sc, W, X, G, py, h => by
    unfold chkS at h
    split at h
    · simp only [Bool.and_eq_true, decide_eq_true_eq] at h
      obtain ⟨⟨⟨⟨⟨⟨h1, h2⟩, h3⟩, h4⟩, h5⟩, h6⟩, h7⟩ := h
      exact ss_extend G.gd h1 h2 h3 h4 h5 h6 h7
    · cases h
  | .setDm i e j a b, sc, W, X, G, py, h => by
    unfold chkS at h
    split at h
    · simp only [Bool.and_eq_true, decide_eq_true_eq] at h
      obtain ⟨⟨⟨⟨⟨⟨⟨⟨⟨⟨⟨⟨h1, h2⟩, h3⟩, h4⟩, h5⟩, h6⟩, h7⟩, h8⟩, h9⟩, h10⟩, h11⟩, h12⟩, h13⟩ := h
      exact ss_divmod G.gd h1 h2 h3 h4 h5 h6 h7 (G.loc _ h8) h9 h10 h11 h12 h13
    · cases h
  | .ifS t a b, sc, W, X, G, py, h => by
    unfold chkS at h
    split at h
    · simp only [Bool.and_eq_true] at h
      exact ss_if (sdE t G.gd _ h.1.1).pt (sdSs a G _ h.1.2) (sdSs b G _ h.2)
    · cases h
  | .forS t it b, sc, W, X, G, py, h => by
    unfold chkS at h
    split at h
    · simp only [Bool.and_eq_true] at h
      exact ss_for G h.1.1.1 h.1.1.2 h.1.2 (sdSs b G _ h.2)
    · cases h
  | .whl f t b, sc, W, X, G, py, h => by
    unfold chkS at h
    split at h
    · simp only [Bool.and_eq_true] at h
      exact ss_whl G (sdE t G.gd _ h.1).pt (sdSs b G _ h.2)
    · cases h
  | .brk, sc, W, X, G, py, h => by
    unfold chkS at h
    split at h
    · refine PS.weak ps_break ?_
      rintro D' σ H ⟨b, g, h, env, c, br, st, hk, pc⟩
      exact pc.bk env h g H σ hk br st
    · cases h
  | .cont, sc, W, X, G, py, h => by
    unfold chkS at h
    split at h
    · refine PS.weak ps_continue ?_
      rintro D' σ H ⟨b, g, h, env, c, br, st, hk, pc⟩
      exact pc.ct env h g H σ hk br st
    · cases h
  | .pass, sc, W, X, G, py, h => by
    unfold chkS at h
    split at h
    · refine PS.weak ps_pass ?_
      rintro D' σ H ⟨b, g, h, env, c, br, st, hk, pc⟩
      exact pc.nx env h g H σ hk br st
    · cases h
  | .never, sc, W, X, G, py, h => by
    refine PS.weak ps_never ?_
    rintro D' σ H ⟨b, g, h, env, c, br, st, hk, pc⟩
    cases hk
  | .raise _ _, sc, W, X, G, py, h => by unfold chkS at h; cases h
  | .tryS _ _, sc, W, X, G, py, h => by unfold chkS at h; cases h
  | .setA i a e, sc, W, X, G, py, h => by
    unfold chkS at h
    split at h
    · simp only [Bool.and_eq_true, decide_eq_true_eq] at h
      obtain ⟨⟨⟨⟨⟨⟨hob, h1⟩, h2⟩, h3⟩, h4⟩, h5⟩, h6⟩ := h
      exact ss_setA G hob h1 h2 h3 h4 h5 h6
    · cases h
  | .parA i as es, sc, W, X, G, py, h => by
    unfold chkS at h
    split at h
    · simp only [Bool.and_eq_true, Bool.not_eq_true'] at h
      obtain ⟨⟨⟨⟨⟨hob, h1⟩, h2⟩, h3⟩, h4⟩, h5⟩ := h
      exact ss_parA G hob h1 h2 h3 h4 h5
    · cases h
  | .setF _ _ _, sc, W, X, G, py, h => by unfold chkS at h; cases h
theorem sdSs : ∀ (s : Ss) {sc : Scope} {W : WX} {X : Cx}, GdS D T Γ N sc n W X → ∀ ps, chkSs T N sc s ps = true → PSs X ps (simSs D Γ W s)
  | .nil, sc, W, X, G, ps, h => by
    unfold chkSs at h
    split at h
    · refine PSs.weak pss_nil ?_
      rintro D' σ H ⟨b, g, h, env, c, br, st, hk, pc⟩
      exact pc.nx env h g H σ hk br st
    · cases h
  | .cons s ss, sc, W, X, G, ps, h => by
    unfold chkSs at h
    split at h
    · rw [Bool.and_eq_true] at h
      refine PSs.weak (pss_cons (sdS s G _ h.1) (sdSs ss G _ h.2)) ?_
      rintro D' σ H ⟨b, g, h, env, c, br, st, hk, pc⟩
      refine ⟨b, g, h, env, _, br, st, hk, ⟨?_, pc.bk, pc.ct, pc.rt, pc.kx⟩⟩
      intro env' h' g' H' σ' a br' st'
      exact ⟨b, g', h', env', c, br', st', a, pc⟩
    · cases h
  | .frz i ss, sc, W, X, G, ps, h => by
    unfold chkSs at h
    refine PSs.weak (sdSs ss G _ h) ?_
    rintro D' σ H ⟨b, g, h, env, c, br, st, hk, pc⟩
    simp only [exs] at hk
    split at hk
    · rename_i xs e
      obtain ⟨p, vs, h1, h2, h3, h4, h5, h6, _⟩ := st.er.own1 e
      obtain ⟨m1, m2⟩ := br.frz (o := .lst vs) st.ok h1 h3 h5 h6
      exact ⟨b, _, h, _, c, m1, ⟨st.er.frz e h2 h3 h4 h5, m2⟩, hk, pc⟩
    · exact ⟨b, g, h, env, c, br, st, hk, pc⟩
end
end
end EV
namespace EV
open PySem PySem.Spec PyProof.Rows L2

theorem allBelow_at {f : Nat → Bool} : ∀ {n : Nat}, allBelow n f = true → ∀ i, i < n → f i = true
  | 0, _, i, hi => absurd hi (by omega)
  | n + 1, h, i, hi => by
    simp only [allBelow, Bool.and_eq_true] at h
    by_cases e : i = n
    · rw [e]; exact h.1
    · exact allBelow_at h.2 i (by omega)
/-- a def of the text, its body in the evaluator's words -/
structure FnB (D : Dat) (T : Tab) (f : Nat) (x : Str) (d : Def) : Prop where
  ex : ∃ (qual : Str) (params : Arguments) (body : List Stmt) (sc : Scope) (kws : List (Str × L2.V)) (fa : Addr) (fd : FuncData) (N : List Str),
    D.mg x = some (.ref fa) ∧ FunD D.K x qual params body sc [] kws fa fd ∧ Binds D.K fd (T.pars f) [] ∧ (∀ e ∈ T.kw f, KwB D.K fd (T.pars f) e) ∧
    FnScope N (T.pars f) sc ∧ d.pars = (T.pars f).length ∧ d.names = N.length ∧ chkSs T N sc d.body body = true
/-- a def that is known otherwise -/
structure FnP (D : Dat) (T : Tab) (F : Nat → Option Fn) (n0 : Nat) (f : Nat) (x : Str) : Prop where
  ok : ∀ n, FOk D (sem D.X F n) n0 (T.pars f) (T.kw f) f x
  len : ∀ n args h k kx, sem D.X F n f args h k kx = true → args.length = (T.pars f).length
/-- __init__ of a class, its body in the evaluator's words -/
structure NwB (D : Dat) (T : Tab) (f : Nat) (x : Str) (c : Nat) (d : Def) : Prop where
  ex : ∃ (x' qual : Str) (params : Arguments) (body : List Stmt) (sc : Scope) (kws : List (Str × L2.V)) (C fI : Addr) (fd : FuncData) (N : List Str) (ps : List Str),
    D.mg x = some (.ref C) ∧ Mk D.K C fI ∧ FunD D.K x' qual params body sc [] kws fI fd ∧ Binds D.K fd ps [] ∧ (∃ ns, D.cl c = some (C, ns)) ∧
    FnScope N ps sc ∧ d.pars = ps.length ∧ ps.length = (T.pars f).length + 1 ∧ d.names = N.length ∧ chkSs T N sc d.body body = true
/-- a property's def -/
structure PrB (D : Dat) (T : Tab) (C : Addr) (nm : Str) (d : Def) : Prop where
  ex : ∃ (x' qual : Str) (params : Arguments) (body : List Stmt) (sc : Scope) (kws : List (Str × L2.V)) (p gA : Addr) (fd : FuncData) (N : List Str) (ps : List Str),
    PropOf D.K C nm p gA ∧ FunD D.K x' qual params body sc [] kws gA fd ∧ Binds D.K fd ps [] ∧
    FnScope N ps sc ∧ d.pars = ps.length ∧ ps.length = 1 ∧ d.names = N.length ∧ chkSs T N sc d.body body = true
/-- a class of objects: what does not hang on the depth -/
structure ClB (D : Dat) (T : Tab) (F : Nat → Option Fn) (c : Nat) (os : List Nat) : Prop where
  ex : ∃ C, D.cl c = some (C, os.map D.an) ∧ Cls D.K C ∧ (∀ a ∈ os, NoAttr D.K C (D.an a)) ∧ (∀ a f, D.X.pr c a = some f → ∃ d, F f = some (.body d) ∧ PrB D T C (D.an a) d) ∧ os.length ≤ 900 ∧
    PySem.W.findIn D.K (.ref C) "__class__" = some (some (.builtin "object.__class__")) ∧ PySem.W.specialIn D.K (.builtin "object.__class__") "__get__" = some (some (.builtin "getset_descriptor.__get__")) ∧ PySem.W.takesIn D.K (.builtin "object.__class__") = some true ∧ PySem.W.mroIn D.K C (.type "object") = some true
structure Sta0 (D : Dat) (T : Tab) : Prop where
  kdc : ∀ c x, T.dn c = some x → ∃ a kvs, D.X.kdict c = some kvs ∧ D.mg x = some (.ref a) ∧ KTab D.K D.w a kvs
  eqm : ∀ c, D.X.eqm c = none
  blt : ∀ x ∈ bltNames, D.mg x = none
  kon : ∀ i x, T.kn i = some x → ∃ u v y, D.X.konst i = some v ∧ D.mg x = some u ∧ RelV y u ∧ ∀ g, VR D.K g v y
  an : ∀ a, D.an a = T.an a
  inj : ∀ a b, T.an a = T.an b → a = b
  isc : ∀ c x, T.cn c = some x → IOk D c x
structure Sta1 (D : Dat) (T : Tab) (F : Nat → Option Fn) : Prop where
  nwk : ∀ f x, T.nw f = some x → T.ob = true ∧ ∃ c d, F f = some (.init c d) ∧ NwB D T f x c d
  obj : T.ob = true → ∀ c os, D.X.of c = some os → ClB D T F c os
section
variable {D : Dat} {T : Tab}
theorem FOk.mono {Γ : Sem} {n m : Nat} {ps : List Str} {kw : List (Nat × List Str × List Nat)} {f : Nat} {x : Str} (a : FOk D Γ n ps kw f x) (h : n ≤ m) : FOk D Γ m ps kw f x := by
  obtain ⟨fa, fd, h1, h2, h3, h4, h5⟩ := a.ex
  exact ⟨fa, fd, h1, h2, h3, h4.mono h, h5⟩
theorem start_env {g : Gs} {H : Hp} {P : Addr → Prop} {args : List Val} {vs : List L2.V} {N : List Str} {m k : Nat} (r : VRs D.K g args vs) (hm : m = args.length) (hk : k = N.length) : EnvR D.K g H P (args.map some ++ List.replicate (k - m) none) (L2.start N vs) := by
  subst hm hk
  refine ⟨by unfold L2.start; rw [List.length_append, List.length_append, List.length_map, List.length_map, List.length_replicate, List.length_replicate, r.length], fun _ => none, (fun _ _ _ z => by cases z), (fun _ _ z => by cases z), fun i v e => ?_⟩
  by_cases hi : i < args.length
  · rw [List.getElem?_append_left (by simpa using hi), List.getElem?_map] at e
    cases q : args[i]? with
    | none => rw [q] at e; cases e
    | some w =>
      rw [q] at e
      cases e
      obtain ⟨x, e1, e2⟩ := r.get q
      refine ⟨x, ?_, SR.of e2⟩
      unfold L2.start
      rw [List.getElem?_append_left (by rw [List.length_map, ← r.length]; exact hi), List.getElem?_map, e1]
      rfl
  · rw [List.getElem?_append_right (by simpa using hi)] at e
    rw [List.getElem?_replicate] at e
    split at e
    · cases e
    · cases e
/-- calls that never come -/
theorem fok_zero {F : Nat → Option Fn} {f : Nat} {x : Str} {d : Def} (B : FnB D T f x d) (n0 : Nat) : FOk D (sem D.X F 0) n0 (T.pars f) (T.kw f) f x := by
  obtain ⟨qual, params, body, sc, kws, fa, fd, N, h1, h2, h3, h4, h5, h6, h7, h8⟩ := B.ex
  refine ⟨fa, fd, h1, h2.kp, h3, ⟨fun vs H Q E z => z.1, fun A outer s H args us vs Q E hr he hb hv z => ?_⟩, h4⟩
  obtain ⟨_, g, h, as, k, kx, _, _, hk, _⟩ := z
  cases hk
theorem fnok_succ {F : Nat → Option Fn} {f : Nat} {d : Def} {n0 n : Nat} {x qual : Str} {params : Arguments} {body : List Stmt} {sc : Scope} {kws : List (Str × L2.V)} {fa : Addr} {fd : FuncData} {N : List Str} {ps : List Str}
    (h2 : FunD D.K x qual params body sc [] kws fa fd) (S : FnScope N ps sc) (h7 : d.names = N.length) (h8 : chkSs T N sc d.body body = true) (hF : F f = some (.body d)) (Fs : Fns D T (sem D.X F n) n0) :
    FnOk D.P D.w D.K D.mg D.base (L2.CX D.P D.w) (n0 + 1) fa fd ps (spF D (sem D.X F (n + 1)) f ps.length) := by
  refine h2.ok S (fun vs H Q E z => z.1) fun cdv A outer s H vs Q E hr z => ?_
  obtain ⟨hl, g, h, as, k, kx, ok, r, hk, pv, px⟩ := z
  simp only [sem, hF] at hk
  unfold runDef at hk
  split at hk
  · rename_i hp
    have G : GdS D T (sem D.X F n) N sc n0 (fun cls d _ H => E cls d H) (cxOf (L2.CX D.P D.w) D.P D.w D.K D.mg D.base N qual sc fa cdv A outer s H E) :=
      ⟨⟨⟨D.CP, D.X, D.cl, D.an, rfl⟩, rfl, S.nd, rfl, hr, rfl, takes_of rfl rfl rfl rfl, Fs⟩, passes_of rfl, S.kind, fun y hy => by
        unfold locB at hy
        refine ⟨?_, .inl rfl⟩
        split at hy
        · rename_i q; exact .inl q
        · rename_i q; exact .inr q
        · cases hy⟩
    refine ⟨_, sdSs d.body G body h8, ⟨g, H, g⟩, g, h, _, _, ⟨Ex.refl _ _, Up.refl _⟩, ⟨start_env r hp.symm h7, ok⟩, hk, ⟨?_, ?_, ?_, ?_, ?_⟩⟩
    · intro env' h' g' H' σ' a br st
      exact pv .non h' g' H' .non a br.ex st.ok .non
    · intro env' h' g' H' σ' a br st
      cases a
    · intro env' h' g' H' σ' a br st
      cases a
    · intro env' v h' g' H' σ' x' ps a br st r' np
      dsimp only at a
      split at a
      · exact pv v h' g' H' x' a br.ex st.ok (r'.data (by assumption)).2
      · cases a
    · intro env' v h' g' H' σ' cls d' a br st xr
      exact px v h' g' H' cls d' a br.ex st.ok xr
  · cases hk
theorem fok_succ {F : Nat → Option Fn} {f : Nat} {x : Str} {d : Def} {n0 n : Nat} (B : FnB D T f x d) (hF : F f = some (.body d)) (Fs : Fns D T (sem D.X F n) n0) : FOk D (sem D.X F (n + 1)) (n0 + 1) (T.pars f) (T.kw f) f x := by
  obtain ⟨qual, params, body, sc, kws, fa, fd, N, h1, h2, h3, h4, S, h6, h7, h8⟩ := B.ex
  exact ⟨fa, fd, h1, h2.kp, h3, fnok_succ h2 S h7 h8 hF Fs, h4⟩
theorem sem_len {F : Nat → Option Fn} {f : Nat} {x : Str} {d : Def} (B : FnB D T f x d) (hF : F f = some (.body d)) : ∀ n args h k kx, sem D.X F n f args h k kx = true → args.length = (T.pars f).length := by
  obtain ⟨qual, params, body, sc, kws, fa, fd, N, h1, h2, h3, h4, S, h6, h7, h8⟩ := B.ex
  intro n args h k kx hk
  cases n with
  | zero => cases hk
  | succ n =>
    simp only [sem, hF] at hk
    unfold runDef at hk
    split at hk
    · rename_i hp; rw [hp, h6]
    · cases hk
/-- a new object, nothing in it yet -/
theorem start_obj {g : Gs} {H1 : Hp} {args : List Val} {vs : List L2.V} {N : List Str} {m k c : Nat} {x dx C : Addr} {ns : List Str} (r : VRs D.K g args vs) (hm : m = args.length + 1) (hk : k = N.length) (hcl : g.cl c = some (C, ns)) (hf : g.F x = none) (hu : g.U x = none) (hx : H1 x = none) (hxc : g.xc = some (x, .none, none)) :
    EnvR D.K g (upd (upd H1 dx (.own x)) x (.ins C dx [])) (fun a => H1 a = none) (some (.mob c [] []) :: args.map some ++ List.replicate (k - m) none) (L2.start N (.ref x :: vs)) := by
  subst hm hk
  refine ⟨by unfold L2.start; simp only [List.length_append, List.length_cons, List.length_map, List.length_replicate, r.length], fun i => if i = 0 then some x else none, fun i j a e1 e2 => ?_, fun i a e => ?_, fun i v e => ?_⟩
  · dsimp only at e1 e2
    split at e1
    · split at e2
      · omega
      · cases e2
    · cases e1
  · dsimp only at e
    split at e
    · cases e; exact hx
    · cases e
  · cases i with
    | zero =>
      cases e
      exact ⟨.ref x, rfl, x, C, dx, ns, [], rfl, rfl, hcl, upd_same, rfl, .nil, hf, hu, hxc⟩
    | succ i =>
      have e' : (args.map some ++ List.replicate (N.length - (args.length + 1)) none)[i]? = some (some v) := e
      by_cases hi : i < args.length
      · rw [List.getElem?_append_left (by simpa using hi), List.getElem?_map] at e'
        cases q : args[i]? with
        | none => rw [q] at e'; cases e'
        | some w =>
          rw [q] at e'
          cases e'
          obtain ⟨y, e1, e2⟩ := r.get q
          refine ⟨y, ?_, SR.of e2⟩
          unfold L2.start
          rw [List.map_cons, List.cons_append, List.getElem?_cons_succ, List.getElem?_append_left (by rw [List.length_map, ← r.length]; exact hi), List.getElem?_map, e1]
          rfl
      · rw [List.getElem?_append_right (by simpa using hi), List.getElem?_replicate] at e'
        split at e' <;> cases e'
theorem VR.xc {K : PySem.W.Frag} {g : Gs} {z : Option (Addr × Value × Option Addr)} {v : Val} {x : L2.V} (r : VR K g v x) : VR K { g with xc := z } v x := VR.mono (g := g) (g' := { g with xc := z }) (fun _ _ e => e) (fun _ _ e => e) rfl r
theorem VRs.xc {K : PySem.W.Frag} {g : Gs} {z : Option (Addr × Value × Option Addr)} {v : List Val} {x : List L2.V} (r : VRs K g v x) : VRs K { g with xc := z } v x := VRs.mono (g := g) (g' := { g with xc := z }) (fun _ _ e => e) (fun _ _ e => e) rfl r
theorem GOk.xc {g : Gs} {h : Hs} {H : Hp} {z : Option (Addr × Value × Option Addr)} (ok : GOk D g h H) : GOk D { g with xc := z } h H :=
  ⟨ok.fh, ok.cup, fun a n e => by
    obtain ⟨h1, c, fs, C, ns, dx, vs, q1, q2, q3, q4, q5⟩ := ok.cell a n e
    exact ⟨h1, c, fs, C, ns, dx, vs, q1, q2, q3, q4, q5.xc⟩, ok.inj, ok.all, ok.cl⟩
theorem nwok_succ {F : Nat → Option Fn} {f c m : Nat} {d : Def} {n0 n : Nat} {x qual : Str} {params : Arguments} {body : List Stmt} {sc : Scope} {kws : List (Str × L2.V)} {fa C : Addr} {fd : FuncData} {N : List Str} {ps : List Str}
    (h2 : FunD D.K x qual params body sc [] kws fa fd) (S : FnScope N ps sc) (hp : d.pars = ps.length) (hm : ps.length = m + 1) (h7 : d.names = N.length) (h8 : chkSs T N sc d.body body = true) (hF : F f = some (.init c d)) (hobj : ∀ os, D.X.of c = some os → ∃ C', D.cl c = some (C', os.map D.an)) (Fs : Fns D T (sem D.X F n) n0) :
    FnOk D.P D.w D.K D.mg D.base (L2.CX D.P D.w) (n0 + 1) fa fd ps (spN D (sem D.X F (n + 1)) f m c C) := by
  refine h2.ok S (fun vs H Q E z => ?_) fun cdv A outer s H vs Q E hr z => ?_
  · obtain ⟨x, dx, vs', ns, H1, g, h, args, k, kx, e1, e2, _⟩ := z
    rw [e1, hm, List.length_cons, e2]
  obtain ⟨x, dx, vs', ns, H1, g, h, args, k, kx, e1, e2, hcl, eH, hx, hdx, hne, ok, r, hk, pv, px⟩ := z
  subst e1
  simp only [sem, hF] at hk
  unfold runInit at hk
  split at hk
  · rename_i hp2
    have G : GdS D T (sem D.X F n) N sc n0 (fun cls d _ H => E cls d H) (cxOf (L2.CX D.P D.w) D.P D.w D.K D.mg D.base N qual sc fa cdv A outer s H E) :=
      ⟨⟨⟨D.CP, D.X, D.cl, D.an, rfl⟩, rfl, S.nd, rfl, hr, rfl, takes_of rfl rfl rfl rfl, Fs⟩, passes_of rfl, S.kind, fun y hy => by
        unfold locB at hy
        refine ⟨?_, .inl rfl⟩
        split at hy
        · rename_i q; exact .inl q
        · rename_i q; exact .inr q
        · cases hy⟩
    obtain ⟨fx, ux⟩ := ok.fresh hx
    have w1 := loose_ex (o := .own x) ok.xc hdx (g := { g with xc := some (x, .none, none) })
    have hx2 : upd H1 dx (.own x) x = none := by rw [upd_ne (Ne.symm hne)]; exact hx
    have w2 := loose_ex (o := .ins C dx []) w1.2 hx2
    have e12 := w1.1.trans w2.1
    rw [← eH] at e12
    have ok2 := w2.2
    rw [← eH] at ok2
    have hcl' : g.cl c = some (C, ns) := by rw [ok.cl.1]; exact hcl
    have er := start_obj (D := D) (N := N) (m := d.pars) (k := d.names) (c := c) (x := x) (dx := dx) (C := C) (ns := ns) (g := { g with xc := some (x, .none, none) }) (H1 := H1) r.xc hp2.symm h7 hcl' fx ux hx rfl
    rw [← eH] at er
    -- the frame's ghost goes back
    have back : ∀ {g' : Gs} {H' : Hp}, Ex { g with xc := some (x, .none, none) } H1 g' H' → Ex g H1 { g' with xc := g.xc } H' := fun {g' H'} e => ⟨e.ff, e.uu, ⟨e.cl.1, e.cl.2.1, rfl⟩, e.hh, e.th, e.nw, e.nu⟩
    refine ⟨_, sdSs d.body G body h8, ⟨{ g with xc := some (x, .none, none) }, H1, { g with xc := some (x, .none, none) }⟩, { g with xc := some (x, .none, none) }, h, _, _, ⟨e12, Up.refl _⟩, ⟨er, ok2⟩, hk, ⟨?_, ?_, ?_, ?_, ?_⟩⟩
    · intro env' h' g' H' σ' a br st
      dsimp only at a
      split at a
      · rename_i c' as fs ee
        split at a
        · rename_i cc
          obtain ⟨rfl, hos⟩ := cc
          obtain ⟨l, ow, o1, o2, o3⟩ := st.er
          obtain ⟨y, hy, q, C2, dx2, ns2, vs2, k1, k2, k3, k4, k5, k6, k7, k8, k9⟩ := o3 0 _ (getV_some ee)
          have hq : q = x := by
            rw [br.ex.cl.2.2] at k9
            cases k9; rfl
          subst hq
          obtain ⟨br2, ok3⟩ := br.frz st.ok (o2 0 q k1) k4 k7 k8
          obtain ⟨C3, hC3⟩ := hobj as hos
          have z := hC3.symm.trans hcl
          simp only [Option.some.injEq, Prod.mk.injEq] at z
          obtain ⟨z1, z2⟩ := z
          subst z1
          have hg' : g'.cl = D.cl := st.ok.cl.1
          have ean : g'.an = D.an := st.ok.cl.2
          rw [hg'] at k3
          have z := k3.symm.trans hC3
          simp only [Option.some.injEq, Prod.mk.injEq] at z
          obtain ⟨z3, z4⟩ := z
          subst z3
          rw [ean] at k4
          refine pv _ _ _ _ a (back br2.ex) ok3.xc (.obj (C := C2) (dx := dx2) (ns := as.map D.an) (vs := vs2) ?_ ?_ (by rw [List.length_map, k5]) ?_)
          · show g'.cl c' = _
            rw [hg']; exact hC3
          · show upd g'.F q _ q = _
            rw [upd_same, ean]
          · exact (VRs.frz k7 k6).xc
        · cases a
      · cases a
    · intro env' h' g' H' σ' a br st
      cases a
    · intro env' h' g' H' σ' a br st
      cases a
    · intro env' v h' g' H' σ' x' ps a br st r' np
      cases a
    · intro env' v h' g' H' σ' cls d' a br st xr
      refine px v h' _ H' cls d' a (back br.ex) st.ok.xc ?_
      obtain ⟨c2, fs, C2, ns2, x1, x2, x3, x4⟩ := xr
      refine ⟨c2, fs, C2, ns2, x1, x2, x3, ?_⟩
      rcases x4 with z | ⟨a2, vs2, z1, z2, z3, z4⟩
      · exact .inl z
      · exact .inr ⟨a2, vs2, z1, z2, z3, z4.xc⟩
  · cases hk
theorem nw_len {F : Nat → Option Fn} {f c : Nat} {x : Str} {d : Def} (B : NwB D T f x c d) (hF : F f = some (.init c d)) : ∀ n args h k kx, sem D.X F n f args h k kx = true → args.length = (T.pars f).length := by
  obtain ⟨x', qual, params, body, sc, kws, C, fI, fd, N, ps, h1, hM, h2, h3, hc, S, h6, h6', h7, h8⟩ := B.ex
  intro n args h k kx hk
  cases n with
  | zero => cases hk
  | succ n =>
    simp only [sem, hF] at hk
    unfold runInit at hk
    split at hk
    · rename_i hp; omega
    · cases hk
/-- every def of a text, at every depth -/
theorem fns_all {F : Nat → Option Fn} {n0 : Nat} (h0 : 0 < n0) (S : Sta0 D T) (S1 : Sta1 D T F) (hall : ∀ f x, T.fn f = some x → (∃ d, F f = some (.body d) ∧ FnB D T f x d) ∨ FnP D T F n0 f x) : ∀ n, Fns D T (sem D.X F n) (n0 + 2 * n)
  | 0 => by
    refine ⟨S.kdc, S.eqm, ?_, ?_, S.blt, S.kon, ?_, ?_, S.an, S.inj, ?_, S.isc⟩
    · intro f x args h k kx _ z
      cases z
    · intro f x e
      rcases hall f x e with ⟨d, _, B⟩ | p
      · exact fok_zero B _
      · exact (p.ok 0).mono (by omega)
    · intro f x e
      obtain ⟨hob, c, d, hF, B⟩ := S1.nwk f x e
      obtain ⟨x', qual, params, body, sc, kws, C, fI, fd, N, ps, h1, hM, h2, h3, hc, S, h6, h6', h7, h8⟩ := B.ex
      refine ⟨n0 - 1, c, C, fI, fd, ps, by omega, h1, hM, ⟨fun vs H Q E z => ?_, fun A outer s H args us vs Q E hr he hb hv z => ?_⟩, h3, hc⟩
      · obtain ⟨x, dx, vs', ns, H1, g, h, args, k, kx, e1, e2, _⟩ := z
        rw [e1, h6', List.length_cons, e2]
      · obtain ⟨x, dx, vs', ns, H1, g, h, args, k, kx, e1, e2, _, _, _, _, _, _, _, hk, _⟩ := z
        cases hk
    · intro f x args h k kx _ z
      cases z
    · intro hob c os e
      obtain ⟨C, c1, c2, c3, c4, c5⟩ := (S1.obj hob c os e).ex
      refine ⟨C, c1, c2, c3, fun a f hp => ?_, c5⟩
      obtain ⟨d, hF, x', qual, params, body, sc, kws, p, gA, fd, N, ps, h1, h2, h3, S, h6, h6', h7, h8⟩ := c4 a f hp
      refine ⟨n0 - 1, p, gA, fd, ps, by omega, h1, ⟨fun vs H Q E z => by rw [h6']; exact z.1, fun A outer s H args us vs Q E hr he hb hv z => ?_⟩, h3⟩
      obtain ⟨_, g, h, as, k, kx, _, _, hk, _⟩ := z
      cases hk
  | n + 1 => by
    have ih := fns_all h0 S S1 hall n
    refine ⟨S.kdc, S.eqm, ?_, ?_, S.blt, S.kon, ?_, ?_, S.an, S.inj, ?_, S.isc⟩
    · intro f x args h k kx e z
      rcases hall f x e with ⟨d, hF, B⟩ | p
      · exact sem_len B hF (n + 1) args h k kx z
      · exact p.len (n + 1) args h k kx z
    · intro f x e
      rcases hall f x e with ⟨d, hF, B⟩ | p
      · exact (fok_succ B hF ih).mono (by omega)
      · exact (p.ok (n + 1)).mono (by omega)
    · intro f x e
      obtain ⟨hob, c, d, hF, B⟩ := S1.nwk f x e
      obtain ⟨x', qual, params, body, sc, kws, C, fI, fd, N, ps, h1, hM, h2, h3, hc, S, h6, h6', h7, h8⟩ := B.ex
      refine ⟨n0 + 2 * n + 1, c, C, fI, fd, ps, by omega, h1, hM, nwok_succ h2 S h6 h6' h7 h8 hF (fun os hos => ?_) ih, h3, hc⟩
      obtain ⟨C', c1, _⟩ := (S1.obj hob c os hos).ex
      exact ⟨C', c1⟩
    · intro f x args h k kx e z
      obtain ⟨hob, c, d, hF, B⟩ := S1.nwk f x e
      exact nw_len B hF (n + 1) args h k kx z
    · intro hob c os e
      obtain ⟨C, c1, c2, c3, c4, c5⟩ := (S1.obj hob c os e).ex
      refine ⟨C, c1, c2, c3, fun a f hp => ?_, c5⟩
      obtain ⟨d, hF, x', qual, params, body, sc, kws, p, gA, fd, N, ps, h1, h2, h3, S, h6, h6', h7, h8⟩ := c4 a f hp
      have F1 := fnok_succ (f := f) h2 S h7 h8 hF ih
      rw [h6'] at F1
      exact ⟨n0 + 2 * n + 1, p, gA, fd, ps, by omega, h1, F1, h3⟩
end
end EV
namespace EV
open PySem PySem.Spec PyProof.Rows L2

/-! ### the drawing defs -/
/-- what a cup holds -/
def CPof (cpb : List Int → Bool) : List L2.V → Prop := fun vs => ∃ xs : List Int, vs = xs.map L2.V.int ∧ cpb xs = true
def isCup (cpb : List Int → Bool) : Val → Bool
  | .mls xs => match intsOf xs with | some ns => cpb ns | none => false
  | .mcp xs => match intsOf xs with | some ns => cpb ns | none => false
  | _ => false
/-- how a cup is to be made: the body comes to a list that is a cup -/
def mkOk (X : Txt) (Γ : Sem) (cpb : List Int → Bool) (d : Def) : Prop := d.pars = 2 ∧ ∀ (ns : List Int) (i : Int), 0 ≤ i →
  exs X Γ d.body (some (.scl ns) :: some (.int i) :: List.replicate (d.names - 2) none) [] { nx := fun _ _ => false, rt := fun _ v h => h.isEmpty && (match v with | .mls _ => isCup cpb v | _ => false) } = true
/-- how a number is to be drawn -/
def drOk (X : Txt) (cpb : List Int → Bool) (d : Def) : Prop := d.pars = 2 ∧ ∀ (xs : List Int) (m : Int), cpb xs = true → 0 < m → m < 1073741824 →
  exs X (fun _ _ _ _ _ => false) d.body (some (.mcp (xs.map .int)) :: some (.int m) :: List.replicate (d.names - 2) none) [] { nx := fun _ _ => false, rt := fun env v h => h.isEmpty && (match v with | .int r => decide (0 ≤ r ∧ r < m) | _ => false) && (match getV env 0 with | some (.mcp ys) => isCup cpb (.mcp ys) | _ => false) } = true
def semCup (as : List Val) (h : Hs) (k : KV) : Bool := match as with
  | [.scr _, .int i] => decide (0 ≤ i) && h.isEmpty && k .cup h
  | _ => false
def semDraw (as : List Val) (h : Hs) (k : KV) : Bool := match as with
  | [.cup, .int m] => decide (0 < m) && decide (m < 1073741824) && h.isEmpty && allBelow m.toNat fun r => k (.int (r : Nat)) h
  | _ => false
theorem sem_cup {X : Txt} {F : Nat → Option Fn} {n f : Nat} {as : List Val} {h : Hs} {k kx : KV} (hF : F f = some .mkcup) : sem X F (n + 1) f as h k kx = semCup as h k := by
  unfold sem
  rw [hF]
  rfl
theorem sem_draw {X : Txt} {F : Nat → Option Fn} {n f : Nat} {as : List Val} {h : Hs} {k kx : KV} (hF : F f = some .draw) : sem X F (n + 1) f as h k kx = semDraw as h k := by
  unfold sem
  rw [hF]
  rfl
section
variable {D : Dat} {T : Tab}
theorem start2 {N : List Str} {x y : L2.V} {m : Nat} (h : m = N.length) : L2.start N [x, y] = some x :: some y :: List.replicate (m - 2) none := by
  subst h; rfl
/-- defs that call none of the text's -/
theorem fns_none {T : Tab} (S : Sta0 D T) (n : Nat) : Fns D { T with fn := fun _ => none, nw := fun _ => none, ob := false } (fun _ _ _ _ _ => false) n := ⟨S.kdc, S.eqm, fun _ _ _ _ _ _ e => (by cases e), fun _ _ e => (by cases e), S.blt, S.kon, fun _ _ e => (by cases e), fun _ _ _ _ _ _ e => (by cases e), S.an, S.inj, fun e => (by cases e), S.isc⟩
structure FnB0 (D : Dat) (T T0 : Tab) (f : Nat) (x : Str) (d : Def) : Prop where
  ex : ∃ (qual : Str) (params : Arguments) (body : List Stmt) (sc : Scope) (kws : List (Str × L2.V)) (fa : Addr) (fd : FuncData) (N : List Str),
    D.mg x = some (.ref fa) ∧ FunD D.K x qual params body sc [] kws fa fd ∧ Binds D.K fd (T.pars f) [] ∧ (∀ e ∈ T.kw f, KwB D.K fd (T.pars f) e) ∧
    FnScope N (T.pars f) sc ∧ d.pars = (T.pars f).length ∧ d.names = N.length ∧ chkSs T0 N sc d.body body = true
theorem fnp_cup {cpb : List Int → Bool} {F : Nat → Option Fn} {f : Nat} {x : Str} {d : Def} {T0 : Tab} {Γ : Sem} {n0 : Nat} (Fs : Fns D T0 Γ n0) (hC : D.CP = CPof cpb) (B : FnB0 D T T0 f x d) (hF : F f = some .mkcup) (ok2 : mkOk D.X Γ cpb d) : FnP D T F (n0 + 1) f x := by
  obtain ⟨qual, params, body, sc, kws, fa, fd, N, h1, h2, h3, h4, Sc, h6, h7, h8⟩ := B.ex
  have hp : (T.pars f).length = 2 := h6.symm.trans ok2.1
  refine ⟨fun n => ⟨fa, fd, h1, h2.kp, h3, h2.ok Sc (fun vs H Q E z => z.1) fun cdv A outer s H vs Q E hr z => ?_, h4⟩, fun n args h k kx hk => ?_⟩
  · obtain ⟨hl, g, h, as, k, kx, ok, r, hk, pv, px⟩ := z
    have hk' : semCup as h k = true := by
      cases n with
      | zero => cases hk
      | succ n => rw [sem_cup hF] at hk; exact hk
    unfold semCup at hk'
    split at hk'
    · rename_i m i
      simp only [Bool.and_eq_true, decide_eq_true_eq] at hk'
      obtain ⟨⟨hi, he⟩, hk2⟩ := hk'
      have he' : h = [] := by simpa using he
      subst he'
      cases r with
      | cons r1 r =>
      cases r with
      | cons r2 r =>
      cases r
      cases r1 with
      | @scr a _ ns sq hlen =>
      cases r2
      have G : GdS D T0 Γ N sc n0 (fun cls d _ H => E cls d H) (cxOf (L2.CX D.P D.w) D.P D.w D.K D.mg D.base N qual sc fa cdv A outer s H E) :=
        ⟨⟨⟨D.CP, D.X, D.cl, D.an, rfl⟩, rfl, Sc.nd, rfl, hr, rfl, takes_of rfl rfl rfl rfl, Fs⟩, passes_of rfl, Sc.kind, fun y hy => by
          unfold locB at hy
          refine ⟨?_, .inl rfl⟩
          split at hy
          · rename_i q; exact .inl q
          · rename_i q; exact .inr q
          · cases hy⟩
      refine ⟨_, sdSs d.body G body h8, ⟨g, H, g⟩, g, [], _, _, ⟨Ex.refl _ _, Up.refl _⟩, ⟨?_, ok⟩, ok2.2 ns i hi, ⟨?_, ?_, ?_, ?_, ?_⟩⟩
      · have e := start_env (P := Pb ⟨g, H, g⟩) (H := H) (N := N) (m := 2) (k := d.names) (args := [.scl ns, .int i]) (vs := [.ref a, .int i]) (.cons (.scl sq) (.cons (.int i) .nil) : VRs D.K g _ _) rfl h7
        exact e
      · intro env' h' g' H' σ' z; cases z
      · intro env' h' g' H' σ' z; cases z
      · intro env' h' g' H' σ' z; cases z
      · intro env' v h' g' H' σ' x' ps z br st ov np
        dsimp only at z
        rw [Bool.and_eq_true] at z
        obtain ⟨z1, z2⟩ := z
        have hh : h' = [] := by simpa using z1
        subst hh
        cases v <;> first | (cases z2; done) | skip
        obtain ⟨p, ws, rfl, rfl, hl', rv, hf, hu⟩ := ov
        have hp0 : H p = none := np p (by simp)
        have z3 : (match intsOf _ with | some ns => cpb ns | none => false) = true := z2
        split at z3
        · rename_i xs ms hm
          have hw := rv.intsOf hm
          subst hw
          -- the new list is a cup
          have uu : ∀ a u, g'.U a = some u → (if a = p then some Um.cup else g'.U a) = some u := fun a u e => by
            rw [if_neg fun q => by rw [q, hu] at e; cases e]; exact e
          have uv : ∀ a u, (if a = p then some Um.cup else g'.U a) = some u → (a = p ∧ u = .cup) ∨ g'.U a = some u := fun a u e => by
            split at e
            · cases e; exact .inl ⟨by assumption, rfl⟩
            · exact .inr e
          refine pv .cup [] { g' with U := fun a => if a = p then some .cup else g'.U a } H' (.ref p) hk2 ⟨br.ex.ff, fun a u e => uu a u (br.ex.uu a u e), br.ex.cl, br.ex.hh, br.ex.th, br.ex.nw, fun a u e => ?_⟩ ⟨st.ok.fh, fun a e => ?_, fun a n e => ?_, fun a b n e1 e2 => ?_, fun n hn => absurd hn (by simp), st.ok.cl⟩ (.cup ?_)
          · rcases uv a u e with ⟨rfl, _⟩ | e
            · exact .inr hp0
            · exact br.ex.nu a u e
          · rcases uv a _ e with ⟨rfl, _⟩ | e
            · exact ⟨hf, _, by rw [hC]; exact ⟨ms, rfl, z3⟩, hl'⟩
            · exact st.ok.cup a e
          · rcases uv a _ e with ⟨_, q⟩ | e
            · cases q
            · obtain ⟨_, c, fs, C, ns', dx, vs', q, _⟩ := st.ok.cell a n e
              simp at q
          · rcases uv a _ e1 with ⟨_, q⟩ | e1
            · cases q
            · obtain ⟨_, c, fs, C, ns', dx, vs', q, _⟩ := st.ok.cell a n e1
              simp at q
          · show (if p = p then some Um.cup else _) = _
            rw [if_pos rfl]
        · cases z3
      · intro env' v h' g' H' σ' cls d' z; cases z
    · cases hk'
  · cases n with
    | zero => cases hk
    | succ n =>
      rw [sem_cup hF] at hk
      unfold semCup at hk
      split at hk
      · rw [hp]; rfl
      · cases hk
theorem VR.unC {K : PySem.W.Frag} {g g1 : Gs} (ff : g1.F = g.F) (cl : g1.cl = g.cl) : ∀ {v : Val} {x : L2.V}, VR K g v x → flat v = true → VR K g1 v x
  | _, _, .non, _ => .non
  | _, _, .bl b, _ => .bl b
  | _, _, .int i, _ => .int i
  | _, _, .str x, _ => .str x
  | _, _, .tup _ _, h => by cases h
  | _, _, .tupk _ _, h => by cases h
  | _, _, .lst _ _, h => by cases h
  | _, _, .scr _ _, h => by cases h
  | _, _, .scl _, h => by cases h
  | _, _, .cup _, h => by cases h
  | _, _, .ref _, h => by cases h
  | _, _, .obj _ _ _ _, h => by cases h
theorem fnp_draw {cpb : List Int → Bool} {F : Nat → Option Fn} {f : Nat} {x : Str} {d : Def} (S : Sta0 D T) (hC : D.CP = CPof cpb) (B : FnB0 D T { T with fn := fun _ => none, nw := fun _ => none, ob := false } f x d) (hF : F f = some .draw) (ok2 : drOk D.X cpb d) : FnP D T F 1 f x := by
  obtain ⟨qual, params, body, sc, kws, fa, fd, N, h1, h2, h3, h4, Sc, h6, h7, h8⟩ := B.ex
  have hp : (T.pars f).length = 2 := h6.symm.trans ok2.1
  refine ⟨fun n => ⟨fa, fd, h1, h2.kp, h3, h2.ok Sc (fun vs H Q E z => z.1) fun cdv A outer s H vs Q E hr z => ?_, h4⟩, fun n args h k kx hk => ?_⟩
  · obtain ⟨hl, g, h, as, k, kx, ok, r, hk, pv, px⟩ := z
    have hk' : semDraw as h k = true := by
      cases n with
      | zero => cases hk
      | succ n => rw [sem_draw hF] at hk; exact hk
    unfold semDraw at hk'
    split at hk'
    · rename_i m
      simp only [Bool.and_eq_true, decide_eq_true_eq] at hk'
      obtain ⟨⟨⟨hm0, hm1⟩, he⟩, hk2⟩ := hk'
      have he' : h = [] := by simpa using he
      subst he'
      cases r with
      | cons r1 r =>
      cases r with
      | cons r2 r =>
      cases r
      cases r1 with
      | @cup p hU =>
      cases r2
      obtain ⟨hF0, ws, hcp, hHp⟩ := ok.cup p hU
      rw [hC] at hcp
      obtain ⟨xs, rfl, hxs⟩ := hcp
      -- the cup is opened
      let g1 : Gs := { g with U := fun a => if a = p then none else g.U a, xc := some (p, .none, none) }
      let H1 : Hp := fun a => if a = p then none else H a
      have u1 : ∀ a, a ≠ p → g1.U a = g.U a := fun a q => by show (if a = p then none else g.U a) = _; rw [if_neg q]
      have u1p : g1.U p = none := by show (if p = p then none else g.U p) = _; rw [if_pos rfl]
      have h1n : ∀ a, a ≠ p → H1 a = H a := fun a q => by show (if a = p then none else H a) = _; rw [if_neg q]
      have h1p : H1 p = none := by show (if p = p then none else H p) = _; rw [if_pos rfl]
      have ok1 : GOk D g1 [] H := by
        refine ⟨ok.fh, fun a e => ?_, fun a n e => ?_, fun a b n e1 e2 => ?_, fun n hn => absurd hn (by simp), ok.cl⟩
        · by_cases q : a = p
          · rw [q, u1p] at e; cases e
          · rw [u1 a q] at e; exact ok.cup a e
        · by_cases q : a = p
          · rw [q, u1p] at e; cases e
          · rw [u1 a q] at e
            obtain ⟨_, c, fs, C, ns', dx, vs', q', _⟩ := ok.cell a n e
            simp at q'
        · by_cases q : a = p
          · rw [q, u1p] at e1; cases e1
          · rw [u1 a q] at e1
            obtain ⟨_, c, fs, C, ns', dx, vs', q', _⟩ := ok.cell a n e1
            simp at q'
      have br1 : Br ⟨g1, H1, g1⟩ g1 H := by
        refine ⟨⟨fun _ _ e => e, fun _ _ e => e, ⟨rfl, rfl, rfl⟩, fun a o e _ => ?_, fun a e => ?_, fun _ e => .inl e, fun _ _ e => .inl e⟩, Up.refl _⟩
        · have e' : H1 a = some o := e
          by_cases q : a = p
          · rw [q, h1p] at e'; cases e'
          · rw [h1n a q] at e'; exact e'
        · have e' : H1 a ≠ none := e
          by_cases q : a = p
          · rw [q] at e'; exact absurd h1p e'
          · rw [h1n a q] at e'; exact e'
      have G : GdS D { T with fn := fun _ => none, nw := fun _ => none, ob := false } (fun _ _ _ _ _ => false) N sc 0 (fun cls d _ H => E cls d H) (cxOf (L2.CX D.P D.w) D.P D.w D.K D.mg D.base N qual sc fa cdv A outer s H E) :=
        ⟨⟨⟨D.CP, D.X, D.cl, D.an, rfl⟩, rfl, Sc.nd, rfl, hr, rfl, takes_of rfl rfl rfl rfl, fns_none S 0⟩, passes_of rfl, Sc.kind, fun y hy => by
          unfold locB at hy
          refine ⟨?_, .inl rfl⟩
          split at hy
          · rename_i q; exact .inl q
          · rename_i q; exact .inr q
          · cases hy⟩
      refine ⟨_, sdSs d.body G body h8, ⟨g1, H1, g1⟩, g1, [], _, _, br1, ⟨?_, ok1⟩, ok2.2 xs m hxs hm0 hm1, ⟨?_, ?_, ?_, ?_, ?_⟩⟩
      · rw [start2 h7]
        refine ⟨by simp, fun i => if i = 0 then some p else none, fun i j a e1 e2 => ?_, fun i a e => ?_, fun i v e => ?_⟩
        · dsimp only at e1 e2
          split at e1
          · split at e2
            · omega
            · cases e2
          · cases e1
        · dsimp only at e
          split at e
          · cases e; exact h1p
          · cases e
        · match i, e with
          | 0, e =>
            cases e
            exact ⟨_, rfl, p, _, rfl, rfl, hHp, VRs.ints xs, hF0, u1p, rfl⟩
          | 1, e =>
            cases e
            exact ⟨_, rfl, VR.int m⟩
          | i + 2, e =>
            have e' : (List.replicate (d.names - 2) (none : Option Val))[i]? = some (some v) := e
            rw [List.getElem?_replicate] at e'
            split at e' <;> cases e'
      · intro env' h' g' H' σ' z; cases z
      · intro env' h' g' H' σ' z; cases z
      · intro env' h' g' H' σ' z; cases z
      · intro env' v h' g' H' σ' x' ps z br st ov np
        dsimp only at z
        rw [Bool.and_eq_true, Bool.and_eq_true] at z
        obtain ⟨⟨z1, z2⟩, z3⟩ := z
        have hh : h' = [] := by simpa using z1
        subst hh
        cases v <;> first | (cases z2; done) | skip
        rename_i rr
        obtain ⟨_, rv⟩ := ov
        cases rv
        have z2' := of_decide_eq_true z2
        split at z3
        · rename_i ys hys
          have z4 : (match intsOf ys with | some ns => cpb ns | none => false) = true := z3
          split at z4
          · rename_i ms hm
            obtain ⟨l, ow, w1, w2, w3⟩ := st.er
            obtain ⟨y, y1, q, vs', k1, rfl, k3, k4, k5, k6, k7⟩ := w3 0 _ (getV_some hys)
            have hq : q = p := by
              rw [br.ex.cl.2.2] at k7
              cases k7; rfl
            subst hq
            have hw := k4.intsOf hm
            subst hw
            have uv : ∀ a u, (if a = q then some Um.cup else g'.U a) = some u → (a = q ∧ u = .cup) ∨ (a ≠ q ∧ g'.U a = some u) := fun a u e => by
              split at e
              · cases e; exact .inl ⟨by assumption, rfl⟩
              · exact .inr ⟨by assumption, e⟩
            have hkr : k (.int rr) [] = true := by
              have := allBelow_at hk2 rr.toNat (by omega)
              rw [Int.toNat_of_nonneg z2'.1] at this
              exact this
            refine pv (.int rr) [] { g' with U := fun a => if a = q then some .cup else g'.U a, xc := g.xc } H' (.int rr) hkr ⟨br.ex.ff, fun a u e => ?_, ⟨br.ex.cl.1, br.ex.cl.2.1, rfl⟩, fun a o e n => ?_, fun a e => ?_, fun a e => ?_, fun a u e => ?_⟩ ⟨st.ok.fh, fun a e => ?_, fun a n e => ?_, fun a b n e1 e2 => ?_, fun n hn => absurd hn (by simp), st.ok.cl⟩ (.int _)
            · show (if a = q then some Um.cup else g'.U a) = some u
              by_cases c : a = q
              · rw [if_pos c]
                have e' : g.U a = some u := e
                rw [c, hU] at e'; exact e'
              · rw [if_neg c]; exact br.ex.uu a u ((u1 a c).trans e)
            · by_cases c : a = q
              · rw [c, hU] at n; cases n
              · exact br.ex.hh a o ((h1n a c).trans e) ((u1 a c).trans n)
            · by_cases c : a = q
              · rw [c, k3]; simp
              · exact br.ex.th a (by rw [show (⟨g1, H1, g1⟩ : Bs).H0 a = H a from h1n a c]; exact e)
            · rcases br.ex.nw a e with w | w
              · exact .inl w
              · by_cases c : a = q
                · rw [c] at e; exact absurd k5 e
                · exact .inr ((h1n a c).symm.trans w)
            · rcases uv a u e with ⟨rfl, rfl⟩ | ⟨c, e⟩
              · exact .inl hU
              · rcases br.ex.nu a u e with w | w
                · exact .inl ((u1 a c).symm.trans w)
                · exact .inr ((h1n a c).symm.trans w)
            · rcases uv a _ e with ⟨rfl, _⟩ | ⟨c, e⟩
              · exact ⟨k5, _, by rw [hC]; exact ⟨ms, rfl, z4⟩, k3⟩
              · exact st.ok.cup a e
            · rcases uv a _ e with ⟨_, w⟩ | ⟨_, e⟩
              · cases w
              · obtain ⟨_, c, fs, C, ns', dx, vs', w, _⟩ := st.ok.cell a n e
                simp at w
            · rcases uv a _ e1 with ⟨_, w⟩ | ⟨_, e1⟩
              · cases w
              · obtain ⟨_, c, fs, C, ns', dx, vs', w, _⟩ := st.ok.cell a n e1
                simp at w
          · cases z4
        · cases z3
      · intro env' v h' g' H' σ' cls d' z; cases z
    · cases hk'
  · cases n with
    | zero => cases hk
    | succ n =>
      rw [sem_draw hF] at hk
      unfold semDraw at hk
      split at hk
      · rw [hp]; rfl
      · cases hk
end
end EV
namespace EV
open PySem PySem.Spec PyProof.Rows L2

/-! ### the names of the module that hold data -/
mutual
def chkV (K : PySem.W.Frag) : Val → Value → Bool
  | .non, u => match u with | .none => true | _ => false
  | .bl b, u => match u with | .bool c => b == c | _ => false
  | .int i, u => match u with | .int j _ => i == j | _ => false
  | .str x, u => match u with | .str y _ => decide (x = y) | _ => false
  | .tup xs, u => match u with
    | .ref a => match K.lookup a with
      | some ⟨.type c, none, .seq its _, _⟩ => c == "tuple" && decide (its.size ≤ sizeLine) && chkVs K xs its.toList
      | _ => false
    | _ => false
  | _, _ => false
def chkVs (K : PySem.W.Frag) : List Val → List Value → Bool
  | [], us => match us with | [] => true | _ => false
  | x :: xs, us => match us with
    | u :: us => chkV K x u && chkVs K xs us
    | _ => false
end
mutual
theorem chkV_ok {K : PySem.W.Frag} : ∀ {v : Val} {u : Value}, chkV K v u = true → ∃ y, RelV y u ∧ ∀ g, VR K g v y
  | .non, u, h => by
    unfold chkV at h
    split at h
    · exact ⟨.non, rfl, fun _ => .non⟩
    · cases h
  | .bl b, u, h => by
    unfold chkV at h
    split at h
    · rw [beq_iff_eq] at h; subst h; exact ⟨.bl b, rfl, fun _ => .bl b⟩
    · cases h
  | .int i, u, h => by
    unfold chkV at h
    split at h
    · rw [beq_iff_eq] at h; subst h; exact ⟨.int i, ⟨_, rfl⟩, fun _ => .int i⟩
    · cases h
  | .str x, u, h => by
    unfold chkV at h
    split at h
    · rw [decide_eq_true_eq] at h; subst h; exact ⟨.str x, ⟨_, rfl⟩, fun _ => .str x⟩
    · cases h
  | .tup xs, u, h => by
    unfold chkV at h
    split at h
    · rename_i a
      split at h
      · rename_i c its m sl hl
        simp only [Bool.and_eq_true, decide_eq_true_eq, beq_iff_eq] at h
        obtain ⟨⟨h1, h2⟩, h3⟩ := h
        subst h1
        obtain ⟨ys, r, q⟩ := chkVs_ok h3
        exact ⟨.ref a, rfl, fun g => .tup (.inr ⟨_, its, m, hl, rfl, rfl, rfl, h2, r⟩) (q g)⟩
      · cases h
    · cases h
  | .lst _, _, h => by unfold chkV at h; cases h
  | .cup, _, h => by unfold chkV at h; cases h
  | .ref _, _, h => by unfold chkV at h; cases h
  | .mls _, _, h => by unfold chkV at h; cases h
  | .mcp _, _, h => by unfold chkV at h; cases h
  | .scr _, _, h => by unfold chkV at h; cases h
  | .scl _, _, h => by unfold chkV at h; cases h
  | .obj _ _, _, h => by unfold chkV at h; cases h
  | .mob _ _ _, _, h => by unfold chkV at h; cases h
  | .clo _ _, _, h => by unfold chkV at h; cases h
  | .dic _ _, _, h => by unfold chkV at h; cases h
  | .mdc _ _, _, h => by unfold chkV at h; cases h
  | .exn _ _, _, h => by unfold chkV at h; cases h
  | .tupk _, _, h => by unfold chkV at h; cases h
theorem chkVs_ok {K : PySem.W.Frag} : ∀ {xs : List Val} {us : List Value}, chkVs K xs us = true → ∃ ys, Vals ys us ∧ ∀ g, VRs K g xs ys
  | [], us, h => by
    unfold chkVs at h
    split at h
    · exact ⟨[], .nil, fun _ => .nil⟩
    · cases h
  | x :: xs, us, h => by
    unfold chkVs at h
    split at h
    · rw [Bool.and_eq_true] at h
      obtain ⟨y, r, q⟩ := chkV_ok h.1
      obtain ⟨ys, rs, qs⟩ := chkVs_ok h.2
      exact ⟨y :: ys, .cons r rs, fun g => .cons (q g) (qs g)⟩
    · cases h
end
def konB (K : PySem.W.Frag) (kv : Str × Val) : Bool := match PySem.W.nsIn K mainGlobals kv.1 with
  | some (some u) => chkV K kv.2 u
  | _ => false
theorem konB_ok {K : PySem.W.Frag} {h : Heap} {mg : Str → Option Value} {x : Str} {v : Val} (X : K.In h) (G : h.Ns mainGlobals mg) (e : konB K (x, v) = true) : ∃ u y, mg x = some u ∧ RelV y u ∧ ∀ g, VR K g v y := by
  unfold konB at e
  dsimp only at e
  split at e
  · rename_i u hu
    obtain ⟨y, r, q⟩ := chkV_ok e
    exact ⟨u, y, PySem.W.mg_of X G hu, r, q⟩
  · cases e

/-! ### what the top leaves: the defs, the data -/
def obsX (n : Nat) (fa : List He.Fa) (fn : List He.DefD) (kv : List (Str × Val)) (g : Addr → Option Obj) : Bool × He.AlD := (kv.all (konB (He.frG g (He.asD g n))), He.obsDG n fa fn g)
def hookX (n : Nat) (fa : List He.Fa) (fn : List He.DefD) (kv : List (Str × Val)) : PySem.W.Hook where
  α := Bool × He.AlD
  obs := fun s => obsX n fa fn kv s.heap.get?
  val := fun _ => (true, He.valD fn)
  says := fun _ h => ∃ K : PySem.W.Frag, K.In h ∧ He.SaysD fa fn K ∧ kv.all (konB K) = true
  of := fun _ s e => by
    have e1 : (kv.all (konB (He.frG s.heap.get? (He.asD s.heap.get? n)))) = true := congrArg Prod.fst e
    have e2 := congrArg Prod.snd e
    exact ⟨_, He.frG_in, e2, e1⟩
  keeps := fun _ _ _ ⟨K, hK, c, d⟩ k => ⟨K, PySem.W.Frag.In.keeps hK k, c, d⟩
theorem obsX_eq {n : Nat} {fa : List He.Fa} {fn : List He.DefD} {kv : List (Str × Val)} {g : Addr → Option Obj} {s : Shared} (h : ∀ a, g a = s.heap.get? a) : obsX n fa fn kv g = (hookX n fa fn kv).obs s := by
  have e : g = s.heap.get? := funext h
  rw [e] <;> rfl
/-- how a def without defaults binds a call with keywords -/
theorem kwN {K : PySem.W.Frag} {x qual : Str} {params : Arguments} {body : List Stmt} {scope : Scope} {kws : List (Str × L2.V)} {f : Addr} {fd : FuncData} {ps : List Str} (F : FunD K x qual params body scope [] kws f fd) (e : Nat × List Str × List Nat)
    (h : ∀ (kV doc pm : Value) (an : Option Addr) (cdv ct : Value) (us ws : List Value), us.length = e.1 → ws.length = e.2.1.length → bindArgs (PySem.W.fnOf x qual params body scope .none kV doc pm an cdv ct) ⟨us, e.2.1.zip ws⟩ = pure (ps.zip (e.2.2.map fun j => (us ++ ws).getD j .none))) : KwB K fd ps e := by
  obtain ⟨oc, od, dV, kV, doc, pm, an, cdv, ct, osl, rfl, lk, hcd, hD, hK⟩ := F.ex
  rcases hD with ⟨_, rfl⟩ | ⟨z, _⟩
  · refine ⟨fun s us ws _ l1 l2 => .of_eq (h kV doc pm an cdv ct us ws l1 l2), fun {vs us zs ws} r1 r2 => ?_⟩
    have pick : ∀ pm : List Nat, Vals (pm.map fun j => (vs ++ zs).getD j .non) (pm.map fun j => (us ++ ws).getD j .none) := by
      intro pm
      induction pm with
      | nil => exact .nil
      | cons j r ih =>
        refine .cons ?_ ih
        have r3 := r1.append r2
        show RelV ((vs ++ zs).getD j .non) ((us ++ ws).getD j .none)
        rw [List.getD_eq_getElem?_getD, List.getD_eq_getElem?_getD]
        cases q : (vs ++ zs)[j]? with
        | none => rw [r3.none_of q]; rfl
        | some y =>
          obtain ⟨u, e1, e2⟩ := r3.get q
          rw [e1]; exact e2
    exact pick e.2.2
  · exact absurd rfl z
/-- the law's word, by the evaluator -/
def okT : KV := fun v _ => match v with | .bl true => true | _ => false
theorem law_sp {D : Dat} {Γ : Sem} {f : Nat} {H : Hp} {a : Addr} {ns : List Int} (hk : Γ f [.scr ns.length] [] okT noX = true) (hS : SqL D.K H a (ns.map L2.V.int)) : spF D Γ f 1 [.ref a] H (fun v _ => v = .bl true) fun _ _ _ => False := by
  refine ⟨rfl, ⟨H, fun _ => none, D.cl, D.an, none⟩, [], [.scr ns.length], okT, noX, ⟨fun _ _ e => e, fun _ e => (by cases e), fun _ _ e => (by cases e), fun _ _ _ e => (by cases e), fun n hn => absurd hn (by simp), ⟨rfl, rfl⟩⟩, .cons (.scr hS rfl) .nil, hk, ?_, ?_⟩
  · intro v h' g' H' x e _ _ r
    cases v <;> first | (cases e; done) | skip
    rename_i b
    cases b with
    | true => cases r; rfl
    | false => cases e
  · intro v h' g' H' cls d e; cases e
end EV
namespace EV
open PySem PySem.Spec PyProof.Rows L2

/-! ### classes of objects: what the top leaves -/
/-- the names of attributes -/
def anF (l : List Str) (i : Nat) : Str := match l[i]? with | some x => x | none => ⟨Array.replicate (i + 1) 35⟩
theorem anF_inj {l : List Str} (h1 : l.Nodup) (h2 : l.all (fun x => decide (x.cps[0]? ≠ some 35)) = true) (a b : Nat) (h : anF l a = anF l b) : a = b := by
  have pad : ∀ i, (⟨Array.replicate (i + 1) 35⟩ : Str).cps[0]? = some 35 := fun i => by simp
  have no : ∀ {x : Str} {i j : Nat}, l[i]? = some x → x = ⟨Array.replicate (j + 1) 35⟩ → False := fun {x i j} e z => by
    have := of_decide_eq_true (List.all_eq_true.mp h2 x (List.mem_of_getElem? e))
    rw [z] at this
    exact this (pad j)
  unfold anF at h
  cases ea : l[a]? with
  | none =>
    cases eb : l[b]? with
    | none =>
      rw [ea, eb] at h
      dsimp only at h
      have := congrArg (fun x : Str => x.cps.size) h
      simp at this
      exact this
    | some y => rw [ea, eb] at h; exact (no eb h.symm).elim
  | some x =>
    cases eb : l[b]? with
    | none => rw [ea, eb] at h; exact (no ea h).elim
    | some y =>
      rw [ea, eb] at h
      dsimp only at h
      subst h
      obtain ⟨la, ga⟩ := List.getElem?_eq_some_iff.mp ea
      obtain ⟨lb, gb⟩ := List.getElem?_eq_some_iff.mp eb
      exact (List.getElem?_inj la h1).mp (ea.trans eb.symm)
/-- a property: its class, its name, its def -/
structure PrD where
  cls : Str
  prop : Str
  name : Str
  qual : Str
  params : Arguments
  body : List Stmt
  scope : Scope
def prP (K : PySem.W.Frag) (d : PrD) : Addr := He.ma K (He.ga K d.cls) d.prop
def prG (K : PySem.W.Frag) (d : PrD) : Addr := match PySem.W.recIn K (prP K d) "property" with | some (.ref g :: _) => g | _ => 0
def fnA (K : PySem.W.Frag) (a : Addr) : He.FnW := match K.lookup a with
  | some ⟨_, _, .func fd, _⟩ => some (fd.name, fd.qualname, fd.params, fd.body, fd.scope, fd.globals, fd.closure, fd.builtins)
  | _ => none
def PrD.val (d : PrD) : He.FnW := some (d.name, d.qual, d.params, .stmts d.body, d.scope, mainGlobals, [], builtinsNs)
def PrD.ok (K : PySem.W.Frag) (d : PrD) : Bool := PySem.W.keepIn K (.ref (prG K d)) && ((match K.lookup (prG K d) with
  | some ⟨_, _, .func fd, _⟩ => PySem.W.codeIn K fd.code d.qual && (He.dflB K fd.defaults [] && He.kwdB K fd.kwdefaults [])
  | _ => false) && (He.eqO (PySem.W.findIn K (.ref (He.ga K d.cls)) d.prop) (some (some (.ref (prP K d)))) && (He.eqO (PySem.W.specialIn K (.ref (prP K d)) "__get__") (some (some (.builtin "property.__get__"))) &&
    (decide (PySem.W.takesIn K (.ref (prP K d)) = some true) && (match PySem.W.recIn K (prP K d) "property" with | some (.ref _ :: _) => true | _ => false)))))
theorem PrD.of {K : PySem.W.Frag} {d : PrD} (e : fnA K (prG K d) = d.val) (c : d.ok K = true) : PropOf K (He.ga K d.cls) d.prop (prP K d) (prG K d) ∧ ∃ fd, FunD K d.name d.qual d.params d.body d.scope [] [] (prG K d) fd := by
  obtain ⟨kp, c⟩ := He.ba c
  obtain ⟨c2, c⟩ := He.ba c
  obtain ⟨p1, c⟩ := He.ba c
  obtain ⟨p2, c⟩ := He.ba c
  obtain ⟨p3, p4⟩ := He.ba c
  refine ⟨⟨He.eqO_ok p1, He.eqO_ok p2, of_decide_eq_true p3, ?_⟩, ?_⟩
  · unfold prG
    split at p4
    · rename_i g rest q
      rw [q]
      exact ⟨rest, rfl⟩
    · cases p4
  · unfold fnA at e
    cases q : K.lookup (prG K d) with
    | none =>
      rw [q] at c2
      cases c2
    | some o =>
      obtain ⟨oc, od, dt, osl⟩ := o
      rw [q] at c2 e
      cases dt with
      | func fd =>
        obtain ⟨n1, n2, n3, n4, n5, n6, n7, n8, n9, n10, n11, n12, n13, n14, n15⟩ := fd
        have e2 : (some (n1, n2, n3, n4, n5, n6, n7, n15) : He.FnW) = some (d.name, d.qual, d.params, .stmts d.body, d.scope, mainGlobals, [], builtinsNs) := e
        simp only [Option.some.injEq, Prod.mk.injEq] at e2
        obtain ⟨h1, h2, h3, h4, h5, h6, h7, h8⟩ := e2
        subst h1 h2 h3 h4 h5 h6 h7 h8
        have c3 : (PySem.W.codeIn K n13 d.qual && (He.dflB K n8 [] && He.kwdB K n9 [])) = true := c2
        obtain ⟨k1, k2⟩ := He.ba c3
        obtain ⟨k3, k4⟩ := He.ba k2
        exact ⟨_, ⟨oc, od, n8, n9, n10, n11, n12, n13, n14, osl, rfl, q, k1, He.dflB_ok k3, He.kwdB_ok k4⟩, kp⟩
      | _ => cases c2
/-- a class of objects: its name, its attributes -/
def clsB (K : PySem.W.Frag) (x : Str) (as : List Str) : Bool := (He.Fa.cls x).ok K && ((as.all fun f => (He.Fa.noat x f).ok K) && ((He.Fa.mkr x).ok K && (He.eqO (PySem.W.findIn K (.ref (He.ga K x)) "__class__") (some (some (.builtin "object.__class__"))) &&
  (He.eqO (PySem.W.specialIn K (.builtin "object.__class__") "__get__") (some (some (.builtin "getset_descriptor.__get__"))) && (decide (PySem.W.takesIn K (.builtin "object.__class__") = some true) && decide (PySem.W.mroIn K (He.ga K x) (.type "object") = some true))))))
theorem clsB_ok {K : PySem.W.Frag} {x : Str} {as : List Str} (c : clsB K x as = true) : Cls K (He.ga K x) ∧ (∀ f ∈ as, NoAttr K (He.ga K x) f) ∧ Mk K (He.ga K x) (He.ma K (He.ga K x) "__init__") ∧
    PySem.W.findIn K (.ref (He.ga K x)) "__class__" = some (some (.builtin "object.__class__")) ∧ PySem.W.specialIn K (.builtin "object.__class__") "__get__" = some (some (.builtin "getset_descriptor.__get__")) ∧ PySem.W.takesIn K (.builtin "object.__class__") = some true ∧ PySem.W.mroIn K (He.ga K x) (.type "object") = some true := by
  obtain ⟨c1, c⟩ := He.ba c
  obtain ⟨c2, c⟩ := He.ba c
  obtain ⟨c3, c⟩ := He.ba c
  obtain ⟨c4, c⟩ := He.ba c
  obtain ⟨c5, c⟩ := He.ba c
  obtain ⟨c6, c7⟩ := He.ba c
  exact ⟨He.cls_ok c1, fun f hf => He.noat_ok (List.all_eq_true.mp c2 f hf), He.mkr_ok c3, He.eqO_ok c4, He.eqO_ok c5, of_decide_eq_true c6, of_decide_eq_true c7⟩
/-- isinstance asks for the class x -/
def iscB (K : PySem.W.Frag) (x : Str) (ds : List (Str × Bool)) : Bool := (["NoneType", "bool", "int", "str", "tuple", "list"].all fun t => decide (PySem.W.kitOne K (.type t) (.ref (He.ga K x)) = some false)) && ds.all fun d => decide (PySem.W.kitOne K (.ref (He.ga K d.1)) (.ref (He.ga K x)) = some d.2)
theorem iscB_ok {K : PySem.W.Frag} {x : Str} {ds : List (Str × Bool)} (c : iscB K x ds = true) : (∀ t ∈ ["NoneType", "bool", "int", "str", "tuple", "list"], PySem.W.kitOne K (.type t) (.ref (He.ga K x)) = some false) ∧ ∀ d ∈ ds, PySem.W.kitOne K (.ref (He.ga K d.1)) (.ref (He.ga K x)) = some d.2 := by
  obtain ⟨c1, c2⟩ := He.ba c
  exact ⟨fun t ht => of_decide_eq_true (List.all_eq_true.mp c1 t ht), fun d hd => of_decide_eq_true (List.all_eq_true.mp c2 d hd)⟩
/-! ### the hook -/
/-- a table: its name, its keys -/
abbrev TbK : Type := Str × List Str
abbrev AlY : Type := Bool × He.AlD × List He.FnW × List (Option (List (Option (Str × Int))))
def obsK (fa : List He.Fa) (fn : List He.DefD) (pr : List PrD) (tb : List TbK) (chk : PySem.W.Frag → Bool) (K : PySem.W.Frag) : AlY := (chk K && pr.all (PrD.ok K), He.obsD fa fn K, pr.map (fun d => fnA K (prG K d)), tb.map fun t => He.dicW K (He.ga K t.1))
def valY (fn : List He.DefD) (pr : List PrD) (tb : List TbK) (w : World) : AlY := (true, He.valD fn, pr.map PrD.val, tb.map fun t => some (He.keysIn w.params t.2))
def SaysY (fa : List He.Fa) (fn : List He.DefD) (pr : List PrD) (tb : List TbK) (chk : PySem.W.Frag → Bool) (w : World) (K : PySem.W.Frag) : Prop := obsK fa fn pr tb chk K = valY fn pr tb w
def obsY (n : Nat) (fa : List He.Fa) (fn : List He.DefD) (pr : List PrD) (tb : List TbK) (chk : PySem.W.Frag → Bool) (g : Addr → Option Obj) : AlY := obsK fa fn pr tb chk (He.frG g (He.asD g n))
def hookY (n : Nat) (fa : List He.Fa) (fn : List He.DefD) (pr : List PrD) (tb : List TbK) (chk : PySem.W.Frag → Bool) : PySem.W.Hook where
  α := AlY
  obs := fun s => obsY n fa fn pr tb chk s.heap.get?
  val := fun w => valY fn pr tb w
  says := fun w h => ∃ K : PySem.W.Frag, K.In h ∧ SaysY fa fn pr tb chk w K
  of := fun _ _ e => ⟨_, He.frG_in, e⟩
  keeps := fun _ _ _ ⟨K, hK, c⟩ k => ⟨K, PySem.W.Frag.In.keeps hK k, c⟩
theorem obsY_eq {n : Nat} {fa : List He.Fa} {fn : List He.DefD} {pr : List PrD} {tb : List TbK} {chk : PySem.W.Frag → Bool} {g : Addr → Option Obj} {s : Shared} (h : ∀ a, g a = s.heap.get? a) : obsY n fa fn pr tb chk g = (hookY n fa fn pr tb chk).obs s := by
  have e : g = s.heap.get? := funext h
  rw [e] <;> rfl
/-- a table's entries -/
def tabI (K : PySem.W.Frag) (x : Str) (kvs : List (Str × Int)) : Bool := match PySem.W.nsIn K mainGlobals x with
  | some (some (.ref a)) => decide (a = He.ga K x) && (match K.lookup a with
    | some ⟨_, _, .dict es _, _⟩ => decide (es.toList.map entI = kvs.map some)
    | _ => false)
  | _ => false
theorem dicW_tab {K : PySem.W.Frag} {w : World} {a : Addr} {ks : List Str} (h : He.dicW K a = some (He.keysIn w.params ks)) : ∃ es n, K.lookup a = some ⟨.type "dict", none, .dict es n, #[]⟩ ∧ PySem.W.KeysLit w.params es.toList ∧ (a == sysModules) = false := by
  obtain ⟨es, n, k⟩ := He.dicW_ok h
  exact ⟨es, n, k.at_, k.lit, k.low⟩
section
variable {fa : List He.Fa} {fn : List He.DefD} {ps : List PrD} {tb : List TbK} {ck : PySem.W.Frag → Bool} {w : World} {K : PySem.W.Frag}
theorem SaysY.d (c : SaysY fa fn ps tb ck w K) : He.SaysD fa fn K := congrArg (fun z : AlY => z.2.1) c
theorem SaysY.chk (c : SaysY fa fn ps tb ck w K) : ck K = true := (He.ba (congrArg (fun z : AlY => z.1) c)).1
theorem SaysY.pr (c : SaysY fa fn ps tb ck w K) (i : Nat) {d : PrD} (h : ps[i]? = some d) : PropOf K (He.ga K d.cls) d.prop (prP K d) (prG K d) ∧ ∃ fd, FunD K d.name d.qual d.params d.body d.scope [] [] (prG K d) fd := by
  have c2 := (He.ba (show (ck K && ps.all (PrD.ok K)) = true from congrArg (fun z : AlY => z.1) c)).2
  have e : ps.map (fun d => fnA K (prG K d)) = ps.map PrD.val := congrArg (fun z : AlY => z.2.2.1) c
  have e2 : (ps.map fun d => fnA K (prG K d))[i]? = (ps.map PrD.val)[i]? := by rw [e]
  rw [List.getElem?_map, List.getElem?_map, h] at e2
  exact PrD.of (Option.some.inj e2) (List.all_eq_true.mp c2 d (List.mem_of_getElem? h))
/-- a table of the module, by its name -/
theorem SaysY.tab {h : Heap} {mg : Str → Option Value} (X : K.In h) (G : h.Ns mainGlobals mg) (c : SaysY fa fn ps tb ck w K) (i : Nat) {t : TbK} {kvs : List (Str × Int)} (ht : tb[i]? = some t) (hi : tabI K t.1 kvs = true) : ∃ a, mg t.1 = some (.ref a) ∧ KTab K w a kvs := by
  have e : tb.map (fun t => He.dicW K (He.ga K t.1)) = tb.map fun t => some (He.keysIn w.params t.2) := congrArg (fun z : AlY => z.2.2.2) c
  have e2 : (tb.map fun t => He.dicW K (He.ga K t.1))[i]? = (tb.map fun t => some (He.keysIn w.params t.2))[i]? := by rw [e]
  rw [List.getElem?_map, List.getElem?_map, ht] at e2
  obtain ⟨es, n, k1, k2, k3⟩ := dicW_tab (Option.some.inj e2)
  unfold tabI at hi
  split at hi
  · rename_i a ha
    rw [Bool.and_eq_true, decide_eq_true_eq] at hi
    obtain ⟨h1, h2⟩ := hi
    rw [h1, k1] at h2
    refine ⟨a, PySem.W.mg_of X G ha, es, n, by rw [h1]; exact k1, k2, by rw [h1]; exact k3, of_decide_eq_true h2⟩
  · cases hi
end
/-- by what a world says of one row -/
theorem byRow (r : String) {P : World → Prop} (h : ∀ (w : World) (b : Bool), P { w with params := { w.params with followText := fun x => if x = r then b else w.params.followText x } }) : ∀ w, P w := fun w => by
  have e : ({ w with params := { w.params with followText := fun x => if x = r then w.params.followText r else w.params.followText x } } : World) = w := by
    have f : (fun x => if x = r then w.params.followText r else w.params.followText x) = w.params.followText := funext fun x => by
      by_cases q : x = r
      · rw [if_pos q, q]
      · rw [if_neg q]
    rw [f]
  exact e ▸ h w (w.params.followText r)
/-- the body of a method -/
def clsM (s : Stmt) (j : Nat) : Stmt := match s with
  | .ClassDef _ _ _ body .. => body.getD j (.Pass ⟨0, 0, 0, 0⟩)
  | _ => .Pass ⟨0, 0, 0, 0⟩
end EV
namespace EV
open PySem PySem.Spec PyProof.Rows L2

mutual
def veq : Val → Val → Bool
  | .non, v => match v with | .non => true | _ => false
  | .bl b, v => match v with | .bl c => b == c | _ => false
  | .int i, v => match v with | .int j => i == j | _ => false
  | .str x, v => match v with | .str y => decide (x = y) | _ => false
  | .tup xs, v => match v with | .tup ys => veqs xs ys | _ => false
  | .lst xs, v => match v with | .lst ys => veqs xs ys | _ => false
  | .cup, v => match v with | .cup => true | _ => false
  | _, _ => false
def veqs : List Val → List Val → Bool
  | [], ys => match ys with | [] => true | _ => false
  | x :: xs, ys => match ys with | y :: ys => veq x y && veqs xs ys | _ => false
end
mutual
theorem veq_ok : ∀ {u v : Val}, veq u v = true → v = u
  | .non, v, h => by unfold veq at h; split at h <;> first | rfl | cases h
  | .bl b, v, h => by
    unfold veq at h
    split at h
    · rw [beq_iff_eq] at h; rw [h]
    · cases h
  | .int b, v, h => by
    unfold veq at h
    split at h
    · rw [beq_iff_eq] at h; rw [h]
    · cases h
  | .str b, v, h => by
    unfold veq at h
    split at h
    · rw [decide_eq_true_eq] at h; rw [h]
    · cases h
  | .tup xs, v, h => by
    unfold veq at h
    split at h
    · rw [veqs_ok h]
    · cases h
  | .lst xs, v, h => by
    unfold veq at h
    split at h
    · rw [veqs_ok h]
    · cases h
  | .cup, v, h => by unfold veq at h; split at h <;> first | rfl | cases h
  | .ref _, _, h => by unfold veq at h; cases h
  | .mls _, _, h => by unfold veq at h; cases h
  | .mcp _, _, h => by unfold veq at h; cases h
  | .scr _, _, h => by unfold veq at h; cases h
  | .scl _, _, h => by unfold veq at h; cases h
  | .obj _ _, _, h => by unfold veq at h; cases h
  | .mob _ _ _, _, h => by unfold veq at h; cases h
  | .clo _ _, _, h => by unfold veq at h; cases h
  | .dic _ _, _, h => by unfold veq at h; cases h
  | .mdc _ _, _, h => by unfold veq at h; cases h
  | .exn _ _, _, h => by unfold veq at h; cases h
  | .tupk _, _, h => by unfold veq at h; cases h
theorem veqs_ok : ∀ {u v : List Val}, veqs u v = true → v = u
  | [], v, h => by unfold veqs at h; split at h <;> first | rfl | cases h
  | x :: xs, v, h => by
    unfold veqs at h
    split at h
    · rw [Bool.and_eq_true] at h
      rw [veq_ok h.1, veqs_ok h.2]
    · cases h
end
/-- the answers of a def, as the evaluator finds them -/
def specOk (X : Txt) (F : Nat → Option Fn) (N f : Nat) (g : List Val → Option (List Val)) : Prop :=
  ∀ args vs, g args = some vs → sem X F N f args [] (fun v h => h.isEmpty && vs.any fun u => veq u v) noX = true
theorem sem_spec {X : Txt} {F : Nat → Option Fn} {n f : Nat} {g : List Val → Option (List Val)} {as : List Val} {h : Hs} {k kx : KV} (hF : F f = some (.spec g)) (hk : sem X F n f as h k kx = true) : ∃ vs, g as = some vs ∧ h = [] ∧ ∀ v ∈ vs, k v [] = true := by
  cases n with
  | zero => cases hk
  | succ n =>
    unfold sem at hk
    rw [hF] at hk
    have hk' : (match g as with | some vs => h.isEmpty && vs.all fun v => k v h | none => false) = true := hk
    split at hk'
    · rename_i vs e
      rw [Bool.and_eq_true] at hk'
      have hh : h = [] := by simpa using hk'.1
      subst hh
      exact ⟨vs, e, rfl, fun v hv => List.all_eq_true.mp hk'.2 v hv⟩
    · cases hk'
section
variable {D : Dat} {T : Tab}
theorem FnP.mono {F : Nat → Option Fn} {n m f : Nat} {x : Str} (p : FnP D T F n f x) (h : n ≤ m) : FnP D T F m f x := ⟨fun k => (p.ok k).mono h, p.len⟩
/-- a def by its answers -/
theorem fnp_spec {T0 : Tab} {F0 F : Nat → Option Fn} {n0 N f : Nat} {x : Str} {g : List Val → Option (List Val)} (Fs : Fns D T0 (sem D.X F0 N) n0) (hx : T0.fn f = some x) (hp : T0.pars f = T.pars f) (hkw : T0.kw f = T.kw f) (hF : F f = some (.spec g)) (ok : specOk D.X F0 N f g) : FnP D T F n0 f x := by
  refine ⟨fun n => ?_, fun n args h k kx hk => ?_⟩
  · obtain ⟨fa, fd, h1, h2, h3, h4, h5⟩ := (Fs.fn f x hx).ex
    rw [hp] at h3 h4 h5
    rw [hkw] at h5
    refine ⟨fa, fd, h1, h2, h3, h4.imp fun vs H Q E z => ?_, h5⟩
    obtain ⟨hl, gs, h, as, k, kx, okg, r, hk, pv, px⟩ := z
    obtain ⟨ws, e, rfl, hall⟩ := sem_spec hF hk
    refine ⟨hl, gs, [], as, _, noX, okg, r, ok as ws e, ?_, fun v h' g' H' cls d z => by cases z⟩
    intro v h' g' H' y hv ex ok' rv
    rw [Bool.and_eq_true] at hv
    have hh : h' = [] := by simpa using hv.1
    subst hh
    obtain ⟨u, hu, hq⟩ := List.any_eq_true.mp hv.2
    have := veq_ok hq
    subst this
    exact pv v [] g' H' y (hall v hu) ex ok' rv
  · obtain ⟨ws, e, rfl, hall⟩ := sem_spec hF hk
    have := Fs.len f x args [] _ noX hx (ok args ws e)
    rw [this, hp]
end
end EV
namespace EV
open PySem PySem.Spec PyProof.Rows L2
/-! the evaluator, step by step, for values that are not known -/
section
variable {X : Txt} {Γ : Sem} {env : Env} {h : Hs} {k kx : KV} {c : C}
theorem ev_var {i : Nat} : ev X Γ (.var i) env h k kx = stepK (EV.getD env i) fun v => k v h := rfl
theorem ev_int {i : Int} : ev X Γ (.int i) env h k kx = k (.int i) h := rfl
theorem ev_bin {op : Bop} {a b : E} : ev X Γ (.bin op a b) env h k kx = ev X Γ a env h (fun x h => ev X Γ b env h (fun y h => stepK (bop op x y) fun v => k v h) kx) kx := rfl
theorem ev_lt {a b : E} : ev X Γ (.cmp .lt a b) env h k kx = ev X Γ a env h (fun x h => ev X Γ b env h (fun y h => cmpV X Γ .lt x y h k kx) kx) kx := rfl
theorem ev_gt {a b : E} : ev X Γ (.cmp .gt a b) env h k kx = ev X Γ a env h (fun x h => ev X Γ b env h (fun y h => cmpV X Γ .gt x y h k kx) kx) kx := rfl
theorem ev_ge {a b : E} : ev X Γ (.cmp .ge a b) env h k kx = ev X Γ a env h (fun x h => ev X Γ b env h (fun y h => cmpV X Γ .ge x y h k kx) kx) kx := rfl
theorem cmpV_lt {i j : Int} : cmpV X Γ .lt (.int i) (.int j) h k kx = k (.bl (decide (i < j))) h := rfl
theorem cmpV_gt {i j : Int} : cmpV X Γ .gt (.int i) (.int j) h k kx = k (.bl (decide (j < i))) h := rfl
theorem cmpV_ge {i j : Int} : cmpV X Γ .ge (.int i) (.int j) h k kx = k (.bl (decide (j ≤ i))) h := rfl
theorem ev_blt {b : Blt} {es : Es} : ev X Γ (.blt b es) env h k kx = evs X Γ es env h (fun xs h => stepK (blt b xs) fun v => k v h) kx := rfl
theorem ev_ixo {i : Nat} {b : E} : ev X Γ (.ixo i b) env h k kx = stepK (getV env i) fun x => ev X Γ b env h (fun y h => stepK (ixv x y) fun v => k v h) kx := rfl
theorem ev_ix {a b : E} : ev X Γ (.ix a b) env h k kx = ev X Γ a env h (fun x h => ev X Γ b env h (fun y h => stepK (ixv x y) fun v => k v h) kx) kx := rfl
theorem ev_call {f : Nat} {es : Es} : ev X Γ (.call f es) env h k kx = evs X Γ es env h (fun xs h => Γ f xs h k kx) kx := rfl
theorem ev_lst {es : Es} : ev X Γ (.lst es) env h k kx = evs X Γ es env h (fun xs h => if xs.length ≤ sizeLine then k (.lst xs) h else false) kx := rfl
theorem ev_ife {t a b : E} : ev X Γ (.ife t a b) env h k kx = ev X Γ t env h (fun x h => match x with | .bl true => ev X Γ a env h k kx | .bl false => ev X Γ b env h k kx | _ => false) kx := rfl
theorem evs_nil {k : KVs} : evs X Γ .nil env h k kx = k [] h := rfl
theorem evs_cons {e : E} {es : Es} {k : KVs} : evs X Γ (.cons e es) env h k kx = ev X Γ e env h (fun v h => evs X Γ es env h (fun vs h => k (v :: vs) h) kx) kx := by
  show ev X Γ e env h (fun v h => fV v fun v => evs X Γ es env h (fun vs h => k (v :: vs) h) kx) kx = _
  simp only [fV_eq]
theorem exs_nil : exs X Γ .nil env h c = c.nx env h := rfl
theorem exs_cons {s : S} {ss : Ss} : exs X Γ (.cons s ss) env h c = ex X Γ s env h { c with nx := fun env h => exs X Γ ss env h c } := rfl
theorem ex_set {i : Nat} {e : E} : ex X Γ (.set (.name i) (.e e)) env h c = ev X Γ e env h (fun v h => if i < env.length then c.nx (env.set i (some v)) h else false) (c.kx env) := by
  show ev X Γ e env h (fun v h => put i v env h c.nx) (c.kx env) = _
  simp only [put, fV_eq]
theorem ex_ret {e : E} : ex X Γ (.ret (.e e)) env h c = ev X Γ e env h (fun v h => c.rt env v h) (c.kx env) := rfl
theorem ex_retO {e : E} : ex X Γ (.ret (.own e)) env h c = ev X Γ e env h (fun v h => match v with | .lst xs => c.rt env (.mls xs) h | _ => false) (c.kx env) := rfl
theorem ex_if {t : E} {a b : Ss} : ex X Γ (.ifS t a b) env h c = ev X Γ t env h (fun x h => match x with | .bl true => exs X Γ a env h c | .bl false => exs X Γ b env h c | _ => false) (c.kx env) := rfl
theorem ex_setIx {i : Nat} {e r : E} {w : Val} {xs : List Val} (hm : getM env i = some (w, xs)) : ex X Γ (.setIx i e r) env h c = ev X Γ r env h (fun v h => ev X Γ e env h (fun y h => match y with
        | .int k => match L2.ixN xs.length k with
          | some j => c.nx (env.set i (some (mlPut w (xs.set j v)))) h
          | none => false
        | _ => false) (c.kx env)) (c.kx env) := by
  simp only [ex, hm, fV_eq]
  try rfl
theorem ex_setDm {i j : Nat} {e a b : E} {w : Val} {xs : List Val} (hm : getM env i = some (w, xs)) : ex X Γ (.setDm i e j a b) env h c = ev X Γ a env h (fun x h => ev X Γ b env h (fun y h => match x with
        | .int p => match y with
          | .int q => if 0 < q ∧ q < 1073741824 then ev X Γ e env h (fun z h => match z with
            | .int k => match L2.ixN xs.length k with
              | some t => if j < (env.set i (some (mlPut w (xs.set t (.int (p / q)))))).length then c.nx ((env.set i (some (mlPut w (xs.set t (.int (p / q)))))).set j (some (.int (p % q)))) h else false
              | none => false
            | _ => false) (c.kx env) else false
          | _ => false
        | _ => false) (c.kx env)) (c.kx env) := by
  simp only [ex, hm, fInt_eq, put, fV_eq]
  try rfl
theorem ex_setIx' {i : Nat} {e r : E} : ex X Γ (.setIx i e r) env h c = match getM env i with
      | some (w, xs) => ev X Γ r env h (fun v h => ev X Γ e env h (fun y h => match y with
        | .int k => match L2.ixN xs.length k with
          | some j => c.nx (env.set i (some (mlPut w (xs.set j v)))) h
          | none => false
        | _ => false) (c.kx env)) (c.kx env)
      | none => false := by
  cases q : getM env i with
  | none => simp only [ex, q]
  | some p => exact ex_setIx q
theorem ex_setDm' {i j : Nat} {e a b : E} : ex X Γ (.setDm i e j a b) env h c = match getM env i with
      | some (w, xs) => ev X Γ a env h (fun x h => ev X Γ b env h (fun y h => match x with
        | .int p => match y with
          | .int q => if 0 < q ∧ q < 1073741824 then ev X Γ e env h (fun z h => match z with
            | .int k => match L2.ixN xs.length k with
              | some t => if j < (env.set i (some (mlPut w (xs.set t (.int (p / q)))))).length then c.nx ((env.set i (some (mlPut w (xs.set t (.int (p / q)))))).set j (some (.int (p % q)))) h else false
              | none => false
            | _ => false) (c.kx env) else false
          | _ => false
        | _ => false) (c.kx env)) (c.kx env)
      | none => false := by
  cases q : getM env i with
  | none => simp only [ex, q]
  | some p => exact ex_setDm q
theorem at0 {x y z : Val} : L2.atI [x, y, z] 0 = some x := rfl
theorem at1 {x y z : Val} : L2.atI [x, y, z] 1 = some y := rfl
theorem at2 {x y z : Val} : L2.atI [x, y, z] 2 = some z := rfl
theorem at20 {x y : Val} : L2.atI [x, y] 0 = some x := rfl
theorem at21 {x y : Val} : L2.atI [x, y] 1 = some y := rfl
theorem ix30 : L2.ixN 3 0 = some 0 := rfl
theorem ix31 : L2.ixN 3 1 = some 1 := rfl
theorem ix32 : L2.ixN 3 2 = some 2 := rfl
theorem ix20 : L2.ixN 2 0 = some 0 := rfl
theorem ix21 : L2.ixN 2 1 = some 1 := rfl
theorem ixv_mcp {xs : List Val} {k : Int} : ixv (.mcp xs) (.int k) = L2.atI xs k := rfl
theorem getV_0 {v : Val} {r : Env} : getV (some v :: r) 0 = some v := rfl
theorem getV_1 {a : Option Val} {v : Val} {r : Env} : getV (a :: some v :: r) 1 = some v := rfl
theorem getV_2 {a b : Option Val} {v : Val} {r : Env} : getV (a :: b :: some v :: r) 2 = some v := rfl
theorem getV_3 {a b c : Option Val} {v : Val} {r : Env} : getV (a :: b :: c :: some v :: r) 3 = some v := rfl
theorem getD_i {i : Nat} {n : Int} (e : getV env i = some (.int n)) : EV.getD env i = some (.int n) := by unfold EV.getD; rw [e]; rfl
theorem getM_0 {xs : List Val} {r : Env} : getM (some (.mcp xs) :: r) 0 = some (.mcp xs, xs) := rfl
theorem mlPut_c {xs ys : List Val} : mlPut (.mcp xs) ys = .mcp ys := rfl
/-- one turn of a loop -/
def forF (X : Txt) (Γ : Sem) (t : T) (b : Ss) : Val → Env → Hs → C → Bool := fun x env h c => stepK (asg t x env) fun env => exs X Γ b env h c
theorem ex_for {t : T} {it : I} {b : Ss} : ex X Γ (.forS t it b) env h c = evi X Γ it env h (fun xs h => forL (forF X Γ t b) xs env h c) (c.kx env) := rfl
theorem evi_slc {a : E} {hi : Int} {k : KVs} : evi X Γ (.seq (.slc a .no (.some (.int hi)))) env h k kx = ev X Γ a env h (fun x h => stepK (slv x none (some hi)) fun v => match v with | .lst xs => k xs h | .tup xs => k xs h | .str z => k (z.cps.toList.map fun c => .str ⟨#[c]⟩) h | _ => false) kx := rfl
theorem len_scl {ns : List Int} : blt .len [.scl ns] = some (.int ns.length) := rfl
theorem ixv_scl {ns : List Int} {k : Int} : ixv (.scl ns) (.int k) = L2.atI (ns.map .int) k := rfl
theorem atI_ints {ns : List Int} {i : Int} (h0 : 0 ≤ i) (h1 : i < ns.length) : ∃ n, L2.atI (ns.map Val.int) i = some (.int n) := by
  unfold L2.atI L2.ixN
  rw [List.length_map, if_pos h0, if_pos h1]
  have hl : i.toNat < ns.length := by omega
  refine ⟨ns[i.toNat], ?_⟩
  show (ns.map Val.int)[i.toNat]? = _
  rw [List.getElem?_map, List.getElem?_eq_getElem hl]; rfl
theorem slv_ints {ns : List Int} {lo hi : Option Int} : ∃ ms : List Int, slv (.scl ns) lo hi = some (.lst (ms.map .int)) := by
  refine ⟨((ns.drop (HT.sIx ns.length 0 lo)).take (HT.sIx ns.length ns.length hi - HT.sIx ns.length 0 lo)), ?_⟩
  show some (Val.lst (cut (ns.map .int) lo hi)) = _
  unfold cut
  rw [List.length_map, List.map_take, List.map_drop]
theorem mul_r {i j : Int} (h : -(2 ^ 64) < j ∧ j < 2 ^ 64) : bop .mul (.int i) (.int j) = some (.int (i * j)) := by
  have : mulOk i j = true := by unfold mulOk; rw [decide_eq_true h, Bool.or_true, Bool.true_or]
  simp only [bop, this, if_true]
theorem ev_or {a b : E} : ev X Γ (.orE a b) env h k kx = ev X Γ a env h (fun x h => match x with | .bl true => k (.bl true) h | .bl false => ev X Γ b env h k kx | _ => false) kx := rfl
theorem ev_one {a : E} : ev X Γ (.one a) env h k kx = ev X Γ a env h k kx := rfl
theorem evi_seq {a : E} {k : KVs} : evi X Γ (.seq a) env h k kx = ev X Γ a env h (fun v h => match v with | .lst xs => k xs h | .tup xs => k xs h | .str z => k (z.cps.toList.map fun c => .str ⟨#[c]⟩) h | _ => false) kx := rfl
theorem evi_enm {a : E} {k : KVs} : evi X Γ (.enm a) env h k kx = ev X Γ a env h (fun x h => match x with | .lst xs => k (enumL 0 xs) h | .tup xs => k (enumL 0 xs) h | _ => false) kx := rfl
theorem ev_slc {a : E} {hi : Int} : ev X Γ (.slc a .no (.some (.int hi))) env h k kx = ev X Γ a env h (fun x h => stepK (slv x none (some hi)) fun v => k v h) kx := rfl
theorem pow_p {i j : Int} (hh : 0 ≤ j ∧ j ≤ 1000000 ∧ i.natAbs < 2 ^ 64) : bop .pow (.int i) (.int j) = some (.int (i ^ j.toNat)) := by simp only [bop, hh, and_self, if_true]
theorem slv_some {ns : List Int} {n : Nat} : ∃ ms : List Int, slv (.scl ns) none (some (n : Int)) = some (.lst (ms.map .int)) ∧ ms.length ≤ n := by
  refine ⟨(ns.drop (HT.sIx ns.length 0 none)).take (HT.sIx ns.length ns.length (some (n : Int)) - HT.sIx ns.length 0 none), ?_, ?_⟩
  · show some (Val.lst (cut (ns.map .int) none (some (n : Int)))) = _
    unfold cut
    rw [List.length_map, List.map_take, List.map_drop]
  · rw [List.length_take, HT.sIx_nat]
    omega
theorem cat_p {xs ys : List Int} (hh : xs.length + ys.length ≤ 1000) : bop .add (.lst (xs.map .int)) (.lst (ys.map .int)) = some (.lst ((xs ++ ys).map .int)) := by
  have : (xs.map Val.int).length + (ys.map Val.int).length ≤ sizeLine := by rw [List.length_map, List.length_map]; exact Nat.le_trans hh (by decide)
  simp only [bop, this, if_true, List.map_append]
theorem gd4 {a b c d : Option Val} {n : Int} {r : Env} : EV.getD (a :: b :: c :: d :: some (.int n) :: r) 4 = some (.int n) := rfl
theorem gd5 {a b c d e : Option Val} {n : Int} {r : Env} : EV.getD (a :: b :: c :: d :: e :: some (.int n) :: r) 5 = some (.int n) := rfl
theorem ex_par2 {i j : Nat} {a b : E} : ex X Γ (.par [i, j] [.e a, .e b]) env h c = ev X Γ a env h (fun v h => ev X Γ b env h (fun w h => if i < env.length then if j < (env.set i (some v)).length then c.nx ((env.set i (some v)).set j (some w)) h else false else false) (c.kx env)) (c.kx env) := by
  show ev X Γ a env h (fun v h => ev X Γ b env h (fun w h => put i v env h fun env => fun h => put j w env h fun env h => c.nx env h) (c.kx env)) (c.kx env) = _
  simp only [put, fV_eq]
theorem gd0 {n : Int} {r : Env} : EV.getD (some (.int n) :: r) 0 = some (.int n) := rfl
theorem gd1 {a : Option Val} {n : Int} {r : Env} : EV.getD (a :: some (.int n) :: r) 1 = some (.int n) := rfl
theorem gd2 {a b : Option Val} {n : Int} {r : Env} : EV.getD (a :: b :: some (.int n) :: r) 2 = some (.int n) := rfl
theorem gd3 {a b c : Option Val} {n : Int} {r : Env} : EV.getD (a :: b :: c :: some (.int n) :: r) 3 = some (.int n) := rfl
theorem gs0 {n : List Int} {r : Env} : EV.getD (some (.scl n) :: r) 0 = some (.scl n) := rfl
theorem forL_nil {F : Val → Env → Hs → C → Bool} : forL F [] env h c = c.nx env h := rfl
theorem forL_cons {F : Val → Env → Hs → C → Bool} {x : Val} {xs : List Val} : forL F (x :: xs) env h c = F x env h { c with nx := fun env h => forL F xs env h c, ct := fun env h => forL F xs env h c, bk := c.nx } := rfl
theorem mul_c {i j : Int} (h : -(2 ^ 64) < i ∧ i < 2 ^ 64) : bop .mul (.int i) (.int j) = some (.int (i * j)) := by
  have : mulOk i j = true := by unfold mulOk; rw [decide_eq_true h, Bool.or_true]
  simp only [bop, this, if_true]
theorem mod_p {i j : Int} (h : 0 < j) : bop .mod (.int i) (.int j) = some (.int (i % j)) := by simp only [bop, h, if_true]
theorem fdv_p {i j : Int} (h : 0 < j ∧ j.natAbs.log2 < 9000) : bop .fdv (.int i) (.int j) = some (.int (i / j)) := by simp only [bop, h, and_self, if_true]
theorem add_p {i j : Int} : bop .add (.int i) (.int j) = some (.int (i + j)) := rfl
theorem sub_p {i j : Int} : bop .sub (.int i) (.int j) = some (.int (i - j)) := rfl
theorem int_p {i : Int} : blt .int [.int i] = some (.int i) := rfl
theorem abs_p {i : Int} : blt .abs [.int i] = some (.int (if i < 0 then -i else i)) := rfl
theorem stepK_s {α : Type} {a : α} {k : α → Bool} : stepK (some a) k = k a := rfl
end
end EV
namespace EV
open PySem PySem.Spec PyProof.Rows L2
/-- a def that lets nothing out -/
theorem fn_calm {P : Program} {w : World} {K : PySem.W.Frag} {mg : Str → Option Value} {base : Heap} {k : Nat} {f : Addr} {fd : FuncData} {ps : List Str} {sp : Sp} (F : FnOk P w K mg base (L2.CX P w) k f fd ps sp) :
    FnOk P w K mg base CX0 k f fd ps (fun vs H Q _ => sp vs H Q fun _ _ _ => False) := by
  refine ⟨fun vs H Q E h => F.len vs H Q _ h, fun A outer s H args us vs Q E hr he hb hv hs => codeAny_mono (F.run A outer s H args us vs Q _ hr he hb hv hs) fun r s' hq => ?_⟩
  cases r with
  | ok fl => cases fl <;> exact hq
  | error e =>
    obtain ⟨_, _, _, _, _, _, _, _, _, _, _, _, z⟩ := hq
    exact z.elim
end EV
namespace EV
open PySem PySem.Spec PyProof.Rows L2
/-! comprehensions and loops as a whole, for values that are not known -/
theorem inL_ints (p : Nat) : ∀ (s : List Nat), inL (.int (p : Nat)) (s.map fun n => Val.int (n : Nat)) = some (s.contains p)
  | [] => rfl
  | n :: s => by
    have ih := inL_ints p s
    have e : eqv (.int (n : Nat)) (.int (p : Nat)) = some (decide (n = p)) := by
      show some (((n : Nat) : Int) == ((p : Nat) : Int)) = _
      congr 1
      by_cases h : n = p
      · subst h; simp
      · have hz : ¬ ((n : Nat) : Int) = ((p : Nat) : Int) := by omega
        simp [h, hz]
    rw [List.map_cons]
    simp only [inL, e, ih]
    by_cases h : n = p
    · subst h; simp
    · have h' : p ≠ n := fun z => h z.symm
      simp [h, h']
/-- a comprehension whose turns are known -/
theorem lcL_eq {turn : Val → Hs → (Option Val → Hs → Bool) → Bool} {k : KVs} (r : Val → Option Val) : ∀ (xs acc : List Val) (n : Nat), (∀ x ∈ xs, ∀ kt, turn x [] kt = kt (r x) []) → n + xs.length ≤ sizeLine →
    lcL turn xs acc n [] k = k (acc.reverse ++ xs.filterMap r) []
  | [], acc, n, _, _ => by simp [lcL]
  | x :: xs, acc, n, ht, hn => by
    have hl : n + (xs.length + 1) ≤ sizeLine := hn
    simp only [lcL]
    rw [ht x List.mem_cons_self]
    cases q : r x with
    | none =>
      rw [List.filterMap_cons_none q]
      exact lcL_eq r xs acc n (fun y hy => ht y (List.mem_cons_of_mem _ hy)) (by omega)
    | some v =>
      rw [List.filterMap_cons_some q]
      dsimp only
      rw [if_pos (by omega), lcL_eq r xs (v :: acc) (n + 1) (fun y hy => ht y (List.mem_cons_of_mem _ hy)) (by omega)]
      simp
/-- a loop whose turns are known: S is what the names hold -/
theorem forL_fold {S : Type} {F : Val → Env → Hs → C → Bool} (env : S → Env) (step : S → Val → S) : ∀ (xs : List Val) (s : S) (c : C), (∀ x ∈ xs, ∀ (s : S) (c : C), F x (env s) [] c = c.nx (env (step s x)) []) →
    forL F xs (env s) [] c = c.nx (env (xs.foldl step s)) []
  | [], s, c, _ => rfl
  | x :: xs, s, c, h => by
    rw [forL_cons, h x List.mem_cons_self]
    exact forL_fold env step xs (step s x) c fun y hy => h y (List.mem_cons_of_mem _ hy)
/-- .. with a word that the state keeps -/
theorem forL_inv {S : Type} {F : Val → Env → Hs → C → Bool} (env : S → Env) (step : S → Val → S) (J : S → Prop) : ∀ (xs : List Val) (s : S) (c : C), J s → (∀ x ∈ xs, ∀ (s : S) (c : C), J s → F x (env s) [] c = c.nx (env (step s x)) [] ∧ J (step s x)) →
    forL F xs (env s) [] c = c.nx (env (xs.foldl step s)) [] ∧ J (xs.foldl step s)
  | [], s, c, j, _ => ⟨rfl, j⟩
  | x :: xs, s, c, j, h => by
    obtain ⟨e, j'⟩ := h x List.mem_cons_self s { c with nx := fun env h => forL F xs env h c, ct := fun env h => forL F xs env h c, bk := c.nx } j
    rw [forL_cons, e]
    exact forL_inv env step J xs (step s x) c j' fun y hy => h y (List.mem_cons_of_mem _ hy)
end EV
namespace EV
open PySem PySem.Spec PyProof.Rows L2
/-! the evaluator in direct style: no draw, no cell -/
/-- an equation that is used as an equation, never by unfolding -/
theorem thru {α : Type} {a b : α} (h : a = b) : a = b := h
inductive Ro (α : Type) where
  | no | ok (a : α) | ex (v : Val)
def Ro.bind {α β : Type} (r : Ro α) (f : α → Ro β) : Ro β := match r with | .no => .no | .ok a => f a | .ex v => .ex v
def Ro.of {α : Type} (o : Option α) : Ro α := match o with | some a => .ok a | none => .no
/-- what may not raise -/
def Ro.calm {α : Type} (r : Ro α) : Ro α := match r with | .ok a => .ok a | _ => .no
theorem Ro.bind_ok {α β : Type} {a : α} {f : α → Ro β} : (Ro.ok a).bind f = f a := thru rfl
theorem Ro.bind_ex {α β : Type} {v : Val} {f : α → Ro β} : (Ro.ex v : Ro α).bind f = .ex v := thru rfl
theorem Ro.of_some {α : Type} {a : α} : Ro.of (some a) = .ok a := thru rfl
theorem Ro.calm_ok {α : Type} {a : α} : (Ro.ok a).calm = .ok a := thru rfl
abbrev SemD := Nat → List Val → Ro Val

/-- what a run in the evaluator's words does -/
def Runs {α : Type} (r : Ro α) (h : Hs) (t : (α → Hs → Bool) → KV → Bool) : Prop := match r with
  | .no => True
  | .ok a => ∀ k kx, t k kx = k a h
  | .ex v => ∀ k kx, t k kx = kx v h
theorem Runs.bind {α β : Type} {r : Ro α} {h : Hs} {t : (α → Hs → Bool) → KV → Bool} {f : α → Ro β} {u : α → Hs → (β → Hs → Bool) → KV → Bool} (hr : Runs r h t) (hf : ∀ a, Runs (f a) h (u a h)) :
    Runs (r.bind f) h (fun k kx => t (fun a h => u a h k kx) kx) := by
  cases r with
  | no => trivial
  | ok a =>
    have e : ∀ k kx, t k kx = k a h := hr
    have := hf a
    show Runs (f a) h _
    have q : (fun k kx => t (fun a h => u a h k kx) kx) = u a h := by funext k kx; rw [e]
    rw [q]; exact this
  | ex v =>
    have e : ∀ k kx, t k kx = kx v h := hr
    exact fun k kx => e _ _
theorem Runs.calm {α : Type} {r : Ro α} {h : Hs} {t : (α → Hs → Bool) → KV → Bool} (hr : Runs r h t) : ∀ a, r.calm = .ok a → ∀ k, t k noX = k a h := by
  intro a e k
  cases r with
  | no => cases e
  | ok b => cases e; exact hr k noX
  | ex v => cases e
theorem Runs.step {α : Type} {o : Option α} {h : Hs} : Runs (Ro.of o) h (fun k _ => stepK o fun v => k v h) := by
  cases o with
  | none => trivial
  | some a => exact fun k kx => rfl
theorem Runs.ok {α : Type} {a : α} {h : Hs} : Runs (.ok a) h (fun k _ => k a h) := fun k kx => rfl

def isNB : Val → Bool
  | .non => true
  | _ => false
def Ro.bl {α : Type} (v : Val) (t f : Ro α) : Ro α := match v with | .bl true => t | .bl false => f | _ => .no
theorem Ro.bl_t {α : Type} {t f : Ro α} : Ro.bl (.bl true) t f = t := thru rfl
theorem Ro.bl_f {α : Type} {t f : Ro α} : Ro.bl (.bl false) t f = f := thru rfl
/-- items of a comprehension -/
def lcD (turn : Val → Ro (Option Val)) : List Val → Ro (List Val)
  | [] => .ok []
  | x :: xs => match turn x with
    | .ok (some v) => (lcD turn xs).bind fun ys => .ok (v :: ys)
    | .ok none => lcD turn xs
    | _ => .no
def lcJ (turn : Val → Ro (List Val)) : List Val → Ro (List Val)
  | [] => .ok []
  | x :: xs => match turn x with
    | .ok ys => (lcJ turn xs).bind fun zs => .ok (ys ++ zs)
    | _ => .no
def rowD (v : Val) : Ro (List Val) := match v with | .tup ys => .ok ys | .lst ys => .ok ys | _ => .no
def szD (xs : List Val) (r : Ro Val) : Ro Val := if xs.length ≤ sizeLine then r else .no
section
variable (X : Txt) (Γ : SemD)
def cmpD (op : Cop) (x y : Val) : Ro Val := match op, x with
  | .eq, .obj c _ => (Ro.of (X.eqm c)).bind fun f => Γ f [x, y]
  | .ne, .obj c _ => (Ro.of (X.eqm c)).bind fun f => (Γ f [x, y]).bind fun r => match r with | .bl b => .ok (.bl (!b)) | _ => .no
  | op, x => (Ro.of (cop op x y)).bind fun v => .ok (.bl v)
def attrD (v : Val) (a : Nat) : Ro Val := match v with
  | .obj c fs => match X.of c with
    | some os => match X.pr c a with
      | some f => (Γ f [v]).calm
      | none => (Ro.of (posOf a os 0)).bind fun i => Ro.of fs[i]?
    | none => .no
  | _ => .no
def methD (v : Val) (m : Nat) (xs : List Val) : Ro Val := match v with
  | .obj c _ => (Ro.of (X.me c m)).bind fun f => Γ f (v :: xs)
  | _ => .no
def isiCD (v : Val) (c : Nat) : Ro Val := match v with
  | .obj d _ => match X.of d with | some _ => .ok (.bl (X.sub d c)) | none => .no
  | .non | .bl _ | .int _ | .str _ | .tup _ | .lst _ => .ok (.bl false)
  | _ => .no
def rngD (v : Val) : Ro (List Val) := match v with | .int j => if rgOk j then .ok (rgl 0 j.toNat) else .no | _ => .no
def rng2D (x y : Val) : Ro (List Val) := match x, y with | .int i, .int j => if rgOk i && rgOk j then .ok (rgl i (j - i).toNat) else .no | _, _ => .no
def seqD (x : Val) : Ro (List Val) := match x with | .lst xs => .ok xs | .tup xs => .ok xs | .str z => .ok (z.cps.toList.map fun c => .str ⟨#[c]⟩) | _ => .no
def enmD (x : Val) : Ro (List Val) := match x with | .lst xs => .ok (enumL 0 xs) | .tup xs => .ok (enumL 0 xs) | _ => .no
def zipD (x y : Val) : Ro (List Val) := match x, y with | .lst xs, .lst ys => .ok (zipL xs ys) | .tup xs, .tup ys => .ok (zipL xs ys) | _, _ => .no
def lrgD (l u : Option Int) : Ro Val := match u with
  | some j => let i := l.getD 0; if rgOk i && rgOk j && decide ((j - i).toNat ≤ 2 ^ 24) then .ok (.lst (rgl i (j - i).toNat)) else .no
  | none => .no
def selD (ks : List Str) (xs : List Val) (y : Val) : Ro Val := match y with | .str s => Ro.of ((ks.zip xs).lookup s) | _ => .no
def cgetD (c : Nat) (d : Int) (x : Val) : Ro Val := match x with | .str s => (Ro.of (X.kdict c)).bind fun kvs => .ok (.int ((kvs.lookup s).getD d)) | _ => .no
def xfldD (v : Option Val) (a : Nat) : Ro Val := match v with
  | some (.exn c fs) => (Ro.of (posOf a (X.cf c) 0)).bind fun i => Ro.of fs[i]?
  | _ => .no
def xisiD (v : Option Val) (c : Nat) : Ro Val := match v with
  | some (.exn d _) => .ok (.bl (X.sub d c))
  | _ => .no
def notD : Val → Ro Val
  | .bl b => .ok (.bl (!b))
  | _ => .no
def negD : Val → Ro Val
  | .int i => .ok (.int (-i))
  | _ => .no
def isBD (c : Bool) : Val → Ro Val
  | .bl d => .ok (.bl (d == c))
  | _ => .no
def isnBD (c : Bool) : Val → Ro Val
  | .bl d => .ok (.bl (!(d == c)))
  | _ => .no
def optI : Val → Ro (Option Int)
  | .int i => .ok (some i)
  | _ => .no
mutual
def pe : E → Env → Ro Val
  | .var i, env => Ro.of (getD env i)
  | .non, _ => .ok .non
  | .bl b, _ => .ok (.bl b)
  | .int i, _ => .ok (.int i)
  | .str x, _ => .ok (.str x)
  | .kon i, _ => Ro.of (X.konst i)
  | .bin op a b, env => (pe a env).bind fun x => (pe b env).bind fun y => Ro.of (bop op x y)
  | .neg a, env => (pe a env).bind negD
  | .cmp op a b, env => match op, b with
    | .isN, .non => (pe a env).bind fun x => .ok (.bl (isNB x))
    | .notN, .non => (pe a env).bind fun x => .ok (.bl (!isNB x))
    | .isN, .bl c => (pe a env).bind (isBD c)
    | .notN, .bl c => (pe a env).bind (isnBD c)
    | op, b => (pe a env).bind fun x => (pe b env).bind fun y => cmpD X Γ op x y
  | .chain o1 o2 a b c, env => (pe a env).bind fun x => (pe b env).bind fun y => (Ro.of (cop o1 x y)).bind fun r => match r with
      | true => (pe c env).bind fun z => (Ro.of (cop o2 y z)).bind fun v => .ok (.bl v)
      | false => .ok (.bl false)
  | .andE a b, env => (pe a env).bind fun x => Ro.bl x (pe b env) (.ok (.bl false))
  | .orE a b, env => (pe a env).bind fun x => Ro.bl x (.ok (.bl true)) (pe b env)
  | .one a, env => pe a env
  | .notE a, env => (pe a env).bind notD
  | .ife c a b, env => (pe c env).bind fun x => Ro.bl x (pe a env) (pe b env)
  | .tup es, env => (pes es env).bind fun xs => szD xs (.ok (.tup xs))
  | .lst es, env => (pes es env).bind fun xs => szD xs (.ok (.lst xs))
  | .ix a b, env => (pe a env).bind fun x => (pe b env).bind fun y => Ro.of (ixv x y)
  | .slc a lo hi, env => (pe a env).bind fun x => (pp lo env).bind fun l => (pp hi env).bind fun u => Ro.of (slv x l u)
  | .ixo i b, env => (Ro.of (getV env i)).bind fun x => (pe b env).bind fun y => Ro.of (ixv x y)
  | .lenO i, env => (Ro.of (getV env i)).bind fun x => Ro.of (blt .len [x])
  | .tupO i, env => (Ro.of (getV env i)).bind fun x => Ro.of (blt .tuple [x])
  | .call f es, env => (pes es env).bind fun xs => Γ f xs
  | .new f es, env => (pes es env).bind fun xs => Γ f xs
  | .callK f es ks ns perm, env => (pes es env).bind fun xs => (pes ks env).bind fun ys => if xs.length = es.len ∧ ys.length = ns.length then Γ f (perm.map fun j => (xs ++ ys).getD j .non) else .no
  | .blt b es, env => (pes es env).bind fun xs => Ro.of (blt b xs)
  | .mth m o es, env => (pe o env).bind fun x => match isRow x with | true => (pes es env).bind fun ys => Ro.of (mth m x ys) | false => .no
  | .lc elt t it ifs, env => (pi it env).bind fun xs => (lcD (fun x => (Ro.of (asg t x (wipeE env (tvars t)))).bind fun env' =>
        match ifs with
        | .no => ((pe elt env').calm).bind fun v => .ok (some v)
        | .some c => ((pe c env').calm).bind fun b => Ro.bl b (((pe elt env').calm).bind fun v => .ok (some v)) (.ok none)) xs).bind fun ys => szD ys (.ok (.lst ys))
  | .lc2 elt t it t2 it2 ifs, env => (pi it env).bind fun xs => (lcJ (fun x => (Ro.of (asg t x (wipeE env (tvars t ++ tvars t2)))).bind fun env' => ((pi it2 env').calm).bind fun ys =>
        lcD (fun y => (Ro.of (asg t2 y (wipeE env' (tvars t2)))).bind fun env'' =>
          match ifs with
          | .no => ((pe elt env'').calm).bind fun v => .ok (some v)
          | .some c => ((pe c env'').calm).bind fun b => Ro.bl b (((pe elt env'').calm).bind fun v => .ok (some v)) (.ok none)) ys) xs).bind fun zs => szD zs (.ok (.lst zs))
  | .stup l pre a post, env => (pes pre env).bind fun xs => (pe a env).bind fun v => (rowD v).bind fun ys => (pes post env).bind fun zs => szD (xs ++ (ys ++ zs)) (.ok (stv l (xs ++ (ys ++ zs))))
  | .sel ks vs i, env => (pes vs env).bind fun xs => (pe i env).bind fun y => selD ks xs y
  | .cget c a d, env => (pe a env).bind fun x => cgetD X c d x
  | .isi a t, env => (pe a env).bind fun x => (Ro.of (isi x t)).bind fun b => .ok (.bl b)
  | .lrg a b, env => (pp a env).bind fun l => (pp b env).bind fun u => lrgD l u
  | .attr e a, env => (pe e env).bind fun v => attrD X Γ v a
  | .meth e m es, env => (pe e env).bind fun v => (pes es env).bind fun xs => methD X Γ v m xs
  | .isiC e c, env => (pe e env).bind fun v => isiCD X v c
  | .xfld i a, env => xfldD X (getV env i) a
  | .xisi i c, env => xisiD X (getV env i) c
def pes : Es → Env → Ro (List Val)
  | .nil, _ => .ok []
  | .cons e es, env => (pe e env).bind fun v => (pes es env).bind fun vs => .ok (v :: vs)
def pp : P → Env → Ro (Option Int)
  | .no, _ => .ok none
  | .some e, env => (pe e env).bind optI
def pi : I → Env → Ro (List Val)
  | .seq e, env => (pe e env).bind seqD
  | .rng1 a, env => (pe a env).bind rngD
  | .rng2 a b, env => (pe a env).bind fun x => (pe b env).bind fun y => rng2D x y
  | .enm e, env => (pe e env).bind enmD
  | .zip a b, env => (pe a env).bind fun x => (pe b env).bind fun y => zipD x y
end
end
section
variable {X : Txt} {Γ : SemD} {S : Sem}
theorem Runs.bl {α : Type} {v : Val} {t f : Ro α} {h : Hs} {u w : (α → Hs → Bool) → KV → Bool} (ht : Runs t h u) (hf : Runs f h w) :
    Runs (Ro.bl v t f) h (fun k kx => match v with | .bl true => u k kx | .bl false => w k kx | _ => false) := by
  cases v with
  | bl b => cases b <;> assumption
  | _ => trivial
theorem Runs.cmp (hΓ : ∀ f as h, Runs (Γ f as) h (fun k kx => S f as h k kx)) {op : Cop} {x y : Val} {h : Hs} : Runs (cmpD X Γ op x y) h (fun k kx => cmpV X S op x y h k kx) := by
  have gen : ∀ op, Runs ((Ro.of (cop op x y)).bind fun v => .ok (.bl v)) h (fun (k : KV) kx => stepK (cop op x y) fun v => k (.bl v) h) := fun op => by
    cases cop op x y with
    | none => trivial
    | some v => exact fun k kx => rfl
  cases x with
  | obj c fs =>
    cases op with
    | eq =>
      show Runs ((Ro.of (X.eqm c)).bind fun f => Γ f [.obj c fs, y]) h (fun (k : KV) kx => stepK (X.eqm c) fun f => S f [.obj c fs, y] h k kx)
      cases X.eqm c with
      | none => trivial
      | some f => exact hΓ f _ h
    | ne =>
      show Runs ((Ro.of (X.eqm c)).bind fun f => (Γ f [.obj c fs, y]).bind fun r => match r with | .bl b => .ok (.bl (!b)) | _ => .no) h (fun (k : KV) kx => stepK (X.eqm c) fun f => S f [.obj c fs, y] h (fun r h => match r with | .bl b => k (.bl (!b)) h | _ => false) kx)
      cases X.eqm c with
      | none => trivial
      | some f =>
        refine Runs.bind (u := fun r h (k : KV) kx => match r with | .bl b => k (.bl (!b)) h | _ => false) (hΓ f _ h) fun r => ?_
        cases r <;> first | trivial | exact fun k kx => rfl
    | _ => (first | exact gen .eq | exact gen .ne | exact gen .lt | exact gen .le | exact gen .gt | exact gen .ge | exact gen .isN | exact gen .notN | exact gen .inn | exact gen .nin)
  | _ => cases op <;> (first | exact gen .eq | exact gen .ne | exact gen .lt | exact gen .le | exact gen .gt | exact gen .ge | exact gen .isN | exact gen .notN | exact gen .inn | exact gen .nin)
theorem lcD_runs {turn : Val → Ro (Option Val)} {tv : Val → Hs → (Option Val → Hs → Bool) → Bool} {h : Hs} (ht : ∀ x a, turn x = .ok a → ∀ kt, tv x h kt = kt a h) : ∀ (xs acc : List Val) (n : Nat) (ys : List Val), lcD turn xs = .ok ys → n + ys.length ≤ sizeLine → ∀ k : KVs, lcL tv xs acc n h k = k (acc.reverse ++ ys) h
  | [], acc, n, ys, e, hn, k => by cases e; simp [lcL]
  | x :: xs, acc, n, ys, e, hn, k => by
    simp only [lcD] at e
    split at e
    · rename_i v q
      cases q2 : lcD turn xs with
      | no => rw [q2] at e; cases e
      | ex w => rw [q2] at e; cases e
      | ok zs =>
        rw [q2] at e; cases e
        simp only [lcL]
        rw [ht x _ q]
        have hl : n + (zs.length + 1) ≤ sizeLine := hn
        dsimp only
        rw [if_pos (by omega), lcD_runs ht xs (v :: acc) (n + 1) zs q2 (by omega) k]
        simp
    · rename_i q
      simp only [lcL]
      rw [ht x _ q]
      exact lcD_runs ht xs acc n ys e hn k
    · cases e
theorem lcD_ne (turn : Val → Ro (Option Val)) (w : Val) : ∀ (xs : List Val), lcD turn xs ≠ .ex w
  | [], z => by cases z
  | x :: xs, z => by
    simp only [lcD] at z
    split at z
    · cases q : lcD turn xs with
      | no => rw [q] at z; cases z
      | ok _ => rw [q] at z; cases z
      | ex w' =>
        rw [q] at z
        have e : w' = w := by
          have z' : (Ro.ex w' : Ro (List Val)) = .ex w := z
          cases z'; rfl
        subst e
        exact lcD_ne turn w' xs q
    · exact lcD_ne turn w xs z
    · cases z
theorem lc_runs {r : Ro (List Val)} {tr : KVs → KV → Bool} {turn : Val → Ro (Option Val)} {tv : Val → Hs → (Option Val → Hs → Bool) → Bool} {h : Hs} (hr : Runs r h tr) (ht : ∀ x a, turn x = .ok a → ∀ kt, tv x h kt = kt a h) :
    Runs (r.bind fun xs => (lcD turn xs).bind fun ys => szD ys (.ok (.lst ys))) h (fun (k : KV) kx => tr (fun xs h => lcL tv xs [] 0 h fun ys h => k (.lst ys) h) kx) := by
  refine Runs.bind (u := fun (xs : List Val) (h : Hs) (k : KV) kx => lcL tv xs [] 0 h fun ys h => k (.lst ys) h) hr fun xs => ?_
  cases q : lcD turn xs with
  | no => trivial
  | ex w => exact absurd q (lcD_ne turn w xs)
  | ok ys =>
    show Runs (szD ys (.ok (.lst ys))) h _
    unfold szD
    split
    · intro k kx
      show lcL tv xs [] 0 h (fun ys h => k (.lst ys) h) = _
      rw [lcD_runs ht xs [] 0 ys q (by omega)]
      simp
    · trivial
theorem lcJ_runs {turn : Val → Ro (List Val)} {tv : Val → List Val → Hs → (List Val → Hs → Bool) → Bool} {h : Hs} (ht : ∀ x zs, turn x = .ok zs → ∀ acc kt, acc.length + zs.length ≤ sizeLine → tv x acc h kt = kt (zs.reverse ++ acc) h) :
    ∀ (xs acc zs : List Val), lcJ turn xs = .ok zs → acc.length + zs.length ≤ sizeLine → ∀ k, lcF tv xs acc h k = k (zs.reverse ++ acc) h
  | [], acc, zs, e, hn, k => by cases e; rfl
  | x :: xs, acc, zs, e, hn, k => by
    simp only [lcJ] at e
    split at e
    · rename_i ys q
      cases q2 : lcJ turn xs with
      | no => rw [q2] at e; cases e
      | ex w => rw [q2] at e; cases e
      | ok ws =>
        rw [q2] at e; cases e
        rw [List.length_append] at hn
        simp only [lcF]
        rw [ht x ys q acc _ (by omega)]
        rw [lcJ_runs ht xs (ys.reverse ++ acc) ws q2 (by rw [List.length_append, List.length_reverse]; omega) k, List.reverse_append, List.append_assoc]
    · cases e
theorem lcJ_ne (turn : Val → Ro (List Val)) (w : Val) : ∀ (xs : List Val), lcJ turn xs ≠ .ex w
  | [], z => by cases z
  | x :: xs, z => by
    simp only [lcJ] at z
    split at z
    · cases q : lcJ turn xs with
      | no => rw [q] at z; cases z
      | ok _ => rw [q] at z; cases z
      | ex w' => exact lcJ_ne turn w' xs q
    · cases z
theorem lc2_runs {r : Ro (List Val)} {tr : KVs → KV → Bool} {turn : Val → Ro (List Val)} {tv : Val → List Val → Hs → (List Val → Hs → Bool) → Bool} {h : Hs} (hr : Runs r h tr) (ht : ∀ x zs, turn x = .ok zs → ∀ acc kt, acc.length + zs.length ≤ sizeLine → tv x acc h kt = kt (zs.reverse ++ acc) h) :
    Runs (r.bind fun xs => (lcJ turn xs).bind fun ys => szD ys (.ok (.lst ys))) h (fun (k : KV) kx => tr (fun xs h => lcF tv xs [] h fun acc h => k (.lst acc.reverse) h) kx) := by
  refine Runs.bind (u := fun (xs : List Val) (h : Hs) (k : KV) kx => lcF tv xs [] h fun acc h => k (.lst acc.reverse) h) hr fun xs => ?_
  cases q : lcJ turn xs with
  | no => trivial
  | ex w => exact absurd q (lcJ_ne turn w xs)
  | ok ys =>
    show Runs (szD ys (.ok (.lst ys))) h _
    unfold szD
    split
    · intro k kx
      show lcF tv xs [] h (fun acc h => k (.lst acc.reverse) h) = _
      rw [lcJ_runs ht xs [] ys q (by simpa using by assumption)]
      simp
    · trivial
theorem attr_runs (hΓ : ∀ f as h, Runs (Γ f as) h (fun k kx => S f as h k kx)) {v : Val} {a : Nat} {h : Hs} : Runs (attrD X Γ v a) h (fun k kx => attrV X S v a h k kx) := by
  cases v with
  | obj c fs =>
    show Runs (match X.of c with | some os => (match X.pr c a with | some f => (Γ f [.obj c fs]).calm | none => (Ro.of (posOf a os 0)).bind fun i => Ro.of fs[i]?) | none => .no) h (fun (k : KV) kx => match X.of c with | some os => (match X.pr c a with | some f => S f [.obj c fs] h k noX | none => stepK (posOf a os 0) fun i => stepK fs[i]? fun u => k u h) | none => false)
    cases X.of c with
    | none => trivial
    | some os =>
      dsimp only
      cases X.pr c a with
      | some f =>
        show Runs ((Γ f [.obj c fs]).calm) h (fun (k : KV) kx => S f [.obj c fs] h k noX)
        have r := hΓ f [.obj c fs] h
        cases q : Γ f [.obj c fs] with
        | ok a => rw [q] at r; exact fun k kx => r k noX
        | no => trivial
        | ex v => trivial
      | none =>
        cases posOf a os 0 with
        | none => trivial
        | some i => exact Runs.step
  | _ => trivial
theorem meth_runs (hΓ : ∀ f as h, Runs (Γ f as) h (fun k kx => S f as h k kx)) {v : Val} {m : Nat} {xs : List Val} {h : Hs} : Runs (methD X Γ v m xs) h (fun k kx => methV X S v m xs h k kx) := by
  cases v with
  | obj c fs =>
    show Runs ((Ro.of (X.me c m)).bind fun f => Γ f (.obj c fs :: xs)) h (fun (k : KV) kx => stepK (X.me c m) fun f => S f (.obj c fs :: xs) h k kx)
    cases X.me c m with
    | some f => exact hΓ f _ h
    | none => trivial
  | _ => trivial
theorem isiC_runs {v : Val} {c : Nat} {h : Hs} : Runs (isiCD X v c) h (fun (k : KV) kx => stepK (isiCV X v c h) fun b => k (.bl b) h) := by
  cases v <;> first | trivial | exact (fun k kx => rfl) | skip
  rename_i d fs
  show Runs (match X.of d with | some _ => Ro.ok (.bl (X.sub d c)) | none => .no) h (fun (k : KV) kx => stepK (match X.of d with | some _ => some (X.sub d c) | none => none) fun b => k (.bl b) h)
  cases X.of d with
  | none => trivial
  | some _ => exact fun k kx => rfl
mutual
theorem pe_runs (hΓ : ∀ f as h, Runs (Γ f as) h (fun k kx => S f as h k kx)) : ∀ (e : E) (env : Env) (h : Hs), Runs (pe X Γ e env) h (fun k kx => ev X S e env h k kx)
  | .var i, env, h => Runs.step
  | .non, _, h => Runs.ok
  | .bl b, _, h => Runs.ok
  | .int i, _, h => Runs.ok
  | .str x, _, h => Runs.ok
  | .kon i, _, h => Runs.step
  | .bin op a b, env, h => Runs.bind (u := fun (x : Val) (h : Hs) (k : KV) kx => ev X S b env h (fun y h => stepK (bop op x y) fun v => k v h) kx) (pe_runs hΓ a env h) fun x => Runs.bind (u := fun (y : Val) (h : Hs) (k : KV) kx => stepK (bop op x y) fun v => k v h) (pe_runs hΓ b env h) fun y => Runs.step
  | .neg a, env, h => Runs.bind (u := fun (x : Val) (h : Hs) (k : KV) kx => match x with | .int i => k (.int (-i)) h | _ => false) (pe_runs hΓ a env h) fun x => by cases x <;> first | trivial | exact fun k kx => rfl
  | .cmp op a b, env, h => by
    have gen : Runs ((pe X Γ a env).bind fun x => (pe X Γ b env).bind fun y => cmpD X Γ op x y) h (fun (k : KV) kx => ev X S a env h (fun x h => ev X S b env h (fun y h => cmpV X S op x y h k kx) kx) kx) :=
      Runs.bind (u := fun (x : Val) (h : Hs) (k : KV) kx => ev X S b env h (fun y h => cmpV X S op x y h k kx) kx) (pe_runs hΓ a env h) fun x => Runs.bind (u := fun (y : Val) (h : Hs) (k : KV) kx => cmpV X S op x y h k kx) (pe_runs hΓ b env h) fun y => Runs.cmp hΓ
    have n1 : Runs ((pe X Γ a env).bind fun x => .ok (.bl (isNB x))) h (fun (k : KV) kx => ev X S a env h (fun x h => k (.bl (match x with | .non => true | _ => false)) h) kx) :=
      Runs.bind (u := fun (x : Val) (h : Hs) (k : KV) kx => k (.bl (match x with | .non => true | _ => false)) h) (pe_runs hΓ a env h) fun x => fun k kx => by cases x <;> rfl
    have n2 : Runs ((pe X Γ a env).bind fun x => .ok (.bl (!isNB x))) h (fun (k : KV) kx => ev X S a env h (fun x h => k (.bl (match x with | .non => false | _ => true)) h) kx) :=
      Runs.bind (u := fun (x : Val) (h : Hs) (k : KV) kx => k (.bl (match x with | .non => false | _ => true)) h) (pe_runs hΓ a env h) fun x => fun k kx => by cases x <;> rfl
    have n3 : ∀ c, Runs ((pe X Γ a env).bind (isBD c)) h (fun (k : KV) kx => ev X S a env h (fun x h => match x with | .bl d => k (.bl (d == c)) h | _ => false) kx) := fun c =>
      Runs.bind (u := fun (x : Val) (h : Hs) (k : KV) kx => match x with | .bl d => k (.bl (d == c)) h | _ => false) (pe_runs hΓ a env h) fun x => by cases x <;> first | trivial | exact fun k kx => rfl
    have n4 : ∀ c, Runs ((pe X Γ a env).bind (isnBD c)) h (fun (k : KV) kx => ev X S a env h (fun x h => match x with | .bl d => k (.bl (!(d == c))) h | _ => false) kx) := fun c =>
      Runs.bind (u := fun (x : Val) (h : Hs) (k : KV) kx => match x with | .bl d => k (.bl (!(d == c))) h | _ => false) (pe_runs hΓ a env h) fun x => by cases x <;> first | trivial | exact fun k kx => rfl
    cases op <;> first | exact gen | (cases b <;> first | exact gen | exact n1 | exact n2 | exact n3 _ | exact n4 _)
  | .chain o1 o2 a b c, env, h => Runs.bind (u := fun (x : Val) (h : Hs) (k : KV) kx => ev X S b env h (fun y h => stepK (cop o1 x y) fun r =>
      match r with
      | true => ev X S c env h (fun z h => stepK (cop o2 y z) fun v => k (.bl v) h) kx
      | false => k (.bl false) h) kx) (pe_runs hΓ a env h) fun x => Runs.bind (u := fun (y : Val) (h : Hs) (k : KV) kx => stepK (cop o1 x y) fun r =>
      match r with
      | true => ev X S c env h (fun z h => stepK (cop o2 y z) fun v => k (.bl v) h) kx
      | false => k (.bl false) h) (pe_runs hΓ b env h) fun y => by
        cases cop o1 x y with
        | none => trivial
        | some r =>
          cases r with
          | false => exact fun k kx => rfl
          | true =>
            refine Runs.bind (u := fun (z : Val) (h : Hs) (k : KV) kx => stepK (cop o2 y z) fun v => k (.bl v) h) (pe_runs hΓ c env h) fun z => ?_
            cases cop o2 y z with
            | none => trivial
            | some v => exact fun k kx => rfl
  | .andE a b, env, h => Runs.bind (u := fun (x : Val) (h : Hs) (k : KV) kx => match x with | .bl true => ev X S b env h k kx | .bl false => k (.bl false) h | _ => false) (pe_runs hΓ a env h) fun x => Runs.bl (w := fun (k : KV) kx => k (.bl false) h) (pe_runs hΓ b env h) Runs.ok
  | .orE a b, env, h => Runs.bind (u := fun (x : Val) (h : Hs) (k : KV) kx => match x with | .bl true => k (.bl true) h | .bl false => ev X S b env h k kx | _ => false) (pe_runs hΓ a env h) fun x => Runs.bl (u := fun (k : KV) kx => k (.bl true) h) Runs.ok (pe_runs hΓ b env h)
  | .one a, env, h => pe_runs hΓ a env h
  | .notE a, env, h => Runs.bind (u := fun (x : Val) (h : Hs) (k : KV) kx => match x with | .bl b => k (.bl (!b)) h | _ => false) (pe_runs hΓ a env h) fun x => by cases x <;> first | trivial | exact fun k kx => rfl
  | .ife c a b, env, h => Runs.bind (u := fun (x : Val) (h : Hs) (k : KV) kx => match x with | .bl true => ev X S a env h k kx | .bl false => ev X S b env h k kx | _ => false) (pe_runs hΓ c env h) fun x => Runs.bl (pe_runs hΓ a env h) (pe_runs hΓ b env h)
  | .tup es, env, h => Runs.bind (u := fun (xs : List Val) (h : Hs) (k : KV) kx => if xs.length ≤ sizeLine then k (.tup xs) h else false) (pes_runs hΓ es env h) fun xs => by
      unfold szD; split
      · exact fun k kx => rfl
      · trivial
  | .lst es, env, h => Runs.bind (u := fun (xs : List Val) (h : Hs) (k : KV) kx => if xs.length ≤ sizeLine then k (.lst xs) h else false) (pes_runs hΓ es env h) fun xs => by
      unfold szD; split
      · exact fun k kx => rfl
      · trivial
  | .ix a b, env, h => Runs.bind (u := fun (x : Val) (h : Hs) (k : KV) kx => ev X S b env h (fun y h => stepK (ixv x y) fun v => k v h) kx) (pe_runs hΓ a env h) fun x => Runs.bind (u := fun (y : Val) (h : Hs) (k : KV) kx => stepK (ixv x y) fun v => k v h) (pe_runs hΓ b env h) fun y => Runs.step
  | .slc a lo hi, env, h => Runs.bind (u := fun (x : Val) (h : Hs) (k : KV) kx => evp X S lo env h (fun l h => evp X S hi env h (fun u h => stepK (slv x l u) fun v => k v h) kx) kx) (pe_runs hΓ a env h) fun x =>
      Runs.bind (u := fun (l : Option Int) (h : Hs) (k : KV) kx => evp X S hi env h (fun u h => stepK (slv x l u) fun v => k v h) kx) (pp_runs hΓ lo env h) fun l => Runs.bind (u := fun (u : Option Int) (h : Hs) (k : KV) kx => stepK (slv x l u) fun v => k v h) (pp_runs hΓ hi env h) fun u => Runs.step
  | .ixo i b, env, h => by
      show Runs ((Ro.of (getV env i)).bind fun x => (pe X Γ b env).bind fun y => Ro.of (ixv x y)) h (fun (k : KV) kx => stepK (getV env i) fun x => ev X S b env h (fun y h => stepK (ixv x y) fun v => k v h) kx)
      cases getV env i with
      | none => trivial
      | some x =>
        show Runs ((pe X Γ b env).bind fun y => Ro.of (ixv x y)) h (fun (k : KV) kx => ev X S b env h (fun y h => stepK (ixv x y) fun v => k v h) kx)
        exact Runs.bind (u := fun (y : Val) (h : Hs) (k : KV) kx => stepK (ixv x y) fun v => k v h) (pe_runs hΓ b env h) fun y => Runs.step
  | .lenO i, env, h => by
      show Runs ((Ro.of (getV env i)).bind fun x => Ro.of (blt .len [x])) h (fun (k : KV) kx => stepK (getV env i) fun x => stepK (blt .len [x]) fun v => k v h)
      cases getV env i with
      | none => trivial
      | some x => exact Runs.step
  | .tupO i, env, h => by
      show Runs ((Ro.of (getV env i)).bind fun x => Ro.of (blt .tuple [x])) h (fun (k : KV) kx => stepK (getV env i) fun x => stepK (blt .tuple [x]) fun v => k v h)
      cases getV env i with
      | none => trivial
      | some x => exact Runs.step
  | .call f es, env, h => Runs.bind (u := fun (xs : List Val) (h : Hs) (k : KV) kx => S f xs h k kx) (pes_runs hΓ es env h) fun xs => hΓ f xs h
  | .new f es, env, h => Runs.bind (u := fun (xs : List Val) (h : Hs) (k : KV) kx => S f xs h k kx) (pes_runs hΓ es env h) fun xs => hΓ f xs h
  | .callK f es ks ns perm, env, h => Runs.bind (u := fun (xs : List Val) (h : Hs) (k : KV) kx => evs X S ks env h (fun ys h => if xs.length = es.len ∧ ys.length = ns.length then S f (perm.map fun j => (xs ++ ys).getD j .non) h k kx else false) kx) (pes_runs hΓ es env h) fun xs =>
      Runs.bind (u := fun (ys : List Val) (h : Hs) (k : KV) kx => if xs.length = es.len ∧ ys.length = ns.length then S f (perm.map fun j => (xs ++ ys).getD j .non) h k kx else false) (pes_runs hΓ ks env h) fun ys => by
        split
        · exact hΓ f _ h
        · trivial
  | .blt b es, env, h => Runs.bind (u := fun (xs : List Val) (h : Hs) (k : KV) kx => stepK (blt b xs) fun v => k v h) (pes_runs hΓ es env h) fun xs => Runs.step
  | .mth m o es, env, h => Runs.bind (u := fun (x : Val) (h : Hs) (k : KV) kx => match isRow x with | true => evs X S es env h (fun ys h => stepK (mth m x ys) fun v => k v h) kx | false => false) (pe_runs hΓ o env h) fun x => by
      cases isRow x with
      | false => trivial
      | true => exact Runs.bind (u := fun (ys : List Val) (h : Hs) (k : KV) kx => stepK (mth m x ys) fun v => k v h) (pes_runs hΓ es env h) fun ys => Runs.step
  | .lc elt t it ifs, env, h => by
      have one : ∀ (env' : Env) (a : Option Val), (((pe X Γ elt env').calm).bind fun v => (Ro.ok (some v) : Ro (Option Val))) = .ok a → ∀ kt : Option Val → Hs → Bool, ev X S elt env' h (fun v h => fV v fun v => kt (some v) h) noX = kt a h := by
        intro env' a e kt
        cases q : (pe X Γ elt env').calm with
        | no => rw [q] at e; cases e
        | ex w => rw [q] at e; cases e
        | ok v =>
          rw [q] at e; cases e
          rw [(pe_runs hΓ elt env' h).calm v q, fV_eq]
      cases ifs with
      | no =>
        exact lc_runs (tv := fun x h kt => stepK (asg t x (wipeE env (tvars t))) fun env' => ev X S elt env' h (fun v h => fV v fun v => kt (some v) h) noX) (turn := fun x => (Ro.of (asg t x (wipeE env (tvars t)))).bind fun env' => ((pe X Γ elt env').calm).bind fun v => .ok (some v)) (pi_runs hΓ it env h) fun x a e kt => by
          cases q : asg t x (wipeE env (tvars t)) with
          | none => rw [q] at e; cases e
          | some env' => rw [q] at e; exact one env' a e kt
      | some c =>
        exact lc_runs (tv := fun x h kt => stepK (asg t x (wipeE env (tvars t))) fun env' => ev X S c env' h (fun b h => match b with
          | .bl true => ev X S elt env' h (fun v h => fV v fun v => kt (some v) h) noX
          | .bl false => kt none h
          | _ => false) noX) (turn := fun x => (Ro.of (asg t x (wipeE env (tvars t)))).bind fun env' => ((pe X Γ c env').calm).bind fun b => Ro.bl b (((pe X Γ elt env').calm).bind fun v => .ok (some v)) (.ok none)) (pi_runs hΓ it env h) fun x a e kt => by
          cases q : asg t x (wipeE env (tvars t)) with
          | none => rw [q] at e; cases e
          | some env' =>
            rw [q] at e
            have e' : (((pe X Γ c env').calm).bind fun b => Ro.bl b (((pe X Γ elt env').calm).bind fun v => .ok (some v)) (.ok none)) = Ro.ok a := e
            show ev X S c env' h (fun b h => match b with
              | .bl true => ev X S elt env' h (fun v h => fV v fun v => kt (some v) h) noX
              | .bl false => kt none h
              | _ => false) noX = kt a h
            cases q2 : (pe X Γ c env').calm with
            | no => rw [q2] at e'; cases e'
            | ex w => rw [q2] at e'; cases e'
            | ok b =>
              rw [q2] at e'
              rw [(pe_runs hΓ c env' h).calm b q2]
              cases b with
              | bl b =>
                cases b with
                | true => exact one env' a e' kt
                | false => cases e'; rfl
              | _ => cases e'
  | .lc2 elt t it t2 it2 ifs, env, h => by
      have one : ∀ (env' : Env) (a : Option Val), (((pe X Γ elt env').calm).bind fun v => (Ro.ok (some v) : Ro (Option Val))) = .ok a → ∀ kt : Option Val → Hs → Bool, ev X S elt env' h (fun v h => fV v fun v => kt (some v) h) noX = kt a h := by
        intro env' a e kt
        cases q : (pe X Γ elt env').calm with
        | no => rw [q] at e; cases e
        | ex w => rw [q] at e; cases e
        | ok v =>
          rw [q] at e; cases e
          rw [(pe_runs hΓ elt env' h).calm v q, fV_eq]
      have out : ∀ (tv2 : Env → Val → Hs → (Option Val → Hs → Bool) → Bool) (tn2 : Env → Val → Ro (Option Val)), (∀ env' x a, tn2 env' x = .ok a → ∀ kt, tv2 env' x h kt = kt a h) →
          Runs ((pi X Γ it env).bind fun xs => (lcJ (fun x => (Ro.of (asg t x (wipeE env (tvars t ++ tvars t2)))).bind fun env' => ((pi X Γ it2 env').calm).bind fun ys => lcD (tn2 env') ys) xs).bind fun zs => szD zs (.ok (.lst zs))) h
            (fun (k : KV) kx => evi X S it env h (fun xs h => lcF (fun x acc h kt => stepK (asg t x (wipeE env (tvars t ++ tvars t2))) fun env' => evi X S it2 env' h (fun ys h => lcL (tv2 env') ys acc acc.length h fun zs h => kt zs.reverse h) noX) xs [] h fun acc h => k (.lst acc.reverse) h) kx) := by
        intro tv2 tn2 h2
        refine lc2_runs (tv := fun x acc h kt => stepK (asg t x (wipeE env (tvars t ++ tvars t2))) fun env' => evi X S it2 env' h (fun ys h => lcL (tv2 env') ys acc acc.length h fun zs h => kt zs.reverse h) noX) (pi_runs hΓ it env h) fun x zs e acc kt hl => ?_
        cases q : asg t x (wipeE env (tvars t ++ tvars t2)) with
        | none => rw [q] at e; cases e
        | some env' =>
          rw [q] at e
          have e' : (((pi X Γ it2 env').calm).bind fun ys => lcD (tn2 env') ys) = Ro.ok zs := e
          show evi X S it2 env' h (fun ys h => lcL (tv2 env') ys acc acc.length h fun zs h => kt zs.reverse h) noX = _
          cases q2 : (pi X Γ it2 env').calm with
          | no => rw [q2] at e'; cases e'
          | ex w => rw [q2] at e'; cases e'
          | ok ys =>
            rw [q2] at e'
            have e2 : lcD (tn2 env') ys = .ok zs := e'
            rw [(pi_runs hΓ it2 env' h).calm ys q2, lcD_runs (h2 env') ys acc acc.length zs e2 hl, List.reverse_append, List.reverse_reverse]
      cases ifs with
      | no =>
        refine out (fun env' y h kt => stepK (asg t2 y (wipeE env' (tvars t2))) fun env'' => ev X S elt env'' h (fun v h => fV v fun v => kt (some v) h) noX) (fun env' y => (Ro.of (asg t2 y (wipeE env' (tvars t2)))).bind fun env'' => ((pe X Γ elt env'').calm).bind fun v => .ok (some v)) fun env' x a e kt => ?_
        cases q : asg t2 x (wipeE env' (tvars t2)) with
        | none => rw [q] at e; cases e
        | some env'' => rw [q] at e; exact one env'' a e kt
      | some c =>
        refine out (fun env' y h kt => stepK (asg t2 y (wipeE env' (tvars t2))) fun env'' => ev X S c env'' h (fun b h => match b with
          | .bl true => ev X S elt env'' h (fun v h => fV v fun v => kt (some v) h) noX
          | .bl false => kt none h
          | _ => false) noX) (fun env' y => (Ro.of (asg t2 y (wipeE env' (tvars t2)))).bind fun env'' => ((pe X Γ c env'').calm).bind fun b => Ro.bl b (((pe X Γ elt env'').calm).bind fun v => .ok (some v)) (.ok none)) fun env' x a e kt => ?_
        cases q : asg t2 x (wipeE env' (tvars t2)) with
        | none => rw [q] at e; cases e
        | some env'' =>
          rw [q] at e
          have e' : (((pe X Γ c env'').calm).bind fun b => Ro.bl b (((pe X Γ elt env'').calm).bind fun v => .ok (some v)) (.ok none)) = Ro.ok a := e
          show ev X S c env'' h (fun b h => match b with
            | .bl true => ev X S elt env'' h (fun v h => fV v fun v => kt (some v) h) noX
            | .bl false => kt none h
            | _ => false) noX = kt a h
          cases q2 : (pe X Γ c env'').calm with
          | no => rw [q2] at e'; cases e'
          | ex w => rw [q2] at e'; cases e'
          | ok b =>
            rw [q2] at e'
            rw [(pe_runs hΓ c env'' h).calm b q2]
            cases b with
            | bl b =>
              cases b with
              | true => exact one env'' a e' kt
              | false => cases e'; rfl
            | _ => cases e'
  | .stup l pre a post, env, h => Runs.bind (u := fun (xs : List Val) (h : Hs) (k : KV) kx => ev X S a env h (fun v h => rowK v fun ys => evs X S post env h (fun zs h => if (xs ++ (ys ++ zs)).length ≤ sizeLine then k (stv l (xs ++ (ys ++ zs))) h else false) kx) kx) (pes_runs hΓ pre env h) fun xs =>
      Runs.bind (u := fun (v : Val) (h : Hs) (k : KV) kx => rowK v fun ys => evs X S post env h (fun zs h => if (xs ++ (ys ++ zs)).length ≤ sizeLine then k (stv l (xs ++ (ys ++ zs))) h else false) kx) (pe_runs hΓ a env h) fun v => by
        have go : ∀ ys : List Val, Runs ((pes X Γ post env).bind fun zs => szD (xs ++ (ys ++ zs)) (.ok (stv l (xs ++ (ys ++ zs))))) h (fun (k : KV) kx => evs X S post env h (fun zs h => if (xs ++ (ys ++ zs)).length ≤ sizeLine then k (stv l (xs ++ (ys ++ zs))) h else false) kx) := fun ys =>
          Runs.bind (u := fun (zs : List Val) (h : Hs) (k : KV) kx => if (xs ++ (ys ++ zs)).length ≤ sizeLine then k (stv l (xs ++ (ys ++ zs))) h else false) (pes_runs hΓ post env h) fun zs => by
            unfold szD
            split
            · exact fun k kx => rfl
            · trivial
        cases v <;> first | trivial | exact go _
  | .sel ks vs i, env, h => Runs.bind (u := fun (xs : List Val) (h : Hs) (k : KV) kx => ev X S i env h (fun y h => match y with
      | .str s => stepK ((ks.zip xs).lookup s) fun v => k v h
      | _ => false) kx) (pes_runs hΓ vs env h) fun xs => Runs.bind (u := fun (y : Val) (h : Hs) (k : KV) kx => match y with
      | .str s => stepK ((ks.zip xs).lookup s) fun v => k v h
      | _ => false) (pe_runs hΓ i env h) fun y => by cases y <;> first | trivial | exact Runs.step
  | .cget c a d, env, h => Runs.bind (u := fun (x : Val) (h : Hs) (k : KV) kx => match x with
      | .str s => stepK (X.kdict c) fun kvs => k (.int ((kvs.lookup s).getD d)) h
      | _ => false) (pe_runs hΓ a env h) fun x => by
        cases x with
        | str s =>
          show Runs ((Ro.of (X.kdict c)).bind fun kvs => .ok (.int ((kvs.lookup s).getD d))) h (fun (k : KV) kx => stepK (X.kdict c) fun kvs => k (.int ((kvs.lookup s).getD d)) h)
          cases X.kdict c with
          | none => trivial
          | some kvs => exact fun k kx => rfl
        | _ => trivial
  | .isi a t, env, h => Runs.bind (u := fun (x : Val) (h : Hs) (k : KV) kx => stepK (isi x t) fun b => k (.bl b) h) (pe_runs hΓ a env h) fun x => by
      cases isi x t with
      | none => trivial
      | some b => exact fun k kx => rfl
  | .lrg a b, env, h => Runs.bind (u := fun (l : Option Int) (h : Hs) (k : KV) kx => evp X S b env h (fun u h =>
      match u with
      | some j => let i := l.getD 0; if rgOk i && rgOk j && decide ((j - i).toNat ≤ 2 ^ 24) then k (.lst (rgl i (j - i).toNat)) h else false
      | none => false) kx) (pp_runs hΓ a env h) fun l => Runs.bind (u := fun (u : Option Int) (h : Hs) (k : KV) kx =>
      match u with
      | some j => let i := l.getD 0; if rgOk i && rgOk j && decide ((j - i).toNat ≤ 2 ^ 24) then k (.lst (rgl i (j - i).toNat)) h else false
      | none => false) (pp_runs hΓ b env h) fun u => by
        cases u with
        | none => trivial
        | some j =>
          unfold lrgD
          dsimp only
          split
          · exact fun k kx => rfl
          · trivial
  | .attr e a, env, h => Runs.bind (u := fun (v : Val) (h : Hs) (k : KV) kx => attrV X S v a h k kx) (pe_runs hΓ e env h) fun v => attr_runs hΓ
  | .meth e m es, env, h => Runs.bind (u := fun (v : Val) (h : Hs) (k : KV) kx => evs X S es env h (fun xs h => methV X S v m xs h k kx) kx) (pe_runs hΓ e env h) fun v => Runs.bind (u := fun (xs : List Val) (h : Hs) (k : KV) kx => methV X S v m xs h k kx) (pes_runs hΓ es env h) fun xs => meth_runs hΓ
  | .isiC e c, env, h => Runs.bind (u := fun (v : Val) (h : Hs) (k : KV) kx => stepK (isiCV X v c h) fun b => k (.bl b) h) (pe_runs hΓ e env h) fun v => isiC_runs
  | .xfld i a, env, h => by
      show Runs (xfldD X (getV env i) a) h (fun (k : KV) kx => match getV env i with
        | some (.exn c fs) => stepK (posOf a (X.cf c) 0) fun i => stepK fs[i]? fun u => k u h
        | _ => false)
      cases getV env i with
      | none => trivial
      | some v =>
        cases v with
        | exn c fs =>
          show Runs ((Ro.of (posOf a (X.cf c) 0)).bind fun i => Ro.of fs[i]?) h (fun (k : KV) kx => stepK (posOf a (X.cf c) 0) fun i => stepK fs[i]? fun u => k u h)
          cases posOf a (X.cf c) 0 with
          | none => trivial
          | some i => exact Runs.step
        | _ => trivial
  | .xisi i c, env, h => by
      show Runs (xisiD X (getV env i) c) h (fun (k : KV) kx => match getV env i with
        | some (.exn d _) => k (.bl (X.sub d c)) h
        | _ => false)
      cases getV env i with
      | none => trivial
      | some v => cases v <;> first | trivial | exact fun k kx => rfl
theorem pes_runs (hΓ : ∀ f as h, Runs (Γ f as) h (fun k kx => S f as h k kx)) : ∀ (e : Es) (env : Env) (h : Hs), Runs (pes X Γ e env) h (fun k kx => evs X S e env h k kx)
  | .nil, env, h => Runs.ok
  | .cons e es, env, h => by
    have q : (fun k kx => evs X S (.cons e es) env h k kx) = fun k kx => ev X S e env h (fun v h => evs X S es env h (fun vs h => k (v :: vs) h) kx) kx := by
      funext k kx; exact evs_cons
    rw [q]
    exact Runs.bind (u := fun (v : Val) (h : Hs) (k : KVs) kx => evs X S es env h (fun vs h => k (v :: vs) h) kx) (pe_runs hΓ e env h) fun v => Runs.bind (u := fun (vs : List Val) (h : Hs) (k : KVs) kx => k (v :: vs) h) (pes_runs hΓ es env h) fun vs => Runs.ok
theorem pp_runs (hΓ : ∀ f as h, Runs (Γ f as) h (fun k kx => S f as h k kx)) : ∀ (e : P) (env : Env) (h : Hs), Runs (pp X Γ e env) h (fun k kx => evp X S e env h k kx)
  | .no, env, h => Runs.ok
  | .some e, env, h => Runs.bind (u := fun (x : Val) (h : Hs) (k : Option Int → Hs → Bool) kx => match x with | .int i => k (some i) h | _ => false) (pe_runs hΓ e env h) fun x => by cases x <;> first | trivial | exact fun k kx => rfl
theorem pi_runs (hΓ : ∀ f as h, Runs (Γ f as) h (fun k kx => S f as h k kx)) : ∀ (e : I) (env : Env) (h : Hs), Runs (pi X Γ e env) h (fun k kx => evi X S e env h k kx)
  | .seq e, env, h => Runs.bind (u := fun (x : Val) (h : Hs) (k : KVs) kx => match x with | .lst xs => k xs h | .tup xs => k xs h | .str z => k (z.cps.toList.map fun c => .str ⟨#[c]⟩) h | _ => false) (pe_runs hΓ e env h) fun x => by cases x <;> first | trivial | exact fun k kx => rfl
  | .rng1 a, env, h => Runs.bind (u := fun (x : Val) (h : Hs) (k : KVs) kx => match x with | .int j => if rgOk j then k (rgl 0 j.toNat) h else false | _ => false) (pe_runs hΓ a env h) fun x => by
      cases x with
      | int j =>
        unfold rngD
        dsimp only
        split
        · exact fun k kx => rfl
        · trivial
      | _ => trivial
  | .rng2 a b, env, h => Runs.bind (u := fun (x : Val) (h : Hs) (k : KVs) kx => ev X S b env h (fun y h => match x, y with
      | .int i, .int j => if rgOk i && rgOk j then k (rgl i (j - i).toNat) h else false
      | _, _ => false) kx) (pe_runs hΓ a env h) fun x => Runs.bind (u := fun (y : Val) (h : Hs) (k : KVs) kx => match x, y with
      | .int i, .int j => if rgOk i && rgOk j then k (rgl i (j - i).toNat) h else false
      | _, _ => false) (pe_runs hΓ b env h) fun y => by
        cases x with
        | int i =>
          cases y with
          | int j =>
            unfold rng2D
            dsimp only
            split
            · exact fun k kx => rfl
            · trivial
          | _ => trivial
        | _ => trivial
  | .enm e, env, h => Runs.bind (u := fun (x : Val) (h : Hs) (k : KVs) kx => match x with | .lst xs => k (enumL 0 xs) h | .tup xs => k (enumL 0 xs) h | _ => false) (pe_runs hΓ e env h) fun x => by cases x <;> first | trivial | exact fun k kx => rfl
  | .zip a b, env, h => Runs.bind (u := fun (x : Val) (h : Hs) (k : KVs) kx => ev X S b env h (fun y h => match x, y with
      | .lst xs, .lst ys => k (zipL xs ys) h
      | .tup xs, .tup ys => k (zipL xs ys) h
      | _, _ => false) kx) (pe_runs hΓ a env h) fun x => Runs.bind (u := fun (y : Val) (h : Hs) (k : KVs) kx => match x, y with
      | .lst xs, .lst ys => k (zipL xs ys) h
      | .tup xs, .tup ys => k (zipL xs ys) h
      | _, _ => false) (pe_runs hΓ b env h) fun y => by
        cases x <;> first | trivial | (cases y <;> first | trivial | exact fun k kx => rfl)
end
end
end EV
namespace EV
open PySem PySem.Spec PyProof.Rows L2
/-! statements in direct style -/
inductive Out where
  | no | nx (env : Env) | rt (env : Env) (v : Val) | bk (env : Env) | ct (env : Env) | xc (env : Env) (v : Val)
/-- what a run of statements does -/
def RunO (o : Out) (h : Hs) (t : C → Bool) : Prop := match o with
  | .no => True
  | .nx env => ∀ c, t c = c.nx env h
  | .rt env v => ∀ c, t c = c.rt env v h
  | .bk env => ∀ c, t c = c.bk env h
  | .ct env => ∀ c, t c = c.ct env h
  | .xc env v => ∀ c, t c = c.kx env v h
def Ro.st {α : Type} (r : Ro α) (env : Env) (f : α → Out) : Out := match r with | .no => .no | .ok a => f a | .ex v => .xc env v
theorem Ro.st_ok {α : Type} {a : α} {env : Env} {f : α → Out} : (Ro.ok a).st env f = f a := thru rfl
theorem Ro.st_ex {α : Type} {v : Val} {env : Env} {f : α → Out} : (Ro.ex v : Ro α).st env f = .xc env v := thru rfl
theorem RunO.st {α : Type} {r : Ro α} {env : Env} {h : Hs} {t : (α → Hs → Bool) → KV → Bool} {f : α → Out} {u : α → Hs → C → Bool} (hr : Runs r h t) (hf : ∀ a, RunO (f a) h (u a h)) :
    RunO (r.st env f) h (fun c => t (fun a h => u a h c) (c.kx env)) := by
  cases r with
  | no => trivial
  | ok a =>
    have e : ∀ k kx, t k kx = k a h := hr
    have q : (fun c : C => t (fun a h => u a h c) (c.kx env)) = u a h := by funext c; rw [e]
    rw [q]; exact hf a
  | ex v =>
    have e : ∀ k kx, t k kx = kx v h := hr
    exact fun c => e _ _
def Out.of (o : Option Env) : Out := match o with | some e => .nx e | none => .no
def ifV (x : Val) (a b : Out) : Out := match x with | .bl true => a | .bl false => b | _ => .no
theorem ifV_t {a b : Out} : ifV (.bl true) a b = a := thru rfl
theorem ifV_f {a b : Out} : ifV (.bl false) a b = b := thru rfl
def Out.then (o : Out) (f : Env → Out) : Out := match o with | .nx e => f e | o => o
theorem Out.then_nx {e : Env} {f : Env → Out} : (Out.nx e).then f = f e := thru rfl
theorem Out.then_rt {e : Env} {v : Val} {f : Env → Out} : (Out.rt e v).then f = .rt e v := thru rfl
theorem Out.then_xc {e : Env} {v : Val} {f : Env → Out} : (Out.xc e v).then f = .xc e v := thru rfl
theorem Out.then_bk {e : Env} {f : Env → Out} : (Out.bk e).then f = .bk e := thru rfl
theorem Out.then_ct {e : Env} {f : Env → Out} : (Out.ct e).then f = .ct e := thru rfl
/-- behind a turn -/
def Out.loop (o : Out) (f : Env → Out) : Out := match o with | .nx e => f e | .ct e => f e | .bk e => .nx e | o => o
theorem Out.loop_nx {e : Env} {f : Env → Out} : (Out.nx e).loop f = f e := thru rfl
theorem Out.loop_ct {e : Env} {f : Env → Out} : (Out.ct e).loop f = f e := thru rfl
theorem Out.loop_bk {e : Env} {f : Env → Out} : (Out.bk e).loop f = .nx e := thru rfl
theorem Out.loop_rt {e : Env} {v : Val} {f : Env → Out} : (Out.rt e v).loop f = .rt e v := thru rfl
theorem Out.loop_xc {e : Env} {v : Val} {f : Env → Out} : (Out.xc e v).loop f = .xc e v := thru rfl
def forD (body : Val → Env → Out) : List Val → Env → Out
  | [], env => .nx env
  | x :: xs, env => (body x env).loop fun env => forD body xs env
def whlD (test : Env → Ro Val) (body : Env → Out) : Nat → Env → Out
  | 0, _ => .no
  | n + 1, env => (test env).st env fun x => ifV x ((body env).loop fun env => whlD test body n env) (.nx env)
def putD (i : Nat) (v : Val) (env : Env) : Out := if i < env.length then .nx (env.set i (some v)) else .no
def putAllD : List Nat → List Val → Env → Out
  | [], [], env => .nx env
  | i :: is, v :: vs, env => (putD i v env).then fun env => putAllD is vs env
  | _, _, _ => .no
def ownD (v : Val) : Ro Val := match v with | .lst xs => .ok (.mls xs) | _ => .no
def popAtD (i : Nat) (env : Env) (xs : List Val) (y : Val) : Ro (Val × Env) := match y with
  | .int j => match L2.ixN xs.length j with
    | some m => if -(2 ^ 63) ≤ j ∧ j < 2 ^ 63 then (Ro.of xs[m]?).bind fun v => .ok (v, env.set i (some (.mls (xs.eraseIdx m)))) else .no
    | none => .no
  | _ => .no
def appD (i : Nat) (v : Val) (env : Env) : Out := match isData v with
  | true => match getV env i with
    | some (.mls xs) => if xs.length < sizeLine then .nx (env.set i (some (.mls (xs ++ [v])))) else .no
    | _ => .no
  | false => .no
def insD (i : Nat) (env : Env) (xs : List Val) (y v : Val) : Out := match y with
  | .int k => if xs.length < sizeLine ∧ 0 ≤ k ∧ k < 2 ^ 63 then .nx (env.set i (some (.mls (xs.take k.toNat ++ [v] ++ xs.drop k.toNat)))) else .no
  | _ => .no
def extD (i : Nat) (env : Env) (xs : List Val) (y : Val) : Out := match y with
  | .lst ys => if xs.length + ys.length ≤ sizeLine then .nx (env.set i (some (.mls (xs ++ ys)))) else .no
  | _ => .no
def sixD (i : Nat) (env : Env) (w : Val) (xs : List Val) (v y : Val) : Out := match y with
  | .int k => match L2.ixN xs.length k with
    | some j => .nx (env.set i (some (mlPut w (xs.set j v))))
    | none => .no
  | _ => .no
def putAD (X : Txt) (i a : Nat) (v : Val) (env : Env) : Out := match getV env i with
  | some (.mob cl as fs) => match newA X cl a as v with
    | true => .nx (env.set i (some (.mob cl (as ++ [a]) (fs ++ [v]))))
    | false => .no
  | _ => .no
def putAsD (X : Txt) (i : Nat) : List Nat → List Val → Env → Out
  | [], [], env => .nx env
  | a :: as, v :: vs, env => (putAD X i a v env).then fun env => putAsD X i as vs env
  | _, _, _ => .no
def Out.calm (o : Out) : Out := match o with | .xc _ _ => .no | o => o
def Out.drop (i : Nat) (o : Out) : Out := match o with | .nx e => .nx (e.set i none) | .bk e => .bk (e.set i none) | .ct e => .ct (e.set i none) | .rt e v => .rt e v | _ => .no
section
variable (X : Txt) (Γ : SemD)
def pr : R → Env → Ro (Val × Env)
  | .e e, env => (pe X Γ e env).bind fun v => .ok (v, env)
  | .own e, env => (pe X Γ e env).bind fun v => (ownD v).bind fun v => .ok (v, env)
  | .popAt i e, env => match getV env i with
      | some (.mls xs) => (pe X Γ e env).bind fun y => popAtD i env xs y
      | _ => .no
  | .pop i, env => match getV env i with
      | some (.mls xs) => (Ro.of xs[xs.length - 1]?).bind fun v => .ok (v, env.set i (some (.mls xs.dropLast)))
      | _ => .no
def prs : List R → Env → Ro (List Val)
  | [], _ => .ok []
  | r :: rs, env => (pr X Γ r env).bind fun p => (prs rs env).bind fun vs => .ok (p.1 :: vs)
mutual
def ps : S → Env → Out
  | .expr r, env => (pr X Γ r env).st env fun p => .nx p.2
  | .ret r, env => (pr X Γ r env).st env fun p => .rt p.2 p.1
  | .retN, env => .rt env .non
  | .set t r, env => (pr X Γ r env).st env fun p => match t with
      | .name i => putD i p.1 p.2
      | t => Out.of (asg t p.1 p.2)
  | .par is rs, env => (prs X Γ rs env).st env fun vs => putAllD is vs env
  | .append i r, env => match getV env i with
      | some (.mls _) => (pr X Γ r env).st env fun p => appD i p.1 p.2
      | _ => .no
  | .insert i a b, env => match getV env i with
      | some (.mls xs) => (pe X Γ a env).st env fun y => match y with
        | .int k => (pe X Γ b env).st env fun v => insD i env xs (.int k) v
        | _ => .no
      | _ => .no
  | .extend i e, env => match getV env i with
      | some (.mls xs) => (pe X Γ e env).st env fun y => extD i env xs y
      | _ => .no
  | .setIx i e r, env => match getM env i with
      | some (w, xs) => (pe X Γ r env).st env fun v => (pe X Γ e env).st env fun y => sixD i env w xs v y
      | none => .no
  | .setDm _ _ _ _ _, _ => .no
  | .ifS t a b, env => (pe X Γ t env).st env fun x => ifV x (pss a env) (pss b env)
  | .forS t it b, env => (pi X Γ it env).st env fun xs => forD (fun x env => (Out.of (asg t x env)).then fun env => pss b env) xs env
  | .whl n t b, env => whlD (fun env => pe X Γ t env) (fun env => pss b env) n env
  | .brk, env => .bk env
  | .cont, env => .ct env
  | .pass, env => .nx env
  | .never, _ => .no
  | .raise c es, env => (pes X Γ es env).st env fun vs => if vs.length = (X.cf c).length then .xc env (.obj c vs) else .no
  | .tryS b hs, env => match pss b env with | .xc e v => ph hs v e | o => o
  | .setA i a e, env => (pe X Γ e env).st env fun v => putAD X i a v env
  | .parA i as es, env => (pes X Γ es env).st env fun vs => putAsD X i as vs env
  | .setF _ _ _, _ => .no
def pss : Ss → Env → Out
  | .nil, env => .nx env
  | .cons s ss, env => (ps s env).then fun env => pss ss env
  | .frz i ss, env => match getV env i with
      | some (.mls xs) => pss ss (env.set i (some (.lst xs)))
      | _ => pss ss env
def ph : Hn → Val → Env → Out
  | .nil, v, env => .xc env v
  | .cons cs nm b r, v, env => match v with
    | .obj d fs => match cs.any (X.sub d) with
      | true => match nm with
        | none => (pss b env).calm
        | some i => (pss b (env.set i (some (.exn d fs)))).drop i
      | false => ph r v env
    | _ => .no
end
def runDefD (d : Def) (args : List Val) : Ro Val :=
  if args.length = d.pars then
    match pss X Γ d.body (args.map some ++ List.replicate (d.names - d.pars) none) with
    | .nx _ => .ok .non
    | .rt _ v => match isData v with | true => .ok v | false => .no
    | .xc _ v => .ex v
    | _ => .no
  else .no
def runInitD (c : Nat) (d : Def) (args : List Val) : Ro Val :=
  if args.length + 1 = d.pars then
    match pss X Γ d.body (some (.mob c [] []) :: args.map some ++ List.replicate (d.names - d.pars) none) with
    | .nx env => match getV env 0 with
      | some (.mob c' as fs) => if c' = c ∧ X.of c = some as then .ok (.obj c fs) else .no
      | _ => .no
    | .xc _ v => .ex v
    | _ => .no
  else .no
end
def semD (X : Txt) (F : Nat → Option Fn) : Nat → SemD
  | 0, _, _ => .no
  | n + 1, f, args => match F f with
    | some (.body d) => runDefD X (semD X F n) d args
    | some (.init c d) => runInitD X (semD X F n) c d args
    | _ => .no

section
variable {X : Txt} {Γ : SemD} {Sm : Sem}
abbrev HΓ (Γ : SemD) (Sm : Sem) : Prop := ∀ f as h, Runs (Γ f as) h (fun k kx => Sm f as h k kx)
/-- a right side: its value, the names behind it -/
def RunR (r : Ro (Val × Env)) (h : Hs) (t : (Val → Env → Hs → Bool) → KV → Bool) : Prop := Runs r h (fun k kx => t (fun v env h => k (v, env) h) kx)
theorem pr_runs (hΓ : HΓ Γ Sm) : ∀ (r : R) (env : Env) (h : Hs), RunR (pr X Γ r env) h (fun k kx => evr X Sm r env h k kx)
  | .e e, env, h => Runs.bind (u := fun (v : Val) (h : Hs) (k : Val × Env → Hs → Bool) kx => k (v, env) h) (pe_runs hΓ e env h) fun v => Runs.ok
  | .own e, env, h => Runs.bind (u := fun (v : Val) (h : Hs) (k : Val × Env → Hs → Bool) kx => match v with | .lst xs => k (.mls xs, env) h | _ => false) (pe_runs hΓ e env h) fun v => by
      cases v <;> first | trivial | exact fun k kx => rfl
  | .popAt i e, env, h => by
      unfold RunR
      show Runs (match getV env i with
        | some (.mls xs) => (pe X Γ e env).bind fun y => popAtD i env xs y
        | _ => .no) h (fun (k : Val × Env → Hs → Bool) kx => match getV env i with
        | some (.mls xs) => ev X Sm e env h (fun y h => match y with
          | .int j => match L2.ixN xs.length j with
            | some m => if -(2 ^ 63) ≤ j ∧ j < 2 ^ 63 then stepK xs[m]? fun v => k (v, env.set i (some (.mls (xs.eraseIdx m)))) h else false
            | none => false
          | _ => false) kx
        | _ => false)
      cases getV env i with
      | none => trivial
      | some w =>
        cases w with
        | mls xs =>
          refine Runs.bind (u := fun (y : Val) (h : Hs) (k : Val × Env → Hs → Bool) kx => match y with
          | .int j => match L2.ixN xs.length j with
            | some m => if -(2 ^ 63) ≤ j ∧ j < 2 ^ 63 then stepK xs[m]? fun v => k (v, env.set i (some (.mls (xs.eraseIdx m)))) h else false
            | none => false
          | _ => false) (pe_runs hΓ e env h) fun y => ?_
          cases y with
          | int j =>
            show Runs (match L2.ixN xs.length j with
              | some m => if -(2 ^ 63) ≤ j ∧ j < 2 ^ 63 then (Ro.of xs[m]?).bind fun v => .ok (v, env.set i (some (.mls (xs.eraseIdx m)))) else .no
              | none => .no) h (fun (k : Val × Env → Hs → Bool) kx => match L2.ixN xs.length j with
              | some m => if -(2 ^ 63) ≤ j ∧ j < 2 ^ 63 then stepK xs[m]? fun v => k (v, env.set i (some (.mls (xs.eraseIdx m)))) h else false
              | none => false)
            cases L2.ixN xs.length j with
            | none => trivial
            | some m =>
              dsimp only
              split
              · cases xs[m]? with
                | none => trivial
                | some v => exact fun k kx => rfl
              · trivial
          | _ => trivial
        | _ => trivial
  | .pop i, env, h => by
      unfold RunR
      show Runs (match getV env i with
        | some (.mls xs) => (Ro.of xs[xs.length - 1]?).bind fun v => .ok (v, env.set i (some (.mls xs.dropLast)))
        | _ => .no) h (fun (k : Val × Env → Hs → Bool) kx => match getV env i with
        | some (.mls xs) => stepK xs[xs.length - 1]? fun v => k (v, env.set i (some (.mls xs.dropLast))) h
        | _ => false)
      cases getV env i with
      | none => trivial
      | some w =>
        cases w with
        | mls xs =>
          dsimp only
          cases xs[xs.length - 1]? with
          | none => trivial
          | some v => exact fun k kx => rfl
        | _ => trivial
theorem prs_runs (hΓ : HΓ Γ Sm) : ∀ (rs : List R) (env : Env) (h : Hs), Runs (prs X Γ rs env) h (fun k kx => evrs X Sm rs env h k kx)
  | [], env, h => Runs.ok
  | r :: rs, env, h => Runs.bind (u := fun (p : Val × Env) (h : Hs) (k : KVs) kx => evrs X Sm rs env h (fun vs h => k (p.1 :: vs) h) kx) (pr_runs hΓ r env h) fun p => Runs.bind (u := fun (vs : List Val) (h : Hs) (k : KVs) kx => k (p.1 :: vs) h) (prs_runs hΓ rs env h) fun vs => Runs.ok
theorem put_runs {i : Nat} {v : Val} {env : Env} {h : Hs} : RunO (putD i v env) h (fun c => put i v env h c.nx) := by
  unfold putD put
  split
  · exact fun c => fV_eq _ _
  · trivial
theorem RunO.then {o : Out} {h : Hs} {t : C → Bool} {f : Env → Out} {u : Env → Hs → C → Bool} (ho : RunO o h t) (hf : ∀ e, RunO (f e) h (u e h)) (ht : ∀ c c' : C, t { c with nx := c'.nx } = t { c with nx := c'.nx }) : RunO (o.then f) h (fun c => t { c with nx := fun e h => u e h c }) := by
  cases o with
  | no => trivial
  | nx e =>
    have q : (fun c : C => t { c with nx := fun e h => u e h c }) = u e h := by funext c; exact ho _
    show RunO (f e) h _
    rw [q]; exact hf e
  | rt e v => exact fun c => ho _
  | bk e => exact fun c => ho _
  | ct e => exact fun c => ho _
  | xc e v => exact fun c => ho _
theorem RunO.loop {o : Out} {h : Hs} {t : C → Bool} {f : Env → Out} {u : Env → Hs → C → Bool} (ho : RunO o h t) (hf : ∀ e, RunO (f e) h (u e h)) : RunO (o.loop f) h (fun c => t { c with nx := fun e h => u e h c, ct := fun e h => u e h c, bk := c.nx }) := by
  cases o with
  | no => trivial
  | nx e =>
    have q : (fun c : C => t { c with nx := fun e h => u e h c, ct := fun e h => u e h c, bk := c.nx }) = u e h := by funext c; exact ho _
    show RunO (f e) h _
    rw [q]; exact hf e
  | ct e =>
    have q : (fun c : C => t { c with nx := fun e h => u e h c, ct := fun e h => u e h c, bk := c.nx }) = u e h := by funext c; exact ho _
    show RunO (f e) h _
    rw [q]; exact hf e
  | rt e v => exact fun c => ho _
  | bk e => exact fun c => ho _
  | xc e v => exact fun c => ho _
theorem putAll_runs {h : Hs} : ∀ (is : List Nat) (vs : List Val) (env : Env), RunO (putAllD is vs env) h (fun c => putAll is vs env h c.nx)
  | [], [], env => fun c => rfl
  | [], _ :: _, env => trivial
  | _ :: _, [], env => trivial
  | i :: is, v :: vs, env => by
    show RunO ((putD i v env).then fun env => putAllD is vs env) h (fun c => put i v env h fun env h => putAll is vs env h c.nx)
    exact RunO.then (u := fun env h c => putAll is vs env h c.nx) (t := fun c => put i v env h c.nx) put_runs (fun e => putAll_runs is vs e) fun _ _ => rfl
theorem forD_runs {bd : Val → Env → Out} {tb : Val → Env → Hs → C → Bool} {h : Hs} (hb : ∀ x env, RunO (bd x env) h (tb x env h)) : ∀ (xs : List Val) (env : Env), RunO (forD bd xs env) h (forL tb xs env h)
  | [], env => fun c => rfl
  | x :: xs, env => RunO.loop (u := fun e h c => forL tb xs e h c) (t := fun c => tb x env h c) (hb x env) fun e => forD_runs hb xs e
theorem RunO.ifV {x : Val} {a b : Out} {h : Hs} {t u : C → Bool} (ha : RunO a h t) (hb : RunO b h u) : RunO (EV.ifV x a b) h (fun c => match x with | .bl true => t c | .bl false => u c | _ => false) := by
  cases x with
  | bl b => cases b <;> assumption
  | _ => trivial
theorem whlD_runs {test : Env → Ro Val} {bd : Env → Out} {tt : Env → Hs → KV → KV → Bool} {tb : Env → Hs → C → Bool} {h : Hs} (ht : ∀ env, Runs (test env) h (tt env h)) (hb : ∀ env, RunO (bd env) h (tb env h)) : ∀ (n : Nat) (env : Env),
    RunO (whlD test bd n env) h (fun c => whlL (fun env h k kx => tt env h (fun x h => match x with | .bl b => k b h | _ => false) kx) tb n env h c)
  | 0, env => trivial
  | n + 1, env => by
    let W : Env → Hs → C → Bool := fun e h c => whlL (fun env h k kx => tt env h (fun x h => match x with | .bl b => k b h | _ => false) kx) tb n e h c
    let u : Val → Hs → C → Bool := fun x h c => match x with
      | .bl true => tb env h { c with nx := fun env h => W env h c, ct := fun env h => W env h c, bk := c.nx }
      | .bl false => c.nx env h
      | _ => false
    have q : (fun c => whlL (fun env h k kx => tt env h (fun x h => match x with | .bl b => k b h | _ => false) kx) tb (n + 1) env h c) = fun c => tt env h (fun a h => u a h c) (c.kx env) := by
      funext c
      let bb : Bool → Hs → Bool := fun b h => match b with
        | true => tb env h { c with nx := fun env h => W env h c, ct := fun env h => W env h c, bk := c.nx }
        | false => c.nx env h
      have e : (fun (x : Val) (h : Hs) => match x with | .bl b => bb b h | _ => false) = fun a h => u a h c := by
        funext x h
        cases x with
        | bl b => cases b <;> rfl
        | _ => rfl
      rw [← e]
      rfl
    rw [q]
    refine RunO.st (u := u) (ht env) fun x => ?_
    cases x with
    | bl b =>
      cases b with
      | false => exact fun c => rfl
      | true => exact RunO.loop (u := W) (t := fun c => tb env h c) (hb env) fun e => whlD_runs ht hb n e
    | _ => trivial
theorem app_runs {i : Nat} {v : Val} {env : Env} {h : Hs} : RunO (appD i v env) h (fun c => match isData v with
        | true => match getV env i with
          | some (.mls xs) => if xs.length < sizeLine then fV v fun v => c.nx (env.set i (some (.mls (xs ++ [v])))) h else false
          | _ => false
        | false => false) := by
  unfold appD
  cases isData v with
  | false => trivial
  | true =>
    dsimp only
    cases getV env i with
    | none => trivial
    | some w =>
      cases w with
      | mls xs =>
        dsimp only
        split
        · exact fun c => fV_eq _ _
        · trivial
      | _ => trivial
theorem putA_runs {i a : Nat} {v : Val} {env : Env} {h : Hs} : RunO (putAD X i a v env) h (fun c => putA X i a v env h c.nx) := by
  unfold putAD putA
  cases getV env i with
  | none => trivial
  | some w =>
    cases w with
    | mob cl as fs =>
      dsimp only
      cases newA X cl a as v with
      | false => trivial
      | true => exact fun c => fV_eq _ _
    | _ => trivial
theorem putAs_runs {i : Nat} {h : Hs} : ∀ (as : List Nat) (vs : List Val) (env : Env), RunO (putAsD X i as vs env) h (fun c => putAs X i as vs env h c.nx)
  | [], [], env => fun c => rfl
  | [], _ :: _, env => trivial
  | _ :: _, [], env => trivial
  | a :: as, v :: vs, env => by
    show RunO ((putAD X i a v env).then fun env => putAsD X i as vs env) h (fun c => putA X i a v env h fun env h => putAs X i as vs env h c.nx)
    exact RunO.then (u := fun env h c => putAs X i as vs env h c.nx) (t := fun c => putA X i a v env h c.nx) putA_runs (fun e => putAs_runs as vs e) fun _ _ => rfl
theorem RunO.calm {o : Out} {h : Hs} {t : C → Bool} (ho : RunO o h t) : RunO o.calm h (fun c => t { c with kx := fun _ => noX }) := by
  cases o <;> first | trivial | exact fun c => ho _
theorem RunO.drop {o : Out} {i : Nat} {h : Hs} {t : C → Bool} (ho : RunO o h t) : RunO (o.drop i) h (fun c => t { nx := fun env h => c.nx (env.set i none) h, rt := c.rt, bk := fun env h => c.bk (env.set i none) h, ct := fun env h => c.ct (env.set i none) h }) := by
  cases o <;> first | trivial | exact fun c => ho _
theorem asg_runs {t : T} {v : Val} {env : Env} {h : Hs} : RunO (Out.of (asg t v env)) h (fun c => stepK (asg t v env) fun env => c.nx env h) := by
  cases asg t v env with
  | none => trivial
  | some e => exact fun c => rfl
mutual
theorem ps_runs (hΓ : HΓ Γ Sm) : ∀ (s : S) (env : Env) (h : Hs), RunO (ps X Γ s env) h (fun c => ex X Sm s env h c)
  | .expr r, env, h => RunO.st (u := fun (p : Val × Env) (h : Hs) (c : C) => c.nx p.2 h) (pr_runs hΓ r env h) fun p => fun c => rfl
  | .ret r, env, h => RunO.st (u := fun (p : Val × Env) (h : Hs) (c : C) => c.rt p.2 p.1 h) (pr_runs hΓ r env h) fun p => fun c => rfl
  | .retN, env, h => fun c => rfl
  | .set t r, env, h => by
      cases t with
      | name i => exact RunO.st (u := fun (p : Val × Env) (h : Hs) (c : C) => put i p.1 p.2 h c.nx) (pr_runs hΓ r env h) fun p => put_runs
      | tup ts => exact RunO.st (u := fun (p : Val × Env) (h : Hs) (c : C) => stepK (asg (.tup ts) p.1 p.2) fun env => c.nx env h) (pr_runs hΓ r env h) fun p => asg_runs
  | .par is rs, env, h => RunO.st (u := fun (vs : List Val) (h : Hs) (c : C) => putAll is vs env h c.nx) (prs_runs hΓ rs env h) fun vs => putAll_runs is vs env
  | .append i r, env, h => by
      show RunO (match getV env i with
        | some (.mls _) => (pr X Γ r env).st env fun p => appD i p.1 p.2
        | _ => .no) h (fun c => match getV env i with
      | some (.mls _) => evr X Sm r env h (fun v env h => match isData v with
        | true => match getV env i with
          | some (.mls xs) => if xs.length < sizeLine then fV v fun v => c.nx (env.set i (some (.mls (xs ++ [v])))) h else false
          | _ => false
        | false => false) (c.kx env)
      | _ => false)
      cases getV env i with
      | none => trivial
      | some w =>
        cases w with
        | mls xs => exact RunO.st (u := fun (p : Val × Env) (h : Hs) (c : C) => match isData p.1 with
            | true => match getV p.2 i with
              | some (.mls xs) => if xs.length < sizeLine then fV p.1 fun v => c.nx (p.2.set i (some (.mls (xs ++ [v])))) h else false
              | _ => false
            | false => false) (pr_runs hΓ r env h) fun p => app_runs
        | _ => trivial
  | .insert i a b, env, h => by
      show RunO (match getV env i with
        | some (.mls xs) => (pe X Γ a env).st env fun y => match y with
          | .int k => (pe X Γ b env).st env fun v => insD i env xs (.int k) v
          | _ => .no
        | _ => .no) h (fun c => match getV env i with
      | some (.mls xs) => ev X Sm a env h (fun y h => match y with
        | .int k => ev X Sm b env h (fun v h => if xs.length < sizeLine ∧ 0 ≤ k ∧ k < 2 ^ 63 then fV v fun v => c.nx (env.set i (some (.mls (xs.take k.toNat ++ [v] ++ xs.drop k.toNat)))) h else false) (c.kx env)
        | _ => false) (c.kx env)
      | _ => false)
      cases getV env i with
      | none => trivial
      | some w =>
        cases w with
        | mls xs =>
          refine RunO.st (u := fun (y : Val) (h : Hs) (c : C) => match y with
            | .int k => ev X Sm b env h (fun v h => if xs.length < sizeLine ∧ 0 ≤ k ∧ k < 2 ^ 63 then fV v fun v => c.nx (env.set i (some (.mls (xs.take k.toNat ++ [v] ++ xs.drop k.toNat)))) h else false) (c.kx env)
            | _ => false) (pe_runs hΓ a env h) fun y => ?_
          cases y with
          | int k =>
            refine RunO.st (u := fun (v : Val) (h : Hs) (c : C) => if xs.length < sizeLine ∧ 0 ≤ k ∧ k < 2 ^ 63 then fV v fun v => c.nx (env.set i (some (.mls (xs.take k.toNat ++ [v] ++ xs.drop k.toNat)))) h else false) (pe_runs hΓ b env h) fun v => ?_
            unfold insD
            dsimp only
            split
            · exact fun c => fV_eq _ _
            · trivial
          | _ => trivial
        | _ => trivial
  | .extend i e, env, h => by
      show RunO (match getV env i with
        | some (.mls xs) => (pe X Γ e env).st env fun y => extD i env xs y
        | _ => .no) h (fun c => match getV env i with
      | some (.mls xs) => ev X Sm e env h (fun y h => match y with
        | .lst ys => if xs.length + ys.length ≤ sizeLine then c.nx (env.set i (some (.mls (xs ++ ys)))) h else false
        | _ => false) (c.kx env)
      | _ => false)
      cases getV env i with
      | none => trivial
      | some w =>
        cases w with
        | mls xs =>
          refine RunO.st (u := fun (y : Val) (h : Hs) (c : C) => match y with
            | .lst ys => if xs.length + ys.length ≤ sizeLine then c.nx (env.set i (some (.mls (xs ++ ys)))) h else false
            | _ => false) (pe_runs hΓ e env h) fun y => ?_
          cases y with
          | lst ys =>
            unfold extD
            dsimp only
            split
            · exact fun c => rfl
            · trivial
          | _ => trivial
        | _ => trivial
  | .setIx i e r, env, h => by
      have q : (fun c => ex X Sm (.setIx i e r) env h c) = fun c => match getM env i with
      | some (w, xs) => ev X Sm r env h (fun v h => ev X Sm e env h (fun y h => match y with
        | .int k => match L2.ixN xs.length k with
          | some j => c.nx (env.set i (some (mlPut w (xs.set j v)))) h
          | none => false
        | _ => false) (c.kx env)) (c.kx env)
      | none => false := by funext c; exact ex_setIx'
      rw [q]
      show RunO (match getM env i with
        | some (w, xs) => (pe X Γ r env).st env fun v => (pe X Γ e env).st env fun y => sixD i env w xs v y
        | none => .no) h _
      cases getM env i with
      | none => trivial
      | some w =>
        obtain ⟨w, xs⟩ := w
        refine RunO.st (u := fun (v : Val) (h : Hs) (c : C) => ev X Sm e env h (fun y h => match y with
          | .int k => match L2.ixN xs.length k with
            | some j => c.nx (env.set i (some (mlPut w (xs.set j v)))) h
            | none => false
          | _ => false) (c.kx env)) (pe_runs hΓ r env h) fun v => ?_
        refine RunO.st (u := fun (y : Val) (h : Hs) (c : C) => match y with
          | .int k => match L2.ixN xs.length k with
            | some j => c.nx (env.set i (some (mlPut w (xs.set j v)))) h
            | none => false
          | _ => false) (pe_runs hΓ e env h) fun y => ?_
        cases y with
        | int k =>
          unfold sixD
          dsimp only
          cases L2.ixN xs.length k with
          | none => trivial
          | some j => exact fun c => rfl
        | _ => trivial
  | .setDm _ _ _ _ _, _, _ => trivial
  | .ifS t a b, env, h => RunO.st (u := fun (x : Val) (h : Hs) (c : C) => match x with | .bl true => exs X Sm a env h c | .bl false => exs X Sm b env h c | _ => false) (pe_runs hΓ t env h) fun x => RunO.ifV (pss_runs hΓ a env h) (pss_runs hΓ b env h)
  | .forS t it b, env, h => RunO.st (u := fun (xs : List Val) (h : Hs) (c : C) => forL (fun x env h c => stepK (asg t x env) fun env => exs X Sm b env h c) xs env h c) (pi_runs hΓ it env h) fun xs => forD_runs (tb := fun x env h c => stepK (asg t x env) fun env => exs X Sm b env h c) (fun x env => by
      show RunO ((Out.of (asg t x env)).then fun env => pss X Γ b env) h (fun c => stepK (asg t x env) fun env => exs X Sm b env h c)
      cases asg t x env with
      | none => trivial
      | some e => exact pss_runs hΓ b e h) xs env
  | .whl n t b, env, h => whlD_runs (tt := fun env h k kx => ev X Sm t env h k kx) (tb := fun env h c => exs X Sm b env h c) (fun env => pe_runs hΓ t env h) (fun env => pss_runs hΓ b env h) n env
  | .brk, env, h => fun c => rfl
  | .cont, env, h => fun c => rfl
  | .pass, env, h => fun c => rfl
  | .never, env, h => trivial
  | .raise n es, env, h => RunO.st (u := fun (vs : List Val) (h : Hs) (c : C) => if vs.length = (X.cf n).length then c.kx env (.obj n vs) h else false) (pes_runs hΓ es env h) fun vs => by
      split
      · exact fun c => rfl
      · trivial
  | .tryS b hs, env, h => by
      have ih := pss_runs hΓ b env h
      show RunO (match pss X Γ b env with | .xc e v => ph X Γ hs v e | o => o) h (fun c => exs X Sm b env h { c with kx := fun env v h => exh X Sm hs v env h c })
      cases q : pss X Γ b env with
      | no => trivial
      | nx e => rw [q] at ih; exact fun c => ih _
      | rt e v => rw [q] at ih; exact fun c => ih _
      | bk e => rw [q] at ih; exact fun c => ih _
      | ct e => rw [q] at ih; exact fun c => ih _
      | xc e v =>
        rw [q] at ih
        have q2 : (fun c : C => exs X Sm b env h { c with kx := fun env v h => exh X Sm hs v env h c }) = fun c => exh X Sm hs v e h c := by funext c; exact ih _
        rw [q2]
        exact ph_runs hΓ hs v e h
  | .setA i a e, env, h => RunO.st (u := fun (v : Val) (h : Hs) (c : C) => putA X i a v env h c.nx) (pe_runs hΓ e env h) fun v => putA_runs
  | .parA i as es, env, h => RunO.st (u := fun (vs : List Val) (h : Hs) (c : C) => putAs X i as vs env h c.nx) (pes_runs hΓ es env h) fun vs => putAs_runs as vs env
  | .setF _ _ _, _, _ => trivial
theorem pss_runs (hΓ : HΓ Γ Sm) : ∀ (ss : Ss) (env : Env) (h : Hs), RunO (pss X Γ ss env) h (fun c => exs X Sm ss env h c)
  | .nil, env, h => fun c => rfl
  | .cons s ss, env, h => RunO.then (u := fun e h c => exs X Sm ss e h c) (t := fun c => ex X Sm s env h c) (ps_runs hΓ s env h) (fun e => pss_runs hΓ ss e h) fun _ _ => rfl
  | .frz i ss, env, h => by
      show RunO (match getV env i with
        | some (.mls xs) => pss X Γ ss (env.set i (some (.lst xs)))
        | _ => pss X Γ ss env) h (fun c => match getV env i with
        | some (.mls xs) => exs X Sm ss (env.set i (some (.lst xs))) h c
        | _ => exs X Sm ss env h c)
      cases getV env i with
      | none => exact pss_runs hΓ ss env h
      | some w => cases w <;> exact pss_runs hΓ ss _ h
theorem ph_runs (hΓ : HΓ Γ Sm) : ∀ (hs : Hn) (v : Val) (env : Env) (h : Hs), RunO (ph X Γ hs v env) h (fun c => exh X Sm hs v env h c)
  | .nil, v, env, h => fun c => rfl
  | .cons cs nm b r, v, env, h => by
      cases v with
      | obj d fs =>
        show RunO (match cs.any (X.sub d) with
          | true => match nm with
            | none => (pss X Γ b env).calm
            | some i => (pss X Γ b (env.set i (some (.exn d fs)))).drop i
          | false => ph X Γ r (.obj d fs) env) h (fun c => match cs.any (X.sub d) with
          | true => match nm with
            | none => exs X Sm b env h { c with kx := fun _ => noX }
            | some i => exs X Sm b (env.set i (some (.exn d fs))) h { nx := fun env h => c.nx (env.set i none) h, rt := c.rt, bk := fun env h => c.bk (env.set i none) h, ct := fun env h => c.ct (env.set i none) h }
          | false => exh X Sm r (.obj d fs) env h c)
        cases cs.any (X.sub d) with
        | false => exact ph_runs hΓ r (.obj d fs) env h
        | true =>
          cases nm with
          | none => exact RunO.calm (pss_runs hΓ b env h)
          | some i => exact RunO.drop (pss_runs hΓ b _ h)
      | _ => trivial
end
theorem runDef_runs (hΓ : HΓ Γ Sm) (d : Def) (args : List Val) (h : Hs) : Runs (runDefD X Γ d args) h (fun k kx => runDef X Sm d args h k kx) := by
  unfold runDefD runDef
  split
  · have ih := pss_runs (X := X) hΓ d.body (args.map some ++ List.replicate (d.names - d.pars) none) h
    cases q : pss X Γ d.body (args.map some ++ List.replicate (d.names - d.pars) none) with
    | no => trivial
    | nx e => rw [q] at ih; exact fun k kx => ih _
    | rt e v =>
      rw [q] at ih
      dsimp only
      cases q2 : isData v with
      | false => trivial
      | true => exact fun k kx => (ih _).trans (by dsimp only; rw [q2])
    | bk e => trivial
    | ct e => trivial
    | xc e v => rw [q] at ih; exact fun k kx => ih _
  · trivial
theorem runInit_runs (hΓ : HΓ Γ Sm) (c : Nat) (d : Def) (args : List Val) (h : Hs) : Runs (runInitD X Γ c d args) h (fun k kx => runInit X Sm c d args h k kx) := by
  unfold runInitD runInit
  split
  · have ih := pss_runs (X := X) hΓ d.body (some (.mob c [] []) :: args.map some ++ List.replicate (d.names - d.pars) none) h
    cases q : pss X Γ d.body (some (.mob c [] []) :: args.map some ++ List.replicate (d.names - d.pars) none) with
    | no => trivial
    | nx e =>
      rw [q] at ih
      dsimp only
      cases q2 : getV e 0 with
      | none => trivial
      | some w =>
        cases w with
        | mob c' as fs =>
          dsimp only
          split
          · exact fun k kx => (ih _).trans (by dsimp only; rw [q2]; dsimp only; rw [if_pos (by assumption)])
          · trivial
        | _ => trivial
    | rt e v => trivial
    | bk e => trivial
    | ct e => trivial
    | xc e v => rw [q] at ih; exact fun k kx => ih _
  · trivial
end
/-- calls in direct style are the evaluator's -/
theorem semD_runs (X : Txt) (F : Nat → Option Fn) : ∀ n, HΓ (semD X F n) (sem X F n)
  | 0 => fun _ _ _ => trivial
  | n + 1 => fun f as h => by
    unfold semD sem
    cases F f with
    | none => trivial
    | some fn =>
      cases fn with
      | body d => exact runDef_runs (semD_runs X F n) d as h
      | init c d => exact runInit_runs (semD_runs X F n) c d as h
      | _ => trivial
end EV
namespace EV
open PySem PySem.Spec PyProof.Rows L2
/-! the direct style, step by step -/
section
variable {X : Txt} {Γ : SemD} {env : Env}
theorem dE_var {i : Nat} : pe X Γ (.var i) env = Ro.of (EV.getD env i) := thru rfl
theorem dE_non : pe X Γ .non env = .ok .non := thru rfl
theorem dE_bl {b : Bool} : pe X Γ (.bl b) env = .ok (.bl b) := thru rfl
theorem dE_int {i : Int} : pe X Γ (.int i) env = .ok (.int i) := thru rfl
theorem dE_str {x : Str} : pe X Γ (.str x) env = .ok (.str x) := thru rfl
theorem dE_kon {i : Nat} : pe X Γ (.kon i) env = Ro.of (X.konst i) := thru rfl
theorem dE_bin {op : Bop} {a b : E} : pe X Γ (.bin op a b) env = (pe X Γ a env).bind fun x => (pe X Γ b env).bind fun y => Ro.of (bop op x y) := thru rfl
theorem dE_neg {a : E} : pe X Γ (.neg a) env = (pe X Γ a env).bind negD := thru rfl
theorem dE_eq {a b : E} : pe X Γ (.cmp .eq a b) env = (pe X Γ a env).bind fun x => (pe X Γ b env).bind fun y => cmpD X Γ .eq x y := thru rfl
theorem dE_ne {a b : E} : pe X Γ (.cmp .ne a b) env = (pe X Γ a env).bind fun x => (pe X Γ b env).bind fun y => cmpD X Γ .ne x y := thru rfl
theorem dE_lt {a b : E} : pe X Γ (.cmp .lt a b) env = (pe X Γ a env).bind fun x => (pe X Γ b env).bind fun y => cmpD X Γ .lt x y := thru rfl
theorem dE_le {a b : E} : pe X Γ (.cmp .le a b) env = (pe X Γ a env).bind fun x => (pe X Γ b env).bind fun y => cmpD X Γ .le x y := thru rfl
theorem dE_gt {a b : E} : pe X Γ (.cmp .gt a b) env = (pe X Γ a env).bind fun x => (pe X Γ b env).bind fun y => cmpD X Γ .gt x y := thru rfl
theorem dE_ge {a b : E} : pe X Γ (.cmp .ge a b) env = (pe X Γ a env).bind fun x => (pe X Γ b env).bind fun y => cmpD X Γ .ge x y := thru rfl
theorem dE_inn {a b : E} : pe X Γ (.cmp .inn a b) env = (pe X Γ a env).bind fun x => (pe X Γ b env).bind fun y => cmpD X Γ .inn x y := thru rfl
theorem dE_nin {a b : E} : pe X Γ (.cmp .nin a b) env = (pe X Γ a env).bind fun x => (pe X Γ b env).bind fun y => cmpD X Γ .nin x y := thru rfl
theorem dE_isN {a : E} : pe X Γ (.cmp .isN a .non) env = (pe X Γ a env).bind fun x => .ok (.bl (isNB x)) := thru rfl
theorem dE_notN {a : E} : pe X Γ (.cmp .notN a .non) env = (pe X Γ a env).bind fun x => .ok (.bl (!isNB x)) := thru rfl
theorem dE_isB {a : E} {c : Bool} : pe X Γ (.cmp .isN a (.bl c)) env = (pe X Γ a env).bind (isBD c) := thru rfl
theorem dE_isnB {a : E} {c : Bool} : pe X Γ (.cmp .notN a (.bl c)) env = (pe X Γ a env).bind (isnBD c) := thru rfl
def chD (o : Option Bool) (r : Ro Val) : Ro Val := match o with | some true => r | some false => .ok (.bl false) | none => .no
theorem chD_b {b : Bool} {r : Ro Val} : chD (some b) r = if b then r else .ok (.bl false) := by cases b <;> rfl
theorem dE_chain {o1 o2 : Cop} {a b c : E} : pe X Γ (.chain o1 o2 a b c) env = (pe X Γ a env).bind fun x => (pe X Γ b env).bind fun y => chD (cop o1 x y) ((pe X Γ c env).bind fun z => (Ro.of (cop o2 y z)).bind fun v => .ok (.bl v)) := by
  show ((pe X Γ a env).bind fun x => (pe X Γ b env).bind fun y => (Ro.of (cop o1 x y)).bind fun r => match r with
      | true => (pe X Γ c env).bind fun z => (Ro.of (cop o2 y z)).bind fun v => Ro.ok (Val.bl v)
      | false => Ro.ok (Val.bl false)) = _
  congr 1; funext x; congr 1; funext y
  cases cop o1 x y with
  | none => rfl
  | some r => cases r <;> rfl
theorem dE_and {a b : E} : pe X Γ (.andE a b) env = (pe X Γ a env).bind fun x => Ro.bl x (pe X Γ b env) (.ok (.bl false)) := thru rfl
theorem dE_or {a b : E} : pe X Γ (.orE a b) env = (pe X Γ a env).bind fun x => Ro.bl x (.ok (.bl true)) (pe X Γ b env) := thru rfl
theorem dE_one {a : E} : pe X Γ (.one a) env = pe X Γ a env := thru rfl
theorem dE_not {a : E} : pe X Γ (.notE a) env = (pe X Γ a env).bind notD := thru rfl
theorem dE_ife {c a b : E} : pe X Γ (.ife c a b) env = (pe X Γ c env).bind fun x => Ro.bl x (pe X Γ a env) (pe X Γ b env) := thru rfl
theorem dE_tup {es : Es} : pe X Γ (.tup es) env = (pes X Γ es env).bind fun xs => szD xs (.ok (.tup xs)) := thru rfl
theorem dE_lst {es : Es} : pe X Γ (.lst es) env = (pes X Γ es env).bind fun xs => szD xs (.ok (.lst xs)) := thru rfl
theorem dE_ix {a b : E} : pe X Γ (.ix a b) env = (pe X Γ a env).bind fun x => (pe X Γ b env).bind fun y => Ro.of (ixv x y) := thru rfl
theorem dE_slc {a : E} {lo hi : P} : pe X Γ (.slc a lo hi) env = (pe X Γ a env).bind fun x => (pp X Γ lo env).bind fun l => (pp X Γ hi env).bind fun u => Ro.of (slv x l u) := thru rfl
theorem dE_ixo {i : Nat} {b : E} : pe X Γ (.ixo i b) env = (Ro.of (getV env i)).bind fun x => (pe X Γ b env).bind fun y => Ro.of (ixv x y) := thru rfl
theorem dE_lenO {i : Nat} : pe X Γ (.lenO i) env = (Ro.of (getV env i)).bind fun x => Ro.of (blt .len [x]) := thru rfl
theorem dE_tupO {i : Nat} : pe X Γ (.tupO i) env = (Ro.of (getV env i)).bind fun x => Ro.of (blt .tuple [x]) := thru rfl
theorem dE_call {f : Nat} {es : Es} : pe X Γ (.call f es) env = (pes X Γ es env).bind fun xs => Γ f xs := thru rfl
theorem dE_new {f : Nat} {es : Es} : pe X Γ (.new f es) env = (pes X Γ es env).bind fun xs => Γ f xs := thru rfl
theorem dE_callK {f : Nat} {es ks : Es} {ns : List Str} {perm : List Nat} : pe X Γ (.callK f es ks ns perm) env = (pes X Γ es env).bind fun xs => (pes X Γ ks env).bind fun ys => if xs.length = es.len ∧ ys.length = ns.length then Γ f (perm.map fun j => (xs ++ ys).getD j .non) else .no := thru rfl
theorem dE_blt {b : Blt} {es : Es} : pe X Γ (.blt b es) env = (pes X Γ es env).bind fun xs => Ro.of (blt b xs) := thru rfl
theorem dE_mth {m : Mth} {o : E} {es : Es} : pe X Γ (.mth m o es) env = (pe X Γ o env).bind fun x => match isRow x with | true => (pes X Γ es env).bind fun ys => Ro.of (mth m x ys) | false => .no := thru rfl
/-- one turn of a comprehension -/
def lcTn (X : Txt) (Γ : SemD) (elt : E) (t : T) (ifs : P) (env : Env) (x : Val) : Ro (Option Val) := (Ro.of (asg t x (wipeE env (tvars t)))).bind fun env' =>
        match ifs with
        | .no => ((pe X Γ elt env').calm).bind fun v => .ok (some v)
        | .some c => ((pe X Γ c env').calm).bind fun b => Ro.bl b (((pe X Γ elt env').calm).bind fun v => .ok (some v)) (.ok none)
theorem lcTn_no {elt : E} {t : T} {x : Val} : lcTn X Γ elt t .no env x = (Ro.of (asg t x (wipeE env (tvars t)))).bind fun env' => ((pe X Γ elt env').calm).bind fun v => .ok (some v) := thru rfl
theorem lcTn_some {elt c : E} {t : T} {x : Val} : lcTn X Γ elt t (.some c) env x = (Ro.of (asg t x (wipeE env (tvars t)))).bind fun env' => ((pe X Γ c env').calm).bind fun b => Ro.bl b (((pe X Γ elt env').calm).bind fun v => .ok (some v)) (.ok none) := thru rfl
theorem dE_lc {elt : E} {t : T} {it : I} {ifs : P} : pe X Γ (.lc elt t it ifs) env = (pi X Γ it env).bind fun xs => (lcD (lcTn X Γ elt t ifs env) xs).bind fun ys => szD ys (.ok (.lst ys)) := by cases ifs <;> rfl
theorem dE_lc2 {elt : E} {t t2 : T} {it it2 : I} {ifs : P} : pe X Γ (.lc2 elt t it t2 it2 ifs) env = (pi X Γ it env).bind fun xs => (lcJ (fun x => (Ro.of (asg t x (wipeE env (tvars t ++ tvars t2)))).bind fun env' => ((pi X Γ it2 env').calm).bind fun ys => lcD (lcTn X Γ elt t2 ifs env') ys) xs).bind fun zs => szD zs (.ok (.lst zs)) := by cases ifs <;> rfl
theorem dE_stup {l : Bool} {pre post : Es} {a : E} : pe X Γ (.stup l pre a post) env = (pes X Γ pre env).bind fun xs => (pe X Γ a env).bind fun v => (rowD v).bind fun ys => (pes X Γ post env).bind fun zs => szD (xs ++ (ys ++ zs)) (.ok (stv l (xs ++ (ys ++ zs)))) := thru rfl
theorem rowD_tup {ys : List Val} : rowD (.tup ys) = .ok ys := thru rfl
theorem rowD_lst {ys : List Val} : rowD (.lst ys) = .ok ys := thru rfl
theorem stv_f {xs : List Val} : stv false xs = .tup xs := thru rfl
theorem stv_t {xs : List Val} : stv true xs = .lst xs := thru rfl
theorem asg_lst {ts : List T} {xs : List Val} : asg (.tup ts) (.lst xs) env = asgs ts xs env := thru rfl
theorem dE_cget {c : Nat} {a : E} {d : Int} : pe X Γ (.cget c a d) env = (pe X Γ a env).bind fun x => cgetD X c d x := thru rfl
theorem dE_sel {ks : List Str} {vs : Es} {i : E} : pe X Γ (.sel ks vs i) env = (pes X Γ vs env).bind fun xs => (pe X Γ i env).bind fun y => selD ks xs y := thru rfl
theorem dE_isi {a : E} {t : Ty} : pe X Γ (.isi a t) env = (pe X Γ a env).bind fun x => (Ro.of (isi x t)).bind fun b => .ok (.bl b) := thru rfl
theorem dE_lrg {a b : P} : pe X Γ (.lrg a b) env = (pp X Γ a env).bind fun l => (pp X Γ b env).bind fun u => lrgD l u := thru rfl
theorem dE_attr {e : E} {a : Nat} : pe X Γ (.attr e a) env = (pe X Γ e env).bind fun v => attrD X Γ v a := thru rfl
theorem dE_meth {e : E} {m : Nat} {es : Es} : pe X Γ (.meth e m es) env = (pe X Γ e env).bind fun v => (pes X Γ es env).bind fun xs => methD X Γ v m xs := thru rfl
theorem dE_isiC {e : E} {c : Nat} : pe X Γ (.isiC e c) env = (pe X Γ e env).bind fun v => isiCD X v c := thru rfl
theorem dE_xfld {i a : Nat} : pe X Γ (.xfld i a) env = xfldD X (getV env i) a := thru rfl
theorem dE_xisi {i c : Nat} : pe X Γ (.xisi i c) env = xisiD X (getV env i) c := thru rfl
theorem dEs_nil : pes X Γ .nil env = .ok [] := thru rfl
theorem dEs_cons {e : E} {es : Es} : pes X Γ (.cons e es) env = (pe X Γ e env).bind fun v => (pes X Γ es env).bind fun vs => .ok (v :: vs) := thru rfl
theorem dP_no : pp X Γ .no env = .ok none := thru rfl
theorem dP_some {e : E} : pp X Γ (.some e) env = (pe X Γ e env).bind optI := thru rfl
theorem dI_seq {e : E} : pi X Γ (.seq e) env = (pe X Γ e env).bind seqD := thru rfl
theorem dI_rng1 {e : E} : pi X Γ (.rng1 e) env = (pe X Γ e env).bind rngD := thru rfl
theorem dI_rng2 {a b : E} : pi X Γ (.rng2 a b) env = (pe X Γ a env).bind fun x => (pe X Γ b env).bind fun y => rng2D x y := thru rfl
theorem dI_enm {e : E} : pi X Γ (.enm e) env = (pe X Γ e env).bind enmD := thru rfl
theorem dI_zip {a b : E} : pi X Γ (.zip a b) env = (pe X Γ a env).bind fun x => (pe X Γ b env).bind fun y => zipD x y := thru rfl
theorem dR_e {e : E} : pr X Γ (.e e) env = (pe X Γ e env).bind fun v => .ok (v, env) := thru rfl
theorem dR_own {e : E} : pr X Γ (.own e) env = (pe X Γ e env).bind fun v => (ownD v).bind fun v => .ok (v, env) := thru rfl
theorem dR_pop {i : Nat} {xs : List Val} (h : getV env i = some (.mls xs)) : pr X Γ (.pop i) env = (Ro.of xs[xs.length - 1]?).bind fun v => .ok (v, env.set i (some (.mls xs.dropLast))) := by
  show (match getV env i with | some (.mls xs) => _ | _ => _) = _
  rw [h]
theorem dRs_nil : prs X Γ [] env = .ok [] := thru rfl
theorem dRs_cons {r : R} {rs : List R} : prs X Γ (r :: rs) env = (pr X Γ r env).bind fun p => (prs X Γ rs env).bind fun vs => .ok (p.1 :: vs) := thru rfl
theorem dS_expr {r : R} : ps X Γ (.expr r) env = (pr X Γ r env).st env fun p => .nx p.2 := thru rfl
theorem dS_ret {r : R} : ps X Γ (.ret r) env = (pr X Γ r env).st env fun p => .rt p.2 p.1 := thru rfl
theorem dS_retN : ps X Γ .retN env = .rt env .non := thru rfl
theorem dS_set {i : Nat} {r : R} : ps X Γ (.set (.name i) r) env = (pr X Γ r env).st env fun p => putD i p.1 p.2 := thru rfl
theorem dS_setT {ts : List T} {r : R} : ps X Γ (.set (.tup ts) r) env = (pr X Γ r env).st env fun p => Out.of (asg (.tup ts) p.1 p.2) := thru rfl
theorem dS_par {is : List Nat} {rs : List R} : ps X Γ (.par is rs) env = (prs X Γ rs env).st env fun vs => putAllD is vs env := thru rfl
theorem dS_append {i : Nat} {r : R} {xs : List Val} (h : getV env i = some (.mls xs)) : ps X Γ (.append i r) env = (pr X Γ r env).st env fun p => appD i p.1 p.2 := by
  show (match getV env i with | some (.mls _) => _ | _ => _) = _
  rw [h]
theorem dS_setIx {i : Nat} {e r : E} {w : Val} {xs : List Val} (h : getM env i = some (w, xs)) : ps X Γ (.setIx i e r) env = (pe X Γ r env).st env fun v => (pe X Γ e env).st env fun y => sixD i env w xs v y := by
  show (match getM env i with | some (w, xs) => _ | none => _) = _
  rw [h]
theorem dS_insert {i : Nat} {a b : E} {xs : List Val} (h : getV env i = some (.mls xs)) : ps X Γ (.insert i a b) env = (pe X Γ a env).st env fun y => match y with
        | .int k => (pe X Γ b env).st env fun v => insD i env xs (.int k) v
        | _ => .no := by
  show (match getV env i with | some (.mls xs) => _ | _ => _) = _
  rw [h]
  try rfl
theorem dS_extend {i : Nat} {e : E} {xs : List Val} (h : getV env i = some (.mls xs)) : ps X Γ (.extend i e) env = (pe X Γ e env).st env fun y => extD i env xs y := by
  show (match getV env i with | some (.mls xs) => _ | _ => _) = _
  rw [h]
theorem dS_if {t : E} {a b : Ss} : ps X Γ (.ifS t a b) env = (pe X Γ t env).st env fun x => ifV x (pss X Γ a env) (pss X Γ b env) := thru rfl
/-- one turn of a loop -/
def forT (X : Txt) (Γ : SemD) (t : T) (b : Ss) (x : Val) (env : Env) : Out := (Out.of (asg t x env)).then fun env => pss X Γ b env
theorem dS_for {t : T} {it : I} {b : Ss} : ps X Γ (.forS t it b) env = (pi X Γ it env).st env fun xs => forD (forT X Γ t b) xs env := thru rfl
theorem dS_brk : ps X Γ .brk env = .bk env := thru rfl
theorem dS_cont : ps X Γ .cont env = .ct env := thru rfl
theorem dS_pass : ps X Γ .pass env = .nx env := thru rfl
theorem dS_raise {c : Nat} {es : Es} : ps X Γ (.raise c es) env = (pes X Γ es env).st env fun vs => if vs.length = (X.cf c).length then .xc env (.obj c vs) else .no := thru rfl
theorem dS_setA {i a : Nat} {e : E} : ps X Γ (.setA i a e) env = (pe X Γ e env).st env fun v => putAD X i a v env := thru rfl
theorem dS_parA {i : Nat} {as : List Nat} {es : Es} : ps X Γ (.parA i as es) env = (pes X Γ es env).st env fun vs => putAsD X i as vs env := thru rfl
theorem pAs_nil {i : Nat} : putAsD X i [] [] env = .nx env := thru rfl
theorem pAs_cons {i a : Nat} {as : List Nat} {v : Val} {vs : List Val} : putAsD X i (a :: as) (v :: vs) env = (putAD X i a v env).then fun env => putAsD X i as vs env := thru rfl
/-- the first name: the object that is being made -/
theorem pAD_0 {a cl : Nat} {as : List Nat} {v : Val} {fs : List Val} {r : Env} (h : newA X cl a as v = true) : putAD X 0 a v (some (.mob cl as fs) :: r) = .nx (some (.mob cl (as ++ [a]) (fs ++ [v])) :: r) := by
  show (match newA X cl a as v with | true => Out.nx (some (.mob cl (as ++ [a]) (fs ++ [v])) :: r) | false => Out.no) = _
  rw [h]
theorem attrD_of {c a i : Nat} {fs : List Val} {os : List Nat} {v : Val} (h1 : X.of c = some os) (h2 : X.pr c a = none) (h3 : posOf a os 0 = some i) (h4 : fs[i]? = some v) : attrD X Γ (.obj c fs) a = .ok v := by
  show (match X.of c with | some os => (match X.pr c a with | some f => (Γ f [.obj c fs]).calm | none => (Ro.of (posOf a os 0)).bind fun i => Ro.of fs[i]?) | none => .no) = _
  rw [h1]; dsimp only; rw [h2]; dsimp only; rw [h3]
  show (Ro.of fs[i]?) = _
  rw [h4]; rfl
theorem attrD_pr {c a f : Nat} {fs : List Val} {os : List Nat} (h1 : X.of c = some os) (h2 : X.pr c a = some f) : attrD X Γ (.obj c fs) a = (Γ f [.obj c fs]).calm := by
  show (match X.of c with | some os => (match X.pr c a with | some f => (Γ f [.obj c fs]).calm | none => (Ro.of (posOf a os 0)).bind fun i => Ro.of fs[i]?) | none => .no) = _
  rw [h1]; dsimp only; rw [h2]
theorem isiCD_obj {c d : Nat} {fs : List Val} {os : List Nat} (h1 : X.of d = some os) : isiCD X (.obj d fs) c = .ok (Val.bl (X.sub d c)) := by
  show (match X.of d with | some _ => Ro.ok (Val.bl (X.sub d c)) | none => Ro.no) = _
  rw [h1]
theorem dSs_nil : pss X Γ .nil env = .nx env := thru rfl
theorem dSs_cons {s : S} {ss : Ss} : pss X Γ (.cons s ss) env = (ps X Γ s env).then fun env => pss X Γ ss env := thru rfl
theorem dSs_frz {i : Nat} {ss : Ss} {xs : List Val} (h : getV env i = some (.mls xs)) : pss X Γ (.frz i ss) env = pss X Γ ss (env.set i (some (.lst xs))) := by
  show (match getV env i with | some (.mls xs) => _ | _ => _) = _
  rw [h]
theorem dSs_frz' {i : Nat} {ss : Ss} {v : Val} (h : getV env i = some v) (n : isData v = true) : pss X Γ (.frz i ss) env = pss X Γ ss env := by
  show (match getV env i with | some (.mls xs) => _ | _ => _) = _
  rw [h]
  cases v <;> first | rfl | cases n
/-! the names -/
theorem Out.of_some {e : Env} : Out.of (some e) = .nx e := thru rfl
theorem gV0 {v : Option Val} {r : Env} : getV (v :: r) 0 = v := by cases v <;> rfl
theorem gVs {v : Option Val} {r : Env} {i : Nat} : getV (v :: r) (i + 1) = getV r i := thru rfl
theorem gD_of {i : Nat} {v : Val} (h : getV env i = some v) (d : isData v = true) : EV.getD env i = some v := by unfold EV.getD; rw [h]; dsimp only; rw [if_pos d]
theorem gM_of {i : Nat} {xs : List Val} (h : getV env i = some (.mls xs)) : getM env i = some (.mls xs, xs) := by unfold getM; rw [h]; rfl
theorem gD0 {v : Val} {r : Env} (d : isData v = true) : EV.getD (some v :: r) 0 = some v := gD_of gV0 d
theorem gDs {v : Option Val} {r : Env} {i : Nat} : EV.getD (v :: r) (i + 1) = EV.getD r i := thru rfl
theorem gM0 {xs : List Val} {r : Env} : getM (some (.mls xs) :: r) 0 = some (.mls xs, xs) := gM_of gV0
theorem gMs {v : Option Val} {r : Env} {i : Nat} : getM (v :: r) (i + 1) = getM r i := thru rfl
theorem iD_non : isData .non = true := thru rfl
theorem iD_bl {b : Bool} : isData (.bl b) = true := thru rfl
theorem iD_int {b : Int} : isData (.int b) = true := thru rfl
theorem iD_str {b : Str} : isData (.str b) = true := thru rfl
theorem iD_tup {b : List Val} : isData (.tup b) = true := thru rfl
theorem iD_tupk {b : List Val} : isData (.tupk b) = true := thru rfl
theorem iD_lst {b : List Val} : isData (.lst b) = true := thru rfl
theorem iD_obj {c : Nat} {b : List Val} : isData (.obj c b) = true := thru rfl
theorem putD_ok {i : Nat} {v : Val} (h : i < env.length) : putD i v env = .nx (env.set i (some v)) := if_pos h
theorem appD_ok {i : Nat} {v : Val} {xs : List Val} (d : isData v = true) (h : getV env i = some (.mls xs)) (l : xs.length < sizeLine) : appD i v env = .nx (env.set i (some (.mls (xs ++ [v])))) := by
  unfold appD
  rw [d]; dsimp only; rw [h]; dsimp only; rw [if_pos l]
theorem asg_name {i : Nat} {v : Val} (h : i < env.length) : asg (.name i) v env = some (env.set i (some v)) := if_pos h
theorem gV_0 {o : Option Val} {r : Env} : getV (o :: r) 0 = o := by cases o <;> rfl
theorem gD_0 {v : Val} {r : Env} (d : isData v = true) : EV.getD (some v :: r) 0 = some v := gD_of gV_0 d
theorem gM_0 {xs : List Val} {r : Env} : getM (some (.mls xs) :: r) 0 = some (.mls xs, xs) := gM_of gV_0
theorem eS_0 {o q : Option Val} {r : Env} : List.set (o :: r) 0 q = q :: r := thru rfl
theorem pD_0 {o : Option Val} {v : Val} {r : Env} : putD 0 v (o :: r) = .nx (some v :: r) := (putD_ok (by simp)).trans (by rw [eS_0])
theorem aN_0 {o : Option Val} {v : Val} {r : Env} : asg (.name 0) v (o :: r) = some (some v :: r) := (asg_name (by simp)).trans (by rw [eS_0])
theorem gV_1 {a0 : Option Val} {o : Option Val} {r : Env} : getV (a0 :: o :: r) 1 = o := by cases o <;> rfl
theorem gD_1 {a0 : Option Val} {v : Val} {r : Env} (d : isData v = true) : EV.getD (a0 :: some v :: r) 1 = some v := gD_of gV_1 d
theorem gM_1 {a0 : Option Val} {xs : List Val} {r : Env} : getM (a0 :: some (.mls xs) :: r) 1 = some (.mls xs, xs) := gM_of gV_1
theorem eS_1 {a0 : Option Val} {o q : Option Val} {r : Env} : List.set (a0 :: o :: r) 1 q = a0 :: q :: r := thru rfl
theorem pD_1 {a0 : Option Val} {o : Option Val} {v : Val} {r : Env} : putD 1 v (a0 :: o :: r) = .nx (a0 :: some v :: r) := (putD_ok (by simp)).trans (by rw [eS_1])
theorem aN_1 {a0 : Option Val} {o : Option Val} {v : Val} {r : Env} : asg (.name 1) v (a0 :: o :: r) = some (a0 :: some v :: r) := (asg_name (by simp)).trans (by rw [eS_1])
theorem gV_2 {a0 a1 : Option Val} {o : Option Val} {r : Env} : getV (a0 :: a1 :: o :: r) 2 = o := by cases o <;> rfl
theorem gD_2 {a0 a1 : Option Val} {v : Val} {r : Env} (d : isData v = true) : EV.getD (a0 :: a1 :: some v :: r) 2 = some v := gD_of gV_2 d
theorem gM_2 {a0 a1 : Option Val} {xs : List Val} {r : Env} : getM (a0 :: a1 :: some (.mls xs) :: r) 2 = some (.mls xs, xs) := gM_of gV_2
theorem eS_2 {a0 a1 : Option Val} {o q : Option Val} {r : Env} : List.set (a0 :: a1 :: o :: r) 2 q = a0 :: a1 :: q :: r := thru rfl
theorem pD_2 {a0 a1 : Option Val} {o : Option Val} {v : Val} {r : Env} : putD 2 v (a0 :: a1 :: o :: r) = .nx (a0 :: a1 :: some v :: r) := (putD_ok (by simp)).trans (by rw [eS_2])
theorem aN_2 {a0 a1 : Option Val} {o : Option Val} {v : Val} {r : Env} : asg (.name 2) v (a0 :: a1 :: o :: r) = some (a0 :: a1 :: some v :: r) := (asg_name (by simp)).trans (by rw [eS_2])
theorem gV_3 {a0 a1 a2 : Option Val} {o : Option Val} {r : Env} : getV (a0 :: a1 :: a2 :: o :: r) 3 = o := by cases o <;> rfl
theorem gD_3 {a0 a1 a2 : Option Val} {v : Val} {r : Env} (d : isData v = true) : EV.getD (a0 :: a1 :: a2 :: some v :: r) 3 = some v := gD_of gV_3 d
theorem gM_3 {a0 a1 a2 : Option Val} {xs : List Val} {r : Env} : getM (a0 :: a1 :: a2 :: some (.mls xs) :: r) 3 = some (.mls xs, xs) := gM_of gV_3
theorem eS_3 {a0 a1 a2 : Option Val} {o q : Option Val} {r : Env} : List.set (a0 :: a1 :: a2 :: o :: r) 3 q = a0 :: a1 :: a2 :: q :: r := thru rfl
theorem pD_3 {a0 a1 a2 : Option Val} {o : Option Val} {v : Val} {r : Env} : putD 3 v (a0 :: a1 :: a2 :: o :: r) = .nx (a0 :: a1 :: a2 :: some v :: r) := (putD_ok (by simp)).trans (by rw [eS_3])
theorem aN_3 {a0 a1 a2 : Option Val} {o : Option Val} {v : Val} {r : Env} : asg (.name 3) v (a0 :: a1 :: a2 :: o :: r) = some (a0 :: a1 :: a2 :: some v :: r) := (asg_name (by simp)).trans (by rw [eS_3])
theorem gV_4 {a0 a1 a2 a3 : Option Val} {o : Option Val} {r : Env} : getV (a0 :: a1 :: a2 :: a3 :: o :: r) 4 = o := by cases o <;> rfl
theorem gD_4 {a0 a1 a2 a3 : Option Val} {v : Val} {r : Env} (d : isData v = true) : EV.getD (a0 :: a1 :: a2 :: a3 :: some v :: r) 4 = some v := gD_of gV_4 d
theorem gM_4 {a0 a1 a2 a3 : Option Val} {xs : List Val} {r : Env} : getM (a0 :: a1 :: a2 :: a3 :: some (.mls xs) :: r) 4 = some (.mls xs, xs) := gM_of gV_4
theorem eS_4 {a0 a1 a2 a3 : Option Val} {o q : Option Val} {r : Env} : List.set (a0 :: a1 :: a2 :: a3 :: o :: r) 4 q = a0 :: a1 :: a2 :: a3 :: q :: r := thru rfl
theorem pD_4 {a0 a1 a2 a3 : Option Val} {o : Option Val} {v : Val} {r : Env} : putD 4 v (a0 :: a1 :: a2 :: a3 :: o :: r) = .nx (a0 :: a1 :: a2 :: a3 :: some v :: r) := (putD_ok (by simp)).trans (by rw [eS_4])
theorem aN_4 {a0 a1 a2 a3 : Option Val} {o : Option Val} {v : Val} {r : Env} : asg (.name 4) v (a0 :: a1 :: a2 :: a3 :: o :: r) = some (a0 :: a1 :: a2 :: a3 :: some v :: r) := (asg_name (by simp)).trans (by rw [eS_4])
theorem gV_5 {a0 a1 a2 a3 a4 : Option Val} {o : Option Val} {r : Env} : getV (a0 :: a1 :: a2 :: a3 :: a4 :: o :: r) 5 = o := by cases o <;> rfl
theorem gD_5 {a0 a1 a2 a3 a4 : Option Val} {v : Val} {r : Env} (d : isData v = true) : EV.getD (a0 :: a1 :: a2 :: a3 :: a4 :: some v :: r) 5 = some v := gD_of gV_5 d
theorem gM_5 {a0 a1 a2 a3 a4 : Option Val} {xs : List Val} {r : Env} : getM (a0 :: a1 :: a2 :: a3 :: a4 :: some (.mls xs) :: r) 5 = some (.mls xs, xs) := gM_of gV_5
theorem eS_5 {a0 a1 a2 a3 a4 : Option Val} {o q : Option Val} {r : Env} : List.set (a0 :: a1 :: a2 :: a3 :: a4 :: o :: r) 5 q = a0 :: a1 :: a2 :: a3 :: a4 :: q :: r := thru rfl
theorem pD_5 {a0 a1 a2 a3 a4 : Option Val} {o : Option Val} {v : Val} {r : Env} : putD 5 v (a0 :: a1 :: a2 :: a3 :: a4 :: o :: r) = .nx (a0 :: a1 :: a2 :: a3 :: a4 :: some v :: r) := (putD_ok (by simp)).trans (by rw [eS_5])
theorem aN_5 {a0 a1 a2 a3 a4 : Option Val} {o : Option Val} {v : Val} {r : Env} : asg (.name 5) v (a0 :: a1 :: a2 :: a3 :: a4 :: o :: r) = some (a0 :: a1 :: a2 :: a3 :: a4 :: some v :: r) := (asg_name (by simp)).trans (by rw [eS_5])
theorem gV_6 {a0 a1 a2 a3 a4 a5 : Option Val} {o : Option Val} {r : Env} : getV (a0 :: a1 :: a2 :: a3 :: a4 :: a5 :: o :: r) 6 = o := by cases o <;> rfl
theorem gD_6 {a0 a1 a2 a3 a4 a5 : Option Val} {v : Val} {r : Env} (d : isData v = true) : EV.getD (a0 :: a1 :: a2 :: a3 :: a4 :: a5 :: some v :: r) 6 = some v := gD_of gV_6 d
theorem gM_6 {a0 a1 a2 a3 a4 a5 : Option Val} {xs : List Val} {r : Env} : getM (a0 :: a1 :: a2 :: a3 :: a4 :: a5 :: some (.mls xs) :: r) 6 = some (.mls xs, xs) := gM_of gV_6
theorem eS_6 {a0 a1 a2 a3 a4 a5 : Option Val} {o q : Option Val} {r : Env} : List.set (a0 :: a1 :: a2 :: a3 :: a4 :: a5 :: o :: r) 6 q = a0 :: a1 :: a2 :: a3 :: a4 :: a5 :: q :: r := thru rfl
theorem pD_6 {a0 a1 a2 a3 a4 a5 : Option Val} {o : Option Val} {v : Val} {r : Env} : putD 6 v (a0 :: a1 :: a2 :: a3 :: a4 :: a5 :: o :: r) = .nx (a0 :: a1 :: a2 :: a3 :: a4 :: a5 :: some v :: r) := (putD_ok (by simp)).trans (by rw [eS_6])
theorem aN_6 {a0 a1 a2 a3 a4 a5 : Option Val} {o : Option Val} {v : Val} {r : Env} : asg (.name 6) v (a0 :: a1 :: a2 :: a3 :: a4 :: a5 :: o :: r) = some (a0 :: a1 :: a2 :: a3 :: a4 :: a5 :: some v :: r) := (asg_name (by simp)).trans (by rw [eS_6])
theorem gV_7 {a0 a1 a2 a3 a4 a5 a6 : Option Val} {o : Option Val} {r : Env} : getV (a0 :: a1 :: a2 :: a3 :: a4 :: a5 :: a6 :: o :: r) 7 = o := by cases o <;> rfl
theorem gD_7 {a0 a1 a2 a3 a4 a5 a6 : Option Val} {v : Val} {r : Env} (d : isData v = true) : EV.getD (a0 :: a1 :: a2 :: a3 :: a4 :: a5 :: a6 :: some v :: r) 7 = some v := gD_of gV_7 d
theorem gM_7 {a0 a1 a2 a3 a4 a5 a6 : Option Val} {xs : List Val} {r : Env} : getM (a0 :: a1 :: a2 :: a3 :: a4 :: a5 :: a6 :: some (.mls xs) :: r) 7 = some (.mls xs, xs) := gM_of gV_7
theorem eS_7 {a0 a1 a2 a3 a4 a5 a6 : Option Val} {o q : Option Val} {r : Env} : List.set (a0 :: a1 :: a2 :: a3 :: a4 :: a5 :: a6 :: o :: r) 7 q = a0 :: a1 :: a2 :: a3 :: a4 :: a5 :: a6 :: q :: r := thru rfl
theorem pD_7 {a0 a1 a2 a3 a4 a5 a6 : Option Val} {o : Option Val} {v : Val} {r : Env} : putD 7 v (a0 :: a1 :: a2 :: a3 :: a4 :: a5 :: a6 :: o :: r) = .nx (a0 :: a1 :: a2 :: a3 :: a4 :: a5 :: a6 :: some v :: r) := (putD_ok (by simp)).trans (by rw [eS_7])
theorem aN_7 {a0 a1 a2 a3 a4 a5 a6 : Option Val} {o : Option Val} {v : Val} {r : Env} : asg (.name 7) v (a0 :: a1 :: a2 :: a3 :: a4 :: a5 :: a6 :: o :: r) = some (a0 :: a1 :: a2 :: a3 :: a4 :: a5 :: a6 :: some v :: r) := (asg_name (by simp)).trans (by rw [eS_7])
theorem gV_8 {a0 a1 a2 a3 a4 a5 a6 a7 : Option Val} {o : Option Val} {r : Env} : getV (a0 :: a1 :: a2 :: a3 :: a4 :: a5 :: a6 :: a7 :: o :: r) 8 = o := by cases o <;> rfl
theorem gD_8 {a0 a1 a2 a3 a4 a5 a6 a7 : Option Val} {v : Val} {r : Env} (d : isData v = true) : EV.getD (a0 :: a1 :: a2 :: a3 :: a4 :: a5 :: a6 :: a7 :: some v :: r) 8 = some v := gD_of gV_8 d
theorem gM_8 {a0 a1 a2 a3 a4 a5 a6 a7 : Option Val} {xs : List Val} {r : Env} : getM (a0 :: a1 :: a2 :: a3 :: a4 :: a5 :: a6 :: a7 :: some (.mls xs) :: r) 8 = some (.mls xs, xs) := gM_of gV_8
theorem eS_8 {a0 a1 a2 a3 a4 a5 a6 a7 : Option Val} {o q : Option Val} {r : Env} : List.set (a0 :: a1 :: a2 :: a3 :: a4 :: a5 :: a6 :: a7 :: o :: r) 8 q = a0 :: a1 :: a2 :: a3 :: a4 :: a5 :: a6 :: a7 :: q :: r := thru rfl
theorem pD_8 {a0 a1 a2 a3 a4 a5 a6 a7 : Option Val} {o : Option Val} {v : Val} {r : Env} : putD 8 v (a0 :: a1 :: a2 :: a3 :: a4 :: a5 :: a6 :: a7 :: o :: r) = .nx (a0 :: a1 :: a2 :: a3 :: a4 :: a5 :: a6 :: a7 :: some v :: r) := (putD_ok (by simp)).trans (by rw [eS_8])
theorem aN_8 {a0 a1 a2 a3 a4 a5 a6 a7 : Option Val} {o : Option Val} {v : Val} {r : Env} : asg (.name 8) v (a0 :: a1 :: a2 :: a3 :: a4 :: a5 :: a6 :: a7 :: o :: r) = some (a0 :: a1 :: a2 :: a3 :: a4 :: a5 :: a6 :: a7 :: some v :: r) := (asg_name (by simp)).trans (by rw [eS_8])
theorem gV_9 {a0 a1 a2 a3 a4 a5 a6 a7 a8 : Option Val} {o : Option Val} {r : Env} : getV (a0 :: a1 :: a2 :: a3 :: a4 :: a5 :: a6 :: a7 :: a8 :: o :: r) 9 = o := by cases o <;> rfl
theorem gD_9 {a0 a1 a2 a3 a4 a5 a6 a7 a8 : Option Val} {v : Val} {r : Env} (d : isData v = true) : EV.getD (a0 :: a1 :: a2 :: a3 :: a4 :: a5 :: a6 :: a7 :: a8 :: some v :: r) 9 = some v := gD_of gV_9 d
theorem gM_9 {a0 a1 a2 a3 a4 a5 a6 a7 a8 : Option Val} {xs : List Val} {r : Env} : getM (a0 :: a1 :: a2 :: a3 :: a4 :: a5 :: a6 :: a7 :: a8 :: some (.mls xs) :: r) 9 = some (.mls xs, xs) := gM_of gV_9
theorem eS_9 {a0 a1 a2 a3 a4 a5 a6 a7 a8 : Option Val} {o q : Option Val} {r : Env} : List.set (a0 :: a1 :: a2 :: a3 :: a4 :: a5 :: a6 :: a7 :: a8 :: o :: r) 9 q = a0 :: a1 :: a2 :: a3 :: a4 :: a5 :: a6 :: a7 :: a8 :: q :: r := thru rfl
theorem pD_9 {a0 a1 a2 a3 a4 a5 a6 a7 a8 : Option Val} {o : Option Val} {v : Val} {r : Env} : putD 9 v (a0 :: a1 :: a2 :: a3 :: a4 :: a5 :: a6 :: a7 :: a8 :: o :: r) = .nx (a0 :: a1 :: a2 :: a3 :: a4 :: a5 :: a6 :: a7 :: a8 :: some v :: r) := (putD_ok (by simp)).trans (by rw [eS_9])
theorem aN_9 {a0 a1 a2 a3 a4 a5 a6 a7 a8 : Option Val} {o : Option Val} {v : Val} {r : Env} : asg (.name 9) v (a0 :: a1 :: a2 :: a3 :: a4 :: a5 :: a6 :: a7 :: a8 :: o :: r) = some (a0 :: a1 :: a2 :: a3 :: a4 :: a5 :: a6 :: a7 :: a8 :: some v :: r) := (asg_name (by simp)).trans (by rw [eS_9])
theorem gV_10 {a0 a1 a2 a3 a4 a5 a6 a7 a8 a9 : Option Val} {o : Option Val} {r : Env} : getV (a0 :: a1 :: a2 :: a3 :: a4 :: a5 :: a6 :: a7 :: a8 :: a9 :: o :: r) 10 = o := by cases o <;> rfl
theorem gD_10 {a0 a1 a2 a3 a4 a5 a6 a7 a8 a9 : Option Val} {v : Val} {r : Env} (d : isData v = true) : EV.getD (a0 :: a1 :: a2 :: a3 :: a4 :: a5 :: a6 :: a7 :: a8 :: a9 :: some v :: r) 10 = some v := gD_of gV_10 d
theorem gM_10 {a0 a1 a2 a3 a4 a5 a6 a7 a8 a9 : Option Val} {xs : List Val} {r : Env} : getM (a0 :: a1 :: a2 :: a3 :: a4 :: a5 :: a6 :: a7 :: a8 :: a9 :: some (.mls xs) :: r) 10 = some (.mls xs, xs) := gM_of gV_10
theorem eS_10 {a0 a1 a2 a3 a4 a5 a6 a7 a8 a9 : Option Val} {o q : Option Val} {r : Env} : List.set (a0 :: a1 :: a2 :: a3 :: a4 :: a5 :: a6 :: a7 :: a8 :: a9 :: o :: r) 10 q = a0 :: a1 :: a2 :: a3 :: a4 :: a5 :: a6 :: a7 :: a8 :: a9 :: q :: r := thru rfl
theorem pD_10 {a0 a1 a2 a3 a4 a5 a6 a7 a8 a9 : Option Val} {o : Option Val} {v : Val} {r : Env} : putD 10 v (a0 :: a1 :: a2 :: a3 :: a4 :: a5 :: a6 :: a7 :: a8 :: a9 :: o :: r) = .nx (a0 :: a1 :: a2 :: a3 :: a4 :: a5 :: a6 :: a7 :: a8 :: a9 :: some v :: r) := (putD_ok (by simp)).trans (by rw [eS_10])
theorem aN_10 {a0 a1 a2 a3 a4 a5 a6 a7 a8 a9 : Option Val} {o : Option Val} {v : Val} {r : Env} : asg (.name 10) v (a0 :: a1 :: a2 :: a3 :: a4 :: a5 :: a6 :: a7 :: a8 :: a9 :: o :: r) = some (a0 :: a1 :: a2 :: a3 :: a4 :: a5 :: a6 :: a7 :: a8 :: a9 :: some v :: r) := (asg_name (by simp)).trans (by rw [eS_10])
theorem gV_11 {a0 a1 a2 a3 a4 a5 a6 a7 a8 a9 a10 : Option Val} {o : Option Val} {r : Env} : getV (a0 :: a1 :: a2 :: a3 :: a4 :: a5 :: a6 :: a7 :: a8 :: a9 :: a10 :: o :: r) 11 = o := by cases o <;> rfl
theorem gD_11 {a0 a1 a2 a3 a4 a5 a6 a7 a8 a9 a10 : Option Val} {v : Val} {r : Env} (d : isData v = true) : EV.getD (a0 :: a1 :: a2 :: a3 :: a4 :: a5 :: a6 :: a7 :: a8 :: a9 :: a10 :: some v :: r) 11 = some v := gD_of gV_11 d
theorem gM_11 {a0 a1 a2 a3 a4 a5 a6 a7 a8 a9 a10 : Option Val} {xs : List Val} {r : Env} : getM (a0 :: a1 :: a2 :: a3 :: a4 :: a5 :: a6 :: a7 :: a8 :: a9 :: a10 :: some (.mls xs) :: r) 11 = some (.mls xs, xs) := gM_of gV_11
theorem eS_11 {a0 a1 a2 a3 a4 a5 a6 a7 a8 a9 a10 : Option Val} {o q : Option Val} {r : Env} : List.set (a0 :: a1 :: a2 :: a3 :: a4 :: a5 :: a6 :: a7 :: a8 :: a9 :: a10 :: o :: r) 11 q = a0 :: a1 :: a2 :: a3 :: a4 :: a5 :: a6 :: a7 :: a8 :: a9 :: a10 :: q :: r := thru rfl
theorem pD_11 {a0 a1 a2 a3 a4 a5 a6 a7 a8 a9 a10 : Option Val} {o : Option Val} {v : Val} {r : Env} : putD 11 v (a0 :: a1 :: a2 :: a3 :: a4 :: a5 :: a6 :: a7 :: a8 :: a9 :: a10 :: o :: r) = .nx (a0 :: a1 :: a2 :: a3 :: a4 :: a5 :: a6 :: a7 :: a8 :: a9 :: a10 :: some v :: r) := (putD_ok (by simp)).trans (by rw [eS_11])
theorem aN_11 {a0 a1 a2 a3 a4 a5 a6 a7 a8 a9 a10 : Option Val} {o : Option Val} {v : Val} {r : Env} : asg (.name 11) v (a0 :: a1 :: a2 :: a3 :: a4 :: a5 :: a6 :: a7 :: a8 :: a9 :: a10 :: o :: r) = some (a0 :: a1 :: a2 :: a3 :: a4 :: a5 :: a6 :: a7 :: a8 :: a9 :: a10 :: some v :: r) := (asg_name (by simp)).trans (by rw [eS_11])
theorem gV_12 {a0 a1 a2 a3 a4 a5 a6 a7 a8 a9 a10 a11 : Option Val} {o : Option Val} {r : Env} : getV (a0 :: a1 :: a2 :: a3 :: a4 :: a5 :: a6 :: a7 :: a8 :: a9 :: a10 :: a11 :: o :: r) 12 = o := by cases o <;> rfl
theorem gD_12 {a0 a1 a2 a3 a4 a5 a6 a7 a8 a9 a10 a11 : Option Val} {v : Val} {r : Env} (d : isData v = true) : EV.getD (a0 :: a1 :: a2 :: a3 :: a4 :: a5 :: a6 :: a7 :: a8 :: a9 :: a10 :: a11 :: some v :: r) 12 = some v := gD_of gV_12 d
theorem gM_12 {a0 a1 a2 a3 a4 a5 a6 a7 a8 a9 a10 a11 : Option Val} {xs : List Val} {r : Env} : getM (a0 :: a1 :: a2 :: a3 :: a4 :: a5 :: a6 :: a7 :: a8 :: a9 :: a10 :: a11 :: some (.mls xs) :: r) 12 = some (.mls xs, xs) := gM_of gV_12
theorem eS_12 {a0 a1 a2 a3 a4 a5 a6 a7 a8 a9 a10 a11 : Option Val} {o q : Option Val} {r : Env} : List.set (a0 :: a1 :: a2 :: a3 :: a4 :: a5 :: a6 :: a7 :: a8 :: a9 :: a10 :: a11 :: o :: r) 12 q = a0 :: a1 :: a2 :: a3 :: a4 :: a5 :: a6 :: a7 :: a8 :: a9 :: a10 :: a11 :: q :: r := thru rfl
theorem pD_12 {a0 a1 a2 a3 a4 a5 a6 a7 a8 a9 a10 a11 : Option Val} {o : Option Val} {v : Val} {r : Env} : putD 12 v (a0 :: a1 :: a2 :: a3 :: a4 :: a5 :: a6 :: a7 :: a8 :: a9 :: a10 :: a11 :: o :: r) = .nx (a0 :: a1 :: a2 :: a3 :: a4 :: a5 :: a6 :: a7 :: a8 :: a9 :: a10 :: a11 :: some v :: r) := (putD_ok (by simp)).trans (by rw [eS_12])
theorem aN_12 {a0 a1 a2 a3 a4 a5 a6 a7 a8 a9 a10 a11 : Option Val} {o : Option Val} {v : Val} {r : Env} : asg (.name 12) v (a0 :: a1 :: a2 :: a3 :: a4 :: a5 :: a6 :: a7 :: a8 :: a9 :: a10 :: a11 :: o :: r) = some (a0 :: a1 :: a2 :: a3 :: a4 :: a5 :: a6 :: a7 :: a8 :: a9 :: a10 :: a11 :: some v :: r) := (asg_name (by simp)).trans (by rw [eS_12])
theorem gV_13 {a0 a1 a2 a3 a4 a5 a6 a7 a8 a9 a10 a11 a12 : Option Val} {o : Option Val} {r : Env} : getV (a0 :: a1 :: a2 :: a3 :: a4 :: a5 :: a6 :: a7 :: a8 :: a9 :: a10 :: a11 :: a12 :: o :: r) 13 = o := by cases o <;> rfl
theorem gD_13 {a0 a1 a2 a3 a4 a5 a6 a7 a8 a9 a10 a11 a12 : Option Val} {v : Val} {r : Env} (d : isData v = true) : EV.getD (a0 :: a1 :: a2 :: a3 :: a4 :: a5 :: a6 :: a7 :: a8 :: a9 :: a10 :: a11 :: a12 :: some v :: r) 13 = some v := gD_of gV_13 d
theorem gM_13 {a0 a1 a2 a3 a4 a5 a6 a7 a8 a9 a10 a11 a12 : Option Val} {xs : List Val} {r : Env} : getM (a0 :: a1 :: a2 :: a3 :: a4 :: a5 :: a6 :: a7 :: a8 :: a9 :: a10 :: a11 :: a12 :: some (.mls xs) :: r) 13 = some (.mls xs, xs) := gM_of gV_13
theorem eS_13 {a0 a1 a2 a3 a4 a5 a6 a7 a8 a9 a10 a11 a12 : Option Val} {o q : Option Val} {r : Env} : List.set (a0 :: a1 :: a2 :: a3 :: a4 :: a5 :: a6 :: a7 :: a8 :: a9 :: a10 :: a11 :: a12 :: o :: r) 13 q = a0 :: a1 :: a2 :: a3 :: a4 :: a5 :: a6 :: a7 :: a8 :: a9 :: a10 :: a11 :: a12 :: q :: r := thru rfl
theorem pD_13 {a0 a1 a2 a3 a4 a5 a6 a7 a8 a9 a10 a11 a12 : Option Val} {o : Option Val} {v : Val} {r : Env} : putD 13 v (a0 :: a1 :: a2 :: a3 :: a4 :: a5 :: a6 :: a7 :: a8 :: a9 :: a10 :: a11 :: a12 :: o :: r) = .nx (a0 :: a1 :: a2 :: a3 :: a4 :: a5 :: a6 :: a7 :: a8 :: a9 :: a10 :: a11 :: a12 :: some v :: r) := (putD_ok (by simp)).trans (by rw [eS_13])
theorem aN_13 {a0 a1 a2 a3 a4 a5 a6 a7 a8 a9 a10 a11 a12 : Option Val} {o : Option Val} {v : Val} {r : Env} : asg (.name 13) v (a0 :: a1 :: a2 :: a3 :: a4 :: a5 :: a6 :: a7 :: a8 :: a9 :: a10 :: a11 :: a12 :: o :: r) = some (a0 :: a1 :: a2 :: a3 :: a4 :: a5 :: a6 :: a7 :: a8 :: a9 :: a10 :: a11 :: a12 :: some v :: r) := (asg_name (by simp)).trans (by rw [eS_13])
theorem gV_14 {a0 a1 a2 a3 a4 a5 a6 a7 a8 a9 a10 a11 a12 a13 : Option Val} {o : Option Val} {r : Env} : getV (a0 :: a1 :: a2 :: a3 :: a4 :: a5 :: a6 :: a7 :: a8 :: a9 :: a10 :: a11 :: a12 :: a13 :: o :: r) 14 = o := by cases o <;> rfl
theorem gD_14 {a0 a1 a2 a3 a4 a5 a6 a7 a8 a9 a10 a11 a12 a13 : Option Val} {v : Val} {r : Env} (d : isData v = true) : EV.getD (a0 :: a1 :: a2 :: a3 :: a4 :: a5 :: a6 :: a7 :: a8 :: a9 :: a10 :: a11 :: a12 :: a13 :: some v :: r) 14 = some v := gD_of gV_14 d
theorem gM_14 {a0 a1 a2 a3 a4 a5 a6 a7 a8 a9 a10 a11 a12 a13 : Option Val} {xs : List Val} {r : Env} : getM (a0 :: a1 :: a2 :: a3 :: a4 :: a5 :: a6 :: a7 :: a8 :: a9 :: a10 :: a11 :: a12 :: a13 :: some (.mls xs) :: r) 14 = some (.mls xs, xs) := gM_of gV_14
theorem eS_14 {a0 a1 a2 a3 a4 a5 a6 a7 a8 a9 a10 a11 a12 a13 : Option Val} {o q : Option Val} {r : Env} : List.set (a0 :: a1 :: a2 :: a3 :: a4 :: a5 :: a6 :: a7 :: a8 :: a9 :: a10 :: a11 :: a12 :: a13 :: o :: r) 14 q = a0 :: a1 :: a2 :: a3 :: a4 :: a5 :: a6 :: a7 :: a8 :: a9 :: a10 :: a11 :: a12 :: a13 :: q :: r := thru rfl
theorem pD_14 {a0 a1 a2 a3 a4 a5 a6 a7 a8 a9 a10 a11 a12 a13 : Option Val} {o : Option Val} {v : Val} {r : Env} : putD 14 v (a0 :: a1 :: a2 :: a3 :: a4 :: a5 :: a6 :: a7 :: a8 :: a9 :: a10 :: a11 :: a12 :: a13 :: o :: r) = .nx (a0 :: a1 :: a2 :: a3 :: a4 :: a5 :: a6 :: a7 :: a8 :: a9 :: a10 :: a11 :: a12 :: a13 :: some v :: r) := (putD_ok (by simp)).trans (by rw [eS_14])
theorem aN_14 {a0 a1 a2 a3 a4 a5 a6 a7 a8 a9 a10 a11 a12 a13 : Option Val} {o : Option Val} {v : Val} {r : Env} : asg (.name 14) v (a0 :: a1 :: a2 :: a3 :: a4 :: a5 :: a6 :: a7 :: a8 :: a9 :: a10 :: a11 :: a12 :: a13 :: o :: r) = some (a0 :: a1 :: a2 :: a3 :: a4 :: a5 :: a6 :: a7 :: a8 :: a9 :: a10 :: a11 :: a12 :: a13 :: some v :: r) := (asg_name (by simp)).trans (by rw [eS_14])
theorem gV_15 {a0 a1 a2 a3 a4 a5 a6 a7 a8 a9 a10 a11 a12 a13 a14 : Option Val} {o : Option Val} {r : Env} : getV (a0 :: a1 :: a2 :: a3 :: a4 :: a5 :: a6 :: a7 :: a8 :: a9 :: a10 :: a11 :: a12 :: a13 :: a14 :: o :: r) 15 = o := by cases o <;> rfl
theorem gD_15 {a0 a1 a2 a3 a4 a5 a6 a7 a8 a9 a10 a11 a12 a13 a14 : Option Val} {v : Val} {r : Env} (d : isData v = true) : EV.getD (a0 :: a1 :: a2 :: a3 :: a4 :: a5 :: a6 :: a7 :: a8 :: a9 :: a10 :: a11 :: a12 :: a13 :: a14 :: some v :: r) 15 = some v := gD_of gV_15 d
theorem gM_15 {a0 a1 a2 a3 a4 a5 a6 a7 a8 a9 a10 a11 a12 a13 a14 : Option Val} {xs : List Val} {r : Env} : getM (a0 :: a1 :: a2 :: a3 :: a4 :: a5 :: a6 :: a7 :: a8 :: a9 :: a10 :: a11 :: a12 :: a13 :: a14 :: some (.mls xs) :: r) 15 = some (.mls xs, xs) := gM_of gV_15
theorem eS_15 {a0 a1 a2 a3 a4 a5 a6 a7 a8 a9 a10 a11 a12 a13 a14 : Option Val} {o q : Option Val} {r : Env} : List.set (a0 :: a1 :: a2 :: a3 :: a4 :: a5 :: a6 :: a7 :: a8 :: a9 :: a10 :: a11 :: a12 :: a13 :: a14 :: o :: r) 15 q = a0 :: a1 :: a2 :: a3 :: a4 :: a5 :: a6 :: a7 :: a8 :: a9 :: a10 :: a11 :: a12 :: a13 :: a14 :: q :: r := thru rfl
theorem pD_15 {a0 a1 a2 a3 a4 a5 a6 a7 a8 a9 a10 a11 a12 a13 a14 : Option Val} {o : Option Val} {v : Val} {r : Env} : putD 15 v (a0 :: a1 :: a2 :: a3 :: a4 :: a5 :: a6 :: a7 :: a8 :: a9 :: a10 :: a11 :: a12 :: a13 :: a14 :: o :: r) = .nx (a0 :: a1 :: a2 :: a3 :: a4 :: a5 :: a6 :: a7 :: a8 :: a9 :: a10 :: a11 :: a12 :: a13 :: a14 :: some v :: r) := (putD_ok (by simp)).trans (by rw [eS_15])
theorem aN_15 {a0 a1 a2 a3 a4 a5 a6 a7 a8 a9 a10 a11 a12 a13 a14 : Option Val} {o : Option Val} {v : Val} {r : Env} : asg (.name 15) v (a0 :: a1 :: a2 :: a3 :: a4 :: a5 :: a6 :: a7 :: a8 :: a9 :: a10 :: a11 :: a12 :: a13 :: a14 :: o :: r) = some (a0 :: a1 :: a2 :: a3 :: a4 :: a5 :: a6 :: a7 :: a8 :: a9 :: a10 :: a11 :: a12 :: a13 :: a14 :: some v :: r) := (asg_name (by simp)).trans (by rw [eS_15])
theorem gV_16 {a0 a1 a2 a3 a4 a5 a6 a7 a8 a9 a10 a11 a12 a13 a14 a15 : Option Val} {o : Option Val} {r : Env} : getV (a0 :: a1 :: a2 :: a3 :: a4 :: a5 :: a6 :: a7 :: a8 :: a9 :: a10 :: a11 :: a12 :: a13 :: a14 :: a15 :: o :: r) 16 = o := by cases o <;> rfl
theorem gD_16 {a0 a1 a2 a3 a4 a5 a6 a7 a8 a9 a10 a11 a12 a13 a14 a15 : Option Val} {v : Val} {r : Env} (d : isData v = true) : EV.getD (a0 :: a1 :: a2 :: a3 :: a4 :: a5 :: a6 :: a7 :: a8 :: a9 :: a10 :: a11 :: a12 :: a13 :: a14 :: a15 :: some v :: r) 16 = some v := gD_of gV_16 d
theorem gM_16 {a0 a1 a2 a3 a4 a5 a6 a7 a8 a9 a10 a11 a12 a13 a14 a15 : Option Val} {xs : List Val} {r : Env} : getM (a0 :: a1 :: a2 :: a3 :: a4 :: a5 :: a6 :: a7 :: a8 :: a9 :: a10 :: a11 :: a12 :: a13 :: a14 :: a15 :: some (.mls xs) :: r) 16 = some (.mls xs, xs) := gM_of gV_16
theorem eS_16 {a0 a1 a2 a3 a4 a5 a6 a7 a8 a9 a10 a11 a12 a13 a14 a15 : Option Val} {o q : Option Val} {r : Env} : List.set (a0 :: a1 :: a2 :: a3 :: a4 :: a5 :: a6 :: a7 :: a8 :: a9 :: a10 :: a11 :: a12 :: a13 :: a14 :: a15 :: o :: r) 16 q = a0 :: a1 :: a2 :: a3 :: a4 :: a5 :: a6 :: a7 :: a8 :: a9 :: a10 :: a11 :: a12 :: a13 :: a14 :: a15 :: q :: r := thru rfl
theorem pD_16 {a0 a1 a2 a3 a4 a5 a6 a7 a8 a9 a10 a11 a12 a13 a14 a15 : Option Val} {o : Option Val} {v : Val} {r : Env} : putD 16 v (a0 :: a1 :: a2 :: a3 :: a4 :: a5 :: a6 :: a7 :: a8 :: a9 :: a10 :: a11 :: a12 :: a13 :: a14 :: a15 :: o :: r) = .nx (a0 :: a1 :: a2 :: a3 :: a4 :: a5 :: a6 :: a7 :: a8 :: a9 :: a10 :: a11 :: a12 :: a13 :: a14 :: a15 :: some v :: r) := (putD_ok (by simp)).trans (by rw [eS_16])
theorem aN_16 {a0 a1 a2 a3 a4 a5 a6 a7 a8 a9 a10 a11 a12 a13 a14 a15 : Option Val} {o : Option Val} {v : Val} {r : Env} : asg (.name 16) v (a0 :: a1 :: a2 :: a3 :: a4 :: a5 :: a6 :: a7 :: a8 :: a9 :: a10 :: a11 :: a12 :: a13 :: a14 :: a15 :: o :: r) = some (a0 :: a1 :: a2 :: a3 :: a4 :: a5 :: a6 :: a7 :: a8 :: a9 :: a10 :: a11 :: a12 :: a13 :: a14 :: a15 :: some v :: r) := (asg_name (by simp)).trans (by rw [eS_16])
theorem gV_17 {a0 a1 a2 a3 a4 a5 a6 a7 a8 a9 a10 a11 a12 a13 a14 a15 a16 : Option Val} {o : Option Val} {r : Env} : getV (a0 :: a1 :: a2 :: a3 :: a4 :: a5 :: a6 :: a7 :: a8 :: a9 :: a10 :: a11 :: a12 :: a13 :: a14 :: a15 :: a16 :: o :: r) 17 = o := by cases o <;> rfl
theorem gD_17 {a0 a1 a2 a3 a4 a5 a6 a7 a8 a9 a10 a11 a12 a13 a14 a15 a16 : Option Val} {v : Val} {r : Env} (d : isData v = true) : EV.getD (a0 :: a1 :: a2 :: a3 :: a4 :: a5 :: a6 :: a7 :: a8 :: a9 :: a10 :: a11 :: a12 :: a13 :: a14 :: a15 :: a16 :: some v :: r) 17 = some v := gD_of gV_17 d
theorem gM_17 {a0 a1 a2 a3 a4 a5 a6 a7 a8 a9 a10 a11 a12 a13 a14 a15 a16 : Option Val} {xs : List Val} {r : Env} : getM (a0 :: a1 :: a2 :: a3 :: a4 :: a5 :: a6 :: a7 :: a8 :: a9 :: a10 :: a11 :: a12 :: a13 :: a14 :: a15 :: a16 :: some (.mls xs) :: r) 17 = some (.mls xs, xs) := gM_of gV_17
theorem eS_17 {a0 a1 a2 a3 a4 a5 a6 a7 a8 a9 a10 a11 a12 a13 a14 a15 a16 : Option Val} {o q : Option Val} {r : Env} : List.set (a0 :: a1 :: a2 :: a3 :: a4 :: a5 :: a6 :: a7 :: a8 :: a9 :: a10 :: a11 :: a12 :: a13 :: a14 :: a15 :: a16 :: o :: r) 17 q = a0 :: a1 :: a2 :: a3 :: a4 :: a5 :: a6 :: a7 :: a8 :: a9 :: a10 :: a11 :: a12 :: a13 :: a14 :: a15 :: a16 :: q :: r := thru rfl
theorem pD_17 {a0 a1 a2 a3 a4 a5 a6 a7 a8 a9 a10 a11 a12 a13 a14 a15 a16 : Option Val} {o : Option Val} {v : Val} {r : Env} : putD 17 v (a0 :: a1 :: a2 :: a3 :: a4 :: a5 :: a6 :: a7 :: a8 :: a9 :: a10 :: a11 :: a12 :: a13 :: a14 :: a15 :: a16 :: o :: r) = .nx (a0 :: a1 :: a2 :: a3 :: a4 :: a5 :: a6 :: a7 :: a8 :: a9 :: a10 :: a11 :: a12 :: a13 :: a14 :: a15 :: a16 :: some v :: r) := (putD_ok (by simp)).trans (by rw [eS_17])
theorem aN_17 {a0 a1 a2 a3 a4 a5 a6 a7 a8 a9 a10 a11 a12 a13 a14 a15 a16 : Option Val} {o : Option Val} {v : Val} {r : Env} : asg (.name 17) v (a0 :: a1 :: a2 :: a3 :: a4 :: a5 :: a6 :: a7 :: a8 :: a9 :: a10 :: a11 :: a12 :: a13 :: a14 :: a15 :: a16 :: o :: r) = some (a0 :: a1 :: a2 :: a3 :: a4 :: a5 :: a6 :: a7 :: a8 :: a9 :: a10 :: a11 :: a12 :: a13 :: a14 :: a15 :: a16 :: some v :: r) := (asg_name (by simp)).trans (by rw [eS_17])
theorem gV_18 {a0 a1 a2 a3 a4 a5 a6 a7 a8 a9 a10 a11 a12 a13 a14 a15 a16 a17 : Option Val} {o : Option Val} {r : Env} : getV (a0 :: a1 :: a2 :: a3 :: a4 :: a5 :: a6 :: a7 :: a8 :: a9 :: a10 :: a11 :: a12 :: a13 :: a14 :: a15 :: a16 :: a17 :: o :: r) 18 = o := by cases o <;> rfl
theorem gD_18 {a0 a1 a2 a3 a4 a5 a6 a7 a8 a9 a10 a11 a12 a13 a14 a15 a16 a17 : Option Val} {v : Val} {r : Env} (d : isData v = true) : EV.getD (a0 :: a1 :: a2 :: a3 :: a4 :: a5 :: a6 :: a7 :: a8 :: a9 :: a10 :: a11 :: a12 :: a13 :: a14 :: a15 :: a16 :: a17 :: some v :: r) 18 = some v := gD_of gV_18 d
theorem gM_18 {a0 a1 a2 a3 a4 a5 a6 a7 a8 a9 a10 a11 a12 a13 a14 a15 a16 a17 : Option Val} {xs : List Val} {r : Env} : getM (a0 :: a1 :: a2 :: a3 :: a4 :: a5 :: a6 :: a7 :: a8 :: a9 :: a10 :: a11 :: a12 :: a13 :: a14 :: a15 :: a16 :: a17 :: some (.mls xs) :: r) 18 = some (.mls xs, xs) := gM_of gV_18
theorem eS_18 {a0 a1 a2 a3 a4 a5 a6 a7 a8 a9 a10 a11 a12 a13 a14 a15 a16 a17 : Option Val} {o q : Option Val} {r : Env} : List.set (a0 :: a1 :: a2 :: a3 :: a4 :: a5 :: a6 :: a7 :: a8 :: a9 :: a10 :: a11 :: a12 :: a13 :: a14 :: a15 :: a16 :: a17 :: o :: r) 18 q = a0 :: a1 :: a2 :: a3 :: a4 :: a5 :: a6 :: a7 :: a8 :: a9 :: a10 :: a11 :: a12 :: a13 :: a14 :: a15 :: a16 :: a17 :: q :: r := thru rfl
theorem pD_18 {a0 a1 a2 a3 a4 a5 a6 a7 a8 a9 a10 a11 a12 a13 a14 a15 a16 a17 : Option Val} {o : Option Val} {v : Val} {r : Env} : putD 18 v (a0 :: a1 :: a2 :: a3 :: a4 :: a5 :: a6 :: a7 :: a8 :: a9 :: a10 :: a11 :: a12 :: a13 :: a14 :: a15 :: a16 :: a17 :: o :: r) = .nx (a0 :: a1 :: a2 :: a3 :: a4 :: a5 :: a6 :: a7 :: a8 :: a9 :: a10 :: a11 :: a12 :: a13 :: a14 :: a15 :: a16 :: a17 :: some v :: r) := (putD_ok (by simp)).trans (by rw [eS_18])
theorem aN_18 {a0 a1 a2 a3 a4 a5 a6 a7 a8 a9 a10 a11 a12 a13 a14 a15 a16 a17 : Option Val} {o : Option Val} {v : Val} {r : Env} : asg (.name 18) v (a0 :: a1 :: a2 :: a3 :: a4 :: a5 :: a6 :: a7 :: a8 :: a9 :: a10 :: a11 :: a12 :: a13 :: a14 :: a15 :: a16 :: a17 :: o :: r) = some (a0 :: a1 :: a2 :: a3 :: a4 :: a5 :: a6 :: a7 :: a8 :: a9 :: a10 :: a11 :: a12 :: a13 :: a14 :: a15 :: a16 :: a17 :: some v :: r) := (asg_name (by simp)).trans (by rw [eS_18])
theorem gV_19 {a0 a1 a2 a3 a4 a5 a6 a7 a8 a9 a10 a11 a12 a13 a14 a15 a16 a17 a18 : Option Val} {o : Option Val} {r : Env} : getV (a0 :: a1 :: a2 :: a3 :: a4 :: a5 :: a6 :: a7 :: a8 :: a9 :: a10 :: a11 :: a12 :: a13 :: a14 :: a15 :: a16 :: a17 :: a18 :: o :: r) 19 = o := by cases o <;> rfl
theorem gD_19 {a0 a1 a2 a3 a4 a5 a6 a7 a8 a9 a10 a11 a12 a13 a14 a15 a16 a17 a18 : Option Val} {v : Val} {r : Env} (d : isData v = true) : EV.getD (a0 :: a1 :: a2 :: a3 :: a4 :: a5 :: a6 :: a7 :: a8 :: a9 :: a10 :: a11 :: a12 :: a13 :: a14 :: a15 :: a16 :: a17 :: a18 :: some v :: r) 19 = some v := gD_of gV_19 d
theorem gM_19 {a0 a1 a2 a3 a4 a5 a6 a7 a8 a9 a10 a11 a12 a13 a14 a15 a16 a17 a18 : Option Val} {xs : List Val} {r : Env} : getM (a0 :: a1 :: a2 :: a3 :: a4 :: a5 :: a6 :: a7 :: a8 :: a9 :: a10 :: a11 :: a12 :: a13 :: a14 :: a15 :: a16 :: a17 :: a18 :: some (.mls xs) :: r) 19 = some (.mls xs, xs) := gM_of gV_19
theorem eS_19 {a0 a1 a2 a3 a4 a5 a6 a7 a8 a9 a10 a11 a12 a13 a14 a15 a16 a17 a18 : Option Val} {o q : Option Val} {r : Env} : List.set (a0 :: a1 :: a2 :: a3 :: a4 :: a5 :: a6 :: a7 :: a8 :: a9 :: a10 :: a11 :: a12 :: a13 :: a14 :: a15 :: a16 :: a17 :: a18 :: o :: r) 19 q = a0 :: a1 :: a2 :: a3 :: a4 :: a5 :: a6 :: a7 :: a8 :: a9 :: a10 :: a11 :: a12 :: a13 :: a14 :: a15 :: a16 :: a17 :: a18 :: q :: r := thru rfl
theorem pD_19 {a0 a1 a2 a3 a4 a5 a6 a7 a8 a9 a10 a11 a12 a13 a14 a15 a16 a17 a18 : Option Val} {o : Option Val} {v : Val} {r : Env} : putD 19 v (a0 :: a1 :: a2 :: a3 :: a4 :: a5 :: a6 :: a7 :: a8 :: a9 :: a10 :: a11 :: a12 :: a13 :: a14 :: a15 :: a16 :: a17 :: a18 :: o :: r) = .nx (a0 :: a1 :: a2 :: a3 :: a4 :: a5 :: a6 :: a7 :: a8 :: a9 :: a10 :: a11 :: a12 :: a13 :: a14 :: a15 :: a16 :: a17 :: a18 :: some v :: r) := (putD_ok (by simp)).trans (by rw [eS_19])
theorem aN_19 {a0 a1 a2 a3 a4 a5 a6 a7 a8 a9 a10 a11 a12 a13 a14 a15 a16 a17 a18 : Option Val} {o : Option Val} {v : Val} {r : Env} : asg (.name 19) v (a0 :: a1 :: a2 :: a3 :: a4 :: a5 :: a6 :: a7 :: a8 :: a9 :: a10 :: a11 :: a12 :: a13 :: a14 :: a15 :: a16 :: a17 :: a18 :: o :: r) = some (a0 :: a1 :: a2 :: a3 :: a4 :: a5 :: a6 :: a7 :: a8 :: a9 :: a10 :: a11 :: a12 :: a13 :: a14 :: a15 :: a16 :: a17 :: a18 :: some v :: r) := (asg_name (by simp)).trans (by rw [eS_19])
theorem gV_20 {a0 a1 a2 a3 a4 a5 a6 a7 a8 a9 a10 a11 a12 a13 a14 a15 a16 a17 a18 a19 : Option Val} {o : Option Val} {r : Env} : getV (a0 :: a1 :: a2 :: a3 :: a4 :: a5 :: a6 :: a7 :: a8 :: a9 :: a10 :: a11 :: a12 :: a13 :: a14 :: a15 :: a16 :: a17 :: a18 :: a19 :: o :: r) 20 = o := by cases o <;> rfl
theorem gD_20 {a0 a1 a2 a3 a4 a5 a6 a7 a8 a9 a10 a11 a12 a13 a14 a15 a16 a17 a18 a19 : Option Val} {v : Val} {r : Env} (d : isData v = true) : EV.getD (a0 :: a1 :: a2 :: a3 :: a4 :: a5 :: a6 :: a7 :: a8 :: a9 :: a10 :: a11 :: a12 :: a13 :: a14 :: a15 :: a16 :: a17 :: a18 :: a19 :: some v :: r) 20 = some v := gD_of gV_20 d
theorem gM_20 {a0 a1 a2 a3 a4 a5 a6 a7 a8 a9 a10 a11 a12 a13 a14 a15 a16 a17 a18 a19 : Option Val} {xs : List Val} {r : Env} : getM (a0 :: a1 :: a2 :: a3 :: a4 :: a5 :: a6 :: a7 :: a8 :: a9 :: a10 :: a11 :: a12 :: a13 :: a14 :: a15 :: a16 :: a17 :: a18 :: a19 :: some (.mls xs) :: r) 20 = some (.mls xs, xs) := gM_of gV_20
theorem eS_20 {a0 a1 a2 a3 a4 a5 a6 a7 a8 a9 a10 a11 a12 a13 a14 a15 a16 a17 a18 a19 : Option Val} {o q : Option Val} {r : Env} : List.set (a0 :: a1 :: a2 :: a3 :: a4 :: a5 :: a6 :: a7 :: a8 :: a9 :: a10 :: a11 :: a12 :: a13 :: a14 :: a15 :: a16 :: a17 :: a18 :: a19 :: o :: r) 20 q = a0 :: a1 :: a2 :: a3 :: a4 :: a5 :: a6 :: a7 :: a8 :: a9 :: a10 :: a11 :: a12 :: a13 :: a14 :: a15 :: a16 :: a17 :: a18 :: a19 :: q :: r := thru rfl
theorem pD_20 {a0 a1 a2 a3 a4 a5 a6 a7 a8 a9 a10 a11 a12 a13 a14 a15 a16 a17 a18 a19 : Option Val} {o : Option Val} {v : Val} {r : Env} : putD 20 v (a0 :: a1 :: a2 :: a3 :: a4 :: a5 :: a6 :: a7 :: a8 :: a9 :: a10 :: a11 :: a12 :: a13 :: a14 :: a15 :: a16 :: a17 :: a18 :: a19 :: o :: r) = .nx (a0 :: a1 :: a2 :: a3 :: a4 :: a5 :: a6 :: a7 :: a8 :: a9 :: a10 :: a11 :: a12 :: a13 :: a14 :: a15 :: a16 :: a17 :: a18 :: a19 :: some v :: r) := (putD_ok (by simp)).trans (by rw [eS_20])
theorem aN_20 {a0 a1 a2 a3 a4 a5 a6 a7 a8 a9 a10 a11 a12 a13 a14 a15 a16 a17 a18 a19 : Option Val} {o : Option Val} {v : Val} {r : Env} : asg (.name 20) v (a0 :: a1 :: a2 :: a3 :: a4 :: a5 :: a6 :: a7 :: a8 :: a9 :: a10 :: a11 :: a12 :: a13 :: a14 :: a15 :: a16 :: a17 :: a18 :: a19 :: o :: r) = some (a0 :: a1 :: a2 :: a3 :: a4 :: a5 :: a6 :: a7 :: a8 :: a9 :: a10 :: a11 :: a12 :: a13 :: a14 :: a15 :: a16 :: a17 :: a18 :: a19 :: some v :: r) := (asg_name (by simp)).trans (by rw [eS_20])
theorem gV_21 {a0 a1 a2 a3 a4 a5 a6 a7 a8 a9 a10 a11 a12 a13 a14 a15 a16 a17 a18 a19 a20 : Option Val} {o : Option Val} {r : Env} : getV (a0 :: a1 :: a2 :: a3 :: a4 :: a5 :: a6 :: a7 :: a8 :: a9 :: a10 :: a11 :: a12 :: a13 :: a14 :: a15 :: a16 :: a17 :: a18 :: a19 :: a20 :: o :: r) 21 = o := by cases o <;> rfl
theorem gD_21 {a0 a1 a2 a3 a4 a5 a6 a7 a8 a9 a10 a11 a12 a13 a14 a15 a16 a17 a18 a19 a20 : Option Val} {v : Val} {r : Env} (d : isData v = true) : EV.getD (a0 :: a1 :: a2 :: a3 :: a4 :: a5 :: a6 :: a7 :: a8 :: a9 :: a10 :: a11 :: a12 :: a13 :: a14 :: a15 :: a16 :: a17 :: a18 :: a19 :: a20 :: some v :: r) 21 = some v := gD_of gV_21 d
theorem gM_21 {a0 a1 a2 a3 a4 a5 a6 a7 a8 a9 a10 a11 a12 a13 a14 a15 a16 a17 a18 a19 a20 : Option Val} {xs : List Val} {r : Env} : getM (a0 :: a1 :: a2 :: a3 :: a4 :: a5 :: a6 :: a7 :: a8 :: a9 :: a10 :: a11 :: a12 :: a13 :: a14 :: a15 :: a16 :: a17 :: a18 :: a19 :: a20 :: some (.mls xs) :: r) 21 = some (.mls xs, xs) := gM_of gV_21
theorem eS_21 {a0 a1 a2 a3 a4 a5 a6 a7 a8 a9 a10 a11 a12 a13 a14 a15 a16 a17 a18 a19 a20 : Option Val} {o q : Option Val} {r : Env} : List.set (a0 :: a1 :: a2 :: a3 :: a4 :: a5 :: a6 :: a7 :: a8 :: a9 :: a10 :: a11 :: a12 :: a13 :: a14 :: a15 :: a16 :: a17 :: a18 :: a19 :: a20 :: o :: r) 21 q = a0 :: a1 :: a2 :: a3 :: a4 :: a5 :: a6 :: a7 :: a8 :: a9 :: a10 :: a11 :: a12 :: a13 :: a14 :: a15 :: a16 :: a17 :: a18 :: a19 :: a20 :: q :: r := thru rfl
theorem pD_21 {a0 a1 a2 a3 a4 a5 a6 a7 a8 a9 a10 a11 a12 a13 a14 a15 a16 a17 a18 a19 a20 : Option Val} {o : Option Val} {v : Val} {r : Env} : putD 21 v (a0 :: a1 :: a2 :: a3 :: a4 :: a5 :: a6 :: a7 :: a8 :: a9 :: a10 :: a11 :: a12 :: a13 :: a14 :: a15 :: a16 :: a17 :: a18 :: a19 :: a20 :: o :: r) = .nx (a0 :: a1 :: a2 :: a3 :: a4 :: a5 :: a6 :: a7 :: a8 :: a9 :: a10 :: a11 :: a12 :: a13 :: a14 :: a15 :: a16 :: a17 :: a18 :: a19 :: a20 :: some v :: r) := (putD_ok (by simp)).trans (by rw [eS_21])
theorem aN_21 {a0 a1 a2 a3 a4 a5 a6 a7 a8 a9 a10 a11 a12 a13 a14 a15 a16 a17 a18 a19 a20 : Option Val} {o : Option Val} {v : Val} {r : Env} : asg (.name 21) v (a0 :: a1 :: a2 :: a3 :: a4 :: a5 :: a6 :: a7 :: a8 :: a9 :: a10 :: a11 :: a12 :: a13 :: a14 :: a15 :: a16 :: a17 :: a18 :: a19 :: a20 :: o :: r) = some (a0 :: a1 :: a2 :: a3 :: a4 :: a5 :: a6 :: a7 :: a8 :: a9 :: a10 :: a11 :: a12 :: a13 :: a14 :: a15 :: a16 :: a17 :: a18 :: a19 :: a20 :: some v :: r) := (asg_name (by simp)).trans (by rw [eS_21])
theorem gV_22 {a0 a1 a2 a3 a4 a5 a6 a7 a8 a9 a10 a11 a12 a13 a14 a15 a16 a17 a18 a19 a20 a21 : Option Val} {o : Option Val} {r : Env} : getV (a0 :: a1 :: a2 :: a3 :: a4 :: a5 :: a6 :: a7 :: a8 :: a9 :: a10 :: a11 :: a12 :: a13 :: a14 :: a15 :: a16 :: a17 :: a18 :: a19 :: a20 :: a21 :: o :: r) 22 = o := by cases o <;> rfl
theorem gD_22 {a0 a1 a2 a3 a4 a5 a6 a7 a8 a9 a10 a11 a12 a13 a14 a15 a16 a17 a18 a19 a20 a21 : Option Val} {v : Val} {r : Env} (d : isData v = true) : EV.getD (a0 :: a1 :: a2 :: a3 :: a4 :: a5 :: a6 :: a7 :: a8 :: a9 :: a10 :: a11 :: a12 :: a13 :: a14 :: a15 :: a16 :: a17 :: a18 :: a19 :: a20 :: a21 :: some v :: r) 22 = some v := gD_of gV_22 d
theorem gM_22 {a0 a1 a2 a3 a4 a5 a6 a7 a8 a9 a10 a11 a12 a13 a14 a15 a16 a17 a18 a19 a20 a21 : Option Val} {xs : List Val} {r : Env} : getM (a0 :: a1 :: a2 :: a3 :: a4 :: a5 :: a6 :: a7 :: a8 :: a9 :: a10 :: a11 :: a12 :: a13 :: a14 :: a15 :: a16 :: a17 :: a18 :: a19 :: a20 :: a21 :: some (.mls xs) :: r) 22 = some (.mls xs, xs) := gM_of gV_22
theorem eS_22 {a0 a1 a2 a3 a4 a5 a6 a7 a8 a9 a10 a11 a12 a13 a14 a15 a16 a17 a18 a19 a20 a21 : Option Val} {o q : Option Val} {r : Env} : List.set (a0 :: a1 :: a2 :: a3 :: a4 :: a5 :: a6 :: a7 :: a8 :: a9 :: a10 :: a11 :: a12 :: a13 :: a14 :: a15 :: a16 :: a17 :: a18 :: a19 :: a20 :: a21 :: o :: r) 22 q = a0 :: a1 :: a2 :: a3 :: a4 :: a5 :: a6 :: a7 :: a8 :: a9 :: a10 :: a11 :: a12 :: a13 :: a14 :: a15 :: a16 :: a17 :: a18 :: a19 :: a20 :: a21 :: q :: r := thru rfl
theorem pD_22 {a0 a1 a2 a3 a4 a5 a6 a7 a8 a9 a10 a11 a12 a13 a14 a15 a16 a17 a18 a19 a20 a21 : Option Val} {o : Option Val} {v : Val} {r : Env} : putD 22 v (a0 :: a1 :: a2 :: a3 :: a4 :: a5 :: a6 :: a7 :: a8 :: a9 :: a10 :: a11 :: a12 :: a13 :: a14 :: a15 :: a16 :: a17 :: a18 :: a19 :: a20 :: a21 :: o :: r) = .nx (a0 :: a1 :: a2 :: a3 :: a4 :: a5 :: a6 :: a7 :: a8 :: a9 :: a10 :: a11 :: a12 :: a13 :: a14 :: a15 :: a16 :: a17 :: a18 :: a19 :: a20 :: a21 :: some v :: r) := (putD_ok (by simp)).trans (by rw [eS_22])
theorem aN_22 {a0 a1 a2 a3 a4 a5 a6 a7 a8 a9 a10 a11 a12 a13 a14 a15 a16 a17 a18 a19 a20 a21 : Option Val} {o : Option Val} {v : Val} {r : Env} : asg (.name 22) v (a0 :: a1 :: a2 :: a3 :: a4 :: a5 :: a6 :: a7 :: a8 :: a9 :: a10 :: a11 :: a12 :: a13 :: a14 :: a15 :: a16 :: a17 :: a18 :: a19 :: a20 :: a21 :: o :: r) = some (a0 :: a1 :: a2 :: a3 :: a4 :: a5 :: a6 :: a7 :: a8 :: a9 :: a10 :: a11 :: a12 :: a13 :: a14 :: a15 :: a16 :: a17 :: a18 :: a19 :: a20 :: a21 :: some v :: r) := (asg_name (by simp)).trans (by rw [eS_22])
theorem gV_23 {a0 a1 a2 a3 a4 a5 a6 a7 a8 a9 a10 a11 a12 a13 a14 a15 a16 a17 a18 a19 a20 a21 a22 : Option Val} {o : Option Val} {r : Env} : getV (a0 :: a1 :: a2 :: a3 :: a4 :: a5 :: a6 :: a7 :: a8 :: a9 :: a10 :: a11 :: a12 :: a13 :: a14 :: a15 :: a16 :: a17 :: a18 :: a19 :: a20 :: a21 :: a22 :: o :: r) 23 = o := by cases o <;> rfl
theorem gD_23 {a0 a1 a2 a3 a4 a5 a6 a7 a8 a9 a10 a11 a12 a13 a14 a15 a16 a17 a18 a19 a20 a21 a22 : Option Val} {v : Val} {r : Env} (d : isData v = true) : EV.getD (a0 :: a1 :: a2 :: a3 :: a4 :: a5 :: a6 :: a7 :: a8 :: a9 :: a10 :: a11 :: a12 :: a13 :: a14 :: a15 :: a16 :: a17 :: a18 :: a19 :: a20 :: a21 :: a22 :: some v :: r) 23 = some v := gD_of gV_23 d
theorem gM_23 {a0 a1 a2 a3 a4 a5 a6 a7 a8 a9 a10 a11 a12 a13 a14 a15 a16 a17 a18 a19 a20 a21 a22 : Option Val} {xs : List Val} {r : Env} : getM (a0 :: a1 :: a2 :: a3 :: a4 :: a5 :: a6 :: a7 :: a8 :: a9 :: a10 :: a11 :: a12 :: a13 :: a14 :: a15 :: a16 :: a17 :: a18 :: a19 :: a20 :: a21 :: a22 :: some (.mls xs) :: r) 23 = some (.mls xs, xs) := gM_of gV_23
theorem eS_23 {a0 a1 a2 a3 a4 a5 a6 a7 a8 a9 a10 a11 a12 a13 a14 a15 a16 a17 a18 a19 a20 a21 a22 : Option Val} {o q : Option Val} {r : Env} : List.set (a0 :: a1 :: a2 :: a3 :: a4 :: a5 :: a6 :: a7 :: a8 :: a9 :: a10 :: a11 :: a12 :: a13 :: a14 :: a15 :: a16 :: a17 :: a18 :: a19 :: a20 :: a21 :: a22 :: o :: r) 23 q = a0 :: a1 :: a2 :: a3 :: a4 :: a5 :: a6 :: a7 :: a8 :: a9 :: a10 :: a11 :: a12 :: a13 :: a14 :: a15 :: a16 :: a17 :: a18 :: a19 :: a20 :: a21 :: a22 :: q :: r := thru rfl
theorem pD_23 {a0 a1 a2 a3 a4 a5 a6 a7 a8 a9 a10 a11 a12 a13 a14 a15 a16 a17 a18 a19 a20 a21 a22 : Option Val} {o : Option Val} {v : Val} {r : Env} : putD 23 v (a0 :: a1 :: a2 :: a3 :: a4 :: a5 :: a6 :: a7 :: a8 :: a9 :: a10 :: a11 :: a12 :: a13 :: a14 :: a15 :: a16 :: a17 :: a18 :: a19 :: a20 :: a21 :: a22 :: o :: r) = .nx (a0 :: a1 :: a2 :: a3 :: a4 :: a5 :: a6 :: a7 :: a8 :: a9 :: a10 :: a11 :: a12 :: a13 :: a14 :: a15 :: a16 :: a17 :: a18 :: a19 :: a20 :: a21 :: a22 :: some v :: r) := (putD_ok (by simp)).trans (by rw [eS_23])
theorem aN_23 {a0 a1 a2 a3 a4 a5 a6 a7 a8 a9 a10 a11 a12 a13 a14 a15 a16 a17 a18 a19 a20 a21 a22 : Option Val} {o : Option Val} {v : Val} {r : Env} : asg (.name 23) v (a0 :: a1 :: a2 :: a3 :: a4 :: a5 :: a6 :: a7 :: a8 :: a9 :: a10 :: a11 :: a12 :: a13 :: a14 :: a15 :: a16 :: a17 :: a18 :: a19 :: a20 :: a21 :: a22 :: o :: r) = some (a0 :: a1 :: a2 :: a3 :: a4 :: a5 :: a6 :: a7 :: a8 :: a9 :: a10 :: a11 :: a12 :: a13 :: a14 :: a15 :: a16 :: a17 :: a18 :: a19 :: a20 :: a21 :: a22 :: some v :: r) := (asg_name (by simp)).trans (by rw [eS_23])
theorem pA_nil : putAllD [] [] env = .nx env := thru rfl
theorem pA_cons {i : Nat} {is : List Nat} {v : Val} {vs : List Val} : putAllD (i :: is) (v :: vs) env = (putD i v env).then fun env => putAllD is vs env := thru rfl
theorem wipe_nil : wipeE env [] = env := thru rfl
theorem wipe_cons {v : Nat} {vs : List Nat} : wipeE env (v :: vs) = (wipeE env vs).set v none := thru rfl
theorem tv_name {i : Nat} : tvars (.name i) = [i] := thru rfl
theorem tv_tup {ts : List T} : tvars (.tup ts) = tvarsL ts := thru rfl
theorem tvL_nil : tvarsL [] = [] := thru rfl
theorem tvL_cons {t : T} {ts : List T} : tvarsL (t :: ts) = tvars t ++ tvarsL ts := thru rfl
theorem asg_tup {ts : List T} {xs : List Val} : asg (.tup ts) (.tup xs) env = asgs ts xs env := thru rfl
theorem asg_tupk {ts : List T} {xs : List Val} : asg (.tup ts) (.tupk xs) env = asgs ts xs env := thru rfl
theorem asgs_nil : asgs [] [] env = some env := thru rfl
theorem asgs_cons {t : T} {ts : List T} {x : Val} {xs : List Val} : asgs (t :: ts) (x :: xs) env = (asg t x env).bind (asgs ts xs) := by
  show (match asg t x env with | some env' => asgs ts xs env' | none => none) = _
  cases asg t x env <;> rfl
theorem ob_some {α β : Type} {a : α} {f : α → Option β} : (some a).bind f = f a := thru rfl
/-! comprehensions over any list -/
def lcG {α : Type} (turn : α → Ro (Option Val)) : List α → Ro (List Val)
  | [] => .ok []
  | x :: xs => match turn x with
    | .ok (some v) => (lcG turn xs).bind fun ys => .ok (v :: ys)
    | .ok none => lcG turn xs
    | _ => .no
theorem lcD_map {α : Type} {turn : Val → Ro (Option Val)} {g : α → Val} : ∀ (xs : List α), lcD turn (xs.map g) = lcG (fun a => turn (g a)) xs
  | [] => rfl
  | x :: xs => by
    show (match turn (g x) with | .ok (some v) => (lcD turn (xs.map g)).bind fun ys => .ok (v :: ys) | .ok none => lcD turn (xs.map g) | _ => .no) = _
    rw [lcD_map xs]; rfl
theorem lcG_fm {α : Type} {turn : α → Ro (Option Val)} {f : α → Option Val} : ∀ {xs : List α}, (∀ a ∈ xs, turn a = .ok (f a)) → lcG turn xs = .ok (xs.filterMap f)
  | [], _ => rfl
  | x :: xs, h => by
    have ih := lcG_fm (f := f) (xs := xs) fun a ha => h a (List.mem_cons_of_mem _ ha)
    simp only [lcG, h x List.mem_cons_self, ih]
    cases q : f x with
    | none => rw [List.filterMap_cons_none q]
    | some v => rw [List.filterMap_cons_some q]; rfl
theorem lcG_ok {α : Type} {turn : α → Ro (Option Val)} {f : α → Val} {xs : List α} (h : ∀ a ∈ xs, turn a = .ok (some (f a))) : lcG turn xs = .ok (xs.map f) := by
  rw [lcG_fm (f := fun a => some (f a)) h]
  congr 1
  exact List.filterMap_eq_map' (f := f) ▸ rfl
theorem lcG_if {α : Type} {turn : α → Ro (Option Val)} {p : α → Bool} {f : α → Val} : ∀ {xs : List α}, (∀ a ∈ xs, turn a = .ok (if p a then some (f a) else none)) → lcG turn xs = .ok ((xs.filter p).map f)
  | [], _ => rfl
  | x :: xs, h => by
    have ih := lcG_if (p := p) (f := f) (xs := xs) fun a ha => h a (List.mem_cons_of_mem _ ha)
    simp only [lcG, h x List.mem_cons_self, ih, List.filter_cons]
    cases q : p x <;> simp [Ro.bind]
/-- a loop whose turns are known -/
theorem forD_nil {b : Val → Env → Out} : forD b [] env = .nx env := thru rfl
theorem forD_cons {b : Val → Env → Out} {x : Val} {xs : List Val} : forD b (x :: xs) env = (b x env).loop fun env => forD b xs env := thru rfl
theorem forD_fold {α S : Type} {b : Val → Env → Out} {g : α → Val} {env : S → Env} {step : S → α → S} : ∀ {xs : List α} {s : S}, (∀ x ∈ xs, ∀ s, b (g x) (env s) = .nx (env (step s x))) → forD b (xs.map g) (env s) = .nx (env (xs.foldl step s))
  | [], s, _ => rfl
  | x :: xs, s, h => by
    rw [List.map_cons, forD_cons, h x List.mem_cons_self, Out.loop_nx]
    exact forD_fold fun y hy => h y (List.mem_cons_of_mem _ hy)
theorem forD_inv {α S : Type} {b : Val → Env → Out} {g : α → Val} {env : S → Env} {step : S → α → S} (J : S → Prop) : ∀ {xs : List α} {s : S}, J s → (∀ x ∈ xs, ∀ s, J s → b (g x) (env s) = .nx (env (step s x)) ∧ J (step s x)) → forD b (xs.map g) (env s) = .nx (env (xs.foldl step s)) ∧ J (xs.foldl step s)
  | [], s, j, _ => ⟨rfl, j⟩
  | x :: xs, s, j, h => by
    obtain ⟨e, j'⟩ := h x List.mem_cons_self s j
    rw [List.map_cons, forD_cons, e, Out.loop_nx]
    exact forD_inv J j' fun y hy => h y (List.mem_cons_of_mem _ hy)
theorem rgl_map {lo : Int} {n : Nat} : rgl lo n = (List.range n).map fun i => .int (lo + (i : Nat)) := thru rfl
/-! operators -/
theorem intsOf_ints : ∀ (ns : List Int), intsOf (ns.map Val.int) = some ns
  | [] => rfl
  | n :: r => by
    show (intsOf (r.map Val.int)).map (n :: ·) = _
    rw [intsOf_ints r]; rfl
theorem blsOf_bls : ∀ (ns : List Bool), blsOf (ns.map Val.bl) = some ns
  | [] => rfl
  | n :: r => by
    show (blsOf (r.map Val.bl)).map (n :: ·) = _
    rw [blsOf_bls r]; rfl
theorem rgOk_in {j : Int} (h1 : -1000000000 ≤ j) (h2 : j ≤ 1000000000) : rgOk j = true := by
  unfold rgOk
  rw [Bool.and_eq_true, decide_eq_true_eq, decide_eq_true_eq]
  have e : (2 ^ 62 : Int) = 4611686018427387904 := by decide
  rw [e]
  omega
theorem sz_in {n : Nat} (h : n ≤ 16000000) : n ≤ sizeLine := by
  have e : sizeLine = 16777216 := by decide
  omega
theorem sz_lt {n : Nat} (h : n < 16000000) : n < sizeLine := by
  have e : sizeLine = 16777216 := by decide
  omega
theorem enumL_map {α : Type} {g : α → Val} : ∀ (xs : List α) (i : Nat), enumL i (xs.map g) = (xs.zipIdx i).map fun p => .tupk [.int (p.2 : Nat), g p.1]
  | [], _ => rfl
  | x :: xs, i => by
    show Val.tupk [.int (i : Nat), g x] :: enumL (i + 1) (xs.map g) = _
    rw [enumL_map xs (i + 1)]; rfl

theorem bop_add {i j : Int} : bop .add (.int i) (.int j) = some (.int (i + j)) := thru rfl
theorem bop_sub {i j : Int} : bop .sub (.int i) (.int j) = some (.int (i - j)) := thru rfl
theorem bop_cat {xs ys : List Val} (h : xs.length + ys.length ≤ sizeLine) : bop .add (.lst xs) (.lst ys) = some (.lst (xs ++ ys)) := if_pos h
theorem bop_catT {xs ys : List Val} (h : xs.length + ys.length ≤ sizeLine) : bop .add (.tup xs) (.tup ys) = some (.tup (xs ++ ys)) := if_pos h
theorem szD_ok {xs : List Val} {r : Ro Val} (h : xs.length ≤ sizeLine) : szD xs r = r := if_pos h
theorem szD_0 {r : Ro Val} : szD [] r = r := szD_ok (sz_in (by simp))
theorem szD_1 {a0 : Val} {r : Ro Val} : szD [a0] r = r := szD_ok (sz_in (by simp))
theorem szD_2 {a0 a1 : Val} {r : Ro Val} : szD [a0, a1] r = r := szD_ok (sz_in (by simp))
theorem szD_3 {a0 a1 a2 : Val} {r : Ro Val} : szD [a0, a1, a2] r = r := szD_ok (sz_in (by simp))
theorem szD_4 {a0 a1 a2 a3 : Val} {r : Ro Val} : szD [a0, a1, a2, a3] r = r := szD_ok (sz_in (by simp))
theorem szD_5 {a0 a1 a2 a3 a4 : Val} {r : Ro Val} : szD [a0, a1, a2, a3, a4] r = r := szD_ok (sz_in (by simp))
theorem szD_6 {a0 a1 a2 a3 a4 a5 : Val} {r : Ro Val} : szD [a0, a1, a2, a3, a4, a5] r = r := szD_ok (sz_in (by simp))
theorem szD_7 {a0 a1 a2 a3 a4 a5 a6 : Val} {r : Ro Val} : szD [a0, a1, a2, a3, a4, a5, a6] r = r := szD_ok (sz_in (by simp))
theorem szD_8 {a0 a1 a2 a3 a4 a5 a6 a7 : Val} {r : Ro Val} : szD [a0, a1, a2, a3, a4, a5, a6, a7] r = r := szD_ok (sz_in (by simp))
theorem szD_9 {a0 a1 a2 a3 a4 a5 a6 a7 a8 : Val} {r : Ro Val} : szD [a0, a1, a2, a3, a4, a5, a6, a7, a8] r = r := szD_ok (sz_in (by simp))
theorem szD_10 {a0 a1 a2 a3 a4 a5 a6 a7 a8 a9 : Val} {r : Ro Val} : szD [a0, a1, a2, a3, a4, a5, a6, a7, a8, a9] r = r := szD_ok (sz_in (by simp))
theorem szD_11 {a0 a1 a2 a3 a4 a5 a6 a7 a8 a9 a10 : Val} {r : Ro Val} : szD [a0, a1, a2, a3, a4, a5, a6, a7, a8, a9, a10] r = r := szD_ok (sz_in (by simp))
theorem rngD_ok {j : Int} (h : rgOk j = true) : rngD (.int j) = .ok (rgl 0 j.toNat) := if_pos h
theorem seqD_lst {xs : List Val} : seqD (.lst xs) = .ok xs := thru rfl
theorem seqD_tup {xs : List Val} : seqD (.tup xs) = .ok xs := thru rfl
theorem enmD_lst {xs : List Val} : enmD (.lst xs) = .ok (enumL 0 xs) := thru rfl
theorem enmD_tup {xs : List Val} : enmD (.tup xs) = .ok (enumL 0 xs) := thru rfl
theorem optI_int {i : Int} : optI (.int i) = .ok (some i) := thru rfl
theorem notD_bl {b : Bool} : notD (.bl b) = .ok (.bl (!b)) := thru rfl
theorem negD_int {i : Int} : negD (.int i) = .ok (.int (-i)) := thru rfl
theorem ownD_lst {xs : List Val} : ownD (.lst xs) = .ok (.mls xs) := thru rfl
theorem cD_lt {i j : Int} : cmpD X Γ .lt (.int i) (.int j) = .ok (.bl (decide (i < j))) := thru rfl
theorem cD_le {i j : Int} : cmpD X Γ .le (.int i) (.int j) = .ok (.bl (decide (i ≤ j))) := thru rfl
theorem cD_gt {i j : Int} : cmpD X Γ .gt (.int i) (.int j) = .ok (.bl (decide (j < i))) := thru rfl
theorem cD_ge {i j : Int} : cmpD X Γ .ge (.int i) (.int j) = .ok (.bl (decide (j ≤ i))) := thru rfl
theorem cD_eqI {i j : Int} : cmpD X Γ .eq (.int i) (.int j) = .ok (.bl (i == j)) := thru rfl
theorem cD_neI {i j : Int} : cmpD X Γ .ne (.int i) (.int j) = .ok (.bl (!(i == j))) := thru rfl
theorem cD_eqS {i j : Str} : cmpD X Γ .eq (.str i) (.str j) = .ok (.bl (strEq i j)) := thru rfl
theorem cD_neS {i j : Str} : cmpD X Γ .ne (.str i) (.str j) = .ok (.bl (!strEq i j)) := thru rfl
theorem isi_non_int : isi .non .int = some false := thru rfl
theorem isi_non_bool : isi .non .bool = some false := thru rfl
theorem isi_non_str : isi .non .str = some false := thru rfl
theorem isi_non_tuple : isi .non .tuple = some false := thru rfl
theorem isi_non_list : isi .non .list = some false := thru rfl
theorem isi_bl_int {b : Bool} : isi (.bl b) .int = some true := thru rfl
theorem isi_bl_bool {b : Bool} : isi (.bl b) .bool = some true := thru rfl
theorem isi_bl_str {b : Bool} : isi (.bl b) .str = some false := thru rfl
theorem isi_bl_tuple {b : Bool} : isi (.bl b) .tuple = some false := thru rfl
theorem isi_bl_list {b : Bool} : isi (.bl b) .list = some false := thru rfl
theorem isi_int_int {b : Int} : isi (.int b) .int = some true := thru rfl
theorem isi_int_bool {b : Int} : isi (.int b) .bool = some false := thru rfl
theorem isi_int_str {b : Int} : isi (.int b) .str = some false := thru rfl
theorem isi_int_tuple {b : Int} : isi (.int b) .tuple = some false := thru rfl
theorem isi_int_list {b : Int} : isi (.int b) .list = some false := thru rfl
theorem isi_str_int {b : Str} : isi (.str b) .int = some false := thru rfl
theorem isi_str_bool {b : Str} : isi (.str b) .bool = some false := thru rfl
theorem isi_str_str {b : Str} : isi (.str b) .str = some true := thru rfl
theorem isi_str_tuple {b : Str} : isi (.str b) .tuple = some false := thru rfl
theorem isi_str_list {b : Str} : isi (.str b) .list = some false := thru rfl
theorem isi_tup_int {b : List Val} : isi (.tup b) .int = some false := thru rfl
theorem isi_tup_bool {b : List Val} : isi (.tup b) .bool = some false := thru rfl
theorem isi_tup_str {b : List Val} : isi (.tup b) .str = some false := thru rfl
theorem isi_tup_tuple {b : List Val} : isi (.tup b) .tuple = some true := thru rfl
theorem isi_tup_list {b : List Val} : isi (.tup b) .list = some false := thru rfl
theorem isi_lst_int {b : List Val} : isi (.lst b) .int = some false := thru rfl
theorem isi_lst_bool {b : List Val} : isi (.lst b) .bool = some false := thru rfl
theorem isi_lst_str {b : List Val} : isi (.lst b) .str = some false := thru rfl
theorem isi_lst_tuple {b : List Val} : isi (.lst b) .tuple = some false := thru rfl
theorem isi_lst_list {b : List Val} : isi (.lst b) .list = some true := thru rfl
theorem cop_lt {i j : Int} : cop .lt (.int i) (.int j) = some (decide (i < j)) := thru rfl
theorem cop_le {i j : Int} : cop .le (.int i) (.int j) = some (decide (i ≤ j)) := thru rfl
theorem cop_gt {i j : Int} : cop .gt (.int i) (.int j) = some (decide (j < i)) := thru rfl
theorem cop_ge {i j : Int} : cop .ge (.int i) (.int j) = some (decide (j ≤ i)) := thru rfl
theorem dS_never : ps X Γ .never env = .no := thru rfl
theorem blt_sumL {ns : List Int} : blt .sum [.lst (ns.map .int)] = some (.int ns.sum) := by
  show (match intsOf (ns.map .int) with | some ns => some (Val.int ns.sum) | none => none) = _
  rw [intsOf_ints]
theorem blt_sumT {ns : List Int} : blt .sum [.tup (ns.map .int)] = some (.int ns.sum) := by
  show (match intsOf (ns.map .int) with | some ns => some (Val.int ns.sum) | none => none) = _
  rw [intsOf_ints]
theorem blt_allL {bs : List Bool} : blt .all [.lst (bs.map .bl)] = some (.bl (bs.all id)) := by
  show (match blsOf (bs.map .bl) with | some bs => some (Val.bl (bs.all id)) | none => none) = _
  rw [blsOf_bls]
theorem blt_max2 {i j : Int} : blt .max2 [.int i, .int j] = some (.int (if j > i then j else i)) := thru rfl
theorem blt_min2 {i j : Int} : blt .min2 [.int i, .int j] = some (.int (if j < i then j else i)) := thru rfl
theorem blt_lenL {xs : List Val} : blt .len [.lst xs] = some (.int xs.length) := thru rfl
theorem blt_lenT {xs : List Val} : blt .len [.tup xs] = some (.int xs.length) := thru rfl
theorem blt_intI {i : Int} : blt .int [.int i] = some (.int i) := thru rfl
theorem blt_intB {b : Bool} : blt .int [.bl b] = some (.int (if b then 1 else 0)) := thru rfl
theorem blt_tupL {xs : List Val} : blt .tuple [.lst xs] = some (.tup xs) := thru rfl
theorem blt_lstT {xs : List Val} : blt .list [.tup xs] = some (.lst xs) := thru rfl
theorem blt_lstL {xs : List Val} : blt .list [.lst xs] = some (.lst xs) := thru rfl
theorem bop_mod {i j : Int} (h : 0 < j) : bop .mod (.int i) (.int j) = some (.int (i % j)) := if_pos h
theorem bop_fdv {i j : Int} (h : 0 < j ∧ j.natAbs.log2 < 9000) : bop .fdv (.int i) (.int j) = some (.int (i / j)) := if_pos h
theorem bop_mulL {i j : Int} (h : -(2 ^ 64) < i ∧ i < 2 ^ 64) : bop .mul (.int i) (.int j) = some (.int (i * j)) := mul_c h
theorem bop_mulR {i j : Int} (h : -(2 ^ 64) < j ∧ j < 2 ^ 64) : bop .mul (.int i) (.int j) = some (.int (i * j)) := mul_r h
theorem rng2D_ok {i j : Int} (h1 : rgOk i = true) (h2 : rgOk j = true) : rng2D (.int i) (.int j) = .ok (rgl i (j - i).toNat) := by
  show (if rgOk i && rgOk j then _ else _) = _
  rw [h1, h2]; rfl
theorem ifV_bl {b : Bool} {o p : Out} : ifV (.bl b) o p = if b then o else p := by cases b <;> rfl
theorem bl_bl {α : Type} {b : Bool} {o p : Ro α} : Ro.bl (.bl b) o p = if b then o else p := by cases b <;> rfl
/-- the end of a def's run -/
def finD (o : Out) : Ro Val := match o with
    | .nx _ => .ok .non
    | .rt _ v => match isData v with | true => .ok v | false => .no
    | .xc _ v => .ex v
    | _ => .no
theorem finD_nx : finD (.nx env) = .ok .non := thru rfl
theorem finD_xc {v : Val} : finD (.xc env v) = .ex v := thru rfl
theorem finD_rt {v : Val} (h : isData v = true) : finD (.rt env v) = .ok v := by unfold finD; dsimp only; rw [h]
theorem run_def {np nn : Nat} {body : Ss} {args : List Val} (hp : args.length = np) : runDefD X Γ ⟨np, nn, body⟩ args = finD (pss X Γ body (args.map some ++ List.replicate (nn - np) none)) := by
  unfold runDefD
  exact if_pos hp
theorem semD_body {F : Nat → Option Fn} {n f : Nat} {d : Def} {as : List Val} (h : F f = some (.body d)) : semD X F (n + 1) f as = runDefD X (semD X F n) d as := by
  show (match F f with | some (.body d) => _ | some (.init c d) => _ | _ => _) = _
  rw [h]
end
theorem sem_ok {X : Txt} {F : Nat → Option Fn} {n f : Nat} {as : List Val} {v : Val} (e : semD X F n f as = .ok v) (h : Hs) (k kx : KV) : sem X F n f as h k kx = k v h := by
  have r := semD_runs X F n f as h
  rw [e] at r
  exact r k kx
theorem sem_ex {X : Txt} {F : Nat → Option Fn} {n f : Nat} {as : List Val} {v : Val} (e : semD X F n f as = .ex v) (h : Hs) (k kx : KV) : sem X F n f as h k kx = kx v h := by
  have r := semD_runs X F n f as h
  rw [e] at r
  exact r k kx
end EV
namespace Pk
open PySem PySem.Spec PyProof.Rows L2 EV
/-- what stands under a number -/
def lk {α : Type} : List (Nat × α) → Nat → Option α
  | [], _ => none
  | (k, v) :: r, i => match Nat.beq k i with | true => some v | false => lk r i
/-- is_integer -/
def d0 : Def := ⟨1, 1, (.cons (.ret (.e (.andE (.isi (.var 0) .int) (.one (.notE (.isi (.var 0) .bool)))))) .nil)⟩
/-- is_between -/
def d1 : Def := ⟨3, 3, (.cons (.ret (.e (.andE (.call 0 (.cons (.var 0) .nil)) (.one (.chain .le .le (.var 1) (.var 0) (.var 2)))))) .nil)⟩
/-- check_kind -/
def d2 : Def := ⟨1, 1, (.cons (.ifS (.orE (.notE (.isi (.var 0) .str)) (.one (.cmp .nin (.var 0) (.kon 5)))) (.cons .never .nil) .nil) .nil)⟩
/-- check_places -/
def d3 : Def := ⟨1, 3, (.cons (.ifS (.orE (.notE (.isi (.var 0) .tuple)) (.one (.cmp .eq (.var 0) (.tup .nil)))) (.cons .never .nil) .nil) (.cons (.forS (.tup [(.name 1), (.name 2)]) (.enm (.var 0)) (.cons (.ifS (.orE (.cmp .eq (.var 1) (.kon 0)) (.orE (.notE (.call 1 (.cons (.var 2) (.cons (.int 0) (.cons (.bin .sub (.blt .len (.cons (.var 0) .nil)) (.int 1)) .nil))))) (.one (.cmp .inn (.var 2) (.slc (.var 0) .no (.some (.var 1))))))) (.cons .never .nil) .nil) .nil)) .nil))⟩
/-- ranks_of -/
def d4 : Def := ⟨1, 4, (.cons (.set (.name 1) (.own (.lc (.int 0) (.name 3) (.seq (.var 0)) .no))) (.cons (.forS (.tup [(.name 2), (.name 3)]) (.enm (.var 0)) (.cons (.setIx 1 (.var 3) (.var 2)) .nil)) (.frz 1 (.cons (.ret (.e (.var 1))) .nil))))⟩
/-- next_rank -/
def d5 : Def := ⟨3, 3, (.cons (.ifS (.cmp .lt (.bin .add (.var 1) (.int 1)) (.blt .len (.cons (.var 0) .nil))) (.cons (.ret (.e (.ix (.var 0) (.bin .add (.var 1) (.int 1))))) .nil) .nil) (.cons (.ret (.e (.sel ["first", "last", "ring"] (.cons (.neg (.int 1)) (.cons (.blt .len (.cons (.var 0) .nil)) (.cons (.ix (.var 0) (.int 0)) .nil))) (.var 2)))) .nil))⟩
/-- rises_of -/
def d6 : Def := ⟨2, 6, (.cons (.set (.name 2) (.e (.call 4 (.cons (.var 0) .nil)))) (.cons (.set (.name 3) (.e (.lc (.call 5 (.cons (.var 2) (.cons (.var 4) (.cons (.var 1) .nil)))) (.name 4) (.seq (.var 0)) .no))) (.cons (.ret (.e (.lc (.var 5) (.name 5) (.rng1 (.bin .sub (.blt .len (.cons (.var 0) .nil)) (.int 1))) (.some (.cmp .gt (.ix (.var 3) (.var 5)) (.ix (.var 3) (.bin .add (.var 5) (.int 1)))))))) .nil)))⟩
/-- is_letter -/
def d7 : Def := ⟨1, 1, (.cons (.ret (.e (.call 1 (.cons (.var 0) (.cons (.int 0) (.cons (.kon 1) .nil)))))) .nil)⟩
/-- check_text -/
def d8 : Def := ⟨1, 3, (.cons (.ifS (.orE (.notE (.isi (.var 0) .tuple)) (.one (.cmp .eq (.var 0) (.tup .nil)))) (.cons .never .nil) .nil) (.cons (.forS (.tup [(.name 1), (.name 2)]) (.enm (.var 0)) (.cons (.ifS (.orE (.cmp .eq (.var 1) (.kon 0)) (.one (.notE (.call 7 (.cons (.var 2) .nil))))) (.cons .never .nil) .nil) .nil)) .nil))⟩
/-- end_of -/
def d9 : Def := ⟨3, 3, (.cons (.ifS (.cmp .eq (.var 2) (.str "ring")) (.cons (.ret (.e (.bin .add (.slc (.var 0) (.some (.var 1)) .no) (.slc (.var 0) .no (.some (.var 1)))))) .nil) .nil) (.cons (.ret (.e (.ife (.cmp .eq (.var 2) (.str "last")) (.bin .add (.slc (.var 0) (.some (.var 1)) .no) (.tup (.cons (.kon 6) .nil))) (.slc (.var 0) (.some (.var 1)) .no)))) .nil))⟩
-- 10 sorted_places: keywords of sorted
/-- order_of -/
def d11 : Def := ⟨2, 2, (.cons (.expr (.e (.call 8 (.cons (.var 0) .nil)))) (.cons (.expr (.e (.call 2 (.cons (.var 1) .nil)))) (.cons (.ret (.e (.new 900 (.cons (.blt .tuple (.cons (.call 10 (.cons (.var 0) (.cons (.var 1) .nil))) .nil)) (.cons (.var 1) .nil))))) .nil)))⟩
/-- is_text -/
def d12 : Def := ⟨1, 2, (.cons (.ifS (.orE (.notE (.isi (.var 0) .tuple)) (.one (.notE (.chain .le .le (.int 1) (.blt .len (.cons (.var 0) .nil)) (.kon 0))))) (.cons (.ret (.e (.bl false))) .nil) .nil) (.cons (.ret (.e (.blt .all (.cons (.lc (.call 7 (.cons (.var 1) .nil)) (.name 1) (.seq (.var 0)) .no) .nil)))) .nil))⟩
/-- check_order -/
def d13 : Def := ⟨1, 1, (.cons (.ifS (.notE (.isiC (.var 0) 0)) (.cons .never .nil) .nil) .nil)⟩
/-- is_fitting -/
def d14 : Def := ⟨2, 3, (.cons (.forS (.name 2) (.rng2 (.int 1) (.blt .len (.cons (.var 1) .nil))) (.cons (.ifS (.orE (.cmp .lt (.ix (.var 1) (.var 2)) (.ix (.var 1) (.bin .sub (.var 2) (.int 1)))) (.one (.andE (.cmp .eq (.ix (.var 1) (.var 2)) (.ix (.var 1) (.bin .sub (.var 2) (.int 1)))) (.one (.cmp .inn (.bin .sub (.var 2) (.int 1)) (.attr (.var 0) 3)))))) (.cons (.ret (.e (.bl false))) .nil) .nil) .nil)) (.cons (.ret (.e (.bl true))) .nil))⟩
/-- along -/
def d15 : Def := ⟨2, 3, (.cons (.ret (.e (.lc (.ix (.var 1) (.var 2)) (.name 2) (.seq (.attr (.var 0) 0)) .no))) .nil)⟩
/-- put_along -/
def d16 : Def := ⟨2, 3, (.cons (.ret (.e (.blt .tuple (.cons (.lc (.ix (.var 1) (.var 2)) (.name 2) (.seq (.attr (.var 0) 2)) .no) .nil)))) .nil)⟩
/-- has_order -/
def d17 : Def := ⟨2, 2, (.cons (.expr (.e (.call 13 (.cons (.var 1) .nil)))) (.cons (.ret (.e (.andE (.call 12 (.cons (.var 0) .nil)) (.andE (.cmp .eq (.blt .len (.cons (.var 0) .nil)) (.blt .len (.cons (.attr (.var 1) 0) .nil))) (.one (.call 14 (.cons (.var 1) (.cons (.call 15 (.cons (.var 1) (.cons (.var 0) .nil))) .nil)))))))) .nil))⟩
/-- rises_before -/
def d18 : Def := ⟨1, 3, (.cons (.set (.name 1) (.own (.lst (.cons (.int 0) .nil)))) (.cons (.forS (.name 2) (.rng2 (.int 1) (.blt .len (.cons (.attr (.var 0) 0) .nil))) (.cons (.append 1 (.e (.bin .add (.ixo 1 (.neg (.int 1))) (.ife (.cmp .inn (.bin .sub (.var 2) (.int 1)) (.attr (.var 0) 3)) (.int 1) (.int 0))))) .nil)) (.frz 1 (.cons (.ret (.e (.var 1))) .nil))))⟩
/-- least_text -/
def d19 : Def := ⟨1, 1, (.cons (.expr (.e (.call 13 (.cons (.var 0) .nil)))) (.cons (.ret (.e (.call 16 (.cons (.var 0) (.cons (.call 18 (.cons (.var 0) .nil)) .nil))))) .nil))⟩
/-- column_of -/
def d20 : Def := ⟨2, 5, (.cons (.expr (.e (.call 8 (.cons (.var 0) .nil)))) (.cons (.expr (.e (.call 2 (.cons (.var 1) .nil)))) (.cons (.set (.name 2) (.e (.call 10 (.cons (.var 0) (.cons (.var 1) .nil))))) (.cons (.ifS (.cmp .eq (.var 1) (.str "ring")) (.cons (.ret (.e (.blt .tuple (.cons (.lc (.ix (.var 0) (.bin .sub (.var 4) (.int 1))) (.name 4) (.seq (.var 2)) .no) .nil)))) .nil) .nil) (.cons (.set (.name 3) (.e (.ife (.cmp .eq (.var 1) (.str "first")) (.stup true (.cons (.blt .len (.cons (.var 0) .nil)) .nil) (.var 2) .nil) (.stup true .nil (.var 2) (.cons (.blt .len (.cons (.var 0) .nil)) .nil))))) (.cons (.ret (.e (.blt .tuple (.cons (.lc (.ife (.cmp .gt (.var 4) (.int 0)) (.ix (.var 0) (.bin .sub (.var 4) (.int 1))) (.kon 7)) (.name 4) (.seq (.var 3)) .no) .nil)))) .nil))))))⟩
/-- check_column -/
def d21 : Def := ⟨1, 3, (.cons (.ifS (.orE (.notE (.isi (.var 0) .tuple)) (.one (.cmp .eq (.var 0) (.tup .nil)))) (.cons .never .nil) .nil) (.cons (.forS (.tup [(.name 1), (.name 2)]) (.enm (.var 0)) (.cons (.ifS (.orE (.cmp .gt (.var 1) (.kon 0)) (.one (.notE (.orE (.call 7 (.cons (.var 2) .nil)) (.one (.andE (.cmp .eq (.var 2) (.kon 7)) (.one (.notE (.isi (.var 2) .bool))))))))) (.cons .never .nil) .nil) .nil)) .nil))⟩
-- 22 steps_of: keywords of sorted
/-- ring_from -/
def d23 : Def := ⟨2, 3, (.cons (.set (.name 2) (.own (.lst (.cons (.var 1) .nil)))) (.cons (.whl 100000 (.cmp .ne (.ix (.var 0) (.ixo 2 (.neg (.int 1)))) (.var 1)) (.cons (.append 2 (.e (.ix (.var 0) (.ixo 2 (.neg (.int 1)))))) .nil)) (.frz 2 (.cons (.ret (.e (.var 2))) .nil))))⟩
/-- is_marked -/
def d24 : Def := ⟨2, 4, (.cons (.set (.name 2) (.e (.blt .len (.cons (.lc (.var 3) (.name 3) (.seq (.var 0)) (.some (.cmp .eq (.var 3) (.kon 7)))) .nil)))) (.cons (.ret (.e (.andE (.chain .le .le (.int 1) (.bin .sub (.blt .len (.cons (.var 0) .nil)) (.var 2)) (.kon 0)) (.one (.cmp .eq (.var 2) (.ife (.cmp .eq (.var 1) (.str "ring")) (.int 0) (.int 1))))))) .nil))⟩
/-- is_whole -/
def d25 : Def := ⟨2, 2, (.cons (.ret (.e (.andE (.call 24 (.cons (.var 0) (.cons (.var 1) .nil))) (.one (.cmp .eq (.blt .len (.cons (.call 23 (.cons (.call 22 (.cons (.var 0) (.cons (.var 1) .nil))) (.cons (.int 0) .nil))) .nil)) (.blt .len (.cons (.var 0) .nil))))))) .nil)⟩
/-- is_column -/
def d26 : Def := ⟨2, 2, (.cons (.expr (.e (.call 21 (.cons (.var 0) .nil)))) (.cons (.expr (.e (.call 2 (.cons (.var 1) .nil)))) (.cons (.ret (.e (.call 25 (.cons (.var 0) (.cons (.var 1) .nil))))) .nil)))⟩
-- 27 text_of: step
/-- short_ring -/
def d28 : Def := ⟨2, 3, (.cons (.expr (.e (.call 21 (.cons (.var 0) .nil)))) (.cons (.expr (.e (.call 2 (.cons (.var 1) .nil)))) (.cons (.set (.name 2) (.e (.call 23 (.cons (.call 22 (.cons (.var 0) (.cons (.var 1) .nil))) (.cons (.int 0) .nil))))) (.cons (.ret (.e (.ife (.cmp .lt (.blt .len (.cons (.var 2) .nil)) (.blt .len (.cons (.var 0) .nil))) (.blt .tuple (.cons (.blt .sorted (.cons (.var 2) .nil)) .nil)) .non))) .nil))))⟩
/-- check_place -/
def d29 : Def := ⟨2, 2, (.cons (.ifS (.notE (.call 1 (.cons (.var 0) (.cons (.int 0) (.cons (.bin .sub (.var 1) (.int 1)) .nil))))) (.cons .never .nil) .nil) .nil)⟩
/-- check_change -/
def d30 : Def := ⟨3, 3, (.cons (.expr (.e (.call 29 (.cons (.var 1) (.cons (.blt .len (.cons (.var 0) .nil)) .nil))))) (.cons (.ifS (.notE (.call 7 (.cons (.var 2) .nil))) (.cons .never .nil) .nil) .nil))⟩
/-- with_letter -/
def d31 : Def := ⟨3, 3, (.cons (.ret (.e (.bin .add (.bin .add (.slc (.var 0) .no (.some (.var 1))) (.tup (.cons (.var 2) .nil))) (.slc (.var 0) (.some (.bin .add (.var 1) (.int 1))) .no)))) .nil)⟩
/-- changed -/
def d32 : Def := ⟨3, 3, (.cons (.expr (.e (.call 8 (.cons (.var 0) .nil)))) (.cons (.expr (.e (.call 30 (.cons (.var 0) (.cons (.var 1) (.cons (.var 2) .nil)))))) (.cons (.ret (.e (.call 31 (.cons (.var 0) (.cons (.var 1) (.cons (.var 2) .nil)))))) .nil)))⟩
/-- moved -/
def d33 : Def := ⟨4, 7, (.cons (.expr (.e (.call 8 (.cons (.var 0) .nil)))) (.cons (.expr (.e (.call 2 (.cons (.var 1) .nil)))) (.cons (.expr (.e (.call 30 (.cons (.var 0) (.cons (.var 2) (.cons (.var 3) .nil)))))) (.cons (.set (.name 4) (.e (.call 4 (.cons (.call 10 (.cons (.var 0) (.cons (.var 1) .nil))) .nil)))) (.cons (.set (.name 5) (.e (.call 4 (.cons (.call 10 (.cons (.call 31 (.cons (.var 0) (.cons (.var 2) (.cons (.var 3) .nil)))) (.cons (.var 1) .nil))) .nil)))) (.cons (.ret (.e (.blt .tuple (.cons (.lc (.var 6) (.name 6) (.rng1 (.blt .len (.cons (.var 0) .nil))) (.some (.cmp .ne (.ix (.var 4) (.var 6)) (.ix (.var 5) (.var 6))))) .nil)))) .nil))))))⟩
/-- check_letters -/
def d34 : Def := ⟨1, 1, (.cons (.ifS (.notE (.call 1 (.cons (.var 0) (.cons (.int 1) (.cons (.kon 1) .nil))))) (.cons .never .nil) .nil) .nil)⟩
/-- choose -/
def d35 : Def := ⟨2, 4, (.cons (.set (.name 2) (.e (.int 1))) (.cons (.forS (.name 3) (.rng1 (.blt .min2 (.cons (.var 1) (.cons (.bin .sub (.var 0) (.var 1)) .nil)))) (.cons (.set (.name 2) (.e (.bin .fdv (.bin .mul (.var 2) (.bin .sub (.var 0) (.var 3))) (.bin .add (.var 3) (.int 1))))) .nil)) (.cons (.ret (.e (.ife (.chain .le .le (.int 0) (.var 1) (.var 0)) (.var 2) (.int 0)))) .nil)))⟩
/-- rows_over -/
def d36 : Def := ⟨2, 2, (.cons (.ifS (.cmp .eq (.var 0) (.int 0)) (.cons (.ret (.e (.int 1))) .nil) .nil) (.cons (.ret (.e (.ife (.cmp .gt (.var 1) (.int 0)) (.call 35 (.cons (.bin .sub (.bin .add (.var 0) (.var 1)) (.int 1)) (.cons (.var 0) .nil))) (.int 0)))) .nil))⟩
/-- width -/
def d37 : Def := ⟨2, 2, (.cons (.ret (.e (.bin .sub (.var 1) (.blt .len (.cons (.attr (.var 0) 3) .nil))))) .nil)⟩
/-- count_texts -/
def d38 : Def := ⟨2, 2, (.cons (.expr (.e (.call 13 (.cons (.var 0) .nil)))) (.cons (.expr (.e (.call 34 (.cons (.var 1) .nil)))) (.cons (.ret (.e (.call 36 (.cons (.blt .len (.cons (.attr (.var 0) 0) .nil)) (.cons (.call 37 (.cons (.var 0) (.cons (.var 1) .nil))) .nil))))) .nil)))⟩
/-- rows_below -/
def d39 : Def := ⟨4, 4, (.cons (.ret (.e (.bin .sub (.call 36 (.cons (.var 0) (.cons (.bin .sub (.var 1) (.var 2)) .nil))) (.call 36 (.cons (.var 0) (.cons (.bin .sub (.var 1) (.var 3)) .nil)))))) .nil)⟩
/-- first_number -/
def d40 : Def := ⟨4, 6, (.cons (.set (.name 4) (.e (.bin .sub (.var 1) (.int 1)))) (.cons (.whl 100000 (.cmp .lt (.var 2) (.var 4)) (.cons (.set (.name 5) (.e (.bin .fdv (.bin .add (.bin .add (.var 2) (.var 4)) (.int 1)) (.int 2)))) (.cons (.ifS (.cmp .ge (.call 36 (.cons (.var 0) (.cons (.bin .sub (.var 1) (.var 5)) .nil))) (.var 3)) (.cons (.set (.name 2) (.e (.var 5))) .nil) (.cons (.set (.name 4) (.e (.bin .sub (.var 5) (.int 1)))) .nil)) .nil))) (.cons (.ret (.e (.var 2))) .nil)))⟩
/-- nth_text -/
def d41 : Def := ⟨3, 13, (.cons (.set (.name 3) (.e (.call 38 (.cons (.var 0) (.cons (.var 1) .nil))))) (.cons (.ifS (.notE (.call 1 (.cons (.var 2) (.cons (.int 0) (.cons (.bin .sub (.var 3) (.int 1)) .nil))))) (.cons .never .nil) .nil) (.cons (.par [5, 6, 7, 8] [(.own (.lst .nil)), (.e (.int 0)), (.e (.var 2)), (.e (.call 37 (.cons (.var 0) (.cons (.var 1) .nil))))]) (.cons (.forS (.name 4) (.rng1 (.blt .len (.cons (.attr (.var 0) 0) .nil))) (.cons (.set (.name 9) (.e (.bin .sub (.blt .len (.cons (.attr (.var 0) 0) .nil)) (.var 4)))) (.cons (.set (.name 10) (.e (.bin .sub (.call 36 (.cons (.var 9) (.cons (.bin .sub (.var 8) (.var 6)) .nil))) (.var 7)))) (.cons (.set (.name 11) (.e (.call 40 (.cons (.var 9) (.cons (.var 8) (.cons (.var 6) (.cons (.var 10) .nil))))))) (.cons (.set (.name 7) (.e (.bin .sub (.var 7) (.call 39 (.cons (.var 9) (.cons (.var 8) (.cons (.var 6) (.cons (.var 11) .nil)))))))) (.cons (.append 5 (.e (.var 11))) (.cons (.set (.name 6) (.e (.var 11))) .nil))))))) (.frz 5 (.cons (.ret (.e (.call 16 (.cons (.var 0) (.cons (.lc (.bin .add (.var 11) (.var 12)) (.tup [(.name 11), (.name 12)]) (.zip (.var 5) (.call 18 (.cons (.var 0) .nil))) .no) .nil))))) .nil))))))⟩
-- 42 number_of: builtin zip
/-- check_counts -/
def d43 : Def := ⟨1, 3, (.cons (.ifS (.orE (.notE (.isi (.var 0) .tuple)) (.one (.cmp .eq (.var 0) (.tup .nil)))) (.cons .never .nil) .nil) (.cons (.forS (.tup [(.name 1), (.name 2)]) (.enm (.var 0)) (.cons (.ifS (.orE (.cmp .eq (.var 1) (.kon 0)) (.one (.notE (.call 1 (.cons (.var 2) (.cons (.int 0) (.cons (.kon 2) .nil))))))) (.cons .never .nil) .nil) .nil)) .nil))⟩
/-- with_counts -/
def d44 : Def := ⟨2, 6, (.cons (.expr (.e (.call 13 (.cons (.var 0) .nil)))) (.cons (.expr (.e (.call 43 (.cons (.var 1) .nil)))) (.cons (.ifS (.cmp .ne (.blt .sum (.cons (.var 1) .nil)) (.blt .len (.cons (.attr (.var 0) 0) .nil))) (.cons .never .nil) .nil) (.cons (.set (.name 2) (.own (.lst .nil))) (.cons (.forS (.tup [(.name 3), (.name 4)]) (.enm (.var 1)) (.cons (.extend 2 (.lc (.var 3) (.name 5) (.rng1 (.var 4)) .no)) .nil)) (.frz 2 (.cons (.ret (.e (.ife (.call 14 (.cons (.var 0) (.cons (.var 2) .nil))) (.call 16 (.cons (.var 0) (.cons (.var 2) .nil))) .non))) .nil)))))))⟩
/-- is_fact -/
def d45 : Def := ⟨3, 3, (.cons (.ifS (.orE (.notE (.isi (.var 2) .tuple)) (.one (.cmp .ne (.blt .len (.cons (.var 2) .nil)) (.int 2)))) (.cons (.ret (.e (.bl false))) .nil) .nil) (.cons (.ret (.e (.andE (.call 1 (.cons (.ix (.var 2) (.int 0)) (.cons (.int 0) (.cons (.bin .sub (.blt .len (.cons (.attr (.var 0) 0) .nil)) (.int 1)) .nil)))) (.one (.call 1 (.cons (.ix (.var 2) (.int 1)) (.cons (.int 0) (.cons (.bin .sub (.var 1) (.int 1)) .nil)))))))) .nil))⟩
/-- check_facts -/
def d46 : Def := ⟨3, 5, (.cons (.ifS (.notE (.isi (.var 2) .tuple)) (.cons .never .nil) .nil) (.cons (.forS (.tup [(.name 3), (.name 4)]) (.enm (.var 2)) (.cons (.ifS (.orE (.notE (.call 45 (.cons (.var 0) (.cons (.var 1) (.cons (.var 4) .nil))))) (.one (.andE (.cmp .gt (.var 3) (.int 0)) (.one (.cmp .ge (.ix (.ix (.var 2) (.bin .sub (.var 3) (.int 1))) (.int 0)) (.ix (.var 4) (.int 0))))))) (.cons .never .nil) .nil) .nil)) .nil))⟩
/-- check_told -/
def d47 : Def := ⟨3, 3, (.cons (.expr (.e (.call 13 (.cons (.var 0) .nil)))) (.cons (.expr (.e (.call 34 (.cons (.var 1) .nil)))) (.cons (.expr (.e (.call 46 (.cons (.var 0) (.cons (.var 1) (.cons (.var 2) .nil)))))) .nil)))⟩
-- 48 numbers_told: builtin dict
-- 49 ends_told: step
/-- many_told -/
def d50 : Def := ⟨3, 10, (.cons (.set (.name 3) (.e (.call 49 (.cons (.var 0) (.cons (.var 1) (.cons (.var 2) .nil)))))) (.cons (.ifS (.cmp .isN (.var 3) .non) (.cons (.ret (.e (.int 0))) .nil) .nil) (.cons (.par [4, 5, 6] [(.e (.call 48 (.cons (.var 0) (.cons (.var 2) .nil)))), (.e (.int 1)), (.e (.int 0))]) (.cons (.forS (.tup [(.name 7), (.name 8)]) (.enm (.stup true .nil (.var 4) (.cons (.ix (.ix (.var 3) (.int 1)) (.neg (.int 1))) .nil))) (.cons (.ifS (.cmp .isN (.var 8) .non) (.cons (.set (.name 6) (.e (.bin .add (.var 6) (.int 1)))) .nil) (.cons (.set (.name 9) (.e (.ife (.cmp .gt (.var 6) (.int 0)) (.ix (.ix (.var 3) (.int 0)) (.bin .sub (.var 7) (.var 6))) (.var 8)))) (.cons (.set (.name 5) (.e (.bin .mul (.var 5) (.call 35 (.cons (.bin .sub (.bin .add (.var 6) (.var 8)) (.var 9)) (.cons (.var 6) .nil)))))) (.cons (.set (.name 6) (.e (.int 0))) .nil)))) .nil)) (.cons (.ret (.e (.var 5))) .nil)))))⟩
/-- count_with -/
def d51 : Def := ⟨3, 3, (.cons (.expr (.e (.call 47 (.cons (.var 0) (.cons (.var 1) (.cons (.var 2) .nil)))))) (.cons (.ret (.e (.call 50 (.cons (.var 0) (.cons (.var 1) (.cons (.var 2) .nil)))))) .nil))⟩
-- 52 spans_told: builtin zip
/-- spans_with -/
def d53 : Def := ⟨3, 3, (.cons (.expr (.e (.call 47 (.cons (.var 0) (.cons (.var 1) (.cons (.var 2) .nil)))))) (.cons (.ret (.e (.call 52 (.cons (.var 0) (.cons (.var 1) (.cons (.var 2) .nil)))))) .nil))⟩
/-- text_with -/
def d54 : Def := ⟨3, 6, (.cons (.expr (.e (.call 47 (.cons (.var 0) (.cons (.var 1) (.cons (.var 2) .nil)))))) (.cons (.set (.name 3) (.e (.call 49 (.cons (.var 0) (.cons (.var 1) (.cons (.var 2) .nil)))))) (.cons (.ifS (.cmp .isN (.var 3) .non) (.cons (.ret (.e .non)) .nil) .nil) (.cons (.ret (.e (.call 16 (.cons (.var 0) (.cons (.lc (.bin .add (.var 4) (.var 5)) (.tup [(.name 4), (.name 5)]) (.zip (.ix (.var 3) (.int 0)) (.call 18 (.cons (.var 0) .nil))) .no) .nil))))) .nil))))⟩
/-- letters_keeping -/
def d55 : Def := ⟨4, 8, (.cons (.expr (.e (.call 8 (.cons (.var 0) .nil)))) (.cons (.expr (.e (.call 2 (.cons (.var 1) .nil)))) (.cons (.expr (.e (.call 29 (.cons (.var 2) (.cons (.blt .len (.cons (.var 0) .nil)) .nil))))) (.cons (.expr (.e (.call 34 (.cons (.var 3) .nil)))) (.cons (.set (.name 4) (.e (.call 11 (.cons (.var 0) (.cons (.var 1) .nil))))) (.cons (.par [5, 6, 7] [(.e (.ix (.attr (.var 4) 2) (.var 2))), (.e (.int 0)), (.e (.bin .sub (.var 3) (.int 1)))]) (.cons (.ifS (.cmp .gt (.var 5) (.int 0)) (.cons (.set (.name 6) (.e (.bin .add (.ix (.var 0) (.ix (.attr (.var 4) 0) (.bin .sub (.var 5) (.int 1)))) (.ife (.cmp .inn (.bin .sub (.var 5) (.int 1)) (.attr (.var 4) 3)) (.int 1) (.int 0))))) .nil) .nil) (.cons (.ifS (.cmp .lt (.bin .add (.var 5) (.int 1)) (.blt .len (.cons (.var 0) .nil))) (.cons (.set (.name 7) (.e (.blt .min2 (.cons (.var 7) (.cons (.bin .sub (.ix (.var 0) (.ix (.attr (.var 4) 0) (.bin .add (.var 5) (.int 1)))) (.ife (.cmp .inn (.var 5) (.attr (.var 4) 3)) (.int 1) (.int 0))) .nil))))) .nil) .nil) (.cons (.ret (.e (.ife (.cmp .le (.var 6) (.var 7)) (.tup (.cons (.var 6) (.cons (.var 7) .nil))) .non))) .nil)))))))))⟩
/-- common_letters -/
def d56 : Def := ⟨2, 5, (.cons (.set (.name 2) (.e (.int 0))) (.cons (.forS (.tup [(.name 3), (.name 4)]) (.zip (.var 0) (.var 1)) (.cons (.ifS (.cmp .ne (.var 3) (.var 4)) (.cons (.ret (.e (.var 2))) .nil) .nil) (.cons (.set (.name 2) (.e (.bin .add (.var 2) (.int 1)))) .nil))) (.cons (.ret (.e (.var 2))) .nil)))⟩
/-- agreement_of -/
def d57 : Def := ⟨2, 6, (.cons (.set (.name 2) (.e (.lc (.call 9 (.cons (.var 0) (.cons (.var 3) (.cons (.var 1) .nil)))) (.name 3) (.seq (.call 10 (.cons (.var 0) (.cons (.var 1) .nil)))) .no))) (.cons (.ret (.e (.lc (.call 56 (.cons (.var 4) (.cons (.var 5) .nil))) (.tup [(.name 4), (.name 5)]) (.zip (.var 2) (.slc (.var 2) (.some (.int 1)) .no)) .no))) .nil))⟩
/-- agreement -/
def d58 : Def := ⟨2, 2, (.cons (.expr (.e (.call 8 (.cons (.var 0) .nil)))) (.cons (.expr (.e (.call 2 (.cons (.var 1) .nil)))) (.cons (.ret (.e (.blt .tuple (.cons (.call 57 (.cons (.var 0) (.cons (.var 1) .nil))) .nil)))) .nil)))⟩
/-- check_table -/
def d59 : Def := ⟨2, 4, (.cons (.ifS (.orE (.notE (.isi (.var 1) .tuple)) (.one (.cmp .ne (.blt .len (.cons (.var 1) .nil)) (.bin .sub (.blt .len (.cons (.attr (.var 0) 0) .nil)) (.int 1))))) (.cons .never .nil) .nil) (.cons (.forS (.tup [(.name 2), (.name 3)]) (.enm (.var 1)) (.cons (.ifS (.notE (.call 1 (.cons (.var 3) (.cons (.int 0) (.cons (.kon 0) .nil))))) (.cons .never .nil) .nil) .nil)) .nil))⟩
/-- wanted_at -/
def d60 : Def := ⟨3, 7, (.cons (.par [3, 4] [(.e (.ix (.attr (.var 0) 0) (.var 2))), (.e (.ix (.attr (.var 0) 0) (.bin .add (.var 2) (.int 1))))]) (.cons (.ifS (.andE (.cmp .ne (.attr (.var 0) 1) (.str "ring")) (.one (.cmp .inn (.bin .sub (.blt .len (.cons (.attr (.var 0) 0) .nil)) (.int 1)) (.tup (.cons (.var 3) (.cons (.var 4) .nil)))))) (.cons (.ret (.e (.int 1))) .nil) .nil) (.cons (.par [5, 6] [(.e (.call 5 (.cons (.attr (.var 0) 2) (.cons (.var 3) (.cons (.attr (.var 0) 1) .nil))))), (.e (.call 5 (.cons (.attr (.var 0) 2) (.cons (.var 4) (.cons (.attr (.var 0) 1) .nil)))))]) (.cons (.ret (.e (.bin .add (.int 1) (.blt .min (.cons (.slc (.var 1) (.some (.var 5)) (.some (.var 6))) .nil))))) .nil))))⟩
/-- is_wrong -/
def d61 : Def := ⟨3, 3, (.cons (.ifS (.cmp .eq (.ix (.var 1) (.var 2)) (.int 0)) (.cons (.ret (.e (.bl false))) .nil) .nil) (.cons (.ret (.e (.orE (.cmp .inn (.var 2) (.attr (.var 0) 3)) (.one (.cmp .ne (.ix (.var 1) (.var 2)) (.call 60 (.cons (.var 0) (.cons (.var 1) (.cons (.var 2) .nil))))))))) .nil))⟩
/-- first_wrong -/
def d62 : Def := ⟨2, 4, (.cons (.set (.name 2) (.e (.lc (.var 3) (.name 3) (.rng1 (.blt .len (.cons (.var 1) .nil))) (.some (.call 61 (.cons (.var 0) (.cons (.var 1) (.cons (.var 3) .nil)))))))) (.cons (.ret (.e (.ife (.cmp .ne (.var 2) (.lst .nil)) (.ix (.var 2) (.int 0)) .non))) .nil))⟩
/-- wrong_at -/
def d63 : Def := ⟨2, 2, (.cons (.expr (.e (.call 13 (.cons (.var 0) .nil)))) (.cons (.expr (.e (.call 59 (.cons (.var 0) (.cons (.var 1) .nil))))) (.cons (.ret (.e (.call 62 (.cons (.var 0) (.cons (.var 1) .nil))))) .nil)))⟩
/-- text_agreeing -/
def d64 : Def := ⟨2, 4, (.cons (.expr (.e (.call 13 (.cons (.var 0) .nil)))) (.cons (.expr (.e (.call 59 (.cons (.var 0) (.cons (.var 1) .nil))))) (.cons (.ifS (.cmp .notN (.call 62 (.cons (.var 0) (.cons (.var 1) .nil))) .non) (.cons (.ret (.e .non)) .nil) .nil) (.cons (.set (.name 2) (.own (.lst (.cons (.int 0) .nil)))) (.cons (.forS (.name 3) (.seq (.var 1)) (.cons (.append 2 (.e (.bin .add (.ixo 2 (.neg (.int 1))) (.ife (.cmp .eq (.var 3) (.int 0)) (.int 1) (.int 0))))) .nil)) (.frz 2 (.cons (.ret (.e (.call 16 (.cons (.var 0) (.cons (.var 2) .nil))))) .nil)))))))⟩
-- 65 count_agreements: operator
/-- all_stretches -/
def d66 : Def := ⟨1, 1, (.cons (.ret (.e (.bin .fdv (.bin .mul (.var 0) (.bin .add (.var 0) (.int 1))) (.int 2)))) .nil)⟩
/-- parts -/
def d67 : Def := ⟨1, 1, (.cons (.expr (.e (.call 8 (.cons (.var 0) .nil)))) (.cons (.ret (.e (.bin .sub (.call 66 (.cons (.blt .len (.cons (.var 0) .nil)) .nil)) (.blt .sum (.cons (.call 57 (.cons (.var 0) (.cons (.str "first") .nil))) .nil))))) .nil))⟩
/-- parts_between -/
def d68 : Def := ⟨1, 1, (.cons (.expr (.e (.call 13 (.cons (.var 0) .nil)))) (.cons (.ifS (.cmp .eq (.attr (.var 0) 1) (.str "ring")) (.cons (.ret (.e .non)) .nil) .nil) (.cons (.ret (.e (.tup (.cons (.call 67 (.cons (.call 19 (.cons (.var 0) .nil)) .nil)) (.cons (.call 66 (.cons (.blt .len (.cons (.attr (.var 0) 0) .nil)) .nil)) .nil))))) .nil)))⟩
/-- check_size -/
def d69 : Def := ⟨1, 1, (.cons (.ifS (.notE (.call 1 (.cons (.var 0) (.cons (.int 1) (.cons (.kon 2) .nil))))) (.cons .never .nil) .nil) .nil)⟩
/-- divisors -/
def d70 : Def := ⟨1, 2, (.cons (.ret (.e (.lc (.var 1) (.name 1) (.rng2 (.int 1) (.bin .add (.var 0) (.int 1))) (.some (.cmp .eq (.bin .mod (.var 0) (.var 1)) (.int 0)))))) .nil)⟩
/-- sign_of -/
def d71 : Def := ⟨1, 4, (.cons (.par [2, 3] [(.e (.int 1)), (.e (.var 0))]) (.cons (.forS (.name 1) (.rng2 (.int 2) (.bin .add (.var 0) (.int 1))) (.cons (.ifS (.cmp .eq (.bin .mod (.var 3) (.var 1)) (.int 0)) (.cons (.par [3, 2] [(.e (.bin .fdv (.var 3) (.var 1))), (.e (.neg (.var 2)))]) (.cons (.ifS (.cmp .eq (.bin .mod (.var 3) (.var 1)) (.int 0)) (.cons (.ret (.e (.int 0))) .nil) .nil) .nil)) .nil) .nil)) (.cons (.ret (.e (.var 2))) .nil)))⟩
/-- ring_number -/
def d72 : Def := ⟨2, 3, (.cons (.ret (.e (.bin .fdv (.blt .sum (.cons (.lc (.bin .mul (.call 71 (.cons (.var 2) .nil)) (.call 74 (.cons (.var 1) (.cons (.bin .fdv (.var 0) (.var 2)) .nil)))) (.name 2) (.seq (.call 70 (.cons (.var 0) .nil))) .no) .nil)) (.var 0)))) .nil)⟩
/-- texts_number -/
def d73 : Def := ⟨3, 3, (.cons (.ret (.e (.ife (.cmp .eq (.var 1) (.str "ring")) (.call 72 (.cons (.var 0) (.cons (.var 2) .nil))) (.call 74 (.cons (.var 2) (.cons (.var 0) .nil)))))) .nil)⟩
/-- power -/
def d74 : Def := ⟨2, 4, (.cons (.set (.name 2) (.e (.int 1))) (.cons (.forS (.name 3) (.rng1 (.var 1)) (.cons (.set (.name 2) (.e (.bin .mul (.var 2) (.var 0)))) .nil)) (.cons (.ret (.e (.var 2))) .nil)))⟩
/-- orders_number -/
def d75 : Def := ⟨3, 6, (.cons (.par [4, 5] [(.e (.int 0)), (.e (.int 1))]) (.cons (.forS (.name 3) (.rng1 (.bin .add (.var 2) (.int 1))) (.cons (.set (.name 4) (.e (.bin .add (.var 4) (.bin .mul (.bin .mul (.var 5) (.call 35 (.cons (.bin .add (.var 0) (.int 1)) (.cons (.var 3) .nil)))) (.call 73 (.cons (.var 0) (.cons (.var 1) (.cons (.bin .sub (.bin .add (.var 2) (.int 1)) (.var 3)) .nil)))))))) (.cons (.set (.name 5) (.e (.neg (.var 5)))) .nil))) (.cons (.ret (.e (.ife (.cmp .eq (.var 1) (.str "ring")) (.bin .mul (.var 4) (.var 0)) (.var 4)))) .nil)))⟩
/-- orders_with -/
def d76 : Def := ⟨3, 3, (.cons (.expr (.e (.call 69 (.cons (.var 0) .nil)))) (.cons (.expr (.e (.call 2 (.cons (.var 1) .nil)))) (.cons (.ifS (.orE (.notE (.call 0 (.cons (.var 2) .nil))) (.one (.cmp .lt (.var 2) (.int 0)))) (.cons .never .nil) .nil) (.cons (.ret (.e (.ife (.cmp .lt (.var 2) (.var 0)) (.call 75 (.cons (.var 0) (.cons (.var 1) (.cons (.var 2) .nil)))) (.int 0)))) .nil))))⟩
/-- orders_up_to -/
def d77 : Def := ⟨3, 4, (.cons (.expr (.e (.call 69 (.cons (.var 0) .nil)))) (.cons (.expr (.e (.call 2 (.cons (.var 1) .nil)))) (.cons (.expr (.e (.call 34 (.cons (.var 2) .nil)))) (.cons (.ret (.e (.blt .sum (.cons (.lc (.call 75 (.cons (.var 0) (.cons (.var 1) (.cons (.var 3) .nil)))) (.name 3) (.rng1 (.blt .min2 (.cons (.var 0) (.cons (.var 2) .nil)))) .no) .nil)))) .nil))))⟩
/-- rings_of -/
def d78 : Def := ⟨2, 2, (.cons (.expr (.e (.call 69 (.cons (.var 0) .nil)))) (.cons (.expr (.e (.call 34 (.cons (.var 1) .nil)))) (.cons (.ret (.e (.call 72 (.cons (.var 0) (.cons (.var 1) .nil))))) .nil)))⟩
/-- arranged -/
def d79 : Def := ⟨1, 4, (.cons (.par [2, 3] [(.e (.int 1)), (.e (.int 0))]) (.cons (.forS (.name 1) (.seq (.var 0)) (.cons (.set (.name 3) (.e (.bin .add (.var 3) (.var 1)))) (.cons (.set (.name 2) (.e (.bin .mul (.var 2) (.call 35 (.cons (.var 3) (.cons (.var 1) .nil)))))) .nil))) (.cons (.ret (.e (.var 2))) .nil)))⟩
/-- rings_with -/
def d80 : Def := ⟨1, 5, (.cons (.expr (.e (.call 43 (.cons (.var 0) .nil)))) (.cons (.set (.name 1) (.e (.blt .sum (.cons (.var 0) .nil)))) (.cons (.ifS (.cmp .eq (.var 1) (.int 0)) (.cons .never .nil) .nil) (.cons (.set (.name 2) (.e (.lc (.var 3) (.name 3) (.seq (.call 70 (.cons (.blt .max (.cons (.var 0) .nil)) .nil))) (.some (.blt .all (.cons (.lc (.cmp .eq (.bin .mod (.var 4) (.var 3)) (.int 0)) (.name 4) (.seq (.var 0)) .no) .nil)))))) (.cons (.ret (.e (.bin .fdv (.blt .sum (.cons (.lc (.bin .mul (.call 71 (.cons (.var 3) .nil)) (.call 79 (.cons (.lc (.bin .fdv (.var 4) (.var 3)) (.name 4) (.seq (.var 0)) .no) .nil))) (.name 3) (.seq (.var 2)) .no) .nil)) (.var 1)))) .nil)))))⟩
/-- is_pair -/
def d81 : Def := ⟨2, 3, (.cons (.ifS (.orE (.notE (.isi (.var 1) .tuple)) (.one (.cmp .ne (.blt .len (.cons (.var 1) .nil)) (.int 2)))) (.cons (.ret (.e (.bl false))) .nil) .nil) (.cons (.ret (.e (.andE (.blt .all (.cons (.lc (.call 1 (.cons (.var 2) (.cons (.int 0) (.cons (.bin .sub (.var 0) (.int 1)) .nil)))) (.name 2) (.seq (.var 1)) .no) .nil)) (.one (.cmp .ne (.ix (.var 1) (.int 0)) (.ix (.var 1) (.int 1))))))) .nil))⟩
/-- check_pairs -/
def d82 : Def := ⟨3, 5, (.cons (.ifS (.notE (.call 1 (.cons (.var 0) (.cons (.int 1) (.cons (.kon 3) .nil))))) (.cons .never .nil) .nil) (.cons (.expr (.e (.call 2 (.cons (.var 1) .nil)))) (.cons (.ifS (.notE (.isi (.var 2) .tuple)) (.cons .never .nil) .nil) (.cons (.forS (.tup [(.name 3), (.name 4)]) (.enm (.var 2)) (.cons (.ifS (.orE (.cmp .eq (.var 3) (.kon 4)) (.one (.notE (.call 81 (.cons (.var 0) (.cons (.var 4) .nil)))))) (.cons .never .nil) .nil) .nil)) .nil))))⟩
/-- all_orders -/
def d83 : Def := ⟨1, 5, (.cons (.set (.name 1) (.e (.lst (.cons (.tup .nil) .nil)))) (.cons (.forS (.name 2) (.rng1 (.var 0)) (.cons (.set (.name 1) (.e (.lc2 (.stup false .nil (.var 3) (.cons (.var 4) .nil)) (.name 3) (.seq (.var 1)) (.name 4) (.rng1 (.var 0)) (.some (.cmp .nin (.var 4) (.var 3)))))) .nil)) (.cons (.ret (.e (.var 1))) .nil)))⟩
/-- orders_told -/
def d84 : Def := ⟨2, 7, (.cons (.set (.name 2) (.own (.lst .nil))) (.cons (.forS (.name 3) (.seq (.call 83 (.cons (.var 0) .nil))) (.cons (.set (.name 4) (.e (.call 4 (.cons (.var 3) .nil)))) (.cons (.ifS (.blt .all (.cons (.lc (.cmp .lt (.ix (.var 4) (.var 5)) (.ix (.var 4) (.var 6))) (.tup [(.name 5), (.name 6)]) (.seq (.var 1)) .no) .nil)) (.cons (.append 2 (.e (.var 3))) .nil) .nil) .nil))) (.frz 2 (.cons (.ret (.e (.var 2))) .nil))))⟩
/-- count_told -/
def d85 : Def := ⟨3, 3, (.cons (.expr (.e (.call 82 (.cons (.var 0) (.cons (.var 1) (.cons (.var 2) .nil)))))) (.cons (.ret (.e (.blt .len (.cons (.call 84 (.cons (.var 0) (.cons (.var 2) .nil))) .nil)))) .nil))⟩
/-- fewest_told -/
def d86 : Def := ⟨3, 5, (.cons (.expr (.e (.call 82 (.cons (.var 0) (.cons (.var 1) (.cons (.var 2) .nil)))))) (.cons (.set (.name 3) (.e (.lc (.bin .add (.int 1) (.blt .len (.cons (.call 6 (.cons (.var 4) (.cons (.var 1) .nil))) .nil))) (.name 4) (.seq (.call 84 (.cons (.var 0) (.cons (.var 2) .nil)))) .no))) (.cons (.ret (.e (.ife (.cmp .ne (.var 3) (.lst .nil)) (.blt .min (.cons (.var 3) .nil)) .non))) .nil)))⟩
/-- sure_told -/
def d87 : Def := ⟨4, 11, (.cons (.expr (.e (.call 82 (.cons (.var 0) (.cons (.var 1) (.cons (.var 2) .nil)))))) (.cons (.expr (.e (.call 34 (.cons (.var 3) .nil)))) (.cons (.set (.name 4) (.e (.lc (.call 4 (.cons (.var 6) .nil)) (.name 6) (.seq (.call 84 (.cons (.var 0) (.cons (.var 2) .nil)))) (.some (.cmp .lt (.blt .len (.cons (.call 6 (.cons (.var 6) (.cons (.var 1) .nil))) .nil)) (.var 3)))))) (.cons (.ifS (.cmp .eq (.var 4) (.lst .nil)) (.cons (.ret (.e .non)) .nil) .nil) (.cons (.set (.name 5) (.e (.lc2 (.tup (.cons (.var 7) (.cons (.var 8) .nil))) (.name 7) (.rng1 (.var 0)) (.name 8) (.rng1 (.var 0)) (.some (.cmp .ne (.var 7) (.var 8)))))) (.cons (.ret (.e (.blt .tuple (.cons (.lc (.var 9) (.name 9) (.seq (.var 5)) (.some (.blt .all (.cons (.lc (.cmp .lt (.ix (.var 10) (.ix (.var 9) (.int 0))) (.ix (.var 10) (.ix (.var 9) (.int 1)))) (.name 10) (.seq (.var 4)) .no) .nil)))) .nil)))) .nil))))))⟩
/-- _wall -/
def d88 : Def := ⟨1, 1, (.cons (.whl 100000 (.bl true) (.cons .pass .nil)) .nil)⟩
/-- is_name -/
def d89 : Def := ⟨1, 2, (.cons (.ret (.e (.andE (.isi (.var 0) .str) (.andE (.chain .le .le (.int 1) (.blt .len (.cons (.var 0) .nil)) (.kon 9)) (.one (.blt .all (.cons (.lc (.cmp .inn (.var 1) (.kon 8)) (.name 1) (.seq (.var 0)) .no) .nil))))))) .nil)⟩
-- 90 are_places: statement Try
/-- is_promise -/
def d91 : Def := ⟨1, 2, (.cons (.ifS (.orE (.notE (.isi (.var 0) .tuple)) (.orE (.cmp .lt (.blt .len (.cons (.var 0) .nil)) (.int 3)) (.one (.notE (.isi (.ix (.var 0) (.int 0)) .str))))) (.cons (.ret (.e (.bl false))) .nil) .nil) (.cons (.ifS (.orE (.cmp .ne (.cget 10 (.ix (.var 0) (.int 0)) (0)) (.blt .len (.cons (.var 0) .nil))) (.one (.notE (.call 89 (.cons (.ix (.var 0) (.int 1)) .nil))))) (.cons (.ret (.e (.bl false))) .nil) .nil) (.cons (.ifS (.cmp .eq (.blt .len (.cons (.var 0) .nil)) (.int 3)) (.cons (.ret (.e (.call 1 (.cons (.ix (.var 0) (.int 2)) (.cons (.int 0) (.cons (.kon 11) .nil)))))) .nil) .nil) (.cons (.set (.name 1) (.e (.ife (.cmp .eq (.ix (.var 0) (.int 0)) (.str "order")) (.call 90 (.cons (.ix (.var 0) (.int 2)) .nil)) (.call 89 (.cons (.ix (.var 0) (.int 2)) .nil))))) (.cons (.ret (.e (.andE (.var 1) (.andE (.isi (.ix (.var 0) (.int 3)) .str) (.one (.cmp .inn (.ix (.var 0) (.int 3)) (.kon 5))))))) .nil)))))⟩
/-- names_in -/
def d92 : Def := ⟨1, 1, (.cons (.ret (.e (.ife (.cmp .eq (.ix (.var 0) (.int 0)) (.str "alike")) (.slc (.var 0) (.some (.int 1)) (.some (.int 3))) (.slc (.var 0) (.some (.int 1)) (.some (.int 2)))))) .nil)⟩
-- 93 places_or_none: statement Try
/-- alike_number -/
def d94 : Def := ⟨2, 4, (.cons (.ifS (.orE (.cmp .isN (.var 0) .non) (.one (.cmp .isN (.var 1) .non))) (.cons (.ret (.e .non)) .nil) .nil) (.cons (.ret (.e (.blt .len (.cons (.lc (.var 2) (.tup [(.name 2), (.name 3)]) (.zip (.call 4 (.cons (.var 0) .nil)) (.call 4 (.cons (.var 1) .nil))) (.some (.cmp .eq (.var 2) (.var 3)))) .nil)))) .nil))⟩
/-- check_promise -/
def d95 : Def := ⟨3, 10, (.cons (.set (.name 3) (.e (.ix (.var 0) (.ix (.var 2) (.int 1))))) (.cons (.ifS (.cmp .eq (.ix (.var 2) (.int 0)) (.str "order")) (.cons (.set (.name 4) (.e (.call 93 (.cons (.var 3) (.cons (.ix (.var 2) (.int 3)) .nil))))) (.cons (.set (.name 5) (.e (.cmp .eq (.var 4) (.ix (.var 2) (.int 2))))) .nil)) (.cons (.ifS (.cmp .eq (.ix (.var 2) (.int 0)) (.str "alike")) (.cons (.par [6, 7] [(.e (.call 93 (.cons (.var 3) (.cons (.ix (.var 2) (.int 3)) .nil)))), (.e (.call 93 (.cons (.ix (.var 0) (.ix (.var 2) (.int 2))) (.cons (.ix (.var 2) (.int 3)) .nil))))]) (.cons (.set (.name 4) (.e (.call 94 (.cons (.var 6) (.cons (.var 7) .nil))))) (.cons (.set (.name 5) (.e (.andE (.cmp .notN (.var 6) .non) (.one (.cmp .eq (.var 6) (.var 7)))))) .nil))) (.cons (.ifS (.cmp .eq (.ix (.var 2) (.int 0)) (.str "letters")) (.cons (.set (.name 4) (.e (.blt .len (.cons (.lc (.var 9) (.tup [(.name 8), (.name 9)]) (.enm (.var 3)) (.some (.cmp .nin (.var 9) (.slc (.var 3) .no (.some (.var 8)))))) .nil)))) (.cons (.set (.name 5) (.e (.cmp .le (.var 4) (.ix (.var 2) (.int 2))))) .nil)) (.cons (.set (.name 4) (.e (.call 67 (.cons (.var 3) .nil)))) (.cons (.set (.name 5) (.e (.cmp .ge (.var 4) (.ix (.var 2) (.int 2))))) .nil))) .nil)) .nil)) (.cons (.ifS (.notE (.var 5)) (.cons .never .nil) .nil) .nil)))⟩
/-- is_name -/
def d96 : Def := ⟨1, 2, (.cons (.ret (.e (.andE (.isi (.var 0) .str) (.andE (.chain .le .le (.int 1) (.blt .len (.cons (.var 0) .nil)) (.kon 12)) (.one (.blt .all (.cons (.lc (.cmp .inn (.var 1) (.kon 8)) (.name 1) (.seq (.var 0)) .no) .nil))))))) .nil)⟩
/-- number_in -/
def d97 : Def := ⟨2, 3, (.cons (.ifS (.orE (.notE (.chain .le .le (.int 1) (.blt .len (.cons (.var 0) .nil)) (.kon 14))) (.one (.notE (.blt .all (.cons (.lc (.cmp .inn (.var 2) (.kon 13)) (.name 2) (.seq (.var 0)) .no) .nil))))) (.cons (.ret (.e .non)) .nil) .nil) (.cons (.ifS (.orE (.andE (.cmp .ne (.var 0) (.str "0")) (.one (.cmp .eq (.ix (.var 0) (.int 0)) (.str "0")))) (.one (.cmp .gt (.blt .int (.cons (.var 0) .nil)) (.var 1)))) (.cons (.ret (.e .non)) .nil) .nil) (.cons (.ret (.e (.blt .int (.cons (.var 0) .nil)))) .nil)))⟩
/-- numbers_in -/
def d98 : Def := ⟨1, 3, (.cons (.ifS (.notE (.chain .le .le (.int 1) (.blt .len (.cons (.var 0) .nil)) (.kon 0))) (.cons (.ret (.e .non)) .nil) .nil) (.cons (.set (.name 1) (.e (.blt .tuple (.cons (.lc (.call 97 (.cons (.var 2) (.cons (.kon 1) .nil))) (.name 2) (.seq (.var 0)) .no) .nil)))) (.cons (.ret (.e (.ife (.cmp .inn .non (.var 1)) .non (.var 1)))) .nil)))⟩
/-- promise_in -/
def d99 : Def := ⟨1, 3, (.cons (.ifS (.orE (.cmp .lt (.blt .len (.cons (.var 0) .nil)) (.int 3)) (.one (.notE (.call 96 (.cons (.ix (.var 0) (.int 1)) .nil))))) (.cons (.ret (.e .non)) .nil) .nil) (.cons (.ifS (.andE (.cmp .eq (.ix (.var 0) (.int 0)) (.str "order")) (.one (.cmp .inn (.ix (.var 0) (.int 2)) (.kon 5)))) (.cons (.set (.name 2) (.e (.call 98 (.cons (.slc (.var 0) (.some (.int 3)) .no) .nil)))) (.cons (.ret (.e (.ife (.cmp .isN (.var 2) .non) .non (.tup (.cons (.str "order") (.cons (.ix (.var 0) (.int 1)) (.cons (.var 2) (.cons (.ix (.var 0) (.int 2)) .nil)))))))) .nil)) .nil) (.cons (.ifS (.andE (.cmp .eq (.ix (.var 0) (.int 0)) (.str "alike")) (.andE (.cmp .eq (.blt .len (.cons (.var 0) .nil)) (.int 4)) (.andE (.call 96 (.cons (.ix (.var 0) (.int 2)) .nil)) (.one (.cmp .inn (.ix (.var 0) (.int 3)) (.kon 5)))))) (.cons (.ret (.e (.blt .tuple (.cons (.var 0) .nil)))) .nil) .nil) (.cons (.set (.name 1) (.e (.ife (.andE (.cmp .inn (.ix (.var 0) (.int 0)) (.tup (.cons (.str "letters") (.cons (.str "parts") .nil)))) (.one (.cmp .eq (.blt .len (.cons (.var 0) .nil)) (.int 3)))) (.call 97 (.cons (.ix (.var 0) (.int 2)) (.cons (.kon 11) .nil))) .non))) (.cons (.ret (.e (.ife (.cmp .isN (.var 1) .non) .non (.tup (.cons (.ix (.var 0) (.int 0)) (.cons (.ix (.var 0) (.int 1)) (.cons (.var 1) .nil))))))) .nil)))))⟩
/-- put_in -/
def d100 : Def := ⟨1, 2, (.cons (.set (.name 1) (.e (.call 98 (.cons (.slc (.var 0) (.some (.int 1)) .no) .nil)))) (.cons (.ret (.e (.ife (.andE (.cmp .notN (.var 1) .non) (.one (.call 96 (.cons (.ix (.var 0) (.int 0)) .nil)))) (.tup (.cons (.ix (.var 0) (.int 0)) (.cons (.var 1) .nil))) .non))) .nil))⟩
-- 101 read_command: method split
-- 102 joined: method join
/-- is_order -/
def d103 : Def := ⟨1, 2, (.cons (.ifS (.orE (.notE (.isi (.var 0) .tuple)) (.orE (.notE (.chain .le .le (.int 1) (.blt .len (.cons (.var 0) .nil)) (.kon 17))) (.one (.notE (.blt .all (.cons (.lc (.call 0 (.cons (.var 1) .nil)) (.name 1) (.seq (.var 0)) .no) .nil)))))) (.cons (.ret (.e (.bl false))) .nil) .nil) (.cons (.ret (.e (.cmp .eq (.blt .sorted (.cons (.var 0) .nil)) (.lrg .no (.some (.blt .len (.cons (.var 0) .nil))))))) .nil))⟩
/-- all_ends -/
def d104 : Def := ⟨2, 4, (.cons (.ifS (.cmp .eq (.var 1) (.str "ring")) (.cons (.ret (.e (.lc (.bin .add (.blt .list (.cons (.slc (.var 0) (.some (.var 3)) .no) .nil)) (.blt .list (.cons (.slc (.var 0) .no (.some (.var 3))) .nil))) (.name 3) (.rng1 (.blt .len (.cons (.var 0) .nil))) .no))) .nil) .nil) (.cons (.set (.name 2) (.e (.ife (.cmp .eq (.var 1) (.str "first")) (.lst (.cons (.kon 7) .nil)) (.lst (.cons (.bin .add (.kon 18) (.int 1)) .nil))))) (.cons (.ret (.e (.lc (.bin .add (.blt .list (.cons (.slc (.var 0) (.some (.var 3)) .no) .nil)) (.var 2)) (.name 3) (.rng1 (.blt .len (.cons (.var 0) .nil))) .no))) .nil)))⟩
/-- places_of -/
def d105 : Def := ⟨2, 7, (.cons (.set (.name 2) (.e (.call 104 (.cons (.var 0) (.cons (.var 1) .nil))))) (.cons (.set (.name 3) (.e (.blt .sorted (.cons (.lc (.tup (.cons (.var 5) (.cons (.var 6) .nil))) (.tup [(.name 6), (.name 5)]) (.enm (.var 2)) .no) .nil)))) (.cons (.ifS (.blt .any (.cons (.lc (.cmp .eq (.ix (.ix (.var 3) (.var 4)) (.int 0)) (.ix (.ix (.var 3) (.bin .add (.var 4) (.int 1))) (.int 0))) (.name 4) (.rng1 (.bin .sub (.blt .len (.cons (.var 3) .nil)) (.int 1))) .no) .nil)) (.cons (.ret (.e .non)) .nil) .nil) (.cons (.ret (.e (.lc (.var 6) (.tup [(.name 5), (.name 6)]) (.seq (.var 3)) .no))) .nil))))⟩
/-- following -/
def d106 : Def := ⟨2, 5, (.cons (.set (.name 2) (.e (.blt .len (.cons (.var 0) .nil)))) (.cons (.set (.name 3) (.e (.sel ["first", "last", "ring"] (.cons (.kon 7) (.cons (.var 2) (.cons (.mth .index (.var 0) (.cons (.int 0) .nil)) .nil))) (.var 1)))) (.cons (.ret (.e (.lc (.ife (.cmp .lt (.bin .add (.var 4) (.int 1)) (.var 2)) (.mth .index (.var 0) (.cons (.bin .add (.var 4) (.int 1)) .nil)) (.var 3)) (.name 4) (.seq (.var 0)) .no))) .nil)))⟩
/-- rises_in -/
def d107 : Def := ⟨2, 4, (.cons (.set (.name 2) (.e (.call 106 (.cons (.var 0) (.cons (.var 1) .nil))))) (.cons (.ret (.e (.lc (.var 3) (.name 3) (.rng1 (.bin .sub (.blt .len (.cons (.var 0) .nil)) (.int 1))) (.some (.cmp .gt (.ix (.var 2) (.var 3)) (.ix (.var 2) (.bin .add (.var 3) (.int 1)))))))) .nil))⟩
/-- agreement_in -/
def d108 : Def := ⟨3, 9, (.cons (.par [4, 5] [(.e (.call 104 (.cons (.var 0) (.cons (.var 2) .nil)))), (.own (.lst .nil))]) (.cons (.forS (.name 3) (.rng1 (.bin .sub (.blt .len (.cons (.var 1) .nil)) (.int 1))) (.cons (.par [6, 7, 8] [(.e (.ix (.var 4) (.ix (.var 1) (.var 3)))), (.e (.ix (.var 4) (.ix (.var 1) (.bin .add (.var 3) (.int 1))))), (.e (.int 0))]) (.cons (.whl 100000 (.andE (.cmp .lt (.var 8) (.blt .min2 (.cons (.blt .len (.cons (.var 6) .nil)) (.cons (.blt .len (.cons (.var 7) .nil)) .nil)))) (.one (.cmp .eq (.ix (.var 6) (.var 8)) (.ix (.var 7) (.var 8))))) (.cons (.set (.name 8) (.e (.bin .add (.var 8) (.int 1)))) .nil)) (.cons (.append 5 (.e (.var 8))) .nil)))) (.frz 5 (.cons (.ret (.e (.var 5))) .nil))))⟩
/-- is_untrue -/
def d109 : Def := ⟨4, 5, (.cons (.ifS (.cmp .le (.ix (.var 2) (.var 3)) (.int 0)) (.cons (.ret (.e (.cmp .lt (.ix (.var 2) (.var 3)) (.int 0)))) .nil) .nil) (.cons (.ifS (.cmp .inn (.var 3) (.call 107 (.cons (.var 0) (.cons (.var 1) .nil)))) (.cons (.ret (.e (.bl true))) .nil) .nil) (.cons (.ifS (.andE (.cmp .ne (.var 1) (.str "ring")) (.one (.cmp .inn (.bin .sub (.blt .len (.cons (.var 0) .nil)) (.int 1)) (.tup (.cons (.ix (.var 0) (.var 3)) (.cons (.ix (.var 0) (.bin .add (.var 3) (.int 1))) .nil)))))) (.cons (.ret (.e (.cmp .ne (.ix (.var 2) (.var 3)) (.int 1)))) .nil) .nil) (.cons (.set (.name 4) (.e (.call 106 (.cons (.var 0) (.cons (.var 1) .nil))))) (.cons (.ret (.e (.cmp .ne (.ix (.var 2) (.var 3)) (.bin .add (.int 1) (.blt .min (.cons (.slc (.var 2) (.some (.ix (.var 4) (.var 3))) (.some (.ix (.var 4) (.bin .add (.var 3) (.int 1))))) .nil)))))) .nil)))))⟩
/-- are_numbers -/
def d110 : Def := ⟨1, 2, (.cons (.ret (.e (.andE (.isi (.var 0) .tuple) (.one (.blt .all (.cons (.lc (.call 0 (.cons (.var 1) .nil)) (.name 1) (.seq (.var 0)) .no) .nil)))))) .nil)⟩
/-- is_table -/
def d111 : Def := ⟨2, 2, (.cons (.ret (.e (.andE (.call 110 (.cons (.var 1) .nil)) (.one (.cmp .eq (.blt .len (.cons (.var 1) .nil)) (.bin .sub (.blt .len (.cons (.var 0) .nil)) (.int 1))))))) .nil)⟩
/-- is_rising -/
def d112 : Def := ⟨1, 2, (.cons (.ret (.e (.andE (.call 110 (.cons (.var 0) .nil)) (.one (.blt .all (.cons (.lc (.cmp .lt (.ix (.var 0) (.var 1)) (.ix (.var 0) (.bin .add (.var 1) (.int 1)))) (.name 1) (.rng1 (.bin .sub (.blt .len (.cons (.var 0) .nil)) (.int 1))) .no) .nil)))))) .nil)⟩
/-- column_in -/
def d113 : Def := ⟨2, 5, (.cons (.set (.name 2) (.e (.call 105 (.cons (.var 0) (.cons (.var 1) .nil))))) (.cons (.ifS (.orE (.cmp .isN (.var 2) .non) (.one (.cmp .eq (.var 1) (.str "ring")))) (.cons (.ret (.e (.ife (.cmp .isN (.var 2) .non) .non (.blt .tuple (.cons (.lc (.ix (.var 0) (.bin .sub (.var 4) (.int 1))) (.name 4) (.seq (.var 2)) .no) .nil))))) .nil) .nil) (.cons (.set (.name 3) (.e (.ife (.cmp .eq (.var 1) (.str "first")) (.bin .add (.lst (.cons (.blt .len (.cons (.var 0) .nil)) .nil)) (.var 2)) (.bin .add (.var 2) (.lst (.cons (.blt .len (.cons (.var 0) .nil)) .nil)))))) (.cons (.ret (.e (.blt .tuple (.cons (.lc (.ife (.cmp .eq (.var 4) (.int 0)) (.kon 7) (.ix (.var 0) (.bin .sub (.var 4) (.int 1)))) (.name 4) (.seq (.var 3)) .no) .nil)))) .nil))))⟩
/-- is_row -/
def d114 : Def := ⟨2, 4, (.cons (.ifS (.orE (.notE (.call 110 (.cons (.var 0) .nil))) (.one (.notE (.blt .all (.cons (.lc (.chain .le .le (.kon 7) (.var 3) (.kon 18)) (.name 3) (.seq (.var 0)) .no) .nil))))) (.cons (.ret (.e (.bl false))) .nil) .nil) (.cons (.set (.name 2) (.e (.mth .count (.var 0) (.cons (.kon 7) .nil)))) (.cons (.ret (.e (.andE (.cmp .eq (.var 2) (.ife (.cmp .eq (.var 1) (.str "ring")) (.int 0) (.int 1))) (.one (.chain .le .le (.int 1) (.bin .sub (.blt .len (.cons (.var 0) .nil)) (.var 2)) (.kon 17)))))) .nil)))⟩
/-- step_from -/
def d115 : Def := ⟨3, 5, (.cons (.set (.name 3) (.e (.lc (.ife (.andE (.cmp .eq (.var 1) (.str "last")) (.one (.cmp .eq (.var 4) (.kon 7)))) (.bin .add (.kon 18) (.int 1)) (.var 4)) (.name 4) (.seq (.var 0)) .no))) (.cons (.ret (.e (.bin .add (.blt .len (.cons (.lc (.var 4) (.name 4) (.seq (.var 3)) (.some (.cmp .lt (.var 4) (.ix (.var 3) (.var 2))))) .nil)) (.blt .len (.cons (.lc (.var 4) (.name 4) (.seq (.slc (.var 3) .no (.some (.var 2)))) (.some (.cmp .eq (.var 4) (.ix (.var 3) (.var 2))))) .nil))))) .nil))⟩
/-- is_short_ring -/
def d116 : Def := ⟨3, 4, (.cons (.ifS (.orE (.notE (.call 112 (.cons (.var 2) .nil))) (.one (.notE (.chain .le .lt (.int 1) (.blt .len (.cons (.var 2) .nil)) (.blt .len (.cons (.var 0) .nil)))))) (.cons (.ret (.e (.bl false))) .nil) .nil) (.cons (.ifS (.notE (.blt .all (.cons (.lc (.chain .le .lt (.int 0) (.var 3) (.blt .len (.cons (.var 0) .nil))) (.name 3) (.seq (.var 2)) .no) .nil))) (.cons (.ret (.e (.bl false))) .nil) .nil) (.cons (.ret (.e (.blt .all (.cons (.lc (.cmp .inn (.call 115 (.cons (.var 0) (.cons (.var 1) (.cons (.var 3) .nil)))) (.var 2)) (.name 3) (.seq (.var 2)) .no) .nil)))) .nil)))⟩
/-- has_places -/
def d117 : Def := ⟨3, 3, (.cons (.ret (.e (.andE (.call 12 (.cons (.var 0) .nil)) (.one (.cmp .eq (.call 105 (.cons (.var 0) (.cons (.var 2) .nil))) (.blt .list (.cons (.var 1) .nil))))))) .nil)⟩
/-- accepts_order -/
def d118 : Def := ⟨2, 7, (.cons (.set (.tup [(.name 2), (.name 3), (.name 4), (.name 5)]) (.e (.var 0))) (.cons (.ifS (.notE (.call 1 (.cons (.var 5) (.cons (.int 1) (.cons (.kon 18) .nil))))) (.cons (.ret (.e (.bl false))) .nil) .nil) (.cons (.ifS (.cmp .eq (.var 2) (.str "order")) (.cons (.ret (.e (.andE (.call 117 (.cons (.var 1) (.cons (.var 3) (.cons (.var 4) .nil)))) (.one (.cmp .lt (.blt .max (.cons (.var 1) .nil)) (.var 5)))))) .nil) .nil) (.cons (.ifS (.orE (.notE (.call 112 (.cons (.var 1) .nil))) (.one (.cmp .ne (.blt .len (.cons (.var 1) .nil)) (.var 5)))) (.cons (.ret (.e (.bl false))) .nil) .nil) (.cons (.ret (.e (.blt .all (.cons (.lc (.cmp .inn (.var 6) (.call 107 (.cons (.var 3) (.cons (.var 4) .nil)))) (.name 6) (.seq (.var 1)) .no) .nil)))) .nil)))))⟩
/-- accepts_agreement -/
def d119 : Def := ⟨2, 6, (.cons (.set (.tup [(.name 2), (.name 3), (.name 4), (.name 5)]) (.e (.var 0))) (.cons (.ifS (.notE (.call 111 (.cons (.var 3) (.cons (.var 5) .nil)))) (.cons (.ret (.e (.bl false))) .nil) .nil) (.cons (.ifS (.cmp .eq (.var 2) (.str "agreement")) (.cons (.ret (.e (.andE (.call 117 (.cons (.var 1) (.cons (.var 3) (.cons (.var 4) .nil)))) (.one (.cmp .eq (.call 108 (.cons (.var 1) (.cons (.var 3) (.cons (.var 4) .nil)))) (.blt .list (.cons (.var 5) .nil))))))) .nil) .nil) (.cons (.ret (.e (.andE (.call 1 (.cons (.var 1) (.cons (.int 0) (.cons (.bin .sub (.blt .len (.cons (.var 5) .nil)) (.int 1)) .nil)))) (.one (.call 109 (.cons (.var 3) (.cons (.var 4) (.cons (.var 5) (.cons (.var 1) .nil))))))))) .nil))))⟩
/-- accepts_column -/
def d120 : Def := ⟨2, 5, (.cons (.set (.tup [(.name 2), (.name 3), (.name 4)]) (.e (.var 0))) (.cons (.ifS (.notE (.call 114 (.cons (.var 3) (.cons (.var 4) .nil)))) (.cons (.ret (.e (.bl false))) .nil) .nil) (.cons (.ifS (.cmp .eq (.var 2) (.str "column")) (.cons (.ret (.e (.andE (.call 12 (.cons (.var 1) .nil)) (.one (.cmp .eq (.call 113 (.cons (.var 1) (.cons (.var 4) .nil))) (.var 3)))))) .nil) .nil) (.cons (.ret (.e (.call 116 (.cons (.var 3) (.cons (.var 4) (.cons (.var 1) .nil)))))) .nil))))⟩
/-- accepts -/
def d121 : Def := ⟨2, 2, (.cons (.ifS (.orE (.notE (.isi (.var 0) .tuple)) (.orE (.cmp .eq (.var 0) (.tup .nil)) (.one (.notE (.isi (.ix (.var 0) (.int 0)) .str))))) (.cons (.ret (.e (.bl false))) .nil) .nil) (.cons (.ifS (.orE (.cmp .ne (.blt .len (.cons (.var 0) .nil)) (.cget 16 (.ix (.var 0) (.int 0)) (0))) (.orE (.notE (.isi (.ix (.var 0) (.int 2)) .str)) (.one (.cmp .nin (.ix (.var 0) (.int 2)) (.kon 15))))) (.cons (.ret (.e (.bl false))) .nil) .nil) (.cons (.ifS (.cmp .eq (.blt .len (.cons (.var 0) .nil)) (.int 3)) (.cons (.ret (.e (.call 120 (.cons (.var 0) (.cons (.var 1) .nil))))) .nil) .nil) (.cons (.ifS (.notE (.call 103 (.cons (.ix (.var 0) (.int 1)) .nil))) (.cons (.ret (.e (.bl false))) .nil) .nil) (.cons (.ifS (.cmp .inn (.ix (.var 0) (.int 0)) (.tup (.cons (.str "order") (.cons (.str "no order") .nil)))) (.cons (.ret (.e (.call 118 (.cons (.var 0) (.cons (.var 1) .nil))))) .nil) .nil) (.cons (.ret (.e (.call 119 (.cons (.var 0) (.cons (.var 1) .nil))))) .nil))))))⟩
/-- certify_order -/
def d122 : Def := ⟨2, 3, (.cons (.expr (.e (.call 13 (.cons (.var 0) .nil)))) (.cons (.expr (.e (.call 34 (.cons (.var 1) .nil)))) (.cons (.set (.name 2) (.e (.tup (.cons (.attr (.var 0) 0) (.cons (.attr (.var 0) 1) (.cons (.var 1) .nil)))))) (.cons (.ifS (.cmp .lt (.blt .len (.cons (.attr (.var 0) 3) .nil)) (.var 1)) (.cons (.ret (.e (.tup (.cons (.stup false (.cons (.str "order") .nil) (.var 2) .nil) (.cons (.call 19 (.cons (.var 0) .nil)) .nil))))) .nil) .nil) (.cons (.ret (.e (.tup (.cons (.stup false (.cons (.str "no order") .nil) (.var 2) .nil) (.cons (.blt .tuple (.cons (.slc (.attr (.var 0) 3) .no (.some (.var 1))) .nil)) .nil))))) .nil)))))⟩
/-- certify_agreement -/
def d123 : Def := ⟨2, 4, (.cons (.set (.name 2) (.e (.call 63 (.cons (.var 0) (.cons (.var 1) .nil))))) (.cons (.set (.name 3) (.e (.tup (.cons (.attr (.var 0) 0) (.cons (.attr (.var 0) 1) (.cons (.var 1) .nil)))))) (.cons (.ifS (.cmp .isN (.var 2) .non) (.cons (.ret (.e (.tup (.cons (.stup false (.cons (.str "agreement") .nil) (.var 3) .nil) (.cons (.call 64 (.cons (.var 0) (.cons (.var 1) .nil))) .nil))))) .nil) .nil) (.cons (.ret (.e (.tup (.cons (.stup false (.cons (.str "no agreement") .nil) (.var 3) .nil) (.cons (.var 2) .nil))))) .nil))))⟩
/-- check_column -/
def d124 : Def := ⟨1, 3, (.cons (.ifS (.orE (.notE (.isi (.var 0) .tuple)) (.one (.cmp .eq (.var 0) (.tup .nil)))) (.cons .never .nil) .nil) (.cons (.forS (.tup [(.name 1), (.name 2)]) (.enm (.var 0)) (.cons (.ifS (.orE (.cmp .gt (.var 1) (.kon 0)) (.one (.notE (.orE (.call 7 (.cons (.var 2) .nil)) (.one (.andE (.cmp .eq (.var 2) (.kon 19)) (.one (.notE (.isi (.var 2) .bool))))))))) (.cons .never .nil) .nil) .nil)) .nil))⟩
-- 125 steps_of: keywords of sorted
/-- is_marked -/
def d126 : Def := ⟨2, 4, (.cons (.set (.name 2) (.e (.blt .len (.cons (.lc (.var 3) (.name 3) (.seq (.var 0)) (.some (.cmp .eq (.var 3) (.kon 19)))) .nil)))) (.cons (.ret (.e (.andE (.chain .le .le (.int 1) (.bin .sub (.blt .len (.cons (.var 0) .nil)) (.var 2)) (.kon 0)) (.one (.cmp .eq (.var 2) (.ife (.cmp .eq (.var 1) (.str "ring")) (.int 0) (.int 1))))))) .nil))⟩
-- 127 text_of: step
/-- certify_column -/
def d128 : Def := ⟨2, 3, (.cons (.expr (.e (.call 124 (.cons (.var 0) .nil)))) (.cons (.expr (.e (.call 2 (.cons (.var 1) .nil)))) (.cons (.ifS (.notE (.call 126 (.cons (.var 0) (.cons (.var 1) .nil)))) (.cons .never .nil) .nil) (.cons (.set (.name 2) (.e (.call 127 (.cons (.var 0) (.cons (.var 1) .nil))))) (.cons (.ifS (.cmp .isN (.var 2) .non) (.cons (.ret (.e (.tup (.cons (.tup (.cons (.str "no column") (.cons (.var 0) (.cons (.var 1) .nil)))) (.cons (.call 28 (.cons (.var 0) (.cons (.var 1) .nil))) .nil))))) .nil) .nil) (.cons (.ret (.e (.tup (.cons (.tup (.cons (.str "column") (.cons (.var 0) (.cons (.var 1) .nil)))) (.cons (.var 2) .nil))))) .nil))))))⟩
/-- all_ends -/
def d129 : Def := ⟨2, 4, (.cons (.ifS (.cmp .eq (.var 1) (.str "ring")) (.cons (.ret (.e (.lc (.bin .add (.blt .list (.cons (.slc (.var 0) (.some (.var 3)) .no) .nil)) (.blt .list (.cons (.slc (.var 0) .no (.some (.var 3))) .nil))) (.name 3) (.rng1 (.blt .len (.cons (.var 0) .nil))) .no))) .nil) .nil) (.cons (.set (.name 2) (.e (.ife (.cmp .eq (.var 1) (.str "first")) (.lst (.cons (.kon 20) .nil)) (.lst (.cons (.bin .add (.kon 18) (.int 1)) .nil))))) (.cons (.ret (.e (.lc (.bin .add (.blt .list (.cons (.slc (.var 0) (.some (.var 3)) .no) .nil)) (.var 2)) (.name 3) (.rng1 (.blt .len (.cons (.var 0) .nil))) .no))) .nil)))⟩
/-- following -/
def d130 : Def := ⟨2, 5, (.cons (.set (.name 2) (.e (.blt .len (.cons (.var 0) .nil)))) (.cons (.set (.name 3) (.e (.sel ["first", "last", "ring"] (.cons (.kon 20) (.cons (.var 2) (.cons (.mth .index (.var 0) (.cons (.int 0) .nil)) .nil))) (.var 1)))) (.cons (.ret (.e (.lc (.ife (.cmp .lt (.bin .add (.var 4) (.int 1)) (.var 2)) (.mth .index (.var 0) (.cons (.bin .add (.var 4) (.int 1)) .nil)) (.var 3)) (.name 4) (.seq (.var 0)) .no))) .nil)))⟩
/-- column_in -/
def d131 : Def := ⟨2, 5, (.cons (.set (.name 2) (.e (.call 105 (.cons (.var 0) (.cons (.var 1) .nil))))) (.cons (.ifS (.orE (.cmp .isN (.var 2) .non) (.one (.cmp .eq (.var 1) (.str "ring")))) (.cons (.ret (.e (.ife (.cmp .isN (.var 2) .non) .non (.blt .tuple (.cons (.lc (.ix (.var 0) (.bin .sub (.var 4) (.int 1))) (.name 4) (.seq (.var 2)) .no) .nil))))) .nil) .nil) (.cons (.set (.name 3) (.e (.ife (.cmp .eq (.var 1) (.str "first")) (.bin .add (.lst (.cons (.blt .len (.cons (.var 0) .nil)) .nil)) (.var 2)) (.bin .add (.var 2) (.lst (.cons (.blt .len (.cons (.var 0) .nil)) .nil)))))) (.cons (.ret (.e (.blt .tuple (.cons (.lc (.ife (.cmp .eq (.var 4) (.int 0)) (.kon 20) (.ix (.var 0) (.bin .sub (.var 4) (.int 1)))) (.name 4) (.seq (.var 3)) .no) .nil)))) .nil))))⟩
/-- is_row -/
def d132 : Def := ⟨2, 4, (.cons (.ifS (.orE (.notE (.call 110 (.cons (.var 0) .nil))) (.one (.notE (.blt .all (.cons (.lc (.chain .le .le (.kon 20) (.var 3) (.kon 18)) (.name 3) (.seq (.var 0)) .no) .nil))))) (.cons (.ret (.e (.bl false))) .nil) .nil) (.cons (.set (.name 2) (.e (.mth .count (.var 0) (.cons (.kon 20) .nil)))) (.cons (.ret (.e (.andE (.cmp .eq (.var 2) (.ife (.cmp .eq (.var 1) (.str "ring")) (.int 0) (.int 1))) (.one (.chain .le .le (.int 1) (.bin .sub (.blt .len (.cons (.var 0) .nil)) (.var 2)) (.kon 17)))))) .nil)))⟩
/-- step_from -/
def d133 : Def := ⟨3, 5, (.cons (.set (.name 3) (.e (.lc (.ife (.andE (.cmp .eq (.var 1) (.str "last")) (.one (.cmp .eq (.var 4) (.kon 20)))) (.bin .add (.kon 18) (.int 1)) (.var 4)) (.name 4) (.seq (.var 0)) .no))) (.cons (.ret (.e (.bin .add (.blt .len (.cons (.lc (.var 4) (.name 4) (.seq (.var 3)) (.some (.cmp .lt (.var 4) (.ix (.var 3) (.var 2))))) .nil)) (.blt .len (.cons (.lc (.var 4) (.name 4) (.seq (.slc (.var 3) .no (.some (.var 2)))) (.some (.cmp .eq (.var 4) (.ix (.var 3) (.var 2))))) .nil))))) .nil))⟩
/-- column_of -/
def d134 : Def := ⟨2, 5, (.cons (.expr (.e (.call 8 (.cons (.var 0) .nil)))) (.cons (.expr (.e (.call 2 (.cons (.var 1) .nil)))) (.cons (.set (.name 2) (.e (.call 10 (.cons (.var 0) (.cons (.var 1) .nil))))) (.cons (.ifS (.cmp .eq (.var 1) (.str "ring")) (.cons (.ret (.e (.blt .tuple (.cons (.lc (.ix (.var 0) (.bin .sub (.var 4) (.int 1))) (.name 4) (.seq (.var 2)) .no) .nil)))) .nil) .nil) (.cons (.set (.name 3) (.e (.ife (.cmp .eq (.var 1) (.str "first")) (.stup true (.cons (.blt .len (.cons (.var 0) .nil)) .nil) (.var 2) .nil) (.stup true .nil (.var 2) (.cons (.blt .len (.cons (.var 0) .nil)) .nil))))) (.cons (.ret (.e (.blt .tuple (.cons (.lc (.ife (.cmp .gt (.var 4) (.int 0)) (.ix (.var 0) (.bin .sub (.var 4) (.int 1))) (.kon 19)) (.name 4) (.seq (.var 3)) .no) .nil)))) .nil))))))⟩
/-- accepts -/
def d135 : Def := ⟨2, 2, (.cons (.ifS (.orE (.notE (.isi (.var 0) .tuple)) (.orE (.cmp .eq (.var 0) (.tup .nil)) (.one (.notE (.isi (.ix (.var 0) (.int 0)) .str))))) (.cons (.ret (.e (.bl false))) .nil) .nil) (.cons (.ifS (.orE (.cmp .ne (.blt .len (.cons (.var 0) .nil)) (.cget 21 (.ix (.var 0) (.int 0)) (0))) (.orE (.notE (.isi (.ix (.var 0) (.int 2)) .str)) (.one (.cmp .nin (.ix (.var 0) (.int 2)) (.kon 15))))) (.cons (.ret (.e (.bl false))) .nil) .nil) (.cons (.ifS (.cmp .eq (.blt .len (.cons (.var 0) .nil)) (.int 3)) (.cons (.ret (.e (.call 120 (.cons (.var 0) (.cons (.var 1) .nil))))) .nil) .nil) (.cons (.ifS (.notE (.call 103 (.cons (.ix (.var 0) (.int 1)) .nil))) (.cons (.ret (.e (.bl false))) .nil) .nil) (.cons (.ifS (.cmp .inn (.ix (.var 0) (.int 0)) (.tup (.cons (.str "order") (.cons (.str "no order") .nil)))) (.cons (.ret (.e (.call 118 (.cons (.var 0) (.cons (.var 1) .nil))))) .nil) .nil) (.cons (.ret (.e (.call 119 (.cons (.var 0) (.cons (.var 1) .nil))))) .nil))))))⟩
/-- is_promise -/
def d136 : Def := ⟨1, 2, (.cons (.ifS (.orE (.notE (.isi (.var 0) .tuple)) (.orE (.cmp .lt (.blt .len (.cons (.var 0) .nil)) (.int 3)) (.one (.notE (.isi (.ix (.var 0) (.int 0)) .str))))) (.cons (.ret (.e (.bl false))) .nil) .nil) (.cons (.ifS (.orE (.cmp .ne (.cget 22 (.ix (.var 0) (.int 0)) (0)) (.blt .len (.cons (.var 0) .nil))) (.one (.notE (.call 96 (.cons (.ix (.var 0) (.int 1)) .nil))))) (.cons (.ret (.e (.bl false))) .nil) .nil) (.cons (.ifS (.cmp .eq (.blt .len (.cons (.var 0) .nil)) (.int 3)) (.cons (.ret (.e (.call 1 (.cons (.ix (.var 0) (.int 2)) (.cons (.int 0) (.cons (.kon 11) .nil)))))) .nil) .nil) (.cons (.set (.name 1) (.e (.ife (.cmp .eq (.ix (.var 0) (.int 0)) (.str "order")) (.call 90 (.cons (.ix (.var 0) (.int 2)) .nil)) (.call 96 (.cons (.ix (.var 0) (.int 2)) .nil))))) (.cons (.ret (.e (.andE (.var 1) (.andE (.isi (.ix (.var 0) (.int 3)) .str) (.one (.cmp .inn (.ix (.var 0) (.int 3)) (.kon 5))))))) .nil)))))⟩
/-- Order.__init__ -/
def d900 : Def := ⟨3, 3, (.cons (.expr (.e (.call 3 (.cons (.var 1) .nil)))) (.cons (.expr (.e (.call 2 (.cons (.var 2) .nil)))) (.cons (.parA 0 [0, 1] (.cons (.var 1) (.cons (.var 2) .nil))) (.cons (.parA 0 [2, 3] (.cons (.call 4 (.cons (.var 1) .nil)) (.cons (.call 6 (.cons (.var 1) (.cons (.var 2) .nil))) .nil))) .nil))))⟩
/-- Order.places -/
def d901 : Def := ⟨1, 1, (.cons (.ret (.e (.attr (.var 0) 0))) .nil)⟩
/-- Order.kind -/
def d902 : Def := ⟨1, 1, (.cons (.ret (.e (.attr (.var 0) 1))) .nil)⟩
/-- Order.ranks -/
def d903 : Def := ⟨1, 1, (.cons (.ret (.e (.blt .tuple (.cons (.attr (.var 0) 2) .nil)))) .nil)⟩
/-- Order.rises -/
def d904 : Def := ⟨1, 1, (.cons (.ret (.e (.blt .tuple (.cons (.attr (.var 0) 3) .nil)))) .nil)⟩
def kons : List (Nat × Val) := [(0, (.int (60))), (1, (.int (1000000000000000000))), (2, (.int (200))), (3, (.int (7))), (4, (.int (20))), (5, (.tup [(.str "first"), (.str "last"), (.str "ring")])), (6, (.int (1000000000000000001))), (7, (.int (-1))), (8, (.str "abcdefghijklmnopqrstuvwxyz")), (9, (.int (8))), (11, (.int (1000000))), (12, (.int (8))), (13, (.str "0123456789")), (14, (.int (19))), (15, (.tup [(.str "first"), (.str "last"), (.str "ring")])), (17, (.int (60))), (18, (.int (1000000000000000000))), (19, (.int (-1))), (20, (.int (-1)))]
def kdL : List (Nat × List (Str × Int)) := [(10, [("order", 4), ("alike", 4), ("letters", 3), ("parts", 3)]), (16, [("order", 4), ("no order", 4), ("agreement", 4), ("no agreement", 4), ("column", 3), ("no column", 3)]), (21, [("order", 4), ("no order", 4), ("agreement", 4), ("no agreement", 4), ("column", 3), ("no column", 3)]), (22, [("order", 4), ("alike", 4), ("letters", 3), ("parts", 3)])]
def ofL : List (Nat × List Nat) := [(0, [0, 1, 2, 3])]
def prL : List (Nat × List (Nat × Nat)) := [(0, [(4, 901), (5, 902), (6, 903), (7, 904)])]
def Xt : Txt := { konst := fun i => lk kons i, kdict := fun i => lk kdL i, of := fun c => lk ofL c, pr := fun c a => (lk prL c).bind fun l => lk l a }
def fns : List (Nat × Fn) := [(0, .body d0), (1, .body d1), (2, .body d2), (3, .body d3), (4, .body d4), (5, .body d5), (6, .body d6), (7, .body d7), (8, .body d8), (9, .body d9), (11, .body d11), (12, .body d12), (13, .body d13), (14, .body d14), (15, .body d15), (16, .body d16), (17, .body d17), (18, .body d18), (19, .body d19), (20, .body d20), (21, .body d21), (23, .body d23), (24, .body d24), (25, .body d25), (26, .body d26), (28, .body d28), (29, .body d29), (30, .body d30), (31, .body d31), (32, .body d32), (33, .body d33), (34, .body d34), (35, .body d35), (36, .body d36), (37, .body d37), (38, .body d38), (39, .body d39), (40, .body d40), (41, .body d41), (43, .body d43), (44, .body d44), (45, .body d45), (46, .body d46), (47, .body d47), (50, .body d50), (51, .body d51), (53, .body d53), (54, .body d54), (55, .body d55), (56, .body d56), (57, .body d57), (58, .body d58), (59, .body d59), (60, .body d60), (61, .body d61), (62, .body d62), (63, .body d63), (64, .body d64), (66, .body d66), (67, .body d67), (68, .body d68), (69, .body d69), (70, .body d70), (71, .body d71), (72, .body d72), (73, .body d73), (74, .body d74), (75, .body d75), (76, .body d76), (77, .body d77), (78, .body d78), (79, .body d79), (80, .body d80), (81, .body d81), (82, .body d82), (83, .body d83), (84, .body d84), (85, .body d85), (86, .body d86), (87, .body d87), (88, .body d88), (89, .body d89), (91, .body d91), (92, .body d92), (94, .body d94), (95, .body d95), (96, .body d96), (97, .body d97), (98, .body d98), (99, .body d99), (100, .body d100), (103, .body d103), (104, .body d104), (105, .body d105), (106, .body d106), (107, .body d107), (108, .body d108), (109, .body d109), (110, .body d110), (111, .body d111), (112, .body d112), (113, .body d113), (114, .body d114), (115, .body d115), (116, .body d116), (117, .body d117), (118, .body d118), (119, .body d119), (120, .body d120), (121, .body d121), (122, .body d122), (123, .body d123), (124, .body d124), (126, .body d126), (128, .body d128), (129, .body d129), (130, .body d130), (131, .body d131), (132, .body d132), (133, .body d133), (134, .body d134), (135, .body d135), (136, .body d136), (900, .init 0 d900), (901, .body d901), (902, .body d902), (903, .body d903), (904, .body d904)]
theorem lk_mem {α : Type} : ∀ {l : List (Nat × α)} {i : Nat} {v : α}, lk l i = some v → (i, v) ∈ l
  | [], _, _, h => by cases h
  | (k, u) :: r, i, v, h => by
    unfold lk at h
    split at h
    · rename_i q
      cases h
      rw [Nat.eq_of_beq_eq_true q]; exact List.mem_cons_self
    · exact List.mem_cons_of_mem _ (lk_mem h)
/-- a text: the package under its numbers, the law behind -/
def Of (law : List (Nat × Fn)) : Nat → Option Fn := fun i => match Nat.ble 1000 i with | true => lk law i | false => lk fns i
end Pk
namespace MA
/-! numbers of ways, in plain Lean -/
def bin : Nat → Nat → Nat
  | _, 0 => 1
  | 0, _ + 1 => 0
  | n + 1, k + 1 => bin n k + bin n (k + 1)
theorem bin_0 (n : Nat) : bin n 0 = 1 := by cases n <;> rfl
theorem bin_big : ∀ (n k : Nat), n < k → bin n k = 0
  | 0, k + 1, _ => rfl
  | n + 1, k + 1, h => by
    show bin n k + bin n (k + 1) = 0
    rw [bin_big n k (by omega), bin_big n (k + 1) (by omega)]
theorem bin_mul : ∀ (n k : Nat), bin n (k + 1) * (k + 1) = bin n k * (n - k)
  | 0, k => by
    show 0 * (k + 1) = _
    rw [Nat.zero_mul, Nat.zero_sub, Nat.mul_zero]
  | n + 1, 0 => by
    have ih : bin n 1 * 1 = bin n 0 * (n - 0) := bin_mul n 0
    rw [bin_0, Nat.sub_zero, Nat.one_mul] at ih
    show (bin n 0 + bin n 1) * 1 = 1 * (n + 1)
    rw [bin_0]
    omega
  | n + 1, j + 1 => by
    have i1 := bin_mul n j
    have i2 := bin_mul n (j + 1)
    show (bin n (j + 1) + bin n (j + 2)) * (j + 2) = (bin n j + bin n (j + 1)) * (n + 1 - (j + 1))
    rw [Nat.add_mul, i2, Nat.add_mul, show n + 1 - (j + 1) = n - j by omega, ← i1, ← Nat.mul_add, ← Nat.mul_add]
    by_cases h : j + 1 ≤ n
    · rw [show j + 2 + (n - (j + 1)) = j + 1 + (n - j) by omega]
    · rw [bin_big n (j + 1) (by omega), Nat.zero_mul, Nat.zero_mul]
theorem bin_le : ∀ (n k : Nat), bin n k ≤ 2 ^ n
  | n, 0 => by rw [bin_0]; exact Nat.one_le_two_pow
  | 0, k + 1 => Nat.zero_le _
  | n + 1, k + 1 => by
    have h1 := bin_le n k
    have h2 := bin_le n (k + 1)
    show bin n k + bin n (k + 1) ≤ 2 ^ (n + 1)
    rw [Nat.pow_succ]
    omega
def fact : Nat → Nat
  | 0 => 1
  | n + 1 => fact n * (n + 1)
theorem fact_pos : ∀ n, 0 < fact n
  | 0 => by decide
  | n + 1 => Nat.mul_pos (fact_pos n) (by omega)
theorem bin_fact (n : Nat) : ∀ k, k ≤ n → bin n k * (fact k * fact (n - k)) = fact n
  | 0, _ => by rw [bin_0, Nat.sub_zero]; simp [fact]
  | k + 1, h => by
    have ih := bin_fact n k (by omega)
    have e : fact (n - k) = fact (n - (k + 1)) * (n - k) := by
      obtain ⟨d, hd⟩ : ∃ d, n - k = d + 1 := ⟨n - k - 1, by omega⟩
      rw [show n - (k + 1) = d by omega, hd]; rfl
    rw [e] at ih
    have m := bin_mul n k
    show bin n (k + 1) * (fact k * (k + 1) * fact (n - (k + 1))) = fact n
    rw [← ih]
    calc bin n (k + 1) * (fact k * (k + 1) * fact (n - (k + 1))) = (bin n (k + 1) * (k + 1)) * (fact k * fact (n - (k + 1))) := by ac_rfl
      _ = (bin n k * (n - k)) * (fact k * fact (n - (k + 1))) := by rw [m]
      _ = bin n k * (fact k * (fact (n - (k + 1)) * (n - k))) := by ac_rfl
theorem bin_symm (n k : Nat) (h : k ≤ n) : bin n (n - k) = bin n k := by
  have h1 := bin_fact n k h
  have h2 := bin_fact n (n - k) (by omega)
  rw [show n - (n - k) = k by omega] at h2
  have p : 0 < fact k * fact (n - k) := Nat.mul_pos (fact_pos _) (fact_pos _)
  refine Nat.eq_of_mul_eq_mul_right p ?_
  rw [h1, Nat.mul_comm (fact k), h2]
def fall (n : Nat) : Nat → Nat
  | 0 => 1
  | k + 1 => fall n k * (n - k)
theorem bin_fall (n : Nat) : ∀ k, bin n k * fact k = fall n k
  | 0 => by rw [bin_0]; rfl
  | k + 1 => by
    show bin n (k + 1) * (fact k * (k + 1)) = fall n k * (n - k)
    rw [← bin_fall n k]
    calc bin n (k + 1) * (fact k * (k + 1)) = bin n (k + 1) * (k + 1) * fact k := by ac_rfl
      _ = bin n k * (n - k) * fact k := by rw [bin_mul]
      _ = bin n k * fact k * (n - k) := by ac_rfl
/-- rows of so many of each, t others ahead -/
def arrL : Nat → List Nat → Nat
  | _, [] => 1
  | t, c :: r => bin (t + c) c * arrL (t + c) r
def prodF : List Nat → Nat
  | [] => 1
  | c :: r => fact c * prodF r
theorem prodF_pos : ∀ l, 0 < prodF l
  | [] => by decide
  | c :: r => Nat.mul_pos (fact_pos c) (prodF_pos r)
theorem arrL_fact : ∀ (l : List Nat) (t : Nat), arrL t l * (prodF l * fact t) = fact (t + l.sum)
  | [], t => by simp [arrL, prodF]
  | c :: r, t => by
    have ih := arrL_fact r (t + c)
    have b := bin_fact (t + c) c (by omega)
    rw [show t + c - c = t by omega] at b
    rw [List.sum_cons, show t + (c + r.sum) = t + c + r.sum by omega, ← ih, ← b]
    show bin (t + c) c * arrL (t + c) r * (fact c * prodF r * fact t) = _
    ac_rfl
theorem prodF_perm {l m : List Nat} (h : l.Perm m) : prodF l = prodF m := by
  induction h with
  | nil => rfl
  | cons x _ ih => show fact x * _ = fact x * _; rw [ih]
  | swap x y l => show fact y * (fact x * _) = fact x * (fact y * _); ac_rfl
  | trans _ _ h1 h2 => exact h1.trans h2
theorem sum_perm {l m : List Nat} (h : l.Perm m) : l.sum = m.sum := by
  induction h with
  | nil => rfl
  | cons x _ ih => rw [List.sum_cons, List.sum_cons, ih]
  | swap x y l => simp only [List.sum_cons]; omega
  | trans _ _ h1 h2 => exact h1.trans h2
theorem arrL_perm {l m : List Nat} (h : l.Perm m) : arrL 0 l = arrL 0 m := by
  have h1 := arrL_fact l 0
  have h2 := arrL_fact m 0
  rw [← prodF_perm h, ← sum_perm h, ← h1] at h2
  exact (Nat.eq_of_mul_eq_mul_right (Nat.mul_pos (prodF_pos l) (fact_pos 0)) h2).symm
theorem arrL_snoc : ∀ (l : List Nat) (t x : Nat), arrL t (l ++ [x]) = arrL t l * bin (t + l.sum + x) x
  | [], t, x => by simp [arrL]
  | c :: r, t, x => by
    show bin (t + c) c * arrL (t + c) (r ++ [x]) = bin (t + c) c * arrL (t + c) r * _
    rw [arrL_snoc r (t + c) x, List.sum_cons, show t + (c + r.sum) + x = t + c + r.sum + x by omega, Nat.mul_assoc]
theorem bin_1 (n : Nat) : bin n 1 = n := by
  have : bin n 1 * 1 = bin n 0 * (n - 0) := bin_mul n 0
  rw [bin_0, Nat.sub_zero, Nat.one_mul] at this
  omega
theorem bin_self : ∀ n, bin n n = 1
  | 0 => rfl
  | n + 1 => by
    show bin n n + bin n (n + 1) = 1
    rw [bin_self n, bin_big n (n + 1) (by omega)]
/-- divisors, the sign of a product of unlike primes -/
def divs (n : Nat) : List Nat := (List.range n).filterMap fun i => if n % (i + 1) == 0 then some (i + 1) else none
def sgL : List Nat → Int → Nat → Int
  | [], f, _ => f
  | p :: ps, f, r => match r % p == 0 with
    | true => match r / p % p == 0 with
      | true => 0
      | false => sgL ps (-f) (r / p)
    | false => sgL ps f r
def sgn (n : Nat) : Int := sgL ((List.range (n - 1)).map (· + 2)) 1 n
theorem sgL_abs : ∀ (ps : List Nat) (f : Int) (r : Nat), (sgL ps f r).natAbs ≤ f.natAbs
  | [], f, r => Nat.le_refl _
  | p :: ps, f, r => by
    unfold sgL
    split
    · split
      · exact Nat.zero_le _
      · have := sgL_abs ps (-f) (r / p)
        rw [Int.natAbs_neg] at this; exact this
    · exact sgL_abs ps f r
theorem sgn_abs (n : Nat) : (sgn n).natAbs ≤ 1 := sgL_abs _ 1 n
def ringN (k m : Nat) : Int := ((divs k).map fun d => sgn d * ((m ^ (k / d) : Nat) : Int)).sum / k
def maxL (l : List Nat) : Nat := l.foldl max 0
def shared (l : List Nat) : List Nat := (divs (maxL l)).filter fun p => l.all fun c => c % p == 0
def ringW (l : List Nat) : Int := ((shared l).map fun p => sgn p * ((arrL 0 (l.map (· / p)) : Nat) : Int)).sum / l.sum
theorem foldl_max_mem : ∀ (l : List Nat) (a : Nat), l.foldl max a = a ∨ l.foldl max a ∈ l
  | [], a => .inl rfl
  | x :: l, a => by
    rw [List.foldl_cons]
    rcases foldl_max_mem l (max a x) with h | h
    · rw [h]
      by_cases q : a ≤ x
      · rw [Nat.max_eq_right q]; exact .inr List.mem_cons_self
      · rw [Nat.max_eq_left (by omega)]; exact .inl rfl
    · exact .inr (List.mem_cons_of_mem _ h)
theorem foldl_max_ge : ∀ (l : List Nat) (a : Nat), a ≤ l.foldl max a ∧ ∀ x ∈ l, x ≤ l.foldl max a
  | [], a => ⟨Nat.le_refl _, fun _ h => by cases h⟩
  | x :: l, a => by
    rw [List.foldl_cons]
    obtain ⟨h1, h2⟩ := foldl_max_ge l (max a x)
    refine ⟨Nat.le_trans (Nat.le_max_left _ _) h1, fun y hy => ?_⟩
    rcases List.mem_cons.mp hy with e | e
    · rw [e]; exact Nat.le_trans (Nat.le_max_right _ _) h1
    · exact h2 y e
theorem maxL_perm {l m : List Nat} (h : l.Perm m) : maxL l = maxL m := by
  have key : ∀ {l m : List Nat}, l.Perm m → maxL l ≤ maxL m := fun {l m} h => by
    rcases foldl_max_mem l 0 with e | e
    · unfold maxL; omega
    · exact (foldl_max_ge m 0).2 _ (h.mem_iff.mp e)
  exact Nat.le_antisymm (key h) (key h.symm)
theorem ringW_perm {l m : List Nat} (h : l.Perm m) : ringW l = ringW m := by
  unfold ringW
  have e1 : shared l = shared m := by
    unfold shared
    rw [maxL_perm h]
    refine List.filter_congr fun p _ => ?_
    rw [Bool.eq_iff_iff, List.all_eq_true, List.all_eq_true]
    exact ⟨fun q x hx => q x (h.mem_iff.mpr hx), fun q x hx => q x (h.mem_iff.mp hx)⟩
  rw [e1, sum_perm h]
  congr 2
  exact List.map_congr_left fun p _ => by rw [arrL_perm (h.map (· / p))]
theorem divs_mem {n p : Nat} : p ∈ divs n ↔ 0 < p ∧ p ≤ n ∧ n % p = 0 := by
  unfold divs
  rw [List.mem_filterMap]
  constructor
  · rintro ⟨i, hi, h⟩
    split at h
    · cases h
      have := List.mem_range.mp hi
      rename_i q
      exact ⟨by omega, by omega, by simpa using q⟩
    · cases h
  · rintro ⟨h1, h2, h3⟩
    refine ⟨p - 1, List.mem_range.mpr (by omega), ?_⟩
    rw [show p - 1 + 1 = p by omega, h3]; rfl
/-- with one letter of its own: all arrangements are unlike -/
theorem ringW_one (l : List Nat) : ringW (l ++ [1]) = ((arrL 0 l : Nat) : Int) := by
  have hs : shared (l ++ [1]) = [1] := by
    have hm : 0 < maxL (l ++ [1]) := (foldl_max_ge (l ++ [1]) 0).2 1 (by simp)
    have f : ∀ p ∈ divs (maxL (l ++ [1])), ((l ++ [1]).all fun c => c % p == 0) = decide (p = 1) := fun p hp => by
      obtain ⟨h1, _, _⟩ := divs_mem.mp hp
      by_cases q : p = 1
      · subst q
        rw [decide_eq_true rfl, List.all_eq_true]
        intro c _
        rw [Nat.mod_one]; rfl
      · rw [decide_eq_false q, List.all_eq_false]
        refine ⟨1, by simp, ?_⟩
        rw [Nat.mod_eq_of_lt (by omega)]; simp
    unfold shared
    rw [List.filter_congr f]
    obtain ⟨d, hd⟩ : ∃ d, maxL (l ++ [1]) = d + 1 := ⟨maxL (l ++ [1]) - 1, by omega⟩
    rw [hd]
    unfold divs
    rw [List.range_succ_eq_map, List.filterMap_cons]
    rw [show (if (d + 1) % (0 + 1) == 0 then some (0 + 1) else none) = some 1 by rw [Nat.zero_add, Nat.mod_one]; rfl]
    show List.filter (fun p => decide (p = 1)) (1 :: _) = [1]
    rw [List.filter_cons, if_pos (by rfl)]
    congr 1
    rw [List.filter_eq_nil_iff]
    intro p hp
    rw [List.filterMap_map, List.mem_filterMap] at hp
    obtain ⟨i, _, hi⟩ := hp
    dsimp only [Function.comp] at hi
    split at hi
    · cases hi; simp
    · cases hi
  have h1 : (l ++ [1]).map (· / 1) = l ++ [1] := by
    have : (fun c : Nat => c / 1) = id := by funext c; rw [Nat.div_one]; rfl
    rw [this, List.map_id]
  unfold ringW
  rw [hs, List.map_cons, List.map_nil, List.sum_cons, List.sum_nil, h1, Int.add_zero, show sgn 1 = 1 from rfl, Int.one_mul, arrL_snoc, bin_1, Nat.zero_add]
  have e : (l ++ [1]).sum = l.sum + 1 := by rw [List.sum_append]; rfl
  rw [e, Int.natCast_mul, Int.mul_ediv_cancel _ (by omega)]
end MA
local macro_rules | `(tactic| push_cast [$ls,*] $[$loc]?) => `(tactic| simp only [EV.dE_var, EV.dE_non, EV.dE_bl, EV.dE_int, EV.dE_str, EV.dE_kon, EV.dE_bin, EV.dE_neg, EV.dE_eq, EV.dE_ne, EV.dE_lt, EV.dE_le, EV.dE_gt, EV.dE_ge, EV.dE_inn, EV.dE_nin, EV.dE_isN, EV.dE_notN, EV.dE_isB, EV.dE_isnB, EV.dE_chain, EV.dE_and, EV.dE_or, EV.dE_one, EV.dE_not, EV.dE_ife, EV.dE_tup, EV.dE_lst, EV.dE_ix, EV.dE_slc, EV.dE_ixo, EV.dE_lenO, EV.dE_tupO, EV.dE_call, EV.dE_new, EV.dE_callK, EV.dE_blt, EV.dE_mth, EV.dE_lc, EV.dE_lc2, EV.dE_stup, EV.rowD_tup, EV.rowD_lst, EV.stv_f, EV.stv_t, EV.asg_lst, EV.dE_sel, EV.dE_cget, EV.dE_isi, EV.dE_lrg, EV.dE_attr, EV.dE_meth, EV.dE_isiC, EV.dE_xfld, EV.dE_xisi, EV.lcTn_no, EV.lcTn_some, EV.dEs_nil, EV.dEs_cons, EV.dP_no, EV.dP_some, EV.dI_seq, EV.dI_rng1, EV.dI_rng2, EV.dI_enm, EV.dI_zip, EV.dR_e, EV.dR_own, EV.dR_pop, EV.dRs_nil, EV.dRs_cons, EV.dS_expr, EV.dS_ret, EV.dS_retN, EV.dS_set, EV.dS_setT, EV.dS_par, EV.dS_append, EV.dS_setIx, EV.dS_insert, EV.dS_extend, EV.dS_if, EV.dS_for, EV.dS_brk, EV.dS_cont, EV.dS_pass, EV.dS_raise, EV.dS_setA, EV.dS_parA, EV.pAs_nil, EV.pAs_cons, EV.dSs_nil, EV.dSs_cons, EV.Ro.bind_ok, EV.Ro.bind_ex, EV.Ro.of_some, EV.Ro.calm_ok, EV.Ro.st_ok, EV.Ro.st_ex, EV.ifV_bl, EV.bl_bl, EV.finD_nx, EV.finD_xc, EV.finD_rt, EV.Out.of_some, EV.Out.then_nx, EV.Out.then_rt, EV.Out.then_xc, EV.Out.then_bk, EV.Out.then_ct, EV.iD_non, EV.iD_bl, EV.iD_int, EV.iD_str, EV.iD_tup, EV.iD_tupk, EV.iD_lst, EV.iD_obj, EV.pA_nil, EV.pA_cons, EV.wipe_nil, EV.wipe_cons, EV.tv_name, EV.tv_tup, EV.tvL_nil, EV.tvL_cons, EV.asg_tup, EV.asg_tupk, EV.asgs_nil, EV.asgs_cons, EV.ob_some, EV.chD_b, EV.cop_lt, EV.cop_le, EV.cop_gt, EV.cop_ge, EV.dS_never, EV.blt_sumL, EV.blt_sumT, EV.blt_allL, EV.blt_max2, EV.blt_min2, EV.blt_lenL, EV.blt_lenT, EV.blt_intI, EV.blt_intB, EV.blt_tupL, EV.blt_lstT, EV.blt_lstL, EV.isi_non_int, EV.isi_non_bool, EV.isi_non_str, EV.isi_non_tuple, EV.isi_non_list, EV.isi_bl_int, EV.isi_bl_bool, EV.isi_bl_str, EV.isi_bl_tuple, EV.isi_bl_list, EV.isi_int_int, EV.isi_int_bool, EV.isi_int_str, EV.isi_int_tuple, EV.isi_int_list, EV.isi_str_int, EV.isi_str_bool, EV.isi_str_str, EV.isi_str_tuple, EV.isi_str_list, EV.isi_tup_int, EV.isi_tup_bool, EV.isi_tup_str, EV.isi_tup_tuple, EV.isi_tup_list, EV.isi_lst_int, EV.isi_lst_bool, EV.isi_lst_str, EV.isi_lst_tuple, EV.isi_lst_list, EV.bop_add, EV.bop_sub, EV.optI_int, EV.notD_bl, EV.negD_int, EV.ownD_lst, EV.seqD_lst, EV.seqD_tup, EV.enmD_lst, EV.enmD_tup, EV.cD_lt, EV.cD_le, EV.cD_gt, EV.cD_ge, EV.cD_eqI, EV.cD_neI, EV.cD_eqS, EV.cD_neS, List.length_cons, List.length_nil, List.cons_append, List.nil_append, Nat.zero_lt_succ, Nat.succ_lt_succ_iff, Nat.lt_irrefl, Nat.reduceAdd, Nat.reduceLT, Nat.reduceSub, Nat.reduceLeDiff, List.map_cons, List.map_nil, List.replicate, Nat.succ_eq_add_one, EV.gV_0, EV.gD_0, EV.gM_0, EV.eS_0, EV.pD_0, EV.aN_0, EV.gV_1, EV.gD_1, EV.gM_1, EV.eS_1, EV.pD_1, EV.aN_1, EV.gV_2, EV.gD_2, EV.gM_2, EV.eS_2, EV.pD_2, EV.aN_2, EV.gV_3, EV.gD_3, EV.gM_3, EV.eS_3, EV.pD_3, EV.aN_3, EV.gV_4, EV.gD_4, EV.gM_4, EV.eS_4, EV.pD_4, EV.aN_4, EV.gV_5, EV.gD_5, EV.gM_5, EV.eS_5, EV.pD_5, EV.aN_5, EV.gV_6, EV.gD_6, EV.gM_6, EV.eS_6, EV.pD_6, EV.aN_6, EV.gV_7, EV.gD_7, EV.gM_7, EV.eS_7, EV.pD_7, EV.aN_7, EV.gV_8, EV.gD_8, EV.gM_8, EV.eS_8, EV.pD_8, EV.aN_8, EV.gV_9, EV.gD_9, EV.gM_9, EV.eS_9, EV.pD_9, EV.aN_9, EV.gV_10, EV.gD_10, EV.gM_10, EV.eS_10, EV.pD_10, EV.aN_10, EV.gV_11, EV.gD_11, EV.gM_11, EV.eS_11, EV.pD_11, EV.aN_11, EV.gV_12, EV.gD_12, EV.gM_12, EV.eS_12, EV.pD_12, EV.aN_12, EV.gV_13, EV.gD_13, EV.gM_13, EV.eS_13, EV.pD_13, EV.aN_13, EV.gV_14, EV.gD_14, EV.gM_14, EV.eS_14, EV.pD_14, EV.aN_14, EV.gV_15, EV.gD_15, EV.gM_15, EV.eS_15, EV.pD_15, EV.aN_15, EV.gV_16, EV.gD_16, EV.gM_16, EV.eS_16, EV.pD_16, EV.aN_16, EV.gV_17, EV.gD_17, EV.gM_17, EV.eS_17, EV.pD_17, EV.aN_17, EV.gV_18, EV.gD_18, EV.gM_18, EV.eS_18, EV.pD_18, EV.aN_18, EV.gV_19, EV.gD_19, EV.gM_19, EV.eS_19, EV.pD_19, EV.aN_19, EV.gV_20, EV.gD_20, EV.gM_20, EV.eS_20, EV.pD_20, EV.aN_20, EV.gV_21, EV.gD_21, EV.gM_21, EV.eS_21, EV.pD_21, EV.aN_21, EV.gV_22, EV.gD_22, EV.gM_22, EV.eS_22, EV.pD_22, EV.aN_22, EV.gV_23, EV.gD_23, EV.gM_23, EV.eS_23, EV.pD_23, EV.aN_23, EV.szD_0, EV.szD_1, EV.szD_2, EV.szD_3, EV.szD_4, EV.szD_5, EV.szD_6, EV.szD_7, EV.szD_8, EV.szD_9, EV.szD_10, EV.szD_11, $ls,*] $[$loc]?)
namespace NK
open PySem PySem.Spec PyProof.Rows L2 EV
open Pk (Of Xt)
open MA
/-! what the defs about numbers compute -/
def toV (ns : List Nat) : List Val := ns.map fun n => .int (n : Nat)
theorem toV_ints (ns : List Nat) : toV ns = (ns.map fun (n : Nat) => (n : Int)).map .int := by rw [toV, List.map_map]; rfl
theorem toV_len (ns : List Nat) : (toV ns).length = ns.length := by rw [toV, List.length_map]
section
variable {law : List (Nat × Fn)}
theorem kon0 : Xt.konst 0 = some (.int 60) := thru rfl
theorem kon1 : Xt.konst 1 = some (.int 1000000000000000000) := thru rfl
theorem kon2 : Xt.konst 2 = some (.int 200) := thru rfl
theorem D0 {n : Nat} {i : Int} : semD Xt (Of law) (n + 1) 0 [.int i] = .ok (.bl true) := by
  rw [semD_body (d := Pk.d0) rfl, Pk.d0, run_def (by rfl)]
  push_cast [if_true, Bool.not_false]
theorem D1 {n : Nat} {i lo hi : Int} : semD Xt (Of law) (n + 2) 1 [.int i, .int lo, .int hi] = .ok (.bl (decide (lo ≤ i) && decide (i ≤ hi))) := by
  rw [semD_body (d := Pk.d1) rfl, Pk.d1, run_def (by rfl)]
  push_cast [D0, if_true]
  by_cases h : lo ≤ i <;> simp [h, Ro.bind, Ro.st, Out.then, finD, isData]
theorem D34 {n : Nat} {m : Int} (h1 : 1 ≤ m) (h2 : m ≤ 1000000000000000000) : semD Xt (Of law) (n + 3) 34 [.int m] = .ok .non := by
  rw [semD_body (d := Pk.d34) rfl, Pk.d34, run_def (by rfl)]
  push_cast [kon1, D1, h1, h2, decide_true, Bool.and_self, Bool.not_true, if_false, Bool.false_eq_true]
theorem D69 {n : Nat} {m : Int} (h1 : 1 ≤ m) (h2 : m ≤ 200) : semD Xt (Of law) (n + 3) 69 [.int m] = .ok .non := by
  rw [semD_body (d := Pk.d69) rfl, Pk.d69, run_def (by rfl)]
  push_cast [kon2, D1, h1, h2, decide_true, Bool.and_self, Bool.not_true, if_false, Bool.false_eq_true]
/-- the numbers from a, b of them -/
theorem rgl_nat (a b : Nat) : rgl (a : Int) b = toV ((List.range b).map (a + ·)) := by
  rw [rgl_map, toV, List.map_map]
  refine List.map_congr_left fun i _ => ?_
  show Val.int ((a : Int) + (i : Int)) = Val.int ((a + i : Nat) : Int)
  rw [Int.natCast_add]
theorem mod_nat {a b : Nat} (h : 0 < b) : bop .mod (.int (a : Nat)) (.int (b : Nat)) = some (.int ((a % b : Nat) : Int)) := by
  rw [bop_mod (by omega)]; rfl
theorem fdv_nat {a b : Nat} (h : 0 < b) (h2 : b < 2 ^ 64) : bop .fdv (.int (a : Nat)) (.int (b : Nat)) = some (.int ((a / b : Nat) : Int)) := by
  rw [bop_fdv ⟨by omega, ?_⟩]
  · rfl
  · have : ((b : Nat) : Int).natAbs = b := rfl
    rw [this]
    have := Nat.log2_lt (n := b) (k := 64) (by omega)
    omega
theorem beq_nat {a b : Nat} : (((a : Nat) : Int) == ((b : Nat) : Int)) = (a == b) := by
  rw [Bool.eq_iff_iff, beq_iff_eq, beq_iff_eq]
  omega
theorem filterMap_congr' {α β : Type} {f g : α → Option β} : ∀ {l : List α}, (∀ a ∈ l, f a = g a) → l.filterMap f = l.filterMap g
  | [], _ => rfl
  | a :: l, h => by
    rw [List.filterMap_cons, List.filterMap_cons, h a List.mem_cons_self, filterMap_congr' fun b hb => h b (List.mem_cons_of_mem _ hb)]
theorem beq_0 {a : Nat} : (((a : Nat) : Int) == 0) = (a == 0) := beq_nat (b := 0)
theorem D70 {n k : Nat} (hk : k ≤ 1000) : semD Xt (Of law) (n + 1) 70 [.int k] = .ok (.lst (toV (divs k))) := by
  rw [semD_body (d := Pk.d70) rfl, Pk.d70, run_def (by rfl)]
  have e1 : rgOk (1 : Int) = true := rgOk_in (by omega) (by omega)
  have e2 : rgOk ((k : Int) + 1) = true := rgOk_in (by omega) (by omega)
  have e3 : ((k : Int) + 1 - 1).toNat = k := by omega
  push_cast [rng2D_ok e1 e2, e3, rgl_map, lcD_map]
  rw [lcG_fm (f := fun i => if k % (i + 1) == 0 then some (.int ((i + 1 : Nat) : Int)) else none)]
  · have e4 : (List.range k).filterMap (fun i => if k % (i + 1) == 0 then some (Val.int ((i + 1 : Nat) : Int)) else none) = toV (divs k) := by
      rw [toV, divs, List.map_filterMap]
      refine filterMap_congr' fun i _ => ?_
      cases k % (i + 1) == 0 <;> rfl
    have e5 : (toV (divs k)).length ≤ sizeLine := by
      rw [toV_len]
      refine Nat.le_trans (List.length_filterMap_le _ _) (sz_in ?_)
      rw [List.length_range]; omega
    push_cast [e4, szD_ok e5]
  · intro i hi
    have q : (1 : Int) + (i : Int) = ((i + 1 : Nat) : Int) := by omega
    push_cast [q, mod_nat (Nat.succ_pos i), beq_0]
    cases k % (i + 1) == 0 <;> simp [Ro.bind]
theorem bopmul_abs {i j : Int} (h : i.natAbs < 2 ^ 64) : bop .mul (.int i) (.int j) = some (.int (i * j)) := bop_mulL (by omega)
theorem bopmulR_nat {i : Int} {b : Nat} (h : b < 2 ^ 64) : bop .mul (.int i) (.int (b : Nat)) = some (.int (i * (b : Nat))) := bop_mulR (by omega)
theorem D74 {n b e : Nat} (hb : b < 2 ^ 64) (he : e ≤ 1000) : semD Xt (Of law) (n + 1) 74 [.int b, .int e] = .ok (.int ((b ^ e : Nat) : Int)) := by
  rw [semD_body (d := Pk.d74) rfl, Pk.d74, run_def (by rfl)]
  have e1 : rgOk (e : Int) = true := rgOk_in (by omega) (by omega)
  have e2 : ((e : Int)).toNat = e := by omega
  have loop : ∀ (l : List Val) (f : Nat) (o : Option Val), ∃ o', forD (forT Xt (semD Xt (Of law) n) (.name 3) (.cons (.set (.name 2) (.e (.bin .mul (.var 2) (.var 0)))) .nil)) l [some (.int b), some (.int e), some (.int (f : Nat)), o] = .nx [some (.int b), some (.int e), some (.int ((f * b ^ l.length : Nat) : Int)), o'] := by
    intro l
    induction l with
    | nil => intro f o; exact ⟨o, by simp only [forD_nil, List.length_nil, Nat.pow_zero, Nat.mul_one]⟩
    | cons x l ih =>
      intro f o
      obtain ⟨o', h⟩ := ih (f * b) (some x)
      refine ⟨o', ?_⟩
      rw [forD_cons]
      have one : forT Xt (semD Xt (Of law) n) (.name 3) (.cons (.set (.name 2) (.e (.bin .mul (.var 2) (.var 0)))) .nil) x [some (.int b), some (.int e), some (.int (f : Nat)), o] = .nx [some (.int b), some (.int e), some (.int ((f * b : Nat) : Int)), some x] := by
        unfold forT
        push_cast [bopmulR_nat hb, Int.natCast_mul]
      rw [one, Out.loop_nx, h, List.length_cons, Nat.mul_assoc, Nat.pow_succ, Nat.mul_comm b]
  obtain ⟨o', h⟩ := loop (rgl 0 e) 1 none
  have l : (rgl 0 e).length = e := by rw [rgl_map, List.length_map, List.length_range]
  rw [l, Nat.one_mul] at h
  have h' : forD (forT Xt (semD Xt (Of law) n) (.name 3) (.cons (.set (.name 2) (.e (.bin .mul (.var 2) (.var 0)))) .nil)) (rgl 0 e) [some (.int b), some (.int e), some (.int 1), none] = .nx [some (.int b), some (.int e), some (.int ((b ^ e : Nat) : Int)), o'] := h
  push_cast [rngD_ok e1, e2, h']
abbrev sgB : Ss := .cons (.ifS (.cmp .eq (.bin .mod (.var 3) (.var 1)) (.int 0)) (.cons (.par [3, 2] [(.e (.bin .fdv (.var 3) (.var 1))), (.e (.neg (.var 2)))]) (.cons (.ifS (.cmp .eq (.bin .mod (.var 3) (.var 1)) (.int 0)) (.cons (.ret (.e (.int 0))) .nil) .nil) .nil)) .nil) .nil
theorem sgLoop (Γ : SemD) (k : Val) : ∀ (ps : List Nat) (f : Int) (r : Nat) (o : Option Val), (∀ p ∈ ps, 0 < p ∧ p < 2 ^ 64) →
    ∃ o1 o2 o3 v, (forD (forT Xt Γ (.name 1) sgB) (toV ps) [some k, o, some (.int f), some (.int r)]).then (fun env => pss Xt Γ (.cons (.ret (.e (.var 2))) .nil) env) = .rt [some k, o1, o2, o3] (.int (sgL ps f r)) ∧ v = 0
  | [], f, r, o, _ => ⟨o, some (.int f), some (.int r), 0, by push_cast [toV, List.map_nil, forD_nil, sgL], rfl⟩
  | p :: ps, f, r, o, hp => by
    have h0 := hp p List.mem_cons_self
    have one : forT Xt Γ (.name 1) sgB (.int (p : Nat)) [some k, o, some (.int f), some (.int r)] =
        if r % p == 0 then (if r / p % p == 0 then .rt [some k, some (.int (p : Nat)), some (.int (-f)), some (.int ((r / p : Nat) : Int))] (.int 0) else .nx [some k, some (.int (p : Nat)), some (.int (-f)), some (.int ((r / p : Nat) : Int))]) else .nx [some k, some (.int (p : Nat)), some (.int f), some (.int r)] := by
      unfold forT sgB
      push_cast [mod_nat h0.1, fdv_nat h0.1 h0.2, beq_0]
      cases r % p == 0 with
      | false => rfl
      | true => cases r / p % p == 0 <;> rfl
    show ∃ o1 o2 o3 v, ((forT Xt Γ (.name 1) sgB (.int (p : Nat)) [some k, o, some (.int f), some (.int r)]).loop fun env => forD (forT Xt Γ (.name 1) sgB) (toV ps) env).then _ = _ ∧ v = 0
    rw [one]
    unfold sgL
    cases r % p == 0 with
    | false =>
      obtain ⟨o1, o2, o3, v, h, _⟩ := sgLoop Γ k ps f r (some (.int (p : Nat))) fun q hq => hp q (List.mem_cons_of_mem _ hq)
      exact ⟨o1, o2, o3, 0, h, rfl⟩
    | true =>
      dsimp only
      cases r / p % p == 0 with
      | false =>
        obtain ⟨o1, o2, o3, v, h, _⟩ := sgLoop Γ k ps (-f) (r / p) (some (.int (p : Nat))) fun q hq => hp q (List.mem_cons_of_mem _ hq)
        exact ⟨o1, o2, o3, 0, h, rfl⟩
      | true => exact ⟨_, _, _, 0, rfl, rfl⟩
theorem D71 {n k : Nat} (hk : k ≤ 1000) : semD Xt (Of law) (n + 1) 71 [.int k] = .ok (.int (sgn k)) := by
  rw [semD_body (d := Pk.d71) rfl, Pk.d71, run_def (by rfl)]
  have e1 : rgOk (2 : Int) = true := rgOk_in (by omega) (by omega)
  have e2 : rgOk ((k : Int) + 1) = true := rgOk_in (by omega) (by omega)
  have e3 : ((k : Int) + 1 - 2).toNat = k - 1 := by omega
  have e4 : rgl 2 (k - 1) = toV ((List.range (k - 1)).map (· + 2)) := by
    have := rgl_nat 2 (k - 1)
    rw [show ((2 : Nat) : Int) = 2 from rfl] at this
    rw [this]
    exact congrArg toV (List.map_congr_left fun i _ => Nat.add_comm 2 i)
  obtain ⟨o1, o2, o3, v, h, _⟩ := sgLoop (semD Xt (Of law) n) (.int k) ((List.range (k - 1)).map (· + 2)) 1 k none (fun p hp => by
    obtain ⟨i, hi, rfl⟩ := List.mem_map.mp hp
    have := List.mem_range.mp hi
    omega)
  push_cast [] at h
  push_cast [rng2D_ok e1 e2, e3, e4, h]
  rfl
theorem map_ints {α : Type} (g : α → Int) (l : List α) : l.map (fun a => Val.int (g a)) = (l.map g).map .int := by rw [List.map_map]; rfl
theorem fdvI_nat {i : Int} {b : Nat} (h : 0 < b) (h2 : b < 2 ^ 64) : bop .fdv (.int i) (.int (b : Nat)) = some (.int (i / (b : Nat))) := by
  refine bop_fdv ⟨by omega, ?_⟩
  have : ((b : Nat) : Int).natAbs = b := rfl
  rw [this]
  have := Nat.log2_lt (n := b) (k := 64) (by omega)
  omega
theorem divs_len (k : Nat) : (divs k).length ≤ k := by
  refine Nat.le_trans (List.length_filterMap_le _ _) ?_
  rw [List.length_range]; exact Nat.le_refl _
theorem lcG_int {α : Type} {turn : α → Ro (Option Val)} {g : α → Int} {xs : List α} (h : ∀ a ∈ xs, turn a = .ok (some (.int (g a)))) : lcG turn xs = .ok ((xs.map g).map .int) := by
  rw [lcG_ok (f := fun a => .int (g a)) h, map_ints]
theorem D72 {n k m : Nat} (h0 : 0 < k) (hk : k ≤ 1000) (hm : m < 2 ^ 64) : semD Xt (Of law) (n + 2) 72 [.int k, .int m] = .ok (.int (ringN k m)) := by
  rw [semD_body (d := Pk.d72) rfl, Pk.d72, run_def (by rfl)]
  push_cast [D70 hk]
  rw [toV, lcD_map, lcG_int (g := fun d => sgn d * ((m ^ (k / d) : Nat) : Int))]
  · have e1 : (((divs k).map fun d => sgn d * ((m ^ (k / d) : Nat) : Int)).map Val.int).length ≤ sizeLine := by
      rw [List.length_map, List.length_map]; exact sz_in (Nat.le_trans (divs_len k) (by omega))
    push_cast [szD_ok e1, fdvI_nat h0 (Nat.lt_of_le_of_lt hk (by decide))]
    rfl
  · intro d hd
    obtain ⟨h1, h2, _⟩ := divs_mem.mp hd
    have q : k / d ≤ 1000 := Nat.le_trans (Nat.div_le_self k d) hk
    have q2 : (sgn d).natAbs < 2 ^ 64 := Nat.lt_of_le_of_lt (sgn_abs d) (by decide)
    push_cast [D71 (Nat.le_trans h2 hk), fdv_nat h1 (Nat.lt_of_le_of_lt (Nat.le_trans h2 hk) (by decide)), D74 hm q, bopmul_abs q2]
theorem D78 {n k m : Nat} (h0 : 0 < k) (hk : k ≤ 200) (h1 : 0 < m) (hm : m ≤ 1000000000000000000) : semD Xt (Of law) (n + 4) 78 [.int k, .int m] = .ok (.int (ringN k m)) := by
  rw [semD_body (d := Pk.d78) rfl, Pk.d78, run_def (by rfl)]
  push_cast [D69 (law := law) (n := n) (m := (k : Int)) (by omega) (by omega), D34 (law := law) (n := n) (m := (m : Int)) (by omega) (by omega), D72 (law := law) (n := n + 1) h0 (by omega : k ≤ 1000) (by omega : m < 2 ^ 64)]
/-! choose -/
def seqN : Nat → Nat → List Nat
  | _, 0 => []
  | a, l + 1 => a :: seqN (a + 1) l
theorem seqN_range : ∀ (l a : Nat), (List.range l).map (a + ·) = seqN a l
  | 0, _ => rfl
  | l + 1, a => by
    rw [List.range_succ_eq_map, List.map_cons, List.map_map]
    show (a + 0) :: _ = a :: seqN (a + 1) l
    rw [← seqN_range l (a + 1), Nat.add_zero]
    congr 1
    exact List.map_congr_left fun i _ => by show a + (i + 1) = a + 1 + i; omega
theorem rgl_seq (a b : Nat) : rgl (a : Int) b = toV (seqN a b) := by rw [rgl_nat, seqN_range]
abbrev chB : Ss := .cons (.set (.name 2) (.e (.bin .fdv (.bin .mul (.var 2) (.bin .sub (.var 0) (.var 3))) (.bin .add (.var 3) (.int 1))))) .nil
theorem chLoop (Γ : SemD) (m : Nat) (k : Val) (hm : m < 2 ^ 63) : ∀ (l a : Nat) (o : Option Val), a + l ≤ m → ∃ o', forD (forT Xt Γ (.name 3) chB) (toV (seqN a l)) [some (.int m), some k, some (.int (bin m a : Nat)), o] = .nx [some (.int m), some k, some (.int (bin m (a + l) : Nat)), o']
  | 0, a, o, _ => ⟨o, by simp only [seqN, toV, List.map_nil, forD_nil, Nat.add_zero]⟩
  | l + 1, a, o, h => by
    obtain ⟨o', ih⟩ := chLoop Γ m k hm l (a + 1) (some (.int (a : Nat))) (by omega)
    refine ⟨o', ?_⟩
    have s1 : (m : Int) - (a : Int) = ((m - a : Nat) : Int) := by omega
    have s2 : (a : Int) + 1 = ((a + 1 : Nat) : Int) := by omega
    have s3 : ((bin m a : Nat) : Int) * ((m - a : Nat) : Int) = ((bin m (a + 1) * (a + 1) : Nat) : Int) := by rw [bin_mul, Int.natCast_mul]
    have one : forT Xt Γ (.name 3) chB (.int (a : Nat)) [some (.int m), some k, some (.int (bin m a : Nat)), o] = .nx [some (.int m), some k, some (.int (bin m (a + 1) : Nat)), some (.int (a : Nat))] := by
      unfold forT chB
      push_cast [s1, s2, bopmulR_nat (show m - a < 2 ^ 64 by omega), s3, fdv_nat (Nat.succ_pos a) (show a + 1 < 2 ^ 64 by omega), Nat.mul_div_cancel _ (Nat.succ_pos a)]
    show forD _ (.int (a : Nat) :: toV (seqN (a + 1) l)) _ = _
    rw [forD_cons, one, Out.loop_nx, ih, show a + 1 + l = a + (l + 1) by omega]
theorem D35 {n m k : Nat} (hm : m < 2 ^ 63) (hk : k ≤ 1000) : semD Xt (Of law) (n + 1) 35 [.int m, .int k] = .ok (.int (bin m k : Nat)) := by
  rw [semD_body (d := Pk.d35) rfl, Pk.d35, run_def (by rfl)]
  by_cases h : k ≤ m
  · obtain ⟨t, ht, hb, ht2⟩ : ∃ t : Nat, (if (m : Int) - (k : Int) < (k : Int) then (m : Int) - (k : Int) else (k : Int)) = (t : Int) ∧ bin m t = bin m k ∧ t ≤ k ∧ t ≤ m := by
      by_cases q : (m : Int) - (k : Int) < (k : Int)
      · exact ⟨m - k, by rw [if_pos q]; omega, bin_symm m k h, by omega, by omega⟩
      · exact ⟨k, by rw [if_neg q], rfl, Nat.le_refl _, h⟩
    have e1 : rgOk (t : Int) = true := rgOk_in (by omega) (by omega)
    have e2 : ((t : Int)).toNat = t := by omega
    obtain ⟨o', lp⟩ := chLoop (semD Xt (Of law) n) m (.int k) hm t 0 none (by omega)
    rw [← rgl_seq, bin_0, Nat.zero_add, hb] at lp
    have lp' : forD (forT Xt (semD Xt (Of law) n) (.name 3) chB) (rgl 0 t) [some (.int m), some (.int k), some (.int 1), none] = .nx [some (.int m), some (.int k), some (.int (bin m k : Nat)), o'] := lp
    have c1 : (0 : Int) ≤ (k : Int) := by omega
    have c2 : (k : Int) ≤ (m : Int) := by omega
    push_cast [ht, rngD_ok e1, e2, lp', decide_true, if_true, c1, c2]
  · have e0 : (if (m : Int) - (k : Int) < (k : Int) then (m : Int) - (k : Int) else (k : Int)) = (m : Int) - (k : Int) := if_pos (by omega)
    have e1 : rgOk ((m : Int) - (k : Int)) = true := rgOk_in (by omega) (by omega)
    have e2 : ((m : Int) - (k : Int)).toNat = 0 := by omega
    have e3 : rgl 0 0 = [] := rfl
    have c1 : (0 : Int) ≤ (k : Int) := by omega
    have c2 : ¬ (k : Int) ≤ (m : Int) := by omega
    rw [bin_big m k (by omega)]
    push_cast [e0, rngD_ok e1, e2, e3, forD_nil, c1, c2, decide_true, decide_false, if_true, if_false, Bool.false_eq_true]
    rfl
/-! check_counts, arranged, rings_with -/
theorem depth_t (ns : List Int) : dOk (.tuple (ns.map .int)) = true := by
  unfold dOk
  have : PyData.depth (.tuple (ns.map .int)) ≤ 60 := by
    simp only [PyData.depth, PySem.W.depth_ints]; omega
  exact decide_eq_true this
theorem eqvAll_ints : ∀ (xs ys : List Int), PyData.eqvAll (xs.map .int) (ys.map .int) = decide (xs = ys)
  | [], [] => rfl
  | [], _ :: _ => rfl
  | _ :: _, [] => rfl
  | x :: xs, y :: ys => by
    rw [List.map_cons, List.map_cons, PyData.eqvAll, eqvAll_ints xs ys]
    simp only [PyData.eqv]
    by_cases h1 : x = y <;> by_cases h2 : xs = ys <;> simp [h1, h2]
theorem toD_tup (ns : List Int) : toD (.tup (ns.map .int)) = some (.tuple (ns.map .int)) := by rw [toD, ints_toDs]
theorem eqv_tup (xs ys : List Int) : eqv (.tup (xs.map .int)) (.tup (ys.map .int)) = some (decide (xs = ys)) := by
  show eqvD _ _ = _
  unfold eqvD
  rw [toD_tup, toD_tup]
  dsimp only
  rw [depth_t, depth_t]
  simp only [Bool.and_self, if_true]
  rw [PyData.eqv, eqvAll_ints]
theorem toV_inj {a b : List Nat} : ((a.map fun (n : Nat) => (n : Int)) = b.map fun (n : Nat) => (n : Int)) ↔ a = b := by
  constructor
  · intro h
    induction a generalizing b with
    | nil => cases b with | nil => rfl | cons _ _ => simp at h
    | cons x a ih =>
      cases b with
      | nil => simp at h
      | cons y b =>
        rw [List.map_cons, List.map_cons] at h
        injection h with h1 h2
        have : x = y := by omega
        rw [this, ih h2]
  · intro h; rw [h]
theorem cD_eqT {Γ : SemD} {a b : List Nat} : cmpD Xt Γ .eq (.tup (toV a)) (.tup (toV b)) = .ok (.bl (decide (a = b))) := by
  show (Ro.of (eqv (.tup (toV a)) (.tup (toV b)))).bind _ = _
  rw [toV_ints, toV_ints, eqv_tup, Ro.of_some, Ro.bind_ok]
  congr 2
  simp only [toV_inj]
theorem eqvAll_nil (ns : List Int) : True := trivial
abbrev ccB : Ss := .cons (.ifS (.orE (.cmp .eq (.var 1) (.kon 0)) (.one (.notE (.call 1 (.cons (.var 2) (.cons (.int 0) (.cons (.kon 2) .nil))))))) (.cons .never .nil) .nil) .nil
theorem ccLoop {n : Nat} (v : Val) : ∀ (cs : List Nat) (i : Nat) (o1 o2 : Option Val), i + cs.length ≤ 60 → (∀ c ∈ cs, c ≤ 200) → ∃ o1' o2', forD (forT Xt (semD Xt (Of law) (n + 2)) (.tup [(.name 1), (.name 2)]) ccB) (enumL i (toV cs)) [some v, o1, o2] = .nx [some v, o1', o2']
  | [], i, o1, o2, _, _ => ⟨o1, o2, rfl⟩
  | c :: cs, i, o1, o2, h, hc => by
    rw [List.length_cons] at h
    obtain ⟨o1', o2', ih⟩ := ccLoop v cs (i + 1) (some (.int (i : Nat))) (some (.int (c : Nat))) (by omega) fun x hx => hc x (List.mem_cons_of_mem _ hx)
    refine ⟨o1', o2', ?_⟩
    have q1 : ((i : Int) == 60) = false := by rw [Bool.eq_false_iff]; intro z; rw [beq_iff_eq] at z; omega
    have q2 : (0 : Int) ≤ (c : Int) := by omega
    have q3 : (c : Int) ≤ 200 := by have := hc c List.mem_cons_self; omega
    have one : forT Xt (semD Xt (Of law) (n + 2)) (.tup [(.name 1), (.name 2)]) ccB (.tupk [.int (i : Nat), .int (c : Nat)]) [some v, o1, o2] = .nx [some v, some (.int (i : Nat)), some (.int (c : Nat))] := by
      unfold forT ccB
      push_cast [kon0, kon2, D1, q1, q2, q3, decide_true, Bool.and_self, Bool.not_true, if_false, Bool.false_eq_true]
    show forD _ (.tupk [.int (i : Nat), .int (c : Nat)] :: enumL (i + 1) (toV cs)) _ = _
    rw [forD_cons, one, Out.loop_nx, ih]
theorem D43 {n : Nat} {cs : List Nat} (h0 : cs ≠ []) (hl : cs.length ≤ 60) (hc : ∀ c ∈ cs, c ≤ 200) : semD Xt (Of law) (n + 3) 43 [.tup (toV cs)] = .ok .non := by
  rw [semD_body (d := Pk.d43) rfl, Pk.d43, run_def (by rfl)]
  obtain ⟨o1, o2, lp⟩ := ccLoop (law := law) (n := n) (.tup (toV cs)) cs 0 none none (by omega) hc
  have q : cmpD Xt (semD Xt (Of law) (n + 2)) .eq (.tup (toV cs)) (.tup []) = .ok (.bl false) := by
    have := cD_eqT (Γ := semD Xt (Of law) (n + 2)) (a := cs) (b := [])
    rw [decide_eq_false h0] at this
    exact this
  push_cast [q, Bool.not_true, if_false, Bool.false_eq_true, lp]
abbrev arB : Ss := .cons (.set (.name 3) (.e (.bin .add (.var 3) (.var 1)))) (.cons (.set (.name 2) (.e (.bin .mul (.var 2) (.call 35 (.cons (.var 3) (.cons (.var 1) .nil)))))) .nil)
theorem arLoop {n : Nat} (v : Val) : ∀ (cs : List Nat) (f t : Nat) (o : Option Val), t + cs.sum ≤ 63 → ∃ o', forD (forT Xt (semD Xt (Of law) (n + 1)) (.name 1) arB) (toV cs) [some v, o, some (.int (f : Nat)), some (.int (t : Nat))] = .nx [some v, o', some (.int ((f * arrL t cs : Nat) : Int)), some (.int ((t + cs.sum : Nat) : Int))]
  | [], f, t, o, _ => ⟨o, by simp only [toV, List.map_nil, forD_nil, arrL, Nat.mul_one, List.sum_nil, Nat.add_zero]⟩
  | c :: cs, f, t, o, h => by
    rw [List.sum_cons] at h
    obtain ⟨o', ih⟩ := arLoop (n := n) v cs (f * bin (t + c) c) (t + c) (some (.int (c : Nat))) (by omega)
    refine ⟨o', ?_⟩
    have hb : bin (t + c) c < 2 ^ 64 := Nat.lt_of_le_of_lt (bin_le _ _) (Nat.pow_lt_pow_right (by decide) (by omega))
    have s1 : (t : Int) + (c : Int) = ((t + c : Nat) : Int) := by omega
    have one : forT Xt (semD Xt (Of law) (n + 1)) (.name 1) arB (.int (c : Nat)) [some v, o, some (.int (f : Nat)), some (.int (t : Nat))] = .nx [some v, some (.int (c : Nat)), some (.int ((f * bin (t + c) c : Nat) : Int)), some (.int ((t + c : Nat) : Int))] := by
      unfold forT arB
      push_cast [s1, D35 (law := law) (n := n) (show t + c < 2 ^ 63 by omega) (show c ≤ 1000 by omega), bopmulR_nat hb, Int.natCast_mul]
    show forD _ (.int (c : Nat) :: toV cs) _ = _
    rw [forD_cons, one, Out.loop_nx, ih, List.sum_cons]
    show Out.nx [some v, o', some (.int ((f * bin (t + c) c * arrL (t + c) cs : Nat) : Int)), _] = Out.nx [some v, o', some (.int ((f * (bin (t + c) c * arrL (t + c) cs) : Nat) : Int)), _]
    rw [Nat.mul_assoc, Nat.add_assoc]
theorem D79 {n : Nat} {cs : List Nat} (hs : cs.sum ≤ 63) : semD Xt (Of law) (n + 2) 79 [.lst (toV cs)] = .ok (.int ((arrL 0 cs : Nat) : Int)) := by
  rw [semD_body (d := Pk.d79) rfl, Pk.d79, run_def (by rfl)]
  obtain ⟨o, lp⟩ := arLoop (law := law) (n := n) (.lst (toV cs)) cs 1 0 none (by omega)
  rw [Nat.one_mul] at lp
  have lp' : forD (forT Xt (semD Xt (Of law) (n + 1)) (.name 1) arB) (toV cs) [some (.lst (toV cs)), none, some (.int 1), some (.int 0)] = .nx [some (.lst (toV cs)), o, some (.int ((arrL 0 cs : Nat) : Int)), some (.int ((0 + cs.sum : Nat) : Int))] := lp
  push_cast [lp']
theorem maxI_nat {cs : List Nat} (h : cs ≠ []) : blt .max [.tup (toV cs)] = some (.int ((maxL cs : Nat) : Int)) := by
  show (match intsOf (toV cs) with | some ns => if ns.isEmpty then none else some (Val.int (maxI ns)) | none => none) = _
  rw [toV_ints, intsOf_ints]
  dsimp only
  have hne : (cs.map fun (n : Nat) => (n : Int)).isEmpty = false := by cases cs with | nil => exact absurd rfl h | cons _ _ => rfl
  rw [hne]
  have m1 : maxL cs ∈ cs := by
    rcases foldl_max_mem cs 0 with e | e
    · cases cs with
      | nil => exact absurd rfl h
      | cons c r =>
        have := (foldl_max_ge (c :: r) 0).2 c List.mem_cons_self
        rw [e] at this
        have z : c = 0 := by omega
        show (c :: r).foldl max 0 ∈ _
        rw [e, z]; exact List.mem_cons_self
    · exact e
  rw [if_neg (by simp), maxI_is (m := ((maxL cs : Nat) : Int)) (List.mem_map.mpr ⟨_, m1, rfl⟩) fun y hy => by
    obtain ⟨c, hc, rfl⟩ := List.mem_map.mp hy
    have := (foldl_max_ge cs 0).2 c hc
    show (c : Int) ≤ ((cs.foldl max 0 : Nat) : Int)
    omega]
theorem sum_nat (cs : List Nat) : (cs.map fun (n : Nat) => (n : Int)).sum = ((cs.sum : Nat) : Int) := by
  induction cs with
  | nil => rfl
  | cons c r ih => rw [List.map_cons, List.sum_cons, ih, List.sum_cons, Int.natCast_add]
theorem sum_le_map (p : Nat) : ∀ cs : List Nat, (cs.map (· / p)).sum ≤ cs.sum
  | [] => Nat.le_refl _
  | c :: r => by
    rw [List.map_cons, List.sum_cons, List.sum_cons]
    exact Nat.add_le_add (Nat.div_le_self c p) (sum_le_map p r)
theorem D80 {n : Nat} {cs : List Nat} (h0 : cs ≠ []) (hl : cs.length ≤ 60) (hp : 0 < cs.sum) (hs : cs.sum ≤ 63) : semD Xt (Of law) (n + 4) 80 [.tup (toV cs)] = .ok (.int (ringW cs)) := by
  have hc : ∀ c ∈ cs, c ≤ cs.sum := fun c hx => by
    clear hl hp hs h0
    induction cs with
    | nil => cases hx
    | cons d r ih =>
      rw [List.sum_cons]
      rcases List.mem_cons.mp hx with e | e
      · omega
      · have := ih e; omega
  have hm : maxL cs ≤ 63 := by
    rcases foldl_max_mem cs 0 with e | e
    · unfold maxL; omega
    · have := hc _ e; unfold maxL; omega
  rw [semD_body (d := Pk.d80) rfl, Pk.d80, run_def (by rfl)]
  have b1 : blt .sum [.tup (toV cs)] = some (.int ((cs.sum : Nat) : Int)) := by rw [toV_ints, blt_sumT, sum_nat]
  have q1 : (((cs.sum : Nat) : Int) == 0) = false := by rw [beq_0, beq_eq_false_iff_ne]; omega
  push_cast [D43 (law := law) (n := n) h0 hl (fun c hx => Nat.le_trans (hc c hx) (by omega)), b1, q1, if_false, Bool.false_eq_true, maxI_nat h0, D70 (law := law) (n := n + 2) (show maxL cs ≤ 1000 by omega)]
  rw [show toV (divs (maxL cs)) = (divs (maxL cs)).map (fun (n : Nat) => Val.int (n : Nat)) from rfl, lcD_map, lcG_if (p := fun p => cs.all fun c => c % p == 0) (f := fun p => .int (p : Nat))]
  · have e1 : ((divs (maxL cs)).filter fun p => cs.all fun c => c % p == 0).length ≤ 63 := Nat.le_trans (List.length_filter_le _ _) (Nat.le_trans (divs_len _) hm)
    have e2 : (((divs (maxL cs)).filter fun p => cs.all fun c => c % p == 0).map fun p => Val.int (p : Nat)).length ≤ sizeLine := by rw [List.length_map]; exact sz_in (by omega)
    push_cast [szD_ok e2]
    rw [lcD_map, lcG_int (g := fun p => sgn p * ((arrL 0 (cs.map (· / p)) : Nat) : Int))]
    · have e3 : (((((divs (maxL cs)).filter fun p => cs.all fun c => c % p == 0)).map fun p => sgn p * ((arrL 0 (cs.map (· / p)) : Nat) : Int)).map Val.int).length ≤ sizeLine := by rw [List.length_map, List.length_map]; exact sz_in (by omega)
      push_cast [szD_ok e3, fdvI_nat hp (show cs.sum < 2 ^ 64 by omega)]
      rfl
    · intro p hpm
      obtain ⟨hd, _⟩ := List.mem_filter.mp hpm
      obtain ⟨p1, p2, _⟩ := divs_mem.mp hd
      have inner : lcD (lcTn Xt (semD Xt (Of law) (n + 3)) (E.bin Bop.fdv (E.var 4) (E.var 3)) (T.name 4) P.no [some (Val.tup (toV cs)), some (Val.int (cs.sum : Nat)), some (Val.lst (List.map (fun p => Val.int (p : Nat)) (List.filter (fun p => cs.all fun c => c % p == 0) (divs (maxL cs))))), some (Val.int (p : Nat)), none]) (toV cs) = .ok (toV (cs.map (· / p))) := by
        rw [toV, lcD_map, lcG_ok (f := fun c => .int ((c / p : Nat) : Int))]
        · rw [toV, List.map_map]; rfl
        · intro c hx
          push_cast [fdv_nat p1 (show p < 2 ^ 64 by omega)]
      have e4 : (toV (cs.map (· / p))).length ≤ sizeLine := by rw [toV_len, List.length_map]; exact sz_in (by omega)
      have q2 : (sgn p).natAbs < 2 ^ 64 := Nat.lt_of_le_of_lt (sgn_abs p) (by decide)
      have e5 : (cs.map (· / p)).sum ≤ 63 := Nat.le_trans (sum_le_map p cs) hs
      push_cast [inner, szD_ok e4, D71 (law := law) (n := n + 2) (show p ≤ 1000 by omega), D79 (law := law) (n := n + 1) e5, bopmul_abs q2]
  · intro p hd
    obtain ⟨p1, p2, _⟩ := divs_mem.mp hd
    have inner : lcD (lcTn Xt (semD Xt (Of law) (n + 3)) (E.cmp Cop.eq (E.bin Bop.mod (E.var 4) (E.var 3)) (E.int 0)) (T.name 4) P.no [some (Val.tup (toV cs)), some (Val.int (cs.sum : Nat)), none, some (Val.int (p : Nat)), none]) (toV cs) = .ok ((cs.map fun c => c % p == 0).map .bl) := by
      rw [toV, lcD_map, lcG_ok (f := fun c => .bl (c % p == 0))]
      · rw [List.map_map]; rfl
      · intro c hx
        push_cast [mod_nat p1, beq_0]
    have e4 : ((cs.map fun c => c % p == 0).map Val.bl).length ≤ sizeLine := by rw [List.length_map, List.length_map]; exact sz_in (by omega)
    have e7 : (cs.map fun c => c % p == 0).all id = cs.all fun c => c % p == 0 := by rw [List.all_map]; rfl
    push_cast [inner, szD_ok e4, e7]
    cases cs.all fun c => c % p == 0 <;> rfl
end
end NK
namespace LK
open PySem PySem.Spec PyProof.Rows L2 EV
open Pk (Of Xt)
open MA NK
/-! what the laws' own defs do; runs with draws -/
section
variable {F : Nat → Option Fn} {n : Nat} {h : Hs} {c : C} {k kx : KV} {env env' : EV.Env}
theorem sem_body {f : Nat} {d : Def} {as : List Val} (hF : F f = some (.body d)) : sem Xt F (n + 1) f as h k kx = runDef Xt (sem Xt F n) d as h k kx := by
  show (match F f with | some (.body d) => _ | some (.init c d) => _ | some .mkcup => _ | some .draw => _ | some (.spec g) => _ | none => _) = _
  rw [hF]
theorem run_exs {np nn : Nat} {body : Ss} {as : List Val} (hp : as.length = np) : runDef Xt (sem Xt F n) ⟨np, nn, body⟩ as h k kx =
    exs Xt (sem Xt F n) body (as.map some ++ List.replicate (nn - np) none) h { nx := fun _ h => k .non h, rt := fun _ v h => match isData v with | true => k v h | false => false, kx := fun _ => kx } := by
  unfold runDef
  exact if_pos hp
/-- a statement without draws -/
theorem exs_nx {s : S} {ss : Ss} (e : ps Xt (semD Xt F n) s env = .nx env') : exs Xt (sem Xt F n) (.cons s ss) env h c = exs Xt (sem Xt F n) ss env' h c := by
  have r := ps_runs (X := Xt) (semD_runs Xt F n) s env h
  rw [e] at r
  exact r _
theorem exs_rt {ss : Ss} {v : Val} (e : pss Xt (semD Xt F n) ss env = .rt env' v) : exs Xt (sem Xt F n) ss env h c = c.rt env' v h := by
  have r := pss_runs (X := Xt) (semD_runs Xt F n) ss env h
  rw [e] at r
  exact r _
/-- a number is drawn -/
theorem allBelow_of {g : Nat → Bool} : ∀ {m : Nat}, (∀ r, r < m → g r = true) → allBelow m g = true
  | 0, _ => rfl
  | m + 1, h => by
    show (g m && allBelow m g) = true
    rw [h m (by omega), allBelow_of fun r hr => h r (by omega)]; rfl
theorem draw_ok {g m : Nat} (hG : F g = some .draw) (h0 : 0 < m) (h1 : m < 1073741824) (hk : ∀ r : Nat, r < m → k (.int (r : Nat)) [] = true) : sem Xt F (n + 1) g [.cup, .int (m : Nat)] [] k kx = true := by
  rw [sem_draw hG]
  show (decide ((0 : Int) < (m : Int)) && decide ((m : Int) < 1073741824) && ([] : Hs).isEmpty && allBelow ((m : Int)).toNat fun r => k (.int (r : Nat)) []) = true
  rw [decide_eq_true (by omega : (0 : Int) < (m : Int)), decide_eq_true (by omega : (m : Int) < 1073741824), show ((m : Int)).toNat = m by omega, allBelow_of hk]
  rfl
theorem iD_cup : isData .cup = true := thru rfl
theorem ev_lc0 {X : Txt} {S : Sem} {elt : E} {t : T} {it : I} : ev X S (.lc elt t it .no) env h k kx = evi X S it env h (fun xs h => lcL (fun x h kt => stepK (asg t x (wipeE env (tvars t))) fun env' => ev X S elt env' h (fun v h => kt (some v) h) noX) xs [] 0 h fun ys h => k (.lst ys) h) kx := by
  show evi X S it env h (fun xs h => lcL (fun x h kt => stepK (asg t x (wipeE env (tvars t))) fun env' => ev X S elt env' h (fun v h => fV v fun v => kt (some v) h) noX) xs [] 0 h fun ys h => k (.lst ys) h) kx = _
  simp only [fV_eq]
theorem evi_rng1' {X : Txt} {S : Sem} {a : E} {K : KVs} : evi X S (.rng1 a) env h K kx = ev X S a env h (fun x h => match x with | .int j => if rgOk j then K (rgl 0 j.toNat) h else false | _ => false) kx := rfl
/-- a row of drawn numbers -/
theorem lcL_draw {tv : Val → Hs → (Option Val → Hs → Bool) → Bool} {m : Nat} (ht : ∀ x kt, (∀ r : Nat, r < m → kt (some (.int (r : Nat))) [] = true) → tv x [] kt = true) : ∀ (xs acc : List Val) (i : Nat) (K : KVs), i + xs.length ≤ sizeLine →
    (∀ ys : List Nat, ys.length = xs.length → (∀ y ∈ ys, y < m) → K (acc.reverse ++ toV ys) [] = true) → lcL tv xs acc i [] K = true
  | [], acc, i, K, _, hk => by
    have := hk [] rfl (fun y hy => by cases hy)
    simpa [lcL, toV] using this
  | x :: xs, acc, i, K, hn, hk => by
    have hl : i + (xs.length + 1) ≤ sizeLine := hn
    refine ht x _ fun r hr => ?_
    show (if i < sizeLine then lcL tv xs (.int (r : Nat) :: acc) (i + 1) [] K else false) = true
    rw [if_pos (by omega)]
    refine lcL_draw ht xs (.int (r : Nat) :: acc) (i + 1) K (by omega) fun ys hy hm => ?_
    have := hk (r :: ys) (by simp [hy]) (fun y hy => by
      rcases List.mem_cons.mp hy with e | e
      · rw [e]; exact hr
      · exact hm y e)
    rw [List.reverse_cons, List.append_assoc]
    exact this
/-! the equations of the style with runs, none by rfl -/
theorem c_cons {s : S} {ss : Ss} {X : Txt} {Γ : Sem} : exs X Γ (.cons s ss) env h c = ex X Γ s env h { c with nx := fun env h => exs X Γ ss env h c } := thru exs_cons
theorem c_nil {X : Txt} {Γ : Sem} : exs X Γ .nil env h c = c.nx env h := thru rfl
theorem c_set {X : Txt} {Γ : Sem} {i : Nat} {e : E} : ex X Γ (.set (.name i) (.e e)) env h c = ev X Γ e env h (fun v h => if i < env.length then c.nx (env.set i (some v)) h else false) (c.kx env) := thru ex_set
theorem c_ret {X : Txt} {Γ : Sem} {e : E} : ex X Γ (.ret (.e e)) env h c = ev X Γ e env h (fun v h => c.rt env v h) (c.kx env) := thru rfl
theorem c_if {X : Txt} {Γ : Sem} {t : E} {a b : Ss} : ex X Γ (.ifS t a b) env h c = ev X Γ t env h (fun x h => match x with | .bl true => exs X Γ a env h c | .bl false => exs X Γ b env h c | _ => false) (c.kx env) := thru rfl
theorem c_for {X : Txt} {Γ : Sem} {t : T} {it : I} {b : Ss} : ex X Γ (.forS t it b) env h c = evi X Γ it env h (fun xs h => forL (forF X Γ t b) xs env h c) (c.kx env) := thru rfl
theorem c_var {X : Txt} {Γ : Sem} {i : Nat} : ev X Γ (.var i) env h k kx = stepK (EV.getD env i) fun v => k v h := thru rfl
theorem c_int {X : Txt} {Γ : Sem} {i : Int} : ev X Γ (.int i) env h k kx = k (.int i) h := thru rfl
theorem c_str {X : Txt} {Γ : Sem} {i : Str} : ev X Γ (.str i) env h k kx = k (.str i) h := thru rfl
theorem c_bl {X : Txt} {Γ : Sem} {i : Bool} : ev X Γ (.bl i) env h k kx = k (.bl i) h := thru rfl
theorem c_bin {X : Txt} {Γ : Sem} {op : Bop} {a b : E} : ev X Γ (.bin op a b) env h k kx = ev X Γ a env h (fun x h => ev X Γ b env h (fun y h => stepK (bop op x y) fun v => k v h) kx) kx := thru rfl
theorem c_blt {X : Txt} {Γ : Sem} {b : Blt} {es : Es} : ev X Γ (.blt b es) env h k kx = evs X Γ es env h (fun xs h => stepK (blt b xs) fun v => k v h) kx := thru rfl
theorem c_ix {X : Txt} {Γ : Sem} {a b : E} : ev X Γ (.ix a b) env h k kx = ev X Γ a env h (fun x h => ev X Γ b env h (fun y h => stepK (ixv x y) fun v => k v h) kx) kx := thru rfl
theorem c_call {X : Txt} {Γ : Sem} {f : Nat} {es : Es} : ev X Γ (.call f es) env h k kx = evs X Γ es env h (fun xs h => Γ f xs h k kx) kx := thru rfl
theorem c_anil {X : Txt} {Γ : Sem} {k : KVs} : evs X Γ .nil env h k kx = k [] h := thru rfl
theorem c_acons {X : Txt} {Γ : Sem} {e : E} {es : Es} {k : KVs} : evs X Γ (.cons e es) env h k kx = ev X Γ e env h (fun v h => evs X Γ es env h (fun vs h => k (v :: vs) h) kx) kx := thru evs_cons
theorem c_lc {X : Txt} {Γ : Sem} {elt : E} {t : T} {it : I} : ev X Γ (.lc elt t it .no) env h k kx = evi X Γ it env h (fun xs h => lcL (fun x h kt => stepK (asg t x (wipeE env (tvars t))) fun env' => ev X Γ elt env' h (fun v h => kt (some v) h) noX) xs [] 0 h fun ys h => k (.lst ys) h) kx := thru ev_lc0
theorem c_rng {X : Txt} {Γ : Sem} {a : E} {K : KVs} : evi X Γ (.rng1 a) env h K kx = ev X Γ a env h (fun x h => match x with | .int j => if rgOk j then K (rgl 0 j.toNat) h else false | _ => false) kx := thru rfl
theorem c_seq {X : Txt} {Γ : Sem} {a : E} {K : KVs} : evi X Γ (.seq a) env h K kx = ev X Γ a env h (fun v h => match v with | .lst xs => K xs h | .tup xs => K xs h | .str z => K (z.cps.toList.map fun c => .str ⟨#[c]⟩) h | _ => false) kx := thru rfl
theorem c_K {α : Type} {a : α} {k : α → Bool} : stepK (some a) k = k a := thru rfl
theorem c_forF {X : Txt} {Γ : Sem} {t : T} {b : Ss} {x : Val} : forF X Γ t b x env h c = stepK (asg t x env) fun env' => exs X Γ b env' h c := thru rfl
/-- an expression with draws: it comes to a value with Q -/
def Ev (X : Txt) (Γ : Sem) (e : E) (env : EV.Env) (Q : Val → Prop) : Prop := ∀ K kx, (∀ v, Q v → K v [] = true) → ev X Γ e env [] K kx = true
theorem set_ok {X : Txt} {Γ : Sem} {i : Nat} {e : E} {ss : Ss} {Q : Val → Prop} (hi : i < env.length) (he : Ev X Γ e env Q) (hr : ∀ v, Q v → exs X Γ ss (env.set i (some v)) [] c = true) : exs X Γ (.cons (.set (.name i) (.e e)) ss) env [] c = true := by
  rw [c_cons, c_set]
  refine he _ _ fun v hv => ?_
  rw [if_pos hi]
  exact hr v hv
theorem ret_ok {X : Txt} {Γ : Sem} {e : E} {ss : Ss} {Q : Val → Prop} (he : Ev X Γ e env Q) (hr : ∀ v, Q v → c.rt env v [] = true) : exs X Γ (.cons (.ret (.e e)) ss) env [] c = true := by
  rw [c_cons, c_ret]
  exact he _ _ hr
theorem Ev.mono {X : Txt} {Γ : Sem} {e : E} {Q R : Val → Prop} (he : Ev X Γ e env Q) (h : ∀ v, Q v → R v) : Ev X Γ e env R := fun K kx hk => he K kx fun v hv => hk v (h v hv)
theorem Ev.of {e : E} {v : Val} (he : pe Xt (semD Xt F n) e env = .ok v) : Ev Xt (sem Xt F n) e env (· = v) := fun K kx hk => by
  have r := pe_runs (X := Xt) (semD_runs Xt F n) e env []
  rw [he] at r
  exact (r K kx).trans (hk v rfl)
theorem ev_lenO {X : Txt} {S : Sem} {i : Nat} : ev X S (.lenO i) env h k kx = stepK (getV env i) fun x => stepK (blt .len [x]) fun v => k v h := rfl
theorem erase_perm {α : Type} : ∀ {L : List α} {j : Nat} (hj : j < L.length), (L[j] :: L.eraseIdx j).Perm L
  | x :: r, 0, _ => .refl _
  | x :: r, j + 1, hj => by
    have hj' : j < r.length := by simpa using hj
    show (r[j] :: x :: r.eraseIdx j).Perm (x :: r)
    exact (List.Perm.swap x r[j] _).trans ((erase_perm hj').cons x)
theorem lrgD_nat {m : Nat} (h : m < 1000000) : lrgD none (some (m : Int)) = .ok (.lst (rgl 0 m)) := by
  have e1 : rgOk (m : Int) = true := rgOk_in (by omega) (by omega)
  have e0 : rgOk (0 : Int) = true := rgOk_in (by omega) (by omega)
  have e3 : ((m : Int) - 0).toNat = m := by omega
  have e4 : m ≤ 16777216 := by omega
  have e5 : (2 : Nat) ^ 24 = 16777216 := by decide
  unfold lrgD
  simp only [Option.getD_none, e0, e1, e3, e5, e4, decide_true, Bool.and_self, if_true]
/-! the laws' last lines -/
theorem lcL_true {tv : Val → Hs → (Option Val → Hs → Bool) → Bool} : ∀ (xs : List Nat) (acc : List Val) (i : Nat) (K : KVs), (∀ x ∈ xs, ∀ kt, kt (some (.bl true)) [] = true → tv (.int (x : Nat)) [] kt = true) → i + xs.length ≤ sizeLine →
    K (acc.reverse ++ List.replicate xs.length (.bl true)) [] = true → lcL tv (toV xs) acc i [] K = true
  | [], acc, i, K, ht, hn, hk => by simpa [lcL, toV] using hk
  | x :: xs, acc, i, K, ht, hn, hk => by
    have hl : i + (xs.length + 1) ≤ sizeLine := hn
    refine ht x List.mem_cons_self _ ?_
    show (if i < sizeLine then lcL tv (toV xs) (.bl true :: acc) (i + 1) [] K else false) = true
    rw [if_pos (by omega)]
    refine lcL_true xs (.bl true :: acc) (i + 1) K (fun y hy => ht y (List.mem_cons_of_mem _ hy)) (by omega) ?_
    rw [List.reverse_cons, List.append_assoc]
    exact hk
theorem sem_mk {g m i : Nat} (hG : F g = some .mkcup) (hk : k .cup [] = true) : sem Xt F (n + 1) g [.scr m, .int (i : Nat)] [] k kx = true := by
  rw [sem_cup hG]
  show (decide ((0 : Int) ≤ (i : Int)) && ([] : Hs).isEmpty && k .cup []) = true
  rw [decide_eq_true (by omega), hk]; rfl
theorem all_ok {r j m : Nat} {b : Nat} {o1 : Option Val} {rest : EV.Env} (hJ : F j = some .mkcup) (hm : m ≤ 63) (hR : ∀ k kx, k (.bl true) [] = true → sem Xt F (n + 1) r [.cup] [] k kx = true) : Ev Xt (sem Xt F (n + 1)) (.blt .all (.cons (.lc (.call r (.cons (.call j (.cons (.var 0) (.cons (.var 1) .nil))) .nil)) (.name 1) (.rng1 (.blt .max2 (.cons (.int 2) (.cons (.blt .min2 (.cons (.blt .len (.cons (.var 0) .nil)) (.cons (.int (b : Nat)) .nil))) .nil)))) .no) .nil)) (some (.scr m) :: o1 :: rest) (· = .bl true) := by
  intro K kx hK
  have sc : isData (.scr m) = true := rfl
  have ln : blt .len [.scr m] = some (.int m) := rfl
  obtain ⟨t, ht, ht2⟩ : ∃ t : Nat, (if (2 : Int) < (if ((b : Nat) : Int) < (m : Int) then ((b : Nat) : Int) else (m : Int)) then (if ((b : Nat) : Int) < (m : Int) then ((b : Nat) : Int) else (m : Int)) else 2) = (t : Int) ∧ t ≤ 63 := by
    by_cases q : ((b : Nat) : Int) < (m : Int)
    · rw [if_pos q]
      by_cases q2 : (2 : Int) < ((b : Nat) : Int)
      · rw [if_pos q2]; exact ⟨b, rfl, by omega⟩
      · rw [if_neg q2]; exact ⟨2, rfl, by omega⟩
    · rw [if_neg q]
      by_cases q2 : (2 : Int) < (m : Int)
      · rw [if_pos q2]; exact ⟨m, rfl, hm⟩
      · rw [if_neg q2]; exact ⟨2, rfl, by omega⟩
  have e1 : rgOk (t : Int) = true := rgOk_in (by omega) (by omega)
  have e2 : rgl 0 ((t : Int)).toNat = toV (List.range t) := by rw [Int.toNat_natCast, rgl_map, toV]; exact List.map_congr_left fun i _ => by rw [Int.zero_add]
  have g0 : EV.getD (some (.scr m) :: o1 :: rest) 0 = some (.scr m) := gD_of gV_0 sc
  simp only [LK.iD_cup, LK.c_cons, LK.c_nil, LK.c_set, LK.c_ret, LK.c_if, LK.c_for, LK.c_var, LK.c_int, LK.c_str, LK.c_bl, LK.c_bin, LK.c_blt, LK.c_ix, LK.c_call, LK.c_anil, LK.c_acons, LK.c_lc, LK.c_rng, LK.c_seq, LK.c_K, LK.c_forF, g0, ln, blt_min2, blt_max2, gt_iff_lt, ht, e1, if_true, e2]
  refine lcL_true (List.range t) [] 0 _ (fun x hx kt hkt => ?_) (by rw [List.length_range]; exact sz_in (by omega)) ?_
  · have as : asg (.name 1) (.int (x : Nat)) (wipeE (some (.scr m) :: o1 :: rest) (tvars (.name 1))) = some (some (.scr m) :: some (.int (x : Nat)) :: rest) := rfl
    have g0 : EV.getD (some (.scr m) :: some (.int (x : Nat)) :: rest) 0 = some (.scr m) := gD_of gV_0 sc
    have g1 : EV.getD (some (.scr m) :: some (.int (x : Nat)) :: rest) 1 = some (.int (x : Nat)) := gDs.trans (gD_of gV_0 rfl)
    simp only [as, g0, g1, LK.c_K]
    refine sem_mk hJ ?_
    exact hR _ _ hkt
  · have al : blt .all [.lst ([].reverse ++ List.replicate (List.range t).length (Val.bl true))] = some (.bl true) := by
      have e : [].reverse ++ List.replicate (List.range t).length (Val.bl true) = (List.replicate (List.range t).length true).map .bl := by rw [List.map_replicate]; rfl
      have ea : (List.replicate (List.range t).length true).all id = true := by
        rw [List.all_eq_true]
        intro x hx
        exact (List.mem_replicate.mp hx).2
      rw [e, blt_allL, ea]
    simp only [al, LK.c_K]
    exact hK _ rfl
theorem law_ok {f r j m b : Nat} (hF : F f = some (.body ⟨1, 2, .cons (.ret (.e (.blt .all (.cons (.lc (.call r (.cons (.call j (.cons (.var 0) (.cons (.var 1) .nil))) .nil)) (.name 1) (.rng1 (.blt .max2 (.cons (.int 2) (.cons (.blt .min2 (.cons (.blt .len (.cons (.var 0) .nil)) (.cons (.int (b : Nat)) .nil))) .nil)))) .no) .nil)))) .nil⟩)) (hJ : F j = some .mkcup) (hm : m ≤ 63) (hR : ∀ k kx, k (.bl true) [] = true → sem Xt F (n + 1) r [.cup] [] k kx = true) : sem Xt F (n + 2) f [.scr m] [] okT noX = true := by
  rw [sem_body hF, run_exs (by rfl)]
  refine ret_ok (all_ok hJ hm hR) ?_
  rintro _ rfl
  rfl
/-! a drawn order -/
def permD (g : Nat) : Def := ⟨2, 5, (.cons (.par [3, 4] [(.own (.lrg .no (.some (.var 1)))), (.own (.lst .nil))]) (.cons (.forS (.name 2) (.rng1 (.var 1)) (.cons (.append 4 (.popAt 3 (.call g (.cons (.var 0) (.cons (.lenO 3) .nil))))) .nil)) (.cons (.ret (.e (.tupO 4))) .nil)))⟩
theorem toV_erase (L : List Nat) (j : Nat) : (toV L).eraseIdx j = toV (L.eraseIdx j) := by
  induction L generalizing j with
  | nil => rfl
  | cons x r ih =>
    cases j with
    | zero => rfl
    | succ j => show Val.int _ :: (toV r).eraseIdx j = Val.int _ :: toV (r.eraseIdx j); rw [ih]
theorem perm_turn {g : Nat} (hG : F g = some .draw) {L A : List Nat} {x mv : Val} {o2 : Option Val} {c : C} (h0 : 0 < L.length) (h1 : L.length < 1000000) (h2 : A.length < 1000000)
    (hk : ∀ (j : Nat) (hj : j < L.length), c.nx [some .cup, some mv, some x, some (.mls (toV (L.eraseIdx j))), some (.mls (toV (A ++ [L[j]])))] [] = true) :
    forF Xt (sem Xt F (n + 1)) (.name 2) (.cons (.append 4 (.popAt 3 (.call g (.cons (.var 0) (.cons (.lenO 3) .nil))))) .nil) x [some .cup, some mv, o2, some (.mls (toV L)), some (.mls (toV A))] [] c = true := by
  show ev Xt (sem Xt F (n + 1)) (.call g (.cons (.var 0) (.cons (.lenO 3) .nil))) [some .cup, some mv, some x, some (.mls (toV L)), some (.mls (toV A))] [] (fun y h => match y with
        | .int j => match L2.ixN (toV L).length j with
          | some m => if -(2 ^ 63) ≤ j ∧ j < 2 ^ 63 then stepK (toV L)[m]? fun v => (match isData v with
            | true => if (toV A).length < sizeLine then fV v fun v => c.nx [some .cup, some mv, some x, some (.mls ((toV L).eraseIdx m)), some (.mls (toV A ++ [v]))] h else false
            | false => false) else false
          | none => false
        | _ => false) (c.kx [some .cup, some mv, some x, some (.mls (toV L)), some (.mls (toV A))]) = true
  have g0 : EV.getD [some .cup, some mv, some x, some (.mls (toV L)), some (.mls (toV A))] 0 = some .cup := rfl
  have g3 : getV [some .cup, some mv, some x, some (.mls (toV L)), some (.mls (toV A))] 3 = some (.mls (toV L)) := rfl
  have gl : blt .len [.mls (toV L)] = some (.int ((toV L).length : Nat)) := rfl
  rw [ev_call, evs_cons, ev_var, g0, stepK_s, evs_cons, ev_lenO, g3, stepK_s, gl, stepK_s, evs_nil]
  rw [toV_len]
  refine draw_ok hG h0 (by omega) fun j hj => ?_
  have e1 : L2.ixN L.length (j : Int) = some j := by
    unfold L2.ixN
    rw [if_pos (by omega), if_pos (by omega)]
    congr 1
  have e2 : (toV L)[j]? = some (.int (L[j] : Nat)) := by rw [toV, List.getElem?_map, List.getElem?_eq_getElem hj]; rfl
  have e3 : (toV A).length < sizeLine := by rw [toV_len]; exact sz_lt (by omega)
  have e4 : toV A ++ [Val.int (L[j] : Nat)] = toV (A ++ [L[j]]) := by rw [toV, toV, List.map_append]; rfl
  have e5 : -(2 ^ 63) ≤ (j : Int) ∧ (j : Int) < 2 ^ 63 := by omega
  dsimp only
  rw [e1]
  dsimp only
  rw [if_pos e5, e2, stepK_s]
  dsimp only [isData]
  rw [if_pos e3, fV_eq, toV_erase, e4]
  exact hk j hj
theorem perm_loop {g : Nat} (hG : F g = some .draw) {m : Nat} {mv : Val} (hm : m < 1000000) : ∀ (xs : List Val) (L A : List Nat) (o2 : Option Val) (c : C), L.length = xs.length → (A ++ L).Perm (List.range m) →
    (∀ (p : List Nat) (o : Option Val), p.Perm (List.range m) → c.nx [some .cup, some mv, o, some (.mls (toV [])), some (.mls (toV p))] [] = true) →
    forL (forF Xt (sem Xt F (n + 1)) (.name 2) (.cons (.append 4 (.popAt 3 (.call g (.cons (.var 0) (.cons (.lenO 3) .nil))))) .nil)) xs [some .cup, some mv, o2, some (.mls (toV L)), some (.mls (toV A))] [] c = true
  | [], L, A, o2, c, hl, hp, hk => by
    have : L = [] := List.eq_nil_of_length_eq_zero hl
    subst this
    rw [List.append_nil] at hp
    exact hk A o2 hp
  | x :: xs, L, A, o2, c, hl, hp, hk => by
    rw [List.length_cons] at hl
    have hlen := hp.length_eq
    rw [List.length_append, List.length_range] at hlen
    rw [forL_cons]
    refine perm_turn hG (by omega) (by omega) (by omega) fun j hj => ?_
    refine perm_loop hG hm xs (L.eraseIdx j) (A ++ [L[j]]) (some x) c (by rw [List.length_eraseIdx_of_lt hj]; omega) ?_ hk
    refine List.Perm.trans ?_ hp
    rw [List.append_assoc]
    exact List.Perm.append_left A (erase_perm hj)
theorem evi_rngV {X : Txt} {S : Sem} {i : Nat} {j : Int} {K : KVs} (e : EV.getD env i = some (.int j)) (h1 : rgOk j = true) : evi X S (.rng1 (.var i)) env h K kx = K (rgl 0 j.toNat) h := by
  rw [evi_rng1', ev_var, e, stepK_s]
  dsimp only
  rw [if_pos h1]
theorem perm_ok {f g m : Nat} (hF : F f = some (.body (permD g))) (hG : F g = some .draw) (h1 : m < 1000000) (hk : ∀ p : List Nat, p.Perm (List.range m) → k (.tup (toV p)) [] = true) : sem Xt F (n + 2) f [.cup, .int (m : Nat)] [] k kx = true := by
  rw [sem_body hF, permD, run_exs (by rfl)]
  have e1 : rgOk (m : Int) = true := rgOk_in (by omega) (by omega)
  have er : rgl 0 m = toV (List.range m) := by rw [rgl_map, toV]; exact List.map_congr_left fun i _ => by rw [Int.zero_add]
  have el := lrgD_nat h1
  rw [exs_nx (env' := [some .cup, some (.int (m : Nat)), none, some (.mls (toV (List.range m))), some (.mls [])]) (by push_cast [el, er])]
  have g1 : EV.getD [some .cup, some (.int (m : Nat)), none, some (.mls (toV (List.range m))), some (.mls [])] 1 = some (.int (m : Nat)) := rfl
  rw [exs_cons, ex_for, evi_rngV g1 e1, Int.toNat_natCast]
  have lr : (rgl 0 m).length = m := by rw [rgl_map, List.length_map, List.length_range]
  refine perm_loop hG h1 (rgl 0 m) (List.range m) [] none _ (by rw [lr, List.length_range]) (List.nil_append (List.range m) ▸ List.Perm.refl _) fun p o hp => ?_
  have q : blt .tuple [.mls (toV p)] = some (.tup (toV p)) := rfl
  have := exs_rt (F := F) (n := n + 1) (h := []) (ss := .cons (.ret (.e (.tupO 4))) .nil) (env := [some .cup, some (.int (m : Nat)), o, some (.mls (toV [])), some (.mls (toV p))]) (env' := [some .cup, some (.int (m : Nat)), o, some (.mls (toV [])), some (.mls (toV p))]) (v := .tup (toV p))
    (c := { nx := fun _ h => k .non h, rt := fun _ v h => match isData v with | true => k v h | false => false, kx := fun _ => kx })
    (by push_cast [q])
  refine this.trans ?_
  exact hk p hp
/-! ways to choose, the law's own -/
def lchD : Def := ⟨2, 5, (.cons (.ifS (.orE (.cmp .lt (.var 1) (.int 0)) (.one (.cmp .gt (.var 1) (.var 0)))) (.cons (.ret (.e (.int 0))) .nil) .nil) (.cons (.par [3, 4] [(.e (.int 1)), (.e (.int 1))]) (.cons (.forS (.name 2) (.rng1 (.var 1)) (.cons (.par [3, 4] [(.e (.bin .mul (.var 3) (.bin .sub (.var 0) (.var 2)))), (.e (.bin .mul (.var 4) (.bin .add (.var 2) (.int 1))))]) .nil)) (.cons (.ret (.e (.bin .fdv (.var 3) (.var 4)))) .nil))))⟩
abbrev lchB : Ss := (.cons (.par [3, 4] [(.e (.bin .mul (.var 3) (.bin .sub (.var 0) (.var 2)))), (.e (.bin .mul (.var 4) (.bin .add (.var 2) (.int 1))))]) .nil)
theorem fact_le : ∀ j, j ≤ 255 → fact j ≤ 2 ^ (8 * j)
  | 0, _ => by decide
  | j + 1, hj => by
    have ih := fact_le j (by omega)
    show fact j * (j + 1) ≤ _
    rw [show 8 * (j + 1) = 8 * j + 8 by omega, Nat.pow_add]
    exact Nat.mul_le_mul ih (by omega)
theorem lchLoop (Γ : SemD) (m : Nat) (kv : Val) (hm : m < 2 ^ 63) : ∀ (l a : Nat) (o : Option Val), a + l ≤ m → ∃ o', forD (forT Xt Γ (.name 2) lchB) (toV (seqN a l)) [some (.int m), some kv, o, some (.int (fall m a : Nat)), some (.int (fact a : Nat))] = .nx [some (.int m), some kv, o', some (.int (fall m (a + l) : Nat)), some (.int (fact (a + l) : Nat))]
  | 0, a, o, _ => ⟨o, by simp only [seqN, toV, List.map_nil, forD_nil, Nat.add_zero]⟩
  | l + 1, a, o, h => by
    obtain ⟨o', ih⟩ := lchLoop Γ m kv hm l (a + 1) (some (.int (a : Nat))) (by omega)
    refine ⟨o', ?_⟩
    have s1 : (m : Int) - (a : Int) = ((m - a : Nat) : Int) := by omega
    have s2 : (a : Int) + 1 = ((a + 1 : Nat) : Int) := by omega
    have s3 : ((fall m a : Nat) : Int) * ((m - a : Nat) : Int) = ((fall m (a + 1) : Nat) : Int) := by rw [← Int.natCast_mul]; rfl
    have s4 : ((fact a : Nat) : Int) * ((a + 1 : Nat) : Int) = ((fact (a + 1) : Nat) : Int) := by rw [← Int.natCast_mul]; rfl
    have one : forT Xt Γ (.name 2) lchB (.int (a : Nat)) [some (.int m), some kv, o, some (.int (fall m a : Nat)), some (.int (fact a : Nat))] = .nx [some (.int m), some kv, some (.int (a : Nat)), some (.int (fall m (a + 1) : Nat)), some (.int (fact (a + 1) : Nat))] := by
      unfold forT lchB
      push_cast [s1, s2, bopmulR_nat (show m - a < 2 ^ 64 by omega), bopmulR_nat (show a + 1 < 2 ^ 64 by omega), s3, s4]
    show forD _ (.int (a : Nat) :: toV (seqN (a + 1) l)) _ = _
    rw [forD_cons, one, Out.loop_nx, ih, show a + 1 + l = a + (l + 1) by omega]
theorem lch_ok {f m j : Nat} (hF : F f = some (.body lchD)) (hm : m < 2 ^ 63) (hk : j ≤ 255) : semD Xt F (n + 1) f [.int m, .int j] = .ok (.int (bin m j : Nat)) := by
  rw [semD_body hF, lchD, run_def (by rfl)]
  have c0 : ¬ (j : Int) < 0 := by omega
  by_cases hj : j ≤ m
  · have c1 : ¬ (m : Int) < (j : Int) := by omega
    have e1 : rgOk (j : Int) = true := rgOk_in (by omega) (by omega)
    have e2 : ((j : Int)).toNat = j := by omega
    obtain ⟨o', lp⟩ := lchLoop (semD Xt F n) m (.int j) hm j 0 none (by omega)
    rw [← rgl_seq, Nat.zero_add] at lp
    have lp' : forD (forT Xt (semD Xt F n) (.name 2) lchB) (rgl 0 j) [some (.int m), some (.int j), none, some (.int 1), some (.int 1)] = .nx [some (.int m), some (.int j), o', some (.int (fall m j : Nat)), some (.int (fact j : Nat))] := lp
    have fd : bop .fdv (.int (fall m j : Nat)) (.int (fact j : Nat)) = some (.int (bin m j : Nat)) := by
      have fp := fact_pos j
      rw [bop_fdv ⟨by omega, ?_⟩]
      · rw [← bin_fall, Int.natCast_mul, Int.mul_ediv_cancel _ (by omega)]
      · have : ((fact j : Nat) : Int).natAbs = fact j := rfl
        rw [this]
        have h1 := fact_le j hk
        have h2 : fact j < 2 ^ (8 * j + 1) := Nat.lt_of_le_of_lt h1 (Nat.pow_lt_pow_right (by decide) (by omega))
        have := Nat.log2_lt (n := fact j) (k := 8 * j + 1) (by omega)
        omega
    push_cast [c0, c1, decide_false, if_false, Bool.false_eq_true, rngD_ok e1, e2, lp', fd]
  · have c1 : (m : Int) < (j : Int) := by omega
    rw [bin_big m j (by omega)]
    push_cast [c0, c1, decide_true, decide_false, if_false, if_true, Bool.false_eq_true]
    rfl
end
end LK
namespace MO
/-! orders, in plain Lean: ranks, next ranks, rises -/
def setR (l : List (Nat × Nat)) (L : List Nat) : List Nat := l.foldl (fun L xi => L.set xi.1 xi.2) L
def ranksL (p : List Nat) : List Nat := setR p.zipIdx (List.replicate p.length 0)
theorem setR_len : ∀ (l : List (Nat × Nat)) (L : List Nat), (setR l L).length = L.length
  | [], _ => rfl
  | x :: l, L => by
    show (setR l (L.set x.1 x.2)).length = _
    rw [setR_len l, List.length_set]
theorem ranksL_len (p : List Nat) : (ranksL p).length = p.length := by rw [ranksL, setR_len, List.length_replicate]
theorem setR_at (q : Nat) : ∀ (l : List Nat) (k : Nat) (L : List Nat), l.Nodup → q < L.length → (setR (l.zipIdx k) L).getD q 0 = if q ∈ l then k + l.idxOf q else L.getD q 0
  | [], k, L, _, _ => by rw [if_neg (by simp)]; rfl
  | x :: r, k, L, hd, hq => by
    rw [List.nodup_cons] at hd
    have ih := setR_at q r (k + 1) (L.set x k) hd.2 (by rw [List.length_set]; exact hq)
    show (setR (r.zipIdx (k + 1)) (L.set x k)).getD q 0 = _
    rw [ih]
    by_cases h : q ∈ r
    · have hx : x ≠ q := fun e => hd.1 (by rw [e]; exact h)
      rw [if_pos h, if_pos (List.mem_cons_of_mem _ h), List.idxOf_cons]
      have : (x == q) = false := beq_eq_false_iff_ne.mpr hx
      rw [this]
      show k + 1 + List.idxOf q r = k + (List.idxOf q r + 1)
      omega
    · rw [if_neg h]
      by_cases e : x = q
      · subst e
        rw [if_pos List.mem_cons_self, List.idxOf_cons_self, List.getD_eq_getElem?_getD, List.getElem?_set_self hq]
        rfl
      · have : q ∉ x :: r := fun z => by
          rcases List.mem_cons.mp z with z | z
          · exact e z.symm
          · exact h z
        rw [if_neg this, List.getD_eq_getElem?_getD, List.getElem?_set_ne e, ← List.getD_eq_getElem?_getD]
theorem ranksL_at {p : List Nat} (hp : p.Perm (List.range p.length)) {q : Nat} (hq : q < p.length) : (ranksL p).getD q 0 = p.idxOf q := by
  have hd : p.Nodup := hp.nodup_iff.mpr List.nodup_range
  rw [ranksL, setR_at q p 0 _ hd (by rw [List.length_replicate]; exact hq), if_pos (hp.mem_iff.mpr (List.mem_range.mpr hq)), Nat.zero_add]
/-- the end of the text: first, last, ring -/
def tailR (p : List Nat) (c : Nat) : Int := match c with | 0 => -1 | 1 => p.length | _ => p.idxOf 0
def nextR (p : List Nat) (c x : Nat) : Int := if x + 1 < p.length then ((p.idxOf (x + 1) : Nat) : Int) else tailR p c
def aft (p : List Nat) (c : Nat) : List Int := p.map (nextR p c)
theorem aft_len (p : List Nat) (c : Nat) : (aft p c).length = p.length := by rw [aft, List.length_map]
def steep (p : List Nat) (c : Nat) : List Nat := (List.range (p.length - 1)).filter fun i => decide ((aft p c).getD (i + 1) 0 < (aft p c).getD i 0)
theorem steep_len (p : List Nat) (c : Nat) : (steep p c).length ≤ p.length - 1 := by
  refine Nat.le_trans (List.length_filter_le _ _) ?_
  rw [List.length_range]; exact Nat.le_refl _
/-- places of an order -/
structure IsP (p : List Nat) : Prop where
  perm : p.Perm (List.range p.length)
  pos : 0 < p.length
theorem IsP.nodup {p : List Nat} (h : IsP p) : p.Nodup := h.perm.nodup_iff.mpr List.nodup_range
theorem IsP.lt {p : List Nat} (h : IsP p) {x : Nat} (hx : x ∈ p) : x < p.length := List.mem_range.mp (h.perm.mem_iff.mp hx)
theorem IsP.mem {p : List Nat} (h : IsP p) {x : Nat} (hx : x < p.length) : x ∈ p := h.perm.mem_iff.mpr (List.mem_range.mpr hx)
end MO
namespace OD
open PySem PySem.Spec PyProof.Rows L2 EV
open Pk (Of Xt)
open MA MO NK LK
/-! orders: what the package's defs about them compute -/
def wS (c : Nat) : Str := match c with | 0 => "first" | 1 => "last" | _ => "ring"
section
variable {law : List (Nat × Fn)}
theorem kon5 : Xt.konst 5 = some (.tup [.str "first", .str "last", .str "ring"]) := thru rfl
theorem fl : strEq "first" "last" = false := by decide +kernel
theorem ff : strEq "first" "first" = true := by decide +kernel
theorem lf : strEq "last" "first" = false := by decide +kernel
theorem ll : strEq "last" "last" = true := by decide +kernel
theorem rf : strEq "ring" "first" = false := by decide +kernel
theorem rl : strEq "ring" "last" = false := by decide +kernel
theorem rr : strEq "ring" "ring" = true := by decide +kernel
theorem fr : strEq "first" "ring" = false := by decide +kernel
theorem lr : strEq "last" "ring" = false := by decide +kernel
theorem nin_kind {Γ : SemD} (c : Nat) : cmpD Xt Γ .nin (.str (wS c)) (.tup [.str "first", .str "last", .str "ring"]) = .ok (.bl false) := by
  have h : cop .nin (.str (wS c)) (.tup [.str "first", .str "last", .str "ring"]) = some false := by
    match c with
    | 0 => exact (by decide +kernel : cop .nin (.str "first") (.tup [.str "first", .str "last", .str "ring"]) = some false)
    | 1 => exact (by decide +kernel : cop .nin (.str "last") (.tup [.str "first", .str "last", .str "ring"]) = some false)
    | _ + 2 => exact (by decide +kernel : cop .nin (.str "ring") (.tup [.str "first", .str "last", .str "ring"]) = some false)
  show (Ro.of (cop .nin _ _)).bind _ = _
  rw [h]; rfl
theorem D2 {n c : Nat} : semD Xt (Of law) (n + 1) 2 [.str (wS c)] = .ok .non := by
  rw [semD_body (d := Pk.d2) rfl, Pk.d2, run_def (by rfl)]
  push_cast [kon5, nin_kind, Bool.not_true, if_false, Bool.false_eq_true]
theorem slv_take {xs : List Val} {k : Nat} (h : k ≤ xs.length) : slv (.tup xs) none (some (k : Int)) = some (.tup (xs.take k)) := by
  show some (Val.tup (cut xs none (some (k : Int)))) = _
  unfold cut
  rw [HT.sIx_none, HT.sIx_nat, List.drop_zero, Nat.min_eq_left h, Nat.sub_zero]
theorem toV_take (l : List Nat) (k : Nat) : (toV l).take k = toV (l.take k) := by rw [toV, toV, List.map_take]
theorem cD_inn {Γ : SemD} {x : Nat} {l : List Nat} : cmpD Xt Γ .inn (.int (x : Nat)) (.tup (toV l)) = .ok (.bl (l.contains x)) := by
  show (Ro.of (if dataOk (.int (x : Nat)) then inL (.int (x : Nat)) (toV l) else none)).bind _ = _
  rw [show dataOk (.int (x : Nat)) = true from rfl, if_pos rfl, toV, inL_ints]; rfl
abbrev cpB : Ss := (.cons (.ifS (.orE (.cmp .eq (.var 1) (.kon 0)) (.orE (.notE (.call 1 (.cons (.var 2) (.cons (.int 0) (.cons (.bin .sub (.blt .len (.cons (.var 0) .nil)) (.int 1)) .nil))))) (.one (.cmp .inn (.var 2) (.slc (.var 0) .no (.some (.var 1))))))) (.cons .never .nil) .nil) .nil)
theorem cpLoop {n : Nat} {p : List Nat} (hp : IsP p) (h60 : p.length ≤ 60) : ∀ (l : List Nat) (k : Nat) (o1 o2 : Option Val), p.drop k = l → ∃ o1' o2', forD (forT Xt (semD Xt (Of law) (n + 2)) (.tup [.name 1, .name 2]) cpB) (enumL k (toV l)) [some (.tup (toV p)), o1, o2] = .nx [some (.tup (toV p)), o1', o2']
  | [], k, o1, o2, _ => ⟨o1, o2, by simp only [toV, List.map_nil, enumL, forD_nil]⟩
  | x :: l, k, o1, o2, h => by
    have hk : k < p.length := by
      by_cases q : k < p.length
      · exact q
      · rw [List.drop_eq_nil_of_le (by omega)] at h; cases h
    rw [List.drop_eq_getElem_cons hk] at h
    cases h
    obtain ⟨o1', o2', ih⟩ := cpLoop (n := n) hp h60 (p.drop (k + 1)) (k + 1) (some (.int (k : Nat))) (some (.int (p[k] : Nat))) rfl
    refine ⟨o1', o2', ?_⟩
    have hx := hp.lt (List.getElem_mem hk)
    have c1 : (((k : Nat) : Int) == 60) = false := beq_eq_false_iff_ne.mpr (by omega)
    have d1 := D1 (law := law) (n := n) (i := (p[k] : Nat)) (lo := 0) (hi := ((p.length : Nat) : Int) - 1)
    rw [decide_eq_true (by omega), decide_eq_true (by omega)] at d1
    have s1 := slv_take (xs := toV p) (k := k) (by rw [toV_len]; omega)
    rw [toV_take] at s1
    have c2 : (p.take k).contains p[k] = false := by
      rw [List.contains_eq_mem, decide_eq_false_iff_not]
      intro z
      have hd := hp.nodup
      rw [← List.take_append_drop k p, List.nodup_append] at hd
      exact hd.2.2 _ z _ (by rw [List.drop_eq_getElem_cons hk]; exact List.mem_cons_self) rfl
    have one : forT Xt (semD Xt (Of law) (n + 2)) (.tup [.name 1, .name 2]) cpB (.tupk [.int (k : Nat), .int (p[k] : Nat)]) [some (.tup (toV p)), o1, o2] = .nx [some (.tup (toV p)), some (.int (k : Nat)), some (.int (p[k] : Nat))] := by
      unfold forT cpB
      push_cast [kon0, c1, toV_len, d1, s1, cD_inn, c2, Bool.and_self, Bool.not_true, if_false, Bool.false_eq_true]
    show forD _ (.tupk [.int (k : Nat), .int (p[k] : Nat)] :: enumL (k + 1) (toV (p.drop (k + 1)))) _ = _
    rw [forD_cons, one, Out.loop_nx, ih]
theorem D3 {n : Nat} {p : List Nat} (hp : IsP p) (h60 : p.length ≤ 60) : semD Xt (Of law) (n + 3) 3 [.tup (toV p)] = .ok .non := by
  rw [semD_body (d := Pk.d3) rfl, Pk.d3, run_def (by rfl)]
  have h0 : p ≠ [] := fun e => by have := hp.pos; rw [e] at this; cases this
  have q : cmpD Xt (semD Xt (Of law) (n + 2)) .eq (.tup (toV p)) (.tup []) = .ok (.bl false) := by
    have := cD_eqT (Γ := semD Xt (Of law) (n + 2)) (a := p) (b := [])
    rw [decide_eq_false h0] at this
    exact this
  obtain ⟨o1, o2, lp⟩ := cpLoop (law := law) (n := n) hp h60 p 0 none none rfl
  push_cast [q, Bool.not_true, if_false, Bool.false_eq_true, lp]
/-! ranks -/
theorem six_mls {env : EV.Env} {i x : Nat} {ws xs : List Val} {v : Val} (h : x < xs.length) : sixD i env (.mls ws) xs v (.int (x : Nat)) = .nx (env.set i (some (.mls (xs.set x v)))) := by
  unfold sixD
  dsimp only
  have e1 : L2.ixN xs.length (x : Int) = some x := by
    unfold L2.ixN
    rw [if_pos (by omega), if_pos (by omega)]
    congr 1
  rw [e1]; rfl
theorem toV_set (L : List Nat) (x k : Nat) : (toV L).set x (.int (k : Nat)) = toV (L.set x k) := by rw [toV, toV, List.map_set]
abbrev rkB : Ss := (.cons (.setIx 1 (.var 3) (.var 2)) .nil)
theorem rkLoop {Γ : SemD} {v : Val} : ∀ (l : List Nat) (k : Nat) (L : List Nat) (o2 o3 : Option Val), (∀ x ∈ l, x < L.length) → ∃ o2' o3', forD (forT Xt Γ (.tup [.name 2, .name 3]) rkB) (enumL k (toV l)) [some v, some (.mls (toV L)), o2, o3] = .nx [some v, some (.mls (toV (setR (l.zipIdx k) L))), o2', o3']
  | [], k, L, o2, o3, _ => ⟨o2, o3, by simp only [show toV [] = [] from rfl, enumL, forD_nil, List.zipIdx_nil, setR, List.foldl_nil]⟩
  | x :: l, k, L, o2, o3, h => by
    obtain ⟨o2', o3', ih⟩ := rkLoop (Γ := Γ) (v := v) l (k + 1) (L.set x k) (some (.int (k : Nat))) (some (.int (x : Nat))) fun y hy => by rw [List.length_set]; exact h y (List.mem_cons_of_mem _ hy)
    refine ⟨o2', o3', ?_⟩
    have hx : x < (toV L).length := by rw [toV_len]; exact h x List.mem_cons_self
    have one : forT Xt Γ (.tup [.name 2, .name 3]) rkB (.tupk [.int (k : Nat), .int (x : Nat)]) [some v, some (.mls (toV L)), o2, o3] = .nx [some v, some (.mls (toV (L.set x k))), some (.int (k : Nat)), some (.int (x : Nat))] := by
      have st : ps Xt Γ (.setIx 1 (.var 3) (.var 2)) [some v, some (.mls (toV L)), some (.int (k : Nat)), some (.int (x : Nat))] = _ := dS_setIx gM_1
      unfold forT rkB
      push_cast [st, six_mls hx, toV_set]
    show forD _ (.tupk [.int (k : Nat), .int (x : Nat)] :: enumL (k + 1) (toV l)) _ = _
    rw [forD_cons, one, Out.loop_nx, ih]
    rfl
theorem D4 {n : Nat} {p : List Nat} (hp : IsP p) (h60 : p.length ≤ 1000) : semD Xt (Of law) (n + 1) 4 [.tup (toV p)] = .ok (.lst (toV (ranksL p))) := by
  rw [semD_body (d := Pk.d4) rfl, Pk.d4, run_def (by rfl)]
  have inner : lcD (lcTn Xt (semD Xt (Of law) n) (.int 0) (.name 3) .no [some (.tup (toV p)), none, none, none]) (toV p) = .ok (toV (List.replicate p.length 0)) := by
    rw [show toV p = p.map (fun (n : Nat) => Val.int (n : Nat)) from rfl, lcD_map, lcG_ok (f := fun _ => .int 0)]
    · rw [toV, List.map_replicate, List.map_const']; rfl
    · intro a ha
      push_cast []
  have e1 : (toV (List.replicate p.length 0)).length ≤ sizeLine := by rw [toV_len, List.length_replicate]; exact sz_in (by omega)
  obtain ⟨o2, o3, lp⟩ := rkLoop (Γ := semD Xt (Of law) n) (v := .tup (toV p)) p 0 (List.replicate p.length 0) none none fun x hx => by rw [List.length_replicate]; exact hp.lt hx
  have fz : ∀ {a b c d : Option Val} {xs : List Val} {ss : Ss}, pss Xt (semD Xt (Of law) n) (.frz 1 ss) [a, some (.mls xs), c, d] = pss Xt (semD Xt (Of law) n) ss [a, some (.lst xs), c, d] := fun {a b c d xs ss} => dSs_frz (by rw [gVs, gV0])
  push_cast [inner, szD_ok e1, lp, fz]
  rfl
/-! next ranks, rises -/
theorem ixL_nat {xs : List Nat} {j : Nat} (h : j < xs.length) : ixv (.lst (toV xs)) (.int (j : Nat)) = some (.int ((xs.getD j 0 : Nat) : Int)) := by
  show (L2.atI (toV xs) (j : Int)) = _
  have e : L2.ixN (toV xs).length (j : Int) = some j := by
    rw [toV_len]
    unfold L2.ixN
    rw [if_pos (by omega), if_pos (by omega)]
    congr 1
  unfold L2.atI
  rw [e]
  show (toV xs)[j]? = _
  rw [toV, List.getElem?_map, List.getElem?_eq_getElem h, List.getD_eq_getElem?_getD, List.getElem?_eq_getElem h]
  rfl
theorem ixL_int {xs : List Int} {j : Nat} (h : j < xs.length) : ixv (.lst (xs.map .int)) (.int (j : Nat)) = some (.int (xs.getD j 0)) := by
  show (L2.atI (xs.map Val.int) (j : Int)) = _
  have e : L2.ixN (xs.map Val.int).length (j : Int) = some j := by
    rw [List.length_map]
    unfold L2.ixN
    rw [if_pos (by omega), if_pos (by omega)]
    congr 1
  unfold L2.atI
  rw [e]
  show (xs.map Val.int)[j]? = _
  rw [List.getElem?_map, List.getElem?_eq_getElem h, List.getD_eq_getElem?_getD, List.getElem?_eq_getElem h]
  rfl
theorem ixM_int {xs : List Int} {j : Nat} (h : j < xs.length) : ixv (.mls (xs.map .int)) (.int (j : Nat)) = some (.int (xs.getD j 0)) := ixL_int h
theorem selK {a b c : Int} {k : Nat} : selD ["first", "last", "ring"] [.int a, .int b, .int c] (.str (wS k)) = .ok (.int (match k with | 0 => a | 1 => b | _ => c)) := by
  have e1 : (("last" : Str) == ("first" : Str)) = false := by decide +kernel
  have e2 : (("ring" : Str) == ("first" : Str)) = false := by decide +kernel
  have e3 : (("ring" : Str) == ("last" : Str)) = false := by decide +kernel
  have z : (List.zip [("first" : Str), "last", "ring"] [Val.int a, .int b, .int c]) = ([(("first" : Str), Val.int a), (("last" : Str), Val.int b), (("ring" : Str), Val.int c)] : List (Str × Val)) := rfl
  have h : List.lookup (wS k) (List.zip [("first" : Str), "last", "ring"] [Val.int a, .int b, .int c]) = some (Val.int (match k with | 0 => a | 1 => b | _ => c)) := by
    rw [z]
    match k with
    | 0 => show List.lookup ("first" : Str) _ = _; simp only [List.lookup_cons, beq_self_eq_true]
    | 1 => show List.lookup ("last" : Str) _ = _; simp only [List.lookup_cons, beq_self_eq_true, e1]
    | _ + 2 => show List.lookup ("ring" : Str) _ = _; simp only [List.lookup_cons, beq_self_eq_true, e2, e3]
  show Ro.of _ = _
  rw [h]; rfl
theorem D5 {n c x : Nat} {p : List Nat} (hp : IsP p) : semD Xt (Of law) (n + 1) 5 [.lst (toV (ranksL p)), .int (x : Nat), .str (wS c)] = .ok (.int (nextR p c x)) := by
  rw [semD_body (d := Pk.d5) rfl, Pk.d5, run_def (by rfl)]
  have q1 : ((x : Nat) : Int) + 1 = ((x + 1 : Nat) : Int) := by omega
  by_cases h : x + 1 < p.length
  · have c1 : ((x + 1 : Nat) : Int) < ((p.length : Nat) : Int) := by omega
    have i1 := ixL_nat (xs := ranksL p) (j := x + 1) (by rw [ranksL_len]; exact h)
    rw [ranksL_at hp.perm h] at i1
    have nr : nextR p c x = ((p.idxOf (x + 1) : Nat) : Int) := if_pos h
    push_cast [q1, toV_len, ranksL_len, c1, decide_true, if_true, i1, nr]
  · have c1 : ¬ ((x + 1 : Nat) : Int) < ((p.length : Nat) : Int) := by omega
    have i1 := ixL_nat (xs := ranksL p) (j := 0) (by rw [ranksL_len]; exact hp.pos)
    rw [ranksL_at hp.perm hp.pos] at i1
    have i1' : ixv (.lst (toV (ranksL p))) (.int 0) = some (.int ((p.idxOf 0 : Nat) : Int)) := i1
    have nr : nextR p c x = tailR p c := if_neg h
    push_cast [q1, toV_len, ranksL_len, c1, decide_false, if_false, Bool.false_eq_true, i1', selK, nr]
    rfl
theorem D6 {n c : Nat} {p : List Nat} (hp : IsP p) (h60 : p.length ≤ 1000) : semD Xt (Of law) (n + 2) 6 [.tup (toV p), .str (wS c)] = .ok (.lst (toV (steep p c))) := by
  rw [semD_body (d := Pk.d6) rfl, Pk.d6, run_def (by rfl)]
  have in1 : lcD (lcTn Xt (semD Xt (Of law) (n + 1)) (.call 5 (.cons (.var 2) (.cons (.var 4) (.cons (.var 1) .nil)))) (.name 4) .no [some (.tup (toV p)), some (.str (wS c)), some (.lst (toV (ranksL p))), none, none, none]) (toV p) = .ok ((aft p c).map .int) := by
    rw [show toV p = p.map (fun (n : Nat) => Val.int (n : Nat)) from rfl, lcD_map, lcG_int (g := nextR p c)]
    · rfl
    · intro x hx
      push_cast [D5 (law := law) (n := n) (c := c) hp]
  have e1 : ((aft p c).map Val.int).length ≤ sizeLine := by rw [List.length_map, aft_len]; exact sz_in (by omega)
  have r1 : rgOk (((p.length : Nat) : Int) - 1) = true := rgOk_in (by omega) (by omega)
  have r2 : (((p.length : Nat) : Int) - 1).toNat = p.length - 1 := by omega
  push_cast [D4 (law := law) (n := n) hp h60, in1, szD_ok e1, toV_len, rngD_ok r1, r2]
  rw [show rgl 0 (p.length - 1) = toV (List.range (p.length - 1)) by rw [rgl_map, toV]; exact List.map_congr_left fun i _ => by rw [Int.zero_add]]
  rw [show toV (List.range (p.length - 1)) = (List.range (p.length - 1)).map (fun (n : Nat) => Val.int (n : Nat)) from rfl, lcD_map, lcG_if (p := fun i => decide ((aft p c).getD (i + 1) 0 < (aft p c).getD i 0)) (f := fun i => .int (i : Nat))]
  · have e2 : (((List.range (p.length - 1)).filter fun i => decide ((aft p c).getD (i + 1) 0 < (aft p c).getD i 0)).map fun i => Val.int (i : Nat)).length ≤ sizeLine := by
      rw [List.length_map]
      refine Nat.le_trans (List.length_filter_le _ _) (sz_in ?_)
      rw [List.length_range]; omega
    push_cast [szD_ok e2]
    rfl
  · intro i hi
    have hi' := List.mem_range.mp hi
    have q1 : ((i : Nat) : Int) + 1 = ((i + 1 : Nat) : Int) := by omega
    have i1 := ixL_int (xs := aft p c) (j := i) (by rw [aft_len]; omega)
    have i2 := ixL_int (xs := aft p c) (j := i + 1) (by rw [aft_len]; omega)
    push_cast [q1, i1, i2]
    cases decide ((aft p c).getD (i + 1) 0 < (aft p c).getD i 0) <;> rfl
/-! orders as objects -/
def ordV (p : List Nat) (c : Nat) : Val := .obj 0 [.tup (toV p), .str (wS c), .lst (toV (ranksL p)), .lst (toV (steep p c))]
theorem of0 : Xt.of 0 = some [0, 1, 2, 3] := thru rfl
def finI (X : Txt) (c : Nat) (o : Out) : Ro Val := match o with
    | .nx env => match getV env 0 with
      | some (.mob c' as fs) => if c' = c ∧ X.of c = some as then .ok (.obj c fs) else .no
      | _ => .no
    | .xc _ v => .ex v
    | _ => .no
theorem finI_nx {X : Txt} {c : Nat} {as : List Nat} {fs : List Val} {r : EV.Env} (h : X.of c = some as) : finI X c (.nx (some (.mob c as fs) :: r)) = .ok (.obj c fs) := by
  show (if c = c ∧ X.of c = some as then _ else _) = _
  rw [if_pos ⟨rfl, h⟩]
theorem run_init {X : Txt} {Γ : SemD} {c np nn : Nat} {body : Ss} {args : List Val} (hp : args.length + 1 = np) : runInitD X Γ c ⟨np, nn, body⟩ args = finI X c (pss X Γ body (some (.mob c [] []) :: args.map some ++ List.replicate (nn - np) none)) := by
  unfold runInitD
  exact if_pos hp
theorem semD_init {X : Txt} {F : Nat → Option Fn} {n f c : Nat} {d : Def} {as : List Val} (h : F f = some (.init c d)) : semD X F (n + 1) f as = runInitD X (semD X F n) c d as := by
  show (match F f with | some (.body d) => _ | some (.init c d) => _ | _ => _) = _
  rw [h]
theorem newA_0 {a : Nat} {as : List Nat} {v : Val} (hd : isData v = true) (h : ([0, 1, 2, 3].any (Nat.beq a) && !as.any (Nat.beq a) && decide (as.length < 900)) = true) : newA Xt 0 a as v = true := by
  unfold newA
  rw [hd, of0]
  dsimp only
  rw [Bool.true_and]
  exact h
theorem D900 {n c : Nat} {p : List Nat} (hp : IsP p) (h60 : p.length ≤ 60) : semD Xt (Of law) (n + 4) 900 [.tup (toV p), .str (wS c)] = .ok (ordV p c) := by
  rw [semD_init (d := Pk.d900) (c := 0) rfl, Pk.d900, run_init (by rfl)]
  push_cast [D3 (law := law) (n := n) hp h60, D2 (law := law) (n := n + 2) (c := c), D4 (law := law) (n := n + 2) hp (by omega), D6 (law := law) (n := n + 1) (c := c) hp (by omega), pAD_0 (newA_0 (a := 0) (as := []) (v := .tup (toV p)) rfl (by decide)), pAD_0 (newA_0 (a := 1) (as := [0]) (v := .str (wS c)) rfl (by decide)), pAD_0 (newA_0 (a := 2) (as := [0, 1]) (v := .lst (toV (ranksL p))) rfl (by decide)), pAD_0 (newA_0 (a := 3) (as := [0, 1, 2]) (v := .lst (toV (steep p c))) rfl (by decide)), finI_nx of0]
  rfl
section
variable {Γ : SemD} {p : List Nat} {c : Nat}
theorem at_row : attrD Xt Γ (ordV p c) 0 = .ok (.tup (toV p)) := attrD_of of0 rfl rfl rfl
theorem at_style : attrD Xt Γ (ordV p c) 1 = .ok (.str (wS c)) := attrD_of of0 rfl rfl rfl
theorem at_standing : attrD Xt Γ (ordV p c) 2 = .ok (.lst (toV (ranksL p))) := attrD_of of0 rfl rfl rfl
theorem at_steep : attrD Xt Γ (ordV p c) 3 = .ok (.lst (toV (steep p c))) := attrD_of of0 rfl rfl rfl
theorem isc_ord : isiCD Xt (ordV p c) 0 = .ok (.bl true) := isiCD_obj of0
end
theorem iD_ord {p : List Nat} {c : Nat} : isData (ordV p c) = true := thru rfl
theorem D13 {n c : Nat} {p : List Nat} : semD Xt (Of law) (n + 1) 13 [ordV p c] = .ok .non := by
  rw [semD_body (d := Pk.d13) rfl, Pk.d13, run_def (by rfl)]
  push_cast [iD_ord, isc_ord, Bool.not_true, if_false, Bool.false_eq_true]
/-! numbers of texts -/
def rows (l : Nat) (m : Int) : Nat := if l = 0 then 1 else if 0 < m then bin (l + m.toNat - 1) l else 0
theorem D36 {n l : Nat} {m : Int} (hl : l ≤ 1000) (h0 : -1000 ≤ m) (hm : m ≤ 2000000000000000000) : semD Xt (Of law) (n + 2) 36 [.int (l : Nat), .int m] = .ok (.int (rows l m : Nat)) := by
  rw [semD_body (d := Pk.d36) rfl, Pk.d36, run_def (by rfl)]
  by_cases h : l = 0
  · subst h
    push_cast [show (((0 : Nat) : Int) == 0) = true from rfl, if_true]
    rfl
  · have c1 : (((l : Nat) : Int) == 0) = false := beq_eq_false_iff_ne.mpr (by omega)
    by_cases hz : 0 < m
    · have q : ((l : Nat) : Int) + m - 1 = ((l + m.toNat - 1 : Nat) : Int) := by omega
      have r : rows l m = bin (l + m.toNat - 1) l := by rw [rows, if_neg h, if_pos hz]
      push_cast [c1, hz, decide_true, if_true, if_false, Bool.false_eq_true, q, D35 (law := law) (n := n) (show l + m.toNat - 1 < 2 ^ 63 by omega) hl, r]
    · have r : rows l m = 0 := by rw [rows, if_neg h, if_neg hz]
      push_cast [c1, hz, decide_false, if_false, Bool.false_eq_true, r]
      rfl
theorem D37 {n c : Nat} {p : List Nat} {m : Int} : semD Xt (Of law) (n + 1) 37 [ordV p c, .int m] = .ok (.int (m - (steep p c).length)) := by
  rw [semD_body (d := Pk.d37) rfl, Pk.d37, run_def (by rfl)]
  push_cast [iD_ord, at_steep, toV_len]
def countT (p : List Nat) (c : Nat) (m : Int) : Nat := rows p.length (m - (steep p c).length)
theorem D38 {n c : Nat} {p : List Nat} {m : Int} (hp : IsP p) (h60 : p.length ≤ 60) (h1 : 1 ≤ m) (h2 : m ≤ 1000000000000000000) : semD Xt (Of law) (n + 4) 38 [ordV p c, .int m] = .ok (.int (countT p c m : Nat)) := by
  rw [semD_body (d := Pk.d38) rfl, Pk.d38, run_def (by rfl)]
  have sl := steep_len p c
  push_cast [iD_ord, at_row, toV_len, D13 (law := law) (n := n + 2), D34 (law := law) (n := n) h1 h2, D37 (law := law) (n := n + 2), D36 (law := law) (n := n + 1) (l := p.length) (m := m - (steep p c).length) (by omega) (by omega) (by omega)]
  rfl
end
end OD
namespace LR
open PySem PySem.Spec PyProof.Rows L2 EV
open Pk (Of Xt)
open MA MO NK LK OD
/-! the laws' own defs about orders -/
section
variable {F : Nat → Option Fn} {n : Nat} {h : Hs} {c : C} {k kx : KV} {env env' : EV.Env}
theorem par2_ok {X : Txt} {Γ : Sem} {i j : Nat} {a b : E} {ss : Ss} {Qa Qb : Val → Prop} (hi : i < env.length) (hj : j < env.length) (ha : Ev X Γ a env Qa) (hb : Ev X Γ b env Qb)
    (hr : ∀ v w, Qa v → Qb w → exs X Γ ss ((env.set i (some v)).set j (some w)) [] c = true) : exs X Γ (.cons (.par [i, j] [.e a, .e b]) ss) env [] c = true := by
  rw [c_cons]
  show ev X Γ a env [] (fun v h => ev X Γ b env h (fun w h => put i v env h fun env h => put j w env h fun env h => exs X Γ ss env h c) (c.kx env)) (c.kx env) = true
  refine ha _ _ fun v hv => hb _ _ fun w hw => ?_
  unfold put
  rw [if_pos hi, fV_eq]
  dsimp only
  rw [if_pos (by rw [List.length_set]; exact hj), fV_eq]
  exact hr v w hv hw
/-! a drawn item of a row -/
def takeD (g : Nat) : Def := ⟨2, 2, (.cons (.ret (.e (.ix (.var 1) (.call g (.cons (.var 0) (.cons (.blt .len (.cons (.var 1) .nil)) .nil)))))) .nil)⟩
theorem take_ok {f g : Nat} {xs : List Val} (hF : F f = some (.body (takeD g))) (hG : F g = some .draw) (h0 : 0 < xs.length) (h1 : xs.length < 1000000) (hd : ∀ x ∈ xs, isData x = true) (hk : ∀ x ∈ xs, k x [] = true) : sem Xt F (n + 2) f [.cup, .lst xs] [] k kx = true := by
  rw [sem_body hF, takeD, run_exs (by rfl)]
  refine ret_ok (Q := fun v => v ∈ xs) (fun K kx hK => ?_) fun v hv => ?_
  · push_cast [LK.iD_cup, LK.c_cons, LK.c_nil, LK.c_set, LK.c_ret, LK.c_if, LK.c_for, LK.c_var, LK.c_int, LK.c_str, LK.c_bl, LK.c_bin, LK.c_blt, LK.c_ix, LK.c_call, LK.c_anil, LK.c_acons, LK.c_lc, LK.c_rng, LK.c_seq, LK.c_K, LK.c_forF]
    refine draw_ok (m := xs.length) hG h0 (by omega) fun j hj => ?_
    have e : ixv (.lst xs) (.int (j : Nat)) = some xs[j] := by
      show L2.atI xs (j : Int) = _
      have e1 : L2.ixN xs.length (j : Int) = some j := by
        unfold L2.ixN
        rw [if_pos (by omega), if_pos (by omega)]
        congr 1
      unfold L2.atI
      rw [e1]
      exact List.getElem?_eq_getElem hj
    simp only [e, LK.c_K]
    exact hK _ (List.getElem_mem hj)
  · show (match isData v with | true => k v [] | false => false) = true
    rw [hd v hv]
    exact hk v hv
def wordsD : Def := ⟨0, 0, (.cons (.ret (.e (.lst (.cons (.str "first") (.cons (.str "last") (.cons (.str "ring") .nil)))))) .nil)⟩
def wordsV : List Val := [.str "first", .str "last", .str "ring"]
theorem words_ok {f : Nat} (hF : F f = some (.body wordsD)) : semD Xt F (n + 1) f [] = .ok (.lst wordsV) := by
  rw [semD_body hF, wordsD, run_def (by rfl)]
  push_cast []
  rfl
theorem words_is {v : Val} (h : v ∈ wordsV) : ∃ c, c < 3 ∧ v = .str (wS c) := by
  simp only [wordsV, List.mem_cons, List.not_mem_nil, or_false] at h
  rcases h with rfl | rfl | rfl
  · exact ⟨0, by decide, rfl⟩
  · exact ⟨1, by decide, rfl⟩
  · exact ⟨2, by decide, rfl⟩
/-! the rises, the laws' own way -/
def lriD : Def := ⟨2, 6, (.cons (.set (.name 2) (.e (.blt .len (.cons (.var 0) .nil)))) (.cons (.set (.name 3) (.own (.lst .nil))) (.cons (.forS (.name 4) (.seq (.var 0)) (.cons (.ifS (.cmp .lt (.bin .add (.var 4) (.int 1)) (.var 2)) (.cons (.append 3 (.e (.mth .index (.var 0) (.cons (.bin .add (.var 4) (.int 1)) .nil)))) .nil) (.cons (.append 3 (.e (.sel ["first", "last", "ring"] (.cons (.neg (.int 1)) (.cons (.var 2) (.cons (.mth .index (.var 0) (.cons (.int 0) .nil)) .nil))) (.var 1)))) .nil)) .nil)) (.cons (.ret (.e (.lc (.var 5) (.name 5) (.rng1 (.bin .sub (.var 2) (.int 1))) (.some (.cmp .gt (.ixo 3 (.var 5)) (.ixo 3 (.bin .add (.var 5) (.int 1)))))))) .nil))))⟩
abbrev lriB : Ss := (.cons (.ifS (.cmp .lt (.bin .add (.var 4) (.int 1)) (.var 2)) (.cons (.append 3 (.e (.mth .index (.var 0) (.cons (.bin .add (.var 4) (.int 1)) .nil)))) .nil) (.cons (.append 3 (.e (.sel ["first", "last", "ring"] (.cons (.neg (.int 1)) (.cons (.var 2) (.cons (.mth .index (.var 0) (.cons (.int 0) .nil)) .nil))) (.var 1)))) .nil)) .nil)
theorem indexL_nat (q : Nat) : ∀ (l : List Nat) (i : Nat), q ∈ l → indexL (.int (q : Nat)) i (toV l) = some (i + l.idxOf q)
  | [], i, h => by cases h
  | x :: l, i, h => by
    have e : eqv (.int (x : Nat)) (.int (q : Nat)) = some (decide (x = q)) := by
      show some (((x : Nat) : Int) == ((q : Nat) : Int)) = _
      congr 1
      by_cases z : x = q
      · subst z; simp
      · have hz : ¬ ((x : Nat) : Int) = ((q : Nat) : Int) := by omega
        simp [z, hz]
    show (match eqv (.int (x : Nat)) (.int (q : Nat)) with | some true => some i | some false => indexL (.int (q : Nat)) (i + 1) (toV l) | none => none) = _
    rw [e, List.idxOf_cons]
    by_cases z : x = q
    · subst z
      rw [decide_eq_true rfl, beq_self_eq_true]; rfl
    · have h' : q ∈ l := by
        rcases List.mem_cons.mp h with y | y
        · exact absurd y.symm z
        · exact y
      rw [decide_eq_false z, beq_eq_false_iff_ne.mpr z]
      show indexL _ (i + 1) (toV l) = some (i + (l.idxOf q + 1))
      rw [indexL_nat q l (i + 1) h']
      congr 1; omega
theorem index_nat {l : List Nat} {q : Nat} (h : q ∈ l) : mth .index (.tup (toV l)) [.int (q : Nat)] = some (.int ((l.idxOf q : Nat) : Int)) := by
  have e : (dataOk (.int (q : Nat)) && (toV l).all dataOk) = true := by
    rw [Bool.and_eq_true]
    refine ⟨rfl, List.all_eq_true.mpr fun x hx => ?_⟩
    obtain ⟨y, _, rfl⟩ := List.mem_map.mp hx
    rfl
  show (if (dataOk (.int (q : Nat)) && (toV l).all dataOk) = true then (indexL (.int (q : Nat)) 0 (toV l)).map fun n => Val.int (n : Nat) else none) = _
  rw [if_pos e, indexL_nat q l 0 h, Nat.zero_add]
  rfl
theorem isRow_tup {xs : List Val} : isRow (.tup xs) = true := thru rfl
theorem lriLoop {Γ : SemD} {p : List Nat} {w : Nat} (hp : IsP p) (h60 : p.length ≤ 1000) : ∀ (l : List Nat) (A : List Int) (o4 : Option Val), (∀ x ∈ l, x ∈ p) → A.length + l.length ≤ p.length → ∃ o4', forD (forT Xt Γ (.name 4) lriB) (toV l) [some (.tup (toV p)), some (.str (wS w)), some (.int (p.length : Nat)), some (.mls (A.map .int)), o4, none] = .nx [some (.tup (toV p)), some (.str (wS w)), some (.int (p.length : Nat)), some (.mls ((A ++ l.map (nextR p w)).map .int)), o4', none]
  | [], A, o4, _, _ => ⟨o4, by simp only [show toV [] = [] from rfl, forD_nil, List.map_nil, List.append_nil]⟩
  | x :: l, A, o4, hm, hl => by
    rw [List.length_cons] at hl
    obtain ⟨o4', ih⟩ := lriLoop (Γ := Γ) (w := w) hp h60 l (A ++ [nextR p w x]) (some (.int (x : Nat))) (fun y hy => hm y (List.mem_cons_of_mem _ hy)) (by rw [List.length_append]; simp only [List.length_cons, List.length_nil]; omega)
    refine ⟨o4', ?_⟩
    have q1 : ((x : Nat) : Int) + 1 = ((x + 1 : Nat) : Int) := by omega
    have sz : (A.map Val.int).length < sizeLine := by rw [List.length_map]; exact sz_lt (by omega)
    have ap : ∀ {z : Int} {e : EV.E}, pe Xt Γ e [some (.tup (toV p)), some (.str (wS w)), some (.int (p.length : Nat)), some (.mls (A.map .int)), some (.int (x : Nat)), none] = .ok (.int z) →
        ps Xt Γ (.append 3 (.e e)) [some (.tup (toV p)), some (.str (wS w)), some (.int (p.length : Nat)), some (.mls (A.map .int)), some (.int (x : Nat)), none] = .nx [some (.tup (toV p)), some (.str (wS w)), some (.int (p.length : Nat)), some (.mls ((A ++ [z]).map .int)), some (.int (x : Nat)), none] := by
      intro z e he
      rw [dS_append (xs := A.map .int) gV_3, dR_e, he, Ro.bind_ok, Ro.st_ok, appD_ok (xs := A.map .int) rfl gV_3 sz, List.map_append]
      rfl
    have one : forT Xt Γ (.name 4) lriB (.int (x : Nat)) [some (.tup (toV p)), some (.str (wS w)), some (.int (p.length : Nat)), some (.mls (A.map .int)), o4, none] = .nx [some (.tup (toV p)), some (.str (wS w)), some (.int (p.length : Nat)), some (.mls ((A ++ [nextR p w x]).map .int)), some (.int (x : Nat)), none] := by
      unfold forT lriB
      by_cases h : x + 1 < p.length
      · have c1 : ((x + 1 : Nat) : Int) < ((p.length : Nat) : Int) := by omega
        have nr : nextR p w x = ((p.idxOf (x + 1) : Nat) : Int) := if_pos h
        have a1 := ap (z := ((p.idxOf (x + 1) : Nat) : Int)) (e := .mth .index (.var 0) (.cons (.bin .add (.var 4) (.int 1)) .nil)) (by push_cast [isRow_tup, q1, index_nat (hp.mem h)])
        push_cast [q1, c1, decide_true, if_true, a1, nr]
      · have c1 : ¬ ((x + 1 : Nat) : Int) < ((p.length : Nat) : Int) := by omega
        have nr : nextR p w x = tailR p w := if_neg h
        have i0 : mth .index (.tup (toV p)) [.int 0] = some (.int ((p.idxOf 0 : Nat) : Int)) := index_nat (hp.mem hp.pos)
        have a1 := ap (z := tailR p w) (e := .sel ["first", "last", "ring"] (.cons (.neg (.int 1)) (.cons (.var 2) (.cons (.mth .index (.var 0) (.cons (.int 0) .nil)) .nil))) (.var 1)) (by push_cast [isRow_tup, i0, selK]; rfl)
        push_cast [q1, c1, decide_false, if_false, Bool.false_eq_true, a1, nr]
    show forD _ (.int (x : Nat) :: toV l) _ = _
    rw [forD_cons, one, Out.loop_nx, ih, List.map_cons, List.append_assoc]
    rfl
theorem lri_ok {f w : Nat} {p : List Nat} (hF : F f = some (.body lriD)) (hp : IsP p) (h60 : p.length ≤ 1000) : semD Xt F (n + 1) f [.tup (toV p), .str (wS w)] = .ok (.lst (toV (steep p w))) := by
  rw [semD_body hF, lriD, run_def (by rfl)]
  obtain ⟨o4, lp⟩ := lriLoop (Γ := semD Xt F n) (w := w) hp h60 p [] none (fun x hx => hx) (by simp)
  rw [List.nil_append] at lp
  have lp' : forD (forT Xt (semD Xt F n) (.name 4) lriB) (toV p) [some (.tup (toV p)), some (.str (wS w)), some (.int (p.length : Nat)), some (.mls []), none, none] = .nx [some (.tup (toV p)), some (.str (wS w)), some (.int (p.length : Nat)), some (.mls ((aft p w).map .int)), o4, none] := lp
  have r1 : rgOk (((p.length : Nat) : Int) - 1) = true := rgOk_in (by omega) (by omega)
  have r2 : (((p.length : Nat) : Int) - 1).toNat = p.length - 1 := by omega
  push_cast [toV_len, lp', rngD_ok r1, r2]
  rw [show rgl 0 (p.length - 1) = toV (List.range (p.length - 1)) by rw [rgl_map, toV]; exact List.map_congr_left fun i _ => by rw [Int.zero_add]]
  rw [show toV (List.range (p.length - 1)) = (List.range (p.length - 1)).map (fun (n : Nat) => Val.int (n : Nat)) from rfl, lcD_map, lcG_if (p := fun i => decide ((aft p w).getD (i + 1) 0 < (aft p w).getD i 0)) (f := fun i => .int (i : Nat))]
  · have e2 : (((List.range (p.length - 1)).filter fun i => decide ((aft p w).getD (i + 1) 0 < (aft p w).getD i 0)).map fun i => Val.int (i : Nat)).length ≤ sizeLine := by
      rw [List.length_map]
      refine Nat.le_trans (List.length_filter_le _ _) (sz_in ?_)
      rw [List.length_range]; omega
    push_cast [szD_ok e2]
    rfl
  · intro i hi
    have hi' := List.mem_range.mp hi
    have q1 : ((i : Nat) : Int) + 1 = ((i + 1 : Nat) : Int) := by omega
    have i1 := ixM_int (xs := aft p w) (j := i) (by rw [aft_len]; omega)
    have i2 := ixM_int (xs := aft p w) (j := i + 1) (by rw [aft_len]; omega)
    push_cast [q1, i1, i2]
    cases decide ((aft p w).getD (i + 1) 0 < (aft p w).getD i 0) <;> rfl
end
end LR
namespace LG
open PySem PySem.Spec PyProof.Rows L2 EV
open Pk (Of Xt)
open MA NK LK LR
/-! laws' last lines, loops with draws -/
section
variable {F : Nat → Option Fn} {n : Nat} {k kx : KV}
theorem ev_d {e : EV.E} {v : Val} {env : EV.Env} {h : Hs} (he : pe Xt (semD Xt F n) e env = .ok v) : ev Xt (sem Xt F n) e env h k kx = k v h := by
  have r := pe_runs (X := Xt) (semD_runs Xt F n) e env h
  rw [he] at r
  exact r k kx
theorem exs_d {ss : Ss} {env env' : EV.Env} {h : Hs} {c : C} (e : pss Xt (semD Xt F n) ss env = .nx env') : exs Xt (sem Xt F n) ss env h c = c.nx env' h := by
  have r := pss_runs (X := Xt) (semD_runs Xt F n) ss env h
  rw [e] at r
  exact r _
theorem evs_d {es : EV.Es} {vs : List Val} {env : EV.Env} {h : Hs} {K : KVs} (he : pes Xt (semD Xt F n) es env = .ok vs) : evs Xt (sem Xt F n) es env h K kx = K vs h := by
  have r := pes_runs (X := Xt) (semD_runs Xt F n) es env h
  rw [he] at r
  exact r K kx
theorem allG_ok {r j m b t : Nat} {env : EV.Env} {f : Val → EV.Env} (h0 : EV.getD env 0 = some (.scr m)) (has : ∀ x, asg (.name t) x (wipeE env (tvars (.name t))) = some (f x)) (hf0 : ∀ x, EV.getD (f x) 0 = some (.scr m)) (hft : ∀ i : Nat, EV.getD (f (.int (i : Nat))) t = some (.int (i : Nat)))
    (hJ : F j = some .mkcup) (hm : m ≤ 63) (hR : ∀ k kx, k (.bl true) [] = true → sem Xt F (n + 1) r [.cup] [] k kx = true) : Ev Xt (sem Xt F (n + 1)) (.blt .all (.cons (.lc (.call r (.cons (.call j (.cons (.var 0) (.cons (.var t) .nil))) .nil)) (.name t) (.rng1 (.blt .max2 (.cons (.int 2) (.cons (.blt .min2 (.cons (.blt .len (.cons (.var 0) .nil)) (.cons (.int (b : Nat)) .nil))) .nil)))) .no) .nil)) env (· = .bl true) := by
  intro K kx hK
  have ln : blt .len [.scr m] = some (.int m) := rfl
  obtain ⟨u, hu, hu2⟩ : ∃ u : Nat, (if (2 : Int) < (if ((b : Nat) : Int) < (m : Int) then ((b : Nat) : Int) else (m : Int)) then (if ((b : Nat) : Int) < (m : Int) then ((b : Nat) : Int) else (m : Int)) else 2) = (u : Int) ∧ u ≤ 63 := by
    by_cases q : ((b : Nat) : Int) < (m : Int)
    · rw [if_pos q]
      by_cases q2 : (2 : Int) < ((b : Nat) : Int)
      · rw [if_pos q2]; exact ⟨b, rfl, by omega⟩
      · rw [if_neg q2]; exact ⟨2, rfl, by omega⟩
    · rw [if_neg q]
      by_cases q2 : (2 : Int) < (m : Int)
      · rw [if_pos q2]; exact ⟨m, rfl, hm⟩
      · rw [if_neg q2]; exact ⟨2, rfl, by omega⟩
  have e1 : rgOk (u : Int) = true := rgOk_in (by omega) (by omega)
  have e2 : rgl 0 ((u : Int)).toNat = toV (List.range u) := by rw [Int.toNat_natCast, rgl_map, toV]; exact List.map_congr_left fun i _ => by rw [Int.zero_add]
  simp only [LK.iD_cup, LK.c_cons, LK.c_nil, LK.c_set, LK.c_ret, LK.c_if, LK.c_for, LK.c_var, LK.c_int, LK.c_str, LK.c_bl, LK.c_bin, LK.c_blt, LK.c_ix, LK.c_call, LK.c_anil, LK.c_acons, LK.c_lc, LK.c_rng, LK.c_seq, LK.c_K, LK.c_forF, h0, ln, blt_min2, blt_max2, gt_iff_lt, hu, e1, if_true, e2]
  refine lcL_true (List.range u) [] 0 _ (fun x hx kt hkt => ?_) (by rw [List.length_range]; exact sz_in (by omega)) ?_
  · simp only [has, hf0, hft, LK.c_K]
    refine sem_mk hJ ?_
    exact hR _ _ hkt
  · have al : blt .all [.lst ([].reverse ++ List.replicate (List.range u).length (Val.bl true))] = some (.bl true) := by
      have e : [].reverse ++ List.replicate (List.range u).length (Val.bl true) = (List.replicate (List.range u).length true).map .bl := by rw [List.map_replicate]; rfl
      have ea : (List.replicate (List.range u).length true).all id = true := by
        rw [List.all_eq_true]
        intro x hx
        exact (List.mem_replicate.mp hx).2
      rw [e, blt_allL, ea]
    simp only [al, LK.c_K]
    exact hK _ rfl
theorem setT_ok {X : Txt} {Γ : Sem} {ts : List T} {e : E} {ss : Ss} {env : EV.Env} {c : C} {Q : Val → Prop} (he : Ev X Γ e env Q) (hr : ∀ v, Q v → ∃ env', asg (.tup ts) v env = some env' ∧ exs X Γ ss env' [] c = true) : exs X Γ (.cons (.set (.tup ts) (.e e)) ss) env [] c = true := by
  rw [c_cons]
  show ev X Γ e env [] (fun v h => stepK (asg (.tup ts) v env) fun env => exs X Γ ss env h c) (c.kx env) = true
  refine he _ _ fun v hv => ?_
  obtain ⟨env', e1, e2⟩ := hr v hv
  rw [e1]
  exact e2
/-- a loop over any row, with a state that each turn keeps -/
theorem for_ok {X : Txt} {Γ : Sem} {t : T} {b : Ss} {c : C} (I : EV.Env → Prop) (hb : ∀ x env, I env → ∀ c' : C, (∀ env', I env' → c'.nx env' [] = true) → c'.rt = c.rt → c'.kx = c.kx → forF X Γ t b x env [] c' = true) (hk : ∀ env, I env → c.nx env [] = true) : ∀ (xs : List Val) (env : EV.Env), I env → forL (forF X Γ t b) xs env [] c = true
  | [], env, h => hk env h
  | x :: xs, env, h => by
    rw [forL_cons]
    exact hb x env h _ (fun env' h' => for_ok I hb hk xs env' h') rfl rfl
end
end LG
set_option maxHeartbeats 0
local macro_rules | `(tactic| push_cast [$ls,*] $[$loc]?) => `(tactic| simp only [EV.dE_var, EV.dE_non, EV.dE_bl, EV.dE_int, EV.dE_str, EV.dE_kon, EV.dE_bin, EV.dE_neg, EV.dE_eq, EV.dE_ne, EV.dE_lt, EV.dE_le, EV.dE_gt, EV.dE_ge, EV.dE_inn, EV.dE_nin, EV.dE_isN, EV.dE_notN, EV.dE_isB, EV.dE_isnB, EV.dE_chain, EV.dE_and, EV.dE_or, EV.dE_one, EV.dE_not, EV.dE_ife, EV.dE_tup, EV.dE_lst, EV.dE_ix, EV.dE_slc, EV.dE_ixo, EV.dE_lenO, EV.dE_tupO, EV.dE_call, EV.dE_new, EV.dE_callK, EV.dE_blt, EV.dE_mth, EV.dE_lc, EV.dE_lc2, EV.dE_stup, EV.rowD_tup, EV.rowD_lst, EV.stv_f, EV.stv_t, EV.asg_lst, EV.dE_sel, EV.dE_cget, EV.dE_isi, EV.dE_lrg, EV.dE_attr, EV.dE_meth, EV.dE_isiC, EV.dE_xfld, EV.dE_xisi, EV.lcTn_no, EV.lcTn_some, EV.dEs_nil, EV.dEs_cons, EV.dP_no, EV.dP_some, EV.dI_seq, EV.dI_rng1, EV.dI_rng2, EV.dI_enm, EV.dI_zip, EV.dR_e, EV.dR_own, EV.dR_pop, EV.dRs_nil, EV.dRs_cons, EV.dS_expr, EV.dS_ret, EV.dS_retN, EV.dS_set, EV.dS_setT, EV.dS_par, EV.dS_append, EV.dS_setIx, EV.dS_insert, EV.dS_extend, EV.dS_if, EV.dS_for, EV.dS_brk, EV.dS_cont, EV.dS_pass, EV.dS_raise, EV.dS_setA, EV.dS_parA, EV.pAs_nil, EV.pAs_cons, EV.dSs_nil, EV.dSs_cons, EV.Ro.bind_ok, EV.Ro.bind_ex, EV.Ro.of_some, EV.Ro.calm_ok, EV.Ro.st_ok, EV.Ro.st_ex, EV.ifV_bl, EV.bl_bl, EV.finD_nx, EV.finD_xc, EV.finD_rt, EV.Out.of_some, EV.Out.then_nx, EV.Out.then_rt, EV.Out.then_xc, EV.Out.then_bk, EV.Out.then_ct, EV.iD_non, EV.iD_bl, EV.iD_int, EV.iD_str, EV.iD_tup, EV.iD_tupk, EV.iD_lst, EV.iD_obj, EV.pA_nil, EV.pA_cons, EV.wipe_nil, EV.wipe_cons, EV.tv_name, EV.tv_tup, EV.tvL_nil, EV.tvL_cons, EV.asg_tup, EV.asg_tupk, EV.asgs_nil, EV.asgs_cons, EV.ob_some, EV.chD_b, EV.cop_lt, EV.cop_le, EV.cop_gt, EV.cop_ge, EV.dS_never, EV.blt_sumL, EV.blt_sumT, EV.blt_allL, EV.blt_max2, EV.blt_min2, EV.blt_lenL, EV.blt_lenT, EV.blt_intI, EV.blt_intB, EV.blt_tupL, EV.blt_lstT, EV.blt_lstL, EV.isi_non_int, EV.isi_non_bool, EV.isi_non_str, EV.isi_non_tuple, EV.isi_non_list, EV.isi_bl_int, EV.isi_bl_bool, EV.isi_bl_str, EV.isi_bl_tuple, EV.isi_bl_list, EV.isi_int_int, EV.isi_int_bool, EV.isi_int_str, EV.isi_int_tuple, EV.isi_int_list, EV.isi_str_int, EV.isi_str_bool, EV.isi_str_str, EV.isi_str_tuple, EV.isi_str_list, EV.isi_tup_int, EV.isi_tup_bool, EV.isi_tup_str, EV.isi_tup_tuple, EV.isi_tup_list, EV.isi_lst_int, EV.isi_lst_bool, EV.isi_lst_str, EV.isi_lst_tuple, EV.isi_lst_list, EV.bop_add, EV.bop_sub, EV.optI_int, EV.notD_bl, EV.negD_int, EV.ownD_lst, EV.seqD_lst, EV.seqD_tup, EV.enmD_lst, EV.enmD_tup, EV.cD_lt, EV.cD_le, EV.cD_gt, EV.cD_ge, EV.cD_eqI, EV.cD_neI, EV.cD_eqS, EV.cD_neS, List.length_cons, List.length_nil, List.cons_append, List.nil_append, Nat.zero_lt_succ, Nat.succ_lt_succ_iff, Nat.lt_irrefl, Nat.reduceAdd, Nat.reduceLT, Nat.reduceSub, Nat.reduceLeDiff, List.map_cons, List.map_nil, List.replicate, Nat.succ_eq_add_one, EV.gV_0, EV.gD_0, EV.gM_0, EV.eS_0, EV.pD_0, EV.aN_0, EV.gV_1, EV.gD_1, EV.gM_1, EV.eS_1, EV.pD_1, EV.aN_1, EV.gV_2, EV.gD_2, EV.gM_2, EV.eS_2, EV.pD_2, EV.aN_2, EV.gV_3, EV.gD_3, EV.gM_3, EV.eS_3, EV.pD_3, EV.aN_3, EV.gV_4, EV.gD_4, EV.gM_4, EV.eS_4, EV.pD_4, EV.aN_4, EV.gV_5, EV.gD_5, EV.gM_5, EV.eS_5, EV.pD_5, EV.aN_5, EV.gV_6, EV.gD_6, EV.gM_6, EV.eS_6, EV.pD_6, EV.aN_6, EV.gV_7, EV.gD_7, EV.gM_7, EV.eS_7, EV.pD_7, EV.aN_7, EV.gV_8, EV.gD_8, EV.gM_8, EV.eS_8, EV.pD_8, EV.aN_8, EV.gV_9, EV.gD_9, EV.gM_9, EV.eS_9, EV.pD_9, EV.aN_9, EV.gV_10, EV.gD_10, EV.gM_10, EV.eS_10, EV.pD_10, EV.aN_10, EV.gV_11, EV.gD_11, EV.gM_11, EV.eS_11, EV.pD_11, EV.aN_11, EV.gV_12, EV.gD_12, EV.gM_12, EV.eS_12, EV.pD_12, EV.aN_12, EV.gV_13, EV.gD_13, EV.gM_13, EV.eS_13, EV.pD_13, EV.aN_13, EV.gV_14, EV.gD_14, EV.gM_14, EV.eS_14, EV.pD_14, EV.aN_14, EV.gV_15, EV.gD_15, EV.gM_15, EV.eS_15, EV.pD_15, EV.aN_15, EV.gV_16, EV.gD_16, EV.gM_16, EV.eS_16, EV.pD_16, EV.aN_16, EV.gV_17, EV.gD_17, EV.gM_17, EV.eS_17, EV.pD_17, EV.aN_17, EV.gV_18, EV.gD_18, EV.gM_18, EV.eS_18, EV.pD_18, EV.aN_18, EV.gV_19, EV.gD_19, EV.gM_19, EV.eS_19, EV.pD_19, EV.aN_19, EV.gV_20, EV.gD_20, EV.gM_20, EV.eS_20, EV.pD_20, EV.aN_20, EV.gV_21, EV.gD_21, EV.gM_21, EV.eS_21, EV.pD_21, EV.aN_21, EV.gV_22, EV.gD_22, EV.gM_22, EV.eS_22, EV.pD_22, EV.aN_22, EV.gV_23, EV.gD_23, EV.gM_23, EV.eS_23, EV.pD_23, EV.aN_23, EV.szD_0, EV.szD_1, EV.szD_2, EV.szD_3, EV.szD_4, EV.szD_5, EV.szD_6, EV.szD_7, EV.szD_8, EV.szD_9, EV.szD_10, EV.szD_11, $ls,*] $[$loc]?)
namespace Lw
open PySem PySem.Spec PyProof.Rows L2 EV
open Pk (lk Xt)
def top (i : Nat) : Stmt := PySem.Challenge.pw_endorders_k66_claims_by_hand.main.body.getD i (.Pass ⟨0, 0, 0, 0⟩)
/-- _law_jug -/
def d1023 : Def := ⟨2, 5, (.cons (.set (.name 2) (.e (.ife (.cmp .lt (.var 1) (.blt .len (.cons (.var 0) .nil))) (.ix (.var 0) (.var 1)) (.bin .mul (.int 51001) (.bin .add (.var 1) (.int 9)))))) (.cons (.set (.name 3) (.e (.bin .add (.int 39119) (.bin .mul (.int 5077) (.var 1))))) (.cons (.forS (.name 4) (.seq (.bin .add (.slc (.var 0) .no (.some (.int 4))) (.lst (.cons (.var 2) .nil)))) (.cons (.set (.name 3) (.e (.bin .mod (.blt .int (.cons (.bin .add (.bin .add (.bin .mul (.var 3) (.int 41231)) (.bin .mod (.blt .int (.cons (.var 4) .nil)) (.int 2147482949))) (.int 61)) .nil)) (.int 2147482949)))) .nil)) (.cons (.ret (.own (.lst (.cons (.ife (.orE (.cmp .lt (.var 2) (.int 0)) (.one (.cmp .ge (.var 2) (.bin .pow (.int 10) (.int 17))))) (.blt .abs (.cons (.var 2) .nil)) (.int 0)) (.cons (.var 3) .nil))))) .nil))))⟩
/-- _law_swig -/
def d1024 : Def := ⟨2, 3, (.cons (.ifS (.cmp .gt (.ixo 0 (.int 0)) (.int 0)) (.cons (.setDm 0 (.int 0) 2 (.ixo 0 (.int 0)) (.var 1)) (.cons (.ret (.e (.var 2))) .nil)) .nil) (.cons (.setIx 0 (.int 1) (.bin .mod (.blt .int (.cons (.bin .add (.bin .mul (.ixo 0 (.int 1)) (.int 63601)) (.int 18013)) .nil)) (.int 2147482949))) (.cons (.ret (.e (.bin .mod (.blt .int (.cons (.bin .fdv (.ixo 0 (.int 1)) (.int 953)) .nil)) (.var 1)))) .nil)))⟩
/-- _law_one -/
def d1025 : Def := ⟨2, 2, (.cons (.ret (.e (.ix (.var 1) (.call 1024 (.cons (.var 0) (.cons (.blt .len (.cons (.var 1) .nil)) .nil)))))) .nil)⟩
/-- _law_bank -/
def d1026 : Def := ⟨0, 3, (.cons (.par [1, 2] [(.e (.tup (.cons (.int 5) (.cons (.int 3) (.cons (.int 1) (.cons (.int 0) (.cons (.int 4) (.cons (.int 2) .nil)))))))), (.e (.tup (.cons (.int 1) (.cons (.int 0) (.cons (.int 2) (.cons (.int 0) (.cons (.int 2) (.cons (.int 0) .nil))))))))]) (.cons (.set (.name 0) (.own (.lst (.cons (.lst (.cons (.tup (.cons (.str "order") (.cons (.var 1) (.cons (.str "first") (.cons (.int 3) .nil))))) (.cons (.var 2) .nil))) (.cons (.lst (.cons (.tup (.cons (.str "order") (.cons (.var 1) (.cons (.str "ring") (.cons (.int 9) .nil))))) (.cons (.tup (.cons (.int 4) (.cons (.int 3) (.cons (.int 8) (.cons (.int 2) (.cons (.int 8) (.cons (.int 2) .nil))))))) .nil))) .nil))))) (.frz 0 (.cons (.set (.name 0) (.own (.bin .add (.var 0) (.lst (.cons (.lst (.cons (.tup (.cons (.str "order") (.cons (.tup (.cons (.int 1) (.cons (.int 3) (.cons (.int 5) (.cons (.int 0) (.cons (.int 2) (.cons (.int 4) .nil))))))) (.cons (.str "last") (.cons (.int 3) .nil))))) (.cons (.var 2) .nil))) (.cons (.lst (.cons (.tup (.cons (.str "order") (.cons (.tup (.cons (.int 0) .nil)) (.cons (.str "ring") (.cons (.int 1) .nil))))) (.cons (.tup (.cons (.int 0) .nil)) .nil))) .nil)))))) (.frz 0 (.cons (.set (.name 0) (.own (.bin .add (.var 0) (.lst (.cons (.lst (.cons (.tup (.cons (.str "no order") (.cons (.var 1) (.cons (.str "first") (.cons (.int 2) .nil))))) (.cons (.tup (.cons (.int 2) (.cons (.int 3) .nil))) .nil))) (.cons (.lst (.cons (.tup (.cons (.str "no order") (.cons (.var 1) (.cons (.str "ring") (.cons (.int 1) .nil))))) (.cons (.tup (.cons (.int 3) .nil)) .nil))) .nil)))))) (.cons (.append 0 (.e (.lst (.cons (.tup (.cons (.str "no order") (.cons (.tup (.cons (.int 0) (.cons (.int 1) (.cons (.int 2) .nil)))) (.cons (.str "first") (.cons (.int 1) .nil))))) (.cons (.tup (.cons (.int 1) .nil)) .nil))))) (.cons (.append 0 (.e (.lst (.cons (.tup (.cons (.str "no order") (.cons (.tup (.cons (.int 2) (.cons (.int 1) (.cons (.int 0) .nil)))) (.cons (.str "last") (.cons (.int 1) .nil))))) (.cons (.tup (.cons (.int 0) .nil)) .nil))))) (.cons (.append 0 (.e (.lst (.cons (.tup (.cons (.str "agreement") (.cons (.var 1) (.cons (.str "first") (.cons (.tup (.cons (.int 1) (.cons (.int 3) (.cons (.int 0) (.cons (.int 0) (.cons (.int 2) .nil)))))) .nil))))) (.cons (.var 2) .nil))))) (.cons (.append 0 (.e (.lst (.cons (.tup (.cons (.str "agreement") (.cons (.var 1) (.cons (.str "first") (.cons (.tup (.cons (.int 0) (.cons (.int 0) (.cons (.int 0) (.cons (.int 0) (.cons (.int 0) .nil)))))) .nil))))) (.cons (.tup (.cons (.int 3) (.cons (.int 2) (.cons (.int 5) (.cons (.int 1) (.cons (.int 4) (.cons (.int 0) .nil))))))) .nil))))) (.frz 0 (.cons (.set (.name 0) (.own (.bin .add (.var 0) (.lst (.cons (.lst (.cons (.tup (.cons (.str "agreement") (.cons (.tup (.cons (.int 0) (.cons (.int 1) .nil))) (.cons (.str "last") (.cons (.tup (.cons (.int 1) .nil)) .nil))))) (.cons (.tup (.cons (.int 6) (.cons (.int 6) .nil))) .nil))) (.cons (.lst (.cons (.tup (.cons (.str "agreement") (.cons (.tup (.cons (.int 0) .nil)) (.cons (.str "ring") (.cons (.tup .nil) .nil))))) (.cons (.tup (.cons (.int 4) .nil)) .nil))) .nil)))))) (.cons (.append 0 (.e (.lst (.cons (.tup (.cons (.str "no agreement") (.cons (.var 1) (.cons (.str "first") (.cons (.tup (.cons (.int 1) (.cons (.int 2) (.cons (.int 0) (.cons (.int 0) (.cons (.int 2) .nil)))))) .nil))))) (.cons (.int 1) .nil))))) (.cons (.append 0 (.e (.lst (.cons (.tup (.cons (.str "no agreement") (.cons (.tup (.cons (.int 1) (.cons (.int 0) .nil))) (.cons (.str "ring") (.cons (.tup (.cons (.int 1) .nil)) .nil))))) (.cons (.int 0) .nil))))) (.cons (.append 0 (.e (.lst (.cons (.tup (.cons (.str "no agreement") (.cons (.var 1) (.cons (.str "last") (.cons (.tup (.cons (.int 0) (.cons (.int 0) (.cons (.int 0) (.cons (.int 0) (.cons (.neg (.int 1)) .nil)))))) .nil))))) (.cons (.int 4) .nil))))) (.cons (.append 0 (.e (.lst (.cons (.tup (.cons (.str "no agreement") (.cons (.tup (.cons (.int 0) (.cons (.int 1) .nil))) (.cons (.str "last") (.cons (.tup (.cons (.int 2) .nil)) .nil))))) (.cons (.int 0) .nil))))) (.frz 0 (.cons (.set (.name 0) (.own (.bin .add (.var 0) (.lst (.cons (.lst (.cons (.tup (.cons (.str "column") (.cons (.tup (.cons (.int 0) (.cons (.int 2) (.cons (.int 2) (.cons (.int 1) (.cons (.neg (.int 1)) (.cons (.int 0) (.cons (.int 0) .nil)))))))) (.cons (.str "first") .nil)))) (.cons (.var 2) .nil))) (.cons (.lst (.cons (.tup (.cons (.str "column") (.cons (.tup (.cons (.int 5) .nil)) (.cons (.str "ring") .nil)))) (.cons (.tup (.cons (.int 5) .nil)) .nil))) .nil)))))) (.cons (.append 0 (.e (.lst (.cons (.tup (.cons (.str "column") (.cons (.tup (.cons (.int 2) (.cons (.int 2) (.cons (.int 1) (.cons (.int 0) (.cons (.int 0) (.cons (.int 0) .nil))))))) (.cons (.str "ring") .nil)))) (.cons (.tup (.cons (.int 0) (.cons (.int 1) (.cons (.int 0) (.cons (.int 2) (.cons (.int 0) (.cons (.int 2) .nil))))))) .nil))))) (.cons (.append 0 (.e (.lst (.cons (.tup (.cons (.str "column") (.cons (.tup (.cons (.neg (.int 1)) (.cons (.int 3) .nil))) (.cons (.str "last") .nil)))) (.cons (.tup (.cons (.int 3) .nil)) .nil))))) (.frz 0 (.cons (.set (.name 0) (.own (.bin .add (.var 0) (.lst (.cons (.lst (.cons (.tup (.cons (.str "no column") (.cons (.tup (.cons (.int 0) (.cons (.int 1) .nil))) (.cons (.str "ring") .nil)))) (.cons (.tup (.cons (.int 0) .nil)) .nil))) (.cons (.lst (.cons (.tup (.cons (.str "no column") (.cons (.tup (.cons (.int 1) (.cons (.int 1) (.cons (.int 0) (.cons (.int 0) .nil))))) (.cons (.str "ring") .nil)))) (.cons (.tup (.cons (.int 1) (.cons (.int 3) .nil))) .nil))) .nil)))))) (.frz 0 (.cons (.ret (.e (.bin .add (.var 0) (.lst (.cons (.lst (.cons (.tup (.cons (.str "no column") (.cons (.tup (.cons (.neg (.int 1)) (.cons (.int 0) .nil))) (.cons (.str "first") .nil)))) (.cons (.tup (.cons (.int 1) .nil)) .nil))) (.cons (.lst (.cons (.tup (.cons (.str "no column") (.cons (.tup (.cons (.int 3) (.cons (.neg (.int 1)) .nil))) (.cons (.str "last") .nil)))) (.cons (.tup (.cons (.int 0) .nil)) .nil))) .nil)))))) .nil))))))))))))))))))))))))⟩
/-- _law_against -/
def d1027 : Def := ⟨1, 2, (.cons (.set (.name 1) (.e (.ife (.cmp .eq (.slc (.ix (.var 0) (.int 0)) .no (.some (.int 3))) (.str "no ")) (.slc (.ix (.var 0) (.int 0)) (.some (.int 3)) .no) (.bin .add (.str "no ") (.ix (.var 0) (.int 0)))))) (.cons (.ret (.e (.bin .add (.tup (.cons (.var 1) .nil)) (.slc (.var 0) (.some (.int 1)) .no)))) .nil))⟩
/-- _law_right -/
def d1028 : Def := ⟨1, 8, (.cons (.set (.name 1) (.e (.call 1026 .nil))) (.cons (.set (.name 2) (.e (.bin .add (.lc (.ix (.var 6) (.int 1)) (.name 6) (.seq (.var 1)) .no) (.lst (.cons (.tup .nil) (.cons (.int 0) (.cons (.int 2) (.cons (.tup (.cons (.int 0) .nil)) (.cons (.tup (.cons (.int 0) (.cons (.int 1) .nil))) (.cons (.tup (.cons (.int 2) .nil)) .nil)))))))))) (.cons (.forS (.name 3) (.rng1 (.int 6)) (.cons (.set (.tup [(.name 4), (.name 5)]) (.e (.call 1025 (.cons (.var 0) (.cons (.var 1) .nil))))) (.cons (.ifS (.cmp .notN (.callK 121 .nil (.cons (.var 5) (.cons (.var 4) .nil)) ["certificate", "claim"] [1, 0]) (.bl true)) (.cons (.ret (.e (.bl false))) .nil) .nil) (.cons (.ifS (.cmp .ne (.lc (.var 7) (.name 7) (.seq (.var 2)) (.some (.cmp .notN (.call 121 (.cons (.call 1027 (.cons (.var 4) .nil)) (.cons (.var 7) .nil))) (.bl false)))) (.lst .nil)) (.cons (.ret (.e (.bl false))) .nil) .nil) .nil)))) (.cons (.ret (.e (.bl true))) .nil))))⟩
/-- law -/
def d1029 : Def := ⟨1, 6, (.cons (.ifS (.cmp .ne (.lc (.var 4) (.name 4) (.seq (.call 1026 .nil)) (.some (.cmp .notN (.call 121 (.cons (.ix (.var 4) (.int 0)) (.cons (.ix (.var 4) (.int 1)) .nil))) (.bl true)))) (.lst .nil)) (.cons (.ret (.e (.bl false))) .nil) .nil) (.cons (.set (.name 1) (.e (.tup (.cons (.int 5) (.cons (.int 3) (.cons (.int 1) (.cons (.int 0) (.cons (.int 4) (.cons (.int 2) .nil))))))))) (.cons (.set (.name 2) (.e (.lc (.call 121 (.cons (.tup (.cons (.str "order") (.cons (.var 1) (.cons (.str "first") (.cons (.var 3) .nil))))) (.cons (.tup (.cons (.int 1) (.cons (.int 0) (.cons (.int 2) (.cons (.int 0) (.cons (.int 2) (.cons (.int 0) .nil))))))) .nil))) (.name 3) (.seq (.lst (.cons (.int 1) (.cons (.int 2) (.cons (.int 3) (.cons (.int 4) (.cons (.bin .pow (.int 10) (.int 18)) .nil))))))) .no))) (.cons (.set (.name 2) (.e (.bin .add (.var 2) (.lc (.call 121 (.cons (.tup (.cons (.str "no order") (.cons (.var 1) (.cons (.str "first") (.cons (.var 3) .nil))))) (.cons (.tup (.cons (.int 2) (.cons (.int 3) .nil))) .nil))) (.name 3) (.seq (.lst (.cons (.int 1) (.cons (.int 2) (.cons (.int 3) .nil))))) .no)))) (.cons (.set (.name 2) (.e (.bin .add (.var 2) (.lc (.call 121 (.cons (.tup (.cons (.str "no order") (.cons (.var 1) (.cons (.str "first") (.cons (.int 1) .nil))))) (.cons (.tup (.cons (.var 3) .nil)) .nil))) (.name 3) (.rng1 (.int 5)) .no)))) (.cons (.ifS (.cmp .ne (.var 2) (.lst (.cons (.bl false) (.cons (.bl false) (.cons (.bl true) (.cons (.bl true) (.cons (.bl true) (.cons (.bl false) (.cons (.bl true) (.cons (.bl false) (.cons (.bl false) (.cons (.bl false) (.cons (.bl true) (.cons (.bl true) (.cons (.bl false) .nil))))))))))))))) (.cons (.ret (.e (.bl false))) .nil) .nil) (.cons (.ret (.e (.blt .all (.cons (.lc (.call 1028 (.cons (.call 1023 (.cons (.var 0) (.cons (.var 5) .nil))) .nil)) (.name 5) (.rng1 (.blt .max2 (.cons (.int 2) (.cons (.blt .min2 (.cons (.blt .len (.cons (.var 0) .nil)) (.cons (.int 4) .nil))) .nil)))) .no) .nil)))) .nil)))))))⟩
def fnL : List (Nat × Str) := [(0, "is_integer"), (1, "is_between"), (7, "is_letter"), (12, "is_text"), (103, "is_order"), (104, "all_ends"), (105, "places_of"), (106, "following"), (107, "rises_in"), (108, "agreement_in"), (109, "is_untrue"), (110, "are_numbers"), (111, "is_table"), (112, "is_rising"), (113, "column_in"), (114, "is_row"), (115, "step_from"), (116, "is_short_ring"), (117, "has_places"), (118, "accepts_order"), (119, "accepts_agreement"), (120, "accepts_column"), (121, "accepts"), (1023, "_law_jug"), (1024, "_law_swig"), (1025, "_law_one"), (1026, "_law_bank"), (1027, "_law_against"), (1028, "_law_right"), (1029, "law")]
def parL : List (Nat × List Str) := [(0, ["value"]), (1, ["value", "low", "high"]), (7, ["value"]), (12, ["value"]), (103, ["value"]), (104, ["text", "sort"]), (105, ["text", "sort"]), (106, ["places", "sort"]), (107, ["places", "sort"]), (108, ["text", "places", "sort"]), (109, ["places", "sort", "table", "k"]), (110, ["value"]), (111, ["places", "value"]), (112, ["value"]), (113, ["text", "sort"]), (114, ["value", "sort"]), (115, ["value", "sort", "k"]), (116, ["value", "sort", "indexes"]), (117, ["certificate", "places", "sort"]), (118, ["claim", "certificate"]), (119, ["claim", "certificate"]), (120, ["claim", "certificate"]), (121, ["claim", "certificate"]), (1023, ["_law_cells", "_law_turn"]), (1024, ["_law_jug_here", "_law_top"]), (1025, ["_law_jug_here", "_law_things"]), (1026, []), (1027, ["_law_said"]), (1028, ["_law_jug_here"]), (1029, ["_law_cells"])]
def kvN : List (Nat × Str) := [(0, "MOST_PLACES"), (1, "MOST_LETTER"), (15, "SORTS"), (17, "MOST"), (18, "GREATEST"), (7, "MARK")]
def dnL : List (Nat × Str) := [(16, "SIZES")]
def tdL : List (Str × List (Str × Int)) := [("SIZES", [("order", 4), ("no order", 4), ("agreement", 4), ("no agreement", 4), ("column", 3), ("no column", 3)])]
def tbL : List TbK := tdL.map fun t => (t.1, t.2.map (·.1))
def kvL : List (Str × Val) := [("MOST_PLACES", (.int (60))), ("MOST_LETTER", (.int (1000000000000000000))), ("SORTS", (.tup [(.str "first"), (.str "last"), (.str "ring")])), ("MOST", (.int (60))), ("GREATEST", (.int (1000000000000000000))), ("MARK", (.int (-1)))]
def kwL : List (Nat × List (Nat × List Str × List Nat)) := [(121, [(0, ["certificate", "claim"], [1, 0])])]
def atts : List Str := ["row", "style", "standing", "steep", "places", "kind", "ranks", "rises"]
def cnL : List (Nat × Str) := []
def nwL : List (Nat × Str) := []
def Tb : Tab := { fn := fun i => lk fnL i, pars := fun i => (lk parL i).getD [], kn := fun i => lk kvN i, dn := fun i => lk dnL i, kw := fun i => (lk kwL i).getD [], an := anF atts, cn := fun i => lk cnL i, nw := fun i => lk nwL i, ob := false }
def lfns : List (Nat × Fn) := [(1023, .mkcup), (1024, .draw), (1025, .body d1025), (1026, .body d1026), (1027, .body d1027), (1028, .body d1028), (1029, .body d1029)]
def Ff : Nat → Option Fn := Pk.Of lfns
def T0 : Tab := { Tb with fn := fun i => none, nw := fun _ => none, ob := false }
def N0 : List Str := ["value"]
abbrev s0 : Stmt := top 3
def e0 : He.DefD := ⟨("is_integer", none), "is_integer", "is_integer", defArgs s0, defBody s0, defScope s0, [], []⟩
theorem sc0 : FnScope N0 (Tb.pars 0) (defScope s0) := ⟨rfl, rfl, rfl, by decide +kernel, rfl, by decide +kernel, by decide +kernel⟩
theorem ck0 : chkSs (Tb) N0 (defScope s0) Pk.d0.body (defBody s0) = true := by decide +kernel
def N1 : List Str := ["value", "low", "high"]
abbrev s1 : Stmt := top 4
def e1 : He.DefD := ⟨("is_between", none), "is_between", "is_between", defArgs s1, defBody s1, defScope s1, [], []⟩
theorem sc1 : FnScope N1 (Tb.pars 1) (defScope s1) := ⟨rfl, rfl, rfl, by decide +kernel, rfl, by decide +kernel, by decide +kernel⟩
theorem ck1 : chkSs (Tb) N1 (defScope s1) Pk.d1.body (defBody s1) = true := by decide +kernel
def N7 : List Str := ["value"]
abbrev s7 : Stmt := top 5
def e7 : He.DefD := ⟨("is_letter", none), "is_letter", "is_letter", defArgs s7, defBody s7, defScope s7, [], []⟩
theorem sc7 : FnScope N7 (Tb.pars 7) (defScope s7) := ⟨rfl, rfl, rfl, by decide +kernel, rfl, by decide +kernel, by decide +kernel⟩
theorem ck7 : chkSs (Tb) N7 (defScope s7) Pk.d7.body (defBody s7) = true := by decide +kernel
def N12 : List Str := ["value", "letter"]
abbrev s12 : Stmt := top 6
def e12 : He.DefD := ⟨("is_text", none), "is_text", "is_text", defArgs s12, defBody s12, defScope s12, [], []⟩
theorem sc12 : FnScope N12 (Tb.pars 12) (defScope s12) := ⟨rfl, rfl, rfl, by decide +kernel, rfl, by decide +kernel, by decide +kernel⟩
theorem ck12 : chkSs (Tb) N12 (defScope s12) Pk.d12.body (defBody s12) = true := by decide +kernel
def N103 : List Str := ["value", "one"]
abbrev s103 : Stmt := top 13
def e103 : He.DefD := ⟨("is_order", none), "is_order", "is_order", defArgs s103, defBody s103, defScope s103, [], []⟩
theorem sc103 : FnScope N103 (Tb.pars 103) (defScope s103) := ⟨rfl, rfl, rfl, by decide +kernel, rfl, by decide +kernel, by decide +kernel⟩
theorem ck103 : chkSs (Tb) N103 (defScope s103) Pk.d103.body (defBody s103) = true := by decide +kernel
def N104 : List Str := ["text", "sort", "tail", "at"]
abbrev s104 : Stmt := top 14
def e104 : He.DefD := ⟨("all_ends", none), "all_ends", "all_ends", defArgs s104, defBody s104, defScope s104, [], []⟩
theorem sc104 : FnScope N104 (Tb.pars 104) (defScope s104) := ⟨rfl, rfl, rfl, by decide +kernel, rfl, by decide +kernel, by decide +kernel⟩
theorem ck104 : chkSs (Tb) N104 (defScope s104) Pk.d104.body (defBody s104) = true := by decide +kernel
def N105 : List Str := ["text", "sort", "ends", "pairs", "k", "end", "at"]
abbrev s105 : Stmt := top 15
def e105 : He.DefD := ⟨("places_of", none), "places_of", "places_of", defArgs s105, defBody s105, defScope s105, [], []⟩
theorem sc105 : FnScope N105 (Tb.pars 105) (defScope s105) := ⟨rfl, rfl, rfl, by decide +kernel, rfl, by decide +kernel, by decide +kernel⟩
theorem ck105 : chkSs (Tb) N105 (defScope s105) Pk.d105.body (defBody s105) = true := by decide +kernel
def N106 : List Str := ["places", "sort", "size", "beyond", "place"]
abbrev s106 : Stmt := top 16
def e106 : He.DefD := ⟨("following", none), "following", "following", defArgs s106, defBody s106, defScope s106, [], []⟩
theorem sc106 : FnScope N106 (Tb.pars 106) (defScope s106) := ⟨rfl, rfl, rfl, by decide +kernel, rfl, by decide +kernel, by decide +kernel⟩
theorem ck106 : chkSs (Tb) N106 (defScope s106) Pk.d106.body (defBody s106) = true := by decide +kernel
def N107 : List Str := ["places", "sort", "after", "k"]
abbrev s107 : Stmt := top 17
def e107 : He.DefD := ⟨("rises_in", none), "rises_in", "rises_in", defArgs s107, defBody s107, defScope s107, [], []⟩
theorem sc107 : FnScope N107 (Tb.pars 107) (defScope s107) := ⟨rfl, rfl, rfl, by decide +kernel, rfl, by decide +kernel, by decide +kernel⟩
theorem ck107 : chkSs (Tb) N107 (defScope s107) Pk.d107.body (defBody s107) = true := by decide +kernel
def N108 : List Str := ["text", "places", "sort", "k", "ends", "found", "one", "other", "many"]
abbrev s108 : Stmt := top 18
def e108 : He.DefD := ⟨("agreement_in", none), "agreement_in", "agreement_in", defArgs s108, defBody s108, defScope s108, [], []⟩
theorem sc108 : FnScope N108 (Tb.pars 108) (defScope s108) := ⟨rfl, rfl, rfl, by decide +kernel, rfl, by decide +kernel, by decide +kernel⟩
theorem ck108 : chkSs (Tb) N108 (defScope s108) Pk.d108.body (defBody s108) = true := by decide +kernel
def N109 : List Str := ["places", "sort", "table", "k", "after"]
abbrev s109 : Stmt := top 19
def e109 : He.DefD := ⟨("is_untrue", none), "is_untrue", "is_untrue", defArgs s109, defBody s109, defScope s109, [], []⟩
theorem sc109 : FnScope N109 (Tb.pars 109) (defScope s109) := ⟨rfl, rfl, rfl, by decide +kernel, rfl, by decide +kernel, by decide +kernel⟩
theorem ck109 : chkSs (Tb) N109 (defScope s109) Pk.d109.body (defBody s109) = true := by decide +kernel
def N110 : List Str := ["value", "one"]
abbrev s110 : Stmt := top 20
def e110 : He.DefD := ⟨("are_numbers", none), "are_numbers", "are_numbers", defArgs s110, defBody s110, defScope s110, [], []⟩
theorem sc110 : FnScope N110 (Tb.pars 110) (defScope s110) := ⟨rfl, rfl, rfl, by decide +kernel, rfl, by decide +kernel, by decide +kernel⟩
theorem ck110 : chkSs (Tb) N110 (defScope s110) Pk.d110.body (defBody s110) = true := by decide +kernel
def N111 : List Str := ["places", "value"]
abbrev s111 : Stmt := top 21
def e111 : He.DefD := ⟨("is_table", none), "is_table", "is_table", defArgs s111, defBody s111, defScope s111, [], []⟩
theorem sc111 : FnScope N111 (Tb.pars 111) (defScope s111) := ⟨rfl, rfl, rfl, by decide +kernel, rfl, by decide +kernel, by decide +kernel⟩
theorem ck111 : chkSs (Tb) N111 (defScope s111) Pk.d111.body (defBody s111) = true := by decide +kernel
def N112 : List Str := ["value", "k"]
abbrev s112 : Stmt := top 22
def e112 : He.DefD := ⟨("is_rising", none), "is_rising", "is_rising", defArgs s112, defBody s112, defScope s112, [], []⟩
theorem sc112 : FnScope N112 (Tb.pars 112) (defScope s112) := ⟨rfl, rfl, rfl, by decide +kernel, rfl, by decide +kernel, by decide +kernel⟩
theorem ck112 : chkSs (Tb) N112 (defScope s112) Pk.d112.body (defBody s112) = true := by decide +kernel
def N113 : List Str := ["text", "sort", "places", "whole", "place"]
abbrev s113 : Stmt := top 23
def e113 : He.DefD := ⟨("column_in", none), "column_in", "column_in", defArgs s113, defBody s113, defScope s113, [], []⟩
theorem sc113 : FnScope N113 (Tb.pars 113) (defScope s113) := ⟨rfl, rfl, rfl, by decide +kernel, rfl, by decide +kernel, by decide +kernel⟩
theorem ck113 : chkSs (Tb) N113 (defScope s113) Pk.d113.body (defBody s113) = true := by decide +kernel
def N114 : List Str := ["value", "sort", "marks", "one"]
abbrev s114 : Stmt := top 24
def e114 : He.DefD := ⟨("is_row", none), "is_row", "is_row", defArgs s114, defBody s114, defScope s114, [], []⟩
theorem sc114 : FnScope N114 (Tb.pars 114) (defScope s114) := ⟨rfl, rfl, rfl, by decide +kernel, rfl, by decide +kernel, by decide +kernel⟩
theorem ck114 : chkSs (Tb) N114 (defScope s114) Pk.d114.body (defBody s114) = true := by decide +kernel
def N115 : List Str := ["value", "sort", "k", "row", "one"]
abbrev s115 : Stmt := top 25
def e115 : He.DefD := ⟨("step_from", none), "step_from", "step_from", defArgs s115, defBody s115, defScope s115, [], []⟩
theorem sc115 : FnScope N115 (Tb.pars 115) (defScope s115) := ⟨rfl, rfl, rfl, by decide +kernel, rfl, by decide +kernel, by decide +kernel⟩
theorem ck115 : chkSs (Tb) N115 (defScope s115) Pk.d115.body (defBody s115) = true := by decide +kernel
def N116 : List Str := ["value", "sort", "indexes", "k"]
abbrev s116 : Stmt := top 26
def e116 : He.DefD := ⟨("is_short_ring", none), "is_short_ring", "is_short_ring", defArgs s116, defBody s116, defScope s116, [], []⟩
theorem sc116 : FnScope N116 (Tb.pars 116) (defScope s116) := ⟨rfl, rfl, rfl, by decide +kernel, rfl, by decide +kernel, by decide +kernel⟩
theorem ck116 : chkSs (Tb) N116 (defScope s116) Pk.d116.body (defBody s116) = true := by decide +kernel
def N117 : List Str := ["certificate", "places", "sort"]
abbrev s117 : Stmt := top 27
def e117 : He.DefD := ⟨("has_places", none), "has_places", "has_places", defArgs s117, defBody s117, defScope s117, [], []⟩
theorem sc117 : FnScope N117 (Tb.pars 117) (defScope s117) := ⟨rfl, rfl, rfl, by decide +kernel, rfl, by decide +kernel, by decide +kernel⟩
theorem ck117 : chkSs (Tb) N117 (defScope s117) Pk.d117.body (defBody s117) = true := by decide +kernel
def N118 : List Str := ["claim", "certificate", "word", "places", "sort", "letters", "k"]
abbrev s118 : Stmt := top 28
def e118 : He.DefD := ⟨("accepts_order", none), "accepts_order", "accepts_order", defArgs s118, defBody s118, defScope s118, [], []⟩
theorem sc118 : FnScope N118 (Tb.pars 118) (defScope s118) := ⟨rfl, rfl, rfl, by decide +kernel, rfl, by decide +kernel, by decide +kernel⟩
theorem ck118 : chkSs (Tb) N118 (defScope s118) Pk.d118.body (defBody s118) = true := by decide +kernel
def N119 : List Str := ["claim", "certificate", "word", "places", "sort", "table"]
abbrev s119 : Stmt := top 29
def e119 : He.DefD := ⟨("accepts_agreement", none), "accepts_agreement", "accepts_agreement", defArgs s119, defBody s119, defScope s119, [], []⟩
theorem sc119 : FnScope N119 (Tb.pars 119) (defScope s119) := ⟨rfl, rfl, rfl, by decide +kernel, rfl, by decide +kernel, by decide +kernel⟩
theorem ck119 : chkSs (Tb) N119 (defScope s119) Pk.d119.body (defBody s119) = true := by decide +kernel
def N120 : List Str := ["claim", "certificate", "word", "row", "sort"]
abbrev s120 : Stmt := top 30
def e120 : He.DefD := ⟨("accepts_column", none), "accepts_column", "accepts_column", defArgs s120, defBody s120, defScope s120, [], []⟩
theorem sc120 : FnScope N120 (Tb.pars 120) (defScope s120) := ⟨rfl, rfl, rfl, by decide +kernel, rfl, by decide +kernel, by decide +kernel⟩
theorem ck120 : chkSs (Tb) N120 (defScope s120) Pk.d120.body (defBody s120) = true := by decide +kernel
def N121 : List Str := ["claim", "certificate"]
abbrev s121 : Stmt := top 31
def e121 : He.DefD := ⟨("accepts", none), "accepts", "accepts", defArgs s121, defBody s121, defScope s121, [], []⟩
theorem sc121 : FnScope N121 (Tb.pars 121) (defScope s121) := ⟨rfl, rfl, rfl, by decide +kernel, rfl, by decide +kernel, by decide +kernel⟩
theorem ck121 : chkSs (Tb) N121 (defScope s121) Pk.d121.body (defBody s121) = true := by decide +kernel
def N1023 : List Str := ["_law_cells", "_law_turn", "_law_cell", "_law_stirred", "_law_each"]
abbrev s1023 : Stmt := top 33
def e1023 : He.DefD := ⟨("_law_jug", none), "_law_jug", "_law_jug", defArgs s1023, defBody s1023, defScope s1023, [], []⟩
theorem sc1023 : FnScope N1023 (Tb.pars 1023) (defScope s1023) := ⟨rfl, rfl, rfl, by decide +kernel, rfl, by decide +kernel, by decide +kernel⟩
theorem ck1023 : chkSs (T0) N1023 (defScope s1023) d1023.body (defBody s1023) = true := by decide +kernel
def N1024 : List Str := ["_law_jug_here", "_law_top", "_law_digit"]
abbrev s1024 : Stmt := top 34
def e1024 : He.DefD := ⟨("_law_swig", none), "_law_swig", "_law_swig", defArgs s1024, defBody s1024, defScope s1024, [], []⟩
theorem sc1024 : FnScope N1024 (Tb.pars 1024) (defScope s1024) := ⟨rfl, rfl, rfl, by decide +kernel, rfl, by decide +kernel, by decide +kernel⟩
theorem ck1024 : chkSs ({ Tb with fn := fun _ => none, nw := fun _ => none, ob := false }) N1024 (defScope s1024) d1024.body (defBody s1024) = true := by decide +kernel
def N1025 : List Str := ["_law_jug_here", "_law_things"]
abbrev s1025 : Stmt := top 35
def e1025 : He.DefD := ⟨("_law_one", none), "_law_one", "_law_one", defArgs s1025, defBody s1025, defScope s1025, [], []⟩
theorem sc1025 : FnScope N1025 (Tb.pars 1025) (defScope s1025) := ⟨rfl, rfl, rfl, by decide +kernel, rfl, by decide +kernel, by decide +kernel⟩
theorem ck1025 : chkSs (Tb) N1025 (defScope s1025) d1025.body (defBody s1025) = true := by decide +kernel
def N1026 : List Str := ["_law_found", "_law_spots", "_law_line"]
abbrev s1026 : Stmt := top 36
def e1026 : He.DefD := ⟨("_law_bank", none), "_law_bank", "_law_bank", defArgs s1026, defBody s1026, defScope s1026, [], []⟩
theorem sc1026 : FnScope N1026 (Tb.pars 1026) (defScope s1026) := ⟨rfl, rfl, rfl, by decide +kernel, rfl, by decide +kernel, by decide +kernel⟩
theorem ck1026 : chkSs (Tb) N1026 (defScope s1026) d1026.body (defBody s1026) = true := by decide +kernel
def N1027 : List Str := ["_law_said", "_law_word"]
abbrev s1027 : Stmt := top 37
def e1027 : He.DefD := ⟨("_law_against", none), "_law_against", "_law_against", defArgs s1027, defBody s1027, defScope s1027, [], []⟩
theorem sc1027 : FnScope N1027 (Tb.pars 1027) (defScope s1027) := ⟨rfl, rfl, rfl, by decide +kernel, rfl, by decide +kernel, by decide +kernel⟩
theorem ck1027 : chkSs (Tb) N1027 (defScope s1027) d1027.body (defBody s1027) = true := by decide +kernel
def N1028 : List Str := ["_law_jug_here", "_law_bank_here", "_law_proofs", "_law_turn", "_law_said", "_law_proof", "_law_pair", "_law_shown"]
abbrev s1028 : Stmt := top 38
def e1028 : He.DefD := ⟨("_law_right", none), "_law_right", "_law_right", defArgs s1028, defBody s1028, defScope s1028, [], []⟩
theorem sc1028 : FnScope N1028 (Tb.pars 1028) (defScope s1028) := ⟨rfl, rfl, rfl, by decide +kernel, rfl, by decide +kernel, by decide +kernel⟩
theorem ck1028 : chkSs (Tb) N1028 (defScope s1028) d1028.body (defBody s1028) = true := by decide +kernel
def N1029 : List Str := ["_law_cells", "_law_spots", "_law_told", "_law_k", "_law_pair", "_law_turn"]
abbrev s1029 : Stmt := top 39
def e1029 : He.DefD := ⟨("law", none), "law", "law", defArgs s1029, defBody s1029, defScope s1029, [], []⟩
theorem sc1029 : FnScope N1029 (Tb.pars 1029) (defScope s1029) := ⟨rfl, rfl, rfl, by decide +kernel, rfl, by decide +kernel, by decide +kernel⟩
theorem ck1029 : chkSs (Tb) N1029 (defScope s1029) d1029.body (defBody s1029) = true := by decide +kernel
def fdL : List He.DefD := [e0, e1, e7, e12, e103, e104, e105, e106, e107, e108, e109, e110, e111, e112, e113, e114, e115, e116, e117, e118, e119, e120, e121, e1023, e1024, e1025, e1026, e1027, e1028, e1029]
def prD : List PrD := []
def ckB (K : PySem.W.Frag) : Bool := (kvL.all (konB K) && tdL.all fun t => tabI K t.1 t.2) && (true)
def faL : List He.Fa := [.glo "is_integer", .glo "is_between", .glo "is_letter", .glo "is_text", .glo "is_order", .glo "all_ends", .glo "places_of", .glo "following", .glo "rises_in", .glo "agreement_in", .glo "is_untrue", .glo "are_numbers", .glo "is_table", .glo "is_rising", .glo "column_in", .glo "is_row", .glo "step_from", .glo "is_short_ring", .glo "has_places", .glo "accepts_order", .glo "accepts_agreement", .glo "accepts_column", .glo "accepts", .glo "_law_jug", .glo "_law_swig", .glo "_law_one", .glo "_law_bank", .glo "_law_against", .glo "_law_right", .glo "law", .free "len", .free "int", .free "abs", .free "max", .free "min", .free "sum", .free "all", .free "any", .free "list", .free "tuple", .free "divmod", .free "sorted", .free "range", .free "enumerate", .free "zip", .free "isinstance", .free "bool", .free "str"]
abbrev R : PySem.W.OpenRow := PySem.W.OpenLaw.row PySem.Challenge.rw_endorders_k66_claims_by_hand
abbrev hk : PySem.W.Hook := hookY 4 faL fdL prD tbL ckB
def ob (s : PySem.W.SharedT) : AlY := obsY 4 faL fdL prD tbL ckB (HandSHeadRun.getT s)
theorem ob_eq (s : PySem.W.SharedT) : ob s = hk.obs s.abs := obsY_eq (HandSHeadRun.getT_eq s)
def nm0 : List Str := ["MOST_PLACES", "MOST_LETTER", "is_integer", "is_between", "is_letter", "is_text", "SORTS", "SIZES", "MOST", "GREATEST", "MARK", "is_order", "all_ends", "places_of", "following", "rises_in", "agreement_in", "is_untrue", "are_numbers", "is_table", "is_rising", "column_in", "is_row", "step_from"]
def nm1 : List Str := ["is_short_ring", "has_places", "accepts_order", "accepts_agreement", "accepts_column", "accepts", "_law_jug", "_law_swig", "_law_one", "_law_bank", "_law_against", "_law_right"]
def nms : List Str := nm0 ++ nm1
theorem run (w : World) : HandSHeadRun.RunEq R (PySem.W.view R.prog [39]) hk ob 4000 nms w := byRow "special-get-raises" (P := HandSHeadRun.RunEq R (PySem.W.view R.prog [39]) hk ob 4000 nms) (fun w b => by
  cases b <;> (intro os; kernel_rfl)) w
section
variable {P : Program} {w : World} {K : PySem.W.Frag} {mg : Str → Option Value} {base : Heap}
def cpb : List Int → Bool
  | [a, b] => decide (0 ≤ a) && decide (0 ≤ b ∧ b < 2147482949)
  | _ => false
theorem cpb_of {xs : List Int} (h : cpb xs = true) : ∃ a b, xs = [a, b] ∧ 0 ≤ a ∧ (0 ≤ b ∧ b < 2147482949) := by
  match xs, h with
  | [a, b], h =>
    have h' : (decide (0 ≤ a) && decide (0 ≤ b ∧ b < 2147482949)) = true := h
    rw [Bool.and_eq_true, decide_eq_true_eq, decide_eq_true_eq] at h'
    exact ⟨a, b, rfl, h'.1, h'.2⟩
theorem cpb_mk {a b : Int} (ha : 0 ≤ a) (hb : 0 ≤ b ∧ b < 2147482949) : cpb [a, b] = true := by
  show (decide (0 ≤ a) && decide (0 ≤ b ∧ b < 2147482949)) = true
  rw [decide_eq_true ha, decide_eq_true hb]; rfl
theorem dr_ok : drOk Xt cpb d1024 := by
  refine ⟨rfl, fun xs m hc h0 h1 => ?_⟩
  obtain ⟨a, b, rfl, ha, hb⟩ := cpb_of hc
  have m1 := @mul_r b 63601 (by omega)
  have e2 := @mod_p (b * 63601 + 18013) 2147482949 (by omega)
  have hz2 : 0 ≤ (b * 63601 + 18013) % 2147482949 ∧ (b * 63601 + 18013) % 2147482949 < 2147482949 := ⟨Int.emod_nonneg _ (by omega), Int.emod_lt_of_pos _ (by omega)⟩
  generalize (b * 63601 + 18013) % 2147482949 = z at *
  have e3 := @fdv_p z 953 (by decide)
  have e4 := @mod_p (z / 953) m h0
  unfold d1024
  dsimp only
  have er : ∀ z : Option Val, List.replicate (3 - 2) z = [z] := fun _ => rfl
  simp only [List.map_cons, List.map_nil, er, exs_cons, exs_nil, ex_set, ex_ret, ex_if, ex_setIx', ex_setDm', ev_var, ev_int, ev_bin, ev_blt, ev_ixo, ev_gt, evs_nil, evs_cons, cmpV_gt, getM_0, getV_0, EV.getD, getV_1, getV_2, getV_3, isData, mlPut_c, ixv_mcp, at20, at21, ix20, ix21, stepK_s, int_p, add_p, m1, e2, e3, e4, List.length_cons, List.length_nil, List.set_cons_zero, List.set_cons_succ, Nat.zero_add, Nat.reduceAdd, Nat.reduceLT, if_true]
  have ic : ∀ x y : Int, isCup cpb (.mcp [.int x, .int y]) = cpb [x, y] := fun _ _ => rfl
  by_cases ha2 : 0 < a
  · rw [decide_eq_true ha2]
    dsimp only
    rw [if_pos ⟨h0, h1⟩, decide_eq_true ⟨Int.emod_nonneg _ (by omega), Int.emod_lt_of_pos _ h0⟩, ic, cpb_mk (Int.ediv_nonneg ha (by omega)) hb]
    rfl
  · rw [decide_eq_false ha2]
    dsimp only
    rw [decide_eq_true ⟨Int.emod_nonneg _ (by omega), Int.emod_lt_of_pos _ h0⟩, ic, cpb_mk ha hz2]
    rfl
def turnF (Γ : Sem) : Val → EV.Env → Hs → C → Bool := forF Xt Γ (.name 4) (.cons (.set (.name 3) (.e (.bin .mod (.blt .int (.cons (.bin .add (.bin .add (.bin .mul (.var 3) (.int 41231)) (.bin .mod (.blt .int (.cons (.var 4) .nil)) (.int 2147482949))) (.int 61)) .nil)) (.int 2147482949)))) .nil)
theorem turn_1 (Γ : Sem) {n z : Int} {a b e cc : Option Val} {c : C} : turnF Γ (.int n) [a, b, e, some (.int z), cc] [] c = c.nx [a, b, e, some (.int ((z * 41231 + n % 2147482949 + 61) % 2147482949)), some (.int n)] [] := by
  have m1 := @mul_r z 41231 (by omega)
  have e0 := @mod_p n 2147482949 (by omega)
  have e1 := @mod_p (z * 41231 + n % 2147482949 + 61) 2147482949 (by omega)
  have as : asg (.name 4) (.int n) [a, b, e, some (.int z), cc] = some [a, b, e, some (.int z), some (.int n)] := rfl
  unfold turnF forF
  simp only [as, stepK_s, exs_cons, exs_nil, ex_set, ev_bin, ev_blt, ev_var, ev_int, evs_cons, evs_nil, gd3, gd4, m1, e0, e1, int_p, add_p, List.length_cons, List.length_nil, List.set_cons_zero, List.set_cons_succ, Nat.zero_add, Nat.reduceAdd, Nat.reduceLT, if_true]
/-- the turns: behind one of them the number is a rest -/
theorem cell_turn (Γ : Sem) : ∀ (ns : List Int) (n z : Int) (a b e : Option Val) (cc : Option Val) (c : C), (∀ w v, 0 ≤ w ∧ w < 2147482949 → c.nx [a, b, e, some (.int w), v] [] = true) →
    forL (turnF Γ) ((ns ++ [n]).map .int) [a, b, e, some (.int z), cc] [] c = true
  | [], n, z, a, b, e, cc, c, hc => by
    rw [List.nil_append, List.map_cons, List.map_nil, forL_cons, turn_1]
    exact hc _ _ ⟨Int.emod_nonneg _ (show (2147482949 : Int) ≠ 0 by decide), Int.emod_lt_of_pos _ (show (0 : Int) < 2147482949 by decide)⟩
  | m :: ns, n, z, a, b, e, cc, c, hc => by
    rw [List.cons_append, List.map_cons, forL_cons, turn_1]
    exact cell_turn Γ ns n _ a b e _ c hc
theorem mk_ok : mkOk Xt (sem Xt Ff 1) cpb d1023 := by
  refine ⟨rfl, fun ns i hi => ?_⟩
  unfold d1023
  dsimp only
  have er : List.replicate (5 - 2) (none : Option Val) = [none, none, none] := rfl
  rw [er]
  -- the number at the turn
  have first : ∀ (env : EV.Env) (k kx : KV), (∃ r, env = some (.scl ns) :: some (.int i) :: r) → (∀ z, k (.int z) [] = true) → ev Xt (sem Xt Ff 1) (.ife (.cmp .lt (.var 1) (.blt .len (.cons (.var 0) .nil))) (.ix (.var 0) (.var 1)) (.bin .mul (.int 51001) (.bin .add (.var 1) (.int 9)))) env [] k kx = true := by
    rintro env k kx ⟨r, rfl⟩ hk
    simp only [ev_ife, ev_lt, ev_var, gd1, gs0, stepK_s, ev_blt, evs_cons, evs_nil, len_scl, cmpV_lt]
    by_cases hl : i < ns.length
    · obtain ⟨n, hn⟩ := atI_ints hi hl
      rw [decide_eq_true hl]
      simp only [ev_ix, ev_var, gd1, gs0, stepK_s, ixv_scl, hn]
      exact hk n
    · rw [decide_eq_false hl]
      have m1 := @mul_c 51001 (i + 9) (by omega)
      simp only [ev_bin, ev_int, ev_var, gd1, stepK_s, add_p, m1]
      exact hk _
  rw [exs_cons, ex_set]
  refine first _ _ _ ⟨_, rfl⟩ fun z => ?_
  obtain ⟨ms, hms, hml⟩ := @slv_some ns 4
  have hms' : slv (.scl ns) none (some 4) = some (.lst (ms.map .int)) := hms
  have m1 := @mul_c 5077 i (by omega)
  have ct : bop .add (.lst (ms.map .int)) (.lst [.int z]) = some (.lst ((ms ++ [z]).map .int)) := @cat_p ms [z] (by show ms.length + 1 ≤ 1000; omega)
  have sz : 1 ≤ sizeLine := by decide
  have p1 := @pow_p 10 17 (by decide)
  simp only [exs_cons, exs_nil, ex_set, ev_bin, ev_int, ev_var, gs0, gd1, gd2, stepK_s, m1, add_p, List.length_cons, List.length_nil, List.set_cons_zero, List.set_cons_succ, Nat.zero_add, Nat.reduceAdd, Nat.reduceLT, if_true, ex_for, evi_seq, ev_slc, hms', ev_lst, evs_cons, evs_nil]
  rw [if_pos sz]
  simp only [ct, stepK_s]
  refine cell_turn (sem Xt Ff 1) ms z (39119 + 5077 * i) _ _ _ _ _ fun w v hw => ?_
  have sz2 : 2 ≤ sizeLine := by decide
  have ic : ∀ x y : Int, isCup cpb (.mls [.int x, .int y]) = cpb [x, y] := fun _ _ => rfl
  have ha : 0 ≤ (if z < 0 then -z else z) := by split <;> omega
  simp only [ex_retO, ev_lst, evs_cons, evs_nil, ev_ife, ev_or, ev_one, ev_lt, ev_ge, ev_bin, ev_int, ev_var, ev_blt, gd2, gd3, cmpV_lt, cmpV_ge, stepK_s, p1, abs_p, List.length_cons, List.length_nil, Nat.zero_add, Nat.reduceAdd]
  by_cases c1 : z < 0
  · rw [decide_eq_true c1]
    dsimp only
    rw [if_pos sz2, ic, cpb_mk ha hw]; rfl
  · rw [decide_eq_false c1]
    dsimp only
    by_cases c2 : (10 : Int) ^ (17 : Int).toNat ≤ z
    · rw [decide_eq_true c2]
      dsimp only
      rw [if_pos sz2, ic, cpb_mk ha hw]; rfl
    · rw [decide_eq_false c2]
      dsimp only
      rw [if_pos sz2, ic, cpb_mk (Int.le_refl 0) hw]; rfl

abbrev Dt (P : Program) (w : World) (K : PySem.W.Frag) (mg : Str → Option Value) (base : Heap) : Dat := ⟨P, w, K, mg, base, CPof cpb, Xt, fun c => (lk cnL c).bind fun x => (lk Pk.ofL c).map fun os => (He.ga K x, os.map (anF atts)), anF atts⟩
theorem sta {h : Heap} (X : K.In h) (G : h.Ns mainGlobals mg) (cs : He.SaysD faL fdL K) (cy : SaysY faL fdL prD tbL ckB w K) : Sta0 (Dt P w K mg base) Tb := by
  have ck := cy.chk
  have kv : kvL.all (konB K) = true := (He.ba (He.ba ck).1).1
  refine ⟨fun c x e => ?_, fun _ => rfl, fun x hx => ?_, fun i x e => ?_, fun _ => rfl, fun a b => anF_inj (by decide +kernel) (by decide +kernel) a b, fun c x e => ?_⟩
  · have hm := Pk.lk_mem (show lk dnL c = some x from e)
    simp only [dnL, List.mem_cons, Prod.mk.injEq, List.not_mem_nil, or_false] at hm
    rcases hm with ⟨rfl, rfl⟩
    · obtain ⟨a, h1, h2⟩ := cy.tab X G 0 (t := ("SIZES", ["order", "no order", "agreement", "no agreement", "column", "no column"])) (kvs := [("order", 4), ("no order", 4), ("agreement", 4), ("no agreement", 4), ("column", 3), ("no column", 3)]) rfl (List.all_eq_true.mp (He.ba (He.ba ck).1).2 ("SIZES", [("order", 4), ("no order", 4), ("agreement", 4), ("no agreement", 4), ("column", 3), ("no column", 3)]) (by simp [tdL]))
      exact ⟨a, [("order", 4), ("no order", 4), ("agreement", 4), ("no agreement", 4), ("column", 3), ("no column", 3)], rfl, h1, h2⟩
  · have := List.mem_iff_getElem?.mp hx
    obtain ⟨i, hi⟩ := this
    have hf : faL[30 + i]? = some (.free x) := by
      have e : (faL.drop 30).take 18 = bltNames.map He.Fa.free := rfl
      have hi2 : i < 18 := (List.getElem?_eq_some_iff.mp hi).1
      rw [← List.getElem?_drop, ← List.getElem?_take_of_lt hi2, e, List.getElem?_map, hi]; rfl
    exact He.free_ok X G (cs.fact (30 + i) hf)
  · have kk : ∀ (i : Nat) (x : Str) (v : Val), Xt.konst i = some v → (x, v) ∈ kvL → ∃ u v y, Xt.konst i = some v ∧ mg x = some u ∧ RelV y u ∧ ∀ g, VR K g v y := fun i x v e1 e2 => by
      obtain ⟨u, y, h1, h2, h3⟩ := konB_ok X G (List.all_eq_true.mp kv (x, v) e2)
      exact ⟨u, v, y, e1, h1, h2, h3⟩
    have hm := Pk.lk_mem e
    simp only [kvN, List.mem_cons, Prod.mk.injEq, List.not_mem_nil, or_false] at hm
    rcases hm with ⟨rfl, rfl⟩ | ⟨rfl, rfl⟩ | ⟨rfl, rfl⟩ | ⟨rfl, rfl⟩ | ⟨rfl, rfl⟩ | ⟨rfl, rfl⟩
    · exact kk 0 "MOST_PLACES" (.int (60)) rfl (by simp [kvL])
    · exact kk 1 "MOST_LETTER" (.int (1000000000000000000)) rfl (by simp [kvL])
    · exact kk 15 "SORTS" (.tup [(.str "first"), (.str "last"), (.str "ring")]) rfl (by simp [kvL])
    · exact kk 17 "MOST" (.int (60)) rfl (by simp [kvL])
    · exact kk 18 "GREATEST" (.int (1000000000000000000)) rfl (by simp [kvL])
    · exact kk 7 "MARK" (.int (-1)) rfl (by simp [kvL])
  · cases e
theorem b0 {h : Heap} (X : K.In h) (G : h.Ns mainGlobals mg) (c : He.SaysD faL fdL K) : FnB (Dt P w K mg base) Tb 0 "is_integer" Pk.d0 := by
  obtain ⟨fd, F⟩ := c.def_ 0 (d := e0) rfl
  refine ⟨_, _, _, _, _, _, fd, N0, He.glo_ok X G (c.fact 0 (f := .glo "is_integer") rfl), F, FunD.bindsN F fun _ _ _ _ _ _ us hl => match us, hl with | [_], _ => rfl, fun e he => ?_, sc0, rfl, rfl, ck0⟩
  cases he
theorem b1 {h : Heap} (X : K.In h) (G : h.Ns mainGlobals mg) (c : He.SaysD faL fdL K) : FnB (Dt P w K mg base) Tb 1 "is_between" Pk.d1 := by
  obtain ⟨fd, F⟩ := c.def_ 1 (d := e1) rfl
  refine ⟨_, _, _, _, _, _, fd, N1, He.glo_ok X G (c.fact 1 (f := .glo "is_between") rfl), F, FunD.bindsN F fun _ _ _ _ _ _ us hl => match us, hl with | [_, _, _], _ => rfl, fun e he => ?_, sc1, rfl, rfl, ck1⟩
  cases he
theorem b7 {h : Heap} (X : K.In h) (G : h.Ns mainGlobals mg) (c : He.SaysD faL fdL K) : FnB (Dt P w K mg base) Tb 7 "is_letter" Pk.d7 := by
  obtain ⟨fd, F⟩ := c.def_ 2 (d := e7) rfl
  refine ⟨_, _, _, _, _, _, fd, N7, He.glo_ok X G (c.fact 2 (f := .glo "is_letter") rfl), F, FunD.bindsN F fun _ _ _ _ _ _ us hl => match us, hl with | [_], _ => rfl, fun e he => ?_, sc7, rfl, rfl, ck7⟩
  cases he
theorem b12 {h : Heap} (X : K.In h) (G : h.Ns mainGlobals mg) (c : He.SaysD faL fdL K) : FnB (Dt P w K mg base) Tb 12 "is_text" Pk.d12 := by
  obtain ⟨fd, F⟩ := c.def_ 3 (d := e12) rfl
  refine ⟨_, _, _, _, _, _, fd, N12, He.glo_ok X G (c.fact 3 (f := .glo "is_text") rfl), F, FunD.bindsN F fun _ _ _ _ _ _ us hl => match us, hl with | [_], _ => rfl, fun e he => ?_, sc12, rfl, rfl, ck12⟩
  cases he
theorem b103 {h : Heap} (X : K.In h) (G : h.Ns mainGlobals mg) (c : He.SaysD faL fdL K) : FnB (Dt P w K mg base) Tb 103 "is_order" Pk.d103 := by
  obtain ⟨fd, F⟩ := c.def_ 4 (d := e103) rfl
  refine ⟨_, _, _, _, _, _, fd, N103, He.glo_ok X G (c.fact 4 (f := .glo "is_order") rfl), F, FunD.bindsN F fun _ _ _ _ _ _ us hl => match us, hl with | [_], _ => rfl, fun e he => ?_, sc103, rfl, rfl, ck103⟩
  cases he
theorem b104 {h : Heap} (X : K.In h) (G : h.Ns mainGlobals mg) (c : He.SaysD faL fdL K) : FnB (Dt P w K mg base) Tb 104 "all_ends" Pk.d104 := by
  obtain ⟨fd, F⟩ := c.def_ 5 (d := e104) rfl
  refine ⟨_, _, _, _, _, _, fd, N104, He.glo_ok X G (c.fact 5 (f := .glo "all_ends") rfl), F, FunD.bindsN F fun _ _ _ _ _ _ us hl => match us, hl with | [_, _], _ => rfl, fun e he => ?_, sc104, rfl, rfl, ck104⟩
  cases he
theorem b105 {h : Heap} (X : K.In h) (G : h.Ns mainGlobals mg) (c : He.SaysD faL fdL K) : FnB (Dt P w K mg base) Tb 105 "places_of" Pk.d105 := by
  obtain ⟨fd, F⟩ := c.def_ 6 (d := e105) rfl
  refine ⟨_, _, _, _, _, _, fd, N105, He.glo_ok X G (c.fact 6 (f := .glo "places_of") rfl), F, FunD.bindsN F fun _ _ _ _ _ _ us hl => match us, hl with | [_, _], _ => rfl, fun e he => ?_, sc105, rfl, rfl, ck105⟩
  cases he
theorem b106 {h : Heap} (X : K.In h) (G : h.Ns mainGlobals mg) (c : He.SaysD faL fdL K) : FnB (Dt P w K mg base) Tb 106 "following" Pk.d106 := by
  obtain ⟨fd, F⟩ := c.def_ 7 (d := e106) rfl
  refine ⟨_, _, _, _, _, _, fd, N106, He.glo_ok X G (c.fact 7 (f := .glo "following") rfl), F, FunD.bindsN F fun _ _ _ _ _ _ us hl => match us, hl with | [_, _], _ => rfl, fun e he => ?_, sc106, rfl, rfl, ck106⟩
  cases he
theorem b107 {h : Heap} (X : K.In h) (G : h.Ns mainGlobals mg) (c : He.SaysD faL fdL K) : FnB (Dt P w K mg base) Tb 107 "rises_in" Pk.d107 := by
  obtain ⟨fd, F⟩ := c.def_ 8 (d := e107) rfl
  refine ⟨_, _, _, _, _, _, fd, N107, He.glo_ok X G (c.fact 8 (f := .glo "rises_in") rfl), F, FunD.bindsN F fun _ _ _ _ _ _ us hl => match us, hl with | [_, _], _ => rfl, fun e he => ?_, sc107, rfl, rfl, ck107⟩
  cases he
theorem b108 {h : Heap} (X : K.In h) (G : h.Ns mainGlobals mg) (c : He.SaysD faL fdL K) : FnB (Dt P w K mg base) Tb 108 "agreement_in" Pk.d108 := by
  obtain ⟨fd, F⟩ := c.def_ 9 (d := e108) rfl
  refine ⟨_, _, _, _, _, _, fd, N108, He.glo_ok X G (c.fact 9 (f := .glo "agreement_in") rfl), F, FunD.bindsN F fun _ _ _ _ _ _ us hl => match us, hl with | [_, _, _], _ => rfl, fun e he => ?_, sc108, rfl, rfl, ck108⟩
  cases he
theorem b109 {h : Heap} (X : K.In h) (G : h.Ns mainGlobals mg) (c : He.SaysD faL fdL K) : FnB (Dt P w K mg base) Tb 109 "is_untrue" Pk.d109 := by
  obtain ⟨fd, F⟩ := c.def_ 10 (d := e109) rfl
  refine ⟨_, _, _, _, _, _, fd, N109, He.glo_ok X G (c.fact 10 (f := .glo "is_untrue") rfl), F, FunD.bindsN F fun _ _ _ _ _ _ us hl => match us, hl with | [_, _, _, _], _ => rfl, fun e he => ?_, sc109, rfl, rfl, ck109⟩
  cases he
theorem b110 {h : Heap} (X : K.In h) (G : h.Ns mainGlobals mg) (c : He.SaysD faL fdL K) : FnB (Dt P w K mg base) Tb 110 "are_numbers" Pk.d110 := by
  obtain ⟨fd, F⟩ := c.def_ 11 (d := e110) rfl
  refine ⟨_, _, _, _, _, _, fd, N110, He.glo_ok X G (c.fact 11 (f := .glo "are_numbers") rfl), F, FunD.bindsN F fun _ _ _ _ _ _ us hl => match us, hl with | [_], _ => rfl, fun e he => ?_, sc110, rfl, rfl, ck110⟩
  cases he
theorem b111 {h : Heap} (X : K.In h) (G : h.Ns mainGlobals mg) (c : He.SaysD faL fdL K) : FnB (Dt P w K mg base) Tb 111 "is_table" Pk.d111 := by
  obtain ⟨fd, F⟩ := c.def_ 12 (d := e111) rfl
  refine ⟨_, _, _, _, _, _, fd, N111, He.glo_ok X G (c.fact 12 (f := .glo "is_table") rfl), F, FunD.bindsN F fun _ _ _ _ _ _ us hl => match us, hl with | [_, _], _ => rfl, fun e he => ?_, sc111, rfl, rfl, ck111⟩
  cases he
theorem b112 {h : Heap} (X : K.In h) (G : h.Ns mainGlobals mg) (c : He.SaysD faL fdL K) : FnB (Dt P w K mg base) Tb 112 "is_rising" Pk.d112 := by
  obtain ⟨fd, F⟩ := c.def_ 13 (d := e112) rfl
  refine ⟨_, _, _, _, _, _, fd, N112, He.glo_ok X G (c.fact 13 (f := .glo "is_rising") rfl), F, FunD.bindsN F fun _ _ _ _ _ _ us hl => match us, hl with | [_], _ => rfl, fun e he => ?_, sc112, rfl, rfl, ck112⟩
  cases he
theorem b113 {h : Heap} (X : K.In h) (G : h.Ns mainGlobals mg) (c : He.SaysD faL fdL K) : FnB (Dt P w K mg base) Tb 113 "column_in" Pk.d113 := by
  obtain ⟨fd, F⟩ := c.def_ 14 (d := e113) rfl
  refine ⟨_, _, _, _, _, _, fd, N113, He.glo_ok X G (c.fact 14 (f := .glo "column_in") rfl), F, FunD.bindsN F fun _ _ _ _ _ _ us hl => match us, hl with | [_, _], _ => rfl, fun e he => ?_, sc113, rfl, rfl, ck113⟩
  cases he
theorem b114 {h : Heap} (X : K.In h) (G : h.Ns mainGlobals mg) (c : He.SaysD faL fdL K) : FnB (Dt P w K mg base) Tb 114 "is_row" Pk.d114 := by
  obtain ⟨fd, F⟩ := c.def_ 15 (d := e114) rfl
  refine ⟨_, _, _, _, _, _, fd, N114, He.glo_ok X G (c.fact 15 (f := .glo "is_row") rfl), F, FunD.bindsN F fun _ _ _ _ _ _ us hl => match us, hl with | [_, _], _ => rfl, fun e he => ?_, sc114, rfl, rfl, ck114⟩
  cases he
theorem b115 {h : Heap} (X : K.In h) (G : h.Ns mainGlobals mg) (c : He.SaysD faL fdL K) : FnB (Dt P w K mg base) Tb 115 "step_from" Pk.d115 := by
  obtain ⟨fd, F⟩ := c.def_ 16 (d := e115) rfl
  refine ⟨_, _, _, _, _, _, fd, N115, He.glo_ok X G (c.fact 16 (f := .glo "step_from") rfl), F, FunD.bindsN F fun _ _ _ _ _ _ us hl => match us, hl with | [_, _, _], _ => rfl, fun e he => ?_, sc115, rfl, rfl, ck115⟩
  cases he
theorem b116 {h : Heap} (X : K.In h) (G : h.Ns mainGlobals mg) (c : He.SaysD faL fdL K) : FnB (Dt P w K mg base) Tb 116 "is_short_ring" Pk.d116 := by
  obtain ⟨fd, F⟩ := c.def_ 17 (d := e116) rfl
  refine ⟨_, _, _, _, _, _, fd, N116, He.glo_ok X G (c.fact 17 (f := .glo "is_short_ring") rfl), F, FunD.bindsN F fun _ _ _ _ _ _ us hl => match us, hl with | [_, _, _], _ => rfl, fun e he => ?_, sc116, rfl, rfl, ck116⟩
  cases he
theorem b117 {h : Heap} (X : K.In h) (G : h.Ns mainGlobals mg) (c : He.SaysD faL fdL K) : FnB (Dt P w K mg base) Tb 117 "has_places" Pk.d117 := by
  obtain ⟨fd, F⟩ := c.def_ 18 (d := e117) rfl
  refine ⟨_, _, _, _, _, _, fd, N117, He.glo_ok X G (c.fact 18 (f := .glo "has_places") rfl), F, FunD.bindsN F fun _ _ _ _ _ _ us hl => match us, hl with | [_, _, _], _ => rfl, fun e he => ?_, sc117, rfl, rfl, ck117⟩
  cases he
theorem b118 {h : Heap} (X : K.In h) (G : h.Ns mainGlobals mg) (c : He.SaysD faL fdL K) : FnB (Dt P w K mg base) Tb 118 "accepts_order" Pk.d118 := by
  obtain ⟨fd, F⟩ := c.def_ 19 (d := e118) rfl
  refine ⟨_, _, _, _, _, _, fd, N118, He.glo_ok X G (c.fact 19 (f := .glo "accepts_order") rfl), F, FunD.bindsN F fun _ _ _ _ _ _ us hl => match us, hl with | [_, _], _ => rfl, fun e he => ?_, sc118, rfl, rfl, ck118⟩
  cases he
theorem b119 {h : Heap} (X : K.In h) (G : h.Ns mainGlobals mg) (c : He.SaysD faL fdL K) : FnB (Dt P w K mg base) Tb 119 "accepts_agreement" Pk.d119 := by
  obtain ⟨fd, F⟩ := c.def_ 20 (d := e119) rfl
  refine ⟨_, _, _, _, _, _, fd, N119, He.glo_ok X G (c.fact 20 (f := .glo "accepts_agreement") rfl), F, FunD.bindsN F fun _ _ _ _ _ _ us hl => match us, hl with | [_, _], _ => rfl, fun e he => ?_, sc119, rfl, rfl, ck119⟩
  cases he
theorem b120 {h : Heap} (X : K.In h) (G : h.Ns mainGlobals mg) (c : He.SaysD faL fdL K) : FnB (Dt P w K mg base) Tb 120 "accepts_column" Pk.d120 := by
  obtain ⟨fd, F⟩ := c.def_ 21 (d := e120) rfl
  refine ⟨_, _, _, _, _, _, fd, N120, He.glo_ok X G (c.fact 21 (f := .glo "accepts_column") rfl), F, FunD.bindsN F fun _ _ _ _ _ _ us hl => match us, hl with | [_, _], _ => rfl, fun e he => ?_, sc120, rfl, rfl, ck120⟩
  cases he
theorem b121 {h : Heap} (X : K.In h) (G : h.Ns mainGlobals mg) (c : He.SaysD faL fdL K) : FnB (Dt P w K mg base) Tb 121 "accepts" Pk.d121 := by
  obtain ⟨fd, F⟩ := c.def_ 22 (d := e121) rfl
  refine ⟨_, _, _, _, _, _, fd, N121, He.glo_ok X G (c.fact 22 (f := .glo "accepts") rfl), F, FunD.bindsN F fun _ _ _ _ _ _ us hl => match us, hl with | [_, _], _ => rfl, fun e he => ?_, sc121, rfl, rfl, ck121⟩
  have he' : e ∈ ((lk kwL 121).getD []) := he
  have hk : lk kwL 121 = some ([(0, ["certificate", "claim"], [1, 0])] : List (Nat × List Str × List Nat)) := rfl
  rw [hk] at he'
  simp only [Option.getD_some, List.mem_cons, List.not_mem_nil, or_false] at he'
  rcases he' with rfl
  · exact kwN F _ fun _ _ _ _ _ _ us ws hl hw => match us, ws, hl, hw with | [], [_, _], _, _ => rfl
theorem b1023 {h : Heap} (X : K.In h) (G : h.Ns mainGlobals mg) (c : He.SaysD faL fdL K) : FnB0 (Dt P w K mg base) Tb T0 1023 "_law_jug" d1023 := by
  obtain ⟨fd, F⟩ := c.def_ 23 (d := e1023) rfl
  refine ⟨_, _, _, _, _, _, fd, N1023, He.glo_ok X G (c.fact 23 (f := .glo "_law_jug") rfl), F, FunD.bindsN F fun _ _ _ _ _ _ us hl => match us, hl with | [_, _], _ => rfl, fun e he => ?_, sc1023, rfl, rfl, ck1023⟩
  cases he
theorem b1024 {h : Heap} (X : K.In h) (G : h.Ns mainGlobals mg) (c : He.SaysD faL fdL K) : FnB0 (Dt P w K mg base) Tb { Tb with fn := fun _ => none, nw := fun _ => none, ob := false } 1024 "_law_swig" d1024 := by
  obtain ⟨fd, F⟩ := c.def_ 24 (d := e1024) rfl
  refine ⟨_, _, _, _, _, _, fd, N1024, He.glo_ok X G (c.fact 24 (f := .glo "_law_swig") rfl), F, FunD.bindsN F fun _ _ _ _ _ _ us hl => match us, hl with | [_, _], _ => rfl, fun e he => ?_, sc1024, rfl, rfl, ck1024⟩
  cases he
theorem b1025 {h : Heap} (X : K.In h) (G : h.Ns mainGlobals mg) (c : He.SaysD faL fdL K) : FnB (Dt P w K mg base) Tb 1025 "_law_one" d1025 := by
  obtain ⟨fd, F⟩ := c.def_ 25 (d := e1025) rfl
  refine ⟨_, _, _, _, _, _, fd, N1025, He.glo_ok X G (c.fact 25 (f := .glo "_law_one") rfl), F, FunD.bindsN F fun _ _ _ _ _ _ us hl => match us, hl with | [_, _], _ => rfl, fun e he => ?_, sc1025, rfl, rfl, ck1025⟩
  cases he
theorem b1026 {h : Heap} (X : K.In h) (G : h.Ns mainGlobals mg) (c : He.SaysD faL fdL K) : FnB (Dt P w K mg base) Tb 1026 "_law_bank" d1026 := by
  obtain ⟨fd, F⟩ := c.def_ 26 (d := e1026) rfl
  refine ⟨_, _, _, _, _, _, fd, N1026, He.glo_ok X G (c.fact 26 (f := .glo "_law_bank") rfl), F, FunD.bindsN F fun _ _ _ _ _ _ us hl => match us, hl with | [], _ => rfl, fun e he => ?_, sc1026, rfl, rfl, ck1026⟩
  cases he
theorem b1027 {h : Heap} (X : K.In h) (G : h.Ns mainGlobals mg) (c : He.SaysD faL fdL K) : FnB (Dt P w K mg base) Tb 1027 "_law_against" d1027 := by
  obtain ⟨fd, F⟩ := c.def_ 27 (d := e1027) rfl
  refine ⟨_, _, _, _, _, _, fd, N1027, He.glo_ok X G (c.fact 27 (f := .glo "_law_against") rfl), F, FunD.bindsN F fun _ _ _ _ _ _ us hl => match us, hl with | [_], _ => rfl, fun e he => ?_, sc1027, rfl, rfl, ck1027⟩
  cases he
theorem b1028 {h : Heap} (X : K.In h) (G : h.Ns mainGlobals mg) (c : He.SaysD faL fdL K) : FnB (Dt P w K mg base) Tb 1028 "_law_right" d1028 := by
  obtain ⟨fd, F⟩ := c.def_ 28 (d := e1028) rfl
  refine ⟨_, _, _, _, _, _, fd, N1028, He.glo_ok X G (c.fact 28 (f := .glo "_law_right") rfl), F, FunD.bindsN F fun _ _ _ _ _ _ us hl => match us, hl with | [_], _ => rfl, fun e he => ?_, sc1028, rfl, rfl, ck1028⟩
  cases he
theorem b1029 {h : Heap} (X : K.In h) (G : h.Ns mainGlobals mg) (c : He.SaysD faL fdL K) : FnB (Dt P w K mg base) Tb 1029 "law" d1029 := by
  obtain ⟨fd, F⟩ := c.def_ 29 (d := e1029) rfl
  refine ⟨_, _, _, _, _, _, fd, N1029, He.glo_ok X G (c.fact 29 (f := .glo "law") rfl), F, FunD.bindsN F fun _ _ _ _ _ _ us hl => match us, hl with | [_], _ => rfl, fun e he => ?_, sc1029, rfl, rfl, ck1029⟩
  cases he
theorem sta1 {h : Heap} (X : K.In h) (G : h.Ns mainGlobals mg) (c : He.SaysD faL fdL K) (cy : SaysY faL fdL prD tbL ckB w K) : Sta1 (Dt P w K mg base) Tb Ff := by
  exact ⟨fun _ _ e => (by cases e), fun e => (by cases e)⟩
theorem f0 {h : Heap} (X : K.In h) (G : h.Ns mainGlobals mg) (c : He.SaysD faL fdL K) (cy : SaysY faL fdL prD tbL ckB w K) : Fns (Dt P w K mg base) T0 (sem Xt Ff 1) 3 := by
  have S := sta (P := P) (w := w) (base := base) X G c cy
  refine fns_all (T := T0) (n0 := 1) (by decide) ⟨S.kdc, S.eqm, S.blt, S.kon, S.an, S.inj, S.isc⟩ ⟨fun _ _ e => (by cases e), fun e => (by cases e)⟩ (fun f x e => ?_) 1
  cases e
theorem f1 {h : Heap} (X : K.In h) (G : h.Ns mainGlobals mg) (c : He.SaysD faL fdL K) (cy : SaysY faL fdL prD tbL ckB w K) (n : Nat) : Fns (Dt P w K mg base) Tb (sem Xt Ff n) (4 + 2 * n) := by
  have S := sta (P := P) (w := w) (base := base) X G c cy
  refine fns_all (by decide) S (sta1 X G c cy) (fun f x e => ?_) n
  have hm := Pk.lk_mem (show lk fnL f = some x from e)
  simp only [fnL, List.mem_cons, Prod.mk.injEq, List.not_mem_nil, or_false] at hm
  rcases hm with ⟨rfl, rfl⟩ | ⟨rfl, rfl⟩ | ⟨rfl, rfl⟩ | ⟨rfl, rfl⟩ | ⟨rfl, rfl⟩ | ⟨rfl, rfl⟩ | ⟨rfl, rfl⟩ | ⟨rfl, rfl⟩ | ⟨rfl, rfl⟩ | ⟨rfl, rfl⟩ | ⟨rfl, rfl⟩ | ⟨rfl, rfl⟩ | ⟨rfl, rfl⟩ | ⟨rfl, rfl⟩ | ⟨rfl, rfl⟩ | ⟨rfl, rfl⟩ | ⟨rfl, rfl⟩ | ⟨rfl, rfl⟩ | ⟨rfl, rfl⟩ | ⟨rfl, rfl⟩ | ⟨rfl, rfl⟩ | ⟨rfl, rfl⟩ | ⟨rfl, rfl⟩ | ⟨rfl, rfl⟩ | ⟨rfl, rfl⟩ | ⟨rfl, rfl⟩ | ⟨rfl, rfl⟩ | ⟨rfl, rfl⟩ | ⟨rfl, rfl⟩ | ⟨rfl, rfl⟩
  · exact .inl ⟨Pk.d0, rfl, b0 X G c⟩
  · exact .inl ⟨Pk.d1, rfl, b1 X G c⟩
  · exact .inl ⟨Pk.d7, rfl, b7 X G c⟩
  · exact .inl ⟨Pk.d12, rfl, b12 X G c⟩
  · exact .inl ⟨Pk.d103, rfl, b103 X G c⟩
  · exact .inl ⟨Pk.d104, rfl, b104 X G c⟩
  · exact .inl ⟨Pk.d105, rfl, b105 X G c⟩
  · exact .inl ⟨Pk.d106, rfl, b106 X G c⟩
  · exact .inl ⟨Pk.d107, rfl, b107 X G c⟩
  · exact .inl ⟨Pk.d108, rfl, b108 X G c⟩
  · exact .inl ⟨Pk.d109, rfl, b109 X G c⟩
  · exact .inl ⟨Pk.d110, rfl, b110 X G c⟩
  · exact .inl ⟨Pk.d111, rfl, b111 X G c⟩
  · exact .inl ⟨Pk.d112, rfl, b112 X G c⟩
  · exact .inl ⟨Pk.d113, rfl, b113 X G c⟩
  · exact .inl ⟨Pk.d114, rfl, b114 X G c⟩
  · exact .inl ⟨Pk.d115, rfl, b115 X G c⟩
  · exact .inl ⟨Pk.d116, rfl, b116 X G c⟩
  · exact .inl ⟨Pk.d117, rfl, b117 X G c⟩
  · exact .inl ⟨Pk.d118, rfl, b118 X G c⟩
  · exact .inl ⟨Pk.d119, rfl, b119 X G c⟩
  · exact .inl ⟨Pk.d120, rfl, b120 X G c⟩
  · exact .inl ⟨Pk.d121, rfl, b121 X G c⟩
  · exact .inr ((fnp_cup (f0 X G c cy) rfl (b1023 X G c) rfl mk_ok).mono (by omega))
  · exact .inr ((fnp_draw S rfl (b1024 X G c) rfl dr_ok).mono (by omega))
  · exact .inl ⟨d1025, rfl, b1025 X G c⟩
  · exact .inl ⟨d1026, rfl, b1026 X G c⟩
  · exact .inl ⟨d1027, rfl, b1027 X G c⟩
  · exact .inl ⟨d1028, rfl, b1028 X G c⟩
  · exact .inl ⟨d1029, rfl, b1029 X G c⟩
/-! the law itself, by the evaluator: proved in k66_law.txt -/
section
open NK LK LR LG OD
def bankP : List (Val × Val) := [((.tup [(.str "order"), (.tup [(.int (5)), (.int (3)), (.int (1)), (.int (0)), (.int (4)), (.int (2))]), (.str "first"), (.int (3))]), (.tup [(.int (1)), (.int (0)), (.int (2)), (.int (0)), (.int (2)), (.int (0))])), ((.tup [(.str "order"), (.tup [(.int (5)), (.int (3)), (.int (1)), (.int (0)), (.int (4)), (.int (2))]), (.str "ring"), (.int (9))]), (.tup [(.int (4)), (.int (3)), (.int (8)), (.int (2)), (.int (8)), (.int (2))])), ((.tup [(.str "order"), (.tup [(.int (1)), (.int (3)), (.int (5)), (.int (0)), (.int (2)), (.int (4))]), (.str "last"), (.int (3))]), (.tup [(.int (1)), (.int (0)), (.int (2)), (.int (0)), (.int (2)), (.int (0))])), ((.tup [(.str "order"), (.tup [(.int (0))]), (.str "ring"), (.int (1))]), (.tup [(.int (0))])), ((.tup [(.str "no order"), (.tup [(.int (5)), (.int (3)), (.int (1)), (.int (0)), (.int (4)), (.int (2))]), (.str "first"), (.int (2))]), (.tup [(.int (2)), (.int (3))])), ((.tup [(.str "no order"), (.tup [(.int (5)), (.int (3)), (.int (1)), (.int (0)), (.int (4)), (.int (2))]), (.str "ring"), (.int (1))]), (.tup [(.int (3))])), ((.tup [(.str "no order"), (.tup [(.int (0)), (.int (1)), (.int (2))]), (.str "first"), (.int (1))]), (.tup [(.int (1))])), ((.tup [(.str "no order"), (.tup [(.int (2)), (.int (1)), (.int (0))]), (.str "last"), (.int (1))]), (.tup [(.int (0))])), ((.tup [(.str "agreement"), (.tup [(.int (5)), (.int (3)), (.int (1)), (.int (0)), (.int (4)), (.int (2))]), (.str "first"), (.tup [(.int (1)), (.int (3)), (.int (0)), (.int (0)), (.int (2))])]), (.tup [(.int (1)), (.int (0)), (.int (2)), (.int (0)), (.int (2)), (.int (0))])), ((.tup [(.str "agreement"), (.tup [(.int (5)), (.int (3)), (.int (1)), (.int (0)), (.int (4)), (.int (2))]), (.str "first"), (.tup [(.int (0)), (.int (0)), (.int (0)), (.int (0)), (.int (0))])]), (.tup [(.int (3)), (.int (2)), (.int (5)), (.int (1)), (.int (4)), (.int (0))])), ((.tup [(.str "agreement"), (.tup [(.int (0)), (.int (1))]), (.str "last"), (.tup [(.int (1))])]), (.tup [(.int (6)), (.int (6))])), ((.tup [(.str "agreement"), (.tup [(.int (0))]), (.str "ring"), (.tup [])]), (.tup [(.int (4))])), ((.tup [(.str "no agreement"), (.tup [(.int (5)), (.int (3)), (.int (1)), (.int (0)), (.int (4)), (.int (2))]), (.str "first"), (.tup [(.int (1)), (.int (2)), (.int (0)), (.int (0)), (.int (2))])]), (.int (1))), ((.tup [(.str "no agreement"), (.tup [(.int (1)), (.int (0))]), (.str "ring"), (.tup [(.int (1))])]), (.int (0))), ((.tup [(.str "no agreement"), (.tup [(.int (5)), (.int (3)), (.int (1)), (.int (0)), (.int (4)), (.int (2))]), (.str "last"), (.tup [(.int (0)), (.int (0)), (.int (0)), (.int (0)), (.int (-1))])]), (.int (4))), ((.tup [(.str "no agreement"), (.tup [(.int (0)), (.int (1))]), (.str "last"), (.tup [(.int (2))])]), (.int (0))), ((.tup [(.str "column"), (.tup [(.int (0)), (.int (2)), (.int (2)), (.int (1)), (.int (-1)), (.int (0)), (.int (0))]), (.str "first")]), (.tup [(.int (1)), (.int (0)), (.int (2)), (.int (0)), (.int (2)), (.int (0))])), ((.tup [(.str "column"), (.tup [(.int (5))]), (.str "ring")]), (.tup [(.int (5))])), ((.tup [(.str "column"), (.tup [(.int (2)), (.int (2)), (.int (1)), (.int (0)), (.int (0)), (.int (0))]), (.str "ring")]), (.tup [(.int (0)), (.int (1)), (.int (0)), (.int (2)), (.int (0)), (.int (2))])), ((.tup [(.str "column"), (.tup [(.int (-1)), (.int (3))]), (.str "last")]), (.tup [(.int (3))])), ((.tup [(.str "no column"), (.tup [(.int (0)), (.int (1))]), (.str "ring")]), (.tup [(.int (0))])), ((.tup [(.str "no column"), (.tup [(.int (1)), (.int (1)), (.int (0)), (.int (0))]), (.str "ring")]), (.tup [(.int (1)), (.int (3))])), ((.tup [(.str "no column"), (.tup [(.int (-1)), (.int (0))]), (.str "first")]), (.tup [(.int (1))])), ((.tup [(.str "no column"), (.tup [(.int (3)), (.int (-1))]), (.str "last")]), (.tup [(.int (0))]))]
def bankL : List Val := bankP.map fun ab => .lst [ab.1, ab.2]
def prfL : List Val := bankP.map (·.2) ++ [.tup [], .int 0, .int 2, .tup [.int 0], .tup [.int 0, .int 1], .tup [.int 2]]
abbrev lS1 : EV.S := (.ifS (.cmp .ne (.lc (.var 4) (.name 4) (.seq (.call 1026 .nil)) (.some (.cmp .notN (.call 121 (.cons (.ix (.var 4) (.int 0)) (.cons (.ix (.var 4) (.int 1)) .nil))) (.bl true)))) (.lst .nil)) (.cons (.ret (.e (.bl false))) .nil) .nil)
abbrev lS2 : EV.S := (.set (.name 1) (.e (.tup (.cons (.int 5) (.cons (.int 3) (.cons (.int 1) (.cons (.int 0) (.cons (.int 4) (.cons (.int 2) .nil)))))))))
abbrev lS3 : EV.S := (.set (.name 2) (.e (.lc (.call 121 (.cons (.tup (.cons (.str "order") (.cons (.var 1) (.cons (.str "first") (.cons (.var 3) .nil))))) (.cons (.tup (.cons (.int 1) (.cons (.int 0) (.cons (.int 2) (.cons (.int 0) (.cons (.int 2) (.cons (.int 0) .nil))))))) .nil))) (.name 3) (.seq (.lst (.cons (.int 1) (.cons (.int 2) (.cons (.int 3) (.cons (.int 4) (.cons (.bin .pow (.int 10) (.int 18)) .nil))))))) .no)))
abbrev lS4 : EV.S := (.set (.name 2) (.e (.bin .add (.var 2) (.lc (.call 121 (.cons (.tup (.cons (.str "no order") (.cons (.var 1) (.cons (.str "first") (.cons (.var 3) .nil))))) (.cons (.tup (.cons (.int 2) (.cons (.int 3) .nil))) .nil))) (.name 3) (.seq (.lst (.cons (.int 1) (.cons (.int 2) (.cons (.int 3) .nil))))) .no))))
abbrev lS5 : EV.S := (.set (.name 2) (.e (.bin .add (.var 2) (.lc (.call 121 (.cons (.tup (.cons (.str "no order") (.cons (.var 1) (.cons (.str "first") (.cons (.int 1) .nil))))) (.cons (.tup (.cons (.var 3) .nil)) .nil))) (.name 3) (.rng1 (.int 5)) .no))))
abbrev lS6 : EV.S := (.ifS (.cmp .ne (.var 2) (.lst (.cons (.bl false) (.cons (.bl false) (.cons (.bl true) (.cons (.bl true) (.cons (.bl true) (.cons (.bl false) (.cons (.bl true) (.cons (.bl false) (.cons (.bl false) (.cons (.bl false) (.cons (.bl true) (.cons (.bl true) (.cons (.bl false) .nil))))))))))))))) (.cons (.ret (.e (.bl false))) .nil) .nil)
abbrev lS7 : EV.S := (.ret (.e (.blt .all (.cons (.lc (.call 1028 (.cons (.call 1023 (.cons (.var 0) (.cons (.var 5) .nil))) .nil)) (.name 5) (.rng1 (.blt .max2 (.cons (.int 2) (.cons (.blt .min2 (.cons (.blt .len (.cons (.var 0) .nil)) (.cons (.int 4) .nil))) .nil)))) .no) .nil))))
abbrev tS1 : EV.S := (.set (.tup [(.name 4), (.name 5)]) (.e (.call 1025 (.cons (.var 0) (.cons (.var 1) .nil)))))
abbrev tS2 : EV.S := (.ifS (.cmp .notN (.callK 121 .nil (.cons (.var 5) (.cons (.var 4) .nil)) ["certificate", "claim"] [1, 0]) (.bl true)) (.cons (.ret (.e (.bl false))) .nil) .nil)
abbrev tS3 : EV.S := (.ifS (.cmp .ne (.lc (.var 7) (.name 7) (.seq (.var 2)) (.some (.cmp .notN (.call 121 (.cons (.call 1027 (.cons (.var 4) .nil)) (.cons (.var 7) .nil))) (.bl false)))) (.lst .nil)) (.cons (.ret (.e (.bl false))) .nil) .nil)
abbrev trB : Ss := (.cons tS2 (.cons tS3 .nil))
abbrev fB : Ss := (.cons tS1 trB)
abbrev rS1 : EV.S := (.set (.name 1) (.e (.call 1026 .nil)))
abbrev rS2 : EV.S := (.set (.name 2) (.e (.bin .add (.lc (.ix (.var 6) (.int 1)) (.name 6) (.seq (.var 1)) .no) (.lst (.cons (.tup .nil) (.cons (.int 0) (.cons (.int 2) (.cons (.tup (.cons (.int 0) .nil)) (.cons (.tup (.cons (.int 0) (.cons (.int 1) .nil))) (.cons (.tup (.cons (.int 2) .nil)) .nil))))))))))
theorem tr0 (x : Option Val) : pss Xt (semD Xt Ff 11) trB [some .cup, some (.lst bankL), some (.lst prfL), x, some (.tup [(.str "order"), (.tup [(.int (5)), (.int (3)), (.int (1)), (.int (0)), (.int (4)), (.int (2))]), (.str "first"), (.int (3))]), some (.tup [(.int (1)), (.int (0)), (.int (2)), (.int (0)), (.int (2)), (.int (0))]), none, none] = .nx [some .cup, some (.lst bankL), some (.lst prfL), x, some (.tup [(.str "order"), (.tup [(.int (5)), (.int (3)), (.int (1)), (.int (0)), (.int (4)), (.int (2))]), (.str "first"), (.int (3))]), some (.tup [(.int (1)), (.int (0)), (.int (2)), (.int (0)), (.int (2)), (.int (0))]), none, none] := by kernel_rfl
theorem tr1 (x : Option Val) : pss Xt (semD Xt Ff 11) trB [some .cup, some (.lst bankL), some (.lst prfL), x, some (.tup [(.str "order"), (.tup [(.int (5)), (.int (3)), (.int (1)), (.int (0)), (.int (4)), (.int (2))]), (.str "ring"), (.int (9))]), some (.tup [(.int (4)), (.int (3)), (.int (8)), (.int (2)), (.int (8)), (.int (2))]), none, none] = .nx [some .cup, some (.lst bankL), some (.lst prfL), x, some (.tup [(.str "order"), (.tup [(.int (5)), (.int (3)), (.int (1)), (.int (0)), (.int (4)), (.int (2))]), (.str "ring"), (.int (9))]), some (.tup [(.int (4)), (.int (3)), (.int (8)), (.int (2)), (.int (8)), (.int (2))]), none, none] := by kernel_rfl
theorem tr2 (x : Option Val) : pss Xt (semD Xt Ff 11) trB [some .cup, some (.lst bankL), some (.lst prfL), x, some (.tup [(.str "order"), (.tup [(.int (1)), (.int (3)), (.int (5)), (.int (0)), (.int (2)), (.int (4))]), (.str "last"), (.int (3))]), some (.tup [(.int (1)), (.int (0)), (.int (2)), (.int (0)), (.int (2)), (.int (0))]), none, none] = .nx [some .cup, some (.lst bankL), some (.lst prfL), x, some (.tup [(.str "order"), (.tup [(.int (1)), (.int (3)), (.int (5)), (.int (0)), (.int (2)), (.int (4))]), (.str "last"), (.int (3))]), some (.tup [(.int (1)), (.int (0)), (.int (2)), (.int (0)), (.int (2)), (.int (0))]), none, none] := by kernel_rfl
theorem tr3 (x : Option Val) : pss Xt (semD Xt Ff 11) trB [some .cup, some (.lst bankL), some (.lst prfL), x, some (.tup [(.str "order"), (.tup [(.int (0))]), (.str "ring"), (.int (1))]), some (.tup [(.int (0))]), none, none] = .nx [some .cup, some (.lst bankL), some (.lst prfL), x, some (.tup [(.str "order"), (.tup [(.int (0))]), (.str "ring"), (.int (1))]), some (.tup [(.int (0))]), none, none] := by kernel_rfl
theorem tr4 (x : Option Val) : pss Xt (semD Xt Ff 11) trB [some .cup, some (.lst bankL), some (.lst prfL), x, some (.tup [(.str "no order"), (.tup [(.int (5)), (.int (3)), (.int (1)), (.int (0)), (.int (4)), (.int (2))]), (.str "first"), (.int (2))]), some (.tup [(.int (2)), (.int (3))]), none, none] = .nx [some .cup, some (.lst bankL), some (.lst prfL), x, some (.tup [(.str "no order"), (.tup [(.int (5)), (.int (3)), (.int (1)), (.int (0)), (.int (4)), (.int (2))]), (.str "first"), (.int (2))]), some (.tup [(.int (2)), (.int (3))]), none, none] := by kernel_rfl
theorem tr5 (x : Option Val) : pss Xt (semD Xt Ff 11) trB [some .cup, some (.lst bankL), some (.lst prfL), x, some (.tup [(.str "no order"), (.tup [(.int (5)), (.int (3)), (.int (1)), (.int (0)), (.int (4)), (.int (2))]), (.str "ring"), (.int (1))]), some (.tup [(.int (3))]), none, none] = .nx [some .cup, some (.lst bankL), some (.lst prfL), x, some (.tup [(.str "no order"), (.tup [(.int (5)), (.int (3)), (.int (1)), (.int (0)), (.int (4)), (.int (2))]), (.str "ring"), (.int (1))]), some (.tup [(.int (3))]), none, none] := by kernel_rfl
theorem tr6 (x : Option Val) : pss Xt (semD Xt Ff 11) trB [some .cup, some (.lst bankL), some (.lst prfL), x, some (.tup [(.str "no order"), (.tup [(.int (0)), (.int (1)), (.int (2))]), (.str "first"), (.int (1))]), some (.tup [(.int (1))]), none, none] = .nx [some .cup, some (.lst bankL), some (.lst prfL), x, some (.tup [(.str "no order"), (.tup [(.int (0)), (.int (1)), (.int (2))]), (.str "first"), (.int (1))]), some (.tup [(.int (1))]), none, none] := by kernel_rfl
theorem tr7 (x : Option Val) : pss Xt (semD Xt Ff 11) trB [some .cup, some (.lst bankL), some (.lst prfL), x, some (.tup [(.str "no order"), (.tup [(.int (2)), (.int (1)), (.int (0))]), (.str "last"), (.int (1))]), some (.tup [(.int (0))]), none, none] = .nx [some .cup, some (.lst bankL), some (.lst prfL), x, some (.tup [(.str "no order"), (.tup [(.int (2)), (.int (1)), (.int (0))]), (.str "last"), (.int (1))]), some (.tup [(.int (0))]), none, none] := by kernel_rfl
theorem tr8 (x : Option Val) : pss Xt (semD Xt Ff 11) trB [some .cup, some (.lst bankL), some (.lst prfL), x, some (.tup [(.str "agreement"), (.tup [(.int (5)), (.int (3)), (.int (1)), (.int (0)), (.int (4)), (.int (2))]), (.str "first"), (.tup [(.int (1)), (.int (3)), (.int (0)), (.int (0)), (.int (2))])]), some (.tup [(.int (1)), (.int (0)), (.int (2)), (.int (0)), (.int (2)), (.int (0))]), none, none] = .nx [some .cup, some (.lst bankL), some (.lst prfL), x, some (.tup [(.str "agreement"), (.tup [(.int (5)), (.int (3)), (.int (1)), (.int (0)), (.int (4)), (.int (2))]), (.str "first"), (.tup [(.int (1)), (.int (3)), (.int (0)), (.int (0)), (.int (2))])]), some (.tup [(.int (1)), (.int (0)), (.int (2)), (.int (0)), (.int (2)), (.int (0))]), none, none] := by kernel_rfl
theorem tr9 (x : Option Val) : pss Xt (semD Xt Ff 11) trB [some .cup, some (.lst bankL), some (.lst prfL), x, some (.tup [(.str "agreement"), (.tup [(.int (5)), (.int (3)), (.int (1)), (.int (0)), (.int (4)), (.int (2))]), (.str "first"), (.tup [(.int (0)), (.int (0)), (.int (0)), (.int (0)), (.int (0))])]), some (.tup [(.int (3)), (.int (2)), (.int (5)), (.int (1)), (.int (4)), (.int (0))]), none, none] = .nx [some .cup, some (.lst bankL), some (.lst prfL), x, some (.tup [(.str "agreement"), (.tup [(.int (5)), (.int (3)), (.int (1)), (.int (0)), (.int (4)), (.int (2))]), (.str "first"), (.tup [(.int (0)), (.int (0)), (.int (0)), (.int (0)), (.int (0))])]), some (.tup [(.int (3)), (.int (2)), (.int (5)), (.int (1)), (.int (4)), (.int (0))]), none, none] := by kernel_rfl
theorem tr10 (x : Option Val) : pss Xt (semD Xt Ff 11) trB [some .cup, some (.lst bankL), some (.lst prfL), x, some (.tup [(.str "agreement"), (.tup [(.int (0)), (.int (1))]), (.str "last"), (.tup [(.int (1))])]), some (.tup [(.int (6)), (.int (6))]), none, none] = .nx [some .cup, some (.lst bankL), some (.lst prfL), x, some (.tup [(.str "agreement"), (.tup [(.int (0)), (.int (1))]), (.str "last"), (.tup [(.int (1))])]), some (.tup [(.int (6)), (.int (6))]), none, none] := by kernel_rfl
theorem tr11 (x : Option Val) : pss Xt (semD Xt Ff 11) trB [some .cup, some (.lst bankL), some (.lst prfL), x, some (.tup [(.str "agreement"), (.tup [(.int (0))]), (.str "ring"), (.tup [])]), some (.tup [(.int (4))]), none, none] = .nx [some .cup, some (.lst bankL), some (.lst prfL), x, some (.tup [(.str "agreement"), (.tup [(.int (0))]), (.str "ring"), (.tup [])]), some (.tup [(.int (4))]), none, none] := by kernel_rfl
theorem tr12 (x : Option Val) : pss Xt (semD Xt Ff 11) trB [some .cup, some (.lst bankL), some (.lst prfL), x, some (.tup [(.str "no agreement"), (.tup [(.int (5)), (.int (3)), (.int (1)), (.int (0)), (.int (4)), (.int (2))]), (.str "first"), (.tup [(.int (1)), (.int (2)), (.int (0)), (.int (0)), (.int (2))])]), some (.int (1)), none, none] = .nx [some .cup, some (.lst bankL), some (.lst prfL), x, some (.tup [(.str "no agreement"), (.tup [(.int (5)), (.int (3)), (.int (1)), (.int (0)), (.int (4)), (.int (2))]), (.str "first"), (.tup [(.int (1)), (.int (2)), (.int (0)), (.int (0)), (.int (2))])]), some (.int (1)), none, none] := by kernel_rfl
theorem tr13 (x : Option Val) : pss Xt (semD Xt Ff 11) trB [some .cup, some (.lst bankL), some (.lst prfL), x, some (.tup [(.str "no agreement"), (.tup [(.int (1)), (.int (0))]), (.str "ring"), (.tup [(.int (1))])]), some (.int (0)), none, none] = .nx [some .cup, some (.lst bankL), some (.lst prfL), x, some (.tup [(.str "no agreement"), (.tup [(.int (1)), (.int (0))]), (.str "ring"), (.tup [(.int (1))])]), some (.int (0)), none, none] := by kernel_rfl
theorem tr14 (x : Option Val) : pss Xt (semD Xt Ff 11) trB [some .cup, some (.lst bankL), some (.lst prfL), x, some (.tup [(.str "no agreement"), (.tup [(.int (5)), (.int (3)), (.int (1)), (.int (0)), (.int (4)), (.int (2))]), (.str "last"), (.tup [(.int (0)), (.int (0)), (.int (0)), (.int (0)), (.int (-1))])]), some (.int (4)), none, none] = .nx [some .cup, some (.lst bankL), some (.lst prfL), x, some (.tup [(.str "no agreement"), (.tup [(.int (5)), (.int (3)), (.int (1)), (.int (0)), (.int (4)), (.int (2))]), (.str "last"), (.tup [(.int (0)), (.int (0)), (.int (0)), (.int (0)), (.int (-1))])]), some (.int (4)), none, none] := by kernel_rfl
theorem tr15 (x : Option Val) : pss Xt (semD Xt Ff 11) trB [some .cup, some (.lst bankL), some (.lst prfL), x, some (.tup [(.str "no agreement"), (.tup [(.int (0)), (.int (1))]), (.str "last"), (.tup [(.int (2))])]), some (.int (0)), none, none] = .nx [some .cup, some (.lst bankL), some (.lst prfL), x, some (.tup [(.str "no agreement"), (.tup [(.int (0)), (.int (1))]), (.str "last"), (.tup [(.int (2))])]), some (.int (0)), none, none] := by kernel_rfl
theorem tr16 (x : Option Val) : pss Xt (semD Xt Ff 11) trB [some .cup, some (.lst bankL), some (.lst prfL), x, some (.tup [(.str "column"), (.tup [(.int (0)), (.int (2)), (.int (2)), (.int (1)), (.int (-1)), (.int (0)), (.int (0))]), (.str "first")]), some (.tup [(.int (1)), (.int (0)), (.int (2)), (.int (0)), (.int (2)), (.int (0))]), none, none] = .nx [some .cup, some (.lst bankL), some (.lst prfL), x, some (.tup [(.str "column"), (.tup [(.int (0)), (.int (2)), (.int (2)), (.int (1)), (.int (-1)), (.int (0)), (.int (0))]), (.str "first")]), some (.tup [(.int (1)), (.int (0)), (.int (2)), (.int (0)), (.int (2)), (.int (0))]), none, none] := by kernel_rfl
theorem tr17 (x : Option Val) : pss Xt (semD Xt Ff 11) trB [some .cup, some (.lst bankL), some (.lst prfL), x, some (.tup [(.str "column"), (.tup [(.int (5))]), (.str "ring")]), some (.tup [(.int (5))]), none, none] = .nx [some .cup, some (.lst bankL), some (.lst prfL), x, some (.tup [(.str "column"), (.tup [(.int (5))]), (.str "ring")]), some (.tup [(.int (5))]), none, none] := by kernel_rfl
theorem tr18 (x : Option Val) : pss Xt (semD Xt Ff 11) trB [some .cup, some (.lst bankL), some (.lst prfL), x, some (.tup [(.str "column"), (.tup [(.int (2)), (.int (2)), (.int (1)), (.int (0)), (.int (0)), (.int (0))]), (.str "ring")]), some (.tup [(.int (0)), (.int (1)), (.int (0)), (.int (2)), (.int (0)), (.int (2))]), none, none] = .nx [some .cup, some (.lst bankL), some (.lst prfL), x, some (.tup [(.str "column"), (.tup [(.int (2)), (.int (2)), (.int (1)), (.int (0)), (.int (0)), (.int (0))]), (.str "ring")]), some (.tup [(.int (0)), (.int (1)), (.int (0)), (.int (2)), (.int (0)), (.int (2))]), none, none] := by kernel_rfl
theorem tr19 (x : Option Val) : pss Xt (semD Xt Ff 11) trB [some .cup, some (.lst bankL), some (.lst prfL), x, some (.tup [(.str "column"), (.tup [(.int (-1)), (.int (3))]), (.str "last")]), some (.tup [(.int (3))]), none, none] = .nx [some .cup, some (.lst bankL), some (.lst prfL), x, some (.tup [(.str "column"), (.tup [(.int (-1)), (.int (3))]), (.str "last")]), some (.tup [(.int (3))]), none, none] := by kernel_rfl
theorem tr20 (x : Option Val) : pss Xt (semD Xt Ff 11) trB [some .cup, some (.lst bankL), some (.lst prfL), x, some (.tup [(.str "no column"), (.tup [(.int (0)), (.int (1))]), (.str "ring")]), some (.tup [(.int (0))]), none, none] = .nx [some .cup, some (.lst bankL), some (.lst prfL), x, some (.tup [(.str "no column"), (.tup [(.int (0)), (.int (1))]), (.str "ring")]), some (.tup [(.int (0))]), none, none] := by kernel_rfl
theorem tr21 (x : Option Val) : pss Xt (semD Xt Ff 11) trB [some .cup, some (.lst bankL), some (.lst prfL), x, some (.tup [(.str "no column"), (.tup [(.int (1)), (.int (1)), (.int (0)), (.int (0))]), (.str "ring")]), some (.tup [(.int (1)), (.int (3))]), none, none] = .nx [some .cup, some (.lst bankL), some (.lst prfL), x, some (.tup [(.str "no column"), (.tup [(.int (1)), (.int (1)), (.int (0)), (.int (0))]), (.str "ring")]), some (.tup [(.int (1)), (.int (3))]), none, none] := by kernel_rfl
theorem tr22 (x : Option Val) : pss Xt (semD Xt Ff 11) trB [some .cup, some (.lst bankL), some (.lst prfL), x, some (.tup [(.str "no column"), (.tup [(.int (-1)), (.int (0))]), (.str "first")]), some (.tup [(.int (1))]), none, none] = .nx [some .cup, some (.lst bankL), some (.lst prfL), x, some (.tup [(.str "no column"), (.tup [(.int (-1)), (.int (0))]), (.str "first")]), some (.tup [(.int (1))]), none, none] := by kernel_rfl
theorem tr23 (x : Option Val) : pss Xt (semD Xt Ff 11) trB [some .cup, some (.lst bankL), some (.lst prfL), x, some (.tup [(.str "no column"), (.tup [(.int (3)), (.int (-1))]), (.str "last")]), some (.tup [(.int (0))]), none, none] = .nx [some .cup, some (.lst bankL), some (.lst prfL), x, some (.tup [(.str "no column"), (.tup [(.int (3)), (.int (-1))]), (.str "last")]), some (.tup [(.int (0))]), none, none] := by kernel_rfl
theorem tr_ok (x : Option Val) : ∀ ab ∈ bankP, pss Xt (semD Xt Ff 11) trB [some .cup, some (.lst bankL), some (.lst prfL), x, some ab.1, some ab.2, none, none] = .nx [some .cup, some (.lst bankL), some (.lst prfL), x, some ab.1, some ab.2, none, none] := by
  intro ab h
  simp only [bankP, List.mem_cons, List.not_mem_nil, or_false] at h
  rcases h with rfl | rfl | rfl | rfl | rfl | rfl | rfl | rfl | rfl | rfl | rfl | rfl | rfl | rfl | rfl | rfl | rfl | rfl | rfl | rfl | rfl | rfl | rfl | rfl
  · exact tr0 x
  · exact tr1 x
  · exact tr2 x
  · exact tr3 x
  · exact tr4 x
  · exact tr5 x
  · exact tr6 x
  · exact tr7 x
  · exact tr8 x
  · exact tr9 x
  · exact tr10 x
  · exact tr11 x
  · exact tr12 x
  · exact tr13 x
  · exact tr14 x
  · exact tr15 x
  · exact tr16 x
  · exact tr17 x
  · exact tr18 x
  · exact tr19 x
  · exact tr20 x
  · exact tr21 x
  · exact tr22 x
  · exact tr23 x
theorem right_ok {k kx : KV} (hk : k (.bl true) [] = true) : sem Xt Ff 12 1028 [.cup] [] k kx = true := by
  rw [sem_body (F := Ff) (d := d1028) rfl, d1028, run_exs (by rfl)]
  have e1 : ps Xt (semD Xt Ff 11) rS1 [some .cup, none, none, none, none, none, none, none] = .nx [some .cup, some (.lst bankL), none, none, none, none, none, none] := by kernel_rfl
  have e2 : ps Xt (semD Xt Ff 11) rS2 [some .cup, some (.lst bankL), none, none, none, none, none, none] = .nx [some .cup, some (.lst bankL), some (.lst prfL), none, none, none, none, none] := by kernel_rfl
  refine (exs_nx e1).trans ((exs_nx e2).trans ?_)
  rw [c_cons, c_for, c_rng, c_int]
  dsimp only
  rw [if_pos (rgOk_in (by decide) (by decide))]
  refine LG.for_ok (I := fun env => ∃ x a b : Option Val, env = [some .cup, some (.lst bankL), some (.lst prfL), x, a, b, none, none]) ?_ ?_ _ _ ⟨none, none, none, rfl⟩
  · rintro x _ ⟨o3, o4, o5, rfl⟩ c' hc' _ _
    rw [c_forF, show asg (.name 3) x [some .cup, some (.lst bankL), some (.lst prfL), o3, o4, o5, none, none] = some [some .cup, some (.lst bankL), some (.lst prfL), some x, o4, o5, none, none] from rfl, LK.c_K]
    refine LG.setT_ok (Q := fun v => v ∈ bankL) (fun K kx hK => ?_) ?_
    · rw [c_call]
      have pv : pes Xt (semD Xt Ff 11) (.cons (.var 0) (.cons (.var 1) .nil)) [some .cup, some (.lst bankL), some (.lst prfL), some x, o4, o5, none, none] = .ok [.cup, .lst bankL] := by
        push_cast [LK.iD_cup]
      refine (evs_d pv).trans ?_
      refine take_ok (F := Ff) (n := 9) (g := 1024) rfl rfl (by decide) (by decide) (fun y hy => ?_) fun y hy => hK _ hy
      obtain ⟨ab, _, rfl⟩ := List.mem_map.mp hy
      rfl
    · intro v hv
      obtain ⟨ab, hab, rfl⟩ := List.mem_map.mp hv
      refine ⟨[some .cup, some (.lst bankL), some (.lst prfL), some x, some ab.1, some ab.2, none, none], rfl, ?_⟩
      exact (exs_d (tr_ok (some x) ab hab)).trans (hc' _ ⟨_, _, _, rfl⟩)
  · rintro _ ⟨o3, o4, o5, rfl⟩
    have st : pss Xt (semD Xt Ff 11) (.cons (.ret (.e (.bl true))) .nil) [some .cup, some (.lst bankL), some (.lst prfL), o3, o4, o5, none, none] = .rt [some .cup, some (.lst bankL), some (.lst prfL), o3, o4, o5, none, none] (.bl true) := rfl
    exact (exs_rt st).trans hk
theorem word : ∀ m, m ≤ 63 → sem Xt Ff 13 1029 [.scr m] [] okT noX = true := fun m hm => by
  rw [sem_body (F := Ff) (d := d1029) rfl, d1029, run_exs (by rfl)]
  have e1 : ps Xt (semD Xt Ff 12) lS1 [some (.scr m), none, none, none, none, none] = .nx [some (.scr m), none, none, none, none, none] := by kernel_rfl
  have e2 : ps Xt (semD Xt Ff 12) lS2 [some (.scr m), none, none, none, none, none] = .nx [some (.scr m), some (.tup [.int 5, .int 3, .int 1, .int 0, .int 4, .int 2]), none, none, none, none] := by kernel_rfl
  have e3 : ps Xt (semD Xt Ff 12) lS3 [some (.scr m), some (.tup [.int 5, .int 3, .int 1, .int 0, .int 4, .int 2]), none, none, none, none] = .nx [some (.scr m), some (.tup [.int 5, .int 3, .int 1, .int 0, .int 4, .int 2]), some (.lst [.bl false, .bl false, .bl true, .bl true, .bl true]), none, none, none] := by kernel_rfl
  have e4 : ps Xt (semD Xt Ff 12) lS4 [some (.scr m), some (.tup [.int 5, .int 3, .int 1, .int 0, .int 4, .int 2]), some (.lst [.bl false, .bl false, .bl true, .bl true, .bl true]), none, none, none] = .nx [some (.scr m), some (.tup [.int 5, .int 3, .int 1, .int 0, .int 4, .int 2]), some (.lst [.bl false, .bl false, .bl true, .bl true, .bl true, .bl false, .bl true, .bl false]), none, none, none] := by kernel_rfl
  have e5 : ps Xt (semD Xt Ff 12) lS5 [some (.scr m), some (.tup [.int 5, .int 3, .int 1, .int 0, .int 4, .int 2]), some (.lst [.bl false, .bl false, .bl true, .bl true, .bl true, .bl false, .bl true, .bl false]), none, none, none] = .nx [some (.scr m), some (.tup [.int 5, .int 3, .int 1, .int 0, .int 4, .int 2]), some (.lst [.bl false, .bl false, .bl true, .bl true, .bl true, .bl false, .bl true, .bl false, .bl false, .bl false, .bl true, .bl true, .bl false]), none, none, none] := by kernel_rfl
  have e6 : ps Xt (semD Xt Ff 12) lS6 [some (.scr m), some (.tup [.int 5, .int 3, .int 1, .int 0, .int 4, .int 2]), some (.lst [.bl false, .bl false, .bl true, .bl true, .bl true, .bl false, .bl true, .bl false, .bl false, .bl false, .bl true, .bl true, .bl false]), none, none, none] = .nx [some (.scr m), some (.tup [.int 5, .int 3, .int 1, .int 0, .int 4, .int 2]), some (.lst [.bl false, .bl false, .bl true, .bl true, .bl true, .bl false, .bl true, .bl false, .bl false, .bl false, .bl true, .bl true, .bl false]), none, none, none] := by kernel_rfl
  refine (exs_nx e1).trans ((exs_nx e2).trans ((exs_nx e3).trans ((exs_nx e4).trans ((exs_nx e5).trans ((exs_nx e6).trans ?_)))))
  refine ret_ok (LG.allG_ok (t := 5) (b := 4) (n := 11) (f := fun x => [some (.scr m), some (.tup [.int 5, .int 3, .int 1, .int 0, .int 4, .int 2]), some (.lst [.bl false, .bl false, .bl true, .bl true, .bl true, .bl false, .bl true, .bl false, .bl false, .bl false, .bl true, .bl true, .bl false]), none, none, some x]) rfl (fun _ => rfl) (fun _ => rfl) (fun _ => rfl) rfl hm fun k kx hk => right_ok hk) ?_
  rintro _ rfl
  rfl
end

theorem facts {f : Addr} {h : Heap} (X : K.In h) (G : h.Ns mainGlobals mg) (hfa : mg ("law" : Str) = some (.ref f)) (c : He.SaysD faL fdL K) (cy : SaysY faL fdL prD tbL ckB w K) :
    ∃ fd : FuncData, (∀ (s : Shared) (v : Value), BindsTo s fd ⟨[v], []⟩ [("_law_cells", v)]) ∧ ∀ base : Heap, FnOk P w K mg base CX0 29 f fd ["_law_cells"] (fun vs H Q _ => spF (Dt P w K mg base) (sem Xt Ff 13) 1029 1 vs H Q fun _ _ _ => False) := by
  obtain ⟨fd, F⟩ := c.def_ 29 (d := e1029) rfl
  have e := hfa.symm.trans (He.glo_ok X G (c.fact 29 (f := .glo "law") rfl))
  cases e
  exact ⟨fd, fun s v => FunD.bindsA (ps := ["_law_cells"]) F (fun _ _ _ _ _ _ us hl => match us, hl with | [_], _ => rfl) s [v] rfl, fun base => fn_calm (fnok_succ (D := Dt P w K mg base) (T := Tb) F sc1029 rfl ck1029 rfl (f1 X G c cy 12))⟩
end
end Lw
open PySem PySem.W PySem.Calls PyProof.Rows
theorem PySem.Challenge.cw_endorders_k66_claims_by_hand_holds : PySem.Challenge.rw_endorders_k66_claims_by_hand.Holds := by
  w_on; o_law
  refine HandSHeadRun.head_any (r := OpenLaw.row PySem.Challenge.rw_endorders_k66_claims_by_hand) (q := view (OpenLaw.row PySem.Challenge.rw_endorders_k66_claims_by_hand).prog [39]) (H := Lw.hk) (ob := Lw.ob) (M := 4000) (loose := Lw.nms) (d := HandSHeadRun.topDef (OpenLaw.row PySem.Challenge.rw_endorders_k66_claims_by_hand).prog 39) (kwd := []) Lw.ob_eq
    (by kernel_rfl) (fun s => by kernel_rfl) Lw.run (by kernel_rfl) (by kernel_rfl) (by kernel_rfl) (by rfl) (by first | assumption | decide +kernel) (by decide +kernel) ⟨rfl, rfl, rfl, rfl, rfl, by decide +kernel⟩ ?hw ?hc
  case hw => w_witness2
  case hc =>
    refine L2.walk_ofE (l := PySem.Challenge.rw_endorders_k66_claims_by_hand) (n := 63) (k := 29) (x := "_law_cells") (CX := L2.CX0) rfl (by decide) (by kernel_rfl) ⟨rfl, by decide, by decide⟩ ?F (fun _ _ _ _ z => z)
    intro w mg fa h Y G hmg0
    obtain ⟨K, KX, cy⟩ := Y
    have c := cy.d
    have hmg : mg ("law" : PySem.Str) = some (.ref fa) := by
      have e : (HandSHeadRun.topDef (OpenLaw.row PySem.Challenge.rw_endorders_k66_claims_by_hand).prog 39).name = ("law" : PySem.Str) := by kernel_rfl
      rw [← e]
      exact hmg0
    obtain ⟨fd, hb, hF⟩ := Lw.facts (P := (PySem.Challenge.rw_endorders_k66_claims_by_hand).prog) (w := w) KX G hmg c cy
    exact ⟨K, fd, fun vs H Q _ => ∀ base : Heap, EV.spF (Lw.Dt (PySem.Challenge.rw_endorders_k66_claims_by_hand).prog w K mg base) (EV.sem Pk.Xt Lw.Ff 13) 1029 1 vs H Q fun _ _ _ => False, KX, hb, fun H a ns hl _ hS base => EV.law_sp (D := Lw.Dt (PySem.Challenge.rw_endorders_k66_claims_by_hand).prog w K mg base) (Lw.word ns.length hl) hS, fun base _ _ => (hF base).imp fun vs H Q E z => z base⟩

