import PyProof.Rows.All
import HandS.ForMost
import HandS.Zip
import HandS.More
import HandS.Style
import PyProof.ReprRoads
import PyProof.EqLayable
import HandS.ForExc
import HandS.TupAny
import HandS.TupMul
import HandS.Small
import HandS.RaiseMore
import HandS.Deep
import HandS.TupLe
import HandS.SortInts
import HandS.Comp
import HandS.IsInst
import KE.KSortedM
import PyProof.CallFns
import KE.GoesMore
import HandS.Iter
import HandS.SetBool
import HandS.Strs
import HandS.DictComp
import HandS.Conv
import HandS.ExcOwn
import HandS.Defaults
import HandS.HeadEnd
import HandS.HeadHook3
import HandS.HeadHook4
import HandS.Head2
import PySem.Challenge.RW_carryyard_k16_faults_by_hand
set_option Elab.async false
set_option linter.all false
set_option maxRecDepth 100000
/-! L0: a small language of our own (expressions E, statements S), its values and its pure interpreter. -/
namespace Cy
open PySem

abbrev D := PyData

/-- what an operation on data yields: a value that is never changed again, or a list made just now -/
inductive Re where
  | v (d : D)
  | nl (ds : List D)

/-- a value at run time: data, or a cell that may be changed -/
inductive R where
  | d (x : D)
  | ref (n : Nat)

inductive Cell where
  | lst (xs : List D)
  | fz (xs : List D)
  | dct (t : Bool) (kvs : List (D × R))

abbrev Hs := List Cell
abbrev Rho := List (Option R)

structure Ex where
  cls : Str
  fs : List D

inductive Out (α : Type) where
  | ok (a : α) (h : Hs)
  | ex (e : Ex) (h : Hs)
  | bad

abbrev M (α : Type) := Hs → Out α

def M.ret {α : Type} (a : α) : M α := fun h => .ok a h
def M.no {α : Type} : M α := fun _ => .bad
def M.bnd {α β : Type} (m : M α) (f : α → M β) : M β := fun h =>
  match m h with
  | .ok a h1 => f a h1
  | .ex e h1 => .ex e h1
  | .bad => .bad
/-- an error here is none that we carry -/
def M.nox {α : Type} (m : M α) : M α := fun h =>
  match m h with
  | .ok a h1 => .ok a h1
  | .ex _ _ => .bad
  | .bad => .bad
def M.opt {α : Type} (o : Option α) : M α := fun h =>
  match o with
  | some a => .ok a h
  | none => .bad

/-! ### operations on data -/
def big : Int := 18446744073709551616
def lim : Nat := 16777216

def mulOk (i j : Int) : Bool := (decide (-big < i) && decide (i < big)) || (decide (-big < j) && decide (j < big))

/-- a text so many times -/
def repS (x : Str) (n : Nat) : Str := ⟨(List.replicate n x.cps).foldl (· ++ ·) #[]⟩
def binD : Operator → D → D → Option Re
  | .Add, .int i, .int j => some (.v (.int (i + j)))
  | .Add, .str x, .str y => if x.length + y.length ≤ lim then some (.v (.str (x ++ y))) else none
  | .Add, .tuple xs, .tuple ys => if xs.length + ys.length ≤ lim then some (.v (.tuple (xs ++ ys))) else none
  | .Add, .list xs, .list ys => if xs.length + ys.length ≤ lim then some (.nl (xs ++ ys)) else none
  | .Sub, .int i, .int j => some (.v (.int (i - j)))
  | .Mult, .int i, .int j => if mulOk i j then some (.v (.int (i * j))) else none
  | .Mult, .str x, .int j => if 0 ≤ j ∧ j ≤ 1000 ∧ x.length ≤ 1000 then some (.v (.str (repS x j.toNat))) else none
  | .Mult, .list xs, .int j => if 0 ≤ j ∧ j ≤ 1000 ∧ xs.length ≤ 1000 then some (.nl (List.replicate j.toNat xs).flatten) else none
  | .Mult, .tuple xs, .int j => if xs.length ≠ 0 ∧ 2 ≤ j ∧ j ≤ 1000 ∧ xs.length ≤ 1000 then some (.v (.tuple (List.replicate j.toNat xs).flatten)) else none
  | .FloorDiv, .int i, .int j => if 0 < j ∧ j < 1073741824 then some (.v (.int (i / j))) else none
  | .Mod, .int i, .int j => if 0 < j then some (.v (.int (i % j))) else none
  | .Pow, .int i, .int j => if 0 ≤ j ∧ j ≤ 1000000 ∧ i.natAbs < 2 ^ 64 then some (.v (.int (i ^ j.toNat))) else none
  | _, _, _ => none

def allInts : List D → Option (List Int)
  | [] => some []
  | .int i :: r => (allInts r).map (i :: ·)
  | _ :: _ => none
def allBools : List D → Option (List Bool)
  | [] => some []
  | .bool b :: r => (allBools r).map (b :: ·)
  | _ :: _ => none
def allStrs : List D → Option (List Str)
  | [] => some []
  | .str x :: r => (allStrs r).map (x :: ·)
  | _ :: _ => none

def eqD (a b : D) : Option Bool := if SeqAt.shaped a && SeqAt.shaped b then some (PyData.eqv a b) else none

def inD (x : D) (ys : List D) : Option Bool := if SeqAt.shaped x && SeqAt.shaped (.list ys) then some (ys.any fun y => PyData.eqv y x) else none

/-- a key of a written dict: a text -/
def findK (k : Str) : List (D × D) → Option D
  | [] => none
  | (.str x, d) :: r => if x = k then some d else findK k r
  | _ :: r => findK k r

def cmpD : CmpOp → D → D → Option Bool
  | .Eq, a, b => eqD a b
  | .NotEq, a, b => (eqD a b).map (!·)
  | .Lt, .int i, .int j => some (decide (i < j))
  | .LtE, .int i, .int j => some (decide (i ≤ j))
  | .Gt, .int i, .int j => some (decide (j < i))
  | .GtE, .int i, .int j => some (decide (j ≤ i))
  | .Lt, .tuple xs, .tuple ys =>
    match allInts xs, allInts ys with
    | some ns, some ms => some (HT.lexLt ns ms)
    | _, _ => none
  | .Is, .none, .none => some true
  | .Is, _, .none => some false
  | .IsNot, .none, .none => some false
  | .IsNot, _, .none => some true
  | .Is, .bool a, .bool b => some (a == b)
  | .IsNot, .bool a, .bool b => some (!(a == b))
  | .In, .str x, .str y => some (!(Builtin.Str.occurrences y x 0 y.length 1).isEmpty)
  | .NotIn, .str x, .str y => some (!(!(Builtin.Str.occurrences y x 0 y.length 1).isEmpty))
  | .In, x, .list ys => inD x ys
  | .In, x, .tuple ys => inD x ys
  | .NotIn, x, .list ys => (inD x ys).map (!·)
  | .NotIn, x, .tuple ys => (inD x ys).map (!·)
  | _, _, _ => none

def atX {α : Type} (xs : List α) (i : Int) : Option α :=
  if 0 ≤ i then xs[i.toNat]? else if -(xs.length : Int) ≤ i then xs[(i + xs.length).toNat]? else none

def ixD : D → D → Option D
  | .list xs, .int i => atX xs i
  | .tuple xs, .int i => atX xs i
  | .str z, .int i => if z.length ≤ lim then (atX z.cps.toList i).map fun c => .str ⟨#[c]⟩ else none
  | _, _ => none

def cut {α : Type} (xs : List α) (lo hi : Option Int) : List α :=
  (xs.drop (HT.sIx xs.length 0 lo)).take (HT.sIx xs.length xs.length hi - HT.sIx xs.length 0 lo)

def slD (x : D) (lo hi : Option Int) : Option Re :=
  match x with
  | .list xs => some (.nl (cut xs lo hi))
  | .tuple xs => some (.v (.tuple (cut xs lo hi)))
  | .str z => if z.length ≤ lim then some (.v (.str (L2.cutS z lo hi))) else none
  | _ => none

/-- built-in classes that isinstance is asked of -/
inductive Ty where
  | int | bool | str | tuple | list | dict
  deriving DecidableEq

def isiD : Ty → D → Bool
  | .int, .int _ => true
  | .int, .bool _ => true
  | .bool, .bool _ => true
  | .str, .str _ => true
  | .tuple, .tuple _ => true
  | .list, .list _ => true
  | .dict, .dict _ => true
  | _, _ => false

/-- built-in functions of one kind of arguments -/
inductive Bf where
  | len | all | any | sum | tuple | list | min | max | abs | int | str | repr | sorted | divmod
  deriving DecidableEq

def lenD : D → Option Nat
  | .list xs => some xs.length
  | .tuple xs => some xs.length
  | .str z => if z.length ≤ lim then some z.length else none
  | _ => none

def insI (a : Int) : List Int → List Int
  | [] => [a]
  | b :: r => if a ≤ b then a :: b :: r else b :: insI a r
def sortI : List Int → List Int
  | [] => []
  | a :: r => insI a (sortI r)

def maxI : List Int → Option Int
  | [] => none
  | [a] => some a
  | a :: r => (maxI r).map fun b => if a < b then b else a
def minI : List Int → Option Int
  | [] => none
  | [a] => some a
  | a :: r => (minI r).map fun b => if b < a then b else a

def reprD (d : D) : Option D := if d.showable && !d.hasDict && decide (d.depth ≤ 64) && decide (d.shown.length ≤ lim) then some (.str d.shown) else none

def bifD : Bf → List D → Option Re
  | .len, [x] => (lenD x).map fun n => .v (.int (n : Nat))
  | .all, [.list xs] => (allBools xs).map fun bs => .v (.bool (bs.all id))
  | .any, [.list xs] => (allBools xs).map fun bs => .v (.bool (bs.any id))
  | .sum, [.list xs] => (allInts xs).map fun ns => .v (.int ns.sum)
  | .tuple, [.list xs] => some (.v (.tuple xs))
  | .tuple, [.tuple xs] => some (.v (.tuple xs))
  | .list, [.list xs] => some (.nl xs)
  | .list, [.tuple xs] => some (.nl xs)
  | .min, [.int i, .int j] => some (.v (.int (if j < i then j else i)))
  | .max, [.int i, .int j] => some (.v (.int (if j > i then j else i)))
  | .min, [.list xs] => (allInts xs).bind fun ns => (minI ns).map fun m => .v (.int m)
  | .max, [.list xs] => (allInts xs).bind fun ns => (maxI ns).map fun m => .v (.int m)
  | .abs, [.int i] => some (.v (.int (if i < 0 then -i else i)))
  | .int, [.int i] => some (.v (.int i))
  | .int, [.bool b] => some (.v (.int (if b then 1 else 0)))
  | .int, [.str x] => if x.length ≤ 640 then (intText? x).map fun n => .v (.int n) else none
  | .str, [.int i] => if i.natAbs.log2 < 1920 then some (.v (.str (toString i))) else none
  | .str, [.str x] => some (.v (.str x))
  | .repr, [x] => (reprD x).map .v
  | .sorted, [.list xs] => (allInts xs).bind fun ns => if ns.length < 64 then some (.nl ((sortI ns).map .int)) else none
  | .divmod, [.int i, .int j] => if 0 < j ∧ j < 1073741824 then some (.v (.tuple [.int (i / j), .int (i % j)])) else none
  | _, _ => none

/-- methods that change nothing -/
inductive Mt where
  | join | split | count
  deriving DecidableEq

def mtD : Mt → Str → List D → Option Re
  | .join, a, [.list xs] => (allStrs xs).bind fun ys => if (ys.map (·.length)).sum + ys.length * a.length ≤ lim then some (.v (.str (Txt.join a ys))) else none
  | .join, a, [.tuple xs] => (allStrs xs).bind fun ys => if (ys.map (·.length)).sum + ys.length * a.length ≤ lim then some (.v (.str (Txt.join a ys))) else none
  | .split, a, [.str b] => if b.length ≠ 0 ∧ a.length + 2 ≤ lim then some (.nl ((Txt.split a b).map .str)) else none
  | .count, a, [.str b] => some (.v (.int (Txt.count a b)))
  | _, _, _ => none

/-! ### sets of whole numbers, how many they hold; dicts in cells -/
def stepD (acc : List Int) (x : Int) : List Int := if acc.any (· == x) then acc else acc ++ [x]
def dedI (ns : List Int) : List Int := ns.foldl stepD []
def setLen : D → Option Int
  | .list xs => (allInts xs).bind fun ns => if ns.length ≤ 1000 then some ((dedI ns).length : Nat) else none
  | _ => none
mutual
def sameK : D → D → Bool
  | .int i, .int j => decide (i = j)
  | .str x, .str y => decide (x = y)
  | .tuple xs, .tuple ys => sameKs xs ys
  | _, _ => false
def sameKs : List D → List D → Bool
  | [], [] => true
  | x :: xs, y :: ys => sameK x y && sameKs xs ys
  | _, _ => false
end
def flatK : D → Bool
  | .int _ => true
  | .str _ => true
  | _ => false
/-- a key: a number or a text, or (t) a tuple of these -/
def keyB (t : Bool) (k : D) : Bool := match k with
  | .tuple xs => t && xs.all flatK
  | k => !t && flatK k
def getK (k : D) : List (D × R) → Option R
  | [] => none
  | (x, r) :: t => if sameK x k then some r else getK k t
def putK' (kvs : List (D × R)) (k : D) (r : R) : List (D × R) :=
  if kvs.any (fun p => sameK p.1 k) then kvs.map (fun p => if sameK p.1 k then (p.1, r) else p) else kvs ++ [(k, r)]
def lookF (z : Str) : List (Str × Nat) → Option Nat
  | [] => none
  | (x, f) :: t => if x = z then some f else lookF z t

/-! ### the language -/
/-- targets of assignments and loops -/
inductive Tg where
  | n (i : Nat)
  | t (l : List Tg)

inductive E where
  | lit (d : D)
  | v (i : Nat)
  | fz (i : Nat)
  | gl (g : Nat) (d : D)
  | ing (neg : Bool) (a : E) (g : Nat) (kvs : List (D × D))
  | ixg (g : Nat) (kvs : List (D × D)) (a : E)
  | tup (es : List E)
  | lst (m : Bool) (es : List E)
  | dnew (t : Bool)
  | bin (m : Bool) (op : Operator) (a b : E)
  | neg (a : E)
  | cmp (op : CmpOp) (a b : E)
  | chn (o1 o2 : CmpOp) (a b c : E)
  | chn3 (o1 o2 o3 : CmpOp) (a b c d : E)
  | and (a b : E)
  | or (a b : E)
  | not (a : E)
  | ite (c a b : E)
  | ix (a i : E)
  | sl (m : Bool) (a lo hi : E)
  | nil
  | isi (t : Ty) (a : E)
  | bif (m : Bool) (f : Bf) (es : List E)
  | mth (m : Bool) (f : Mt) (o : E) (es : List E)
  | app (o e : E)
  | pop (o i : E)
  | popl (o : E)
  | call (f : Nat) (es : List E)
  | rng (es : List E)
  | enm (e : E)
  | zip (a b : E)
  | comp (m : Bool) (own : List Nat) (elt : E) (tg : Tg) (it : E) (cond : E)
  | lrg (m : Bool) (a : E)
  | lset (e : E)
  | lsc (own : List Nat) (elt : E) (tg : Tg) (it cond : E)
  | dcm (own : List Nat) (k v : E) (tg : Tg) (it cond : E)
  | ind (neg : Bool) (a d : E)
  | ixd (d a : E)
  | fcal (g : Nat) (tab : List (Str × Nat)) (a : E) (es : List E)
  | comp2 (m : Bool) (own own1 : List Nat) (elt : E) (tg : Tg) (it cond : E) (tg1 : Tg) (it1 cond1 : E)

/-- targets of a tuple assignment, items among them -/
inductive Tx where
  | t (tg : Tg)
  | s (o i : E)

inductive S where
  | asg (tg : Tg) (e : E)
  | par (is : List Nat) (es : List E)
  | setix (o i e : E)
  | dput (t : Bool) (o i e : E)
  | asgx (l : List Tx) (e : E)
  | ex (e : E)
  | ret (e : E)
  | ife (c : E) (a b : List S)
  | for (tg : Tg) (it : E) (body : List S)
  | whl (c : E) (body : List S)
  | brk
  | cnt
  | pass
  | fgt (is : List Nat)
  | never

/-! ### the interpreter: expressions -/
def hget (h : Hs) (n : Nat) : Option Cell := h[n]?

def purs : List (D × R) → Option (List (D × D))
  | [] => some []
  | (k, .d v) :: r => (purs r).map ((k, v) :: ·)
  | _ :: _ => none

/-- the data that a value stands for now -/
def dat : R → M D
  | .d x, h => .ok x h
  | .ref n, h =>
    match hget h n with
    | some (.lst xs) => .ok (.list xs) h
    | some (.fz xs) => .ok (.list xs) h
    | _ => .bad

def dats : List R → M (List D)
  | [] => M.ret []
  | r :: rs => (dat r).bnd fun d => (dats rs).bnd fun ds => M.ret (d :: ds)

/-- data as it is handed on (no cell in it) -/
def pur : R → M D
  | .d x => M.ret x
  | .ref _ => M.no

def purAll : List R → Option (List D)
  | [] => some []
  | .d x :: r => (purAll r).map (x :: ·)
  | .ref _ :: _ => none

/-- a made thing laid: kept as data, or (m) as a cell that may be changed -/
def lay (m : Bool) : Re → M R
  | .v d => fun h => if m then .bad else .ok (.d d) h
  | .nl ds => fun h => if ds.length ≤ lim then (if m then .ok (.ref h.length) (h ++ [.lst ds]) else .ok (.d (.list ds)) h) else .bad

def boolOf : R → M Bool
  | .d (.bool b) => M.ret b
  | _ => M.no

def intOf : R → M (Option Int)
  | .d (.int i) => M.ret (some i)
  | _ => M.no

/-- a value stored at a target -/
def put : Tg → R → Rho → Option Rho
  | .n i, r, ρ => if i < ρ.length then some (ρ.set i (some r)) else none
  | .t l, .d (.tuple xs), ρ => putAll l xs ρ
  | .t _, _, _ => none
where putAll : List Tg → List D → Rho → Option Rho
  | [], [], ρ => some ρ
  | t :: l, x :: xs, ρ => (put t (.d x) ρ).bind (putAll l xs)
  | _, _, _ => none

/-- several names at once -/
def putR : List Nat → List R → Rho → Option Rho
  | [], [], ρ => some ρ
  | i :: is, r :: rs, ρ => if i < ρ.length then putR is rs (ρ.set i (some r)) else none
  | _, _, _ => none

def rangeD (lo : Int) : Nat → List D
  | 0 => []
  | n + 1 => .int lo :: rangeD (lo + 1) n

def small (i : Int) : Bool := decide (-4611686018427387904 ≤ i) && decide (i < 4611686018427387904)

def rangeS (lo c : Int) : Nat → List D
  | 0 => []
  | n + 1 => .int lo :: rangeS (lo + c) c n
def stepOk (i j c : Int) : Bool := decide (c ≠ 0) && decide (c.natAbs < 1073741824) && Builtin.Range.small i j c && decide (Builtin.Range.rangeSize i j c = (Builtin.Range.rangeSize i j c).toNat)

def rngD : List D → Option (List D)
  | [.int j] => if small j then some (rangeD 0 j.toNat) else none
  | [.int i, .int j] => if small i && small j then some (rangeD i (j - i).toNat) else none
  | [.int i, .int j, .int c] => if stepOk i j c then some (rangeS i c (Builtin.Range.rangeSize i j c).toNat) else none
  | _ => none

def seqD : D → Option (List D)
  | .list xs => some xs
  | .tuple xs => some xs
  | .str z => some (z.cps.toList.map fun c => .str ⟨#[c]⟩)
  | _ => none

def lstD : D → Option (List D)
  | .list xs => some xs
  | _ => none
def zipP : D → D → Option (List D × List D)
  | .list xs, .list ys => some (xs, ys)
  | .tuple xs, .tuple ys => some (xs, ys)
  | _, _ => none

def enmD (i : Int) : List D → List D
  | [] => []
  | x :: xs => .tuple [.int i, x] :: enmD (i + 1) xs

def zipD : List D → List D → List D
  | x :: xs, y :: ys => .tuple [x, y] :: zipD xs ys
  | _, _ => []

def wipe (ρ : Rho) : List Nat → Rho
  | [] => ρ
  | i :: r => (wipe ρ r).set i none

/-- a cell is data from now on -/
def fzC (n : Nat) (h : Hs) : Option Cell → Out R
  | some (.lst xs) => .ok (.d (.list xs)) (h.set n (.fz xs))
  | some (.fz xs) => .ok (.d (.list xs)) h
  | _ => .bad
def fzR : R → M R
  | .d x => M.ret (.d x)
  | .ref n => fun h => fzC n h (hget h n)
def strOf : R → M Str
  | .d (.str z) => M.ret z
  | _ => M.no
def lstC (h : Hs) : Option Cell → Out Unit
  | some (.lst _) => .ok () h
  | _ => .bad
def lstOf : R → M Unit
  | .ref n => fun h => lstC h (hget h n)
  | .d _ => M.no
def appC (n : Nat) (d : D) (h : Hs) : Option Cell → Out R
  | some (.lst xs) => if xs.length < lim then .ok (.d .none) (h.set n (.lst (xs ++ [d]))) else .bad
  | _ => .bad
def appR : R → D → M R
  | .d _, _ => M.no
  | .ref n, d => fun h => appC n d h (hget h n)

/-- the turns of a comprehension; the new list is cell n -/
def turns (f : Rho → M (Option D)) (tg : Tg) (ρ : Rho) (n : Nat) : List D → M Unit
  | [] => M.ret ()
  | x :: xs => (M.opt (put tg (.d x) ρ)).bnd fun ρ' => (f ρ').bnd fun o =>
      (match o with
        | some y => appR (.ref n) y
        | none => M.ret (.d .none)).bnd fun _ => turns f tg ρ n xs
/-- the turns of a comprehension of two clauses -/
def turns2 (f0 : Rho → M (Option (List D))) (f1 : Rho → M (Option D)) (tg tg1 : Tg) (own1 : List Nat) (ρ : Rho) (n : Nat) : List D → M Unit
  | [] => M.ret ()
  | x :: xs => (M.opt (put tg (.d x) ρ)).bnd fun ρ' => (f0 ρ').bnd fun o =>
      (match o with
        | some ds => turns f1 tg1 (wipe ρ' own1) n ds
        | none => M.ret ()).bnd fun _ => turns2 f0 f1 tg tg1 own1 ρ n xs
def compM2 (m : Bool) (f0 : Rho → M (Option (List D))) (f1 : Rho → M (Option D)) (tg tg1 : Tg) (own1 : List Nat) (ρ : Rho) (ds : List D) : M R := fun h =>
  ((turns2 f0 f1 tg tg1 own1 ρ h.length ds).bnd fun _ => if m then M.ret (.ref h.length) else fzR (.ref h.length)) (h ++ [.lst []])
/-- a comprehension: a new cell, the turns -/
def compM (m : Bool) (f : Rho → M (Option D)) (tg : Tg) (ρ : Rho) (ds : List D) : M R := fun h =>
  ((turns f tg ρ h.length ds).bnd fun _ => if m then M.ret (.ref h.length) else fzR (.ref h.length)) (h ++ [.lst []])

def popC (n : Nat) (i : Int) (h : Hs) : Option Cell → Out R
  | some (.lst xs) => if 0 ≤ i ∧ i < xs.length ∧ i < 4611686018427387904 then (match xs[i.toNat]? with
    | some d => .ok (.d d) (h.set n (.lst (xs.eraseIdx i.toNat)))
    | none => .bad) else .bad
  | _ => .bad
def poplC (n : Nat) (h : Hs) : Option Cell → Out R
  | some (.lst xs) => (match xs[xs.length - 1]? with
    | some d => .ok (.d d) (h.set n (.lst xs.dropLast))
    | none => .bad)
  | _ => .bad
def popR : R → D → M R
  | .ref n, .int i => fun h => popC n i h (hget h n)
  | _, _ => M.no
def poplR : R → M R
  | .ref n => fun h => poplC n h (hget h n)
  | _ => M.no

/-- the turns of len({e for x in xs}) -/
def turnsS (f : Rho → M (Option D)) (tg : Tg) (ρ : Rho) : List D → List Int → M (List Int)
  | [], acc => M.ret acc
  | x :: xs, acc => (M.opt (put tg (.d x) ρ)).bnd fun ρ' => (f ρ').bnd fun o =>
      match o with
      | some (.int i) => if acc.length < 1000 then turnsS f tg ρ xs (stepD acc i) else M.no
      | none => turnsS f tg ρ xs acc
      | _ => M.no
def putDC (t : Bool) (n : Nat) (k d : D) (h : Hs) : Option Cell → Out Unit
  | some (.dct u kvs) => if u = t ∧ keyB t k = true ∧ kvs.length < lim then .ok () (h.set n (.dct u (putK' kvs k (.d d)))) else .bad
  | _ => .bad
def putDM (t : Bool) (n : Nat) (k d : D) : M Unit := fun h => putDC t n k d h (hget h n)
/-- the turns of {k: v for x in xs}; the new dict is cell n -/
def turnsK (f : Rho → M (Option (D × D))) (tg : Tg) (ρ : Rho) (n : Nat) : List D → M Unit
  | [] => M.ret ()
  | x :: xs => (M.opt (put tg (.d x) ρ)).bnd fun ρ' => (f ρ').bnd fun o =>
      (match o with
        | some (k, v) => putDM false n k v
        | none => M.ret ()).bnd fun _ => turnsK f tg ρ n xs
def compK (f : Rho → M (Option (D × D))) (tg : Tg) (ρ : Rho) (ds : List D) : M R := fun h =>
  ((turnsK f tg ρ h.length ds).bnd fun _ => M.ret (.ref h.length)) (h ++ [.dct false []])
def dctC (h : Hs) : Option Cell → Out (Bool × List (D × R))
  | some (.dct t kvs) => .ok (t, kvs) h
  | _ => .bad
def dctOf : R → M (Bool × List (D × R))
  | .ref n => fun h => dctC h (hget h n)
  | .d _ => M.no

abbrev Cal := Nat → List R → M R

mutual
def ev (cal : Cal) : E → Rho → M R
  | .lit d, _ => M.ret (.d d)
  | .v i, ρ => M.opt ((ρ[i]?).join)
  | .fz i, ρ => (M.opt ((ρ[i]?).join)).bnd fzR
  | .gl _ d, _ => M.ret (.d d)
  | .ing neg a _ kvs, ρ => (ev cal a ρ).bnd fun x => (pur x).bnd fun d => match d with
    | .str z => M.ret (.d (.bool (if neg then !(findK z kvs).isSome else (findK z kvs).isSome)))
    | _ => M.no
  | .ixg _ kvs a, ρ => (ev cal a ρ).bnd fun x => (pur x).bnd fun d => match d with
    | .str z => (M.opt (findK z kvs)).bnd fun y => M.ret (.d y)
    | _ => M.no
  | .tup es, ρ => (evs cal es ρ).bnd fun rs => fun h =>
    match purAll rs with
    | some ds => if ds.length ≤ lim then .ok (.d (.tuple ds)) h else .bad
    | none => .bad
  | .lst m es, ρ => (evs cal es ρ).bnd fun rs => (M.opt (purAll rs)).bnd fun ds => lay m (.nl ds)
  | .dnew t, _ => fun h => .ok (.ref h.length) (h ++ [.dct t []])
  | .bin m op a b, ρ => (ev cal a ρ).bnd fun x => (ev cal b ρ).bnd fun y => (dat x).bnd fun dx => (dat y).bnd fun dy => (M.opt (binD op dx dy)).bnd (lay m)
  | .neg a, ρ => (ev cal a ρ).bnd fun x => (pur x).bnd fun d => match d with
    | .int i => M.ret (.d (.int (-i)))
    | _ => M.no
  | .cmp op a b, ρ => (ev cal a ρ).bnd fun x => (ev cal b ρ).bnd fun y => (dat x).bnd fun dx => (dat y).bnd fun dy => (M.opt (cmpD op dx dy)).bnd fun c => M.ret (.d (.bool c))
  | .chn o1 o2 a b c, ρ => (ev cal a ρ).bnd fun x => (ev cal b ρ).bnd fun y => (dat x).bnd fun dx => (dat y).bnd fun dy => (M.opt (cmpD o1 dx dy)).bnd fun k =>
    match k with
    | true => (ev cal c ρ).bnd fun z => (dat y).bnd fun dy' => (dat z).bnd fun dz => (M.opt (cmpD o2 dy' dz)).bnd fun k => M.ret (.d (.bool k))
    | false => M.ret (.d (.bool false))
  | .chn3 o1 o2 o3 a b c e, ρ => (ev cal a ρ).bnd fun x => (ev cal b ρ).bnd fun y => (pur x).bnd fun dx => (pur y).bnd fun dy => (M.opt (cmpD o1 dx dy)).bnd fun k =>
    match k with
    | true => (ev cal c ρ).bnd fun z => (pur z).bnd fun dz => (M.opt (cmpD o2 dy dz)).bnd fun k =>
      match k with
      | true => (ev cal e ρ).bnd fun w => (pur w).bnd fun dw => (M.opt (cmpD o3 dz dw)).bnd fun k => M.ret (.d (.bool k))
      | false => M.ret (.d (.bool false))
    | false => M.ret (.d (.bool false))
  | .and a b, ρ => ((ev cal a ρ).bnd boolOf).bnd fun k =>
    match k with
    | true => ev cal b ρ
    | false => M.ret (.d (.bool false))
  | .or a b, ρ => ((ev cal a ρ).bnd boolOf).bnd fun k =>
    match k with
    | true => M.ret (.d (.bool true))
    | false => ev cal b ρ
  | .not a, ρ => ((ev cal a ρ).bnd boolOf).bnd fun k => M.ret (.d (.bool (!k)))
  | .ite c a b, ρ => ((ev cal c ρ).bnd boolOf).bnd fun k =>
    match k with
    | true => ev cal a ρ
    | false => ev cal b ρ
  | .ix a i, ρ => (ev cal a ρ).bnd fun x => (ev cal i ρ).bnd fun y => (dat x).bnd fun dx => (pur y).bnd fun dy => (M.opt (ixD dx dy)).bnd fun d => M.ret (.d d)
  | .sl m a lo hi, ρ => (ev cal a ρ).bnd fun x =>
    (match lo with
      | .nil => M.ret none
      | _ => (ev cal lo ρ).bnd intOf).bnd fun l =>
    (match hi with
      | .nil => M.ret none
      | _ => (ev cal hi ρ).bnd intOf).bnd fun u => (dat x).bnd fun dx => (M.opt (slD dx l u)).bnd (lay m)
  | .nil, _ => M.ret (.d .none)
  | .isi t a, ρ => (ev cal a ρ).bnd fun x => (dat x).bnd fun d => M.ret (.d (.bool (isiD t d)))
  | .bif m f es, ρ => (evs cal es ρ).bnd fun rs => (dats rs).bnd fun ds => (M.opt (bifD f ds)).bnd (lay m)
  | .mth m f o es, ρ => (ev cal o ρ).bnd fun x => (strOf x).bnd fun z => (evs cal es ρ).bnd fun rs => (dats rs).bnd fun ds => (M.opt (mtD f z ds)).bnd (lay m)
  | .app o e, ρ => (ev cal o ρ).bnd fun x => (lstOf x).bnd fun _ => (ev cal e ρ).bnd fun y => (pur y).bnd fun d => appR x d
  | .pop o i, ρ => (ev cal o ρ).bnd fun x => (lstOf x).bnd fun _ => (ev cal i ρ).bnd fun y => (pur y).bnd fun d => popR x d
  | .popl o, ρ => (ev cal o ρ).bnd fun x => poplR x
  | .call f es, ρ => (evs cal es ρ).bnd fun rs => cal f rs
  | .rng es, ρ => (evs cal es ρ).bnd fun rs => (M.opt ((purAll rs).bind rngD)).bnd fun ds => M.ret (.d (.list ds))
  | .enm e, ρ => (ev cal e ρ).bnd fun x => (pur x).bnd fun d => (M.opt (seqD d)).bnd fun ds => M.ret (.d (.list (enmD 0 ds)))
  | .zip a b, ρ => (ev cal a ρ).bnd fun x => (ev cal b ρ).bnd fun y => (pur x).bnd fun dx => (pur y).bnd fun dy => (M.opt (zipP dx dy)).bnd fun p =>
    M.ret (.d (.list (zipD p.1 p.2)))
  | .comp m own elt tg it cond, ρ => (ev cal it ρ).bnd fun x => (pur x).bnd fun d => (M.opt (seqD d)).bnd fun ds =>
    compM m (fun ρ' => M.nox (((ev cal cond ρ').bnd boolOf).bnd fun k =>
      match k with
      | true => (ev cal elt ρ').bnd fun y => (pur y).bnd fun dy => M.ret (some dy)
      | false => M.ret none)) tg (wipe ρ own) ds
  | .lrg m a, ρ => (ev cal a ρ).bnd fun x => (pur x).bnd fun d => match d with
    | .int j => if 0 ≤ j ∧ j ≤ 1000 then lay m (.nl (rangeD 0 j.toNat)) else M.no
    | _ => M.no
  | .lset e, ρ => (ev cal e ρ).bnd fun x => (dat x).bnd fun d => (M.opt (setLen d)).bnd fun n => M.ret (.d (.int n))
  | .lsc own elt tg it cond, ρ => (ev cal it ρ).bnd fun x => (pur x).bnd fun d => (M.opt (seqD d)).bnd fun ds =>
    (turnsS (fun ρ' => M.nox (((ev cal cond ρ').bnd boolOf).bnd fun k =>
      match k with
      | true => (ev cal elt ρ').bnd fun y => (pur y).bnd fun dy => M.ret (some dy)
      | false => M.ret none)) tg (wipe ρ own) ds []).bnd fun l => M.ret (.d (.int (l.length : Nat)))
  | .dcm own k v tg it cond, ρ => (ev cal it ρ).bnd fun x => (pur x).bnd fun d => (M.opt (seqD d)).bnd fun ds =>
    compK (fun ρ' => M.nox (((ev cal cond ρ').bnd boolOf).bnd fun b =>
      match b with
      | true => (ev cal k ρ').bnd fun y => (ev cal v ρ').bnd fun z => (pur y).bnd fun dy => (pur z).bnd fun dz => M.ret (some (dy, dz))
      | false => M.ret none)) tg (wipe ρ own) ds
  | .ind neg a d, ρ => (ev cal a ρ).bnd fun x => (ev cal d ρ).bnd fun y => (pur x).bnd fun k => (dctOf y).bnd fun p =>
    if !p.1 && keyB false k then M.ret (.d (.bool (if neg then !(getK k p.2).isSome else (getK k p.2).isSome))) else M.no
  | .ixd d a, ρ => (ev cal d ρ).bnd fun y => (ev cal a ρ).bnd fun x => (pur x).bnd fun k => (dctOf y).bnd fun p =>
    if !p.1 && keyB false k then (M.opt (getK k p.2)).bnd fun r => (pur r).bnd fun d => M.ret (.d d) else M.no
  | .fcal _ tab a es, ρ => (ev cal a ρ).bnd fun x => (pur x).bnd fun d => match d with
    | .str z => (M.opt (lookF z tab)).bnd fun f => (evs cal es ρ).bnd fun rs => cal f rs
    | _ => M.no
  | .comp2 m own own1 elt tg it cond tg1 it1 cond1, ρ => (ev cal it ρ).bnd fun x => (pur x).bnd fun d => (M.opt (seqD d)).bnd fun ds =>
    compM2 m (fun ρ' => M.nox (((ev cal cond ρ').bnd boolOf).bnd fun k =>
      match k with
      | true => ((ev cal it1 ρ').bnd fun x => (pur x).bnd fun d => M.opt (seqD d)).bnd fun ds => M.ret (some ds)
      | false => M.ret none)) (fun ρ' => M.nox (((ev cal cond1 ρ').bnd boolOf).bnd fun k =>
      match k with
      | true => (ev cal elt ρ').bnd fun y => (pur y).bnd fun dy => M.ret (some dy)
      | false => M.ret none)) tg tg1 own1 (wipe ρ own) ds
def evs (cal : Cal) : List E → Rho → M (List R)
  | [], _ => M.ret []
  | e :: es, ρ => (ev cal e ρ).bnd fun r => (evs cal es ρ).bnd fun rs => M.ret (r :: rs)
end

/-! ### statements -/
inductive Fl where
  | nx (ρ : Rho) (h : Hs)
  | rt (r : R) (h : Hs)
  | bk (ρ : Rho) (h : Hs)
  | ct (ρ : Rho) (h : Hs)
  | ex (e : Ex) (ρ : Rho) (h : Hs)
  | bad

def ofOut {α : Type} (ρ : Rho) (o : Out α) (f : α → Hs → Fl) : Fl :=
  match o with
  | .ok a h => f a h
  | .ex e h => .ex e ρ h
  | .bad => .bad

def R.below (n : Nat) : R → Bool
  | .d _ => true
  | .ref m => decide (m < n)
def Cell.below (n : Nat) : Cell → Bool
  | .lst _ => true
  | .fz _ => true
  | .dct _ kvs => kvs.all fun p => p.2.below n
def below (n : Nat) (h : Hs) : Bool := h.all fun c => c.below n
def rbelow (n : Nat) (ρ : Rho) : Bool := ρ.all fun o => match o with
  | some r => r.below n
  | none => true

/-- cells that nobody names any more are forgotten -/
def trim (n : Nat) (ρ : Rho) (h : Hs) : Hs := if rbelow n ρ && below n (h.take n) then h.take n else h

/-- a loop over items -/
def loopL (tg : Tg) (b : Rho → Hs → Fl) : List D → Rho → Hs → Fl
  | [], ρ, h => .nx ρ h
  | x :: xs, ρ, h =>
    match put tg (.d x) ρ with
    | none => .bad
    | some ρ1 => match b ρ1 h with
      | .nx ρ2 h2 => loopL tg b xs ρ2 (trim h.length ρ2 h2)
      | .ct ρ2 h2 => loopL tg b xs ρ2 (trim h.length ρ2 h2)
      | .bk ρ2 h2 => .nx ρ2 h2
      | o => o

def loopW (c : Rho → M Bool) (b : Rho → Hs → Fl) : Nat → Rho → Hs → Fl
  | 0, _, _ => .bad
  | n + 1, ρ, h => ofOut ρ (c ρ h) fun k h1 =>
    match k with
    | true => match b ρ h1 with
      | .nx ρ2 h2 => loopW c b n ρ2 (trim h.length ρ2 h2)
      | .ct ρ2 h2 => loopW c b n ρ2 (trim h.length ρ2 h2)
      | .bk ρ2 h2 => .nx ρ2 h2
      | o => o
    | false => .nx ρ h1

def fuel : Nat := 1000

def setC (n : Nat) (k : Int) (d : D) (h : Hs) : Option Cell → Option Hs
  | some (.lst xs) => if 0 ≤ k ∧ k < xs.length then some (h.set n (.lst (xs.set k.toNat d))) else none
  | _ => none
def stx (cal : Cal) : List Tx → List D → Rho → Hs → Fl
  | [], [], ρ, h => .nx ρ h
  | .t tg :: l, x :: xs, ρ, h =>
    match put tg (.d x) ρ with
    | some ρ1 => stx cal l xs ρ1 h
    | none => .bad
  | .s o i :: l, x :: xs, ρ, h => ofOut ρ (((ev cal o ρ).bnd fun a => (ev cal i ρ).bnd fun k => M.ret (a, k)) h) fun t h1 =>
    match t with
    | (.ref n, .d (.int k)) => match setC n k x h1 (hget h1 n) with
      | some h2 => stx cal l xs ρ h2
      | none => .bad
    | _ => .bad
  | _, _, _, _ => .bad

mutual
def st (cal : Cal) : S → Rho → Hs → Fl
  | .asg tg e, ρ, h => ofOut ρ (ev cal e ρ h) fun r h1 =>
    match put tg r ρ with
    | some ρ1 => .nx ρ1 h1
    | none => .bad
  | .par is es, ρ, h => ofOut ρ (evs cal es ρ h) fun rs h1 =>
    match putR is rs ρ with
    | some ρ1 => .nx ρ1 h1
    | none => .bad
  | .setix o i e, ρ, h => ofOut ρ (((ev cal e ρ).bnd fun y => (ev cal o ρ).bnd fun x => (ev cal i ρ).bnd fun k => M.ret (x, k, y)) h) fun t h1 =>
    match t with
    | (.ref n, .d (.int k), .d d) => match hget h1 n with
      | some (.lst xs) => if 0 ≤ k ∧ k < xs.length then .nx ρ (h1.set n (.lst (xs.set k.toNat d))) else .bad
      | _ => .bad
    | _ => .bad
  | .dput t o i e, ρ, h => ofOut ρ (((ev cal e ρ).bnd fun y => (ev cal o ρ).bnd fun x => (ev cal i ρ).bnd fun k => (pur k).bnd fun dk => (pur y).bnd fun dy =>
      match x with
      | .ref n => putDM t n dk dy
      | .d _ => M.no) h) fun _ h1 => .nx ρ h1
  | .asgx l e, ρ, h => ofOut ρ (ev cal e ρ h) fun r h1 =>
    match r with
    | .d (.tuple xs) => if xs.length = l.length then stx cal l xs ρ h1 else .bad
    | _ => .bad
  | .ex e, ρ, h => ofOut ρ (ev cal e ρ h) fun _ h1 => .nx ρ h1
  | .ret e, ρ, h => ofOut ρ (ev cal e ρ h) fun r h1 => .rt r h1
  | .ife c a b, ρ, h => ofOut ρ (((ev cal c ρ).bnd boolOf) h) fun k h1 =>
    match k with
    | true => sts cal a ρ h1
    | false => sts cal b ρ h1
  | .for tg it body, ρ, h => ofOut ρ (((ev cal it ρ).bnd fun x => (pur x).bnd fun d => M.opt (seqD d)) h) fun ds h1 => loopL tg (fun ρ' h' => sts cal body ρ' h') ds ρ h1
  | .whl c body, ρ, h => loopW (fun ρ' => (ev cal c ρ').bnd boolOf) (fun ρ' h' => sts cal body ρ' h') fuel ρ h
  | .brk, ρ, h => .bk ρ h
  | .cnt, ρ, h => .ct ρ h
  | .pass, ρ, h => .nx ρ h
  | .fgt is, ρ, h => .nx (wipe ρ is) h
  | .never, _, _ => .bad
def sts (cal : Cal) : List S → Rho → Hs → Fl
  | [], ρ, h => .nx ρ h
  | s :: r, ρ, h =>
    match st cal s ρ h with
    | .nx ρ1 h1 => sts cal r ρ1 h1
    | o => o
end

/-! ### functions -/
structure Fn where
  np : Nat
  ns : Nat
  keep : Bool
  body : List S

/-- what leaves a function: cells made within are data from now on, and forgotten -/
def leave (keep : Bool) (n : Nat) (r : R) (h : Hs) : Out R :=
  if keep then .ok r h else
  match r with
  | .d x => if below n (h.take n) then .ok (.d x) (h.take n) else .bad
  | .ref m =>
    if m < n then (if below n (h.take n) then .ok (.ref m) (h.take n) else .bad) else
    match hget h m with
    | some (.lst xs) => if below n (h.take n) then .ok (.d (.list xs)) (h.take n) else .bad
    | some (.fz xs) => if below n (h.take n) then .ok (.d (.list xs)) (h.take n) else .bad
    | _ => .bad

def enter (fn : Fn) (cal : Cal) (args : List R) (h : Hs) : Out R :=
  if args.length = fn.np then
    match sts cal fn.body (args.map some ++ List.replicate (fn.ns - fn.np) none) h with
    | .nx _ h1 => leave fn.keep h.length (.d .none) h1
    | .rt r h1 => leave fn.keep h.length r h1
    | .ex e _ h1 => if below h.length (h1.take h.length) then .ex e (h1.take h.length) else .bad
    | _ => .bad
  else .bad

/-- a program by its functions: k calls deep at most -/
def run (fs : Nat → Option Fn) : Nat → Cal
  | 0, _, _ => M.no
  | k + 1, f, args =>
    match fs f with
    | some fn => enter fn (run fs k) args
    | none => M.no

end Cy


set_option Elab.async false
set_option linter.all false
set_option maxRecDepth 100000
set_option maxHeartbeats 2000000
/-! L1: what the mini-language's values mean in the abstract heap of the hand layer. -/
namespace Cy
open PySem PySem.Spec PyProof.Rows L2

abbrev Mu := Addr → Prop
abbrev Fg := PySem.W.Frag
abbrev Sg := L2.St

/-- a tuple of the written part -/
def TupK (K : Fg) (a : Addr) (xs : List V) : Prop :=
  ∃ (o : Obj) (its : Array Value) (n : Nat), K.lookup a = some o ∧ o.cls = .type "tuple" ∧ o.data = .seq its n ∧ its.size ≤ sizeLine ∧ Vals xs its.toList

mutual
/-- v is the data d; what it is made of stands outside of U, where things may change -/
inductive RD (K : Fg) (U : Mu) (H : Hp) : D → V → Prop
  | non : RD K U H .none .non
  | bl (b : Bool) : RD K U H (.bool b) (.bl b)
  | int (i : Int) : RD K U H (.int i) (.int i)
  | str (x : Str) : RD K U H (.str x) (.str x)
  | lst {a : Addr} {xs : List V} {ds : List D} : ¬ U a → Rd H a (.lst xs) → RDs K U H ds xs → RD K U H (.list ds) (.ref a)
  | tup {a : Addr} {xs : List V} {ds : List D} : ¬ U a → Rd H a (.tup xs) → RDs K U H ds xs → RD K U H (.tuple ds) (.ref a)
  | tupK {a : Addr} {xs : List V} {ds : List D} : TupK K a xs → RDs K U H ds xs → RD K U H (.tuple ds) (.ref a)
inductive RDs (K : Fg) (U : Mu) (H : Hp) : List D → List V → Prop
  | nil : RDs K U H [] []
  | cons {d : D} {v : V} {ds : List D} {vs : List V} : RD K U H d v → RDs K U H ds vs → RDs K U H (d :: ds) (v :: vs)
end

/-- from (U, H) to (U', H'): what can't change stays -/
structure Keep (U : Mu) (H : Hp) (U' : Mu) (H' : Hp) : Prop where
  fr : ∀ a o, ¬ U a → H a = some o → H' a = some o
  un : ∀ a, U' a → U a ∨ H a = none
theorem Keep.refl (U : Mu) (H : Hp) : Keep U H U H := ⟨fun _ _ _ e => e, fun _ u => .inl u⟩
theorem Keep.trans {U1 U2 U3 : Mu} {H1 H2 H3 : Hp} (a : Keep U1 H1 U2 H2) (b : Keep U2 H2 U3 H3) : Keep U1 H1 U3 H3 := by
  refine ⟨fun x o n e => b.fr x o (fun u => ?_) (a.fr x o n e), fun x u => ?_⟩
  · rcases a.un x u with z | z
    · exact n z
    · rw [z] at e; cases e
  · rcases b.un x u with z | z
    · exact a.un x z
    · by_cases hu : U1 x
      · exact .inl hu
      · right
        cases q : H1 x with
        | none => rfl
        | some o => rw [a.fr x o hu q] at z; cases z
theorem Keep.rd {U U' : Mu} {H H' : Hp} {a : Addr} {u : HO} (k : Keep U H U' H') (n : ¬ U a) (r : Rd H a u) : Rd H' a u ∧ ¬ U' a := by
  have hne : H a ≠ none := by
    rcases r with r | ⟨o, r⟩ <;> (rw [r]; exact fun z => nomatch z)
  refine ⟨?_, fun u' => ?_⟩
  · rcases r with r | ⟨o, r⟩
    · exact .inl (k.fr a _ n r)
    · exact .inr ⟨o, k.fr a _ n r⟩
  · rcases k.un a u' with z | z
    · exact n z
    · exact hne z

section
variable {K : Fg} {U U' : Mu} {H H' : Hp}
mutual
theorem RD.keep (k : Keep U H U' H') : ∀ {d : D} {v : V}, RD K U H d v → RD K U' H' d v
  | _, _, .non => .non
  | _, _, .bl b => .bl b
  | _, _, .int i => .int i
  | _, _, .str x => .str x
  | _, _, .lst n r q => .lst (k.rd n r).2 (k.rd n r).1 (RDs.keep k q)
  | _, _, .tup n r q => .tup (k.rd n r).2 (k.rd n r).1 (RDs.keep k q)
  | _, _, .tupK t q => .tupK t (RDs.keep k q)
theorem RDs.keep (k : Keep U H U' H') : ∀ {ds : List D} {vs : List V}, RDs K U H ds vs → RDs K U' H' ds vs
  | _, _, .nil => .nil
  | _, _, .cons a b => .cons (RD.keep k a) (RDs.keep k b)
end
theorem RDs.length : ∀ {ds : List D} {vs : List V}, RDs K U H ds vs → ds.length = vs.length
  | _, _, .nil => rfl
  | _, _, .cons _ b => by simp [RDs.length b]
theorem RDs.get : ∀ {ds : List D} {vs : List V} {i : Nat} {d : D}, RDs K U H ds vs → ds[i]? = some d → ∃ v, vs[i]? = some v ∧ RD K U H d v
  | _, _, _, _, .nil, e => by simp at e
  | _, _, 0, _, .cons r _, e => by simp at e; subst e; exact ⟨_, rfl, r⟩
  | _, _, i + 1, _, .cons _ t, e => by
    obtain ⟨v, h1, h2⟩ := RDs.get (i := i) t (by simpa using e)
    exact ⟨v, by simpa using h1, h2⟩
theorem RDs.append : ∀ {as bs : List D} {xs ys : List V}, RDs K U H as xs → RDs K U H bs ys → RDs K U H (as ++ bs) (xs ++ ys)
  | _, _, _, _, .nil, b => b
  | _, _, _, _, .cons r t, b => .cons r (RDs.append t b)
theorem RDs.take : ∀ {as : List D} {xs : List V} (n : Nat), RDs K U H as xs → RDs K U H (as.take n) (xs.take n)
  | _, _, 0, _ => .nil
  | _, _, _ + 1, .nil => .nil
  | _, _, n + 1, .cons r t => .cons r (RDs.take n t)
theorem RDs.drop : ∀ {as : List D} {xs : List V} (n : Nat), RDs K U H as xs → RDs K U H (as.drop n) (xs.drop n)
  | _, _, 0, r => r
  | _, _, _ + 1, .nil => .nil
  | _, _, n + 1, .cons _ t => RDs.drop n t
theorem RDs.set : ∀ {as : List D} {xs : List V} (n : Nat) {d : D} {v : V}, RDs K U H as xs → RD K U H d v → RDs K U H (as.set n d) (xs.set n v)
  | _, _, _, _, _, .nil, _ => .nil
  | _, _, 0, _, _, .cons _ t, r => .cons r t
  | _, _, n + 1, _, _, .cons q t, r => .cons q (RDs.set n t r)
theorem RDs.ints : ∀ {ds : List D} {ns : List Int} {vs : List V}, RDs K U H ds vs → allInts ds = some ns → vs = ns.map V.int
  | _, _, _, .nil, e => by simp [allInts] at e; subst e; rfl
  | .int i :: r, _, _, .cons (.int _) t, e => by
    unfold allInts at e
    cases q : allInts r with
    | none => rw [q] at e; cases e
    | some l =>
      rw [q] at e
      cases e
      rw [RDs.ints t q]; rfl
  | .none :: _, _, _, _, e => by simp [allInts] at e
  | .bool _ :: _, _, _, _, e => by simp [allInts] at e
  | .str _ :: _, _, _, _, e => by simp [allInts] at e
  | .list _ :: _, _, _, _, e => by simp [allInts] at e
  | .tuple _ :: _, _, _, _, e => by simp [allInts] at e
  | .dict _ :: _, _, _, _, e => by simp [allInts] at e
theorem RDs.bools : ∀ {ds : List D} {ns : List Bool} {vs : List V}, RDs K U H ds vs → allBools ds = some ns → vs = ns.map V.bl
  | _, _, _, .nil, e => by simp [allBools] at e; subst e; rfl
  | .bool i :: r, _, _, .cons (.bl _) t, e => by
    unfold allBools at e
    cases q : allBools r with
    | none => rw [q] at e; cases e
    | some l =>
      rw [q] at e
      cases e
      rw [RDs.bools t q]; rfl
  | .none :: _, _, _, _, e => by simp [allBools] at e
  | .int _ :: _, _, _, _, e => by simp [allBools] at e
  | .str _ :: _, _, _, _, e => by simp [allBools] at e
  | .list _ :: _, _, _, _, e => by simp [allBools] at e
  | .tuple _ :: _, _, _, _, e => by simp [allBools] at e
  | .dict _ :: _, _, _, _, e => by simp [allBools] at e
theorem RDs.strs : ∀ {ds : List D} {ns : List Str} {vs : List V}, RDs K U H ds vs → allStrs ds = some ns → vs = ns.map V.str
  | _, _, _, .nil, e => by simp [allStrs] at e; subst e; rfl
  | .str i :: r, _, _, .cons (.str _) t, e => by
    unfold allStrs at e
    cases q : allStrs r with
    | none => rw [q] at e; cases e
    | some l =>
      rw [q] at e
      cases e
      rw [RDs.strs t q]; rfl
  | .none :: _, _, _, _, e => by simp [allStrs] at e
  | .int _ :: _, _, _, _, e => by simp [allStrs] at e
  | .bool _ :: _, _, _, _, e => by simp [allStrs] at e
  | .list _ :: _, _, _, _, e => by simp [allStrs] at e
  | .tuple _ :: _, _, _, _, e => by simp [allStrs] at e
  | .dict _ :: _, _, _, _, e => by simp [allStrs] at e
theorem RDs.ofInts : ∀ ns : List Int, RDs K U H (ns.map PyData.int) (ns.map V.int)
  | [] => .nil
  | i :: r => .cons (.int i) (RDs.ofInts r)
theorem RDs.ofStrs : ∀ ns : List Str, RDs K U H (ns.map PyData.str) (ns.map V.str)
  | [] => .nil
  | i :: r => .cons (.str i) (RDs.ofStrs r)
end

/-- the data that v stands for now: the outermost list may be one that changes -/
inductive RT (K : Fg) (U : Mu) (H : Hp) : D → V → Prop
  | rd {d : D} {v : V} : RD K U H d v → RT K U H d v
  | lst {a : Addr} {xs : List V} {ds : List D} : Rd H a (.lst xs) → RDs K U H ds xs → RT K U H (.list ds) (.ref a)

section
variable {K : Fg} {U U' : Mu} {H H' : Hp}
theorem RT.sql {ds : List D} {v : V} (r : RT K U H (.list ds) v) : ∃ a xs, v = .ref a ∧ Rd H a (.lst xs) ∧ RDs K U H ds xs := by
  cases r with
  | rd r => cases r with
    | lst n r q => exact ⟨_, _, rfl, r, q⟩
  | lst r q => exact ⟨_, _, rfl, r, q⟩
theorem RT.sqt {ds : List D} {v : V} (r : RT K U H (.tuple ds) v) : ∃ a xs, v = .ref a ∧ SqT K H a xs ∧ RDs K U H ds xs := by
  cases r with
  | rd r => cases r with
    | tup n r q => exact ⟨_, _, rfl, .inl r, q⟩
    | tupK t q => exact ⟨_, _, rfl, .inr t, q⟩
theorem RT.int {i : Int} {v : V} (r : RT K U H (.int i) v) : v = .int i := by
  cases r with
  | rd r => cases r; rfl
theorem RT.str {i : Str} {v : V} (r : RT K U H (.str i) v) : v = .str i := by
  cases r with
  | rd r => cases r; rfl
theorem RT.bl {i : Bool} {v : V} (r : RT K U H (.bool i) v) : v = .bl i := by
  cases r with
  | rd r => cases r; rfl
theorem RT.non {v : V} (r : RT K U H .none v) : v = .non := by
  cases r with
  | rd r => cases r; rfl
end

/-! ### cells -/
def Cell.mut : Cell → Bool
  | .fz _ => false
  | _ => true
/-- where the cells that may change stand -/
def UU (al : List Addr) (h : Hs) : Mu := fun a => ∃ (n : Nat) (c : Cell), al[n]? = some a ∧ h[n]? = some c ∧ c.mut = true

def RR (K : Fg) (al : List Addr) (U : Mu) (H : Hp) : R → V → Prop
  | .d x, v => RD K U H x v
  | .ref n, v => ∃ a, al[n]? = some a ∧ v = .ref a

def keysOf : D → Option (List Key)
  | .tuple xs => go xs
  | _ => none
where go : List D → Option (List Key)
  | [] => some []
  | .int i :: r => (go r).map (.inl i :: ·)
  | .str x :: r => (go r).map (.inr x :: ·)
  | _ :: _ => none
def keyOf : D → Option Key
  | .int i => some (.inl i)
  | .str x => some (.inr x)
  | _ => none

def RC (K : Fg) (al : List Addr) (U : Mu) (H : Hp) : Cell → Addr → Prop
  | .lst ds, a => ∃ xs, H a = some (.lst xs) ∧ RDs K U H ds xs
  | .fz ds, a => ∃ xs, H a = some (.lst xs) ∧ RDs K U H ds xs
  | .dct true kvs, a => ∃ kvs', H a = some (.dT kvs') ∧ Paired (fun (p : D × R) (q : List Key × V) => keysOf p.1 = some q.1 ∧ RR K al U H p.2 q.2) kvs kvs'
  | .dct false kvs, a => ∃ kvs', H a = some (.dK kvs') ∧ Paired (fun (p : D × R) (q : Key × V) => keyOf p.1 = some q.1 ∧ RR K al U H p.2 q.2) kvs kvs'

structure RH (K : Fg) (al : List Addr) (h : Hs) (H : Hp) : Prop where
  len : al.length = h.length
  nd : al.Nodup
  at_ : ∀ (n : Nat) (c : Cell) (a : Addr), h[n]? = some c → al[n]? = some a → RC K al (UU al h) H c a

def RS (K : Fg) (al : List Addr) (U : Mu) (H : Hp) (ρ : Rho) (σ : Sg) : Prop :=
  ρ.length = σ.length ∧ ∀ (i : Nat) (r : R), ρ[i]? = some (some r) → ∃ v, σ[i]? = some (some v) ∧ RR K al U H r v

/-- a step of the cells and of the heap -/
structure Stp (al : List Addr) (h : Hs) (H : Hp) (al' : List Addr) (h' : Hs) (H' : Hp) : Prop where
  k : Keep (UU al h) H (UU al' h') H'
  pre : ∀ (n : Nat) (a : Addr), al[n]? = some a → al'[n]? = some a
theorem Stp.refl (al : List Addr) (h : Hs) (H : Hp) : Stp al h H al h H := ⟨Keep.refl _ _, fun _ _ e => e⟩
theorem Stp.trans {al1 al2 al3 : List Addr} {h1 h2 h3 : Hs} {H1 H2 H3 : Hp} (a : Stp al1 h1 H1 al2 h2 H2) (b : Stp al2 h2 H2 al3 h3 H3) : Stp al1 h1 H1 al3 h3 H3 :=
  ⟨a.k.trans b.k, fun n x e => b.pre n x (a.pre n x e)⟩

section
variable {K : Fg} {al al' : List Addr} {h h' : Hs} {H H' : Hp}
theorem RR.stp (s : Stp al h H al' h' H') {r : R} {v : V} (x : RR K al (UU al h) H r v) : RR K al' (UU al' h') H' r v := by
  cases r with
  | d y => exact RD.keep s.k x
  | ref n =>
    obtain ⟨a, e, ev⟩ := x
    exact ⟨a, s.pre n a e, ev⟩
theorem RS.stp (s : Stp al h H al' h' H') {ρ : Rho} {σ : Sg} (x : RS K al (UU al h) H ρ σ) : RS K al' (UU al' h') H' ρ σ :=
  ⟨x.1, fun i r e => let ⟨v, e1, e2⟩ := x.2 i r e; ⟨v, e1, e2.stp s⟩⟩
theorem RH.some (x : RH K al h H) {n : Nat} {c : Cell} (e : h[n]? = some c) : ∃ a, al[n]? = some a ∧ RC K al (UU al h) H c a := by
  have hl : n < h.length := by
    rcases Nat.lt_or_ge n h.length with z | z
    · exact z
    · rw [List.getElem?_eq_none z] at e; cases e
  have hl' : n < al.length := by rw [x.len]; exact hl
  exact ⟨al[n], List.getElem?_eq_getElem hl', x.at_ n c _ e (List.getElem?_eq_getElem hl')⟩
theorem RC.there {U : Mu} {c : Cell} {a : Addr} (x : RC K al U H c a) : ∃ o, H a = Option.some o := by
  cases c with
  | lst ds => obtain ⟨_, e, _⟩ := x; exact ⟨_, e⟩
  | fz ds => obtain ⟨_, e, _⟩ := x; exact ⟨_, e⟩
  | dct t kvs => cases t <;> (obtain ⟨_, e, _⟩ := x; exact ⟨_, e⟩)
theorem RH.u_there (x : RH K al h H) {a : Addr} (u : UU al h a) : ∃ o, H a = Option.some o := by
  obtain ⟨n, c, e1, e2, _⟩ := u
  exact (x.at_ n c a e2 e1).there
theorem RH.al_there (x : RH K al h H) {n : Nat} {a : Addr} (e : al[n]? = Option.some a) : ∃ o, H a = Option.some o := by
  have hl : n < al.length := by
    rcases Nat.lt_or_ge n al.length with z | z
    · exact z
    · rw [List.getElem?_eq_none z] at e; cases e
  have hl' : n < h.length := by rw [← x.len]; exact hl
  exact (x.at_ n _ a (List.getElem?_eq_getElem hl') e).there
theorem RC.stp (s : Stp al h H al' h' H') {c : Cell} {a : Addr} (hH : H' a = H a) (x : RC K al (UU al h) H c a) : RC K al' (UU al' h') H' c a := by
  cases c with
  | lst ds => obtain ⟨xs, e, q⟩ := x; exact ⟨xs, hH.trans e, RDs.keep s.k q⟩
  | fz ds => obtain ⟨xs, e, q⟩ := x; exact ⟨xs, hH.trans e, RDs.keep s.k q⟩
  | dct t kvs =>
    cases t with
    | true =>
      obtain ⟨xs, e, q⟩ := x
      exact ⟨xs, hH.trans e, Paired.mapP q fun p q z => ⟨z.1, RR.stp s z.2⟩⟩
    | false =>
      obtain ⟨xs, e, q⟩ := x
      exact ⟨xs, hH.trans e, Paired.mapP q fun p q z => ⟨z.1, RR.stp s z.2⟩⟩
/-- the heap has grown -/
theorem Stp.grow (x : RH K al h H) (g : ∀ a o, H a = Option.some o → H' a = Option.some o) : Stp al h H al h H' :=
  ⟨⟨fun a o _ e => g a o e, fun a u => .inl u⟩, fun _ _ e => e⟩
theorem RH.grow (x : RH K al h H) (g : ∀ a o, H a = Option.some o → H' a = Option.some o) : RH K al h H' := by
  refine ⟨x.len, x.nd, fun n c a e1 e2 => ?_⟩
  have r := x.at_ n c a e1 e2
  obtain ⟨o, eo⟩ := r.there
  exact r.stp (Stp.grow x g) (by rw [g a o eo, eo])
theorem upd_grow {H : Hp} {p : Addr} {o : HO} (n : H p = Option.none) : ∀ a u, H a = Option.some u → upd H p o a = Option.some u := fun a u e => by
  rw [upd_ne (ne_of_none e n)]; exact e
end

/-- a value that a made thing is: data, or a new list -/
def Pst (K : Fg) (U : Mu) (H : Hp) (Q : VK) : Re → Prop
  | .v d => ∀ v H', (∀ a o, H a = some o → H' a = some o) → RD K U H' d v → Q v H'
  | .nl ds => ∀ p xs, H p = none → RDs K U H ds xs → xs.length ≤ sizeLine → Q (.ref p) (upd H p (.lst xs))

end Cy


set_option Elab.async false
set_option linter.all false
set_option maxRecDepth 100000
set_option maxHeartbeats 2000000
/-! L2a: the operations on data, over the hand layer's rules. -/
namespace Cy
open PySem PySem.Spec PyProof.Rows L2

theorem lim_eq : lim = sizeLine := by rw [sizeLine_eq]; rfl

def NoU (U : Mu) (H : Hp) : Prop := ∀ a, U a → H a ≠ none

section
variable {X : Cx}
theorem lrd {pins : List (Addr × Obj)} {σ : Sg} {H : Hp} {s : Shared} {p : Addr} {xs : List V} (I : Inv X pins σ H s) (h : Rd H p (.lst xs)) :
    ∃ (its : List Value) (n : Nat), Vals xs its ∧ s.heap.get? p = some { cls := .type "list", data := .seq its.toArray n } ∧ xs.length ≤ sizeLine := by
  obtain ⟨z, its, n, r, e⟩ := h.ok I.hok
  exact ⟨its, n, r, e, z⟩

/-- xs + ys: a new list -/
def rCatR : R2 := fun x y H Q => ∃ l b xs zs, x = .ref l ∧ y = .ref b ∧ Rd H l (.lst xs) ∧ Rd H b (.lst zs) ∧ xs.length + zs.length ≤ sizeLine ∧ ∀ p, H p = none → Q (.ref p) (upd H p (.lst (xs ++ zs)))
theorem op_catR : OpR X (binaryOp .Add) rCatR := by
  intro pins s σ H x y v u Q I rx ry ⟨l, b, xs, zs, ex, ey, hl, hb, hz, q⟩
  subst ex ey
  cases rx
  cases ry
  obtain ⟨i1, n1, r1, e1, z1⟩ := lrd I hl
  obtain ⟨i2, n2, r2, e2, z2⟩ := lrd I hb
  have l1 := r1.length
  have l2 := r2.length
  have big : i1.toArray.size + i2.toArray.size ≤ sizeLine := by rw [List.size_toArray, List.size_toArray]; omega
  have tog : i1.toArray ++ i2.toArray = (i1 ++ i2).toArray := by simp
  refine PySem.P.add_list e1 e2 ?_ big
  rw [tog]
  have z3 : (xs ++ zs).length ≤ sizeLine := by simpa using hz
  exact ⟨.ref _, _, I.lnew (t' := s.toks) (r1.append r2) z3, rfl, q _ I.fresh⟩

/-- data by an operator: a op b -/
def rB (K : Fg) (op : Operator) : R2 := fun x y H Q => ∃ (U : Mu) (dx dy : D) (re : Re), NoU U H ∧ RT K U H dx x ∧ RT K U H dy y ∧ binD op dx dy = some re ∧ Pst K U H Q re

theorem rd_new_tup {K : Fg} {U : Mu} {H : Hp} {p : Addr} {xs : List V} {ds : List D} (nu : NoU U H) (n : H p = none) (r : RDs K U H ds xs) : RD K U (upd H p (.tup xs)) (.tuple ds) (.ref p) := by
  have k : Keep U H U (upd H p (.tup xs)) := ⟨fun a o _ e => upd_grow n a o e, fun a u => .inl u⟩
  exact .tup (fun u => nu p u n) (.inl upd_same) (RDs.keep k r)
theorem rd_new_lst {K : Fg} {U : Mu} {H : Hp} {p : Addr} {xs : List V} {ds : List D} (nu : NoU U H) (n : H p = none) (r : RDs K U H ds xs) : RD K U (upd H p (.lst xs)) (.list ds) (.ref p) := by
  have k : Keep U H U (upd H p (.lst xs)) := ⟨fun a o _ e => upd_grow n a o e, fun a u => .inl u⟩
  exact .lst (fun u => nu p u n) (.inl upd_same) (RDs.keep k r)

theorem mulOk_ok {i j : Int} (h : mulOk i j = true) : CMul i j := by
  unfold mulOk at h
  simp only [Bool.or_eq_true, Bool.and_eq_true, decide_eq_true_eq] at h
  have e : big = 2 ^ 64 := by decide
  rw [e] at h
  exact h

theorem RDs.nil_iff {K : Fg} {U : Mu} {H : Hp} {ds : List D} {xs : List V} (r : RDs K U H ds xs) : ds = [] ↔ xs = [] := by
  have := r.length
  constructor
  · intro e; subst e; exact List.eq_nil_of_length_eq_zero (by simpa using this.symm)
  · intro e; subst e; exact List.eq_nil_of_length_eq_zero (by simpa using this)

/-- a text so many times -/
theorem repS_zero (x : Str) : repS x 0 = PySem.Str.empty := rfl
theorem repS_one (x : Str) : repS x 1 = x := by
  unfold repS
  simp
theorem repS_nil {x : Str} (h : x.length = 0) (n : Nat) : repS x n = x := by
  have e : x.cps = #[] := Array.size_eq_zero_iff.mp h
  have go : ∀ n : Nat, (List.replicate n x.cps).foldl (· ++ ·) #[] = #[] := fun n => by
    rw [e]
    induction n with
    | zero => rfl
    | succ n ih => simpa [List.replicate_succ] using ih
  unfold repS
  rw [go n, ← e]
theorem op_repStr {x y : V} {v u : Value} {Q : VK} {pins : List (Addr × Obj)} {s : Shared} {σ : Sg} {H : Hp} {z : Str} {j : Int} (I : Inv X pins σ H s) (rx : RelV x v) (ry : RelV y u) (ex : x = .str z) (ey : y = .int j)
    (h0 : 0 ≤ j) (h1 : j ≤ 1000) (hz : z.length ≤ 1000) (q : Q (.str (repS z j.toNat)) H) : wpAny (model X.prog X.w) X.A (binaryOp .Mult v u) (fun r s' => ∃ y H', Inv X pins σ H' s' ∧ RelV y r ∧ Q y H') X.xe s := by
  subst ex ey
  obtain ⟨t, rfl⟩ := rx
  obtain ⟨k, rfl⟩ := ry
  have hle : z.length * j.toNat ≤ 1000 * 1000 := Nat.mul_le_mul hz (by omega)
  refine PySem.P.mul_str (by simp; omega) (fun h2 _ => ?_) (fun _ _ => ?_) ?_
  · have : (1000 : Int) ≤ (2 ^ 63 - 1) / j := by
      rw [Int.le_ediv_iff_mul_le (by omega)]
      have : (1000 : Int) * j ≤ 1000 * 1000 := Int.mul_le_mul_of_nonneg_left h1 (by decide)
      omega
    omega
  · unfold Builtin.Str.tooLong
    rw [sizeLine_eq]
    simp
    omega
  · split
    · rename_i hj
      have e0 : j.toNat = 0 := by omega
      rw [e0, repS_zero] at q
      exact ⟨by decide, .str _, H, I.tok _, ⟨_, rfl⟩, q⟩
    · split
      · rename_i hj
        rw [Bool.or_eq_true, beq_iff_eq, beq_iff_eq] at hj
        have e1 : repS z j.toNat = z := by
          rcases hj with hj | hj
          · rw [hj]; exact repS_one z
          · exact repS_nil hj _
        rw [e1] at q
        exact ⟨.str _, H, I, ⟨_, rfl⟩, q⟩
      · refine ⟨?_, .str _, H, I.tok _, ⟨_, rfl⟩, q⟩
        have : (repS z j.toNat).length ≤ 1000 * 1000 := by
          have go : ∀ (n : Nat) (a : Array Nat), ((List.replicate n z.cps).foldl (· ++ ·) a).size = a.size + n * z.length := fun n => by
            induction n with
            | zero => intro a; simp
            | succ n ih =>
              intro a
              rw [List.replicate_succ, List.foldl_cons, ih, Array.size_append, Nat.succ_mul]
              have : z.length = z.cps.size := rfl
              omega
          have := go j.toNat #[]
          have e : (repS z j.toNat).length = ((List.replicate j.toNat z.cps).foldl (· ++ ·) #[]).size := rfl
          rw [e, this, Nat.mul_comm]
          simpa using hle
        show (repS z j.toNat).length ≤ sizeLine
        rw [sizeLine_eq]
        omega
/-- a list so many times: a new list -/
theorem op_repL {p : Addr} {xs : List V} {y : V} {u : Value} {Q : VK} {pins : List (Addr × Obj)} {s : Shared} {σ : Sg} {H : Hp} {j : Int} (I : Inv X pins σ H s) (ry : RelV y u) (ey : y = .int j) (hr : Rd H p (.lst xs))
    (h0 : 0 ≤ j) (h1 : j ≤ 1000) (hz : xs.length ≤ 1000) (q : ∀ a, H a = none → Q (.ref a) (upd H a (.lst (List.replicate j.toNat xs).flatten))) : wpAny (model X.prog X.w) X.A (binaryOp .Mult (.ref p) u) (fun r s' => ∃ y H', Inv X pins σ H' s' ∧ RelV y r ∧ Q y H') X.xe s := by
  subst ey
  obtain ⟨t, rfl⟩ := ry
  obtain ⟨its, n, rv, ep, _⟩ := lrd I hr
  have hl := rv.length
  have hle : its.length * j.toNat ≤ 1000 * 1000 := Nat.mul_le_mul (by omega) (by omega)
  have hn : List.foldl (fun a b => a ++ b) #[] (List.replicate (if its.toArray.isEmpty = true then 0 else j.toNat) its.toArray) = (List.replicate j.toNat its).flatten.toArray := by
    cases its with
    | nil => simp
    | cons a r =>
      rw [if_neg (by simp)]
      have := foldl_rep (a :: r) j.toNat []
      simpa using this
  have c1 : ¬ (!Builtin.List.listFitsIndex j) = true := by
    simp [Builtin.List.listFitsIndex]
    omega
  have c2 : ¬ its.toArray.size * j.toNat > (2 ^ 63 - 1) / 8 := by
    rw [List.size_toArray]
    omega
  have c3 : ¬ Builtin.List.listTooLong (its.toArray.size * j.toNat) = true := by
    rw [List.size_toArray]
    simp [Builtin.List.listTooLong, sizeLine]
    omega
  have fin : ∃ y H', Inv X pins σ H' { s with heap := s.heap.push { cls := .type "list", data := .seq (List.replicate j.toNat its).flatten.toArray }, toks := s.toks } ∧ RelV y (.ref s.heap.objs.size) ∧ Q y H' :=
    ⟨.ref _, _, I.lnew (t' := s.toks) (rv.rep j.toNat) (by rw [PyProof.Rows.lm_len_rep_flat, sizeLine_eq, hl, Nat.mul_comm]; omega), rfl, q _ I.fresh⟩
  rw [← hn] at fin
  exact wpAny_binaryOp_repeat_ref (T := "list") (U := "int") (by decide) ⟨_, ep, rfl⟩ (fun s' => typeIs_int s' j t) noFill_list_mul F.fills_int_mul F.slot_int_rmul repeat_list F.slot_int_index.lookup
    (call_meets F.slot_int_rmul (typeIs_int s j t) F.entry_int_rmul (F.args_int_rmul_2 _ _) (int___rmul___int_list j t p its.toArray n) ⟨ep, rfl, ⟨_, ep, rfl⟩,
      call_meets F.slot_list_mul ⟨_, ep, rfl⟩ F.entry_list_mul (F.args_list_mul_2 _ _) (AutoListH.list___mul___list_int_3 p its.toArray n j t c1 c2 c3) ⟨ep, fin⟩⟩)
theorem RDs.rep {K : Fg} {U : Mu} {H : Hp} {ds : List D} {xs : List V} (r : RDs K U H ds xs) : ∀ n : Nat, RDs K U H (List.replicate n ds).flatten (List.replicate n xs).flatten
  | 0 => .nil
  | n + 1 => by
    rw [List.replicate_succ, List.replicate_succ, List.flatten_cons, List.flatten_cons]
    exact RDs.append r (RDs.rep r n)
theorem op_bin (op : Operator) : OpR X (binaryOp op) (rB X.K op) := by
  intro pins s σ H x y v u Q I rx ry ⟨U, dx, dy, re, nu, hx, hy, e, q⟩
  have same : ∀ d w, re = .v d → RD X.K U H d w → Q w H := fun d w er r => by
    subst er
    exact q w H (fun _ _ z => z) r
  unfold binD at e
  split at e
  · -- int + int
    cases e
    cases hx.int
    cases hy.int
    exact op_add pins s σ H _ _ v u Q I rx ry ⟨_, _, rfl, rfl, same _ _ rfl (.int _)⟩
  · -- str + str
    split at e
    · cases e
      rename_i hl
      cases hx.str
      cases hy.str
      rw [lim_eq] at hl
      exact op_add_str pins s σ H _ _ v u Q I rx ry ⟨_, _, rfl, rfl, hl, same _ _ rfl (.str _)⟩
    · cases e
  · -- tuple + tuple
    split at e
    · cases e
      rename_i xs ys hl
      rw [lim_eq] at hl
      obtain ⟨a, vx, rfl, qa, ra⟩ := hx.sqt
      obtain ⟨b, vy, rfl, qb, rb⟩ := hy.sqt
      have l1 := ra.length
      have l2 := rb.length
      refine op_catA pins s σ H _ _ v u Q I rx ry ⟨a, b, vx, vy, rfl, rfl, qa, qb, by omega, fun e1 => ?_, fun e1 e2 => ?_, fun e1 e2 p np => ?_⟩
      · have z : xs = [] := ra.nil_iff.mpr e1
        subst z
        refine same _ _ rfl ?_
        cases hy with
        | rd r => exact r
      · have z : ys = [] := rb.nil_iff.mpr e2
        subst z
        refine same _ _ rfl ?_
        rw [List.append_nil]
        cases hx with
        | rd r => exact r
      · exact q (.ref p) _ (fun c o z => upd_grow np c o z) (rd_new_tup nu np (ra.append rb))
    · cases e
  · -- list + list
    split at e
    · cases e
      rename_i xs ys hl
      rw [lim_eq] at hl
      obtain ⟨a, vx, rfl, qa, ra⟩ := hx.sql
      obtain ⟨b, vy, rfl, qb, rb⟩ := hy.sql
      have l1 := ra.length
      have l2 := rb.length
      have z : vx.length + vy.length ≤ sizeLine := by omega
      exact op_catR pins s σ H _ _ v u Q I rx ry ⟨a, b, vx, vy, rfl, rfl, qa, qb, z, fun p np => q p _ np (ra.append rb) (by simpa using z)⟩
    · cases e
  · cases e
    cases hx.int
    cases hy.int
    exact op_sub pins s σ H _ _ v u Q I rx ry ⟨_, _, rfl, rfl, same _ _ rfl (.int _)⟩
  · split at e
    · cases e
      rename_i hm
      cases hx.int
      cases hy.int
      exact op_mul pins s σ H _ _ v u Q I rx ry ⟨_, _, rfl, rfl, mulOk_ok hm, same _ _ rfl (.int _)⟩
    · cases e
  · split at e
    · rename_i hm
      cases e
      cases hx.str
      cases hy.int
      exact op_repStr I rx ry rfl rfl hm.1 hm.2.1 hm.2.2 (same _ _ rfl (.str _))
    · cases e
  · split at e
    · rename_i xs' j hm
      cases e
      cases hy.int
      obtain ⟨a, vx, rfl, qa, ra⟩ := hx.sql
      cases rx
      have hl := ra.length
      have hj : j.toNat ≤ 1000 := by omega
      have hle : j.toNat * vx.length ≤ 1000 * 1000 := Nat.mul_le_mul hj (by omega)
      exact op_repL I ry rfl qa hm.1 hm.2.1 (by omega) fun p np => q p _ np (ra.rep _) (by
        rw [PyProof.Rows.lm_len_rep_flat, sizeLine_eq]
        omega)
    · cases e
  · split at e
    · rename_i hm
      cases e
      cases hy.int
      obtain ⟨a, vx, rfl, qa, ra⟩ := hx.sqt
      have hl := ra.length
      refine op_repT pins s σ H _ _ v u Q I rx ry ⟨a, _, vx, rfl, rfl, qa, ?_, hm.2.1, hm.2.2.1, by omega, fun p np => q (.ref p) _ (fun c o z => upd_grow np c o z) (rd_new_tup nu np (ra.rep _))⟩
      intro z
      rw [z] at hl
      exact hm.1 hl
    · cases e
  · split at e
    · cases e
      rename_i hm
      cases hx.int
      cases hy.int
      exact op_fdiv pins s σ H _ _ v u Q I rx ry ⟨_, _, rfl, rfl, hm, same _ _ rfl (.int _)⟩
    · cases e
  · split at e
    · cases e
      rename_i hm
      cases hx.int
      cases hy.int
      exact op_mod pins s σ H _ _ v u Q I rx ry ⟨_, _, rfl, rfl, hm, same _ _ rfl (.int _)⟩
    · cases e
  · split at e
    · cases e
      rename_i hm
      cases hx.int
      cases hy.int
      exact op_pow pins s σ H _ _ v u Q I rx ry ⟨_, _, rfl, rfl, hm, same _ _ rfl (.int _)⟩
    · cases e
  · cases e
end
end Cy


set_option Elab.async false
set_option linter.all false
set_option maxRecDepth 100000
set_option maxHeartbeats 2000000
/-! L2b: comparisons, items, slices. -/
namespace Cy
open PySem PySem.Spec PyProof.Rows L2

section
variable {X : Cx} {pins : List (Addr × Obj)} {σ : Sg} {H : Hp} {s : Shared} {U : Mu}
mutual
theorem RD.reads (I : Inv X pins σ H s) : ∀ {d : D} {v : V} {u : Value}, RD X.K U H d v → RelV v u → ∃ as, Reads s.heap u d as
  | _, _, _, .non, r => by cases r; exact ⟨_, .none⟩
  | _, _, _, .bl b, r => by cases r; exact ⟨_, .bool b⟩
  | _, _, _, .int i, r => by obtain ⟨t, rfl⟩ := r; exact ⟨_, .int i t⟩
  | _, _, _, .str x, r => by obtain ⟨t, rfl⟩ := r; exact ⟨_, .str x t⟩
  | _, _, _, .lst _ hr q, r => by
    cases r
    obtain ⟨its, n, rv, e, _⟩ := lrd I hr
    obtain ⟨as, k⟩ := RDs.reads I q rv
    exact ⟨_, .list e rfl rfl k⟩
  | _, _, _, .tup _ hr q, r => by
    cases r
    obtain ⟨its, rv, ⟨o, ho, hc, n, hd⟩, _⟩ := I.tuple (.inl hr)
    obtain ⟨as, k⟩ := RDs.reads I q rv
    exact ⟨_, .tuple ho hc hd k⟩
  | _, _, _, .tupK hr q, r => by
    cases r
    obtain ⟨its, rv, ⟨o, ho, hc, n, hd⟩, _⟩ := I.tuple (.inr hr)
    obtain ⟨as, k⟩ := RDs.reads I q rv
    exact ⟨_, .tuple ho hc hd k⟩
theorem RDs.reads (I : Inv X pins σ H s) : ∀ {ds : List D} {vs : List V} {us : List Value}, RDs X.K U H ds vs → Vals vs us → ∃ as, ReadsAll s.heap us ds as
  | _, _, _, .nil, r => by cases r; exact ⟨_, .nil⟩
  | _, _, _, .cons a b, r => by
    cases r with
    | cons r1 r2 =>
      obtain ⟨as, q1⟩ := RD.reads I a r1
      obtain ⟨bs, q2⟩ := RDs.reads I b r2
      exact ⟨_, .cons q1 q2⟩
end
theorem RT.reads (I : Inv X pins σ H s) {d : D} {v : V} {u : Value} (x : RT X.K U H d v) (r : RelV v u) : ∃ as, Reads s.heap u d as := by
  cases x with
  | rd x => exact RD.reads I x r
  | lst hr q =>
    cases r
    obtain ⟨its, n, rv, e, _⟩ := lrd I hr
    obtain ⟨as, k⟩ := RDs.reads I q rv
    exact ⟨_, .list e rfl rfl k⟩
end

section
variable {X : Cx}
/-- data compared: a op b -/
def rC (K : Fg) (op : CmpOp) : R2 := fun x y H Q => ∃ (U : Mu) (dx dy : D) (b : Bool), RT K U H dx x ∧ RT K U H dy y ∧ cmpD op dx dy = some b ∧ Q (.bl b) H

theorem eqD_ok {a b : D} {k : Bool} (h : eqD a b = some k) : SeqAt.shaped a = true ∧ SeqAt.shaped b = true ∧ k = PyData.eqv a b := by
  unfold eqD at h
  split at h
  · rename_i q
    simp only [Bool.and_eq_true] at q
    exact ⟨q.1, q.2, (Option.some.inj h).symm⟩
  · cases h
theorem inD_ok {x : D} {ys : List D} {k : Bool} (h : inD x ys = some k) : SeqAt.shaped x = true ∧ PyData.canLayAll0 ys = true ∧ k = ys.any fun y => PyData.eqv y x := by
  unfold inD at h
  split at h
  · rename_i q
    simp only [Bool.and_eq_true] at q
    exact ⟨q.1, SeqAt.canLay_of_shaped q.2, (Option.some.inj h).symm⟩
  · cases h
theorem map_not {o : Option Bool} {k : Bool} (h : o.map (!·) = some k) : o = some (!k) := by
  cases o with
  | none => cases h
  | some b => cases h; simp

theorem op_cmp (hu : X.A.units + 65 < cLine) (op : CmpOp) : OpR X (compareOp op) (rC X.K op) := by
  intro pins s σ H x y v u Q I rx ry ⟨U, dx, dy, b, hx, hy, e, q⟩
  have hu1 : X.A.units + 64 < cLine := by omega
  have hu0 : X.A.units < cLine := by omega
  unfold cmpD at e
  split at e
  · -- ==
    obtain ⟨s1, s2, rfl⟩ := eqD_ok e
    obtain ⟨as, r1⟩ := hx.reads I rx
    obtain ⟨bs, r2⟩ := hy.reads I ry
    exact SeqAt.compareEq_shaped r1 r2 s1 s2 hu1 ⟨.bl _, H, I, rfl, q⟩
  · -- !=
    obtain ⟨s1, s2, eb⟩ := eqD_ok (map_not e)
    obtain ⟨as, r1⟩ := hx.reads I rx
    obtain ⟨bs, r2⟩ := hy.reads I ry
    have eb' : b = !PyData.eqv dx dy := by rw [← eb]; simp
    subst eb'
    exact SeqAt.compareNe_shaped r1 r2 s1 s2 hu1 ⟨.bl _, H, I, rfl, q⟩
  · cases e
    cases hx.int
    cases hy.int
    exact op_lt pins s σ H _ _ v u Q I rx ry ⟨_, _, rfl, rfl, q⟩
  · cases e
    cases hx.int
    cases hy.int
    exact op_le pins s σ H _ _ v u Q I rx ry ⟨_, _, rfl, rfl, q⟩
  · cases e
    cases hx.int
    cases hy.int
    exact op_gt pins s σ H _ _ v u Q I rx ry ⟨_, _, rfl, rfl, q⟩
  · cases e
    cases hx.int
    cases hy.int
    exact op_ge pins s σ H _ _ v u Q I rx ry ⟨_, _, rfl, rfl, q⟩
  · -- tuples of ints
    split at e
    · rename_i h1 h2
      cases e
      obtain ⟨a, vx, rfl, qa, ra⟩ := hx.sqt
      obtain ⟨c, vy, rfl, qb, rb⟩ := hy.sqt
      rw [ra.ints h1] at qa
      rw [rb.ints h2] at qb
      exact op_ltT hu0 pins s σ H _ _ v u Q I rx ry ⟨_, _, _, _, rfl, rfl, qa, qb, q⟩
    · cases e
  · cases e
    cases hx.non
    cases hy.non
    exact op_isN pins s σ H _ _ v u Q I rx ry ⟨rfl, q⟩
  · rename_i hne
    cases e
    cases hy.non
    refine op_isN pins s σ H _ _ v u Q I rx ry ⟨rfl, ?_⟩
    have : x ≠ .non := fun z => by
      subst z
      cases hx with
      | rd r => cases r; exact hne rfl
    rw [decide_eq_false this]
    exact q
  · cases e
    cases hx.non
    cases hy.non
    exact op_notN pins s σ H _ _ v u Q I rx ry ⟨rfl, q⟩
  · rename_i hne
    cases e
    cases hy.non
    refine op_notN pins s σ H _ _ v u Q I rx ry ⟨rfl, ?_⟩
    have : x ≠ .non := fun z => by
      subst z
      cases hx with
      | rd r => cases r; exact hne rfl
    rw [decide_eq_false this]
    exact q
  · rename_i a c
    cases e
    cases hx.bl
    cases hy.bl
    refine op_is_bl pins s σ H _ _ v u Q I rx ry ⟨_, _, rfl, rfl, ?_⟩
    have : decide (a = c) = (a == c) := by cases a <;> cases c <;> rfl
    rw [this]; exact q
  · rename_i a c
    cases e
    cases hx.bl
    cases hy.bl
    refine op_isnot_bl pins s σ H _ _ v u Q I rx ry ⟨_, _, rfl, rfl, ?_⟩
    have : decide (a = c) = (a == c) := by cases a <;> cases c <;> rfl
    rw [this]; exact q
  · cases e
    cases hx.str
    cases hy.str
    exact op_in_str pins s σ H _ _ v u Q I rx ry ⟨_, _, rfl, rfl, q⟩
  · cases e
    cases hx.str
    cases hy.str
    exact op_notin_str pins s σ H _ _ v u Q I rx ry ⟨_, _, rfl, rfl, q⟩
  · obtain ⟨s1, s2, rfl⟩ := inD_ok e
    obtain ⟨as, r1⟩ := hx.reads I rx
    obtain ⟨bs, r2⟩ := hy.reads I ry
    exact SeqAt.in_list_reads r2 r1 s2 (SeqAt.canLay_of_shaped s1) (room_in_shaped s1 hu) ⟨.bl _, H, I, rfl, q⟩
  · obtain ⟨s1, s2, rfl⟩ := inD_ok e
    obtain ⟨as, r1⟩ := hx.reads I rx
    obtain ⟨bs, r2⟩ := hy.reads I ry
    exact SeqAt.in_tuple_reads r2 r1 s2 (SeqAt.canLay_of_shaped s1) (room_in_shaped s1 hu) ⟨.bl _, H, I, rfl, q⟩
  · obtain ⟨s1, s2, eb⟩ := inD_ok (map_not e)
    have q2 : Q (.bl (!(!b))) H := by simpa using q
    rw [eb] at q2
    obtain ⟨as, r1⟩ := hx.reads I rx
    obtain ⟨bs, r2⟩ := hy.reads I ry
    exact SeqAt.notIn_list_reads r2 r1 s2 (SeqAt.canLay_of_shaped s1) (room_in_shaped s1 hu) ⟨.bl _, H, I, rfl, q2⟩
  · obtain ⟨s1, s2, eb⟩ := inD_ok (map_not e)
    have q2 : Q (.bl (!(!b))) H := by simpa using q
    rw [eb] at q2
    obtain ⟨as, r1⟩ := hx.reads I rx
    obtain ⟨bs, r2⟩ := hy.reads I ry
    exact SeqAt.notIn_tuple_reads r2 r1 s2 (SeqAt.canLay_of_shaped s1) (room_in_shaped s1 hu) ⟨.bl _, H, I, rfl, q2⟩
  · cases e

/-! ### items -/
def rI' (K : Fg) : R2 := fun x y H Q => ∃ (U : Mu) (dx dy d : D), RT K U H dx x ∧ RT K U H dy y ∧ ixD dx dy = some d ∧ ∀ w, RD K U H d w → Q w H
theorem atX_atI {α : Type} {xs : List α} {i : Int} {x : α} (h : atX xs i = some x) : atI xs i = some x := by
  unfold atX at h
  unfold atI ixN
  by_cases h0 : 0 ≤ i
  · rw [if_pos h0] at h
    have hl : i.toNat < xs.length := by
      rcases Nat.lt_or_ge i.toNat xs.length with z | z
      · exact z
      · rw [List.getElem?_eq_none z] at h; cases h
    rw [if_pos h0, if_pos (by omega)]
    exact h
  · rw [if_neg h0] at h
    rw [if_neg h0]
    split at h
    · rename_i h1
      rw [if_pos h1]
      exact h
    · cases h
theorem RDs.atX {K : Fg} {ds : List D} {xs : List V} {i : Int} {d : D} {U : Mu} {H : Hp} (r : RDs K U H ds xs) (h : atX ds i = some d) : ∃ v, Cy.atX xs i = some v ∧ RD K U H d v := by
  unfold Cy.atX at h ⊢
  rw [← r.length]
  by_cases h0 : 0 ≤ i
  · rw [if_pos h0] at h ⊢
    exact r.get h
  · rw [if_neg h0] at h ⊢
    split at h
    · rename_i h1
      rw [if_pos h1]
      exact r.get h
    · cases h
theorem ix_ok : IxR X (rI' X.K) := by
  intro value slice pins s σ H x y v u Q I rx ry ⟨U, dx, dy, d, hx, hy, e, q⟩ hs
  unfold ixD at e
  split at e
  · obtain ⟨a, vx, rfl, qa, ra⟩ := hx.sql
    cases hy.int
    obtain ⟨w, e1, rw'⟩ := ra.atX e
    exact ix_list value slice pins s σ H _ _ v u Q I rx ry ⟨a, vx, _, w, rfl, rfl, .inl qa, atX_atI e1, q w rw'⟩ hs
  · obtain ⟨a, vx, rfl, qa, ra⟩ := hx.sqt
    cases hy.int
    obtain ⟨w, e1, rw'⟩ := ra.atX e
    exact ix_tup value slice pins s σ H _ _ v u Q I rx ry ⟨a, vx, _, w, rfl, rfl, qa, atX_atI e1, q w rw'⟩ hs
  · split at e
    · rename_i z i hl
      rw [lim_eq] at hl
      cases hx.str
      cases hy.int
      cases q2 : atX z.cps.toList i with
      | none => rw [q2] at e; cases e
      | some c =>
        rw [q2] at e
        cases e
        exact ix_str value slice pins s σ H _ _ v u Q I rx ry ⟨_, _, c, rfl, rfl, hl, atX_atI q2, q _ (.str _)⟩ hs
    · cases e
  · cases e

/-! ### slices -/
def rS' (K : Fg) : V → Option Int → Option Int → Hp → VK → Prop := fun x lo hi H Q => ∃ (U : Mu) (dx : D) (re : Re), NoU U H ∧ RT K U H dx x ∧ slD dx lo hi = some re ∧ Pst K U H Q re
theorem RDs.cut {K : Fg} {ds : List D} {xs : List V} {U : Mu} {H : Hp} (r : RDs K U H ds xs) (lo hi : Option Int) : RDs K U H (Cy.cut ds lo hi) (cutV xs lo hi) := by
  unfold Cy.cut cutV
  rw [r.length]
  exact (r.drop _).take _
theorem cut_whole {α : Type} (xs : List α) (lo hi : Option Int) (h : HT.sIx xs.length 0 lo = 0 ∧ HT.sIx xs.length xs.length hi = xs.length) : cut xs lo hi = xs := by
  unfold cut
  rw [h.1, h.2]
  simp
theorem sl_ok : SlR X (rS' X.K) := by
  intro pins s σ H x v vl vu lo hi sl Q I rx hs pl pu ⟨U, dx, re, nu, hx, e, q⟩
  unfold slD at e
  split at e
  · rename_i xs
    cases e
    obtain ⟨a, vx, rfl, qa, ra⟩ := hx.sql
    obtain ⟨its, _, _, _, hz⟩ := lrd I qa
    have hl : (cutV vx lo hi).length ≤ sizeLine := Nat.le_trans (cutV_length _ _ _) hz
    exact sl_list pins s σ H _ v vl vu lo hi sl Q I rx hs pl pu ⟨a, vx, rfl, .inl qa, fun p np => q p _ np (ra.cut lo hi) hl⟩
  · rename_i xs
    cases e
    obtain ⟨a, vx, rfl, qa, ra⟩ := hx.sqt
    have el := ra.length
    refine sl_tupA pins s σ H _ v vl vu lo hi sl Q I rx hs pl pu ⟨a, vx, rfl, qa, fun w => ?_, fun w p np => ?_⟩
    · refine q _ H (fun _ _ z => z) ?_
      rw [cut_whole xs lo hi (by rw [el]; exact w)]
      cases hx with
      | rd r => exact r
    · exact q (.ref p) _ (fun c o z => upd_grow np c o z) (rd_new_tup nu np (ra.cut lo hi))
  · split at e
    · rename_i z hl
      rw [lim_eq] at hl
      cases e
      cases hx.str
      exact sl_str pins s σ H _ v vl vu lo hi sl Q I rx hs pl pu ⟨_, rfl, hl, q _ H (fun _ _ z => z) (.str _)⟩
    · cases e
  · cases e
end
end Cy


set_option Elab.async false
set_option linter.all false
set_option maxRecDepth 100000
set_option maxHeartbeats 2000000
/-! L2c: built-in functions, methods that change nothing. -/
namespace Cy
open PySem PySem.Spec PyProof.Rows L2

inductive RTs (K : Fg) (U : Mu) (H : Hp) : List D → List V → Prop
  | nil : RTs K U H [] []
  | cons {d : D} {v : V} {ds : List D} {vs : List V} : RT K U H d v → RTs K U H ds vs → RTs K U H (d :: ds) (v :: vs)

def bfV : Bf → Value
  | .len => .builtin "len"
  | .all => .builtin "all"
  | .any => .builtin "any"
  | .sum => .builtin "sum"
  | .tuple => .type "tuple"
  | .list => .type "list"
  | .min => .builtin "min"
  | .max => .builtin "max"
  | .abs => .builtin "abs"
  | .int => .type "int"
  | .str => .type "str"
  | .repr => .builtin "repr"
  | .sorted => .builtin "sorted"
  | .divmod => .builtin "divmod"

theorem insI_perm (a : Int) : ∀ l : List Int, (insI a l).Perm (a :: l)
  | [] => .refl _
  | b :: r => by
    unfold insI
    split
    · exact .refl _
    · exact ((insI_perm a r).cons b).trans (.swap a b r)
theorem sortI_perm : ∀ l : List Int, (sortI l).Perm l
  | [] => .refl _
  | a :: r => (insI_perm a _).trans ((sortI_perm r).cons a)
theorem insI_sorted (a : Int) : ∀ l : List Int, l.Pairwise (· ≤ ·) → (insI a l).Pairwise (· ≤ ·)
  | [], _ => List.pairwise_singleton _ _
  | b :: r, h => by
    have h' := List.pairwise_cons.mp h
    unfold insI
    split
    · rename_i hab
      refine List.pairwise_cons.mpr ⟨fun x hx => ?_, h⟩
      rcases List.mem_cons.mp hx with rfl | hx
      · exact hab
      · exact Int.le_trans hab (h'.1 x hx)
    · rename_i hab
      refine List.pairwise_cons.mpr ⟨fun x hx => ?_, insI_sorted a r h'.2⟩
      rcases List.mem_cons.mp ((insI_perm a r).mem_iff.mp hx) with rfl | hx
      · omega
      · exact h'.1 x hx
theorem sortI_sorted : ∀ l : List Int, (sortI l).Pairwise (· ≤ ·)
  | [] => .nil
  | a :: r => insI_sorted a _ (sortI_sorted r)

theorem minI_some : ∀ {l : List Int} {m : Int}, minI l = some m → m ∈ l ∧ ∀ y ∈ l, m ≤ y
  | [], _, h => by cases h
  | [a], m, h => by
    cases h
    exact ⟨List.mem_singleton.mpr rfl, fun y hy => by rw [List.mem_singleton.mp hy]; exact Int.le_refl _⟩
  | a :: b :: r, m, h => by
    unfold minI at h
    cases q : minI (b :: r) with
    | none => rw [q] at h; cases h
    | some n =>
      rw [q] at h
      obtain ⟨h1, h2⟩ := minI_some q
      have e : m = if n < a then n else a := (Option.some.inj h).symm
      subst e
      split
      · rename_i hl
        refine ⟨List.mem_cons_of_mem _ h1, fun y hy => ?_⟩
        rcases List.mem_cons.mp hy with rfl | hy
        · omega
        · exact h2 y hy
      · rename_i hl
        refine ⟨List.mem_cons_self, fun y hy => ?_⟩
        rcases List.mem_cons.mp hy with rfl | hy
        · omega
        · have := h2 y hy; omega
theorem maxI_some : ∀ {l : List Int} {m : Int}, maxI l = some m → m ∈ l ∧ ∀ y ∈ l, y ≤ m
  | [], _, h => by cases h
  | [a], m, h => by
    cases h
    exact ⟨List.mem_singleton.mpr rfl, fun y hy => by rw [List.mem_singleton.mp hy]; exact Int.le_refl _⟩
  | a :: b :: r, m, h => by
    unfold maxI at h
    cases q : maxI (b :: r) with
    | none => rw [q] at h; cases h
    | some n =>
      rw [q] at h
      obtain ⟨h1, h2⟩ := maxI_some q
      have e : m = if a < n then n else a := (Option.some.inj h).symm
      subst e
      split
      · rename_i hl
        refine ⟨List.mem_cons_of_mem _ h1, fun y hy => ?_⟩
        rcases List.mem_cons.mp hy with rfl | hy
        · omega
        · exact h2 y hy
      · rename_i hl
        refine ⟨List.mem_cons_self, fun y hy => ?_⟩
        rcases List.mem_cons.mp hy with rfl | hy
        · omega
        · have := h2 y hy; omega

theorem reprD_ok {d e : D} (h : reprD d = some e) : d.showable = true ∧ d.hasDict = false ∧ d.depth ≤ 64 ∧ d.shown.length ≤ sizeLine ∧ e = .str d.shown := by
  unfold reprD at h
  split at h
  · rename_i q
    simp only [Bool.and_eq_true, Bool.not_eq_true', decide_eq_true_eq] at q
    rw [lim_eq] at q
    exact ⟨q.1.1.1, q.1.1.2, q.1.2, q.2, (Option.some.inj h).symm⟩
  · cases h

section
variable {X : Cx}
def rF (K : Fg) (f : Bf) : List V → Hp → VK → Prop := fun xs H Q => ∃ (U : Mu) (ds : List D) (re : Re), NoU U H ∧ RTs K U H ds xs ∧ bifD f ds = some re ∧ Pst K U H Q re

theorem len_ok (hc : X.calm = true) {K : Fg} {U : Mu} {H : Hp} {d : D} {v : V} {n : Nat} (r : RT K U H d v) (e : lenD d = some n) :
    (∃ p ys, v = .ref p ∧ (SqL K H p ys ∨ SqT K H p ys) ∧ ys.length = n) ∨ ∃ z, v = .str z ∧ z.length ≤ sizeLine ∧ z.length = n := by
  unfold lenD at e
  split at e
  · obtain ⟨a, vx, rfl, qa, ra⟩ := r.sql
    cases e
    exact .inl ⟨a, vx, rfl, .inl (.inl qa), ra.length.symm⟩
  · obtain ⟨a, vx, rfl, qa, ra⟩ := r.sqt
    cases e
    exact .inl ⟨a, vx, rfl, .inr qa, ra.length.symm⟩
  · split at e
    · rename_i hl
      rw [lim_eq] at hl
      cases e
      cases r.str
      exact .inr ⟨_, rfl, hl, rfl⟩
    · cases e
  · cases e

theorem call_bif (hc : X.calm = true) (hg : X.A.guards = some []) (hu : X.A.units + 80 < cLine) (f : Bf) : CallR X (bfV f) (rF X.K f) := by
  intro pins s σ H xs us Q I r ⟨U, ds, re, nu, hx, e, q⟩
  have same : ∀ d w, re = .v d → RD X.K U H d w → Q w H := fun d w er r => by
    subst er
    exact q w H (fun _ _ z => z) r
  unfold bifD at e
  split at e
  · -- len
    cases hx with | cons h1 hn => cases hn with | nil =>
    rename_i x vx
    cases n : lenD x with
    | none => rw [n] at e; cases e
    | some k =>
      rw [n] at e; cases e
      rcases len_ok hc h1 n with ⟨p, ys, rfl, hq, el⟩ | ⟨z, rfl, hz, el⟩
      · exact call_len_seq pins s σ H _ us Q I r ⟨p, ys, rfl, hq, by rw [el]; exact same _ _ rfl (.int _)⟩
      · exact call_len_str pins s σ H _ us Q I r ⟨z, rfl, hz, by rw [el]; exact same _ _ rfl (.int _)⟩
  · -- all
    cases hx with | cons h1 hn => cases hn with | nil =>
    obtain ⟨a, vs, rfl, qa, ra⟩ := h1.sql
    rename_i x
    cases n : allBools x with
    | none => rw [n] at e; cases e
    | some bs =>
      rw [n] at e; cases e
      rw [ra.bools n] at qa
      exact cr_all hc pins s σ H _ us Q I r ⟨a, bs, rfl, .inl qa, same _ _ rfl (.bl _)⟩
  · cases hx with | cons h1 hn => cases hn with | nil =>
    obtain ⟨a, vs, rfl, qa, ra⟩ := h1.sql
    rename_i x
    cases n : allBools x with
    | none => rw [n] at e; cases e
    | some bs =>
      rw [n] at e; cases e
      rw [ra.bools n] at qa
      exact cr_any hc pins s σ H _ us Q I r ⟨a, bs, rfl, .inl qa, same _ _ rfl (.bl _)⟩
  · cases hx with | cons h1 hn => cases hn with | nil =>
    obtain ⟨a, vs, rfl, qa, ra⟩ := h1.sql
    rename_i x
    cases n : allInts x with
    | none => rw [n] at e; cases e
    | some ns =>
      rw [n] at e; cases e
      rw [ra.ints n] at qa
      exact cr_sum hc pins s σ H _ us Q I r ⟨a, ns, rfl, .inl qa, same _ _ rfl (.int _)⟩
  · -- tuple(list)
    cases e
    cases hx with | cons h1 hn => cases hn with | nil =>
    obtain ⟨a, vs, rfl, qa, ra⟩ := h1.sql
    exact call_tuple_of pins s σ H _ us Q I r ⟨a, vs, rfl, .inl ⟨.inl qa, fun p np => q (.ref p) _ (fun c o z => upd_grow np c o z) (rd_new_tup nu np ra)⟩⟩
  · cases e
    cases hx with | cons h1 hn => cases hn with | nil =>
    have h2 := h1
    obtain ⟨a, vs, rfl, qa, ra⟩ := h1.sqt
    refine call_tuple_of pins s σ H _ us Q I r ⟨a, vs, rfl, .inr ⟨qa, same _ _ rfl ?_⟩⟩
    cases h2 with
    | rd z => exact z
  · cases e
    cases hx with | cons h1 hn => cases hn with | nil =>
    obtain ⟨a, vs, rfl, qa, ra⟩ := h1.sql
    obtain ⟨_, _, _, _, hz⟩ := lrd I qa
    exact call_list_of pins s σ H _ us Q I r ⟨a, vs, rfl, .inl (.inl qa), fun p np => q p _ np ra hz⟩
  · cases e
    cases hx with | cons h1 hn => cases hn with | nil =>
    obtain ⟨a, vs, rfl, qa, ra⟩ := h1.sqt
    obtain ⟨_, _, _, hz⟩ := I.tuple qa
    exact call_list_of pins s σ H _ us Q I r ⟨a, vs, rfl, .inr qa, fun p np => q p _ np ra hz⟩
  · cases e
    cases hx with | cons h1 hn => cases hn with | cons h2 hn => cases hn with | nil =>
    cases h1.int
    cases h2.int
    exact call_min2 hc pins s σ H _ us Q I r ⟨_, _, rfl, same _ _ rfl (.int _)⟩
  · cases e
    cases hx with | cons h1 hn => cases hn with | cons h2 hn => cases hn with | nil =>
    cases h1.int
    cases h2.int
    exact call_max2 hc pins s σ H _ us Q I r ⟨_, _, rfl, same _ _ rfl (.int _)⟩
  · cases hx with | cons h1 hn => cases hn with | nil =>
    obtain ⟨a, vs, rfl, qa, ra⟩ := h1.sql
    rename_i x
    cases n : allInts x with
    | none => rw [n] at e; cases e
    | some ns =>
      rw [n] at e
      cases m : minI ns with
      | none => rw [Option.bind_some, m] at e; cases e
      | some k =>
        rw [Option.bind_some, m] at e; cases e
        rw [ra.ints n] at qa
        obtain ⟨m1, m2⟩ := minI_some m
        refine cr_min hc pins s σ H _ us Q I r ⟨a, ns, rfl, .inl qa, List.length_pos_of_mem m1, fun j hj hm => ?_⟩
        have : j = k := Int.le_antisymm (hm k m1) (m2 j hj)
        subst this
        exact same _ _ rfl (.int _)
  · cases hx with | cons h1 hn => cases hn with | nil =>
    obtain ⟨a, vs, rfl, qa, ra⟩ := h1.sql
    rename_i x
    cases n : allInts x with
    | none => rw [n] at e; cases e
    | some ns =>
      rw [n] at e
      cases m : maxI ns with
      | none => rw [Option.bind_some, m] at e; cases e
      | some k =>
        rw [Option.bind_some, m] at e; cases e
        rw [ra.ints n] at qa
        obtain ⟨m1, m2⟩ := maxI_some m
        refine cr_max hc pins s σ H _ us Q I r ⟨a, ns, rfl, .inl qa, List.length_pos_of_mem m1, fun j hj hm => ?_⟩
        have : j = k := Int.le_antisymm (m2 j hj) (hm k m1)
        subst this
        exact same _ _ rfl (.int _)
  · cases e
    cases hx with | cons h1 hn => cases hn with | nil =>
    cases h1.int
    exact call_abs pins s σ H _ us Q I r ⟨_, rfl, same _ _ rfl (.int _)⟩
  · cases e
    cases hx with | cons h1 hn => cases hn with | nil =>
    cases h1.int
    exact call_int1 pins s σ H _ us Q I r (.inl ⟨_, rfl, same _ _ rfl (.int _)⟩)
  · cases e
    cases hx with | cons h1 hn => cases hn with | nil =>
    cases h1.bl
    exact call_int1 pins s σ H _ us Q I r (.inr ⟨_, rfl, same _ _ rfl (.int _)⟩)
  · split at e
    · rename_i hl
      cases hx with | cons h1 hn => cases hn with | nil =>
      rename_i z _
      cases n : intText? z with
      | none => rw [n] at e; cases e
      | some k =>
        rw [n] at e; cases e
        cases h1.str
        exact call_int_str pins s σ H _ us Q I r ⟨_, k, rfl, n, hl, same _ _ rfl (.int _)⟩
    · cases e
  · split at e
    · rename_i hl
      cases e
      cases hx with | cons h1 hn => cases hn with | nil =>
      cases h1.int
      exact call_str_int pins s σ H _ us Q I r ⟨_, rfl, hl, same _ _ rfl (.str _)⟩
    · cases e
  · cases e
    cases hx with | cons h1 hn => cases hn with | nil =>
    cases h1.str
    exact SkE.call_str_str pins s σ H _ us Q I r ⟨_, rfl, same _ _ rfl (.str _)⟩
  · -- repr
    cases hx with | cons h1 hn => cases hn with | nil =>
    rename_i x vx
    cases n : reprD x with
    | none => rw [n] at e; cases e
    | some k =>
      rw [n] at e; cases e
      obtain ⟨g1, g2, g3, g4, rfl⟩ := reprD_ok n
      obtain ⟨u, rfl, ru⟩ := vals1 r
      have fin : ∀ (x' : Str) (t : Tok) (h' : Heap) (tk : Nat), x' = x.shown → (∀ b o, s.heap.get? b = some o → h'.get? b = some o) → EP X pins σ Q (.str x' t) { s with heap := h', toks := tk } :=
        fun x' t h' tk ex k => ⟨.str x.shown, H, I.kept k, ⟨t, by rw [ex]⟩, same _ _ rfl (.str _)⟩
      have byref : ∀ a, u = .ref a → wpAny (model X.prog X.w) X.A (call (bfV .repr) [u]) (EP X pins σ Q) X.xe s := fun a ea => by
        subst ea
        obtain ⟨as, rd⟩ := h1.reads I ru
        exact PySem.repr_of_reads' rd g1 (PyData.noDict_hsm g2) hg (by omega) (fun _ _ z => z) (fun h' u' tk k => fin _ _ h' tk rfl k) g4
      cases x with
      | none =>
        cases h1.non
        cases ru
        exact PySem.P.repr_of_none (fin _ _ s.heap _ (by simp only [PyData.shown]) fun _ _ z => z)
      | bool b =>
        cases h1.bl
        cases ru
        exact PySem.P.repr_of_bool (fin _ _ s.heap _ (by simp only [PyData.shown]) fun _ _ z => z)
      | int i =>
        cases h1.int
        obtain ⟨t, rfl⟩ := ru
        have hi : i.natAbs.log2 < 1920 := by simpa [PyData.showable] using g1
        exact PySem.P.repr_of_int hi (fin _ _ s.heap _ (by simp only [PyData.shown]) fun _ _ z => z)
      | str z =>
        cases h1.str
        obtain ⟨t, rfl⟩ := ru
        exact PySem.P.repr_of_str (fin _ _ s.heap _ (by simp only [PyData.shown]) fun _ _ z => z) (by simpa [PyData.shown] using g4)
      | list xs =>
        obtain ⟨a, vs, rfl, _, _⟩ := h1.sql
        exact byref a ru
      | tuple xs =>
        obtain ⟨a, vs, rfl, _, _⟩ := h1.sqt
        exact byref a ru
      | dict _ => simp [PyData.hasDict] at g2
  · -- sorted
    cases hx with | cons h1 hn => cases hn with | nil =>
    obtain ⟨a, vs, rfl, qa, ra⟩ := h1.sql
    rename_i x
    cases n : allInts x with
    | none => rw [n] at e; cases e
    | some ns =>
      rw [n, Option.bind_some] at e
      split at e
      · rename_i hl
        cases e
        rw [ra.ints n] at qa
        refine cr_sorted pins s σ H _ us Q I r ⟨a, ns, rfl, .inl qa, hl, fun ns' p hp hs np => ?_⟩
        have : ns' = sortI ns := PySem.W.ksm_same (hp.trans (sortI_perm ns).symm) hs (sortI_sorted ns)
        subst this
        refine q p _ np (RDs.ofInts _) ?_
        rw [List.length_map, (sortI_perm ns).length_eq, sizeLine_eq]
        omega
      · cases e
  · split at e
    · rename_i hj
      cases e
      cases hx with | cons h1 hn => cases hn with | cons h2 hn => cases hn with | nil =>
      cases h1.int
      cases h2.int
      exact call_divmod pins s σ H _ us Q I r ⟨_, _, rfl, hj, fun p np => q (.ref p) _ (fun c o z => upd_grow np c o z) (rd_new_tup nu np (.cons (.int _) (.cons (.int _) .nil)))⟩
    · cases e
  · cases e
end
end Cy


set_option Elab.async false
set_option linter.all false
set_option maxRecDepth 100000
set_option maxHeartbeats 2000000
/-! L3a: readings of the mini-language: what is wanted behind a computation. -/
namespace Cy
open PySem PySem.Spec PyProof.Rows L2

/-- how an error of ours lies: its class by its name -/
def XR (mg : Str → Option Value) (e : Ex) (cls : Value) (dd : Option Addr) : Prop := mg e.cls = some cls ∧ dd = none ∧ e.fs = []

def RRs (K : Fg) (al : List Addr) (U : Mu) (H : Hp) : List R → List V → Prop := fun rs vs => Paired (RR K al U H) rs vs

/-- what is wanted behind a computation that ends so -/
def Fin {α β : Type} (K : Fg) (mg : Str → Option Value) (E : XK) (rel : List Addr → Mu → Hp → α → β → Prop) (al : List Addr) (h : Hs) (H : Hp) (Q : β → Hp → Prop) : Out α → Prop
  | .ok r h' => ∀ al' H' v, Stp al h H al' h' H' → RH K al' h' H' → rel al' (UU al' h') H' r v → Q v H'
  | .ex e h' => ∀ al' H' cls dd, Stp al h H al' h' H' → RH K al' h' H' → XR mg e cls dd → E cls dd H'
  | .bad => False

section
variable {α β γ δ : Type} {K : Fg} {mg : Str → Option Value} {E : XK} {rel : List Addr → Mu → Hp → α → β → Prop} {rel' : List Addr → Mu → Hp → γ → δ → Prop} {al al1 : List Addr} {h h1 : Hs} {H H1 : Hp} {Q : β → Hp → Prop} {Q' : δ → Hp → Prop}
theorem Fin.shift {o : Out α} (f : Fin K mg E rel al h H Q o) (s : Stp al h H al1 h1 H1) : Fin K mg E rel al1 h1 H1 Q o := by
  cases o with
  | ok r h' => exact fun al' H' v st rh rr => f al' H' v (s.trans st) rh rr
  | ex e h' => exact fun al' H' cls dd st rh x => f al' H' cls dd (s.trans st) rh x
  | bad => exact f
theorem Fin.bnd {m : M γ} {g : γ → M α} (f : Fin K mg E rel al h H Q ((m.bnd g) h))
    (k : ∀ r h1 al1 H1 v, Stp al h H al1 h1 H1 → RH K al1 h1 H1 → rel' al1 (UU al1 h1) H1 r v → Fin K mg E rel al1 h1 H1 Q (g r h1) → Q' v H1) : Fin K mg E rel' al h H Q' (m h) := by
  unfold M.bnd at f
  cases e : m h with
  | ok r h1 =>
    rw [e] at f
    exact fun al1 H1 v st rh rr => k r h1 al1 H1 v st rh rr (f.shift st)
  | ex x h1 => rw [e] at f; exact f
  | bad => rw [e] at f; exact f
theorem Fin.opt {o : Option γ} {g : γ → M α} (f : Fin K mg E rel al h H Q (((M.opt o).bnd g) h)) : ∃ a, o = some a ∧ Fin K mg E rel al h H Q (g a h) := by
  cases o with
  | none => exact f.elim
  | some a => exact ⟨a, rfl, f⟩
theorem Fin.ret {r : α} (f : Fin K mg E rel al h H Q (M.ret r h)) (rh : RH K al h H) {v : β} (rr : rel al (UU al h) H r v) : Q v H :=
  f al H v (Stp.refl al h H) rh rr

theorem RH.noU (x : RH K al h H) : NoU (UU al h) H := fun a u => by
  obtain ⟨o, e⟩ := x.u_there u
  rw [e]
  exact fun z => nomatch z

def datC (h : Hs) : Option Cell → Out D
  | some (.lst xs) => .ok (.list xs) h
  | some (.fz xs) => .ok (.list xs) h
  | _ => .bad
theorem dat_ref (n : Nat) (h : Hs) : dat (.ref n) h = datC h h[n]? := rfl
theorem dat_d (x : D) (h : Hs) : dat (.d x) h = .ok x h := rfl
theorem dat_ok {r : R} {d : D} {v : V} (rh : RH K al h H) (rr : RR K al (UU al h) H r v) (e : dat r h = .ok d h1) : h1 = h ∧ RT K (UU al h) H d v := by
  cases r with
  | d x =>
    rw [dat_d] at e
    injection e with e1 e2
    subst e1 e2
    exact ⟨rfl, .rd rr⟩
  | ref n =>
    obtain ⟨a, ea, rfl⟩ := rr
    rw [dat_ref] at e
    cases q : h[n]? with
    | none => rw [q] at e; cases e
    | some c =>
      rw [q] at e
      have rc := rh.at_ n c a q ea
      cases c with
      | lst xs =>
        injection e with e1 e2
        subst e1 e2
        obtain ⟨vs, eh, rs⟩ := rc
        exact ⟨rfl, .lst (.inl eh) rs⟩
      | fz xs =>
        injection e with e1 e2
        subst e1 e2
        obtain ⟨vs, eh, rs⟩ := rc
        exact ⟨rfl, .lst (.inl eh) rs⟩
      | dct t kvs => cases e
theorem dat_noex {r : R} {e : Ex} : dat r h ≠ .ex e h1 := by
  intro z
  cases r with
  | d x => rw [dat_d] at z; cases z
  | ref n =>
    rw [dat_ref] at z
    unfold datC at z
    split at z <;> cases z
theorem Fin.dat {r : R} {g : D → M α} {v : V} (f : Fin K mg E rel al h H Q (((dat r).bnd g) h)) (rh : RH K al h H) (rr : RR K al (UU al h) H r v) : ∃ d, RT K (UU al h) H d v ∧ Fin K mg E rel al h H Q (g d h) := by
  unfold M.bnd at f
  cases e : Cy.dat r h with
  | ok d h1 =>
    obtain ⟨rfl, rt⟩ := dat_ok rh rr e
    rw [e] at f
    exact ⟨d, rt, f⟩
  | ex x h1 => exact absurd e dat_noex
  | bad => rw [e] at f; exact f.elim
theorem Fin.pur {r : R} {g : D → M α} {v : V} (f : Fin K mg E rel al h H Q (((pur r).bnd g) h)) (rr : RR K al (UU al h) H r v) : ∃ d, r = .d d ∧ RD K (UU al h) H d v ∧ Fin K mg E rel al h H Q (g d h) := by
  cases r with
  | d x => exact ⟨x, rfl, rr, f⟩
  | ref n => exact f.elim
theorem Fin.boolOf {m : M R} {g : Bool → M α} {Q1 : V → Hp → Prop} (f : Fin K mg E rel al h H Q (((m.bnd Cy.boolOf).bnd g) h))
    (k : ∀ b h1 al1 H1, Stp al h H al1 h1 H1 → RH K al1 h1 H1 → Fin K mg E rel al1 h1 H1 Q (g b h1) → Q1 (.bl b) H1) : Fin K mg E (RR K) al h H Q1 (m h) := by
  unfold M.bnd at f
  cases e : m h with
  | ok r h1 =>
    rw [e] at f
    intro al1 H1 v st rh rr
    cases r with
    | ref n => exact f.elim
    | d x =>
      cases x with
      | bool b =>
        cases rr
        exact k b h1 al1 H1 st rh (Fin.shift f st)
      | _ => exact f.elim
  | ex x h1 => rw [e] at f; exact f
  | bad => rw [e] at f; exact f.elim
end

theorem uu_same {al : List Addr} {h : Hs} {H H' : Hp} : Keep (UU al h) H (UU al h) H' ↔ ∀ a o, ¬ UU al h a → H a = some o → H' a = some o :=
  ⟨fun k => k.fr, fun k => ⟨k, fun _ u => .inl u⟩⟩

section
variable {K : Fg} {mg : Str → Option Value} {E : XK} {al : List Addr} {h : Hs} {H : Hp} {Q : VK}
/-- a new cell -/
theorem new_cell {p : Addr} {c : Cell} {o : HO} (rh : RH K al h H) (np : H p = none) (hm : c.mut = true) (rc : RC K (al ++ [p]) (UU (al ++ [p]) (h ++ [c])) (upd H p o) c p) :
    Stp al h H (al ++ [p]) (h ++ [c]) (upd H p o) ∧ RH K (al ++ [p]) (h ++ [c]) (upd H p o) := by
  have hlen : al.length = h.length := rh.len
  have hu : ∀ a, UU (al ++ [p]) (h ++ [c]) a → UU al h a ∨ a = p := fun a ⟨n, c', e1, e2, e3⟩ => by
    rcases Nat.lt_or_ge n al.length with hn | hn
    · rw [List.getElem?_append_left hn] at e1
      rw [List.getElem?_append_left (by omega)] at e2
      exact .inl ⟨n, c', e1, e2, e3⟩
    · rw [List.getElem?_append_right hn] at e1
      by_cases hz : n - al.length = 0
      · rw [hz] at e1
        exact .inr (by simpa using e1.symm)
      · rw [List.getElem?_eq_none (by simp; omega)] at e1; cases e1
  have st : Stp al h H (al ++ [p]) (h ++ [c]) (upd H p o) := by
    refine ⟨⟨fun a u _ e => upd_grow np a u e, fun a u => ?_⟩, fun n a e => ?_⟩
    · rcases hu a u with z | z
      · exact .inl z
      · exact .inr (by rw [z]; exact np)
    · have hn : n < al.length := by
        rcases Nat.lt_or_ge n al.length with z | z
        · exact z
        · rw [List.getElem?_eq_none z] at e; cases e
      rw [List.getElem?_append_left hn]; exact e
  refine ⟨st, by simp [hlen], ?_, fun n c' a e1 e2 => ?_⟩
  · rw [List.nodup_append]
    refine ⟨rh.nd, by simp, fun a ha b hb => ?_⟩
    rw [List.mem_singleton] at hb
    subst hb
    rintro rfl
    obtain ⟨n, hn⟩ := List.getElem?_of_mem ha
    obtain ⟨u, e⟩ := rh.al_there hn
    rw [np] at e; cases e
  · rcases Nat.lt_or_ge n h.length with hn | hn
    · rw [List.getElem?_append_left hn] at e1
      rw [List.getElem?_append_left (by omega)] at e2
      have r := rh.at_ n c' a e1 e2
      obtain ⟨u, eu⟩ := r.there
      exact r.stp st (by rw [upd_grow np a u eu, eu])
    · rw [List.getElem?_append_right hn] at e1
      rw [List.getElem?_append_right (by omega)] at e2
      by_cases hz : n - h.length = 0
      · have hz2 : n - al.length = 0 := by omega
        rw [hz] at e1
        rw [hz2] at e2
        have ec : c' = c := by simpa using e1.symm
        have ea : a = p := by simpa using e2.symm
        subst ec ea
        exact rc
      · rw [List.getElem?_eq_none (by simp; omega)] at e1; cases e1
theorem Fin.lay {m : Bool} {re : Re} (f : Fin K mg E (RR K) al h H Q (lay m re h)) (rh : RH K al h H) : Pst K (UU al h) H Q re := by
  cases re with
  | v d =>
    unfold Cy.lay at f
    cases m with
    | true => exact f.elim
    | false => exact fun v H' g r => f al H' v (Stp.grow rh g) (rh.grow g) r
  | nl ds =>
    unfold Cy.lay at f
    by_cases hl : ds.length ≤ lim
    · simp only [if_pos hl] at f
      cases m with
      | true =>
        intro p xs np rs hz
        have k : Keep (UU al h) H (UU (al ++ [p]) (h ++ [.lst ds])) (upd H p (.lst xs)) := by
          refine ⟨fun a u _ e => upd_grow np a u e, fun a u => ?_⟩
          obtain ⟨n, c', e1, e2, e3⟩ := u
          rcases Nat.lt_or_ge n al.length with hn | hn
          · rw [List.getElem?_append_left hn] at e1
            rw [List.getElem?_append_left (by rw [← rh.len]; exact hn)] at e2
            exact .inl ⟨n, c', e1, e2, e3⟩
          · rw [List.getElem?_append_right hn] at e1
            by_cases hz : n - al.length = 0
            · rw [hz] at e1
              have : a = p := by simpa using e1.symm
              exact .inr (by rw [this]; exact np)
            · rw [List.getElem?_eq_none (by simp; omega)] at e1; cases e1
        obtain ⟨st, rh'⟩ := new_cell (c := .lst ds) (o := .lst xs) rh np rfl ⟨xs, upd_same, RDs.keep k rs⟩
        have hp : (al ++ [p])[h.length]? = some p := by rw [← rh.len]; simp
        exact f (al ++ [p]) _ (.ref p) st rh' ⟨p, hp, rfl⟩
      | false =>
        intro p xs np rs hz
        exact f al _ (.ref p) (Stp.grow rh (upd_grow np)) (rh.grow (upd_grow np)) (rd_new_lst rh.noU np rs)
    · simp only [if_neg hl] at f
      exact f.elim
end

section
variable {K : Fg} {al : List Addr} {h : Hs} {H : Hp}
/-- a cell that may be changed is changed -/
theorem set_cell {n : Nat} {a : Addr} {c c' : Cell} {o : HO} (rh : RH K al h H) (en : h[n]? = some c) (ea : al[n]? = some a) (hm : c.mut = true) (hm' : c'.mut = true)
    (rc : Stp al h H al (h.set n c') (upd H a o) → RC K al (UU al (h.set n c')) (upd H a o) c' a) : Stp al h H al (h.set n c') (upd H a o) ∧ RH K al (h.set n c') (upd H a o) := by
  have hn : n < h.length := by
    rcases Nat.lt_or_ge n h.length with z | z
    · exact z
    · rw [List.getElem?_eq_none z] at en; cases en
  have ua : UU al h a := ⟨n, c, ea, en, hm⟩
  have uu : ∀ b, UU al (h.set n c') b → UU al h b := fun b ⟨m, d, e1, e2, e3⟩ => by
    by_cases hmn : m = n
    · subst hmn
      rw [ea] at e1
      cases e1
      exact ua
    · rw [List.getElem?_set_ne (Ne.symm hmn)] at e2
      exact ⟨m, d, e1, e2, e3⟩
  have st : Stp al h H al (h.set n c') (upd H a o) := ⟨⟨fun b u nu e => by
    rw [upd_ne (fun z => nu (by rw [z]; exact ua))]; exact e, fun b u => .inl (uu b u)⟩, fun _ _ e => e⟩
  refine ⟨st, by rw [List.length_set]; exact rh.len, rh.nd, fun m d b e1 e2 => ?_⟩
  by_cases hmn : m = n
  · subst hmn
    rw [List.getElem?_set_self hn] at e1
    cases e1
    rw [ea] at e2
    cases e2
    exact rc st
  · rw [List.getElem?_set_ne (Ne.symm hmn)] at e1
    have r := rh.at_ m d b e1 e2
    refine r.stp st (upd_ne fun z => hmn ?_)
    subst z
    have hm1 : m < al.length := by
      rcases Nat.lt_or_ge m al.length with z | z
      · exact z
      · rw [List.getElem?_eq_none z] at e2; cases e2
    have hn1 : n < al.length := by rw [rh.len]; exact hn
    rw [List.getElem?_eq_getElem hm1] at e2
    rw [List.getElem?_eq_getElem hn1] at ea
    exact (List.getElem_inj (h₀ := hm1) (h₁ := hn1) rh.nd).mp ((Option.some.inj e2).trans (Option.some.inj ea).symm)
/-- a cell is data from now on -/
theorem fz_cell {n : Nat} {xs : List D} (rh : RH K al h H) (en : h[n]? = some (.lst xs)) : Stp al h H al (h.set n (.fz xs)) H ∧ RH K al (h.set n (.fz xs)) H := by
  have hn : n < h.length := by
    rcases Nat.lt_or_ge n h.length with z | z
    · exact z
    · rw [List.getElem?_eq_none z] at en; cases en
  have uu : ∀ b, UU al (h.set n (.fz xs)) b → UU al h b := fun b ⟨m, d, e1, e2, e3⟩ => by
    by_cases hmn : m = n
    · subst hmn
      rw [List.getElem?_set_self hn] at e2
      cases e2
      cases e3
    · rw [List.getElem?_set_ne (Ne.symm hmn)] at e2
      exact ⟨m, d, e1, e2, e3⟩
  have st : Stp al h H al (h.set n (.fz xs)) H := ⟨⟨fun b u nu e => e, fun b u => .inl (uu b u)⟩, fun _ _ e => e⟩
  refine ⟨st, by rw [List.length_set]; exact rh.len, rh.nd, fun m d b e1 e2 => ?_⟩
  by_cases hmn : m = n
  · subst hmn
    rw [List.getElem?_set_self hn] at e1
    cases e1
    have r := rh.at_ m _ b en e2
    obtain ⟨vs, e, q⟩ := r
    exact ⟨vs, e, RDs.keep st.k q⟩
  · rw [List.getElem?_set_ne (Ne.symm hmn)] at e1
    exact (rh.at_ m d b e1 e2).stp st rfl
end

/-! ### the readings -/
def tM (X : Cx) (W : WX) (m : Rho → M R) : TE := fun σ H Q => ∃ al h ρ, RH X.K al h H ∧ RS X.K al (UU al h) H ρ σ ∧ Fin X.K X.mg (fun cls dd H' => W cls dd σ H') (RR X.K) al h H Q (m ρ h)
def tMs (X : Cx) (W : WX) (m : Rho → M (List R)) : TA := fun σ H Q => ∃ al h ρ, RH X.K al h H ∧ RS X.K al (UU al h) H ρ σ ∧ Fin X.K X.mg (fun cls dd H' => W cls dd σ H') (RRs X.K) al h H Q (m ρ h)
def tMb (X : Cx) (W : WX) (m : Rho → M R) : TT := fun σ H Q => tM X W m σ H fun v H' => ∃ b, v = .bl b ∧ Q b H'

theorem PE.imp {X : Cx} {e : Expr} {t t' : TE} (p : PE X e t) (i : ∀ σ H Q, t' σ H Q → t σ H Q) : PE X e t' := ⟨fun pins s σ H Q I h => p.run pins s σ H Q I (i σ H Q h)⟩
theorem PT.imp {X : Cx} {e : Expr} {t t' : TT} (p : PT X e t) (i : ∀ σ H Q, t' σ H Q → t σ H Q) : PT X e t' := ⟨fun pins s σ H Q I h => p.run pins s σ H Q I (i σ H Q h)⟩
theorem PA.imp {X : Cx} {e : List Expr} {t t' : TA} (p : PA X e t) (i : ∀ σ H Q, t' σ H Q → t σ H Q) : PA X e t' := ⟨fun pos pins s σ H Q I h => p.run pos pins s σ H Q I (i σ H Q h)⟩

end Cy


set_option Elab.async false
set_option linter.all false
set_option maxRecDepth 100000
set_option maxHeartbeats 4000000
/-! L3b: the check that a mini-expression is what the row's syntax says. -/
namespace Cy
open PySem PySem.Spec PyProof.Rows L2

mutual
def beqD : D → D → Bool
  | .none, .none => true
  | .bool a, .bool b => a == b
  | .int a, .int b => decide (a = b)
  | .str a, .str b => decide (a = b)
  | .list a, .list b => beqDs a b
  | .tuple a, .tuple b => beqDs a b
  | .dict a, .dict b => beqDk a b
  | _, _ => false
def beqDs : List D → List D → Bool
  | [], [] => true
  | a :: r, b :: s => beqD a b && beqDs r s
  | _, _ => false
def beqDk : List (D × D) → List (D × D) → Bool
  | [], [] => true
  | (a, c) :: r, (b, d) :: s => beqD a b && beqD c d && beqDk r s
  | _, _ => false
end
mutual
theorem beqD_eq : ∀ {a b : D}, beqD a b = true → a = b
  | .none, .none, _ => rfl
  | .bool a, .bool b, h => by unfold beqD at h; rw [eq_of_beq h]
  | .int a, .int b, h => by unfold beqD at h; rw [of_decide_eq_true h]
  | .str a, .str b, h => by unfold beqD at h; rw [of_decide_eq_true h]
  | .list a, .list b, h => by unfold beqD at h; rw [beqDs_eq h]
  | .tuple a, .tuple b, h => by unfold beqD at h; rw [beqDs_eq h]
  | .dict a, .dict b, h => by unfold beqD at h; rw [beqDk_eq h]
  | .none, .bool _, h | .none, .int _, h | .none, .str _, h | .none, .list _, h | .none, .tuple _, h | .none, .dict _, h => by simp [beqD] at h
  | .bool _, .none, h | .bool _, .int _, h | .bool _, .str _, h | .bool _, .list _, h | .bool _, .tuple _, h | .bool _, .dict _, h => by simp [beqD] at h
  | .int _, .none, h | .int _, .bool _, h | .int _, .str _, h | .int _, .list _, h | .int _, .tuple _, h | .int _, .dict _, h => by simp [beqD] at h
  | .str _, .none, h | .str _, .bool _, h | .str _, .int _, h | .str _, .list _, h | .str _, .tuple _, h | .str _, .dict _, h => by simp [beqD] at h
  | .list _, .none, h | .list _, .bool _, h | .list _, .int _, h | .list _, .str _, h | .list _, .tuple _, h | .list _, .dict _, h => by simp [beqD] at h
  | .tuple _, .none, h | .tuple _, .bool _, h | .tuple _, .int _, h | .tuple _, .str _, h | .tuple _, .list _, h | .tuple _, .dict _, h => by simp [beqD] at h
  | .dict _, .none, h | .dict _, .bool _, h | .dict _, .int _, h | .dict _, .str _, h | .dict _, .list _, h | .dict _, .tuple _, h => by simp [beqD] at h
theorem beqDs_eq : ∀ {a b : List D}, beqDs a b = true → a = b
  | [], [], _ => rfl
  | a :: r, b :: s, h => by
    unfold beqDs at h
    rw [Bool.and_eq_true] at h
    rw [beqD_eq h.1, beqDs_eq h.2]
  | [], _ :: _, h => by simp [beqDs] at h
  | _ :: _, [], h => by simp [beqDs] at h
theorem beqDk_eq : ∀ {a b : List (D × D)}, beqDk a b = true → a = b
  | [], [], _ => rfl
  | (a, c) :: r, (b, d) :: s, h => by
    unfold beqDk at h
    rw [Bool.and_eq_true, Bool.and_eq_true] at h
    rw [beqD_eq h.1.1, beqD_eq h.1.2, beqDk_eq h.2]
  | [], _ :: _, h => by simp [beqDk] at h
  | _ :: _, [], h => by simp [beqDk] at h
end

/-- the names of a row: of functions, of constants -/
structure Tb where
  fnm : Nat → Option Str
  gnm : List (Nat × Str × D)
  dnm : List (Nat × Str × List (D × D))
  fnt : List (Nat × Str × List (Str × Str))

/-! ### what is seen of the syntax -/
def notStar : Expr → Bool
  | .Starred .. => false
  | _ => true
def notSet : Expr → Bool
  | .Set .. => false
  | _ => true
def notSlice : Expr → Bool
  | .Slice .. => false
  | _ => true
/-- no call without arguments (super) -/
def notSuper : Expr → Bool
  | .Call (.Name ..) [] [] _ => false
  | _ => true
def visB (sc : Scope) (x : Str) : Bool :=
  match sc.names.lookup x with
  | some .local => true
  | some .cell => true
  | some .free => true
  | _ => false
def glB (sc : Scope) (x : Str) : Bool := decide (sc.names.lookup x = some .globalImplicit)
def okN (x : Str) : Bool := !(x == ("__debug__" : Str)) && !(x == ("__classdict__" : Str)) && !(decide (x = ("__name__" : Str)))

theorem visB_ok {sc : Scope} {x : Str} (h : visB sc x = true) : Vis sc x := by
  unfold visB at h
  split at h <;> first | (rename_i e; first | exact .inl e | exact .inr (.inl e) | exact .inr (.inr e)) | cases h
theorem okN_ok {x : Str} (h : okN x = true) : (x == ("__debug__" : Str)) = false ∧ (x == ("__classdict__" : Str)) = false ∧ x ≠ "__name__" := by
  unfold okN at h
  simp only [Bool.and_eq_true, Bool.not_eq_true', decide_eq_false_iff_not] at h
  exact ⟨h.1.1, h.1.2, h.2⟩

theorem star_cons {e : Expr} {es : List Expr} {env : Env} (h : notStar e = true) : starEach (e :: es) env = (false, eval e env) :: starEach es env := by
  cases e <;> first | rfl | cases h
theorem star_any {env : Env} {pos : Pos} : ∀ {es : List Expr}, es.all notStar = true → (backTo pos (starEach es env)).any (·.1) = false
  | [], _ => rfl
  | e :: es, h => by
    rw [List.all_cons, Bool.and_eq_true] at h
    rw [star_cons h.1]
    have ih := star_any (env := env) (pos := pos) h.2
    unfold backTo at ih ⊢
    rw [List.map_cons, List.any_cons, ih]
    rfl
theorem set_no {op : CmpOp} {e : Expr} (h : notSet e = true) : behindInMarks op e = false := by
  cases e <;> first | rfl | cases h
theorem ix_plain {e : Expr} (h : notSlice e = true) : PlainIx e := by
  intro o i
  cases e <;> first | rfl | cases h
theorem super_no {e : Expr} {f : Str} {env : Env} (h : notSuper e = true) : attributeBase e f env (eval e env) = eval e env := by
  unfold attributeBase
  split
  · cases h
  · rfl
theorem fold_no {e : Expr} {env : Env} (h : notSet e = true) : ∀ x, foldedSetIterable e env x = pure x := by
  intro x
  unfold foldedSetIterable
  cases e <;> first | rfl | cases h
theorem marks_no {o1 o2 : CmpOp} {b c : Expr} (h : notSet c = true) : lastMarks [o1, o2] [b, c] = false := by
  show behindInMarks o2 c = false
  exact set_no h
theorem marks_no3 {o1 o2 o3 : CmpOp} {b c d : Expr} (h : notSet d = true) : lastMarks [o1, o2, o3] [b, c, d] = false := by
  show behindInMarks o3 d = false
  exact set_no h
/-- a value in a test's place is looked at as a value -/
def plainT : Expr → Bool
  | .UnaryOp .Not _ _ => false
  | .BoolOp .. => false
  | .IfExp .. => false
  | .Compare .. => false
  | _ => true
theorem plainT_ok {e : Expr} {env : Env} (h : plainT e = true) : ∀ whole, isTrue e env whole = (do let v ← whole; standAt e.pos; holding [v] (truthy v)) := by
  intro whole
  cases e <;> first
    | rfl
    | cases h
    | (rename_i op _ _; cases op <;> first | rfl | cases h)

def litB : D → Const → Bool
  | .none, .none => true
  | .bool a, .bool b => a == b
  | .int a, .int b => decide (a = b)
  | .str a, .str b => decide (a = b)
  | _, _ => false
def bfN : Bf → Str
  | .len => "len"
  | .all => "all"
  | .any => "any"
  | .sum => "sum"
  | .tuple => "tuple"
  | .list => "list"
  | .min => "min"
  | .max => "max"
  | .abs => "abs"
  | .int => "int"
  | .str => "str"
  | .repr => "repr"
  | .sorted => "sorted"
  | .divmod => "divmod"
def tyN : Ty → Str
  | .int => "int"
  | .bool => "bool"
  | .str => "str"
  | .tuple => "tuple"
  | .list => "list"
  | .dict => "dict"
def mtN : Mt → Str
  | .join => "join"
  | .split => "split"
  | .count => "count"

/-- a target -/
def chkT (fnc : Str → Bool) (sc : Scope) (N : List Str) : Tg → Expr → Bool
  | .n i, .Name x _ => decide (N[i]? = some x) && (match sc.names.lookup x with
    | some .local => true
    | some .cell => fnc x
    | _ => false)
  | .t l, .Tuple es _ _ => go l es
  | _, _ => false
where go : List Tg → List Expr → Bool
  | [], [] => true
  | t :: l, e :: es => notStar e && chkT fnc sc N t e && go l es
  | _, _ => false
def tgS : Tg → List Nat
  | .n i => [i]
  | .t l => go l
where go : List Tg → List Nat
  | [] => []
  | t :: l => tgS t ++ go l
def fncOf (scope : Scope) (x : Str) : Bool := scope.names.lookup x == some .cell

def isTupT : Expr → Bool
  | .Tuple .. => true
  | _ => false
theorem isTupT_ok {e : Expr} (h : isTupT e = true) : ∃ a b c, e = .Tuple a b c := by
  cases e <;> first | exact ⟨_, _, _, rfl⟩ | cases h

def ownOf (N : List Str) (own : List Nat) : List (Str × Nat) := own.filterMap fun i => (N[i]?).map fun x => (x, i)

def isNil : E → Bool
  | .nil => true
  | _ => false
def isYes : E → Bool
  | .lit (.bool true) => true
  | _ => false

/-- how an expression is looked at: as a value, as a test, as what is walked (the target a tuple) -/
inductive Md where
  | v
  | t
  | i (tt : Bool)
/-- a table of functions by their names is the table by their numbers -/
def tabB (fnm : Nat → Option Str) : List (Str × Nat) → List (Str × Str) → Bool
  | [], [] => true
  | (z, f) :: r, (y, n) :: t => decide (z = y) && decide (fnm f = some n) && tabB fnm r t
  | _, _ => false
mutual
def chkM (T : Tb) (sc : Scope) (N : List Str) : E → Md → Expr → Bool
  | .lit d => fun _ => fun
    | .Constant c _ _ => litB d c
    | _ => false
  | .v i => fun _ => fun
    | .Name x _ => decide (N[i]? = some x) && visB sc x && okN x
    | _ => false
  | .fz i => fun _ => fun
    | .Name x _ => decide (N[i]? = some x) && visB sc x && okN x
    | _ => false
  | .gl g d => fun _ => fun
    | .Name x _ => (T.gnm.any fun p => decide (p.1 = g) && decide (p.2.1 = x) && beqD p.2.2 d) && glB sc x && okN x
    | _ => false
  | .ing neg a g kvs => fun _ => fun
    | .Compare pa [op] [.Name x _] _ => decide (op = if neg then CmpOp.NotIn else CmpOp.In) && (T.dnm.any fun p => decide (p.1 = g) && decide (p.2.1 = x) && beqDk p.2.2 kvs) && glB sc x && okN x && chkM T sc N a .v pa
    | _ => false
  | .ixg g kvs a => fun _ => fun
    | .Subscript (.Name x _) pa _ => (T.dnm.any fun p => decide (p.1 = g) && decide (p.2.1 = x) && beqDk p.2.2 kvs) && glB sc x && okN x && notSlice pa && chkM T sc N a .v pa
    | _ => false
  | .tup es => fun _ => fun
    | .Tuple pes _ _ => chks T sc N es pes
    | _ => false
  | .lst _ es => fun _ => fun
    | .List pes _ => chks T sc N es pes
    | _ => false
  | .dnew _ => fun _ => fun
    | .Dict [] [] _ => true
    | _ => false
  | .bin _ op a b => fun _ => fun
    | .BinOp pa pop pb _ => decide (op = pop) && chkM T sc N a .v pa && chkM T sc N b .v pb
    | _ => false
  | .neg a => fun _ => fun
    | .UnaryOp .USub pa _ => chkM T sc N a .v pa
    | _ => false
  | .cmp op a b => fun _ => fun
    | .Compare pa [pop] [pb] _ => decide (op = pop) && notSet pb && chkM T sc N a .v pa && chkM T sc N b .v pb
    | _ => false
  | .chn o1 o2 a b c => fun _ => fun
    | .Compare pa [p1, p2] [pb, pc] _ => decide (o1 = p1) && decide (o2 = p2) && notSet pc && chkM T sc N a .v pa && chkM T sc N b .v pb && chkM T sc N c .v pc
    | _ => false
  | .chn3 o1 o2 o3 a b c d => fun
    | .t => fun _ => false
    | _ => fun
      | .Compare pa [p1, p2, p3] [pb, pc, pd] _ => decide (o1 = p1) && decide (o2 = p2) && decide (o3 = p3) && notSet pd && chkM T sc N a .v pa && chkM T sc N b .v pb && chkM T sc N c .v pc && chkM T sc N d .v pd
      | _ => false
  | .and a b => fun
    | .t => fun
      | .BoolOp .And (pa :: pb :: rest) pos => chkM T sc N a .t pa && (match rest with
        | [] => chkM T sc N b .t pb
        | r :: rs => chkM T sc N b .t (.BoolOp .And (pb :: r :: rs) pos))
      | _ => false
    | _ => fun
      | .BoolOp .And (pa :: pb :: rest) pos => chkM T sc N a .v pa && (match rest with
        | [] => chkM T sc N b .v pb
        | r :: rs => chkM T sc N b .v (.BoolOp .And (pb :: r :: rs) pos))
      | _ => false
  | .or a b => fun
    | .t => fun
      | .BoolOp .Or (pa :: pb :: rest) pos => chkM T sc N a .t pa && (match rest with
        | [] => chkM T sc N b .t pb
        | r :: rs => chkM T sc N b .t (.BoolOp .Or (pb :: r :: rs) pos))
      | _ => false
    | _ => fun
      | .BoolOp .Or (pa :: pb :: rest) pos => chkM T sc N a .v pa && (match rest with
        | [] => chkM T sc N b .v pb
        | r :: rs => chkM T sc N b .v (.BoolOp .Or (pb :: r :: rs) pos))
      | _ => false
  | .not a => fun
    | .t => fun
      | .UnaryOp .Not pa _ => chkM T sc N a .t pa
      | _ => false
    | _ => fun
      | .UnaryOp .Not pa _ => chkM T sc N a .v pa
      | _ => false
  | .ite c a b => fun
    | .t => fun _ => false
    | _ => fun
      | .IfExp pc pa pb _ => chkM T sc N c .t pc && chkM T sc N a .v pa && chkM T sc N b .v pb
      | _ => false
  | .ix a i => fun _ => fun
    | .Subscript pa pi _ => notSlice pi && chkM T sc N a .v pa && chkM T sc N i .v pi
    | _ => false
  | .sl _ a lo hi => fun _ => fun
    | .Subscript pa (.Slice pl ph none _) _ => chkM T sc N a .v pa && (match pl with
        | none => isNil lo
        | some p => !(isNil lo) && chkM T sc N lo .v p) && (match ph with
        | none => isNil hi
        | some p => !(isNil hi) && chkM T sc N hi .v p)
    | _ => false
  | .nil => fun _ _ => false
  | .isi t a => fun _ => fun
    | .Call (.Name f _) [pa, .Name c _] [] _ => decide (f = ("isinstance" : Str)) && glB sc f && decide (c = tyN t) && glB sc c && notStar pa && chkM T sc N a .v pa
    | _ => false
  | .bif _ f es => fun _ => fun
    | .Call (.Name x _) (pe :: pes) [] _ => decide (x = bfN f) && glB sc x && chks T sc N es (pe :: pes)
    | _ => false
  | .mth _ f o es => fun _ => fun
    | .Call (.Attribute po nm apos) [pe] [] pos => decide (nm = mtN f) && notSuper po && (apos.endLine == pos.line) && chkM T sc N o .v po && chks T sc N es [pe]
    | _ => false
  | .app o e => fun _ => fun
    | .Call (.Attribute po nm apos) [pe] [] pos => decide (nm = ("append" : Str)) && notSuper po && (apos.endLine == pos.line) && notStar pe && chkM T sc N o .v po && chkM T sc N e .v pe
    | _ => false
  | .pop o i => fun _ => fun
    | .Call (.Attribute po nm apos) [pe] [] pos => decide (nm = ("pop" : Str)) && notSuper po && (apos.endLine == pos.line) && notStar pe && chkM T sc N o .v po && chkM T sc N i .v pe
    | _ => false
  | .popl o => fun _ => fun
    | .Call (.Attribute po nm apos) [] [] pos => decide (nm = ("pop" : Str)) && notSuper po && (apos.endLine == pos.line) && chkM T sc N o .v po
    | _ => false
  | .call f es => fun _ => fun
    | .Call (.Name x _) (pe :: pes) [] _ => decide (T.fnm f = some x) && glB sc x && okN x && chks T sc N es (pe :: pes)
    | .Call (.Name x _) [] [] _ => decide (T.fnm f = some x) && glB sc x && okN x && es.isEmpty
    | _ => false
  | .rng es => fun
    | .i _ => fun
      | .Call (.Name f _) [pa] [] _ => decide (f = ("range" : Str)) && glB sc f && (es.length == 1) && chks T sc N es [pa]
      | .Call (.Name f _) [pa, pb] [] _ => decide (f = ("range" : Str)) && glB sc f && (es.length == 2) && chks T sc N es [pa, pb]
      | .Call (.Name f _) [pa, pb, pc] [] _ => decide (f = ("range" : Str)) && glB sc f && (es.length == 3) && chks T sc N es [pa, pb, pc]
      | _ => false
    | _ => fun _ => false
  | .enm e => fun
    | .i tt => fun
      | .Call (.Name f _) [pe] [] _ => tt && decide (f = ("enumerate" : Str)) && glB sc f && notStar pe && chkM T sc N e .v pe
      | _ => false
    | _ => fun _ => false
  | .zip a b => fun
    | .i tt => fun
      | .Call (.Name f _) [pa, pb] [] _ => tt && decide (f = ("zip" : Str)) && glB sc f && notStar pa && notStar pb && chkM T sc N a .v pa && chkM T sc N b .v pb
      | _ => false
    | _ => fun _ => false
  | .comp _ own elt tg it cond => fun _ => fun
    | .ListComp pelt [⟨ptg, pit, pifs, 0⟩] scope _ =>
      notSet pit && chkM T sc N it (.i (isTupT ptg)) pit && blkC N sc scope (ownOf N own) && decide ((ownOf N own).map (·.2) = own) && (tgS tg).all (own.contains ·) && chkT (fncOf scope) (relS scope sc) N tg ptg && chkM T (relS scope sc) N elt .v pelt && (match pifs with
        | [] => isYes cond
        | [pc] => chkM T (relS scope sc) N cond .t pc
        | _ => false)
    | _ => false
  | .lrg _ a => fun _ => fun
    | .Call (.Name f _) [.Call (.Name c _) [pa] [] _] [] _ => decide (f = ("list" : Str)) && glB sc f && decide (c = ("range" : Str)) && glB sc c && notStar pa && chkM T sc N a .v pa
    | _ => false
  | .lset e => fun _ => fun
    | .Call (.Name f _) [.Call (.Name c _) [pa] [] _] [] _ => decide (f = ("len" : Str)) && glB sc f && decide (c = ("set" : Str)) && glB sc c && notStar pa && chkM T sc N e .v pa
    | _ => false
  | .lsc own elt tg it cond => fun _ => fun
    | .Call (.Name f _) [.SetComp pelt [⟨ptg, pit, pifs, 0⟩] scope _] [] _ => decide (f = ("len" : Str)) && glB sc f && (
      notSet pit && chkM T sc N it (.i (isTupT ptg)) pit && blkC N sc scope (ownOf N own) && decide ((ownOf N own).map (·.2) = own) && (tgS tg).all (own.contains ·) && chkT (fncOf scope) (relS scope sc) N tg ptg && chkM T (relS scope sc) N elt .v pelt && (match pifs with
        | [] => isYes cond
        | [pc] => chkM T (relS scope sc) N cond .t pc
        | _ => false))
    | _ => false
  | .dcm own k v tg it cond => fun _ => fun
    | .DictComp pk pv [⟨ptg, pit, pifs, 0⟩] scope _ => chkM T (relS scope sc) N v .v pv && (
      notSet pit && chkM T sc N it (.i (isTupT ptg)) pit && blkC N sc scope (ownOf N own) && decide ((ownOf N own).map (·.2) = own) && (tgS tg).all (own.contains ·) && chkT (fncOf scope) (relS scope sc) N tg ptg && chkM T (relS scope sc) N k .v pk && (match pifs with
        | [] => isYes cond
        | [pc] => chkM T (relS scope sc) N cond .t pc
        | _ => false))
    | _ => false
  | .ind neg a d => fun _ => fun
    | .Compare pa [op] [pd] _ => decide (op = if neg then CmpOp.NotIn else CmpOp.In) && notSet pd && chkM T sc N a .v pa && chkM T sc N d .v pd
    | _ => false
  | .ixd d a => fun _ => fun
    | .Subscript pd pa _ => notSlice pa && chkM T sc N d .v pd && chkM T sc N a .v pa
    | _ => false
  | .fcal g tab a es => fun _ => fun
    | .Call (.Subscript (.Name x _) pa _) (pe :: pes) [] _ => (T.fnt.any fun p => decide (p.1 = g) && decide (p.2.1 = x) && tabB T.fnm tab p.2.2) && glB sc x && okN x && notSlice pa && chkM T sc N a .v pa && chks T sc N es (pe :: pes)
    | _ => false
  | .comp2 _ own own1 elt tg it cond tg1 it1 cond1 => fun _ => fun
    | .ListComp pelt [⟨ptg, pit, pifs, 0⟩, ⟨ptg1, pit1, pifs1, 0⟩] scope _ =>
      notSet pit && notSet pit1 && chkM T sc N it (.i (isTupT ptg)) pit && blkC N sc scope (ownOf N own) && decide ((ownOf N own).map (·.2) = own) && (tgS tg).all (own.contains ·) && (own1.all (own.contains ·)) && (tgS tg1).all (own1.contains ·) &&
      chkT (fncOf scope) (relS scope sc) N tg ptg && chkT (fncOf scope) (relS scope sc) N tg1 ptg1 && chkM T (relS scope sc) N it1 (.i (isTupT ptg1)) pit1 && chkM T (relS scope sc) N elt .v pelt && (match pifs with
        | [] => isYes cond
        | [pc] => chkM T (relS scope sc) N cond .t pc
        | _ => false) && (match pifs1 with
        | [] => isYes cond1
        | [pc] => chkM T (relS scope sc) N cond1 .t pc
        | _ => false)
    | _ => false
def chks (T : Tb) (sc : Scope) (N : List Str) : List E → List Expr → Bool
  | [] => fun
    | [] => true
    | _ => false
  | e :: es => fun
    | p :: ps => notStar p && chkM T sc N e .v p && chks T sc N es ps
    | _ => false
end
abbrev chk (T : Tb) (sc : Scope) (N : List Str) (e : E) (p : Expr) : Bool := chkM T sc N e .v p
abbrev chkB (T : Tb) (sc : Scope) (N : List Str) (e : E) (p : Expr) : Bool := chkM T sc N e .t p
abbrev chkI (T : Tb) (sc : Scope) (N : List Str) (tt : Bool) (e : E) (p : Expr) : Bool := chkM T sc N e (.i tt) p

/-- the statement's value is no comprehension on a line of its own -/
def notComp : Expr → Bool
  | .ListComp .. => false
  | .SetComp .. => false
  | .DictComp .. => false
  | _ => true
theorem swaps_no {e : Expr} {t : Option Expr} {l : Nat} {env : Env} (h : notComp e = true) : swapsWith e t l env = pure false := by
  unfold swapsWith
  cases e <;> first | rfl | cases h

end Cy


set_option Elab.async false
set_option linter.all false
set_option maxRecDepth 100000
set_option maxHeartbeats 4000000
/-! L3c: what a def promises by the mini-language; the rules for expressions, one by one. -/
namespace Cy
open PySem PySem.Spec PyProof.Rows L2

/-- the promise of function f: its arguments are the cells and data rs, and it ends as cal says -/
def spM (K : Fg) (mg : Str → Option Value) (cal : Cal) (f : Nat) : Sp := fun vs H Q E =>
  ∃ al h rs, RH K al h H ∧ RRs K al (UU al h) H rs vs ∧ Fin K mg E (RR K) al h H Q (cal f rs h)

/-- a def at f keeps its promise wherever no guard of repr stands around -/
structure FnG (P : Program) (w : World) (K : Fg) (mg : Str → Option Value) (base : Heap) (k : Nat) (f : Addr) (fd : FuncData) (ps : List Str) (sp : Sp) : Prop where
  len : ∀ vs H Q E, sp vs H Q E → vs.length = ps.length
  run : ∀ (A : Around) (outer : List Env) (s : Shared) (H : Hp) (args : Args) (us : List Value) (vs : List V) (Q : VK) (E : XK), Room k A → A.guards = some [] → Env0 P w K mg base A outer s H →
    BindsTo s fd args (ps.zip us) → Vals vs us → sp vs H Q E → codeAny (model P w) A (.call (.ref f) args) (CR (L2.CX P w) outer P w H s Q E) s

def CallOk (T : Tb) (cal : Cal) (k : Nat) (P : Program) (w : World) (K : Fg) (mg : Str → Option Value) (base : Heap) : Prop :=
  ∀ f x, T.fnm f = some x → ∃ (a : Addr) (fd : FuncData) (ps : List Str), mg x = some (.ref a) ∧ PySem.W.keepIn K (.ref a) = true ∧ Binds K fd ps [] ∧ FnG P w K mg base k a fd ps (spM K mg cal f)

/-- a module's constant -/
def GlobOk (T : Tb) (K : Fg) (mg : Str → Option Value) : Prop :=
  ∀ p ∈ T.gnm, ∃ u v, mg p.2.1 = some u ∧ RelV v u ∧ ∀ U H, RD K U H p.2.2 v

/-- a written dict of the module, its keys texts -/
def DictOk (T : Tb) (K : Fg) (w : World) (mg : Str → Option Value) : Prop :=
  ∀ p ∈ T.dnm, ∃ (d : Addr) (es : Array DictEntry) (n : Nat), mg p.2.1 = some (.ref d) ∧ KDict K w d es n ∧ ∀ z, match findK z p.2.2 with
    | none => PySem.W.nsIn K d z = some none
    | some y => ∃ u v, PySem.W.nsIn K d z = some (some u) ∧ RelV v u ∧ ∀ U H, RD K U H y v

def bltN : List Str := ["len", "all", "any", "sum", "tuple", "list", "min", "max", "abs", "int", "str", "repr", "sorted", "divmod", "isinstance", "range", "enumerate", "zip", "bool", "dict", "set"]

/-- a name's function in a table -/
def lookS (z : Str) : List (Str × Str) → Option Str
  | [] => none
  | (x, n) :: t => if x = z then some n else lookS z t
/-- a written dict of the module, its keys texts, its values functions -/
def FtabOk (T : Tb) (K : Fg) (w : World) (mg : Str → Option Value) : Prop :=
  ∀ p ∈ T.fnt, ∃ (d : Addr) (es : Array DictEntry) (n : Nat), mg p.2.1 = some (.ref d) ∧ KDict K w d es n ∧ ∀ z nm, lookS z p.2.2 = some nm → ∃ a : Addr, PySem.W.nsIn K d z = some (some (.ref a)) ∧ mg nm = some (.ref a)
structure Gx (T : Tb) (cal : Cal) (k : Nat) (X : Cx) (sc : Scope) (N : List Str) : Prop where
  nN : X.N = N
  nd : N.Nodup
  sc : X.env.scope = sc
  calm : X.calm = true
  room : Room k X.A
  gd : X.A.guards = some []
  calls : CallOk T cal k X.prog X.w X.K X.mg X.base
  globs : GlobOk T X.K X.mg
  dicts : DictOk T X.K X.w X.mg
  ftabs : FtabOk T X.K X.w X.mg
  blt : ∀ x ∈ bltN, X.mg x = none

section
variable {T : Tb} {cal : Cal} {k : Nat} {X : Cx} {sc : Scope} {N : List Str} {W : WX}

theorem Gx.u80 (g : Gx T cal k X sc N) : X.A.units + 80 < cLine := by have := g.room.un; omega
theorem Gx.u65 (g : Gx T cal k X sc N) : X.A.units + 65 < cLine := by have := g.room.un; omega
theorem Gx.gl (g : Gx T cal k X sc N) {x : Str} (h : glB sc x = true) : Gl X x := by
  show X.env.scope.names.lookup x = some .globalImplicit
  rw [g.sc]
  exact of_decide_eq_true h
theorem Gx.vis (g : Gx T cal k X sc N) {x : Str} (h : visB sc x = true) : Vis X.env.scope x := by
  rw [g.sc]; exact visB_ok h
theorem Gx.at_ (g : Gx T cal k X sc N) {i : Nat} {x : Str} (h : N[i]? = some x) : X.N[i]? = some x := by rw [g.nN]; exact h

theorem Paired.get {α β : Type} {F : α → β → Prop} : ∀ {as : List α} {bs : List β} {i : Nat} {a : α}, Paired F as bs → as[i]? = some a → ∃ b, bs[i]? = some b ∧ F a b
  | _, _, _, _, .nil, e => by simp at e
  | _, _, 0, _, .cons r _, e => by simp at e; subst e; exact ⟨_, rfl, r⟩
  | _, _, i + 1, _, .cons _ t, e => by
    obtain ⟨v, h1, h2⟩ := Paired.get (i := i) t (by simpa using e)
    exact ⟨v, by simpa using h1, h2⟩

/-! ### constants, names -/
theorem lit_ok {d : D} {c : Const} {j : Nat} {pos : Pos} (h : litB d c = true) : PE X (.Constant c j pos) (tM X W (ev cal (.lit d))) := by
  have go : ∀ (v : V), (∀ U H, RD X.K U H d v) → PE X (.Constant c j pos) (tC v) → PE X (.Constant c j pos) (tM X W (ev cal (.lit d))) := fun v r p =>
    PE.imp p fun σ H Q ⟨al, hh, ρ, rh, rs, fin⟩ => Fin.ret (α := R) (r := .d d) fin rh (r _ _)
  unfold litB at h
  split at h
  · exact go _ (fun _ _ => .non) pe_non
  · cases eq_of_beq h
    exact go _ (fun _ _ => .bl _) pe_bl
  · cases of_decide_eq_true h
    exact go _ (fun _ _ => .int _) pe_int
  · cases of_decide_eq_true h
    exact go _ (fun _ _ => .str _) pe_str
  · cases h
theorem join_some {α : Type} {o : Option (Option α)} {a : α} (h : o.join = some a) : o = some (some a) := by
  cases o with
  | none => cases h
  | some b => cases b with
    | none => cases h
    | some c => cases h; rfl
theorem v_ok (g : Gx T cal k X sc N) {i : Nat} {x : Str} {pos : Pos} (h1 : N[i]? = some x) (h2 : visB sc x = true) (h3 : okN x = true) : PE X (.Name x pos) (tM X W (ev cal (.v i))) := by
  obtain ⟨n1, n2, n3⟩ := okN_ok h3
  refine PE.imp (pe_var (g.at_ h1) (g.vis h2) n1 n2) fun σ H Q ⟨al, hh, ρ, rh, rs, fin⟩ => ?_
  unfold ev at fin
  cases e : (ρ[i]?).join with
  | none => rw [e] at fin; exact fin.elim
  | some r =>
    rw [e] at fin
    obtain ⟨v, ev', rr⟩ := rs.2 i r (join_some e)
    exact ⟨v, ev', fin al H v (Stp.refl al hh H) rh rr⟩
theorem al_inj {K : Fg} {al : List Addr} {h : Hs} {H : Hp} (rh : RH K al h H) {m n : Nat} {a : Addr} (e1 : al[m]? = some a) (e2 : al[n]? = some a) : m = n := by
  have h1 : m < al.length := by
    rcases Nat.lt_or_ge m al.length with z | z
    · exact z
    · rw [List.getElem?_eq_none z] at e1; cases e1
  have h2 : n < al.length := by
    rcases Nat.lt_or_ge n al.length with z | z
    · exact z
    · rw [List.getElem?_eq_none z] at e2; cases e2
  rw [List.getElem?_eq_getElem h1] at e1
  rw [List.getElem?_eq_getElem h2] at e2
  exact (List.getElem_inj (h₀ := h1) (h₁ := h2) rh.nd).mp ((Option.some.inj e1).trans (Option.some.inj e2).symm)
theorem fz_ok (g : Gx T cal k X sc N) {i : Nat} {x : Str} {pos : Pos} (h1 : N[i]? = some x) (h2 : visB sc x = true) (h3 : okN x = true) : PE X (.Name x pos) (tM X W (ev cal (.fz i))) := by
  obtain ⟨n1, n2, n3⟩ := okN_ok h3
  refine PE.imp (pe_var (g.at_ h1) (g.vis h2) n1 n2) fun σ H Q ⟨al, hh, ρ, rh, rs, fin⟩ => ?_
  unfold ev at fin
  obtain ⟨r, e, fin2⟩ := Fin.opt fin
  obtain ⟨v, ev', rr⟩ := rs.2 i r (join_some e)
  refine ⟨v, ev', ?_⟩
  cases r with
  | d y => exact fin2 al H v (Stp.refl al hh H) rh rr
  | ref n =>
    obtain ⟨a, ea, rfl⟩ := rr
    have fin3 : Fin X.K X.mg (fun cls dd H' => W cls dd σ H') (RR X.K) al hh H Q (fzC n hh hh[n]?) := fin2
    cases q : hh[n]? with
    | none => rw [q] at fin3; exact fin3.elim
    | some c =>
      rw [q] at fin3
      cases c with
      | dct t kvs => exact fin3.elim
      | fz xs =>
        obtain ⟨vs, eh, rds⟩ := rh.at_ n _ a q ea
        have nu : ¬ UU al hh a := fun ⟨m, c, e1, e2, e3⟩ => by
          cases al_inj rh e1 ea
          rw [q] at e2
          cases e2
          cases e3
        exact fin3 al H _ (Stp.refl al hh H) rh (.lst nu (.inl eh) rds)
      | lst xs =>
        obtain ⟨st, rh'⟩ := fz_cell rh q
        obtain ⟨vs, eh, rds⟩ := rh.at_ n _ a q ea
        have hn : n < hh.length := by
          rcases Nat.lt_or_ge n hh.length with z | z
          · exact z
          · rw [List.getElem?_eq_none z] at q; cases q
        have nu : ¬ UU al (hh.set n (.fz xs)) a := fun ⟨m, c, e1, e2, e3⟩ => by
          cases al_inj rh e1 ea
          rw [List.getElem?_set_self hn] at e2
          cases e2
          cases e3
        exact fin3 al H _ st rh' (.lst nu (.inl eh) (RDs.keep st.k rds))
theorem gl_ok (g : Gx T cal k X sc N) {n : Nat} {d : D} {x : Str} {pos : Pos} (h1 : (T.gnm.any fun p => decide (p.1 = n) && decide (p.2.1 = x) && beqD p.2.2 d) = true) (h2 : glB sc x = true) (h3 : okN x = true) :
    PE X (.Name x pos) (tM X W (ev cal (.gl n d))) := by
  obtain ⟨n1, n2, n3⟩ := okN_ok h3
  obtain ⟨p, hp, q⟩ := List.any_eq_true.mp h1
  simp only [Bool.and_eq_true, decide_eq_true_eq] at q
  obtain ⟨⟨q1, q2⟩, q3⟩ := q
  obtain ⟨u, v, hm, r, rd⟩ := g.globs p hp
  rw [q2] at hm
  rw [beqD_eq q3] at rd
  exact PE.imp (pe_glob (g.gl h2) hm r n1) fun σ H Q ⟨al, hh, ρ, rh, rs, fin⟩ => Fin.ret (α := R) (r := .d d) fin rh (rd _ _)

/-! ### displays -/
theorem purAll_ok {K : Fg} {al : List Addr} {U : Mu} {H : Hp} : ∀ {rs : List R} {ds : List D} {vs : List V}, RRs K al U H rs vs → purAll rs = some ds → RDs K U H ds vs
  | [], _, _, .nil, e => by cases e; exact .nil
  | .d x :: r, _, _, .cons a b, e => by
    unfold purAll at e
    cases q : purAll r with
    | none => rw [q] at e; cases e
    | some l =>
      rw [q] at e
      cases e
      exact .cons a (purAll_ok b q)
  | .ref _ :: _, _, _, _, e => by simp [purAll] at e
theorem tup_ok {es : List E} {pes : List Expr} {j : Nat} {pos : Pos} (pa : PA X pes (tMs X W (evs cal es))) : PE X (.Tuple pes j pos) (tM X W (ev cal (.tup es))) := by
  refine PE.imp (pe_tup pa) fun σ H Q ⟨al, hh, ρ, rh, rs, fin⟩ => ?_
  unfold ev at fin
  refine ⟨al, hh, ρ, rh, rs, Fin.bnd fin fun r h1 al1 H1 vs st rh1 rr fin1 => ?_⟩
  cases e : purAll r with
  | none => rw [e] at fin1; exact fin1.elim
  | some ds =>
    rw [e] at fin1
    have rds := purAll_ok rr e
    by_cases hl : ds.length ≤ lim
    · simp only [if_pos hl] at fin1
      rw [lim_eq] at hl
      exact ⟨by rw [← rds.length]; exact hl, fun p np => fin1 al1 _ (.ref p) (Stp.grow rh1 (upd_grow np)) (rh1.grow (upd_grow np)) (rd_new_tup rh1.noU np rds)⟩
    · simp only [if_neg hl] at fin1
      exact fin1.elim
theorem lst_ok {m : Bool} {es : List E} {pes : List Expr} {pos : Pos} (pa : PA X pes (tMs X W (evs cal es))) : PE X (.List pes pos) (tM X W (ev cal (.lst m es))) := by
  refine PE.imp (pe_lst pa) fun σ H Q ⟨al, hh, ρ, rh, rs, fin⟩ => ?_
  unfold ev at fin
  refine ⟨al, hh, ρ, rh, rs, Fin.bnd fin fun r h1 al1 H1 vs st rh1 rr fin1 => ?_⟩
  obtain ⟨ds, e, fin2⟩ := Fin.opt fin1
  have rds := purAll_ok rr e
  have hl : ds.length ≤ lim := by
    by_cases hl : ds.length ≤ lim
    · exact hl
    · unfold lay at fin2
      simp only [if_neg hl] at fin2
      exact fin2.elim
  rw [lim_eq] at hl
  have hl2 : vs.length ≤ sizeLine := by rw [← rds.length]; exact hl
  exact ⟨hl2, fun p np => Fin.lay fin2 rh1 p vs np rds hl2⟩

/-! ### operators -/
theorem bin_ok (g : Gx T cal k X sc N) {m : Bool} {op : Operator} {a b : E} {pa pb : Expr} {pos : Pos} (ha : PE X pa (tM X W (ev cal a))) (hb : PE X pb (tM X W (ev cal b))) : PE X (.BinOp pa op pb pos) (tM X W (ev cal (.bin m op a b))) := by
  refine PE.imp (pe_op (op_bin op) ha hb) fun σ H Q ⟨al, hh, ρ, rh, rs, fin⟩ => ?_
  unfold ev at fin
  refine ⟨al, hh, ρ, rh, rs, Fin.bnd fin fun r1 h1 al1 H1 v1 st1 rh1 rr1 fin1 => ⟨al1, h1, ρ, rh1, rs.stp st1, Fin.bnd fin1 fun r2 h2 al2 H2 v2 st2 rh2 rr2 fin2 => ?_⟩⟩
  obtain ⟨dx, hx, fin3⟩ := Fin.dat fin2 rh2 (rr1.stp st2)
  obtain ⟨dy, hy, fin4⟩ := Fin.dat fin3 rh2 rr2
  obtain ⟨re, e, fin5⟩ := Fin.opt fin4
  exact ⟨UU al2 h2, dx, dy, re, rh2.noU, hx, hy, e, Fin.lay fin5 rh2⟩
theorem neg_ok {a : E} {pa : Expr} {pos : Pos} (ha : PE X pa (tM X W (ev cal a))) : PE X (.UnaryOp .USub pa pos) (tM X W (ev cal (.neg a))) := by
  refine PE.imp (pe_un un_neg ha) fun σ H Q ⟨al, hh, ρ, rh, rs, fin⟩ => ?_
  unfold ev at fin
  refine ⟨al, hh, ρ, rh, rs, Fin.bnd fin fun r1 h1 al1 H1 v1 st1 rh1 rr1 fin1 => ?_⟩
  obtain ⟨d, rfl, rd, fin2⟩ := Fin.pur fin1 rr1
  cases d with
  | int i =>
    cases rd
    exact ⟨i, rfl, Fin.ret (α := R) (r := .d (.int (-i))) fin2 rh1 (.int _)⟩
  | _ => exact fin2.elim

theorem cmp_ok (g : Gx T cal k X sc N) {op : CmpOp} {a b : E} {pa pb : Expr} {pos : Pos} (hn : notSet pb = true) (ha : PE X pa (tM X W (ev cal a))) (hb : PE X pb (tM X W (ev cal b))) :
    PE X (.Compare pa [op] [pb] pos) (tM X W (ev cal (.cmp op a b))) ∧ PT X (.Compare pa [op] [pb] pos) (tMb X W (ev cal (.cmp op a b))) := by
  have go : ∀ σ H Q, tM X W (ev cal (.cmp op a b)) σ H Q → tOp (rC X.K op) (tM X W (ev cal a)) (tM X W (ev cal b)) σ H Q := fun σ H Q ⟨al, hh, ρ, rh, rs, fin⟩ => by
    unfold ev at fin
    refine ⟨al, hh, ρ, rh, rs, Fin.bnd fin fun r1 h1 al1 H1 v1 st1 rh1 rr1 fin1 => ⟨al1, h1, ρ, rh1, rs.stp st1, Fin.bnd fin1 fun r2 h2 al2 H2 v2 st2 rh2 rr2 fin2 => ?_⟩⟩
    obtain ⟨dx, hx, fin3⟩ := Fin.dat fin2 rh2 (rr1.stp st2)
    obtain ⟨dy, hy, fin4⟩ := Fin.dat fin3 rh2 rr2
    obtain ⟨c, e, fin5⟩ := Fin.opt fin4
    exact ⟨UU al2 h2, dx, dy, c, hx, hy, e, Fin.ret (α := R) (r := .d (.bool c)) fin5 rh2 (.bl c)⟩
  exact ⟨PE.imp (pe_cmpR (op_cmp g.u65 op) ha hb (set_no hn)) go, PT.imp (pt_cmpR (op_cmp g.u65 op) ha hb (set_no hn)) fun σ H Q h => go σ H _ h⟩
theorem chn_ok (g : Gx T cal k X sc N) {o1 o2 : CmpOp} {a b c : E} {pa pb pc : Expr} {pos : Pos} (hn : notSet pc = true) (ha : PE X pa (tM X W (ev cal a))) (hb : PE X pb (tM X W (ev cal b))) (hc : PE X pc (tM X W (ev cal c))) :
    PE X (.Compare pa [o1, o2] [pb, pc] pos) (tM X W (ev cal (.chn o1 o2 a b c))) ∧ PT X (.Compare pa [o1, o2] [pb, pc] pos) (tMb X W (ev cal (.chn o1 o2 a b c))) := by
  have go : ∀ σ H Q, tM X W (ev cal (.chn o1 o2 a b c)) σ H Q → tChain (rC X.K o1) (rC X.K o2) (tM X W (ev cal a)) (tM X W (ev cal b)) (tM X W (ev cal c)) σ H Q := fun σ H Q ⟨al, hh, ρ, rh, rs, fin⟩ => by
    unfold ev at fin
    refine ⟨al, hh, ρ, rh, rs, Fin.bnd fin fun r1 h1 al1 H1 v1 st1 rh1 rr1 fin1 => ⟨al1, h1, ρ, rh1, rs.stp st1, Fin.bnd fin1 fun r2 h2 al2 H2 v2 st2 rh2 rr2 fin2 => ?_⟩⟩
    obtain ⟨dx, hx, fin3⟩ := Fin.dat fin2 rh2 (rr1.stp st2)
    obtain ⟨dy, hy, fin4⟩ := Fin.dat fin3 rh2 rr2
    obtain ⟨c1, e, fin5⟩ := Fin.opt fin4
    refine ⟨UU al2 h2, dx, dy, c1, hx, hy, e, c1, rfl, ?_⟩
    cases c1 with
    | false => exact iteF (Fin.ret (α := R) (r := .d (.bool false)) fin5 rh2 (.bl false))
    | true =>
      refine iteT ⟨al2, h2, ρ, rh2, (rs.stp st1).stp st2, Fin.bnd fin5 fun r3 h3 al3 H3 v3 st3 rh3 rr3 fin6 => ?_⟩
      obtain ⟨dy', hy', fin7⟩ := Fin.dat fin6 rh3 (rr2.stp st3)
      obtain ⟨dz, hz, fin8⟩ := Fin.dat fin7 rh3 rr3
      obtain ⟨c2, e2, fin9⟩ := Fin.opt fin8
      exact ⟨UU al3 h3, dy', dz, c2, hy', hz, e2, Fin.ret (α := R) (r := .d (.bool c2)) fin9 rh3 (.bl c2)⟩
  exact ⟨PE.imp (pe_chain (op_cmp g.u65 o1) (op_cmp g.u65 o2) ha hb hc (marks_no hn)) go, PT.imp (pt_chain (op_cmp g.u65 o1) (op_cmp g.u65 o2) ha hb hc (marks_no hn)) fun σ H Q h => go σ H _ h⟩
/-- a op b op' c op'' d -/
def tChain3 (r r' r'' : R2) (ta tb tc td : TE) : TE := fun σ H Q => ta σ H fun x H1 => tb σ H1 fun y H2 => r x y H2 fun z H3 => ∃ k, z = .bl k ∧
  (if k = true then tc σ H3 fun w H4 => r' y w H4 fun z' H5 => ∃ k', z' = .bl k' ∧ (if k' = true then td σ H5 fun u H6 => r'' w u H6 Q else Q (.bl false) H5) else Q (.bl false) H3)
theorem pe_chain3 {o1 o2 o3 : CmpOp} {r r' r'' : R2} {a b c d : Expr} {ta tb tc td : TE} {pos : Pos} (h1 : OpR X (compareOp o1) r) (h2 : OpR X (compareOp o2) r') (h3 : OpR X (compareOp o3) r'') (ha : PE X a ta) (hb : PE X b tb) (hc : PE X c tc) (hd : PE X d td)
    (hm : lastMarks [o1, o2, o3] [b, c, d] = false) : PE X (.Compare a [o1, o2, o3] [b, c, d] pos) (tChain3 r r' r'' ta tb tc td) := by
  refine ⟨fun pins s σ H Q I h => ?_⟩
  refine Compare_chain (thn (ha.run pins s σ H _ I h) fun v s1 ⟨x, H1, I1, r1, q1⟩ => chain_link (thn (hb.run pins s1 σ H1 _ I1 q1) fun u s2 ⟨y, H2, I2, r2, q2⟩ => thn (h1 pins s2 σ H2 x y v u _ I2 r1 r2 q2) fun e3 s3 ⟨z, H3, I3, r3, k, ez, q3⟩ => ?_)) hm
  subst ez
  cases r3
  refine wpAny_truthy_bool ?_
  cases k with
  | false => exact ite_ff ⟨.bl false, H3, I3, rfl, q3⟩
  | true =>
    refine ite_tt (chain_link (thn (hc.run pins s3 σ H3 _ I3 q3) fun w s4 ⟨z4, H4, I4, r4, q4⟩ => thn (h2 pins s4 σ H4 y z4 u w _ I4 r2 r4 q4) fun e5 s5 ⟨z5, H5, I5, r5, k', ez', q5⟩ => ?_))
    subst ez'
    cases r5
    refine wpAny_truthy_bool ?_
    cases k' with
    | false => exact ite_ff ⟨.bl false, H5, I5, rfl, q5⟩
    | true => exact ite_tt (chain_last (thn (hd.run pins s5 σ H5 _ I5 q5) fun w6 s6 ⟨z6, H6, I6, r6, q6⟩ => h3 pins s6 σ H6 z4 z6 w w6 Q I6 r4 r6 q6))
theorem chn3_ok (g : Gx T cal k X sc N) {o1 o2 o3 : CmpOp} {a b c d : E} {pa pb pc pd : Expr} {pos : Pos} (hn : notSet pd = true) (ha : PE X pa (tM X W (ev cal a))) (hb : PE X pb (tM X W (ev cal b))) (hc : PE X pc (tM X W (ev cal c))) (hd : PE X pd (tM X W (ev cal d))) :
    PE X (.Compare pa [o1, o2, o3] [pb, pc, pd] pos) (tM X W (ev cal (.chn3 o1 o2 o3 a b c d))) := by
  refine PE.imp (pe_chain3 (op_cmp g.u65 o1) (op_cmp g.u65 o2) (op_cmp g.u65 o3) ha hb hc hd (marks_no3 hn)) fun σ H Q ⟨al, hh, ρ, rh, rs, fin⟩ => ?_
  unfold ev at fin
  refine ⟨al, hh, ρ, rh, rs, Fin.bnd fin fun r1 h1 al1 H1 v1 st1 rh1 rr1 fin1 => ⟨al1, h1, ρ, rh1, rs.stp st1, Fin.bnd fin1 fun r2 h2 al2 H2 v2 st2 rh2 rr2 fin2 => ?_⟩⟩
  obtain ⟨dx, _, hx, fin3⟩ := Fin.pur fin2 (rr1.stp st2)
  obtain ⟨dy, ey, hy, fin4⟩ := Fin.pur fin3 rr2
  obtain ⟨c1, e, fin5⟩ := Fin.opt fin4
  refine ⟨UU al2 h2, dx, dy, c1, .rd hx, .rd hy, e, c1, rfl, ?_⟩
  cases c1 with
  | false => exact iteF (Fin.ret (α := R) (r := .d (.bool false)) fin5 rh2 (.bl false))
  | true =>
    refine iteT ⟨al2, h2, ρ, rh2, (rs.stp st1).stp st2, Fin.bnd fin5 fun r3 h3 al3 H3 v3 st3 rh3 rr3 fin6 => ?_⟩
    obtain ⟨dz, ez, hz, fin7⟩ := Fin.pur fin6 rr3
    obtain ⟨c2, e2, fin8⟩ := Fin.opt fin7
    refine ⟨UU al3 h3, dy, dz, c2, .rd (hy.keep st3.k), .rd hz, e2, c2, rfl, ?_⟩
    cases c2 with
    | false => exact iteF (Fin.ret (α := R) (r := .d (.bool false)) fin8 rh3 (.bl false))
    | true =>
      refine iteT ⟨al3, h3, ρ, rh3, ((rs.stp st1).stp st2).stp st3, Fin.bnd fin8 fun r4 h4 al4 H4 v4 st4 rh4 rr4 fin9 => ?_⟩
      obtain ⟨dw, ew, hw, fin10⟩ := Fin.pur fin9 rr4
      obtain ⟨c3, e3, fin11⟩ := Fin.opt fin10
      exact ⟨UU al4 h4, dz, dw, c3, .rd (hz.keep st4.k), .rd hw, e3, Fin.ret (α := R) (r := .d (.bool c3)) fin11 rh4 (.bl c3)⟩

/-! ### and, or, not, if else -/
theorem and_ok {a b : E} {pa pb : Expr} {rest : List Expr} {pos : Pos} (ha : PE X pa (tM X W (ev cal a))) (hb : PE X (.BoolOp .And (pb :: rest) pos) (tM X W (ev cal b))) : PE X (.BoolOp .And (pa :: pb :: rest) pos) (tM X W (ev cal (.and a b))) := by
  refine PE.imp (pe_and ha hb) fun σ H Q ⟨al, hh, ρ, rh, rs, fin⟩ => ?_
  unfold ev at fin
  refine ⟨al, hh, ρ, rh, rs, Fin.boolOf fin fun b h1 al1 H1 st1 rh1 fin1 => ⟨b, rfl, ?_⟩⟩
  cases b with
  | false => exact iteF (Fin.ret (α := R) (r := .d (.bool false)) fin1 rh1 (.bl false))
  | true => exact iteT ⟨al1, h1, ρ, rh1, rs.stp st1, fin1⟩
theorem or_ok {a b : E} {pa pb : Expr} {rest : List Expr} {pos : Pos} (ha : PE X pa (tM X W (ev cal a))) (hb : PE X (.BoolOp .Or (pb :: rest) pos) (tM X W (ev cal b))) : PE X (.BoolOp .Or (pa :: pb :: rest) pos) (tM X W (ev cal (.or a b))) := by
  refine PE.imp (pe_or ha hb) fun σ H Q ⟨al, hh, ρ, rh, rs, fin⟩ => ?_
  unfold ev at fin
  refine ⟨al, hh, ρ, rh, rs, Fin.boolOf fin fun b h1 al1 H1 st1 rh1 fin1 => ⟨b, rfl, ?_⟩⟩
  cases b with
  | true => exact iteT (Fin.ret (α := R) (r := .d (.bool true)) fin1 rh1 (.bl true))
  | false => exact iteF ⟨al1, h1, ρ, rh1, rs.stp st1, fin1⟩
theorem not_ok {a : E} {pa : Expr} {pos : Pos} (ha : PE X pa (tM X W (ev cal a))) : PE X (.UnaryOp .Not pa pos) (tM X W (ev cal (.not a))) := by
  refine PE.imp (pe_not ha) fun σ H Q ⟨al, hh, ρ, rh, rs, fin⟩ => ?_
  unfold ev at fin
  exact ⟨al, hh, ρ, rh, rs, Fin.boolOf fin fun b h1 al1 H1 st1 rh1 fin1 => ⟨b, rfl, Fin.ret (α := R) (r := .d (.bool (!b))) fin1 rh1 (.bl _)⟩⟩
theorem ite_ok {c a b : E} {pc pa pb : Expr} {pos : Pos} (hc : PT X pc (tMb X W (ev cal c))) (ha : PE X pa (tM X W (ev cal a))) (hb : PE X pb (tM X W (ev cal b))) : PE X (.IfExp pc pa pb pos) (tM X W (ev cal (.ite c a b))) := by
  refine PE.imp (pe_ifExp hc ha hb) fun σ H Q ⟨al, hh, ρ, rh, rs, fin⟩ => ?_
  unfold ev at fin
  refine ⟨al, hh, ρ, rh, rs, Fin.boolOf fin fun b h1 al1 H1 st1 rh1 fin1 => ⟨b, rfl, ?_⟩⟩
  cases b with
  | true => exact iteT ⟨al1, h1, ρ, rh1, rs.stp st1, fin1⟩
  | false => exact iteF ⟨al1, h1, ρ, rh1, rs.stp st1, fin1⟩
theorem andT_ok {a b : E} {pa pb : Expr} {rest : List Expr} {pos : Pos} (ha : PT X pa (tMb X W (ev cal a))) (hb : PW X (.BoolOp .And (pb :: rest) pos) (tMb X W (ev cal b))) : PW X (.BoolOp .And (pa :: pb :: rest) pos) (tMb X W (ev cal (.and a b))) := by
  refine ⟨fun wh pins s σ H Q I h => (pw_and ha hb).run wh pins s σ H Q I ?_⟩
  obtain ⟨al, hh, ρ, rh, rs, fin⟩ := h
  unfold ev at fin
  refine ⟨al, hh, ρ, rh, rs, Fin.boolOf fin fun b h1 al1 H1 st1 rh1 fin1 => ⟨b, rfl, ?_⟩⟩
  cases b with
  | false =>
    obtain ⟨b, e, q⟩ := Fin.ret (α := R) (r := .d (.bool false)) fin1 rh1 (.bl false)
    cases e
    exact iteF q
  | true => exact iteT ⟨al1, h1, ρ, rh1, rs.stp st1, fin1⟩
theorem orT_ok {a b : E} {pa pb : Expr} {rest : List Expr} {pos : Pos} (ha : PT X pa (tMb X W (ev cal a))) (hb : PW X (.BoolOp .Or (pb :: rest) pos) (tMb X W (ev cal b))) : PW X (.BoolOp .Or (pa :: pb :: rest) pos) (tMb X W (ev cal (.or a b))) := by
  refine ⟨fun wh pins s σ H Q I h => (pw_or ha hb).run wh pins s σ H Q I ?_⟩
  obtain ⟨al, hh, ρ, rh, rs, fin⟩ := h
  unfold ev at fin
  refine ⟨al, hh, ρ, rh, rs, Fin.boolOf fin fun b h1 al1 H1 st1 rh1 fin1 => ⟨b, rfl, ?_⟩⟩
  cases b with
  | true =>
    obtain ⟨b, e, q⟩ := Fin.ret (α := R) (r := .d (.bool true)) fin1 rh1 (.bl true)
    cases e
    exact iteT q
  | false => exact iteF ⟨al1, h1, ρ, rh1, rs.stp st1, fin1⟩
theorem notT_ok {a : E} {pa : Expr} {pos : Pos} (ha : PT X pa (tMb X W (ev cal a))) : PT X (.UnaryOp .Not pa pos) (tMb X W (ev cal (.not a))) := by
  refine PT.imp (pt_not ha) fun σ H Q ⟨al, hh, ρ, rh, rs, fin⟩ => ?_
  unfold ev at fin
  refine ⟨al, hh, ρ, rh, rs, Fin.boolOf fin fun b h1 al1 H1 st1 rh1 fin1 => ⟨b, rfl, ?_⟩⟩
  obtain ⟨b', e, q⟩ := Fin.ret (α := R) (r := .d (.bool (!b))) fin1 rh1 (.bl _)
  cases e
  exact q
theorem valT_ok {a : E} {pa : Expr} (hp : plainT pa = true) (ha : PE X pa (tM X W (ev cal a))) : PT X pa (tMb X W (ev cal a)) :=
  PT.imp (pt_val ha (plainT_ok hp)) fun σ H Q h => h

/-! ### items, slices -/
theorem ixE_ok {a i : E} {pa pi : Expr} {pos : Pos} (hn : notSlice pi = true) (ha : PE X pa (tM X W (ev cal a))) (hi : PE X pi (tM X W (ev cal i))) : PE X (.Subscript pa pi pos) (tM X W (ev cal (.ix a i))) := by
  refine PE.imp (pe_ix ix_ok ha hi (ix_plain hn)) fun σ H Q ⟨al, hh, ρ, rh, rs, fin⟩ => ?_
  unfold ev at fin
  refine ⟨al, hh, ρ, rh, rs, Fin.bnd fin fun r1 h1 al1 H1 v1 st1 rh1 rr1 fin1 => ⟨al1, h1, ρ, rh1, rs.stp st1, Fin.bnd fin1 fun r2 h2 al2 H2 v2 st2 rh2 rr2 fin2 => ?_⟩⟩
  obtain ⟨dx, hx, fin3⟩ := Fin.dat fin2 rh2 (rr1.stp st2)
  obtain ⟨dy, _, hy, fin4⟩ := Fin.pur fin3 rr2
  obtain ⟨d, e, fin5⟩ := Fin.opt fin4
  exact ⟨UU al2 h2, dx, dy, d, hx, .rd hy, e, fun w r => Fin.ret (α := R) (r := .d d) fin5 rh2 r⟩

/-- a part of a slice: its data -/
def tP (X : Cx) (W : WX) (e : E) (cal : Cal) : TO := fun σ H Q => tM X W (ev cal e) σ H fun v H1 => ∃ o : Option Int, (v = match o with
    | none => V.non
    | some i => .int i) ∧ Q o H1
end
end Cy


set_option Elab.async false
set_option linter.all false
set_option maxRecDepth 100000
set_option maxHeartbeats 4000000
/-! L3d: slices, isinstance, built-in functions, methods, calls. -/
namespace Cy
open PySem PySem.Spec PyProof.Rows L2

section
variable {T : Tb} {cal : Cal} {k : Nat} {X : Cx} {sc : Scope} {N : List Str} {W : WX}

/-! ### slices -/
def part (cal : Cal) (lo : E) (ρ : Rho) : M (Option Int) :=
  match lo with
  | .nil => M.ret none
  | _ => (ev cal lo ρ).bnd intOf
def tPo (X : Cx) (W : WX) (cal : Cal) (lo : E) : Option Expr → TO
  | none => tNoPart
  | some _ => tPart (tM X W (ev cal lo))
/-- a part of a slice -/
def PartOk (X : Cx) (W : WX) (cal : Cal) (lo : E) : Option Expr → Prop
  | none => lo = .nil
  | some p => isNil lo = false ∧ PE X p (tM X W (ev cal lo))
theorem part_po {lo : E} {pl : Option Expr} (h : PartOk X W cal lo pl) : PO X pl (tPo X W cal lo pl) := by
  cases pl with
  | none => exact po_none
  | some p => exact po_some h.2
theorem part_rd {lo : E} {pl : Option Expr} (h : PartOk X W cal lo pl) {σ : Sg} {al : List Addr} {hh : Hs} {H : Hp} {ρ : Rho} {Q : VK} {Q1 : Option Int → Hp → Prop} {g : Option Int → M R} (rh : RH X.K al hh H) (rs : RS X.K al (UU al hh) H ρ σ)
    (fin : Fin X.K X.mg (fun cls dd H' => W cls dd σ H') (RR X.K) al hh H Q (((part cal lo ρ).bnd g) hh))
    (kk : ∀ o h1 al1 H1, Stp al hh H al1 h1 H1 → RH X.K al1 h1 H1 → Fin X.K X.mg (fun cls dd H' => W cls dd σ H') (RR X.K) al1 h1 H1 Q (g o h1) → Q1 o H1) : tPo X W cal lo pl σ H Q1 := by
  cases pl with
  | none =>
    have e : lo = .nil := h
    subst e
    exact kk none hh al H (Stp.refl _ _ _) rh fin
  | some p =>
    have e : part cal lo ρ = (ev cal lo ρ).bnd intOf := by
      unfold part
      cases lo <;> first | rfl | (have := h.1; cases this)
    rw [e] at fin
    refine ⟨al, hh, ρ, rh, rs, ?_⟩
    unfold M.bnd at fin
    cases q : ev cal lo ρ hh with
    | bad => rw [q] at fin; exact fin.elim
    | ex x h1 => rw [q] at fin; exact fin
    | ok r h1 =>
      rw [q] at fin
      intro al1 H1 v st rh1 rr
      cases r with
      | ref n => exact fin.elim
      | d x =>
        cases x with
        | int i =>
          cases rr
          exact ⟨i, rfl, kk (some i) h1 al1 H1 st rh1 (Fin.shift fin st)⟩
        | _ => exact fin.elim
theorem sl_ok' (g : Gx T cal k X sc N) {m : Bool} {a lo hi : E} {pa : Expr} {pl ph : Option Expr} {p2 pos : Pos} (ha : PE X pa (tM X W (ev cal a))) (hl : PartOk X W cal lo pl) (hh : PartOk X W cal hi ph) :
    PE X (.Subscript pa (.Slice pl ph none p2) pos) (tM X W (ev cal (.sl m a lo hi))) := by
  refine PE.imp (pe_slice sl_ok ha (part_po hl) (part_po hh)) fun σ H Q ⟨al, h0, ρ, rh, rs, fin⟩ => ?_
  unfold ev at fin
  refine ⟨al, h0, ρ, rh, rs, Fin.bnd fin fun r1 h1 al1 H1 v1 st1 rh1 rr1 fin1 => ?_⟩
  refine part_rd hl rh1 (rs.stp st1) (show Fin _ _ _ _ _ _ _ _ (((part cal lo ρ).bnd _) h1) from fin1) fun l h2 al2 H2 st2 rh2 fin2 => ?_
  refine part_rd hh rh2 ((rs.stp st1).stp st2) (show Fin _ _ _ _ _ _ _ _ (((part cal hi ρ).bnd _) h2) from fin2) fun u h3 al3 H3 st3 rh3 fin3 => ?_
  obtain ⟨dx, hx, fin4⟩ := Fin.dat fin3 rh3 ((rr1.stp st2).stp st3)
  obtain ⟨re, e, fin5⟩ := Fin.opt fin4
  exact ⟨UU al3 h3, dx, re, rh3.noU, hx, e, Fin.lay fin5 rh3⟩

/-! ### isinstance -/
def tyS : Ty → String
  | .int => "int"
  | .bool => "bool"
  | .str => "str"
  | .tuple => "tuple"
  | .list => "list"
  | .dict => "dict"
def daS : D → String
  | .none => "NoneType"
  | .bool _ => "bool"
  | .int _ => "int"
  | .str _ => "str"
  | .list _ => "list"
  | .tuple _ => "tuple"
  | .dict _ => "dict"
theorem kit_all (t : Ty) (d : D) : kitB (daS d) (tyS t) = some (isiD t d) := by
  cases t <;> cases d <;> simp only [daS, tyS, isiD] <;> decide +kernel
theorem tyx_of {K : Fg} {U : Mu} {H : Hp} {d : D} {v : V} (r : RT K U H d v) : TyX K H v (.type (daS d)) := by
  cases r with
  | rd r =>
    cases r with
    | non => exact .base .non
    | bl b => exact .base (.bl b)
    | int i => exact .base (.int i)
    | str x => exact .base (.str x)
    | lst n hr q =>
      rcases hr with hr | ⟨o, hr⟩
      · exact .base (.lst hr)
      · exact .base (.frz hr)
    | tup n hr q =>
      rcases hr with hr | ⟨o, hr⟩
      · exact .base (.tup hr)
      · exact .fTuple hr
    | tupK t q =>
      obtain ⟨o, its, n, h1, h2, _⟩ := t
      exact .kTuple h1 h2
  | lst hr q =>
    rcases hr with hr | ⟨o, hr⟩
    · exact .base (.lst hr)
    · exact .base (.frz hr)
theorem boot_ty (t : Ty) : bootBuiltins (tyN t) = some (.type (tyS t)) := by
  cases t <;> decide +kernel
theorem ty_blt (t : Ty) : tyN t ∈ bltN := by cases t <;> decide +kernel
theorem ty_n (t : Ty) : tyN t ≠ "__name__" ∧ ((tyN t) == ("__debug__" : Str)) = false := by cases t <;> exact ⟨by decide +kernel, by decide +kernel⟩
theorem boot_isi : bootBuiltins "isinstance" = some (.builtin "isinstance") := by decide +kernel
theorem isi_ok (g : Gx T cal k X sc N) {t : Ty} {a : E} {pa : Expr} {p1 p2 pos : Pos} (h1 : glB sc "isinstance" = true) (h2 : glB sc (tyN t) = true) (hs : notStar pa = true) (ha : PE X pa (tM X W (ev cal a))) :
    PE X (.Call (.Name "isinstance" p1) [pa, .Name (tyN t) p2] [] pos) (tM X W (ev cal (.isi t a))) := by
  have pt : PE X (.Name (tyN t) p2) (tC (.ty (tyS t))) := pe_bltn (g.gl h2) (g.blt _ (ty_blt t)) (boot_ty t) rfl (ty_n t).1 (ty_n t).2
  have pa2 : PA X [pa, .Name (tyN t) p2] (tCons (tM X W (ev cal a)) (tCons (tC (.ty (tyS t))) tNil)) := pa_cons ha (pa_cons pt pa_nil) (star_cons hs)
  refine PE.imp (pe_callB call_isi (g.gl h1) (g.blt _ (by decide +kernel)) boot_isi pa2 (by decide +kernel) (by decide +kernel) (star_cons hs)) fun σ H Q ⟨al, hh, ρ, rh, rs, fin⟩ => ?_
  unfold ev at fin
  refine ⟨al, hh, ρ, rh, rs, Fin.bnd fin fun r1 h1 al1 H1 v1 st1 rh1 rr1 fin1 => ?_⟩
  obtain ⟨d, hd, fin2⟩ := Fin.dat fin1 rh1 rr1
  exact ⟨v1, .ty (tyS t), .type (daS d), .type (tyS t), isiD t d, rfl, .ty _, tyx_of hd, kit_ty (kit_all t d), Fin.ret (α := R) (r := .d (.bool (isiD t d))) fin2 rh1 (.bl _)⟩

/-! ### built-in functions -/
theorem Fin.dats {K : Fg} {mg : Str → Option Value} {E : XK} {al : List Addr} {h : Hs} {H : Hp} {Q : VK} {g : List D → M R} (rh : RH K al h H) : ∀ {rs : List R} {vs : List V}, RRs K al (UU al h) H rs vs → ∀ {g : List D → M R}, Fin K mg E (RR K) al h H Q (((dats rs).bnd g) h) →
    ∃ ds, RTs K (UU al h) H ds vs ∧ Fin K mg E (RR K) al h H Q (g ds h)
  | [], _, .nil, g, f => ⟨[], .nil, f⟩
  | r :: rs, _, .cons a b, g, f => by
    unfold Cy.dats at f
    have e : (((Cy.dat r).bnd fun d => (Cy.dats rs).bnd fun ds => M.ret (d :: ds)).bnd g) h = ((Cy.dat r).bnd fun d => (Cy.dats rs).bnd fun ds => g (d :: ds)) h := by
      unfold M.bnd M.ret
      cases Cy.dat r h with
      | ok d h1 =>
        simp only
        cases Cy.dats rs h1 <;> rfl
      | ex _ _ => rfl
      | bad => rfl
    rw [e] at f
    obtain ⟨d, hd, f1⟩ := Fin.dat f rh a
    obtain ⟨ds, hds, f2⟩ := Fin.dats (g := g) rh b f1
    exact ⟨d :: ds, .cons hd hds, f2⟩

theorem bf_blt (f : Bf) : bfN f ∈ bltN := by cases f <;> decide +kernel
theorem bf_n (f : Bf) : bfN f ≠ "__name__" ∧ ((bfN f) == ("__debug__" : Str)) = false := by cases f <;> exact ⟨by decide +kernel, by decide +kernel⟩
theorem bf_boot (f : Bf) : bootBuiltins (bfN f) = some (bfV f) := by cases f <;> decide +kernel
theorem bfT (f : Bf) : (∃ id, bfV f = .builtin id) ∨ ∃ t, bfV f = .type t := by cases f <;> first | exact .inl ⟨_, rfl⟩ | exact .inr ⟨_, rfl⟩
theorem bif_ok (g : Gx T cal k X sc N) {m : Bool} {f : Bf} {es : List E} {pe : Expr} {pes : List Expr} {p pos : Pos} (h1 : glB sc (bfN f) = true) (hs : (pe :: pes).all notStar = true) (pa : PA X (pe :: pes) (tMs X W (evs cal es))) :
    PE X (.Call (.Name (bfN f) p) (pe :: pes) [] pos) (tM X W (ev cal (.bif m f es))) := by
  have hs2 := hs
  rw [List.all_cons, Bool.and_eq_true] at hs2
  have go : ∀ σ H Q, tM X W (ev cal (.bif m f es)) σ H Q → tCB (rF X.K f) (tMs X W (evs cal es)) σ H Q := fun σ H Q ⟨al, hh, ρ, rh, rs, fin⟩ => by
    unfold ev at fin
    refine ⟨al, hh, ρ, rh, rs, Fin.bnd fin fun r1 h1 al1 H1 v1 st1 rh1 rr1 fin1 => ?_⟩
    obtain ⟨ds, hd, fin2⟩ := Fin.dats (g := fun ds => (M.opt (bifD f ds)).bnd (lay m)) rh1 rr1 fin1
    obtain ⟨re, e, fin3⟩ := Fin.opt fin2
    exact ⟨UU al1 h1, ds, re, rh1.noU, hd, e, Fin.lay fin3 rh1⟩
  have c := call_bif (X := X) g.calm g.gd g.u80 f
  have b := bf_boot f
  rcases bfT f with ⟨id, e⟩ | ⟨t, e⟩
  · rw [e] at c b
    exact PE.imp (pe_callB c (g.gl h1) (g.blt _ (bf_blt f)) b pa (bf_n f).1 (bf_n f).2 (star_cons hs2.1) (star_any hs2.2)) go
  · rw [e] at c b
    exact PE.imp (pe_callTy c (g.gl h1) (g.blt _ (bf_blt f)) b pa (bf_n f).1 (bf_n f).2 (star_cons hs2.1) (star_any hs2.2)) go

/-! ### methods -/
def rM (K : Fg) (f : Mt) : V → List V → Hp → VK → Prop := fun x xs H Q => ∃ (U : Mu) (z : Str) (ds : List D) (re : Re), NoU U H ∧ x = .str z ∧ RTs K U H ds xs ∧ mtD f z ds = some re ∧ Pst K U H Q re
def mtI : Mt → String
  | .join => "str.join"
  | .split => "str.split"
  | .count => "str.count"
theorem mt_ok (f : Mt) : MtR X (mtI f) (rM X.K f) := by
  intro pins s σ H x xs v us Q I rx rxs ⟨U, z, ds, re, nu, ez, hxs, e, q⟩
  subst ez
  have same : ∀ d w, re = .v d → RD X.K U H d w → Q w H := fun d w er r => by
    subst er
    exact q w H (fun _ _ z => z) r
  unfold mtD at e
  split at e
  · rename_i xs
    cases hxs with | cons h1 hn => cases hn with | nil =>
    obtain ⟨p, vs, rfl, qa, ra⟩ := h1.sql
    cases n : allStrs xs with
    | none => rw [n] at e; cases e
    | some ys =>
      rw [n, Option.bind_some] at e
      split at e
      · rename_i hl
        cases e
        rw [ra.strs n] at qa
        exact mt_join pins s σ H _ _ v us Q I rx rxs ⟨_, p, ys, rfl, rfl, .inl (.inl qa), hl, same _ _ rfl (.str _)⟩
      · cases e
  · rename_i xs
    cases hxs with | cons h1 hn => cases hn with | nil =>
    obtain ⟨p, vs, rfl, qa, ra⟩ := h1.sqt
    cases n : allStrs xs with
    | none => rw [n] at e; cases e
    | some ys =>
      rw [n, Option.bind_some] at e
      split at e
      · rename_i hl
        cases e
        rw [ra.strs n] at qa
        exact mt_join pins s σ H _ _ v us Q I rx rxs ⟨_, p, ys, rfl, rfl, .inr qa, hl, same _ _ rfl (.str _)⟩
      · cases e
  · rename_i b
    split at e
    · rename_i hl
      cases e
      cases hxs with | cons h1 hn => cases hn with | nil =>
      cases h1.str
      have hb : (b.length == 0) = false := by
        have := hl.1
        simp [this]
      have ha : z.length + 2 ≤ sizeLine := by rw [← lim_eq]; exact hl.2
      refine mt_split pins s σ H _ _ v us Q I rx rxs ⟨z, b, rfl, rfl, hb, ha, fun p np => q p _ np (RDs.ofStrs _) ?_⟩
      have h2 := split_weight z b (by omega)
      simp only [List.length_map]
      omega
    · cases e
  · cases e
    cases hxs with | cons h1 hn => cases hn with | nil =>
    cases h1.str
    exact mt_count pins s σ H _ _ v us Q I rx rxs ⟨_, _, rfl, rfl, same _ _ rfl (.int _)⟩
  · cases e
theorem mth_ok (g : Gx T cal k X sc N) {m : Bool} {f : Mt} {o : E} {es : List E} {po pe : Expr} {apos pos : Pos} (hn : notSuper po = true) (hl : (apos.endLine == pos.line) = true) (hs : notStar pe = true) (he : ∃ e, es = [e] ∧ PE X pe (tM X W (ev cal e)))
    (ho : PE X po (tM X W (ev cal o))) : PE X (.Call (.Attribute po (mtN f) apos) [pe] [] pos) (tM X W (ev cal (.mth m f o es))) := by
  obtain ⟨e, rfl, he⟩ := he
  have hst : starEach [pe] X.env = [(false, eval pe X.env)] := star_cons hs
  have go : ∀ σ H Q, tM X W (ev cal (.mth m f o [e])) σ H Q → tM1 (rM X.K f) (tM X W (ev cal o)) (tM X W (ev cal e)) σ H Q := fun σ H Q ⟨al, hh, ρ, rh, rs, fin⟩ => by
    unfold ev at fin
    refine ⟨al, hh, ρ, rh, rs, Fin.bnd fin fun r1 h1 al1 H1 v1 st1 rh1 rr1 fin1 => ?_⟩
    cases r1 with
    | ref n => exact fin1.elim
    | d x =>
      cases x with
      | str z =>
        cases rr1
        refine ⟨⟨z, rfl⟩, al1, h1, ρ, rh1, rs.stp st1, ?_⟩
        have fin2 : Fin X.K X.mg (fun cls dd H' => W cls dd σ H') (RR X.K) al1 h1 H1 Q (((ev cal e ρ).bnd fun r => (M.ret [r]).bnd fun rs => (dats rs).bnd fun ds => (M.opt (mtD f z ds)).bnd (lay m)) h1) := by
          have q : ((evs cal [e] ρ).bnd fun rs => (dats rs).bnd fun ds => (M.opt (mtD f z ds)).bnd (lay m)) h1 = ((ev cal e ρ).bnd fun r => (M.ret [r]).bnd fun rs => (dats rs).bnd fun ds => (M.opt (mtD f z ds)).bnd (lay m)) h1 := by
            unfold evs evs M.bnd M.ret
            cases ev cal e ρ h1 <;> rfl
          rw [← q]
          exact fin1
        refine Fin.bnd fin2 fun r2 h2 al2 H2 v2 st2 rh2 rr2 fin3 => ?_
        obtain ⟨ds, hd, fin4⟩ := Fin.dats (g := fun ds => (M.opt (mtD f z ds)).bnd (lay m)) rh2 (.cons rr2 .nil) fin3
        obtain ⟨re, e2, fin5⟩ := Fin.opt fin4
        exact ⟨UU al2 h2, z, ds, re, rh2.noU, rfl, hd, e2, Fin.lay fin5 rh2⟩
      | _ => exact fin1.elim
  cases f with
  | join => exact PE.imp (pe_m1 F.slot_str_join F.type_str_join (mt_ok .join) ho he hst (super_no hn) hl) go
  | split => exact PE.imp (pe_m1 F.slot_str_split F.type_str_split (mt_ok .split) ho he hst (super_no hn) hl) go
  | count => exact PE.imp (pe_m1 F.slot_str_count F.type_str_count (mt_ok .count) ho he hst (super_no hn) hl) go

theorem few1 {pe : Expr} {env : Env} {pos : Pos} (hs : notStar pe = true) : ((backTo pos (starEach [pe] env)).all (fun x => !x.1) && (backToKw pos (keywordEach [] env)).all (fun x => x.1.isSome)
      && decide (([pe] : List Expr).length + ([] : List Keyword).length + (if ([] : List Keyword).isEmpty then 0 else 1) < 30)) = true := by
  rw [star_cons hs]
  rfl
theorem app_ok (g : Gx T cal k X sc N) {o e : E} {po pe : Expr} {apos pos : Pos} (hn : notSuper po = true) (hl : (apos.endLine == pos.line) = true) (hs : notStar pe = true) (he : PE X pe (tM X W (ev cal e)))
    (ho : PE X po (tM X W (ev cal o))) : PE X (.Call (.Attribute po "append" apos) [pe] [] pos) (tM X W (ev cal (.app o e))) := by
  have pa : PA X [pe] (tCons (tM X W (ev cal e)) tNil) := pa_cons he pa_nil (star_cons hs)
  refine PE.imp (pe_bm PySem.F.plainAttrs_list PySem.F.slot_list_append PySem.F.type_list_append mt_append ho pa (super_no hn) (few1 hs) hl (star_cons hs)) fun σ H Q ⟨al, hh, ρ, rh, rs, fin⟩ => ?_
  unfold ev at fin
  refine ⟨al, hh, ρ, rh, rs, Fin.bnd fin fun r1 h1 al1 H1 v1 st1 rh1 rr1 fin1 => ?_⟩
  cases r1 with
  | d x => exact fin1.elim
  | ref n =>
    obtain ⟨a, ea, rfl⟩ := rr1
    have e1 : ((lstOf (.ref n)).bnd fun _ => (ev cal e ρ).bnd fun y => (pur y).bnd fun d => appR (.ref n) d) h1 = (match lstC h1 h1[n]? with
      | .ok _ h2 => ((ev cal e ρ).bnd fun y => (pur y).bnd fun d => appR (.ref n) d) h2
      | .ex x h2 => .ex x h2
      | .bad => .bad) := by
      unfold M.bnd lstOf hget
      simp only
      cases lstC h1 h1[n]? <;> rfl
    rw [e1] at fin1
    cases q : h1[n]? with
    | none => rw [q] at fin1; exact fin1.elim
    | some c =>
      rw [q] at fin1
      cases c with
      | fz xs => exact fin1.elim
      | dct t kvs => exact fin1.elim
      | lst xs =>
        obtain ⟨vs, eh, rds⟩ := rh1.at_ n _ a q ea
        refine ⟨.inl ⟨rfl, vs, .inl (.inl eh)⟩, al1, h1, ρ, rh1, rs.stp st1, ?_⟩
        refine Fin.bnd (show Fin _ _ _ _ _ _ _ _ (((ev cal e ρ).bnd fun y => (pur y).bnd fun d => appR (.ref n) d) h1) from fin1) fun r2 h2 al2 H2 v2 st2 rh2 rr2 fin2 => ?_
        obtain ⟨d, rfl, rd, fin3⟩ := Fin.pur fin2 rr2
        have ea2 := st2.pre n a ea
        have fin4 : Fin X.K X.mg (fun cls dd H' => W cls dd σ H') (RR X.K) al2 h2 H2 Q (appC n d h2 h2[n]?) := fin3
        cases q2 : h2[n]? with
        | none => rw [q2] at fin4; exact fin4.elim
        | some c2 =>
          rw [q2] at fin4
          cases c2 with
          | fz _ => exact fin4.elim
          | dct _ _ => exact fin4.elim
          | lst xs2 =>
            obtain ⟨vs2, eh2, rds2⟩ := rh2.at_ n _ a q2 ea2
            unfold appC at fin4
            by_cases hz : xs2.length < lim
            · simp only [if_pos hz] at fin4
              rw [lim_eq, rds2.length] at hz
              obtain ⟨st3, rh3⟩ := set_cell (c' := .lst (xs2 ++ [d])) (o := .lst (vs2 ++ [v2])) rh2 q2 ea2 rfl rfl fun st => ⟨vs2 ++ [v2], upd_same, (RDs.append rds2 (.cons rd .nil)).keep st.k⟩
              exact ⟨a, vs2, v2, rfl, rfl, eh2, hz, fin4 al2 _ .non st3 rh3 .non⟩
            · simp only [if_neg hz] at fin4
              exact fin4.elim

/-! ### pop -/
theorem lst_at {E : XK} {al : List Addr} {h : Hs} {H : Hp} {Q : VK} {n : Nat} {a : Addr} {g : Unit → M R} (f : Fin X.K X.mg E (RR X.K) al h H Q (((lstOf (.ref n)).bnd g) h)) (rh : RH X.K al h H) (ea : al[n]? = some a) :
    ∃ xs vs, h[n]? = some (.lst xs) ∧ H a = some (.lst vs) ∧ RDs X.K (UU al h) H xs vs ∧ Fin X.K X.mg E (RR X.K) al h H Q (g () h) := by
  have e1 : ((lstOf (.ref n)).bnd g) h = (match lstC h h[n]? with
      | .ok x h2 => g x h2
      | .ex x h2 => .ex x h2
      | .bad => .bad) := by
    unfold M.bnd lstOf hget
    simp only
    cases lstC h h[n]? <;> rfl
  rw [e1] at f
  cases q : h[n]? with
  | none => rw [q] at f; exact f.elim
  | some c =>
    rw [q] at f
    cases c with
    | fz xs => exact f.elim
    | dct t kvs => exact f.elim
    | lst xs =>
      obtain ⟨vs, eh, rds⟩ := rh.at_ n _ a q ea
      exact ⟨xs, vs, rfl, eh, rds, f⟩
theorem RDs.erase {K : Fg} {U : Mu} {H : Hp} : ∀ {ds : List D} {vs : List V} (k : Nat), RDs K U H ds vs → RDs K U H (ds.eraseIdx k) (vs.eraseIdx k)
  | _, _, _, .nil => .nil
  | _, _, 0, .cons _ t => t
  | _, _, k + 1, .cons a t => .cons a (RDs.erase k t)
theorem RDs.dropLast {K : Fg} {U : Mu} {H : Hp} {ds : List D} {vs : List V} (r : RDs K U H ds vs) : RDs K U H ds.dropLast vs.dropLast := by
  rw [List.dropLast_eq_take, List.dropLast_eq_take, r.length]
  exact r.take _
theorem ixN_in {n : Nat} {k : Int} (h0 : 0 ≤ k) (h1 : k < n) : seqIndex? k n = some k.toNat :=
  (ixN_seq (show ixN n k = some k.toNat by unfold ixN; rw [if_pos h0, if_pos h1])).1
theorem pop_ok (g : Gx T cal k X sc N) {o e : E} {po pe : Expr} {apos pos : Pos} (hn : notSuper po = true) (hl : (apos.endLine == pos.line) = true) (hs : notStar pe = true) (he : PE X pe (tM X W (ev cal e)))
    (ho : PE X po (tM X W (ev cal o))) : PE X (.Call (.Attribute po "pop" apos) [pe] [] pos) (tM X W (ev cal (.pop o e))) := by
  have pa : PA X [pe] (tCons (tM X W (ev cal e)) tNil) := pa_cons he pa_nil (star_cons hs)
  refine PE.imp (pe_bm PySem.F.plainAttrs_list PySem.F.slot_list_pop PySem.F.type_list_pop mt_popAt ho pa (super_no hn) (few1 hs) hl (star_cons hs)) fun σ H Q ⟨al, hh, ρ, rh, rs, fin⟩ => ?_
  unfold ev at fin
  refine ⟨al, hh, ρ, rh, rs, Fin.bnd fin fun r1 h1 al1 H1 v1 st1 rh1 rr1 fin1 => ?_⟩
  cases r1 with
  | d x => exact fin1.elim
  | ref n =>
    obtain ⟨a, ea, rfl⟩ := rr1
    obtain ⟨xs, vs, q, eh, rds, fin1⟩ := lst_at fin1 rh1 ea
    refine ⟨.inl ⟨rfl, vs, .inl (.inl eh)⟩, al1, h1, ρ, rh1, rs.stp st1, ?_⟩
    refine Fin.bnd fin1 fun r2 h2 al2 H2 v2 st2 rh2 rr2 fin2 => ?_
    obtain ⟨d, rfl, rd, fin3⟩ := Fin.pur fin2 rr2
    have ea2 := st2.pre n a ea
    cases d with
    | int i =>
      cases rd
      have fin4 : Fin X.K X.mg (fun cls dd H' => W cls dd σ H') (RR X.K) al2 h2 H2 Q (popC n i h2 h2[n]?) := fin3
      cases q2 : h2[n]? with
      | none => rw [q2] at fin4; exact fin4.elim
      | some c2 =>
        rw [q2] at fin4
        cases c2 with
        | fz _ => exact fin4.elim
        | dct _ _ => exact fin4.elim
        | lst xs2 =>
          obtain ⟨vs2, eh2, rds2⟩ := rh2.at_ n _ a q2 ea2
          unfold popC at fin4
          dsimp only at fin4
          split at fin4
          · rename_i hz
            cases qd : xs2[i.toNat]? with
            | none => rw [qd] at fin4; exact fin4.elim
            | some y =>
              rw [qd] at fin4
              obtain ⟨yv, ey, ry⟩ := rds2.get qd
              obtain ⟨st3, rh3⟩ := set_cell (c' := .lst (xs2.eraseIdx i.toNat)) (o := .lst (vs2.eraseIdx i.toNat)) rh2 q2 ea2 rfl rfl fun st => ⟨_, upd_same, (RDs.erase _ rds2).keep st.k⟩
              exact ⟨a, vs2, i, i.toNat, yv, rfl, rfl, eh2, by omega, by omega, ixN_in hz.1 (by rw [← rds2.length]; exact hz.2.1), ey, fin4 al2 _ yv st3 rh3 (ry.keep st3.k)⟩
          · exact fin4.elim
    | _ => exact fin3.elim
theorem popl_ok (g : Gx T cal k X sc N) {o : E} {po : Expr} {apos pos : Pos} (hn : notSuper po = true) (hl : (apos.endLine == pos.line) = true)
    (ho : PE X po (tM X W (ev cal o))) : PE X (.Call (.Attribute po "pop" apos) [] [] pos) (tM X W (ev cal (.popl o))) := by
  refine PE.imp (pe_bm0 PySem.F.plainAttrs_list PySem.F.slot_list_pop PySem.F.type_list_pop mt_pop ho (super_no hn) hl) fun σ H Q ⟨al, hh, ρ, rh, rs, fin⟩ => ?_
  unfold ev at fin
  refine ⟨al, hh, ρ, rh, rs, Fin.bnd fin fun r1 h1 al1 H1 v1 st1 rh1 rr1 fin1 => ?_⟩
  cases r1 with
  | d x => exact fin1.elim
  | ref n =>
    obtain ⟨a, ea, rfl⟩ := rr1
    have fin4 : Fin X.K X.mg (fun cls dd H' => W cls dd σ H') (RR X.K) al1 h1 H1 Q (poplC n h1 h1[n]?) := fin1
    cases q2 : h1[n]? with
    | none => rw [q2] at fin4; exact fin4.elim
    | some c2 =>
      rw [q2] at fin4
      cases c2 with
      | fz _ => exact fin4.elim
      | dct _ _ => exact fin4.elim
      | lst xs2 =>
        obtain ⟨vs2, eh2, rds2⟩ := rh1.at_ n _ a q2 ea
        unfold poplC at fin4
        dsimp only at fin4
        cases qd : xs2[xs2.length - 1]? with
        | none => rw [qd] at fin4; exact fin4.elim
        | some y =>
          rw [qd] at fin4
          obtain ⟨yv, ey, ry⟩ := rds2.get qd
          obtain ⟨st3, rh3⟩ := set_cell (c' := .lst xs2.dropLast) (o := .lst vs2.dropLast) rh1 q2 ea rfl rfl fun st => ⟨_, upd_same, (RDs.dropLast rds2).keep st.k⟩
          exact ⟨.inl ⟨rfl, vs2, .inl (.inl eh2)⟩, a, vs2, yv, rfl, rfl, eh2, by rw [← rds2.length]; exact ey, fin4 al1 _ yv st3 rh3 (ry.keep st3.k)⟩

/-! ### calls of the text's own defs -/
theorem run_fnG {P : Sp} {a : Addr} {fd : FuncData} {ps : List Str} {pins : List (Addr × Obj)} {σ : Sg} {H : Hp} {s : Shared} {Q : VK} {us : List Value} {vs : List V} {E : XK} (F : FnG X.prog X.w X.K X.mg X.base k a fd ps P) (hr : Room k X.A) (hg : X.A.guards = some [])
    (hb : Binds X.K fd ps []) (hx : PassesAt (L2.CX X.prog X.w) X σ E) (I : Inv X pins σ H s) (r : Vals vs us) (h : P vs H Q E) : wpAny (model X.prog X.w) X.A (call (.ref a) us) (EP X pins σ Q) X.xe s := by
  have hl : (us ++ []).length = ps.length := by rw [List.append_nil, ← r.length]; exact F.len _ _ _ _ h
  have b := hb s us I.kIn hl
  rw [List.append_nil] at b
  refine wpAny_call (codeAny_mono (F.run X.A X.stack s H ⟨us, []⟩ us vs Q E hr hg I.env0 b r h) fun res s' hq => ?_)
  match res, hq with
  | .error e, hq => exact hx pins H s e s' I hq
  | .ok (.ret u), hq => exact I.after hq
  | .ok .next, hq => exact hq.elim
  | .ok .brk, hq => exact hq.elim
  | .ok .cont, hq => exact hq.elim
theorem call_ok (g : Gx T cal k X sc N) (tk : Takes X W) {f : Nat} {es : List E} {x : Str} {pe : Expr} {pes : List Expr} {p pos : Pos} (hf : T.fnm f = some x) (h1 : glB sc x = true) (h2 : okN x = true) (hs : (pe :: pes).all notStar = true) (pa : PA X (pe :: pes) (tMs X W (evs cal es))) :
    PE X (.Call (.Name x p) (pe :: pes) [] pos) (tM X W (ev cal (.call f es))) := by
  obtain ⟨n1, n2, n3⟩ := okN_ok h2
  rw [List.all_cons, Bool.and_eq_true] at hs
  obtain ⟨a, fd, ps, hm, hk, hb, F⟩ := g.calls f x hf
  refine ⟨fun pins s σ H Q I h => ?_⟩
  obtain ⟨al, hh, ρ, rh, rs, fin⟩ := h
  unfold ev at fin
  refine wpAny_Call_Name_kw (ld_glob I (g.gl h1) hm ?_ n1)
  refine PySem.W.callWith_K (h₀ := X.base) I.ok.mod.kin hk (thn (pa.run pos pins s σ H (fun vs H1 => spM X.K X.mg cal f vs H1 Q (WE W σ)) I ⟨al, hh, ρ, rh, rs, ?_⟩) fun us s1 ⟨vs, H1, I1, r, q⟩ => ⟨I1.kIn, ?_⟩) (star_cons hs.1) (star_any hs.2)
  · exact Fin.bnd fin fun r1 h1 al1 H1 v1 st1 rh1 rr1 fin1 => ⟨al1, h1, r1, rh1, rr1, fin1⟩
  · exact run_fnG F g.room g.gd hb (passAt tk σ) I1 r q
theorem call0_ok (g : Gx T cal k X sc N) (tk : Takes X W) {f : Nat} {es : List E} {x : Str} {p pos : Pos} (hf : T.fnm f = some x) (h1 : glB sc x = true) (h2 : okN x = true) (hn : es.isEmpty = true) :
    PE X (.Call (.Name x p) [] [] pos) (tM X W (ev cal (.call f es))) := by
  obtain ⟨n1, n2, n3⟩ := okN_ok h2
  rw [List.isEmpty_iff] at hn
  subst hn
  obtain ⟨a, fd, ps, hm, hk, hb, F⟩ := g.calls f x hf
  refine ⟨fun pins s σ H Q I h => ?_⟩
  obtain ⟨al, hh, ρ, rh, rs, fin⟩ := h
  unfold ev evs at fin
  refine wpAny_Call_Name_kw (ld_glob I (g.gl h1) hm ?_ n1)
  exact PySem.W.callWith_K0 I.kIn hk (run_fnG F g.room g.gd hb (passAt tk σ) I .nil ⟨al, hh, [], rh, .nil, fin⟩)
end
end Cy


set_option Elab.async false
set_option linter.all false
set_option maxRecDepth 100000
set_option maxHeartbeats 4000000
/-! L3e: targets, what is walked, comprehensions. -/
namespace Cy
open PySem PySem.Spec PyProof.Rows L2

theorem bnd_assoc {α β γ : Type} (m : M α) (f : α → M β) (g : β → M γ) : (m.bnd f).bnd g = m.bnd fun x => (f x).bnd g := by
  funext h
  unfold M.bnd
  cases m h <;> rfl
theorem ret_bnd {α β : Type} (a : α) (f : α → M β) : (M.ret a).bnd f = f a := rfl

/-! ### targets -/
mutual
def gT (K : Fg) : Tg → TG
  | .n i => gName i
  | .t l => gTup K l.length (gTs K l)
def gTs (K : Fg) : List Tg → TGs
  | [] => gNil
  | t :: l => gCons (gT K t) (gTs K l)
end
theorem each_cons {e : Expr} {es : List Expr} {env : Env} (h : notStar e = true) : assignEach (e :: es) env = (false, assign e env) :: assignEach es env := by
  cases e <;> first | rfl | cases h
theorem go_len {fnc : Str → Bool} {sc : Scope} {N : List Str} : ∀ {l : List Tg} {es : List Expr} {env : Env}, chkT.go fnc sc N l es = true → (assignEach es env).length = l.length ∧ (assignEach es env).findIdx? (·.1) = none
  | [], [], _, _ => ⟨rfl, rfl⟩
  | [], _ :: _, _, h => by simp [chkT.go] at h
  | _ :: _, [], _, h => by simp [chkT.go] at h
  | t :: l, e :: es, env, h => by
    unfold chkT.go at h
    simp only [Bool.and_eq_true] at h
    obtain ⟨h1, h2⟩ := go_len (env := env) h.2
    rw [each_cons h.1.1]
    refine ⟨by simp [h1], ?_⟩
    rw [List.findIdx?_cons]
    simp [h2]
section
variable {X : Cx} {fnc : Str → Bool} {sc : Scope} {N : List Str}
mutual
theorem chkT_ok (hN : X.N = N) (nd : N.Nodup) (hs : X.env.scope = sc) (hc : X.calm = true) (hf : ∀ x, fnc x = true → X.fn x = true) : ∀ {tg : Tg} {e : Expr}, chkT fnc sc N tg e = true → PG X e (gT X.K tg)
  | .n i, e, h => by
    cases e with
    | Name x pos =>
      unfold chkT at h
      simp only [Bool.and_eq_true, decide_eq_true_eq] at h
      obtain ⟨h1, h2⟩ := h
      unfold gT
      split at h2
      · rename_i q
        exact pg_name (by rw [hN]; exact nd) (by rw [hN]; exact h1) (.inl (by rw [hs]; exact q)) (.inr (by rw [hs]; exact q))
      · rename_i q
        exact pg_name (by rw [hN]; exact nd) (by rw [hN]; exact h1) (.inr (by rw [hs]; exact q)) (.inl (hf x h2))
      · cases h2
    | _ => simp [chkT] at h
  | .t l, e, h => by
    cases e with
    | Tuple es j pos =>
      unfold chkT at h
      unfold gT
      obtain ⟨h1, h2⟩ := go_len (env := X.env) h
      exact pg_tup hc (chkTs_ok hN nd hs hc hf h) h1 h2
    | _ => simp [chkT] at h
theorem chkTs_ok (hN : X.N = N) (nd : N.Nodup) (hs : X.env.scope = sc) (hc : X.calm = true) (hf : ∀ x, fnc x = true → X.fn x = true) : ∀ {l : List Tg} {es : List Expr}, chkT.go fnc sc N l es = true → PGs X es (gTs X.K l)
  | [], [], _ => by unfold gTs; exact pgs_nil
  | [], _ :: _, h => by simp [chkT.go] at h
  | _ :: _, [], h => by simp [chkT.go] at h
  | t :: l, e :: es, h => by
    unfold chkT.go at h
    simp only [Bool.and_eq_true] at h
    unfold gTs
    exact pgs_cons (chkT_ok hN nd hs hc hf h.1.2) (chkTs_ok hN nd hs hc hf h.2) (by rw [each_cons h.1.1]; rfl)
end
end

theorem wipe_get (σ : Sg) : ∀ (vs : List Nat) (i : Nat), (L2.wipe σ vs)[i]? = if i ∈ vs then (if i < σ.length then some none else none) else σ[i]?
  | [], i => by simp [L2.wipe]
  | v :: vs, i => by
    unfold L2.wipe
    by_cases hv : v = i
    · subst hv
      simp only [List.mem_cons, true_or, if_true]
      by_cases hl : v < σ.length
      · rw [List.getElem?_set_self (by rw [wipe_length]; exact hl), if_pos hl]
      · rw [List.getElem?_eq_none (by rw [List.length_set, wipe_length]; omega), if_neg hl]
    · rw [List.getElem?_set_ne hv, wipe_get σ vs i]
      simp [List.mem_cons, Ne.symm hv]
theorem wipe_wipe (σ : Sg) (vs : List Nat) : L2.wipe (L2.wipe σ vs) vs = L2.wipe σ vs := by
  apply List.ext_getElem?
  intro i
  rw [wipe_get, wipe_get, wipe_length]
  by_cases h : i ∈ vs <;> simp [h]
theorem wipe_set {σ : Sg} {vs : List Nat} {i : Nat} {x : Option V} (h : i ∈ vs) : L2.wipe (σ.set i x) vs = L2.wipe σ vs := by
  apply List.ext_getElem?
  intro j
  rw [wipe_get, wipe_get, List.length_set]
  by_cases hj : j ∈ vs
  · simp [hj]
  · have : i ≠ j := fun e => hj (e ▸ h)
    rw [if_neg hj, if_neg hj, List.getElem?_set_ne this]

section
variable {K : Fg} {al : List Addr} {U : Mu} {H : Hp}
theorem RS.set {ρ : Rho} {σ : Sg} (rs : RS K al U H ρ σ) {i : Nat} {r : R} {v : V} (rr : RR K al U H r v) : RS K al U H (ρ.set i (some r)) (σ.set i (some v)) := by
  refine ⟨by rw [List.length_set, List.length_set]; exact rs.1, fun j q e => ?_⟩
  by_cases h : i = j
  · subst h
    by_cases hl : i < ρ.length
    · rw [List.getElem?_set_self hl] at e
      cases e
      exact ⟨v, List.getElem?_set_self (by rw [← rs.1]; exact hl), rr⟩
    · rw [List.getElem?_eq_none (by rw [List.length_set]; omega)] at e; cases e
  · rw [List.getElem?_set_ne h] at e
    obtain ⟨w, e1, e2⟩ := rs.2 j q e
    exact ⟨w, by rw [List.getElem?_set_ne h]; exact e1, e2⟩
theorem RS.wipe {ρ : Rho} {σ : Sg} (rs : RS K al U H ρ σ) : ∀ vs : List Nat, RS K al U H (Cy.wipe ρ vs) (L2.wipe σ vs)
  | [] => rs
  | v :: vs => by
    have ih := RS.wipe rs vs
    unfold Cy.wipe L2.wipe
    refine ⟨by rw [List.length_set, List.length_set]; exact ih.1, fun j q e => ?_⟩
    by_cases h : v = j
    · subst h
      by_cases hl : v < (Cy.wipe ρ vs).length
      · rw [List.getElem?_set_self hl] at e; cases e
      · rw [List.getElem?_eq_none (by rw [List.length_set]; omega)] at e; cases e
    · rw [List.getElem?_set_ne h] at e
      obtain ⟨w, e1, e2⟩ := ih.2 j q e
      exact ⟨w, by rw [List.getElem?_set_ne h]; exact e1, e2⟩
mutual
theorem gT_ok : ∀ (tg : Tg) {r : R} {v : V} {ρ ρ' : Rho} {σ : Sg}, RR K al U H r v → put tg r ρ = some ρ' → RS K al U H ρ σ → ∀ {Q : Sg → Hp → Prop},
    (∀ σ', RS K al U H ρ' σ' → (∀ vs, (∀ i ∈ tgS tg, i ∈ vs) → L2.wipe σ' vs = L2.wipe σ vs) → Q σ' H) → gT K tg v σ H Q
  | .n i, r, v, ρ, ρ', σ, rr, e, rs, Q, q => by
    unfold put at e
    split at e
    · cases e
      unfold gT
      exact q _ (rs.set rr) fun vs hv => wipe_set (hv i (by simp [tgS]))
    · cases e
  | .t l, r, v, ρ, ρ', σ, rr, e, rs, Q, q => by
    cases r with
    | ref n => simp [put] at e
    | d x =>
      cases x with
      | tuple xs =>
        unfold put at e
        obtain ⟨a, vs, ev, hq, rds⟩ := (RT.rd rr).sqt
        unfold gT
        have hl : xs.length = l.length := by
          have : ∀ (l : List Tg) (xs : List D) (ρ : Rho), put.putAll l xs ρ = some ρ' → xs.length = l.length := by
            intro l
            induction l with
            | nil => intro xs ρ e; cases xs with
              | nil => rfl
              | cons _ _ => simp [put.putAll] at e
            | cons t l ih => intro xs ρ e; cases xs with
              | nil => simp [put.putAll] at e
              | cons x xs =>
                unfold put.putAll at e
                cases h : put t (.d x) ρ with
                | none => rw [h] at e; cases e
                | some ρ1 =>
                  rw [h] at e
                  simp [ih xs ρ1 e]
          exact this l xs ρ e
        refine ⟨a, vs, ev, hq, by rw [← rds.length]; exact hl, gTs_ok l rds e rs fun σ' rs' w => q σ' rs' fun us hu => w us fun i hi => hu i (by unfold tgS; exact hi)⟩
      | _ => simp [put] at e
theorem gTs_ok : ∀ (l : List Tg) {ds : List D} {vs : List V} {ρ ρ' : Rho} {σ : Sg}, RDs K U H ds vs → put.putAll l ds ρ = some ρ' → RS K al U H ρ σ → ∀ {Q : Sg → Hp → Prop},
    (∀ σ', RS K al U H ρ' σ' → (∀ us, (∀ i ∈ tgS.go l, i ∈ us) → L2.wipe σ' us = L2.wipe σ us) → Q σ' H) → gTs K l vs σ H Q
  | [], ds, vs, ρ, ρ', σ, rr, e, rs, Q, q => by
    cases rr with
    | nil =>
      unfold put.putAll at e
      cases e
      unfold gTs
      exact ⟨rfl, q σ rs fun _ _ => rfl⟩
    | cons _ _ => simp [put.putAll] at e
  | t :: l, ds, vs, ρ, ρ', σ, rr, e, rs, Q, q => by
    cases rr with
    | nil => simp [put.putAll] at e
    | cons a b =>
      unfold put.putAll at e
      rename_i x v xs vs
      cases h : put t (.d x) ρ with
      | none => rw [h] at e; cases e
      | some ρ1 =>
        rw [h] at e
        unfold gTs
        refine ⟨_, _, rfl, gT_ok t (r := .d x) a h rs fun σ1 rs1 w1 => gTs_ok l b e rs1 fun σ' rs' w => q σ' rs' fun us hu => ?_⟩
        rw [w us fun i hi => hu i (by unfold tgS.go; exact List.mem_append_right _ hi), w1 us fun i hi => hu i (by unfold tgS.go; exact List.mem_append_left _ hi)]
end
end
end Cy


set_option Elab.async false
set_option linter.all false
set_option maxRecDepth 100000
set_option maxHeartbeats 8000000
/-! LE: enumerate of a tuple, of a text. -/
namespace Cy
open PySem PySem.Spec PyProof.Rows L2

/-- what enumerate hands out: get i H x: x is the item i now, got: it is all that may be; out i H: there is none -/
def ItE (get got : Nat → Hp → V → Prop) (out : Nat → Hp → Prop) : It :=
  ⟨fun i H => ∃ x, get i H x, fun i H v H' => ∃ T x, v = .ref T ∧ H T = none ∧ H' = upd H T (.tup [.int (i : Nat), x]) ∧ got i H x, out⟩
/-- a source of items, drawn through the iterator it -/
structure Src (P : Program) (w : World) (K : Fg) (get got : Nat → Hp → V → Prop) (out : Nat → Hp → Prop) (it : Addr) (tn : Nat → Heap → Prop) : Prop where
  obj : ∀ i h, tn i h → ∃ o, h.get? it = some o ∧ ∀ v, o.data ≠ .cell v
  keep : ∀ i h h', tn i h → (∀ o, h.get? it = some o → h'.get? it = some o) → tn i h'
  more : ∀ (X : Cx), X.prog = P → X.w = w → X.K = K → X.calm = true → ∀ (i : Nat) (pins : List (Addr × Obj)) (s : Shared) (σ : Sg) (H : Hp), Inv X pins σ H s → tn i s.heap → (∃ x, get i H x) →
    ∃ (fp : List Addr) (n : Nat) (Pd : Nat → Value → Prop) (St : Nat → Heap → Prop), Draws P w X.A.in1 it fp n Pd St ∧ St i s.heap ∧ i < n ∧ (∀ b ∈ fp, b = it ∨ ∃ ob, s.heap.get? b = some ob ∧ ob.cls ≠ .type "enumerate") ∧ (∀ u, Pd i u → ∃ x, RelV x u ∧ got i H x) ∧ ∀ h', St (i + 1) h' → tn (i + 1) h'
  last : ∀ (X : Cx), X.prog = P → X.w = w → X.K = K → X.calm = true → ∀ (i : Nat) (pins : List (Addr × Obj)) (s : Shared) (σ : Sg) (H : Hp), Inv X pins σ H s → tn i s.heap → out i H →
    ∃ (fp : List Addr) (n : Nat) (Pd : Nat → Value → Prop) (St : Nat → Heap → Prop), Draws P w X.A.in1 it fp n Pd St ∧ St n s.heap
theorem turn_en {P : Program} {w : World} {K : Fg} {elts : List Expr} {kk : Nat} {tpos : Pos} {get got : Nat → Hp → V → Prop} {out : Nat → Hp → Prop} {it : Addr} {tn : Nat → Heap → Prop} (e : Addr) (S : Src P w K get got out it tn) :
    Turn P w K (.Tuple elts kk tpos) (ItE get got out) [e, it] e (fun i h => (∃ old, IsEnum h e it ((i : Nat) : Int) old) ∧ tn i h ∧ e ≠ it) where
  mem := by simp
  obj := fun i h ⟨⟨old, he⟩, ht, _⟩ b hb => by
    rcases List.mem_cons.mp hb with rfl | hb
    · exact ⟨_, he, fun v q => nomatch q⟩
    · rw [List.mem_singleton] at hb
      subst hb
      exact S.obj i h ht
  keep := fun i h h' ⟨⟨old, he⟩, ht, ne⟩ k => ⟨⟨old, k e (by simp) _ he⟩, S.keep i h h' ht fun o q => k it (by simp) o q, ne⟩
  item := by
    intro X hP hw hK hc i pins s σ H E I hf ⟨⟨old, he⟩, ht, ne⟩ hg
    obtain ⟨fp, n, Pd, St, D, st, lt, ap, cv, nx⟩ := S.more X hP hw hK hc i pins s σ H I ht hg
    subst hP hw hK
    have le : e < s.heap.objs.size := Heap.lt_size he
    have nef : e ∉ fp := fun hm => by
      rcases ap e hm with z | ⟨ob, z1, z2⟩
      · exact ne z
      · rw [he] at z1
        cases z1
        exact z2 rfl
    refine wpAny_pyNext_enum_itemD D he st lt ne nef fun u h' tk pu ho st' hT hz hk => ⟨_, rfl, wpAny_letOwnedTupleGo_enum (s := { s with heap := h', toks := tk + 1 }) ho fun h2 he2 sb => ?_⟩
    obtain ⟨x, rx, gx⟩ := cv u pu
    have at2 : h2.get? s.heap.objs.size = some { cls := .type "tuple", data := .seq #[.int i tk, u] } := (sb.2 _ (Nat.ne_of_gt le)).trans hT
    have new : ObjOk X.prog X.w (upd H s.heap.objs.size (.tup [.int (i : Nat), x])) h2 s.heap.objs.size (.tup [.int (i : Nat), x]) := ⟨by show 2 ≤ sizeLine; decide, [.int i tk, u], .cons ⟨_, rfl⟩ (.cons rx .nil), ⟨_, at2, rfl, _, rfl⟩⟩
    have I1 : Inv X pins σ (upd H s.heap.objs.size (.tup [.int (i : Nat), x])) { s with heap := h2, toks := tk + 1 } :=
      I.turnedNew (ch := [e, it]) (fun b ob hb q => by
        have b1 : b ≠ e := fun z => hb (by simp [z])
        have b2 : b ≠ it := fun z => hb (by simp [z])
        exact (sb.2 b b1).trans (hk b ob b1 b2 q)) hf (Nat.le_refl _) new
    have tn1 : tn (i + 1) h2 := S.keep _ _ _ (nx h' st') fun o q => (sb.2 it (Ne.symm ne)).trans q
    have en1 : ((i + 1 : Nat) : Int) = (i : Int) + 1 := by omega
    refine ⟨.ref s.heap.objs.size, _, I1, rfl, ⟨_, x, rfl, I.hok.fresh (Nat.le_refl _), rfl, gx⟩, ⟨⟨u, by rw [en1]; exact he2⟩, tn1, ne⟩, fun b hb => ?_⟩
    have lb : b < s.heap.objs.size := by
      rcases List.mem_cons.mp hb with rfl | hb
      · exact le
      · rw [List.mem_singleton] at hb
        subst hb
        obtain ⟨ob, q, _⟩ := S.obj i _ ht
        exact Heap.lt_size q
    rw [upd_ne (Nat.ne_of_lt lb)]
    exact (hf b hb).1
  done := by
    intro X hP hw hK hc i pins s σ H E I hf ⟨⟨old, he⟩, ht, ne⟩ hg
    obtain ⟨fp, n, Pd, St, D, st⟩ := S.last X hP hw hK hc i pins s σ H I ht hg
    subst hP hw hK
    obtain ⟨f0, f1, f2, f3, f4, f5⟩ := hf it (by simp)
    exact wpAny_pyNext_enum_endD D he st fun h' eb => ⟨rfl, I.turned (t' := s.toks) (fun b o hb q => eb b o hb q) f0 f1 f3 f4 f5⟩
  self := fun A i s Q E ⟨⟨_, he⟩, _⟩ h => wpAny_pyIter_enum he h

/-! ### a tuple -/
def getT (K : Fg) (a : Addr) (i : Nat) (H : Hp) (x : V) : Prop := ∃ xs, SqT K H a xs ∧ xs[i]? = some x
def gotT (K : Fg) (a : Addr) (i : Nat) (H : Hp) (x : V) : Prop := ∀ xs, SqT K H a xs → xs[i]? = some x
def outT (K : Fg) (a : Addr) (i : Nat) (H : Hp) : Prop := ∃ xs : List V, SqT K H a xs ∧ xs.length ≤ i
theorem src_tup {P : Program} {w : World} {K : Fg} (a it : Addr) : Src P w K (getT K a) (gotT K a) (outT K a) it (fun i h => h.IsTupleIter it a i) where
  obj := fun i h ⟨o, ho, hc, hd⟩ => ⟨o, ho, fun v q => by rw [hd] at q; cases q⟩
  keep := fun i h h' hi k => hi.at k
  more := by
    intro X hP hw hK hc i pins s σ H I hi ⟨x, xs, hq, hx⟩
    subst hP hw hK
    obtain ⟨its, rv, tp, _⟩ := I.tuple hq
    obtain ⟨u, hu, ru⟩ := rv.get hx
    have ne : a ≠ it := fun z => by
      subst z
      obtain ⟨o, q1, q2, _⟩ := hi
      obtain ⟨o', q3, q4, _⟩ := tp
      rw [q1] at q3
      have q5 := Option.some.inj q3
      rw [← q5, q2] at q4
      exact absurd q4 (by decide)
    have hlt : i < its.length := by
      rcases Nat.lt_or_ge i its.length with z | z
      · exact z
      · rw [List.getElem?_eq_none z] at hu; cases hu
    refine ⟨_, _, _, _, Draws.tuple (A := X.A.in1) (I.ok.hd hc) it a ne its.toArray, ⟨hi, tp⟩, by simpa using hlt, fun b hb => ?_, fun v hv => ?_, fun h' q => q.1⟩
    · rcases List.mem_cons.mp hb with rfl | hb
      · exact .inl rfl
      · rw [List.mem_singleton] at hb
        subst hb
        obtain ⟨o, q3, q4, _⟩ := tp
        refine .inr ⟨o, q3, ?_⟩
        rw [q4]
        decide
    · have e : its[i]? = some v := by simpa using hv
      rw [hu] at e
      cases e
      exact ⟨x, ru, fun ys hy => by rw [I.tuple_inj hy hq]; exact hx⟩
  last := by
    intro X hP hw hK hc i pins s σ H I hi ⟨xs, hq, hl⟩
    subst hP hw hK
    obtain ⟨its, rv, tp, _⟩ := I.tuple hq
    have ne : a ≠ it := fun z => by
      subst z
      obtain ⟨o, q1, q2, _⟩ := hi
      obtain ⟨o', q3, q4, _⟩ := tp
      rw [q1] at q3
      have q5 := Option.some.inj q3
      rw [← q5, q2] at q4
      exact absurd q4 (by decide)
    have no : its.toArray[i]? = none := by
      have := rv.length
      simp
      omega
    refine ⟨[it, a], i, fun _ _ => False, fun j h => j = i ∧ h.IsTupleIter it a i ∧ h.IsTuple a its.toArray, ⟨fun j h z => ?_, fun j h h' z k => ?_, fun j s2 Q2 E2 lt z _ => ?_, fun s2 Q2 E2 z q => ?_⟩, rfl, hi, tp⟩
    · obtain ⟨_, ⟨o, q, _⟩, _⟩ := z
      exact ⟨o, q⟩
    · exact ⟨z.1, z.2.1.at fun o e => k it (by simp) o e, z.2.2.at fun o e => k a (by simp) o e⟩
    · have := z.1
      omega
    · exact wpAny_nextOf_tuple_end (A := X.A.in1) (I.ok.hd hc) z.2.1 z.2.2 no q

/-! ### a text -/
def getS (x : Str) (i : Nat) (_ : Hp) (v : V) : Prop := ∃ c, x.cps[i]? = some c ∧ v = .str ⟨#[c]⟩
def outS (x : Str) (i : Nat) (_ : Hp) : Prop := x.cps.size ≤ i
theorem text_end {P : Program} {w : World} {A : Around} {E : Value → Shared → Prop} {s : Shared} {it : Addr} {x : Str} {t : Tok} {i : Nat} {Q : Value → Shared → Prop} (hh : A.handled = none) (hit : s.heap.IsStrIter it (strIterType x) x t i) (hx : x.cps[i]? = none)
    (q : ∀ h' e, Heap.ExtBut it s.heap h' → (∃ o, h'.get? e = some o ∧ o.cls = .type "StopIteration") → E (.ref e) { s with heap := h' }) : wpAny (model P w) A (Builtin.SmallTypes.nextOf (.ref it)) Q E s := by
  unfold strIterType at hit
  split at hit
  · exact wpAny_nextOf_ascii_end hh hit hx q
  · exact wpAny_nextOf_wide_end hh hit hx q
theorem src_str {P : Program} {w : World} {K : Fg} (x : Str) (t : Tok) (it : Addr) : Src P w K (getS x) (getS x) (outS x) it (fun i h => h.IsStrIter it (strIterType x) x t i) where
  obj := fun i h ⟨o, ho, hc, hd⟩ => ⟨o, ho, fun v q => by rw [hd] at q; cases q⟩
  keep := fun i h h' ⟨o, ho, hc, hd⟩ k => ⟨o, k o ho, hc, hd⟩
  more := by
    intro X hP hw hK hc i pins s σ H I hi ⟨v, c, hx, ev⟩
    subst hP hw hK
    have lt : i < x.cps.size := by
      rcases Nat.lt_or_ge i x.cps.size with z | z
      · exact z
      · rw [Array.getElem?_eq_none z] at hx; cases hx
    refine ⟨_, _, _, _, Draws.text (A := X.A.in1) (I.ok.hd hc) it x t, hi, lt, fun b hb => .inl (by simpa using hb), fun u ⟨c', k, e1, e2⟩ => ?_, fun h' q => q⟩
    subst e2
    exact ⟨.str ⟨#[c']⟩, ⟨_, rfl⟩, c', e1, rfl⟩
  last := by
    intro X hP hw hK hc i pins s σ H I hi hl
    subst hP hw hK
    have no : x.cps[i]? = none := Array.getElem?_eq_none hl
    refine ⟨[it], i, fun _ _ => False, fun j h => j = i ∧ h.IsStrIter it (strIterType x) x t i, ⟨fun j h z => ?_, fun j h h' z k => ?_, fun j s2 Q2 E2 lt z _ => ?_, fun s2 Q2 E2 z q => ?_⟩, rfl, hi⟩
    · obtain ⟨_, o, q, _⟩ := z
      exact ⟨o, q⟩
    · obtain ⟨z1, o, z2, z3, z4⟩ := z
      exact ⟨z1, o, k it (by simp) o z2, z3, z4⟩
    · have := z.1
      omega
    · exact text_end (A := X.A.in1) (I.ok.hd hc) z.2 no q

/-! ### the making -/
set_option maxHeartbeats 1000000 in
theorem meets_en {v : Value} {o : Obj} {Hh : Heap → Prop} (B : Begins v o Hh) :
    Meets (Builtin.«enumerate.__new__» ⟨[.type "enumerate", v], []⟩) (fun _ R s => Hh s.heap ∧
      R (.ok (.ret (.ref (s.heap.push o).objs.size))) { s with heap := (s.heap.push o).push { cls := .type "enumerate", data := .fields #[.none, .bool false, .ref s.heap.objs.size, rawInt 0, .none, .none] } }) :=
  .of_wp fun prog w A R s h => by
    obtain ⟨hp, g, d, tk, os⟩ := s
    obtain ⟨h1, h2⟩ := h
    have hsub := sub_enumerate
    have go : ∀ {A' : Around} {E : Value → Shared → Prop} {Q : Value → Shared → Prop}, Q (.ref hp.objs.size) ⟨hp.push o, g, d, tk, os⟩ → wpAny (model prog w) A' (pyIter v) Q E ⟨hp, g, d, tk, os⟩ := fun q => B.iter prog w _ _ ⟨hp, g, d, tk, os⟩ _ h1 q
    wp_walk using go
    refine wpAny_stack_any fun st => wpAny_pure ?_
    split
    · rename_i c _ _ _ _ _
      cases (c == Value.type "enumerate") <;> (wp_walk using go; exact ⟨_, rfl, h2⟩)
    · wp_walk using go
      exact ⟨_, rfl, h2⟩
theorem en_begins {P : Program} {w : World} {A : Around} {E : Value → Shared → Prop} {s : Shared} {v : Value} {o : Obj} {Hh : Heap → Prop} {Q : Value → Shared → Prop} (B : Begins v o Hh) (h1 : Hh s.heap)
    (q : ∀ h', IsEnum h' (s.heap.objs.size + 1) s.heap.objs.size 0 .none → h'.get? s.heap.objs.size = some o → (∀ b ob, s.heap.get? b = some ob → h'.get? b = some ob) → Q (.ref (s.heap.objs.size + 1)) { s with heap := h' }) :
    wpAny (model P w) A (call (.type "enumerate") [v]) Q E s := by
  refine callType_new F.called_enumerate (by decide) (F.typeCall_enumerate_1 _) (F.newCall_enumerate_1 _) (fun obj => F.args_object_init_2 obj _) F.entry_enumerate_new (meets_en B) ⟨h1, ?_⟩
  have sz : (s.heap.push o).objs.size = s.heap.objs.size + 1 := Heap.size_push ..
  show _ ∧ _
  rw [sz]
  have en : ((s.heap.push o).push { cls := .type "enumerate", data := .fields #[.none, .bool false, .ref s.heap.objs.size, rawInt 0, .none, .none] }).get? (s.heap.objs.size + 1) = some { cls := .type "enumerate", data := .fields #[.none, .bool false, .ref s.heap.objs.size, rawInt 0, .none, .none] } := by
    rw [← sz]
    exact Heap.get?_push_size _ rfl
  exact ⟨⟨_, en, rfl⟩, q _ en (Heap.get?_push_of_some _ (Heap.get?_push_size _ B.free)) fun b ob x => Heap.get?_push_of_some _ (Heap.get?_push_of_some _ x)⟩

section
variable {X : Cx}
theorem pi_en {pins : List (Addr × Obj)} {s : Shared} {σ : Sg} {H : Hp} {elts : List Expr} {kk : Nat} {tpos : Pos} {R : It → Hp → Prop} {get got : Nat → Hp → V → Prop} {out : Nat → Hp → Prop} {tn : Addr → Nat → Heap → Prop} {v : Value} {o : Obj} {Hh : Heap → Prop} (I : Inv X pins σ H s)
    (B : Begins v o Hh) (h1 : Hh s.heap) (S : ∀ it, Src X.prog X.w X.K get got out it (tn it)) (st : ∀ h it, h.get? it = some o → tn it 0 h) (r : R (ItE get got out) H) :
    wpAny (model X.prog X.w) X.A (call (.type "enumerate") [v]) (fun it s2 => wpAny (model X.prog X.w) X.A (pyIter it) (PIE X pins σ (.Tuple elts kk tpos) R) X.xe s2) X.xe s := by
  refine en_begins B h1 fun h' he hi kept => wpAny_pyIter_enum he ?_
  have I2 : Inv X pins σ H { s with heap := h' } := I.kept (t' := s.toks) kept
  refine ⟨s.heap.objs.size + 1, [s.heap.objs.size + 1, s.heap.objs.size], _, _, H, rfl, I2, turn_en _ (S s.heap.objs.size), ⟨⟨.none, he⟩, st _ _ hi, Nat.succ_ne_self _⟩, fun b hb => ?_, r⟩
  have le : s.heap.objs.size ≤ b := by
    rcases List.mem_cons.mp hb with rfl | hb
    · exact Nat.le_succ _
    · rw [List.mem_singleton] at hb
      exact Nat.le_of_eq hb.symm
  exact I.fpOk le (I.hok.fresh le)
/-- enumerate of a tuple or of a text -/
def iEn (K : Fg) (ta : TA) : TI := fun σ H R => ta σ H fun vs H1 => (∃ a xs, vs = [.ref a] ∧ SqT K H1 a xs ∧ R (ItE (getT K a) (gotT K a) (outT K a)) H1) ∨ (∃ x, vs = [.str x] ∧ R (ItE (getS x) (getS x) (outS x)) H1) ∨ ∃ a xs, vs = [.ref a] ∧ SqL K H1 a xs ∧ R (Ite K a) H1
theorem pi_enA {e : Expr} {ta : TA} {p pos tpos : Pos} {elts : List Expr} {kk : Nat} (hg : Gl X "enumerate") (hm : X.mg "enumerate" = none) (ha : PA X [e] ta) (hs : starEach [e] X.env = [(false, eval e X.env)]) :
    PI X (.Tuple elts kk tpos) (.Call (.Name "enumerate" p) [e] [] pos) (iEn X.K ta) := by
  refine ⟨fun pins s σ H R I h => ?_⟩
  refine Call_ (ld_blt I hg hm boot_enumerate (callWith_type1 (thn (ha.run pos pins s σ H _ I h) fun us t ⟨vs, H1, I1, rv, q⟩ => ?_) hs rfl))
  rcases q with ⟨a, xs, rfl, sq, r⟩ | ⟨x, rfl, r⟩ | ⟨a, xs, rfl, sq, r⟩
  · cases rv with
    | cons r1 r2 =>
      cases r2
      cases r1
      obtain ⟨its, _, tp, _⟩ := I1.tuple sq
      exact pi_en I1 (begins_tuple a its.toArray) tp (fun it => src_tup a it) (fun h it e => ⟨_, e, rfl, rfl⟩) r
  · cases rv with
    | cons r1 r2 =>
      cases r2
      obtain ⟨k, rfl⟩ := r1
      exact pi_en I1 (begins_text x k) trivial (fun it => src_str x k it) (fun h it e => ⟨_, e, rfl, rfl⟩) r
  · cases rv with
    | cons r1 r2 =>
      cases r2
      cases r1
      obtain ⟨its, _, pl, _⟩ := I1.list sq
      refine call_enumerate_list pl.isList fun h' he hit hz hk => wpAny_pyIter_enum he ?_
      have I2 : Inv X pins σ H1 { t with heap := h' } := I1.kept (t' := t.toks) hk
      refine ⟨t.heap.objs.size + 1, [t.heap.objs.size + 1, t.heap.objs.size], _, _, H1, rfl, I2, turn_enum a (t.heap.objs.size + 1) t.heap.objs.size, ⟨⟨.none, he⟩, hit, Nat.succ_ne_self _⟩, fun b hb => ?_, r⟩
      have le : t.heap.objs.size ≤ b := by
        rcases List.mem_cons.mp hb with rfl | hb
        · exact Nat.le_succ _
        · rw [List.mem_singleton] at hb
          exact Nat.le_of_eq hb.symm
      exact I1.fpOk le (I1.hok.fresh le)
end
end Cy


set_option Elab.async false
set_option linter.all false
set_option maxRecDepth 100000
set_option maxHeartbeats 4000000
/-! L3f: what is walked; comprehensions. -/
namespace Cy
open PySem PySem.Spec PyProof.Rows L2

/-- the walk J hands out ds, whatever else is changed meanwhile -/
def IW (K : Fg) (U : Mu) (H : Hp) (ds : List D) (J : It) : Prop := ∀ U' H', Keep U H U' H' → NoU U' H' → ∀ i,
  (∀ d, ds[i]? = some d → J.go i H' ∧ ∀ x H'', J.yld i H' x H'' → (∀ a o, H' a = some o → H'' a = some o) ∧ RD K U' H'' d x) ∧ (ds.length ≤ i → J.stop i H')
theorem IW.keep {K : Fg} {U U1 : Mu} {H H1 : Hp} {ds : List D} {J : It} (w : IW K U H ds J) (k : Keep U H U1 H1) : IW K U1 H1 ds J := fun U' H' k' n => w U' H' (k.trans k') n
/-- the items that are walked -/
def itM (cal : Cal) (it : E) (ρ : Rho) : M (List D) := (ev cal it ρ).bnd fun x => (pur x).bnd fun d => M.opt (seqD d)
def tIt (X : Cx) (W : WX) (m : Rho → M (List D)) : TI := fun σ H R => ∃ al h ρ, RH X.K al h H ∧ RS X.K al (UU al h) H ρ σ ∧
  Fin X.K X.mg (fun cls dd H' => W cls dd σ H') (fun _ U H ds J => IW X.K U H ds J) al h H R (m ρ h)
theorem PI.imp {X : Cx} {tg e : Expr} {t t' : TI} (p : PI X tg e t) (i : ∀ σ H R, t' σ H R → t σ H R) : PI X tg e t' := ⟨fun pins s σ H R I h => p.run pins s σ H R I (i σ H R h)⟩

theorem iw_list {K : Fg} {U : Mu} {H : Hp} {ds : List D} {a : Addr} {vs : List V} (nu : ¬ U a) (hr : Rd H a (.lst vs)) (rds : RDs K U H ds vs) : IW K U H ds (Itl K a) := by
  intro U' H' k nu' i
  obtain ⟨hr', nu2⟩ := k.rd nu hr
  have rds' := RDs.keep k rds
  refine ⟨fun d e => ?_, fun hl => ⟨vs, .inl hr', by rw [← rds.length]; exact hl⟩⟩
  obtain ⟨v, e1, r⟩ := rds'.get e
  refine ⟨⟨vs, v, .inl hr', e1⟩, fun x H'' y => ?_⟩
  obtain ⟨rfl, y⟩ := y
  have e2 := y vs (.inl hr')
  rw [e1] at e2
  cases e2
  exact ⟨fun _ _ z => z, r⟩
theorem sqt_keep {K : Fg} {U U' : Mu} {H H' : Hp} (k : Keep U H U' H') {d : List D} {v : V} (r : RD K U H (.tuple d) v) : ∃ a xs, v = .ref a ∧ SqT K H' a xs ∧ RDs K U' H' d xs := (RT.rd (r.keep k)).sqt
theorem tupK_sq {K : Fg} {H : Hp} {a : Addr} {xs : List V} (t : TupK K a xs) : SqT K H a xs := by
  obtain ⟨o, its, n, h1, h2, h3, h4, h5⟩ := t
  exact .inr ⟨o, its, n, h1, h2, h3, h4, h5⟩
theorem iw_tup {K : Fg} {U : Mu} {H : Hp} {ds : List D} {a : Addr} {vs : List V} (sq : ∀ U' H', Keep U H U' H' → SqT K H' a vs) (rds : RDs K U H ds vs) : IW K U H ds (Itt K a) := by
  intro U' H' k nu' i
  have hr' := sq U' H' k
  have rds' := RDs.keep k rds
  refine ⟨fun d e => ?_, fun hl => ⟨vs, hr', by rw [← rds.length]; exact hl⟩⟩
  obtain ⟨v, e1, r⟩ := rds'.get e
  refine ⟨⟨vs, v, hr', e1⟩, fun x H'' y => ?_⟩
  obtain ⟨rfl, y⟩ := y
  have e2 := y vs hr'
  rw [e1] at e2
  cases e2
  exact ⟨fun _ _ z => z, r⟩
theorem iw_str {K : Fg} {U : Mu} {H : Hp} (z : Str) : IW K U H (z.cps.toList.map fun c => .str ⟨#[c]⟩) (Its z) := by
  intro U' H' k nu' i
  refine ⟨fun d e => ?_, fun hl => ?_⟩
  · rw [List.getElem?_map, Array.getElem?_toList] at e
    cases q : z.cps[i]? with
    | none => rw [q] at e; cases e
    | some c =>
      rw [q] at e
      cases e
      have hi : i < z.cps.size := by
        rcases Nat.lt_or_ge i z.cps.size with h | h
        · exact h
        · rw [Array.getElem?_eq_none h] at q; cases q
      refine ⟨hi, fun x H'' y => ?_⟩
      obtain ⟨rfl, c', e1, rfl⟩ := y
      rw [q] at e1
      cases e1
      exact ⟨fun _ _ z => z, .str _⟩
  · rw [List.length_map, Array.length_toList] at hl
    exact hl
theorem rangeD_get : ∀ (n : Nat) (lo : Int) (i : Nat) (d : D), (rangeD lo n)[i]? = some d → i < n ∧ d = .int (lo + i)
  | 0, _, _, _, e => by simp [rangeD] at e
  | n + 1, lo, 0, d, e => by
    simp [rangeD] at e
    exact ⟨by omega, by rw [← e]; simp⟩
  | n + 1, lo, i + 1, d, e => by
    unfold rangeD at e
    rw [List.getElem?_cons_succ] at e
    obtain ⟨h1, h2⟩ := rangeD_get n (lo + 1) i d e
    refine ⟨by omega, ?_⟩
    rw [h2]
    congr 1
    push_cast
    omega
theorem rangeD_len : ∀ (n : Nat) (lo : Int), (rangeD lo n).length = n
  | 0, _ => rfl
  | n + 1, lo => by simp [rangeD, rangeD_len n]
theorem iw_range {K : Fg} {U : Mu} {H : Hp} (lo : Int) (n : Nat) : IW K U H (rangeD lo n) (Itr lo n) := by
  intro U' H' k nu' i
  refine ⟨fun d e => ?_, fun hl => by rw [rangeD_len] at hl; exact hl⟩
  obtain ⟨h1, rfl⟩ := rangeD_get n lo i d e
  refine ⟨h1, fun x H'' y => ?_⟩
  obtain ⟨rfl, rfl⟩ := y
  exact ⟨fun _ _ z => z, .int _⟩
theorem rangeS_get : ∀ (n : Nat) (lo c : Int) (i : Nat) (d : D), (rangeS lo c n)[i]? = some d → i < n ∧ d = .int (lo + (i : Nat) * c)
  | 0, _, _, _, _, e => by simp [rangeS] at e
  | n + 1, lo, c, 0, d, e => by
    simp [rangeS] at e
    exact ⟨by omega, by rw [← e]; simp⟩
  | n + 1, lo, c, i + 1, d, e => by
    unfold rangeS at e
    rw [List.getElem?_cons_succ] at e
    obtain ⟨h1, h2⟩ := rangeS_get n (lo + c) c i d e
    refine ⟨by omega, ?_⟩
    rw [h2]
    congr 1
    push_cast
    rw [Int.add_mul, Int.one_mul]
    omega
theorem rangeS_len : ∀ (n : Nat) (lo c : Int), (rangeS lo c n).length = n
  | 0, _, _ => rfl
  | n + 1, lo, c => by simp [rangeS, rangeS_len n]
theorem iw_rangeS {K : Fg} {U : Mu} {H : Hp} (lo c : Int) (n : Nat) : IW K U H (rangeS lo c n) (Itc lo c n) := by
  intro U' H' k nu' i
  refine ⟨fun d e => ?_, fun hl => by rw [rangeS_len] at hl; exact hl⟩
  obtain ⟨h1, rfl⟩ := rangeS_get n lo c i d e
  refine ⟨h1, fun x H'' y => ?_⟩
  obtain ⟨rfl, rfl⟩ := y
  exact ⟨fun _ _ z => z, .int _⟩
theorem stepOk_ok {i j c : Int} (h : stepOk i j c = true) : RgC i j c (Builtin.Range.rangeSize i j c).toNat := by
  unfold stepOk at h
  simp only [Bool.and_eq_true, decide_eq_true_eq] at h
  exact ⟨h.1.1.1, h.1.1.2, h.1.2, h.2⟩
theorem enmD_get : ∀ (xs : List D) (lo : Int) (i : Nat) (d : D), (enmD lo xs)[i]? = some d → ∃ x, xs[i]? = some x ∧ d = .tuple [.int (lo + i), x]
  | [], _, _, _, e => by simp [enmD] at e
  | x :: xs, lo, 0, d, e => by
    simp [enmD] at e
    exact ⟨x, rfl, by rw [← e]; simp⟩
  | x :: xs, lo, i + 1, d, e => by
    unfold enmD at e
    rw [List.getElem?_cons_succ] at e
    obtain ⟨y, h1, h2⟩ := enmD_get xs (lo + 1) i d e
    refine ⟨y, by simpa using h1, ?_⟩
    rw [h2]
    congr 3
    push_cast
    omega
theorem enmD_len : ∀ (xs : List D) (lo : Int), (enmD lo xs).length = xs.length
  | [], _ => rfl
  | x :: xs, lo => by simp [enmD, enmD_len xs]
theorem iw_enum {K : Fg} {U : Mu} {H : Hp} {ds : List D} {a : Addr} {vs : List V} (nu : ¬ U a) (hr : Rd H a (.lst vs)) (rds : RDs K U H ds vs) : IW K U H (enmD 0 ds) (Ite K a) := by
  intro U' H' k nu' i
  obtain ⟨hr', nu2⟩ := k.rd nu hr
  have rds' := RDs.keep k rds
  refine ⟨fun d e => ?_, fun hl => ⟨vs, .inl hr', by rw [enmD_len] at hl; rw [← rds.length]; exact hl⟩⟩
  obtain ⟨x0, e0, rfl⟩ := enmD_get ds 0 i d e
  obtain ⟨v, e1, r⟩ := rds'.get e0
  refine ⟨⟨vs, v, .inl hr', e1⟩, fun x H'' y => ?_⟩
  obtain ⟨p, x1, rfl, np, rfl, y⟩ := y
  have e2 := y vs (.inl hr')
  rw [e1] at e2
  cases e2
  refine ⟨upd_grow np, ?_⟩
  have z : (0 : Int) + (i : Int) = (i : Int) := by omega
  rw [z]
  exact rd_new_tup nu' np (.cons (.int _) (.cons r .nil))
theorem iw_enT {K : Fg} {U : Mu} {H : Hp} {ds : List D} {a : Addr} {vs : List V} (sq : ∀ U' H', Keep U H U' H' → SqT K H' a vs) (rds : RDs K U H ds vs) : IW K U H (enmD 0 ds) (ItE (getT K a) (gotT K a) (outT K a)) := by
  intro U' H' k nu' i
  have hr' := sq U' H' k
  have rds' := RDs.keep k rds
  refine ⟨fun d e => ?_, fun hl => ⟨vs, hr', by rw [enmD_len] at hl; rw [← rds.length]; exact hl⟩⟩
  obtain ⟨x0, e0, rfl⟩ := enmD_get ds 0 i d e
  obtain ⟨v, e1, r⟩ := rds'.get e0
  refine ⟨⟨v, vs, hr', e1⟩, fun x H'' y => ?_⟩
  obtain ⟨p, x1, rfl, np, rfl, y1⟩ := y
  have y2 := y1 vs hr'
  rw [e1] at y2
  cases y2
  refine ⟨upd_grow np, ?_⟩
  have z : (0 : Int) + (i : Int) = (i : Int) := by omega
  rw [z]
  exact rd_new_tup nu' np (.cons (.int _) (.cons r .nil))
theorem iw_enS {K : Fg} {U : Mu} {H : Hp} (z : Str) : IW K U H (enmD 0 (z.cps.toList.map fun c => .str ⟨#[c]⟩)) (ItE (getS z) (getS z) (outS z)) := by
  intro U' H' k nu' i
  refine ⟨fun d e => ?_, fun hl => ?_⟩
  · obtain ⟨x0, e0, rfl⟩ := enmD_get _ 0 i d e
    rw [List.getElem?_map, Array.getElem?_toList] at e0
    cases q : z.cps[i]? with
    | none => rw [q] at e0; cases e0
    | some c =>
      rw [q] at e0
      cases e0
      refine ⟨⟨.str ⟨#[c]⟩, c, q, rfl⟩, fun x H'' y => ?_⟩
      obtain ⟨p, x1, rfl, np, rfl, c', e1, rfl⟩ := y
      rw [q] at e1
      cases e1
      refine ⟨upd_grow np, ?_⟩
      have z : (0 : Int) + (i : Int) = (i : Int) := by omega
      rw [z]
      exact rd_new_tup nu' np (.cons (.int _) (.cons (.str _) .nil))
  · rw [enmD_len, List.length_map, Array.length_toList] at hl
    exact hl
theorem zipD_get : ∀ (xs ys : List D) (i : Nat) (d : D), (zipD xs ys)[i]? = some d → ∃ x y, xs[i]? = some x ∧ ys[i]? = some y ∧ d = .tuple [x, y]
  | [], _, _, _, e => by simp [zipD] at e
  | _ :: _, [], _, _, e => by simp [zipD] at e
  | x :: xs, y :: ys, 0, d, e => by
    simp [zipD] at e
    exact ⟨x, y, rfl, rfl, e.symm⟩
  | x :: xs, y :: ys, i + 1, d, e => by
    unfold zipD at e
    rw [List.getElem?_cons_succ] at e
    obtain ⟨a, b, h1, h2, h3⟩ := zipD_get xs ys i d e
    exact ⟨a, b, by simpa using h1, by simpa using h2, h3⟩
theorem zipD_len : ∀ (xs ys : List D), (zipD xs ys).length = min xs.length ys.length
  | [], _ => by simp [zipD]
  | _ :: _, [] => by simp [zipD]
  | x :: xs, y :: ys => by simp [zipD, zipD_len xs ys]
theorem iw_zip {K : Fg} {U : Mu} {H : Hp} {ds es : List D} {a b : Addr} {vs ws : List V} (na : ¬ U a) (ha : Rd H a (.lst vs)) (ra : RDs K U H ds vs) (nb : ¬ U b) (hb : Rd H b (.lst ws)) (rb : RDs K U H es ws) : IW K U H (zipD ds es) (Itz K a b) := by
  intro U' H' k nu' i
  obtain ⟨ha', _⟩ := k.rd na ha
  obtain ⟨hb', _⟩ := k.rd nb hb
  have ra' := RDs.keep k ra
  have rb' := RDs.keep k rb
  refine ⟨fun d e => ?_, fun hl => ⟨vs, ws, .inl ha', .inl hb', by rw [zipD_len] at hl; rw [← ra.length, ← rb.length]; omega⟩⟩
  obtain ⟨x0, y0, e0, f0, rfl⟩ := zipD_get ds es i d e
  obtain ⟨v, e1, r⟩ := ra'.get e0
  obtain ⟨w, f1, q⟩ := rb'.get f0
  refine ⟨⟨vs, ws, v, w, .inl ha', .inl hb', e1, f1⟩, fun x H'' y => ?_⟩
  obtain ⟨p, x1, y1, rfl, np, rfl, h1, h2⟩ := y
  have e2 := h1 vs (.inl ha')
  have f2 := h2 ws (.inl hb')
  rw [e1] at e2
  rw [f1] at f2
  cases e2
  cases f2
  exact ⟨upd_grow np, rd_new_tup nu' np (.cons r (.cons q .nil))⟩
theorem iw_zipT {K : Fg} {U : Mu} {H : Hp} {ds es : List D} {a b : Addr} {vs ws : List V} (ha : ∀ U' H', Keep U H U' H' → SqT K H' a vs) (ra : RDs K U H ds vs) (hb : ∀ U' H', Keep U H U' H' → SqT K H' b ws) (rb : RDs K U H es ws) : IW K U H (zipD ds es) (RZ.ItzT K a b) := by
  intro U' H' k nu' i
  have ha' := ha U' H' k
  have hb' := hb U' H' k
  have ra' := RDs.keep k ra
  have rb' := RDs.keep k rb
  refine ⟨fun d e => ?_, fun hl => ⟨vs, ws, ha', hb', by rw [zipD_len] at hl; rw [← ra.length, ← rb.length]; omega⟩⟩
  obtain ⟨x0, y0, e0, f0, rfl⟩ := zipD_get ds es i d e
  obtain ⟨v, e1, r⟩ := ra'.get e0
  obtain ⟨w, f1, q⟩ := rb'.get f0
  refine ⟨⟨vs, ws, v, w, ha', hb', e1, f1⟩, fun x H'' y => ?_⟩
  obtain ⟨p, x1, y1, rfl, np, rfl, h1, h2⟩ := y
  have e2 := h1 vs ha'
  have f2 := h2 ws hb'
  rw [e1] at e2
  rw [f1] at f2
  cases e2
  cases f2
  exact ⟨upd_grow np, rd_new_tup nu' np (.cons r (.cons q .nil))⟩
/-- a tuple stands -/
theorem RD.tupAt {K : Fg} {U : Mu} {H : Hp} {ds : List D} {v : V} (r : RD K U H (.tuple ds) v) : ∃ a xs, v = .ref a ∧ (∀ U' H', Keep U H U' H' → SqT K H' a xs) ∧ RDs K U H ds xs := by
  cases r with
  | tup n hr q => exact ⟨_, _, rfl, fun U' H' k => .inl (k.rd n hr).1, q⟩
  | tupK t q => exact ⟨_, _, rfl, fun U' H' k => tupK_sq t, q⟩
theorem RD.lstAt {K : Fg} {U : Mu} {H : Hp} {ds : List D} {v : V} (r : RD K U H (.list ds) v) : ∃ a xs, v = .ref a ∧ ¬ U a ∧ Rd H a (.lst xs) ∧ RDs K U H ds xs := by
  cases r with
  | lst n hr q => exact ⟨_, _, rfl, n, hr, q⟩

section
variable {T : Tb} {cal : Cal} {k : Nat} {X : Cx} {sc : Scope} {N : List Str} {W : WX} {tg : Expr}
theorem pi_any {e : Expr} {te : TE} (h : PE X e te) : PI X tg e (fun σ H R => iList X.K te σ H R ∨ iTup X.K te σ H R ∨ iStr te σ H R) :=
  ⟨fun pins s σ H R I q => by
    rcases q with q | q | q
    · exact (pi_list h).run pins s σ H R I q
    · exact (pi_tup h).run pins s σ H R I q
    · exact (pi_str h).run pins s σ H R I q⟩
/-- a value -/
theorem val_ok {it : E} {e : Expr} (h : PE X e (tM X W (ev cal it))) : PI X tg e (tIt X W (itM cal it)) := by
  refine PI.imp (pi_any h) fun σ H R ⟨al, hh, ρ, rh, rs, fin⟩ => ?_
  unfold itM M.bnd at fin
  cases q : ev cal it ρ hh with
  | bad => rw [q] at fin; exact fin.elim
  | ex e h1 => rw [q] at fin; exact .inl ⟨al, hh, ρ, rh, rs, by rw [q]; exact fin⟩
  | ok r h1 =>
    rw [q] at fin
    cases r with
    | ref n => exact fin.elim
    | d x =>
      cases x with
      | list ds =>
        refine .inl ⟨al, hh, ρ, rh, rs, ?_⟩
        rw [q]
        intro al1 H1 v st rh1 rr
        obtain ⟨a, xs, rfl, nu, hr, rds⟩ := RD.lstAt rr
        exact ⟨a, rfl, ⟨xs, .inl hr⟩, fin al1 H1 (Itl X.K a) st rh1 (iw_list nu hr rds)⟩
      | tuple ds =>
        refine .inr (.inl ⟨al, hh, ρ, rh, rs, ?_⟩)
        rw [q]
        intro al1 H1 v st rh1 rr
        obtain ⟨a, xs, rfl, sq, rds⟩ := RD.tupAt rr
        exact ⟨a, rfl, ⟨xs, sq _ _ (Keep.refl _ _)⟩, fin al1 H1 (Itt X.K a) st rh1 (iw_tup sq rds)⟩
      | str z =>
        refine .inr (.inr ⟨al, hh, ρ, rh, rs, ?_⟩)
        rw [q]
        intro al1 H1 v st rh1 rr
        cases rr
        exact ⟨z, rfl, fin al1 H1 (Its z) st rh1 (iw_str z)⟩
      | _ => exact fin.elim
theorem small_ok {i : Int} (h : small i = true) : -(2 ^ 62) ≤ i ∧ i < 2 ^ 62 := by
  unfold small at h
  simp only [Bool.and_eq_true, decide_eq_true_eq] at h
  exact ⟨by omega, by omega⟩
theorem evs_len : ∀ {es : List E} {ρ : Rho} {h h1 : Hs} {r : List R}, evs cal es ρ h = .ok r h1 → r.length = es.length
  | [], ρ, h, h1, r, e => by
    unfold evs at e
    cases e
    rfl
  | a :: es, ρ, h, h1, r, e => by
    unfold evs M.bnd at e
    cases q : ev cal a ρ h with
    | bad => rw [q] at e; cases e
    | ex _ _ => rw [q] at e; cases e
    | ok x h2 =>
      rw [q] at e
      simp only [M.ret] at e
      cases q2 : evs cal es ρ h2 with
      | bad => rw [q2] at e; cases e
      | ex _ _ => rw [q2] at e; cases e
      | ok y h3 =>
        rw [q2] at e
        cases e
        simp [evs_len q2]
theorem rng_fin {es : List E} {al : List Addr} {h : Hs} {H : Hp} {E : XK} {R : It → Hp → Prop} {ρ : Rho} {Q' : List V → Hp → Prop}
    (fin : Fin X.K X.mg E (fun _ U H ds J => IW X.K U H ds J) al h H R (itM cal (.rng es) ρ h))
    (one : ∀ j H1, es.length = 1 → small j = true → R (Itr 0 j.toNat) H1 → Q' [.int j] H1)
    (two : ∀ i j H1, es.length = 2 → small i = true → small j = true → R (Itr i (j - i).toNat) H1 → Q' [.int i, .int j] H1)
    (three : ∀ i j c H1, es.length = 3 → stepOk i j c = true → R (Itc i c (Builtin.Range.rangeSize i j c).toNat) H1 → Q' [.int i, .int j, .int c] H1) : Fin X.K X.mg E (RRs X.K) al h H Q' (evs cal es ρ h) := by
  unfold itM ev at fin
  rw [bnd_assoc] at fin
  unfold M.bnd at fin
  cases eq : evs cal es ρ h with
  | bad => rw [eq] at fin; exact fin.elim
  | ex e h1 => rw [eq] at fin; exact fin
  | ok r h1 =>
  rw [eq] at fin
  have el := evs_len eq
  intro al1 H1 vs st rh1 rr
  have fin1 := Fin.shift (o := _) fin st
  cases q : purAll r with
  | none => simp only [q] at fin1; exact fin1.elim
  | some es =>
    simp only [q, Option.bind_some] at fin1
    have rds := purAll_ok rr q
    have hl := rr.length
    have hl2 := rds.length
    have hl3 : r.length = es.length := hl.trans hl2.symm
    cases e : rngD es with
    | none => rw [e] at fin1; exact fin1.elim
    | some ds =>
    rw [e] at fin1
    have fin2 : Fin X.K X.mg E (fun _ U H ds J => IW X.K U H ds J) al1 h1 H1 R (M.ret ds h1) := fin1
    unfold rngD at e
    split at e
    · cases rds with | cons a b => cases b with | nil =>
      cases a
      split at e
      · rename_i hj
        cases e
        exact one _ H1 (by rw [← el, hl3]; rfl) hj (fin2 al1 H1 _ (Stp.refl _ _ _) rh1 (iw_range _ _))
      · cases e
    · cases rds with | cons a b => cases b with | cons b c => cases c with | nil =>
      cases a
      cases b
      split at e
      · rename_i hj
        cases e
        rw [Bool.and_eq_true] at hj
        exact two _ _ H1 (by rw [← el, hl3]; rfl) hj.1 hj.2 (fin2 al1 H1 _ (Stp.refl _ _ _) rh1 (iw_range _ _))
      · cases e
    · cases rds with | cons a b => cases b with | cons b c => cases c with | cons c f => cases f with | nil =>
      cases a
      cases b
      cases c
      split at e
      · rename_i hj
        cases e
        exact three _ _ _ H1 (by rw [← el, hl3]; rfl) hj (fin2 al1 H1 _ (Stp.refl _ _ _) rh1 (iw_rangeS _ _ _))
      · cases e
    · cases e
theorem rng_ok1 (g : Gx T cal k X sc N) {a : E} {pa : Expr} {p pos : Pos} (h1 : glB sc "range" = true) (hs : notStar pa = true) (pas : PA X [pa] (tMs X W (evs cal [a]))) :
    PI X tg (.Call (.Name "range" p) [pa] [] pos) (tIt X W (itM cal (.rng [a]))) := by
  refine PI.imp (pi_range1 (g.gl h1) (g.blt _ (by decide +kernel)) pas (star_cons hs)) fun σ H R ⟨al, hh, ρ, rh, rs, fin⟩ => ?_
  refine ⟨al, hh, ρ, rh, rs, rng_fin fin (fun j H1 _ hj q => ⟨j, rfl, (small_ok hj).1, (small_ok hj).2, q⟩) (fun i j H1 hl hi hj q => by cases hl) (fun i j c H1 hl hj q => by cases hl)⟩
theorem rng_ok2 (g : Gx T cal k X sc N) {a b : E} {pa pb : Expr} {p pos : Pos} (h1 : glB sc "range" = true) (hs : notStar pa = true) (hs2 : notStar pb = true) (pas : PA X [pa, pb] (tMs X W (evs cal [a, b]))) :
    PI X tg (.Call (.Name "range" p) [pa, pb] [] pos) (tIt X W (itM cal (.rng [a, b]))) := by
  refine PI.imp (pi_range2 (g.gl h1) (g.blt _ (by decide +kernel)) pas (by rw [star_cons hs, star_cons hs2]; rfl) (star_cons hs2)) fun σ H R ⟨al, hh, ρ, rh, rs, fin⟩ => ?_
  refine ⟨al, hh, ρ, rh, rs, rng_fin fin (fun j H1 hl hj q => by cases hl) (fun i j H1 hl hi hj q => ⟨i, j, rfl, ⟨(small_ok hi).1, (small_ok hi).2, (small_ok hj).1, (small_ok hj).2⟩, q⟩) (fun i j c H1 hl hj q => by cases hl)⟩
theorem rng_ok3 (g : Gx T cal k X sc N) {a b c : E} {pa pb pc : Expr} {p pos : Pos} (h1 : glB sc "range" = true) (hs : notStar pa = true) (hs2 : notStar pb = true) (hs3 : notStar pc = true) (pas : PA X [pa, pb, pc] (tMs X W (evs cal [a, b, c]))) :
    PI X tg (.Call (.Name "range" p) [pa, pb, pc] [] pos) (tIt X W (itM cal (.rng [a, b, c]))) := by
  refine PI.imp (pi_range3 (g.gl h1) (g.blt _ (by decide +kernel)) pas (star_cons hs) (star_any (by simp [hs2, hs3]))) fun σ H R ⟨al, hh, ρ, rh, rs, fin⟩ => ?_
  refine ⟨al, hh, ρ, rh, rs, rng_fin fin (fun j H1 hl hj q => by cases hl) (fun i j H1 hl hi hj q => by cases hl) (fun i j c H1 _ hj q => ⟨i, j, c, _, rfl, stepOk_ok hj, q⟩)⟩
/-- enumerate of a list -/
theorem enm_ok (g : Gx T cal k X sc N) {a : E} {pe : Expr} {elts : List Expr} {kk : Nat} {p pos tpos : Pos} (h1 : glB sc "enumerate" = true) (hs : notStar pe = true) (he : PE X pe (tM X W (ev cal a))) :
    PI X (.Tuple elts kk tpos) (.Call (.Name "enumerate" p) [pe] [] pos) (tIt X W (itM cal (.enm a))) := by
  refine PI.imp (pi_enA (g.gl h1) (g.blt _ (by decide +kernel)) (pa_cons he pa_nil (star_cons hs)) (star_cons hs)) fun σ H R ⟨al, hh, ρ, rh, rs, fin⟩ => ?_
  unfold itM ev at fin
  rw [bnd_assoc] at fin
  refine ⟨al, hh, ρ, rh, rs, Fin.bnd fin fun r h1 al1 H1 v st rh1 rr fin1 => ?_⟩
  rw [bnd_assoc] at fin1
  obtain ⟨d, rfl, rd, fin2⟩ := Fin.pur fin1 rr
  rw [bnd_assoc] at fin2
  cases d with
  | list ds =>
    obtain ⟨a, xs, rfl, nu, hr, rds⟩ := RD.lstAt rd
    exact .inr (.inr ⟨a, xs, rfl, .inl hr, fin2 al1 H1 _ (Stp.refl _ _ _) rh1 (iw_enum nu hr rds)⟩)
  | tuple ds =>
    obtain ⟨a, xs, rfl, sq, rds⟩ := RD.tupAt rd
    exact .inl ⟨a, xs, rfl, sq _ _ (Keep.refl _ _), fin2 al1 H1 _ (Stp.refl _ _ _) rh1 (iw_enT sq rds)⟩
  | str z =>
    cases rd
    exact .inr (.inl ⟨z, rfl, fin2 al1 H1 _ (Stp.refl _ _ _) rh1 (iw_enS z)⟩)
  | _ => exact fin2.elim
theorem zip_ok (g : Gx T cal k X sc N) {a b : E} {pa pb : Expr} {elts : List Expr} {kk : Nat} {p pos tpos : Pos} (h1 : glB sc "zip" = true) (hs : notStar pa = true) (hs2 : notStar pb = true) (ha : PE X pa (tM X W (ev cal a))) (hb : PE X pb (tM X W (ev cal b))) :
    PI X (.Tuple elts kk tpos) (.Call (.Name "zip" p) [pa, pb] [] pos) (tIt X W (itM cal (.zip a b))) := by
  refine PI.imp (RZ.pi_zipA (g.gl h1) (g.blt _ (by decide +kernel)) (pa_cons ha (pa_cons hb pa_nil (star_cons hs2)) (star_cons hs)) (star_cons hs) (star_any (by simp [hs2]))) fun σ H R ⟨al, hh, ρ, rh, rs, fin⟩ => ?_
  unfold itM ev at fin
  rw [bnd_assoc] at fin
  refine ⟨al, hh, ρ, rh, rs, Fin.bnd fin fun r h1 al1 H1 v st rh1 rr fin1 => ?_⟩
  rw [bnd_assoc] at fin1
  refine ⟨al1, h1, ρ, rh1, rs.stp st, Fin.bnd fin1 fun r2 h2 al2 H2 w st2 rh2 rr2 fin2 => ?_⟩
  rw [bnd_assoc] at fin2
  obtain ⟨d, rfl, rd, fin3⟩ := Fin.pur fin2 (rr.stp st2)
  rw [bnd_assoc] at fin3
  obtain ⟨e, rfl, re, fin4⟩ := Fin.pur fin3 rr2
  cases d with
  | list ds =>
    cases e with
    | list es =>
      obtain ⟨a, xs, rfl, nu, hr, rds⟩ := RD.lstAt rd
      obtain ⟨b, ys, rfl, nu2, hr2, rds2⟩ := RD.lstAt re
      exact ⟨a, b, xs, ys, rfl, .inl ⟨.inl hr, .inl hr2, fin4 al2 H2 _ (Stp.refl _ _ _) rh2 (iw_zip nu hr rds nu2 hr2 rds2)⟩⟩
    | _ => exact fin4.elim
  | tuple ds =>
    cases e with
    | tuple es =>
      obtain ⟨a, xs, rfl, sq, rds⟩ := RD.tupAt rd
      obtain ⟨b, ys, rfl, sq2, rds2⟩ := RD.tupAt re
      exact ⟨a, b, xs, ys, rfl, .inr ⟨sq _ _ (Keep.refl _ _), sq2 _ _ (Keep.refl _ _), fin4 al2 H2 _ (Stp.refl _ _ _) rh2 (iw_zipT sq rds sq2 rds2)⟩⟩
    | _ => exact fin4.elim
  | _ => exact fin4.elim
end
end Cy


set_option Elab.async false
set_option linter.all false
set_option maxRecDepth 100000
set_option maxHeartbeats 4000000
/-! L3g: comprehensions; dicts of the module. -/
namespace Cy
open PySem PySem.Spec PyProof.Rows L2

section
variable {α β : Type} {K : Fg} {mg : Str → Option Value} {E E' : XK} {rel : List Addr → Mu → Hp → α → β → Prop} {al : List Addr} {h : Hs} {H : Hp} {Q : β → Hp → Prop}
theorem Fin.ofNox {m : M α} (f : Fin K mg E rel al h H Q (M.nox m h)) : Fin K mg E' rel al h H Q (m h) := by
  unfold M.nox at f
  cases e : m h with
  | ok r h1 => rw [e] at f; exact f
  | ex x h1 => rw [e] at f; exact f.elim
  | bad => rw [e] at f; exact f.elim
end
section
variable {K : Fg} {mg : Str → Option Value} {E : XK} {al : List Addr} {h : Hs} {H : Hp} {Q : VK}
/-- a cell is data from now on -/
theorem Fin.fz {n : Nat} {a : Addr} (f : Fin K mg E (RR K) al h H Q (fzR (.ref n) h)) (rh : RH K al h H) (ea : al[n]? = some a) : Q (.ref a) H := by
  have f : Fin K mg E (RR K) al h H Q (fzC n h h[n]?) := f
  cases q : h[n]? with
  | none => rw [q] at f; exact f.elim
  | some c =>
    rw [q] at f
    cases c with
    | dct t kvs => exact f.elim
    | fz xs =>
      obtain ⟨vs, eh, rds⟩ := rh.at_ n _ a q ea
      have nu : ¬ UU al h a := fun ⟨m, c, e1, e2, e3⟩ => by
        cases al_inj rh e1 ea
        rw [q] at e2
        cases e2
        cases e3
      exact f al H _ (Stp.refl al h H) rh (.lst nu (.inl eh) rds)
    | lst xs =>
      obtain ⟨st, rh'⟩ := fz_cell rh q
      obtain ⟨vs, eh, rds⟩ := rh.at_ n _ a q ea
      have hn : n < h.length := by
        rcases Nat.lt_or_ge n h.length with z | z
        · exact z
        · rw [List.getElem?_eq_none z] at q; cases q
      have nu : ¬ UU al (h.set n (.fz xs)) a := fun ⟨m, c, e1, e2, e3⟩ => by
        cases al_inj rh e1 ea
        rw [List.getElem?_set_self hn] at e2
        cases e2
        cases e3
      exact f al H _ st rh' (.lst nu (.inl eh) (RDs.keep st.k rds))
/-- an item goes to the end of a cell -/
theorem Fin.app {α β : Type} {rel : List Addr → Mu → Hp → α → β → Prop} {Q : β → Hp → Prop} {n : Nat} {a : Addr} {d : D} {v : V} {g : R → M α} (f : Fin K mg E rel al h H Q (((appR (.ref n) d).bnd g) h)) (rh : RH K al h H) (ea : al[n]? = some a) (rd : RD K (UU al h) H d v) :
    ∃ vs h', H a = some (.lst vs) ∧ vs.length < sizeLine ∧ Stp al h H al h' (upd H a (.lst (vs ++ [v]))) ∧ RH K al h' (upd H a (.lst (vs ++ [v]))) ∧ Fin K mg E rel al h' (upd H a (.lst (vs ++ [v]))) Q (g (.d .none) h') := by
  have e : ((appR (.ref n) d).bnd g) h = match appC n d h h[n]? with
    | .ok r h1 => g r h1
    | .ex x h1 => .ex x h1
    | .bad => .bad := by
    unfold M.bnd appR hget
    simp only
    cases appC n d h h[n]? <;> rfl
  rw [e] at f
  cases q : h[n]? with
  | none => rw [q] at f; exact f.elim
  | some c =>
    rw [q] at f
    cases c with
    | fz _ => exact f.elim
    | dct _ _ => exact f.elim
    | lst xs =>
      obtain ⟨vs, eh, rds⟩ := rh.at_ n _ a q ea
      unfold appC at f
      by_cases hz : xs.length < lim
      · simp only [if_pos hz] at f
        rw [lim_eq, rds.length] at hz
        obtain ⟨st, rh'⟩ := set_cell (c' := .lst (xs ++ [d])) (o := .lst (vs ++ [v])) rh q ea rfl rfl fun st => ⟨vs ++ [v], upd_same, (RDs.append rds (.cons rd .nil)).keep st.k⟩
        exact ⟨vs, _, eh, hz, st, rh', Fin.shift f st⟩
      · simp only [if_neg hz] at f
        exact f.elim
end

abbrev W0 : WX := fun _ _ _ _ => False
def relO (K : Fg) : List Addr → Mu → Hp → Option D → Option V → Prop := fun _ U H o v =>
  match o, v with
  | some d, some v => RD K U H d v
  | none, none => True
  | _, _ => False
section
variable {T : Tb} {cal : Cal} {k : Nat} {X : Cx} {sc : Scope} {N : List Str} {W : WX}
theorem comp_go {m : Bool} {own : List Nat} {elt it cond : E} {tg : Tg} (ht : ∀ i ∈ tgS tg, i ∈ own) {σ : Sg} {H : Hp} {Q : VK} (h : tM X W (ev cal (.comp m own elt tg it cond)) σ H Q) :
    tLc (tIt X W (itM cal it)) (gT X.K tg) (tMb X W0 (ev cal cond)) (tM X W0 (ev cal elt)) own σ H Q := by
  obtain ⟨al, hh, ρ, rh, rs, fin⟩ := h
  unfold ev at fin
  generalize hf : (fun ρ' => M.nox (((ev cal cond ρ').bnd boolOf).bnd fun k =>
      match k with
      | true => (ev cal elt ρ').bnd fun y => (pur y).bnd fun dy => M.ret (some dy)
      | false => M.ret none)) = f at fin
  have e1 : ((ev cal it ρ).bnd fun x => (pur x).bnd fun d => (M.opt (seqD d)).bnd fun ds => compM m f tg (Cy.wipe ρ own) ds) = (itM cal it ρ).bnd fun ds => compM m f tg (Cy.wipe ρ own) ds := by
    unfold itM
    simp only [bnd_assoc]
  rw [e1] at fin
  refine ⟨al, hh, ρ, rh, rs, Fin.bnd fin fun ds h1 al1 H1 J st1 rh1 iw fin1 => ?_⟩
  intro D hD
  obtain ⟨st2, rh2⟩ := new_cell (c := .lst []) (o := .lst []) rh1 hD rfl ⟨[], upd_same, .nil⟩
  have fin2 : Fin X.K X.mg (fun cls dd H' => W cls dd σ H') (RR X.K) (al1 ++ [D]) (h1 ++ [.lst []]) (upd H1 D (.lst [])) Q
      (((turns f tg (Cy.wipe ρ own) h1.length ds).bnd fun _ => if m then M.ret (.ref h1.length) else fzR (.ref h1.length)) (h1 ++ [.lst []])) := Fin.shift (o := _) fin1 st2
  have hpos : (al1 ++ [D])[h1.length]? = some D := by rw [← rh1.len]; simp
  have iwb := iw.keep st2.k
  have rsb := ((rs.stp st1).stp st2).wipe own
  generalize al1 ++ [D] = alb at *
  generalize h1 ++ [.lst []] = hb at *
  generalize upd H1 D (.lst []) = Hb at *
  generalize hn : h1.length = n at *
  generalize hg : (fun (_ : Unit) => if m then M.ret (R.ref n) else fzR (R.ref n)) = fin0 at fin2
  generalize hρ : Cy.wipe ρ own = ρw at *
  refine ⟨fun i mm H => mm = ds.length - i ∧ i ≤ ds.length ∧ ∃ al' h', RH X.K al' h' H ∧ Stp alb hb Hb al' h' H ∧
    Fin X.K X.mg (fun cls dd H' => W cls dd σ H') (RR X.K) al' h' H Q (((turns f tg ρw n (ds.drop i)).bnd fin0) h'), ⟨ds.length, by simp, Nat.zero_le _, alb, hb, rh2, Stp.refl _ _ _, fin2⟩, ?_⟩
  rintro i mm H2 ⟨rfl, hi, al', h', rh', st', fin3⟩
  by_cases hlt : i < ds.length
  · have hx : ds[i]? = some ds[i] := List.getElem?_eq_getElem hlt
    generalize ds[i] = x at hx
    have hdrop : ds.drop i = x :: ds.drop (i + 1) := by
      rw [List.drop_eq_getElem_cons hlt]
      rw [List.getElem?_eq_getElem hlt] at hx
      rw [Option.some.inj hx]
    rw [hdrop] at fin3
    unfold turns at fin3
    simp only [bnd_assoc] at fin3
    obtain ⟨ρ', eput, fin4⟩ := Fin.opt fin3
    obtain ⟨go, yl⟩ := (iwb _ _ st'.k rh'.noU i).1 x hx
    refine .inr ⟨go, fun H => i + 1 ≤ ds.length ∧ ∃ al' h', RH X.K al' h' H ∧ Stp alb hb Hb al' h' H ∧
      Fin X.K X.mg (fun cls dd H' => W cls dd σ H') (RR X.K) al' h' H Q (((turns f tg ρw n (ds.drop (i + 1))).bnd fin0) h'), fun H' p' => ⟨ds.length - (i + 1), by omega, rfl, p'⟩, fun xv H' y => ?_⟩
    obtain ⟨grow, rd⟩ := yl xv H' y
    have rhg := rh'.grow grow
    have stg := Stp.grow rh' grow
    refine gT_ok tg (r := .d x) rd eput (rsb.stp (st'.trans stg)) fun σ' rs' w => ⟨?_, ?_⟩
    · rw [w own ht, wipe_wipe]
    refine ⟨al', h', ρ', rhg, rs', ?_⟩
    have fin5 := Fin.shift fin4 stg
    have fin6 : Fin X.K X.mg (fun cls dd H' => W cls dd σ H') (relO X.K) al' h' H' (fun (o : Option V) H3 => match o with
        | some v => ∃ acc, H3 D = some (.lst acc) ∧ acc.length < sizeLine ∧ (i + 1 ≤ ds.length ∧ ∃ al' h', RH X.K al' h' (upd H3 D (.lst (acc ++ [v]))) ∧ Stp alb hb Hb al' h' (upd H3 D (.lst (acc ++ [v]))) ∧
            Fin X.K X.mg (fun cls dd H' => W cls dd σ H') (RR X.K) al' h' (upd H3 D (.lst (acc ++ [v]))) Q (((turns f tg ρw n (ds.drop (i + 1))).bnd fin0) h'))
        | none => i + 1 ≤ ds.length ∧ ∃ al' h', RH X.K al' h' H3 ∧ Stp alb hb Hb al' h' H3 ∧
            Fin X.K X.mg (fun cls dd H' => W cls dd σ H') (RR X.K) al' h' H3 Q (((turns f tg ρw n (ds.drop (i + 1))).bnd fin0) h')) (f ρ' h') := by
      refine Fin.bnd fin5 fun o h3 al3 H3 v st3 rh3 rr3 fin7 => ?_
      have stb := (st'.trans stg).trans st3
      cases o with
      | none =>
        cases v with
        | some _ => exact rr3.elim
        | none => exact ⟨hlt, al3, h3, rh3, stb, fin7⟩
      | some d =>
        cases v with
        | none => exact rr3.elim
        | some v =>
          have ea : al3[n]? = some D := stb.pre n D hpos
          obtain ⟨vs, h4, eh, hz, st4, rh4, fin8⟩ := Fin.app fin7 rh3 ea rr3
          exact ⟨vs, eh, hz, hlt, al3, h4, rh4, stb.trans st4, fin8⟩
    subst hf
    have fin7 := Fin.ofNox (E' := fun cls dd H' => W0 cls dd σ' H') fin6
    refine Fin.boolOf fin7 fun b h3 al3 H3 st3 rh3 fin8 => ⟨b, rfl, ?_⟩
    cases b with
    | false =>
      refine iteF ?_
      exact Fin.ret (α := Option PyData) (r := none) (v := none) fin8 rh3 trivial
    | true =>
      refine iteT ⟨al3, h3, ρ', rh3, rs'.stp st3, Fin.bnd fin8 fun y h4 al4 H4 yv st4 rh4 rr4 fin9 => ?_⟩
      obtain ⟨dy, rfl, rdy, fin10⟩ := Fin.pur fin9 rr4
      exact Fin.ret (α := Option PyData) (r := some dy) (v := some yv) fin10 rh4 rdy
  · have e : i = ds.length := by omega
    subst e
    rw [List.drop_length] at fin3
    unfold turns at fin3
    have fin4 : Fin X.K X.mg (fun cls dd H' => W cls dd σ H') (RR X.K) al' h' H2 Q (fin0 () h') := fin3
    rw [← hg] at fin4
    have ea : al'[n]? = some D := st'.pre n D hpos
    refine .inl ⟨(iwb _ _ st'.k rh'.noU ds.length).2 (Nat.le_refl _), ?_⟩
    cases m with
    | true => exact Fin.ret (α := R) (r := .ref n) fin4 rh' ⟨D, ea, rfl⟩
    | false => exact Fin.fz fin4 rh' ea
theorem comp_ok (g : Gx T cal k X sc N) {m : Bool} {own : List Nat} {elt it cond : E} {tg : Tg} {ptg pit pelt : Expr} {pifs : List Expr} {scope : Scope} {pos : Pos} (hi : PI X ptg pit (tIt X W (itM cal it)))
    (hs : ∀ x, foldedSetIterable pit X.env x = pure x) (hb : blkC N sc scope (ownOf N own) = true) (ho : (ownOf N own).map (·.2) = own) (ht : ∀ i ∈ tgS tg, i ∈ own) (hg : chkT (fncOf scope) (relS scope sc) N tg ptg = true)
    (hc : ∀ (s : Shared) (H : Hp) (C : Addr) (cl : List (Str × Addr)) (fp : List Addr), PTs (X.blk s H scope (compEnvC scope cl C X.env) fp) pifs (tMb X W0 (ev cal cond)))
    (he : ∀ (s : Shared) (H : Hp) (C : Addr) (cl : List (Str × Addr)) (fp : List Addr), PE (X.blk s H scope (compEnvC scope cl C X.env) fp) pelt (tM X W0 (ev cal elt))) :
    PE X (.ListComp pelt [⟨ptg, pit, pifs, 0⟩] scope pos) (tM X W (ev cal (.comp m own elt tg it cond))) := by
  refine PE.imp (pe_lc (own := ownOf N own) g.calm (by rw [g.nN]; exact g.nd) hi (by rw [g.nN, g.sc]; exact blkOk_by hb) (fun s H C cl fp => ?_) hc he hs) fun σ H Q h => by rw [ho]; exact comp_go ht h
  exact chkT_ok (X := X.blk s H scope (compEnvC scope cl C X.env) fp) g.nN g.nd (show relS scope X.env.scope = _ by rw [g.sc]) g.calm (fun x hx => hx) hg
def relL (K : Fg) : List Addr → Mu → Hp → Option (List D) → Option It → Prop := fun _ U H o v =>
  match o, v with
  | some ds, some J => IW K U H ds J
  | none, none => True
  | _, _ => False
theorem comp2_go {m : Bool} {own own1 : List Nat} {elt it cond it1 cond1 : E} {tg tg1 : Tg} (ht : ∀ i ∈ tgS tg, i ∈ own) (ht1 : ∀ i ∈ tgS tg1, i ∈ own1) {σ : Sg} {H : Hp} {Q : VK} (h : tM X W (ev cal (.comp2 m own own1 elt tg it cond tg1 it1 cond1)) σ H Q) :
    tLc2 (tIt X W (itM cal it)) (gT X.K tg) (tMb X W0 (ev cal cond)) (tIt X W0 (itM cal it1)) (gT X.K tg1) (tMb X W0 (ev cal cond1)) (tM X W0 (ev cal elt)) own own1 σ H Q := by
  obtain ⟨al, hh, ρ, rh, rs, fin⟩ := h
  unfold ev at fin
  generalize hf : (fun ρ' => M.nox (((ev cal cond1 ρ').bnd boolOf).bnd fun k =>
      match k with
      | true => (ev cal elt ρ').bnd fun y => (pur y).bnd fun dy => M.ret (some dy)
      | false => M.ret none)) = f at fin
  generalize hf0 : (fun ρ' => M.nox (((ev cal cond ρ').bnd boolOf).bnd fun k =>
      match k with
      | true => ((ev cal it1 ρ').bnd fun x => (pur x).bnd fun d => M.opt (seqD d)).bnd fun ds => M.ret (some ds)
      | false => M.ret none)) = f0 at fin
  have e1 : ((ev cal it ρ).bnd fun x => (pur x).bnd fun d => (M.opt (seqD d)).bnd fun ds => compM2 m f0 f tg tg1 own1 (Cy.wipe ρ own) ds) = (itM cal it ρ).bnd fun ds => compM2 m f0 f tg tg1 own1 (Cy.wipe ρ own) ds := by
    unfold itM
    simp only [bnd_assoc]
  rw [e1] at fin
  refine ⟨al, hh, ρ, rh, rs, Fin.bnd fin fun ds h1 al1 H1 J st1 rh1 iw fin1 => ?_⟩
  intro D hD
  obtain ⟨st2, rh2⟩ := new_cell (c := .lst []) (o := .lst []) rh1 hD rfl ⟨[], upd_same, .nil⟩
  have fin2 : Fin X.K X.mg (fun cls dd H' => W cls dd σ H') (RR X.K) (al1 ++ [D]) (h1 ++ [.lst []]) (upd H1 D (.lst [])) Q
      (((turns2 f0 f tg tg1 own1 (Cy.wipe ρ own) h1.length ds).bnd fun _ => if m then M.ret (.ref h1.length) else fzR (.ref h1.length)) (h1 ++ [.lst []])) := Fin.shift (o := _) fin1 st2
  have hpos : (al1 ++ [D])[h1.length]? = some D := by rw [← rh1.len]; simp
  have iwb := iw.keep st2.k
  have rsb := ((rs.stp st1).stp st2).wipe own
  generalize al1 ++ [D] = alb at *
  generalize h1 ++ [.lst []] = hb at *
  generalize upd H1 D (.lst []) = Hb at *
  generalize hn : h1.length = n at *
  generalize hg : (fun (_ : Unit) => if m then M.ret (R.ref n) else fzR (R.ref n)) = fin0 at fin2
  generalize hρ : Cy.wipe ρ own = ρw at *
  refine ⟨fun i mm H => mm = ds.length - i ∧ i ≤ ds.length ∧ ∃ al' h', RH X.K al' h' H ∧ Stp alb hb Hb al' h' H ∧
    Fin X.K X.mg (fun cls dd H' => W cls dd σ H') (RR X.K) al' h' H Q (((turns2 f0 f tg tg1 own1 ρw n (ds.drop i)).bnd fin0) h'), ⟨ds.length, by simp, Nat.zero_le _, alb, hb, rh2, Stp.refl _ _ _, fin2⟩, ?_⟩
  rintro i mm H2 ⟨rfl, hi, al', h', rh', st', fin3⟩
  by_cases hlt : i < ds.length
  · have hx : ds[i]? = some ds[i] := List.getElem?_eq_getElem hlt
    generalize ds[i] = x at hx
    have hdrop : ds.drop i = x :: ds.drop (i + 1) := by
      rw [List.drop_eq_getElem_cons hlt]
      rw [List.getElem?_eq_getElem hlt] at hx
      rw [Option.some.inj hx]
    rw [hdrop] at fin3
    unfold turns2 at fin3
    simp only [bnd_assoc] at fin3
    obtain ⟨ρ', eput, fin4⟩ := Fin.opt fin3
    obtain ⟨go, yl⟩ := (iwb _ _ st'.k rh'.noU i).1 x hx
    -- what a turn is to reach
    generalize hrest : (turns2 f0 f tg tg1 own1 ρw n (ds.drop (i + 1))).bnd fin0 = rest at *
    refine .inr ⟨go, fun H => i + 1 ≤ ds.length ∧ ∃ al' h', RH X.K al' h' H ∧ Stp alb hb Hb al' h' H ∧
      Fin X.K X.mg (fun cls dd H' => W cls dd σ H') (RR X.K) al' h' H Q (rest h'), fun H' p' => ⟨ds.length - (i + 1), by omega, rfl, by rw [hrest]; exact p'⟩, fun xv H' y => ?_⟩
    obtain ⟨grow, rd⟩ := yl xv H' y
    have rhg := rh'.grow grow
    have stg := Stp.grow rh' grow
    refine gT_ok tg (r := .d x) rd eput (rsb.stp (st'.trans stg)) fun σ' rs' w => ⟨?_, ?_⟩
    · rw [w own ht, wipe_wipe]
    refine ⟨al', h', ρ', rhg, rs', ?_⟩
    have fin5 := Fin.shift fin4 stg
    let Inner : It → Hp → Prop := fun J1 H4 => ∃ W1 : Nat → Nat → Hp → Prop, (∃ m, W1 0 m H4) ∧ ∀ j k H, W1 j k H →
      (J1.stop j H ∧ (i + 1 ≤ ds.length ∧ ∃ al' h', RH X.K al' h' H ∧ Stp alb hb Hb al' h' H ∧ Fin X.K X.mg (fun cls dd H' => W cls dd σ H') (RR X.K) al' h' H Q (rest h'))) ∨
      (J1.go j H ∧ ∃ Nx1 : Hp → Prop, (∀ H', Nx1 H' → ∃ k', k' < k ∧ W1 (j + 1) k' H') ∧ ∀ x H', J1.yld j H x H' → gT X.K tg1 x (L2.wipe σ' own1) H' fun σ3 H5 => L2.wipe σ3 own1 = L2.wipe σ' own1 ∧ tMb X W0 (ev cal cond1) σ3 H5 fun b H6 =>
        if b = true then tM X W0 (ev cal elt) σ3 H6 fun y H7 => ∃ acc, H7 D = some (.lst acc) ∧ acc.length < sizeLine ∧ Nx1 (upd H7 D (.lst (acc ++ [y]))) else Nx1 H6)
    have fin6 : Fin X.K X.mg (fun cls dd H' => W cls dd σ H') (relL X.K) al' h' H' (fun (o : Option It) H3 => match o with
        | some J1 => Inner J1 H3
        | none => i + 1 ≤ ds.length ∧ ∃ al' h', RH X.K al' h' H3 ∧ Stp alb hb Hb al' h' H3 ∧ Fin X.K X.mg (fun cls dd H' => W cls dd σ H') (RR X.K) al' h' H3 Q (rest h')) (f0 ρ' h') := by
      refine Fin.bnd fin5 fun o h3 al3 H3 v st3 rh3 rr3 fin7 => ?_
      have stb := (st'.trans stg).trans st3
      cases o with
      | none =>
        cases v with
        | some _ => exact rr3.elim
        | none => exact ⟨hlt, al3, h3, rh3, stb, fin7⟩
      | some es =>
        cases v with
        | none => exact rr3.elim
        | some J1 =>
          have rr3 : IW X.K (UU al3 h3) H3 es J1 := rr3
          have rs3 := (rs'.stp st3).wipe own1
          have fin7 : Fin X.K X.mg (fun cls dd H' => W cls dd σ H') (RR X.K) al3 h3 H3 Q (((turns f tg1 (Cy.wipe ρ' own1) n es).bnd fun _ => rest) h3) := fin7
          generalize Cy.wipe ρ' own1 = ρ1 at *
          refine ⟨fun j kk H => kk = es.length - j ∧ j ≤ es.length ∧ ∃ al' h', RH X.K al' h' H ∧ Stp al3 h3 H3 al' h' H ∧
            Fin X.K X.mg (fun cls dd H' => W cls dd σ H') (RR X.K) al' h' H Q (((turns f tg1 ρ1 n (es.drop j)).bnd fun _ => rest) h'), ⟨es.length, by simp, Nat.zero_le _, al3, h3, rh3, Stp.refl _ _ _, fin7⟩, ?_⟩
          rintro j kk H4 ⟨rfl, hj, al4, h4, rh4, st4, fin8⟩
          by_cases hlt1 : j < es.length
          · have hx1 : es[j]? = some es[j] := List.getElem?_eq_getElem hlt1
            generalize es[j] = x1 at hx1
            have hdrop1 : es.drop j = x1 :: es.drop (j + 1) := by
              rw [List.drop_eq_getElem_cons hlt1]
              rw [List.getElem?_eq_getElem hlt1] at hx1
              rw [Option.some.inj hx1]
            rw [hdrop1] at fin8
            unfold turns at fin8
            simp only [bnd_assoc] at fin8
            obtain ⟨ρ2, eput1, fin9⟩ := Fin.opt fin8
            obtain ⟨go1, yl1⟩ := (rr3 _ _ st4.k rh4.noU j).1 x1 hx1
            refine .inr ⟨go1, fun H => j + 1 ≤ es.length ∧ ∃ al' h', RH X.K al' h' H ∧ Stp al3 h3 H3 al' h' H ∧
              Fin X.K X.mg (fun cls dd H' => W cls dd σ H') (RR X.K) al' h' H Q (((turns f tg1 ρ1 n (es.drop (j + 1))).bnd fun _ => rest) h'), fun H' p' => ⟨es.length - (j + 1), by omega, rfl, p'⟩, fun xv1 H5 y1 => ?_⟩
            obtain ⟨grow1, rd1⟩ := yl1 xv1 H5 y1
            have rhg1 := rh4.grow grow1
            have stg1 := Stp.grow rh4 grow1
            refine gT_ok tg1 (r := .d x1) rd1 eput1 (rs3.stp (st4.trans stg1)) fun σ3 rs4 w1 => ⟨?_, ?_⟩
            · rw [w1 own1 ht1, wipe_wipe]
            refine ⟨al4, h4, ρ2, rhg1, rs4, ?_⟩
            have fin10 := Fin.shift fin9 stg1
            have fin11 : Fin X.K X.mg (fun cls dd H' => W cls dd σ H') (relO X.K) al4 h4 H5 (fun (o : Option V) H6 => match o with
                | some v => ∃ acc, H6 D = some (.lst acc) ∧ acc.length < sizeLine ∧ (j + 1 ≤ es.length ∧ ∃ al' h', RH X.K al' h' (upd H6 D (.lst (acc ++ [v]))) ∧ Stp al3 h3 H3 al' h' (upd H6 D (.lst (acc ++ [v]))) ∧
                    Fin X.K X.mg (fun cls dd H' => W cls dd σ H') (RR X.K) al' h' (upd H6 D (.lst (acc ++ [v]))) Q (((turns f tg1 ρ1 n (es.drop (j + 1))).bnd fun _ => rest) h'))
                | none => j + 1 ≤ es.length ∧ ∃ al' h', RH X.K al' h' H6 ∧ Stp al3 h3 H3 al' h' H6 ∧
                    Fin X.K X.mg (fun cls dd H' => W cls dd σ H') (RR X.K) al' h' H6 Q (((turns f tg1 ρ1 n (es.drop (j + 1))).bnd fun _ => rest) h')) (f ρ2 h4) := by
              refine Fin.bnd fin10 fun o h6 al6 H6 v st6 rh6 rr6 fin12 => ?_
              have stc := (st4.trans stg1).trans st6
              cases o with
              | none =>
                cases v with
                | some _ => exact rr6.elim
                | none => exact ⟨hlt1, al6, h6, rh6, stc, fin12⟩
              | some d =>
                cases v with
                | none => exact rr6.elim
                | some v =>
                  have ea : al6[n]? = some D := (stb.trans stc).pre n D hpos
                  obtain ⟨vs, h7, eh, hz, st7, rh7, fin13⟩ := Fin.app fin12 rh6 ea rr6
                  exact ⟨vs, eh, hz, hlt1, al6, h7, rh7, stc.trans st7, fin13⟩
            subst hf
            have fin12 := Fin.ofNox (E' := fun cls dd H' => W0 cls dd σ3 H') fin11
            refine Fin.boolOf fin12 fun b h6 al6 H6 st6 rh6 fin13 => ⟨b, rfl, ?_⟩
            cases b with
            | false =>
              refine iteF ?_
              exact Fin.ret (α := Option PyData) (r := none) (v := none) fin13 rh6 trivial
            | true =>
              refine iteT ⟨al6, h6, ρ2, rh6, rs4.stp st6, Fin.bnd fin13 fun y h7 al7 H7 yv st7 rh7 rr7 fin14 => ?_⟩
              obtain ⟨dy, rfl, rdy, fin15⟩ := Fin.pur fin14 rr7
              exact Fin.ret (α := Option PyData) (r := some dy) (v := some yv) fin15 rh7 rdy
          · have e : j = es.length := by omega
            subst e
            rw [List.drop_length] at fin8
            unfold turns at fin8
            exact .inl ⟨(rr3 _ _ st4.k rh4.noU es.length).2 (Nat.le_refl _), hlt, al4, h4, rh4, stb.trans st4, fin8⟩
    subst hf0
    have fin7 := Fin.ofNox (E' := fun cls dd H' => W0 cls dd σ' H') fin6
    refine Fin.boolOf fin7 fun b h3 al3 H3 st3 rh3 fin8 => ⟨b, rfl, ?_⟩
    cases b with
    | false =>
      refine iteF ?_
      exact Fin.ret (α := Option (List PyData)) (r := none) (v := none) fin8 rh3 trivial
    | true =>
      refine iteT ⟨al3, h3, ρ', rh3, rs'.stp st3, Fin.bnd (m := itM cal it1 ρ') fin8 fun es h4 al4 H4 J1 st4 rh4 rr4 fin9 => ?_⟩
      exact Fin.ret (α := Option (List PyData)) (r := some es) (v := some J1) fin9 rh4 rr4
  · have e : i = ds.length := by omega
    subst e
    rw [List.drop_length] at fin3
    unfold turns2 at fin3
    have fin4 : Fin X.K X.mg (fun cls dd H' => W cls dd σ H') (RR X.K) al' h' H2 Q (fin0 () h') := fin3
    rw [← hg] at fin4
    have ea : al'[n]? = some D := st'.pre n D hpos
    refine .inl ⟨(iwb _ _ st'.k rh'.noU ds.length).2 (Nat.le_refl _), ?_⟩
    cases m with
    | true => exact Fin.ret (α := R) (r := .ref n) fin4 rh' ⟨D, ea, rfl⟩
    | false => exact Fin.fz fin4 rh' ea
theorem comp2_ok (g : Gx T cal k X sc N) {m : Bool} {own own1 : List Nat} {elt it cond it1 cond1 : E} {tg tg1 : Tg} {ptg pit ptg1 pit1 pelt : Expr} {pifs pifs1 : List Expr} {scope : Scope} {pos : Pos} (hi : PI X ptg pit (tIt X W (itM cal it)))
    (hs : ∀ x, foldedSetIterable pit X.env x = pure x) (hs1 : ∀ env x, foldedSetIterable pit1 env x = pure x) (hb : blkC N sc scope (ownOf N own) = true) (ho : (ownOf N own).map (·.2) = own) (ht : ∀ i ∈ tgS tg, i ∈ own) (hv : ∀ i ∈ own1, i ∈ own) (ht1 : ∀ i ∈ tgS tg1, i ∈ own1)
    (hg : chkT (fncOf scope) (relS scope sc) N tg ptg = true) (hg1 : chkT (fncOf scope) (relS scope sc) N tg1 ptg1 = true)
    (hi1 : ∀ (s : Shared) (H : Hp) (C : Addr) (cl : List (Str × Addr)) (fp : List Addr), PI (X.blk s H scope (compEnvC scope cl C X.env) fp) ptg1 pit1 (tIt X W0 (itM cal it1)))
    (hc : ∀ (s : Shared) (H : Hp) (C : Addr) (cl : List (Str × Addr)) (fp : List Addr), PTs (X.blk s H scope (compEnvC scope cl C X.env) fp) pifs (tMb X W0 (ev cal cond)))
    (hc1 : ∀ (s : Shared) (H : Hp) (C : Addr) (cl : List (Str × Addr)) (fp : List Addr), PTs (X.blk s H scope (compEnvC scope cl C X.env) fp) pifs1 (tMb X W0 (ev cal cond1)))
    (he : ∀ (s : Shared) (H : Hp) (C : Addr) (cl : List (Str × Addr)) (fp : List Addr), PE (X.blk s H scope (compEnvC scope cl C X.env) fp) pelt (tM X W0 (ev cal elt))) :
    PE X (.ListComp pelt [⟨ptg, pit, pifs, 0⟩, ⟨ptg1, pit1, pifs1, 0⟩] scope pos) (tM X W (ev cal (.comp2 m own own1 elt tg it cond tg1 it1 cond1))) := by
  refine PE.imp (pe_lc2 (own := ownOf N own) (vs1 := own1) (g := gT X.K tg) (g1 := gT X.K tg1) g.calm (by rw [g.nN]; exact g.nd) hi (by rw [g.nN, g.sc]; exact blkOk_by hb) (by rw [ho]; exact hv) (fun s H C cl fp => ?_) hc hi1 (fun s H C cl fp => ?_) hc1 he hs hs1) fun σ H Q h => by rw [ho]; exact comp2_go ht ht1 h
  · exact chkT_ok (X := X.blk s H scope (compEnvC scope cl C X.env) fp) g.nN g.nd (show relS scope X.env.scope = _ by rw [g.sc]) g.calm (fun x hx => hx) hg
  · exact chkT_ok (X := X.blk s H scope (compEnvC scope cl C X.env) fp) g.nN g.nd (show relS scope X.env.scope = _ by rw [g.sc]) g.calm (fun x hx => hx) hg1
end
end Cy


set_option Elab.async false
set_option linter.all false
set_option maxRecDepth 100000
set_option maxHeartbeats 4000000
/-! L3h: the rest of the rules; the check speaks for all. -/
namespace Cy
open PySem PySem.Spec PyProof.Rows L2

section
variable {T : Tb} {cal : Cal} {k : Nat} {X : Cx} {sc : Scope} {N : List Str} {W : WX}

theorem dnew_ok {t : Bool} {pos : Pos} : PE X (.Dict [] [] pos) (tM X W (ev cal (.dnew t))) := by
  cases t with
  | true =>
    refine PE.imp pe_dnewT fun σ H Q ⟨al, hh, ρ, rh, rs, fin⟩ p np => ?_
    unfold ev at fin
    obtain ⟨st, rh'⟩ := new_cell (c := .dct true []) (o := .dT []) rh np rfl ⟨[], upd_same, .nil⟩
    exact fin _ _ (.ref p) st rh' ⟨p, by rw [← rh.len]; simp, rfl⟩
  | false =>
    refine PE.imp pe_dnewK fun σ H Q ⟨al, hh, ρ, rh, rs, fin⟩ p np => ?_
    unfold ev at fin
    obtain ⟨st, rh'⟩ := new_cell (c := .dct false []) (o := .dK []) rh np rfl ⟨[], upd_same, .nil⟩
    exact fin _ _ (.ref p) st rh' ⟨p, by rw [← rh.len]; simp, rfl⟩

theorem dict_at (g : Gx T cal k X sc N) {n : Nat} {kvs : List (D × D)} {x : Str} (h1 : (T.dnm.any fun p => decide (p.1 = n) && decide (p.2.1 = x) && beqDk p.2.2 kvs) = true) :
    ∃ (d : Addr) (es : Array DictEntry) (n : Nat), X.mg x = some (.ref d) ∧ KDict X.K X.w d es n ∧ ∀ z, match findK z kvs with
    | none => PySem.W.nsIn X.K d z = some none
    | some y => ∃ u v, PySem.W.nsIn X.K d z = some (some u) ∧ RelV v u ∧ ∀ U H, RD X.K U H y v := by
  obtain ⟨p, hp, q⟩ := List.any_eq_true.mp h1
  simp only [Bool.and_eq_true, decide_eq_true_eq] at q
  obtain ⟨⟨q1, q2⟩, q3⟩ := q
  obtain ⟨d, es, m, hm, kd, f⟩ := g.dicts p hp
  rw [q2] at hm
  rw [beqDk_eq q3] at f
  exact ⟨d, es, m, hm, kd, f⟩
theorem ing_ok (g : Gx T cal k X sc N) {neg : Bool} {a : E} {n : Nat} {kvs : List (D × D)} {x : Str} {pa : Expr} {p pos : Pos} (h1 : (T.dnm.any fun p => decide (p.1 = n) && decide (p.2.1 = x) && beqDk p.2.2 kvs) = true) (h2 : glB sc x = true) (h3 : okN x = true)
    (ha : PE X pa (tM X W (ev cal a))) : PE X (.Compare pa [if neg then CmpOp.NotIn else CmpOp.In] [.Name x p] pos) (tM X W (ev cal (.ing neg a n kvs))) ∧ PT X (.Compare pa [if neg then CmpOp.NotIn else CmpOp.In] [.Name x p] pos) (tMb X W (ev cal (.ing neg a n kvs))) := by
  obtain ⟨n1, n2, n3⟩ := okN_ok h3
  obtain ⟨d, es, m, hm, kd, f⟩ := dict_at g h1
  have go : ∀ σ H Q, tM X W (ev cal (.ing neg a n kvs)) σ H Q → tOp (fun x y H Q => ∃ (z : Str) (r : Option Value), x = .str z ∧ y = .ref d ∧ PySem.W.nsIn X.K d z = some r ∧ Q (.bl (if neg then !r.isSome else r.isSome)) H) (tM X W (ev cal a)) (tC (.ref d)) σ H Q := fun σ H Q ⟨al, hh, ρ, rh, rs, fin⟩ => by
    unfold ev at fin
    refine ⟨al, hh, ρ, rh, rs, Fin.bnd fin fun r1 h1 al1 H1 v1 st1 rh1 rr1 fin1 => ?_⟩
    obtain ⟨y, rfl, rd, fin2⟩ := Fin.pur fin1 rr1
    cases y with
    | str z =>
      cases rd
      have fz := f z
      have q := Fin.ret (α := R) (r := .d (.bool (if neg then !(findK z kvs).isSome else (findK z kvs).isSome))) fin2 rh1 (.bl _)
      cases e : findK z kvs with
      | none =>
        rw [e] at fz q
        exact ⟨z, none, rfl, rfl, fz, q⟩
      | some y =>
        rw [e] at fz q
        obtain ⟨u, v, e2, _⟩ := fz
        exact ⟨z, some u, rfl, rfl, e2, q⟩
    | _ => exact fin2.elim
  have pn : PE X (.Name x p) (tC (.ref d)) := pe_glob (g.gl h2) hm rfl n1
  cases neg with
  | true =>
    exact ⟨PE.imp (pe_cmpR (op_notIn_kd kd) ha pn rfl) go, PT.imp (pt_cmpR (op_notIn_kd kd) ha pn rfl) fun σ H Q h => go σ H _ h⟩
  | false =>
    exact ⟨PE.imp (pe_cmpR (op_in_kd kd) ha pn rfl) go, PT.imp (pt_cmpR (op_in_kd kd) ha pn rfl) fun σ H Q h => go σ H _ h⟩
theorem ixg_ok (g : Gx T cal k X sc N) {a : E} {n : Nat} {kvs : List (D × D)} {x : Str} {pa : Expr} {p pos : Pos} (h1 : (T.dnm.any fun p => decide (p.1 = n) && decide (p.2.1 = x) && beqDk p.2.2 kvs) = true) (h2 : glB sc x = true) (h3 : okN x = true) (hn : notSlice pa = true)
    (ha : PE X pa (tM X W (ev cal a))) : PE X (.Subscript (.Name x p) pa pos) (tM X W (ev cal (.ixg n kvs a))) := by
  obtain ⟨n1, n2, n3⟩ := okN_ok h3
  obtain ⟨d, es, m, hm, kd, f⟩ := dict_at g h1
  have pn : PE X (.Name x p) (tC (.ref d)) := pe_glob (g.gl h2) hm rfl n1
  refine PE.imp (pe_ix ix_kdict pn ha (ix_plain hn)) fun σ H Q ⟨al, hh, ρ, rh, rs, fin⟩ => ?_
  unfold ev at fin
  refine ⟨al, hh, ρ, rh, rs, Fin.bnd fin fun r1 h1 al1 H1 v1 st1 rh1 rr1 fin1 => ?_⟩
  obtain ⟨y, rfl, rd, fin2⟩ := Fin.pur fin1 rr1
  cases y with
  | str z =>
    cases rd
    have fz := f z
    obtain ⟨y, e, fin3⟩ := Fin.opt fin2
    rw [e] at fz
    obtain ⟨u, v, e2, r, rd2⟩ := fz
    exact ⟨d, z, v, rfl, rfl, ⟨es, m, u, kd.at_, kd.lit, e2, r⟩, Fin.ret (α := R) (r := .d y) fin3 rh1 (rd2 _ _)⟩
  | _ => exact fin2.elim

theorem pa_no : PA X [] (tMs X W (evs cal [])) := PA.imp pa_nil fun σ H Q ⟨al, hh, ρ, rh, rs, fin⟩ => Fin.ret (α := List R) (r := []) fin rh .nil
theorem pa_more {e : E} {es : List E} {p : Expr} {ps : List Expr} (h1 : PE X p (tM X W (ev cal e))) (h2 : PA X ps (tMs X W (evs cal es))) (hs : notStar p = true) : PA X (p :: ps) (tMs X W (evs cal (e :: es))) := by
  refine PA.imp (pa_cons h1 h2 (star_cons hs)) fun σ H Q ⟨al, hh, ρ, rh, rs, fin⟩ => ?_
  unfold evs at fin
  refine ⟨al, hh, ρ, rh, rs, Fin.bnd fin fun r h1 al1 H1 v st1 rh1 rr fin1 => ⟨al1, h1, ρ, rh1, rs.stp st1, Fin.bnd fin1 fun rs2 h2 al2 H2 vs st2 rh2 rr2 fin2 => ?_⟩⟩
  exact Fin.ret (α := List R) (r := r :: rs2) fin2 rh2 (.cons (rr.stp st2) rr2)
theorem chks_star : ∀ {es : List E} {ps : List Expr}, chks T sc N es ps = true → ps.all notStar = true
  | [], [], _ => rfl
  | [], _ :: _, h => by simp [chks] at h
  | _ :: _, [], h => by simp [chks] at h
  | e :: es, p :: ps, h => by
    unfold chks at h
    simp only [Bool.and_eq_true] at h
    rw [List.all_cons, h.1.1, chks_star h.2]
    rfl
theorem Gx.blk (g : Gx T cal k X sc N) (s : Shared) (H : Hp) (scope : Scope) (C : Addr) (cl : List (Str × Addr)) (fp : List Addr) : Gx T cal k (X.blk s H scope (compEnvC scope cl C X.env) fp) (relS scope sc) N :=
  ⟨g.nN, g.nd, show relS scope X.env.scope = _ by rw [g.sc], g.calm, g.room, g.gd, g.calls, g.globs, g.dicts, g.ftabs, g.blt⟩
theorem pts_yes : PTs X [] (tMb X W (ev cal (.lit (.bool true)))) := ⟨fun pins s σ H Q I ⟨al, hh, ρ, rh, rs, fin⟩ => by
  obtain ⟨b, e, q⟩ := Fin.ret (α := R) (r := .d (.bool true)) fin rh (.bl true)
  cases e
  exact pts_nil.run pins s σ H Q I q⟩
end
end Cy


set_option Elab.async false
set_option linter.all false
set_option maxRecDepth 100000
set_option maxHeartbeats 8000000
/-! LS: sets of whole numbers, how many they hold: len(set(xs)), len({e for x in xs}). -/
namespace Cy
open PySem PySem.Spec PyProof.Rows L2

section
variable {X : Cx}
/-- what {e for x in xs if t} wants: the new set is an object Z, and Ad says what adding to it asks -/
def tSg (Z : Addr → HO) (Ad : V → Addr → Hp → (Hp → Prop) → Prop) (wi : TI) (g : TG) (tt : TT) (te : TE) (vs : List Nat) : TE := fun σ H Q =>
  wi σ H fun J H1 => ∀ D, H1 D = none → ∃ W : Nat → Nat → Hp → Prop, (∃ m, W 0 m (upd H1 D (Z D))) ∧ ∀ i m H, W i m H →
    (J.stop i H ∧ Q (.ref D) H) ∨
    (J.go i H ∧ ∃ Nx : Hp → Prop, (∀ H', Nx H' → ∃ m', m' < m ∧ W (i + 1) m' H') ∧
      ∀ x H', J.yld i H x H' → g x (L2.wipe σ vs) H' fun σ2 H2 => L2.wipe σ2 vs = L2.wipe σ vs ∧ tt σ2 H2 fun b H3 => if b = true then te σ2 H3 fun y H4 => Ad y D H4 Nx else Nx H3)
/-- the fresh set in the model's heap -/
abbrev newS (w : World) : Obj := { cls := .type "set", dict := none, data := .set #[] 0 (.fresh 0 0 (!w.params.followText "set-order")) }
theorem pe_sg {elt tg iter : Expr} {ifs : List Expr} {scope : Scope} {own : List (Str × Nat)} {pos : Pos} {wi : TI} {g : TG} {tt : TT} {te : TE} {Z : Addr → HO} {Ad : V → Addr → Hp → (Hp → Prop) → Prop}
    (hz : ∀ (H : Hp) (h : Heap), ObjOk X.prog X.w H (h.push (newS X.w)) h.objs.size (Z h.objs.size))
    (had : ∀ {Y : Cx} {pins : List (Addr × Obj)} {σ : Sg} {H : Hp} {s : Shared} {y : V} {u : Value} {D : Addr} {Nx : Hp → Prop} {Q : Value → Shared → Prop} {E : Value → Shared → Prop}, Y.prog = X.prog → Y.w = X.w → Inv Y pins σ H s → RelV y u → Ad y D H Nx →
      (∀ s' H', Inv Y pins σ H' s' → Nx H' → Q .none s') → wpAny (model Y.prog Y.w) Y.A (call (.builtin "set.add") [.ref D, u]) Q E s)
    (calm : X.calm = true) (nd : X.N.Nodup) (hi : PI X tg iter wi) (bo : BlkOk X.N X.env.scope scope own)
    (hg : ∀ (s : Shared) (H : Hp) (C : Addr) (cl : List (Str × Addr)) (fp : List Addr), PG (X.blk s H scope (compEnvC scope cl C X.env) fp) tg g)
    (ht : ∀ (s : Shared) (H : Hp) (C : Addr) (cl : List (Str × Addr)) (fp : List Addr), PTs (X.blk s H scope (compEnvC scope cl C X.env) fp) ifs tt)
    (he : ∀ (s : Shared) (H : Hp) (C : Addr) (cl : List (Str × Addr)) (fp : List Addr), PE (X.blk s H scope (compEnvC scope cl C X.env) fp) elt te)
    (hs : ∀ x, foldedSetIterable iter X.env x = pure x) : PE X (.SetComp elt [⟨tg, iter, ifs, 0⟩] scope pos) (tSg Z Ad wi g tt te (own.map (·.2))) := by
  refine ⟨fun pins s σ H Q I h => ?_⟩
  rw [PpSet.eval_SetComp]
  have cap : ∀ y ∈ scope.names, y.2 = .free → ∃ c, X.env.cells.lookup y.1 = some c := fun y hy ey => (bo.free y hy ey).elim (fun k => I.ok.has _ (.inl k)) fun k => I.ok.has _ (.inr k)
  refine wpAny_comprehension_free (use := none) rfl hs (closure_ok cap) bo.kind (fun y hy ey => by rw [bo.uniq y hy, ey]) (thn (hi.run pins s σ H _ I h) fun xv t1 hx => thn hx fun itv t2 got => ?_)
  obtain ⟨it, fp, tn, J, H2, rfl, I2, T, k2, p2, q⟩ := got
  refine PpSet.newSet_ok (newEnv_comp ?_)
  obtain ⟨W, ⟨m0, w0⟩, turn⟩ := q t2.heap.objs.size (I2.hok.fresh (Nat.le_refl _))
  have small : ∀ b ∈ fp, b < t2.heap.objs.size := fun b hb => let ⟨_, e, _⟩ := T.obj _ _ k2 b hb; Heap.lt_size e
  have stay : ∀ (b : Addr) (o : Obj), t2.heap.get? b = some o → (t2.heap.push (newS X.w)).get? b = some o := fun b o e => Heap.get?_push_of_some _ e
  -- behind the making of the set
  obtain ⟨t3, e3⟩ : ∃ t3 : Shared, t3 = { t2 with heap := t2.heap.push (newS X.w) } := ⟨_, rfl⟩
  obtain ⟨H3, eH3⟩ : ∃ H3 : Hp, H3 = upd H2 t2.heap.objs.size (Z t2.heap.objs.size) := ⟨_, rfl⟩
  have I3 : Inv X pins σ H3 t3 := by
    subst e3 eH3
    exact I2.laid (t' := t2.toks) (fun b o e => stay b o e) (Nat.le_refl _) (hz _ t2.heap)
  have p3 : ∀ b ∈ fp, FpOk X pins H3 b ∧ b < t3.heap.objs.size := fun b hb => by
    have lt := small b hb
    subst e3 eH3
    exact ⟨⟨(upd_ne (Nat.ne_of_lt lt)).trans (p2 b hb).1, (p2 b hb).2⟩, by rw [Heap.size_push]; exact Nat.lt_succ_of_lt lt⟩
  have k3 : tn 0 t3.heap := T.keep _ _ _ k2 fun b _ o e => by subst e3; exact stay b o e
  have I4 := block_start I3 bo nd p3
  obtain ⟨C, eC⟩ : ∃ C, C = t3.heap.objs.size := ⟨_, rfl⟩
  rw [← eH3] at w0
  have e5 : ({ t2 with heap := t2.heap.push (newS X.w) } : Shared) = t3 := e3.symm
  obtain ⟨D, eD⟩ : ∃ D, D = t2.heap.objs.size := ⟨_, rfl⟩
  rw [← eD] at turn ⊢
  show codeAny _ _ (.compStart (.SetComp elt [⟨tg, iter, ifs, 0⟩] scope pos) 0 (.ref it) (.ref D) (compEnvC scope (cellsFrom (({ t2 with heap := t2.heap.push (newS X.w) } : Shared).heap.objs.size + 1) scope.names (cloFrom X.env.cells scope.names [])) ({ t2 with heap := t2.heap.push (newS X.w) } : Shared).heap.objs.size X.env))
    (compPost (model X.prog X.w) X.A X.xe none _ (.ref D) ({ t2 with heap := t2.heap.push (newS X.w) } : Shared).heap.objs.size) { ({ t2 with heap := t2.heap.push (newS X.w) } : Shared) with heap := pushCells (({ t2 with heap := t2.heap.push (newS X.w) } : Shared).heap.push { cls := .type "dict", data := .dict #[] }) scope.names }
  rw [e5, ← eC]
  have G := hg t3 H3 C (cellsFrom (C + 1) scope.names (cloFrom X.env.cells scope.names [])) fp
  have F := ht t3 H3 C (cellsFrom (C + 1) scope.names (cloFrom X.env.cells scope.names [])) fp
  have L := he t3 H3 C (cellsFrom (C + 1) scope.names (cloFrom X.env.cells scope.names [])) fp
  rw [← eC] at I4
  have bare : ∀ b ∈ fp, H3 b = none := fun b hb => (p3 b hb).1.1
  obtain ⟨ce, ece⟩ : ∃ ce, ce = compEnvC scope (cellsFrom (C + 1) scope.names (cloFrom X.env.cells scope.names [])) C X.env := ⟨_, rfl⟩
  rw [← ece] at I4 G F L ⊢
  have cl : ce.locals = C := by rw [ece]; rfl
  obtain ⟨t4, e4⟩ : ∃ t4 : Shared, t4 = { t3 with heap := pushCells (t3.heap.push { cls := .type "dict", data := .dict #[] }) scope.names } := ⟨_, rfl⟩
  have k4 : tn 0 t4.heap := T.keep _ _ _ k3 fun b _ o e => by rw [e4]; exact pushCells_keeps _ _ _ _ (Heap.get?_push_of_some _ e)
  rw [← e4] at I4 ⊢
  have fine : ∀ {ρ : Sg} {H' : Hp} {t : Shared}, Inv (X.blk t3 H3 scope ce fp) [] ρ H' t → (∀ b ∈ fp, H' b = none) → ∀ b ∈ fp, FpOk (X.blk t3 H3 scope ce fp) [] H' b := fun {ρ H' t} J' hn b hb =>
    ⟨hn b hb, (J'.ok.exf b hb).1, J'.ok.exfs b hb, .inl hb, fun x c e => (J'.ok.exf b hb).2 x c e, fun p hp => by cases (show p ∈ ([] : List (Addr × Obj)) ++ [] from hp)⟩
  refine (fun loop => PpSet.codeAny_compStart_set loop (T.self X.A 0 _ _ _ k4 loop)) ?_
  refine PpSet.compLoopS_any (fun n t => ∃ i H', Inv (X.blk t3 H3 scope ce fp) [] (L2.wipe σ (own.map (·.2))) H' t ∧ tn i t.heap ∧ (∀ b ∈ fp, H' b = none) ∧ W i n H') ?_ m0 ⟨0, H3, I4, k4, bare, w0⟩
  rintro n t5 ⟨i, H5, I5, k5, n5, w5⟩
  rcases turn i n H5 w5 with ⟨stop, done⟩ | ⟨go, Nx, next, step⟩
  · refine thnF (T.done (X.blk t3 H3 scope ce fp) rfl rfl rfl calm i [] t5 _ H5 (fun _ _ => False) I5 (fine I5 n5) k5 stop) fun r t6 ⟨er, I6⟩ => ?_
    subst er
    have I7 : Inv X pins σ H5 t6 := I3.call' (ch := fp) I6.os I6.base I6.hok I6.bare fun b hb => by
      obtain ⟨⟨_, z1, z2, z3, z4, z5⟩, _⟩ := p3 b hb
      exact ⟨z3, z1, z4, z5⟩
    have free : H5 C = none := by rw [← cl]; exact I6.free
    obtain ⟨m, hn, _⟩ := I6.loc
    have hn : t6.heap.Ns ce.locals m := hn
    rw [cl] at hn
    obtain ⟨f0, f1, f2, f3, f4, f5⟩ := I3.fpOk (Nat.le_of_eq eC.symm) free
    refine ⟨m, hn, fun h'' sb => ⟨.ref D, H5, I7.turned (t' := t6.toks) (fun b o hb e => ?_) f0 f1 f3 f4 f5, rfl, done⟩⟩
    exact (sb.2 b hb).trans e
  · refine thnF (T.item (X.blk t3 H3 scope ce fp) rfl rfl rfl calm i [] t5 _ H5 (fun _ _ => False) I5 (fine I5 n5) k5 go) fun r t6 ⟨u, er, h6⟩ => ?_
    subst er
    refine thnF h6 fun _ t7 ⟨x, H7, I7, r7, y7, k7, n7⟩ => ?_
    have P7 := I7.pinned (fine I7 n7) (T.obj _ _ k7)
    refine thnF (G.run _ t7 _ H7 x u _ P7 r7 (step x H7 y7)) fun _ t8 ⟨σ8, H8, I8, w8, q8⟩ => ?_
    refine thnF (F.run _ t8 σ8 H8 _ I8 q8) fun b t9 ⟨H9, I9, q9⟩ => ?_
    have again : ∀ (t : Shared) (H' : Hp), Inv (X.blk t3 H3 scope ce fp) ([] ++ pinsAt fp t7.heap) σ8 H' t → Nx H' →
        ∃ m, m < n ∧ ∃ i H', Inv (X.blk t3 H3 scope ce fp) [] (L2.wipe σ (own.map (·.2))) H' t ∧ tn i t.heap ∧ (∀ b ∈ fp, H' b = none) ∧ W i m H' := fun t H' I' nx => by
      obtain ⟨m', lt, wn⟩ := next H' nx
      have kept : ∀ b ∈ fp, ∀ o, t7.heap.get? b = some o → t.heap.get? b = some o ∧ H' b = none := fun b hb o e => by
        have z := I'.pin (b, o) (List.mem_append_right _ (List.mem_append_right _ (mem_pinsAt hb e)))
        exact ⟨z.1, z.2.1⟩
      have len : (L2.wipe σ (own.map (·.2))).length = σ8.length := by rw [← w8, L2.wipe_length]
      refine ⟨m', lt, i + 1, H', (I'.unpinned (pins := [])).weak len (fun j v e => (wipe_some (w8 ▸ e)).1), T.keep _ _ _ k7 fun b hb o e => (kept b hb o e).1, fun b hb => ?_, wn⟩
      obtain ⟨o, e, _⟩ := T.obj _ _ k7 b hb
      exact (kept b hb o e).2
    cases b with
    | false => exact again t9 H9 I9 q9
    | true =>
      show wpAny _ _ _ _ _ _
      refine thnF (L.run _ t9 σ8 H9 _ I9 q9) fun z ta ⟨yv, Ha, Ia, ra, ad⟩ => ?_
      exact had (Y := X.blk t3 H3 scope ce fp) rfl rfl Ia ra ad fun t H' I' nx => again t H' I' nx
end
end Cy


set_option Elab.async false
set_option linter.all false
set_option maxRecDepth 100000
set_option maxHeartbeats 8000000
/-! LSb: len(set(xs)), len({e for x in xs}). -/
namespace Cy
open PySem PySem.Spec PyProof.Rows L2

theorem stepD_eq : stepD = step_dedup := rfl
theorem met_eq (ns : List Int) : firstMet (fun i => ns.getD i 0) ns.length = dedI ns := by
  have e : (List.range ns.length).map (fun i => ns.getD i 0) = ns := by
    apply List.ext_getElem
    · simp
    · intro i h1 h2
      simp at h1
      simp [h1]
  unfold firstMet dedI
  rw [e]
  rfl
theorem dedI_le : ∀ (ns acc : List Int), (ns.foldl stepD acc).length ≤ acc.length + ns.length
  | [], acc => by simp
  | x :: ns, acc => by
    have h := dedI_le ns (stepD acc x)
    have h2 : (stepD acc x).length ≤ acc.length + 1 := by
      unfold stepD
      split <;> simp
    simp only [List.foldl_cons, List.length_cons]
    omega
theorem RDs.isInts {K : Fg} {U : Mu} {H : Hp} {ds : List D} {ns : List Int} {vs : List V} (r : RDs K U H ds vs) (e : allInts ds = some ns) : vs = ns.map V.int := RDs.ints r e
theorem ints_of_vals : ∀ {ns : List Int} {us : List Value}, Vals (ns.map V.int) us → IntsAre us ns
  | [], _, .nil => .nil
  | n :: ns, _, .cons ⟨k, hk⟩ t => by
    subst hk
    exact .cons n k (ints_of_vals t)

section
variable {X : Cx}
/-- what len(set(a)) wants: a list of whole numbers -/
def tLset (K : Fg) (ta : TE) : TE := fun σ H Q => ta σ H fun x H1 => ∃ (l : Addr) (ns : List Int), x = .ref l ∧ SqL K H1 l (ns.map V.int) ∧ ns.length ≤ 1000 ∧ Q (.int ((dedI ns).length : Nat)) H1
theorem pe_lset {a : Expr} {ta : TE} {p p2 q pos : Pos} (calm : X.calm = true) (g1 : Gl X "len") (m1 : X.mg "len" = none) (g2 : Gl X "set") (m2 : X.mg "set" = none) (ha : PE X a ta) (ns : notStar a = true) :
    PE X (.Call (.Name "len" p) [.Call (.Name "set" p2) [a] [] q] [] pos) (tLset X.K ta) :=
  ⟨fun pins s σ H Q I h => by
    refine Call_ (ld_blt I g1 m1 boot_len (callWith_builtin1 (args_cons ?_ rfl) rfl rfl))
    refine Call_ (ld_blt I g2 m2 boot_set (callWith_type1 (args_cons (thn (ha.run pins s σ H _ I h) ?_) (star_cons ns)) (star_cons ns) rfl))
    rintro v t ⟨x, H1, I1, rx, l, ks, rfl, sq, few, fin⟩
    refine args_nil ?_
    cases rx
    obtain ⟨its, rv, pl, _⟩ := I1.list sq
    have sz : its.toArray.size = ks.length := by simpa using rv.length.symm
    have le := dedI_le ks []
    refine call_set_list (I1.ok.hd calm) pl.isList (ns := ks) (by simpa using ints_of_vals rv) (by rw [sz]; unfold scanBound; omega) fun h' tk made kept => args_nil ?_
    rw [sz, met_eq] at made
    obtain ⟨o, es, ep, tb, ho, ex, hd, _, _, _, hf, hn⟩ := made
    have le2 : (dedI ks).length ≤ ks.length := by unfold dedI; simpa using le
    have I2 : Inv X pins σ H1 { t with heap := h', toks := tk } := I1.kept fun b ob e => kept b ob (Heap.lt_size e) e
    exact call_len_set ho ex hd hf (by rw [hn]; omega) ⟨.int ((dedI ks).length : Nat), H1, I2.tok _, ⟨_, by rw [hn]⟩, fin⟩⟩

/-- the set of these whole numbers -/
def SetL (w : World) (D : Addr) (l : List Int) : HO := SetO w D (fun j => l.any (· == j)) l.length
theorem setL_step (w : World) (D : Addr) (l : List Int) (c : Int) : SetO w D (fun j => l.any (· == j) || decide (j = c)) (if (l.any (· == c)) = true then l.length else l.length + 1) = SetL w D (stepD l c) := by
  unfold SetL stepD
  by_cases h : l.any (· == c) = true
  · simp only [if_pos h]
    congr 1
    funext j
    by_cases hj : j = c
    · subst hj
      rw [h]
      simp
    · simp [hj]
  · simp only [if_neg h]
    congr 1
    · funext j
      rw [List.any_append]
      congr 1
      simp only [List.any_cons, List.any_nil, Bool.or_false]
      by_cases hj : j = c
      · subst hj; simp
      · have : ¬ c = j := fun z => hj z.symm
        simp [hj, this]
    · simp
/-- what adding y to the set at D wants -/
def AdI (w : World) : V → Addr → Hp → (Hp → Prop) → Prop := fun y D H Nx => ∃ (c : Int) (l : List Int), y = .int c ∧ H D = some (SetL w D l) ∧ l.length < 1000 ∧ Nx (upd H D (SetL w D (stepD l c)))
theorem adI_run {Y : Cx} {pins : List (Addr × Obj)} {σ : Sg} {H : Hp} {s : Shared} {y : V} {u : Value} {D : Addr} {Nx : Hp → Prop} {Q : Value → Shared → Prop} {E : Value → Shared → Prop} (I : Inv Y pins σ H s) (r : RelV y u) (ad : AdI Y.w y D H Nx)
    (fin : ∀ s' H', Inv Y pins σ H' s' → Nx H' → Q .none s') : wpAny (model Y.prog Y.w) Y.A (call (.builtin "set.add") [.ref D, u]) Q E s := by
  obtain ⟨c, l, rfl, hD, few, nx⟩ := ad
  obtain ⟨tk, rfl⟩ := r
  refine setR_add (setO_get I hD) (by unfold scanBound; omega) fun h' sb new => ?_
  have there : ∃ ob, h'.get? D = some ob := let ⟨ob, _, _, _, e, _⟩ := new; ⟨ob, e⟩
  have I2 := I.write (e := D) (t' := s.toks + 1) (o := SetO Y.w D (fun j => l.any (· == j) || decide (j = c)) (if (l.any (· == c)) = true then l.length else l.length + 1)) (by rw [hD]; trivial) (.inl rfl) (fun b ob hb hu => (sb.2 b hb).trans hu) there (setO_new new)
  rw [setL_step] at I2
  exact fin _ _ I2 nx
theorem setL_new {w : World} {P : Program} {H : Hp} {h : Heap} : ObjOk P w H (h.push (newS w)) h.objs.size (SetL w h.objs.size []) := setO_new (setR_fresh w)
/-- len(a), a a set of whole numbers -/
theorem call_lenL : CallR X (.builtin "len") (fun xs H Q => ∃ (D : Addr) (l : List Int), xs = [.ref D] ∧ H D = some (SetL X.w D l) ∧ l.length ≤ 1000 ∧ Q (.int (l.length : Nat)) H) := by
  intro pins s σ H vs us Q I rv ⟨D, l, ex, hD, few, q⟩
  subst ex
  cases rv with
  | cons r t =>
    cases t
    cases r
    obtain ⟨o, es, ep, tb, ho, ex, hd, _, _, _, _, hf, hn, _⟩ := setO_get I hD
    exact call_len_set ho ex hd hf (by rw [hn]; omega) ⟨.int (l.length : Nat), H, I.tok _, ⟨_, by rw [hn]⟩, q⟩
end
end Cy


set_option Elab.async false
set_option linter.all false
set_option maxRecDepth 100000
set_option maxHeartbeats 8000000
/-! LSc: the rules for sets' lengths, dict comprehensions, dicts looked up. -/
namespace Cy
open PySem PySem.Spec PyProof.Rows L2

section
variable {α β γ δ : Type} {K : Fg} {mg : Str → Option Value} {E : XK} {rel : List Addr → Mu → Hp → α → β → Prop} {rel' : List Addr → Mu → Hp → γ → δ → Prop} {al al0 : List Addr} {h h0 : Hs} {H H0 : Hp} {Q : β → Hp → Prop} {Q' : δ → Hp → Prop}
/-- as Fin.bnd, what is wanted told from an earlier state -/
theorem Fin.bnd0 {m : M γ} {g : γ → M α} (f : Fin K mg E rel al h H Q ((m.bnd g) h0)) (st0 : Stp al h H al0 h0 H0)
    (k : ∀ r h1 al1 H1 v, Stp al0 h0 H0 al1 h1 H1 → RH K al1 h1 H1 → rel' al1 (UU al1 h1) H1 r v → Fin K mg E rel al h H Q (g r h1) → Q' v H1) : Fin K mg E rel' al0 h0 H0 Q' (m h0) := by
  unfold M.bnd at f
  cases e : m h0 with
  | ok r h1 =>
    rw [e] at f
    exact fun al1 H1 v st rh rr => k r h1 al1 H1 v st rh rr f
  | ex x h1 =>
    rw [e] at f
    exact fun al' H' cls dd st rh x => f al' H' cls dd (st0.trans st) rh x
  | bad => rw [e] at f; exact f
theorem Fin.opt0 {o : Option γ} {g : γ → M α} (f : Fin K mg E rel al h H Q (((M.opt o).bnd g) h0)) : ∃ a, o = some a ∧ Fin K mg E rel al h H Q (g a h0) := by
  cases o with
  | none => exact f.elim
  | some a => exact ⟨a, rfl, f⟩
end
theorem rd_past {H : Hp} {a D : Addr} {u o : HO} (r : Rd H a u) (ne : a ≠ D) : Rd (upd H D o) a u := by
  rcases r with r | ⟨b, r⟩
  · exact .inl (by rw [upd_ne ne]; exact r)
  · exact .inr ⟨b, by rw [upd_ne ne]; exact r⟩
/-- D is neither a list nor a tuple -/
def Odd' (H : Hp) (D : Addr) : Prop := ∀ xs, ¬ Rd H D (.lst xs) ∧ ¬ Rd H D (.tup xs)
section
variable {K : Fg} {U : Mu} {H : Hp} {D : Addr} {o : HO}
mutual
theorem RD.past (od : Odd' H D) : ∀ {d : Cy.D} {v : V}, RD K U H d v → RD K U (upd H D o) d v
  | _, _, .non => .non
  | _, _, .bl b => .bl b
  | _, _, .int i => .int i
  | _, _, .str x => .str x
  | _, _, .lst n r q => .lst n (rd_past r fun z => (od _).1 (z ▸ r)) (RDs.past od q)
  | _, _, .tup n r q => .tup n (rd_past r fun z => (od _).2 (z ▸ r)) (RDs.past od q)
  | _, _, .tupK t q => .tupK t (RDs.past od q)
theorem RDs.past (od : Odd' H D) : ∀ {ds : List Cy.D} {vs : List V}, RDs K U H ds vs → RDs K U (upd H D o) ds vs
  | _, _, .nil => .nil
  | _, _, .cons a b => .cons (RD.past od a) (RDs.past od b)
end
theorem RR.past (od : Odd' H D) {al : List Addr} {r : R} {v : V} (x : RR K al U H r v) : RR K al U (upd H D o) r v := by
  cases r with
  | d y => exact RD.past od x
  | ref n => exact x
end
section
variable {K : Fg} {al : List Addr} {h : Hs} {H : Hp}
/-- an object that is none of ours is changed -/
theorem other_cell {D : Addr} {o : HO} (rh : RH K al h H) (nd : D ∉ al) (od : Odd' H D) : RH K al h (upd H D o) := by
  refine ⟨rh.len, rh.nd, fun n c a e1 e2 => ?_⟩
  have ne : a ≠ D := fun z => nd (z ▸ List.mem_of_getElem? e2)
  have rc := rh.at_ n c a e1 e2
  cases c with
  | lst ds => obtain ⟨xs, e, q⟩ := rc; exact ⟨xs, by rw [upd_ne ne]; exact e, q.past od⟩
  | fz ds => obtain ⟨xs, e, q⟩ := rc; exact ⟨xs, by rw [upd_ne ne]; exact e, q.past od⟩
  | dct t kvs =>
    cases t with
    | true =>
      obtain ⟨xs, e, q⟩ := rc
      exact ⟨xs, by rw [upd_ne ne]; exact e, Paired.mapP q fun p q z => ⟨z.1, z.2.past od⟩⟩
    | false =>
      obtain ⟨xs, e, q⟩ := rc
      exact ⟨xs, by rw [upd_ne ne]; exact e, Paired.mapP q fun p q z => ⟨z.1, z.2.past od⟩⟩
theorem setL_odd {w : World} {D : Addr} {l : List Int} (e : H D = some (SetL w D l)) : Odd' H D := fun xs => by
  constructor <;> (rintro (z | ⟨b, z⟩) <;> (rw [e] at z; cases z))
theorem none_odd {D : Addr} (e : H D = none) : Odd' H D := fun xs => by
  constructor <;> (rintro (z | ⟨b, z⟩) <;> (rw [e] at z; cases z))
end
section
variable {T : Tb} {cal : Cal} {k : Nat} {X : Cx} {sc : Scope} {N : List Str} {W : WX}
theorem lset_ok (g : Gx T cal k X sc N) {e : E} {pa : Expr} {p p2 q pos : Pos} (h1 : glB sc "len" = true) (h2 : glB sc "set" = true) (hs : notStar pa = true) (he : PE X pa (tM X W (ev cal e))) :
    PE X (.Call (.Name "len" p) [.Call (.Name "set" p2) [pa] [] q] [] pos) (tM X W (ev cal (.lset e))) := by
  refine PE.imp (pe_lset g.calm (g.gl h1) (g.blt _ (by decide +kernel)) (g.gl h2) (g.blt _ (by decide +kernel)) he hs) fun σ H Q ⟨al, hh, ρ, rh, rs, fin⟩ => ?_
  unfold ev at fin
  refine ⟨al, hh, ρ, rh, rs, Fin.bnd fin fun r h1 al1 H1 v st rh1 rr fin1 => ?_⟩
  obtain ⟨d, rt, fin2⟩ := Fin.dat fin1 rh1 rr
  obtain ⟨n, e, fin3⟩ := Fin.opt fin2
  unfold setLen at e
  split at e
  · rename_i xs
    obtain ⟨a, vs, rfl, ra, rds⟩ := rt.sql
    cases q : allInts xs with
    | none => rw [q] at e; cases e
    | some ns =>
      rw [q, Option.bind_some] at e
      split at e
      · rename_i few
        cases e
        rw [RDs.ints rds q] at ra
        exact ⟨a, ns, rfl, .inl ra, few, Fin.ret (α := R) (r := .d (.int _)) fin3 rh1 (.int _)⟩
      · cases e
  · cases e
theorem lsc_go {own : List Nat} {elt it cond : E} {tg : Tg} (ht : ∀ i ∈ tgS tg, i ∈ own) {σ : Sg} {H : Hp} {Q : VK} (h : tM X W (ev cal (.lsc own elt tg it cond)) σ H Q) :
    tSg (fun D => SetL X.w D []) (AdI X.w) (tIt X W (itM cal it)) (gT X.K tg) (tMb X W0 (ev cal cond)) (tM X W0 (ev cal elt)) own σ H fun v H' => ∃ (D : Addr) (l : List Int), [v] = [V.ref D] ∧ H' D = some (SetL X.w D l) ∧ l.length ≤ 1000 ∧ Q (.int (l.length : Nat)) H' := by
  obtain ⟨al, hh, ρ, rh, rs, fin⟩ := h
  unfold ev at fin
  generalize hf : (fun ρ' => M.nox (((ev cal cond ρ').bnd boolOf).bnd fun k =>
      match k with
      | true => (ev cal elt ρ').bnd fun y => (pur y).bnd fun dy => M.ret (some dy)
      | false => M.ret none)) = f at fin
  have e1 : ((ev cal it ρ).bnd fun x => (pur x).bnd fun d => (M.opt (seqD d)).bnd fun ds => (turnsS f tg (Cy.wipe ρ own) ds []).bnd fun l => M.ret (R.d (.int (l.length : Nat)))) =
      (itM cal it ρ).bnd fun ds => (turnsS f tg (Cy.wipe ρ own) ds []).bnd fun l => M.ret (R.d (.int (l.length : Nat))) := by
    unfold itM
    simp only [bnd_assoc]
  rw [e1] at fin
  refine ⟨al, hh, ρ, rh, rs, Fin.bnd fin fun ds h1 al1 H1 J st1 rh1 iw fin1 => ?_⟩
  intro D hD
  generalize hfin0 : (fun l : List Int => M.ret (R.d (.int (l.length : Nat)))) = fin0 at fin1
  have rsb := (rs.stp st1).wipe own
  generalize hρ : Cy.wipe ρ own = ρw at *
  have nal : ∀ {al' : List Addr} {h' : Hs} {H' : Hp} {l : List Int}, RH X.K al' h' H' → H' D = some (SetL X.w D l) → D ∉ al' := fun {al' h' H' l} rh' e hm => by
    obtain ⟨n, hn⟩ := List.getElem?_of_mem hm
    have hl : n < h'.length := by
      rw [← rh'.len]
      rcases Nat.lt_or_ge n al'.length with z | z
      · exact z
      · rw [List.getElem?_eq_none z] at hn; cases hn
    have rc := rh'.at_ n _ D (List.getElem?_eq_getElem hl) hn
    cases hc : h'[n] with
    | lst _ => rw [hc] at rc; obtain ⟨_, z, _⟩ := rc; rw [e] at z; cases z
    | fz _ => rw [hc] at rc; obtain ⟨_, z, _⟩ := rc; rw [e] at z; cases z
    | dct t _ => rw [hc] at rc; cases t <;> (obtain ⟨_, z, _⟩ := rc; rw [e] at z; cases z)
  -- from the base to what stands behind an adding
  have put_st : ∀ {al' : List Addr} {h' : Hs} {H' : Hp} {o : HO}, Stp al1 h1 H1 al' h' H' → Stp al1 h1 H1 al' h' (upd H' D o) := fun {al' h' H' o} st =>
    ⟨⟨fun a u nu e => by rw [upd_ne (fun z => by rw [z, hD] at e; cases e)]; exact st.k.fr a u nu e, st.k.un⟩, st.pre⟩
  refine ⟨fun i mm H => mm = ds.length - i ∧ i ≤ ds.length ∧ ∃ al' h' acc, RH X.K al' h' H ∧ Stp al1 h1 H1 al' h' H ∧ H D = some (SetL X.w D acc) ∧ acc.length ≤ i ∧ acc.length ≤ 1000 ∧
    Fin X.K X.mg (fun cls dd H' => W cls dd σ H') (RR X.K) al1 h1 H1 Q (((turnsS f tg ρw (ds.drop i) acc).bnd fin0) h'), ⟨ds.length, by simp, Nat.zero_le _, al1, h1, [], other_cell rh1 (fun hm => by
      obtain ⟨n, hn⟩ := List.getElem?_of_mem hm
      obtain ⟨u, e⟩ := rh1.al_there hn
      rw [hD] at e; cases e) (none_odd hD), put_st (Stp.refl _ _ _), upd_same, Nat.le_refl _, Nat.zero_le _, fin1⟩, ?_⟩
  rintro i mm H2 ⟨rfl, hi, al', h', acc, rh', st', hset, ha, ha2, fin3⟩
  by_cases hlt : i < ds.length
  · have hx : ds[i]? = some ds[i] := List.getElem?_eq_getElem hlt
    generalize ds[i] = x at hx
    have hdrop : ds.drop i = x :: ds.drop (i + 1) := by
      rw [List.drop_eq_getElem_cons hlt]
      rw [List.getElem?_eq_getElem hlt] at hx
      rw [Option.some.inj hx]
    rw [hdrop] at fin3
    unfold turnsS at fin3
    simp only [bnd_assoc] at fin3
    obtain ⟨ρ', eput, fin4⟩ := Fin.opt0 fin3
    obtain ⟨go, yl⟩ := (iw _ _ st'.k rh'.noU i).1 x hx
    refine .inr ⟨go, fun H => i + 1 ≤ ds.length ∧ ∃ al' h' acc, RH X.K al' h' H ∧ Stp al1 h1 H1 al' h' H ∧ H D = some (SetL X.w D acc) ∧ acc.length ≤ i + 1 ∧ acc.length ≤ 1000 ∧
      Fin X.K X.mg (fun cls dd H' => W cls dd σ H') (RR X.K) al1 h1 H1 Q (((turnsS f tg ρw (ds.drop (i + 1)) acc).bnd fin0) h'), fun H' p' => ⟨ds.length - (i + 1), by omega, rfl, p'⟩, fun xv H' y => ?_⟩
    obtain ⟨grow, rd⟩ := yl xv H' y
    have rhg := rh'.grow grow
    have stg := Stp.grow rh' grow
    have stb := st'.trans stg
    refine gT_ok tg (r := .d x) rd eput (rsb.stp stb) fun σ' rs' w => ⟨?_, ?_⟩
    · rw [w own ht, wipe_wipe]
    refine ⟨al', h', ρ', rhg, rs', ?_⟩
    have hset' : H' D = some (SetL X.w D acc) := grow D _ hset
    have fin6 : Fin X.K X.mg (fun cls dd H' => W cls dd σ H') (relO X.K) al' h' H' (fun (o : Option V) H3 => match o with
        | some v => AdI X.w v D H3 (fun H => i + 1 ≤ ds.length ∧ ∃ al' h' acc, RH X.K al' h' H ∧ Stp al1 h1 H1 al' h' H ∧ H D = some (SetL X.w D acc) ∧ acc.length ≤ i + 1 ∧ acc.length ≤ 1000 ∧
            Fin X.K X.mg (fun cls dd H' => W cls dd σ H') (RR X.K) al1 h1 H1 Q (((turnsS f tg ρw (ds.drop (i + 1)) acc).bnd fin0) h'))
        | none => i + 1 ≤ ds.length ∧ ∃ al' h' acc, RH X.K al' h' H3 ∧ Stp al1 h1 H1 al' h' H3 ∧ H3 D = some (SetL X.w D acc) ∧ acc.length ≤ i + 1 ∧ acc.length ≤ 1000 ∧
            Fin X.K X.mg (fun cls dd H' => W cls dd σ H') (RR X.K) al1 h1 H1 Q (((turnsS f tg ρw (ds.drop (i + 1)) acc).bnd fin0) h')) (f ρ' h') := by
      refine Fin.bnd0 fin4 stb fun o h3 al3 H3 v st3 rh3 rr3 fin7 => ?_
      have hset3 : H3 D = some (SetL X.w D acc) := st3.k.fr D _ (fun u => by
        obtain ⟨n, c, e1, _⟩ := u
        exact nal rhg hset' (List.mem_of_getElem? e1)) hset'
      cases o with
      | none =>
        cases v with
        | some _ => exact rr3.elim
        | none => exact ⟨hlt, al3, h3, acc, rh3, stb.trans st3, hset3, by omega, ha2, fin7⟩
      | some d =>
        cases v with
        | none => exact rr3.elim
        | some v =>
          cases d with
          | int c =>
            cases rr3
            dsimp only at fin7
            by_cases few : acc.length < 1000
            · rw [if_pos few] at fin7
              have sl : (stepD acc c).length ≤ acc.length + 1 := by
                unfold stepD
                split <;> simp
              exact ⟨c, acc, rfl, hset3, few, hlt, al3, h3, stepD acc c, other_cell rh3 (nal rh3 hset3) (setL_odd hset3), put_st (stb.trans st3), upd_same, by omega, by omega, fin7⟩
            · rw [if_neg few] at fin7
              exact fin7.elim
          | _ => exact fin7.elim
    subst hf
    have fin7 := Fin.ofNox (E' := fun cls dd H' => W0 cls dd σ' H') fin6
    refine Fin.boolOf fin7 fun b h3 al3 H3 st3 rh3 fin8 => ⟨b, rfl, ?_⟩
    cases b with
    | false =>
      refine iteF ?_
      exact Fin.ret (α := Option PyData) (r := none) (v := none) fin8 rh3 trivial
    | true =>
      refine iteT ⟨al3, h3, ρ', rh3, rs'.stp st3, Fin.bnd fin8 fun y h4 al4 H4 yv st4 rh4 rr4 fin9 => ?_⟩
      obtain ⟨dy, rfl, rdy, fin10⟩ := Fin.pur fin9 rr4
      exact Fin.ret (α := Option PyData) (r := some dy) (v := some yv) fin10 rh4 rdy
  · have e : i = ds.length := by omega
    subst e
    rw [List.drop_length] at fin3
    unfold turnsS at fin3
    have fin4 : Fin X.K X.mg (fun cls dd H' => W cls dd σ H') (RR X.K) al1 h1 H1 Q (fin0 acc h') := fin3
    rw [← hfin0] at fin4
    exact .inl ⟨(iw _ _ st'.k rh'.noU ds.length).2 (Nat.le_refl _), D, acc, rfl, hset, ha2, fin4 al' H2 (.int _) st' rh' (.int _)⟩
theorem lsc_ok (g : Gx T cal k X sc N) {own : List Nat} {elt it cond : E} {tg : Tg} {ptg pit pelt : Expr} {pifs : List Expr} {scope : Scope} {p pos pos' : Pos} (h1 : glB sc "len" = true) (hi : PI X ptg pit (tIt X W (itM cal it)))
    (hs : ∀ x, foldedSetIterable pit X.env x = pure x) (hb : blkC N sc scope (ownOf N own) = true) (ho : (ownOf N own).map (·.2) = own) (ht : ∀ i ∈ tgS tg, i ∈ own) (hg : chkT (fncOf scope) (relS scope sc) N tg ptg = true)
    (hc : ∀ (s : Shared) (H : Hp) (C : Addr) (cl : List (Str × Addr)) (fp : List Addr), PTs (X.blk s H scope (compEnvC scope cl C X.env) fp) pifs (tMb X W0 (ev cal cond)))
    (he : ∀ (s : Shared) (H : Hp) (C : Addr) (cl : List (Str × Addr)) (fp : List Addr), PE (X.blk s H scope (compEnvC scope cl C X.env) fp) pelt (tM X W0 (ev cal elt))) :
    PE X (.Call (.Name "len" p) [.SetComp pelt [⟨ptg, pit, pifs, 0⟩] scope pos'] [] pos) (tM X W (ev cal (.lsc own elt tg it cond))) := by
  have sc' := pe_sg (own := ownOf N own) (Z := fun D => SetL X.w D []) (Ad := AdI X.w) (tg := ptg) (g := gT X.K tg) (pos := pos') (fun H h => setL_new) (fun {Y pins σ H s y u D Nx Q E} e1 e2 I r ad fin => adI_run I r (by rw [e2]; exact ad) fin) g.calm (by rw [g.nN]; exact g.nd) hi (by rw [g.nN, g.sc]; exact blkOk_by hb)
    (fun s H C cl fp => chkT_ok (X := X.blk s H scope (compEnvC scope cl C X.env) fp) g.nN g.nd (show relS scope X.env.scope = _ by rw [g.sc]) g.calm (fun x hx => hx) hg) hc he hs
  refine PE.imp (pe_callB call_lenL (g.gl h1) (g.blt _ (by decide +kernel)) PySem.boot_len (pa_cons sc' pa_nil)) fun σ H Q h => ?_
  have q := lsc_go ht h
  rw [ho]
  exact q
end
end Cy


set_option Elab.async false
set_option linter.all false
set_option maxRecDepth 100000
set_option maxHeartbeats 8000000
/-! LSd: dict comprehensions, dicts looked up. -/
namespace Cy
open PySem PySem.Spec PyProof.Rows L2

theorem sameK_key {a b : D} {x y : Key} (ha : keyOf a = some x) (hb : keyOf b = some y) : sameK a b = decide (x = y) := by
  cases a with
  | int i =>
    cases ha
    cases b with
    | int j => cases hb; simp [sameK]
    | str z => cases hb; simp [sameK]
    | _ => cases hb
  | str w =>
    cases ha
    cases b with
    | int j => cases hb; simp [sameK]
    | str z => cases hb; simp [sameK]
    | _ => cases hb
  | _ => cases ha
theorem goK_flat : ∀ {xs : List D}, xs.all flatK = true → ∃ ks, keysOf.go xs = some ks
  | [], _ => ⟨[], rfl⟩
  | x :: xs, h => by
    rw [List.all_cons, Bool.and_eq_true] at h
    obtain ⟨ks, e⟩ := goK_flat h.2
    cases x with
    | int i => exact ⟨.inl i :: ks, by simp [keysOf.go, e]⟩
    | str z => exact ⟨.inr z :: ks, by simp [keysOf.go, e]⟩
    | _ => exact absurd h.1 (by simp [flatK])
theorem sameKs_keys : ∀ {as bs : List D} {xs ys : List Key}, keysOf.go as = some xs → keysOf.go bs = some ys → sameKs as bs = decide (xs = ys)
  | [], [], xs, ys, ha, hb => by
    cases ha
    cases hb
    simp [sameKs]
  | [], b :: bs, xs, ys, ha, hb => by
    cases ha
    cases ys with
    | nil =>
      cases b <;> simp [keysOf.go] at hb
    | cons y ys => simp [sameKs]
  | a :: as, [], xs, ys, ha, hb => by
    cases hb
    cases xs with
    | nil => cases a <;> simp [keysOf.go] at ha
    | cons x xs => simp [sameKs]
  | a :: as, b :: bs, xs, ys, ha, hb => by
    have one : ∀ {c : D} {cs : List D} {zs : List Key}, keysOf.go (c :: cs) = some zs → ∃ z zt, zs = z :: zt ∧ keyOf c = some z ∧ keysOf.go cs = some zt := fun {c cs zs} h => by
      cases c with
      | int i =>
        unfold keysOf.go at h
        cases q : keysOf.go cs with
        | none => rw [q] at h; cases h
        | some l => rw [q] at h; cases h; exact ⟨_, l, rfl, rfl, rfl⟩
      | str i =>
        unfold keysOf.go at h
        cases q : keysOf.go cs with
        | none => rw [q] at h; cases h
        | some l => rw [q] at h; cases h; exact ⟨_, l, rfl, rfl, rfl⟩
      | _ => simp [keysOf.go] at h
    obtain ⟨x, xt, rfl, h1, h2⟩ := one ha
    obtain ⟨y, yt, rfl, h3, h4⟩ := one hb
    unfold sameKs
    rw [sameK_key h1 h3, sameKs_keys h2 h4]
    by_cases p : x = y <;> by_cases q : xt = yt <;> simp [p, q]
theorem sameK_tup {a b : D} {x y : List Key} (ha : keysOf a = some x) (hb : keysOf b = some y) : sameK a b = decide (x = y) := by
  cases a with
  | tuple xs =>
    cases b with
    | tuple ys =>
      unfold sameK
      exact sameKs_keys ha hb
    | _ => cases hb
  | _ => cases ha
section
variable {κ : Type} [DecidableEq κ] {F : R → V → Prop} {kf : D → Option κ} (same : ∀ {a b : D} {x y : κ}, kf a = some x → kf b = some y → sameK a b = decide (x = y))
include same
theorem any_put {k : D} {key : κ} (hk : kf k = some key) : ∀ {kvs : List (D × R)} {vs : List (κ × V)}, Paired (fun (p : D × R) (q : κ × V) => kf p.1 = some q.1 ∧ F p.2 q.2) kvs vs → kvs.any (fun p => sameK p.1 k) = vs.any fun q => decide (q.1 = key)
  | _, _, .nil => rfl
  | _, _, .cons a t => by
    rw [List.any_cons, List.any_cons, any_put hk t, same a.1 hk]
theorem putK_rel {k : D} {key : κ} {r : R} {v : V} (hk : kf k = some key) (hr : F r v) {kvs : List (D × R)} {vs : List (κ × V)} (p : Paired (fun (p : D × R) (q : κ × V) => kf p.1 = some q.1 ∧ F p.2 q.2) kvs vs) :
    Paired (fun (p : D × R) (q : κ × V) => kf p.1 = some q.1 ∧ F p.2 q.2) (putK' kvs k r) (putK vs key v) := by
  unfold putK' putK
  rw [any_put same hk p]
  split
  · have go : ∀ {kvs : List (D × R)} {vs : List (κ × V)}, Paired (fun (p : D × R) (q : κ × V) => kf p.1 = some q.1 ∧ F p.2 q.2) kvs vs →
        Paired (fun (p : D × R) (q : κ × V) => kf p.1 = some q.1 ∧ F p.2 q.2) (kvs.map fun p => if sameK p.1 k then (p.1, r) else p) (vs.map fun kv => if kv.1 = key then (kv.1, v) else kv) := fun {kvs vs} p => by
      induction p with
      | nil => exact .nil
      | @cons a b l1 l2 h t ih =>
        refine .cons ?_ ih
        have e := same h.1 hk
        dsimp only
        by_cases q : b.1 = key
        · rw [if_pos q, e, decide_eq_true q]
          exact ⟨h.1, hr⟩
        · rw [if_neg q, e, decide_eq_false q]
          exact h
    exact go p
  · exact Paired.snoc p ⟨hk, hr⟩
theorem getK_rel {k : D} {key : κ} (hk : kf k = some key) : ∀ {kvs : List (D × R)} {vs : List (κ × V)}, Paired (fun (p : D × R) (q : κ × V) => kf p.1 = some q.1 ∧ F p.2 q.2) kvs vs → match getK k kvs with
    | none => valV vs key = none
    | some r => ∃ v, valV vs key = some v ∧ F r v
  | _, _, .nil => rfl
  | (a, ra) :: kvs, (b, vb) :: vs, .cons h t => by
    have ih := getK_rel hk t
    have e := same h.1 hk
    unfold getK
    by_cases q : b = key
    · rw [e, decide_eq_true q]
      exact ⟨vb, valV_pos q, h.2⟩
    · rw [e, decide_eq_false q]
      have e2 : valV ((b, vb) :: vs) key = valV vs key := valV_neg q
      rw [e2]
      exact ih
end
theorem keyB_f {k : D} (h : keyB false k = true) : ∃ key, keyOf k = some key := by
  cases k with
  | int i => exact ⟨_, rfl⟩
  | str x => exact ⟨_, rfl⟩
  | _ => simp [keyB, flatK] at h
theorem keyB_t {k : D} (h : keyB true k = true) : ∃ ks, keysOf k = some ks := by
  cases k with
  | tuple xs =>
    simp only [keyB, Bool.true_and] at h
    exact goK_flat h
  | _ => simp [keyB] at h
theorem RD.key {K : Fg} {U : Mu} {H : Hp} {k : D} {v : V} {key : Key} (r : RD K U H k v) (e : keyOf k = some key) : v = kV key := by
  cases k with
  | int i => cases e; cases r; rfl
  | str i => cases e; cases r; rfl
  | _ => cases e

section
variable {K : Fg} {mg : Str → Option Value} {E : XK} {al : List Addr} {h : Hs} {H : Hp} {Q : VK}
/-- an entry of a dict cell -/
theorem Fin.putD {α β : Type} {rel : List Addr → Mu → Hp → α → β → Prop} {Q : β → Hp → Prop} {n : Nat} {a : Addr} {k d : D} {v y : V} {g : Unit → M α} (f : Fin K mg E rel al h H Q (((putDM false n k d).bnd g) h)) (rh : RH K al h H) (ea : al[n]? = some a) (rd : RD K (UU al h) H d v) (rk : RD K (UU al h) H k y) :
    ∃ vs key h', y = kV key ∧ H a = some (.dK vs) ∧ vs.length < sizeLine ∧ Stp al h H al h' (upd H a (.dK (putK vs key v))) ∧ RH K al h' (upd H a (.dK (putK vs key v))) ∧ Fin K mg E rel al h' (upd H a (.dK (putK vs key v))) Q (g () h') := by
  have e : ((putDM false n k d).bnd g) h = match putDC false n k d h h[n]? with
    | .ok r h1 => g r h1
    | .ex x h1 => .ex x h1
    | .bad => .bad := by
    unfold M.bnd putDM hget
    cases putDC false n k d h h[n]? <;> rfl
  rw [e] at f
  cases q : h[n]? with
  | none => rw [q] at f; exact f.elim
  | some c =>
    rw [q] at f
    cases c with
    | lst _ => exact f.elim
    | fz _ => exact f.elim
    | dct t kvs =>
      unfold putDC at f
      by_cases hz : t = false ∧ keyB false k = true ∧ kvs.length < lim
      · simp only [if_pos hz] at f
        obtain ⟨ht, hkb, lt⟩ := hz
        subst ht
        obtain ⟨vs, eh, pr⟩ := rh.at_ n _ a q ea
        obtain ⟨key, hk⟩ := keyB_f hkb
        have hl : kvs.length = vs.length := Paired.length pr
        rw [lim_eq, hl] at lt
        obtain ⟨st, rh'⟩ := set_cell (c' := .dct false (putK' kvs k (.d d))) (o := .dK (putK vs key v)) rh q ea rfl rfl fun st => ⟨_, upd_same, putK_rel (F := RR K al (UU al (h.set n (.dct false (putK' kvs k (.d d))))) (upd H a (.dK (putK vs key v)))) sameK_key hk (RR.stp (r := .d d) st rd) (Paired.mapP pr fun p q z => ⟨z.1, RR.stp st z.2⟩)⟩
        exact ⟨vs, key, _, RD.key rk hk, eh, lt, st, rh', Fin.shift f st⟩
      · simp only [if_neg hz] at f
        exact f.elim
end
section
variable {T : Tb} {cal : Cal} {k : Nat} {X : Cx} {sc : Scope} {N : List Str} {W : WX}
def relP (K : Fg) : List Addr → Mu → Hp → Option (D × D) → Option (V × V) → Prop := fun _ U H o v =>
  match o, v with
  | some p, some q => RD K U H p.1 q.1 ∧ RD K U H p.2 q.2
  | none, none => True
  | _, _ => False
theorem dcm_go {own : List Nat} {kx vx it cond : E} {tg : Tg} (ht : ∀ i ∈ tgS tg, i ∈ own) {σ : Sg} {H : Hp} {Q : VK} (h : tM X W (ev cal (.dcm own kx vx tg it cond)) σ H Q) :
    tDc (tIt X W (itM cal it)) (gT X.K tg) (tMb X W0 (ev cal cond)) (tM X W0 (ev cal kx)) (tM X W0 (ev cal vx)) own σ H Q := by
  obtain ⟨al, hh, ρ, rh, rs, fin⟩ := h
  unfold ev at fin
  generalize hf : (fun ρ' => M.nox (((ev cal cond ρ').bnd boolOf).bnd fun b =>
      match b with
      | true => (ev cal kx ρ').bnd fun y => (ev cal vx ρ').bnd fun z => (pur y).bnd fun dy => (pur z).bnd fun dz => M.ret (some (dy, dz))
      | false => M.ret none)) = f at fin
  have e1 : ((ev cal it ρ).bnd fun x => (pur x).bnd fun d => (M.opt (seqD d)).bnd fun ds => compK f tg (Cy.wipe ρ own) ds) = (itM cal it ρ).bnd fun ds => compK f tg (Cy.wipe ρ own) ds := by
    unfold itM
    simp only [bnd_assoc]
  rw [e1] at fin
  refine ⟨al, hh, ρ, rh, rs, Fin.bnd fin fun ds h1 al1 H1 J st1 rh1 iw fin1 => ?_⟩
  intro D hD
  obtain ⟨st2, rh2⟩ := new_cell (c := .dct false []) (o := .dK []) rh1 hD rfl ⟨[], upd_same, .nil⟩
  have fin2 : Fin X.K X.mg (fun cls dd H' => W cls dd σ H') (RR X.K) (al1 ++ [D]) (h1 ++ [.dct false []]) (upd H1 D (.dK [])) Q
      (((turnsK f tg (Cy.wipe ρ own) h1.length ds).bnd fun _ => M.ret (.ref h1.length)) (h1 ++ [.dct false []])) := Fin.shift (o := _) fin1 st2
  have hpos : (al1 ++ [D])[h1.length]? = some D := by rw [← rh1.len]; simp
  have iwb := iw.keep st2.k
  have rsb := ((rs.stp st1).stp st2).wipe own
  generalize al1 ++ [D] = alb at *
  generalize h1 ++ [Cell.dct false []] = hb at *
  generalize upd H1 D (.dK []) = Hb at *
  generalize hn : h1.length = n at *
  generalize hg : (fun (_ : Unit) => M.ret (R.ref n)) = fin0 at fin2
  generalize hρ : Cy.wipe ρ own = ρw at *
  refine ⟨fun i mm H => mm = ds.length - i ∧ i ≤ ds.length ∧ ∃ al' h', RH X.K al' h' H ∧ Stp alb hb Hb al' h' H ∧
    Fin X.K X.mg (fun cls dd H' => W cls dd σ H') (RR X.K) al' h' H Q (((turnsK f tg ρw n (ds.drop i)).bnd fin0) h'), ⟨ds.length, by simp, Nat.zero_le _, alb, hb, rh2, Stp.refl _ _ _, fin2⟩, ?_⟩
  rintro i mm H2 ⟨rfl, hi, al', h', rh', st', fin3⟩
  by_cases hlt : i < ds.length
  · have hx : ds[i]? = some ds[i] := List.getElem?_eq_getElem hlt
    generalize ds[i] = x at hx
    have hdrop : ds.drop i = x :: ds.drop (i + 1) := by
      rw [List.drop_eq_getElem_cons hlt]
      rw [List.getElem?_eq_getElem hlt] at hx
      rw [Option.some.inj hx]
    rw [hdrop] at fin3
    unfold turnsK at fin3
    simp only [bnd_assoc] at fin3
    obtain ⟨ρ', eput, fin4⟩ := Fin.opt fin3
    obtain ⟨go, yl⟩ := (iwb _ _ st'.k rh'.noU i).1 x hx
    refine .inr ⟨go, fun H => i + 1 ≤ ds.length ∧ ∃ al' h', RH X.K al' h' H ∧ Stp alb hb Hb al' h' H ∧
      Fin X.K X.mg (fun cls dd H' => W cls dd σ H') (RR X.K) al' h' H Q (((turnsK f tg ρw n (ds.drop (i + 1))).bnd fin0) h'), fun H' p' => ⟨ds.length - (i + 1), by omega, rfl, p'⟩, fun xv H' y => ?_⟩
    obtain ⟨grow, rd⟩ := yl xv H' y
    have rhg := rh'.grow grow
    have stg := Stp.grow rh' grow
    refine gT_ok tg (r := .d x) rd eput (rsb.stp (st'.trans stg)) fun σ' rs' w => ⟨?_, ?_⟩
    · rw [w own ht, wipe_wipe]
    refine ⟨al', h', ρ', rhg, rs', ?_⟩
    have fin5 := Fin.shift fin4 stg
    have fin6 : Fin X.K X.mg (fun cls dd H' => W cls dd σ H') (relP X.K) al' h' H' (fun (o : Option (V × V)) H3 => match o with
        | some (y, z) => ∃ kvs key, y = kV key ∧ H3 D = some (.dK kvs) ∧ kvs.length < sizeLine ∧ (i + 1 ≤ ds.length ∧ ∃ al' h', RH X.K al' h' (upd H3 D (.dK (putK kvs key z))) ∧ Stp alb hb Hb al' h' (upd H3 D (.dK (putK kvs key z))) ∧
            Fin X.K X.mg (fun cls dd H' => W cls dd σ H') (RR X.K) al' h' (upd H3 D (.dK (putK kvs key z))) Q (((turnsK f tg ρw n (ds.drop (i + 1))).bnd fin0) h'))
        | none => i + 1 ≤ ds.length ∧ ∃ al' h', RH X.K al' h' H3 ∧ Stp alb hb Hb al' h' H3 ∧
            Fin X.K X.mg (fun cls dd H' => W cls dd σ H') (RR X.K) al' h' H3 Q (((turnsK f tg ρw n (ds.drop (i + 1))).bnd fin0) h')) (f ρ' h') := by
      refine Fin.bnd fin5 fun o h3 al3 H3 v st3 rh3 rr3 fin7 => ?_
      have stb := (st'.trans stg).trans st3
      cases o with
      | none =>
        cases v with
        | some _ => exact rr3.elim
        | none => exact ⟨hlt, al3, h3, rh3, stb, fin7⟩
      | some p =>
        cases v with
        | none => exact rr3.elim
        | some q =>
          obtain ⟨dk, dv⟩ := p
          obtain ⟨y, z⟩ := q
          have ea : al3[n]? = some D := stb.pre n D hpos
          obtain ⟨vs, key, h4, ey, eh, hz, st4, rh4, fin8⟩ := Fin.putD fin7 rh3 ea rr3.2 rr3.1
          exact ⟨vs, key, ey, eh, hz, hlt, al3, h4, rh4, stb.trans st4, fin8⟩
    subst hf
    have fin7 := Fin.ofNox (E' := fun cls dd H' => W0 cls dd σ' H') fin6
    refine Fin.boolOf fin7 fun b h3 al3 H3 st3 rh3 fin8 => ⟨b, rfl, ?_⟩
    cases b with
    | false =>
      refine iteF ?_
      exact Fin.ret (α := Option (PyData × PyData)) (r := none) (v := none) fin8 rh3 trivial
    | true =>
      refine iteT ⟨al3, h3, ρ', rh3, rs'.stp st3, Fin.bnd fin8 fun y h4 al4 H4 yv st4 rh4 rr4 fin9 => ⟨al4, h4, ρ', rh4, (rs'.stp st3).stp st4, Fin.bnd fin9 fun z h5 al5 H5 zv st5 rh5 rr5 fin10 => ?_⟩⟩
      obtain ⟨dy, rfl, rdy, fin11⟩ := Fin.pur fin10 (rr4.stp st5)
      obtain ⟨dz, rfl, rdz, fin12⟩ := Fin.pur fin11 rr5
      obtain ⟨kvs, key, e2, e3, e4, e5⟩ := Fin.ret (α := Option (PyData × PyData)) (r := some (dy, dz)) (v := some (yv, zv)) fin12 rh5 ⟨rdy, rdz⟩
      exact ⟨kvs, key, e2, e3, e4, e5⟩
  · have e : i = ds.length := by omega
    subst e
    rw [List.drop_length] at fin3
    unfold turnsK at fin3
    have fin4 : Fin X.K X.mg (fun cls dd H' => W cls dd σ H') (RR X.K) al' h' H2 Q (fin0 () h') := fin3
    rw [← hg] at fin4
    have ea : al'[n]? = some D := st'.pre n D hpos
    exact .inl ⟨(iwb _ _ st'.k rh'.noU ds.length).2 (Nat.le_refl _), Fin.ret (α := R) (r := .ref n) fin4 rh' ⟨D, ea, rfl⟩⟩
theorem dcm_ok (g : Gx T cal k X sc N) {own : List Nat} {kx vx it cond : E} {tg : Tg} {ptg pit pk pv : Expr} {pifs : List Expr} {scope : Scope} {pos : Pos} (hi : PI X ptg pit (tIt X W (itM cal it)))
    (hs : ∀ x, foldedSetIterable pit X.env x = pure x) (hb : blkC N sc scope (ownOf N own) = true) (ho : (ownOf N own).map (·.2) = own) (ht : ∀ i ∈ tgS tg, i ∈ own) (hg : chkT (fncOf scope) (relS scope sc) N tg ptg = true)
    (hc : ∀ (s : Shared) (H : Hp) (C : Addr) (cl : List (Str × Addr)) (fp : List Addr), PTs (X.blk s H scope (compEnvC scope cl C X.env) fp) pifs (tMb X W0 (ev cal cond)))
    (hk : ∀ (s : Shared) (H : Hp) (C : Addr) (cl : List (Str × Addr)) (fp : List Addr), PE (X.blk s H scope (compEnvC scope cl C X.env) fp) pk (tM X W0 (ev cal kx)))
    (hv : ∀ (s : Shared) (H : Hp) (C : Addr) (cl : List (Str × Addr)) (fp : List Addr), PE (X.blk s H scope (compEnvC scope cl C X.env) fp) pv (tM X W0 (ev cal vx))) :
    PE X (.DictComp pk pv [⟨ptg, pit, pifs, 0⟩] scope pos) (tM X W (ev cal (.dcm own kx vx tg it cond))) := by
  refine PE.imp (pe_dc (own := ownOf N own) (g := gT X.K tg) g.calm (by rw [g.nN]; exact g.nd) hi (by rw [g.nN, g.sc]; exact blkOk_by hb) (fun s H C cl fp => ?_) hc hk hv hs) fun σ H Q h => by rw [ho]; exact dcm_go ht h
  exact chkT_ok (X := X.blk s H scope (compEnvC scope cl C X.env) fp) g.nN g.nd (show relS scope X.env.scope = _ by rw [g.sc]) g.calm (fun x hx => hx) hg
theorem Fin.dctOf {α β : Type} {K : Fg} {mg : Str → Option Value} {E : XK} {rel : List Addr → Mu → Hp → α → β → Prop} {al : List Addr} {h : Hs} {H : Hp} {Q : β → Hp → Prop} {r : R} {v : V} {g : Bool × List (D × R) → M α} (f : Fin K mg E rel al h H Q (((Cy.dctOf r).bnd g) h)) (rh : RH K al h H) (rr : RR K al (UU al h) H r v) :
    ∃ t kvs a, v = .ref a ∧ RC K al (UU al h) H (.dct t kvs) a ∧ Fin K mg E rel al h H Q (g (t, kvs) h) := by
  cases r with
  | d _ => exact f.elim
  | ref n =>
    obtain ⟨a, ea, rfl⟩ := rr
    have e : ((Cy.dctOf (.ref n)).bnd g) h = match dctC h h[n]? with
      | .ok r h1 => g r h1
      | .ex x h1 => .ex x h1
      | .bad => .bad := by
      unfold M.bnd Cy.dctOf hget
      dsimp only
      cases dctC h h[n]? <;> rfl
    rw [e] at f
    cases q : h[n]? with
    | none => rw [q] at f; exact f.elim
    | some c =>
      rw [q] at f
      cases c with
      | lst _ => exact f.elim
      | fz _ => exact f.elim
      | dct t kvs => exact ⟨t, kvs, a, rfl, rh.at_ n _ a q ea, f⟩
theorem ind_ok (g : Gx T cal k X sc N) {neg : Bool} {a d : E} {pa pd : Expr} {pos : Pos} (hn : notSet pd = true) (ha : PE X pa (tM X W (ev cal a))) (hd : PE X pd (tM X W (ev cal d))) :
    PE X (.Compare pa [if neg then CmpOp.NotIn else CmpOp.In] [pd] pos) (tM X W (ev cal (.ind neg a d))) ∧ PT X (.Compare pa [if neg then CmpOp.NotIn else CmpOp.In] [pd] pos) (tMb X W (ev cal (.ind neg a d))) := by
  have go : ∀ σ H Q, tM X W (ev cal (.ind neg a d)) σ H Q → tM X W (ev cal a) σ H fun y H1 => tM X W (ev cal d) σ H1 fun x H2 => ∃ b o, x = .ref b ∧ DGet H2 b y o ∧ Q (.bl (if neg then !o.isSome else o.isSome)) H2 := fun σ H Q ⟨al, hh, ρ, rh, rs, fin⟩ => by
    unfold ev at fin
    refine ⟨al, hh, ρ, rh, rs, Fin.bnd fin fun r1 h1 al1 H1 v1 st1 rh1 rr1 fin1 => ⟨al1, h1, ρ, rh1, rs.stp st1, Fin.bnd fin1 fun r2 h2 al2 H2 v2 st2 rh2 rr2 fin2 => ?_⟩⟩
    obtain ⟨kd, rfl, rk, fin3⟩ := Fin.pur fin2 (rr1.stp st2)
    obtain ⟨t, kvs, b, rfl, rc, fin4⟩ := Fin.dctOf fin3 rh2 rr2
    dsimp only at fin4
    split at fin4
    · rename_i hk
      rw [Bool.and_eq_true] at hk
      cases t with
      | true => exact absurd hk.1 (by simp)
      | false =>
        obtain ⟨key, ek⟩ := keyB_f hk.2
        obtain ⟨vs, eh, pr⟩ := rc
        have q := getK_rel (F := RR X.K al2 (UU al2 h2) H2) sameK_key ek pr
        have fin5 := Fin.ret (α := R) (r := .d (.bool _)) fin4 rh2 (.bl _)
        have e : (getK kd kvs).isSome = (valV vs key).isSome := by
          cases z : getK kd kvs with
          | none => rw [z] at q; rw [show valV vs key = none from q]; rfl
          | some r => rw [z] at q; obtain ⟨w, e, _⟩ := q; rw [e]; rfl
        rw [e] at fin5
        exact ⟨b, valV vs key, rfl, by rw [RD.key rk ek]; exact DGet.k eh, fin5⟩
    · exact fin4.elim
  have hu : X.A.units + 1 < cLine := by have := g.u65; omega
  cases neg with
  | false => exact ⟨PE.imp (pe_cmp (pc_din hu ha hd) (set_no hn)) go, PT.imp (pt_cmp (pc_din hu ha hd) (set_no hn)) fun σ H Q h => go σ H _ h⟩
  | true => exact ⟨PE.imp (pe_cmp (pc_dnotin hu ha hd) (set_no hn)) go, PT.imp (pt_cmp (pc_dnotin hu ha hd) (set_no hn)) fun σ H Q h => go σ H _ h⟩
theorem ixd_ok (g : Gx T cal k X sc N) {d a : E} {pd pa : Expr} {pos : Pos} (hn : notSlice pa = true) (hd : PE X pd (tM X W (ev cal d))) (ha : PE X pa (tM X W (ev cal a))) : PE X (.Subscript pd pa pos) (tM X W (ev cal (.ixd d a))) := by
  have hu : X.A.units + 1 < cLine := by have := g.u65; omega
  refine PE.imp (pe_dget hu hd ha (ix_plain hn)) fun σ H Q ⟨al, hh, ρ, rh, rs, fin⟩ => ?_
  unfold ev at fin
  refine ⟨al, hh, ρ, rh, rs, Fin.bnd fin fun r1 h1 al1 H1 v1 st1 rh1 rr1 fin1 => ⟨al1, h1, ρ, rh1, rs.stp st1, Fin.bnd fin1 fun r2 h2 al2 H2 v2 st2 rh2 rr2 fin2 => ?_⟩⟩
  obtain ⟨kd, rfl, rk, fin3⟩ := Fin.pur fin2 rr2
  obtain ⟨t, kvs, b, rfl, rc, fin4⟩ := Fin.dctOf fin3 rh2 (rr1.stp st2)
  dsimp only at fin4
  split at fin4
  · rename_i hk
    rw [Bool.and_eq_true] at hk
    cases t with
    | true => exact absurd hk.1 (by simp)
    | false =>
      obtain ⟨key, ek⟩ := keyB_f hk.2
      obtain ⟨vs, eh, pr⟩ := rc
      have q := getK_rel (F := RR X.K al2 (UU al2 h2) H2) sameK_key ek pr
      obtain ⟨r, er, fin5⟩ := Fin.opt fin4
      rw [er] at q
      obtain ⟨w, ew, rw'⟩ := q
      obtain ⟨dd, rfl, rdd, fin6⟩ := Fin.pur fin5 rw'
      exact ⟨b, w, rfl, by rw [RD.key rk ek, ← ew]; exact DGet.k eh, Fin.ret (α := R) (r := .d dd) fin6 rh2 rdd⟩
  · exact fin4.elim
theorem tab_look {fnm : Nat → Option Str} {z : Str} {f : Nat} : ∀ {tab : List (Str × Nat)} {ps : List (Str × Str)}, tabB fnm tab ps = true → lookF z tab = some f → ∃ nm, lookS z ps = some nm ∧ fnm f = some nm
  | [], [], _, e => by cases e
  | [], _ :: _, h, _ => by simp [tabB] at h
  | (x, i) :: tab, [], h, _ => by simp [tabB] at h
  | (x, i) :: tab, (y, n) :: ps, h, e => by
    unfold tabB at h
    simp only [Bool.and_eq_true, decide_eq_true_eq] at h
    obtain ⟨⟨h1, h2⟩, h3⟩ := h
    subst h1
    unfold lookF at e
    unfold lookS
    split at e
    · rename_i q
      cases e
      rw [if_pos q]
      exact ⟨n, rfl, h2⟩
    · rename_i q
      rw [if_neg q]
      exact tab_look h3 e
theorem fcal_ok (g : Gx T cal k X sc N) (tk : Takes X W) {n : Nat} {tab : List (Str × Nat)} {a : E} {es : List E} {x : Str} {pa pe : Expr} {pes : List Expr} {p q pos : Pos} (h1 : (T.fnt.any fun p => decide (p.1 = n) && decide (p.2.1 = x) && tabB T.fnm tab p.2.2) = true) (h2 : glB sc x = true) (h3 : okN x = true)
    (hn : notSlice pa = true) (hs : (pe :: pes).all notStar = true) (ha : PE X pa (tM X W (ev cal a))) (pas : PA X (pe :: pes) (tMs X W (evs cal es))) : PE X (.Call (.Subscript (.Name x p) pa q) (pe :: pes) [] pos) (tM X W (ev cal (.fcal n tab a es))) := by
  obtain ⟨n1, n2, n3⟩ := okN_ok h3
  rw [List.all_cons, Bool.and_eq_true] at hs
  obtain ⟨t, ht, qt⟩ := List.any_eq_true.mp h1
  simp only [Bool.and_eq_true, decide_eq_true_eq] at qt
  obtain ⟨⟨_, t2⟩, t3⟩ := qt
  obtain ⟨d, ent, m, hm, kd, fd⟩ := g.ftabs t ht
  rw [t2] at hm
  have pn : PE X (.Name x p) (tC (.ref d)) := pe_glob (g.gl h2) hm rfl n1
  refine ⟨fun pins s σ H Q I h => ?_⟩
  obtain ⟨al, hh, ρ, rh, rs, fin⟩ := h
  unfold ev at fin
  refine Call_ ?_
  refine thn ((pe_ix ix_kdict pn ha (ix_plain hn)).run pins s σ H (fun v H1 => ∃ (f : Nat) (nm : Str) (b : Addr), T.fnm f = some nm ∧ X.mg nm = some (.ref b) ∧ v = .ref b ∧ ∃ al hh ρ, RH X.K al hh H1 ∧ RS X.K al (UU al hh) H1 ρ σ ∧
    Fin X.K X.mg (fun cls dd H' => W cls dd σ H') (RR X.K) al hh H1 Q (((evs cal es ρ).bnd fun rs => cal f rs) hh)) I ?_) fun u s1 ⟨v, H1, I1, r1, f, nm, b, e1, e2, e3, al1, hh1, ρ1, rh1, rs1, fin1⟩ => ?_
  · refine ⟨al, hh, ρ, rh, rs, Fin.bnd fin fun r1 h1 al1 H1 v1 st1 rh1 rr1 fin1 => ?_⟩
    obtain ⟨y, rfl, rd, fin2⟩ := Fin.pur fin1 rr1
    cases y with
    | str z =>
      cases rd
      obtain ⟨f, ef, fin3⟩ := Fin.opt fin2
      obtain ⟨nm, l1, l2⟩ := tab_look t3 ef
      obtain ⟨b, e2, e3⟩ := fd z nm l1
      exact ⟨d, z, .ref b, rfl, rfl, ⟨ent, m, .ref b, kd.at_, kd.lit, e2, rfl⟩, f, nm, b, l2, e3, rfl, al1, h1, ρ, rh1, rs.stp st1, fin3⟩
    | _ => exact fin2.elim
  · subst e3
    cases r1
    obtain ⟨b', fdd, ps, hm', hk, hb, F⟩ := g.calls f nm e1
    rw [e2] at hm'
    cases hm'
    refine PySem.W.callWith_K (h₀ := X.base) I1.ok.mod.kin hk (thn (pas.run pos pins s1 σ H1 (fun vs H1 => spM X.K X.mg cal f vs H1 Q (WE W σ)) I1 ⟨al1, hh1, ρ1, rh1, rs1, ?_⟩) fun us s2 ⟨vs, H2, I2, r, q⟩ => ⟨I2.kIn, ?_⟩) (star_cons hs.1) (star_any hs.2)
    · exact Fin.bnd fin1 fun r1 h1 al1 H1 v1 st1 rh1 rr1 fin2 => ⟨al1, h1, r1, rh1, rr1, fin2⟩
    · exact run_fnG F g.room g.gd hb (passAt tk σ) I2 r q
theorem rg_rds {K : Fg} {U : Mu} {H : Hp} : ∀ (n : Nat) (lo : Int), RDs K U H (rangeD lo n) ((List.range n).map fun i => V.int (lo + (i : Nat)))
  | 0, _ => .nil
  | n + 1, lo => by
    have ih := rg_rds (K := K) (U := U) (H := H) n (lo + 1)
    rw [List.range_succ_eq_map, List.map_cons, List.map_map]
    have e : ((fun i : Nat => V.int (lo + (i : Int))) ∘ Nat.succ) = fun i : Nat => V.int (lo + 1 + (i : Int)) := by
      funext i
      show V.int (lo + ((i + 1 : Nat) : Int)) = _
      congr 1
      omega
    rw [e]
    have e0 : lo + ((0 : Nat) : Int) = lo := by omega
    rw [e0]
    exact .cons (.int lo) ih
theorem lrg_ok (g : Gx T cal k X sc N) {m : Bool} {a : E} {pa : Expr} {p p2 q pos : Pos} (h1 : glB sc "list" = true) (h2 : glB sc "range" = true) (hs : notStar pa = true) (ha : PE X pa (tM X W (ev cal a))) :
    PE X (.Call (.Name "list" p) [.Call (.Name "range" p2) [pa] [] q] [] pos) (tM X W (ev cal (.lrg m a))) := by
  refine PE.imp (pe_listRg g.calm (g.gl h1) (g.blt _ (by decide +kernel)) (prg_1 (g.gl h2) (g.blt _ (by decide +kernel)) ha (star_cons hs))) fun σ H Q ⟨al, hh, ρ, rh, rs, fin⟩ => ?_
  unfold ev at fin
  refine ⟨al, hh, ρ, rh, rs, Fin.bnd fin fun r1 h1 al1 H1 v1 st1 rh1 rr1 fin1 => ?_⟩
  obtain ⟨d, rfl, rd, fin2⟩ := Fin.pur fin1 rr1
  cases d with
  | int j =>
    cases rd
    dsimp only at fin2
    split at fin2
    · rename_i hj
      refine ⟨j, rfl, RgOk.of_le (by decide) (by omega) (by decide) hj.1, fun b nb => ?_⟩
      have e : (j - 0).toNat = j.toNat := by omega
      have r := rg_rds (K := X.K) (U := UU al1 h1) (H := H1) j.toNat 0
      have lv : ((List.range j.toNat).map fun i => V.int (0 + (i : Nat))).length ≤ sizeLine := by
        rw [List.length_map, List.length_range, sizeLine_eq]
        omega
      unfold rgV
      rw [e]
      exact Fin.lay fin2 rh1 b _ nb r lv
    · exact fin2.elim
  | _ => exact fin2.elim
end
end Cy


set_option Elab.async false
set_option linter.all false
set_option maxRecDepth 100000
set_option maxHeartbeats 8000000
/-! L3i: the check speaks for all expressions. -/
namespace Cy
open PySem PySem.Spec PyProof.Rows L2

theorem nil_no {e : E} (h : (!(isNil e)) = true) : isNil e = false := by simpa using h
theorem yes_eq {e : E} (h : isYes e = true) : e = .lit (.bool true) := by
  unfold isYes at h
  split at h
  · rfl
  · cases h
theorem nil_eq {e : E} (h : isNil e = true) : e = .nil := by
  unfold isNil at h
  split at h
  · rfl
  · cases h
def isBo : Expr → Bool
  | .BoolOp .. => true
  | _ => false
theorem no_bo {e : Expr} (h : isBo e = true) : ¬ plainT e = true := by
  cases e <;> first | (intro z; cases z; done) | cases h
theorem mth_one {T : Tb} {cal : Cal} {sc : Scope} {N : List Str} {es : List E} {pe : Expr} (h : chks T sc N es [pe] = true) : ∃ e, es = [e] ∧ notStar pe = true ∧ chk T sc N e pe = true := by
  cases es with
  | nil => simp [chks] at h
  | cons e es =>
    unfold chks at h
    cases es with
    | nil =>
      simp only [Bool.and_eq_true] at h
      exact ⟨e, rfl, h.1.1, h.1.2⟩
    | cons _ _ => simp [chks] at h

section
variable {T : Tb} {cal : Cal} {k : Nat} {N : List Str}
mutual
theorem pe_ok : ∀ (e : E) {X : Cx} {sc : Scope} {W : WX}, Gx T cal k X sc N → Takes X W → ∀ {pe : Expr}, chk T sc N e pe = true → PE X pe (tM X W (ev cal e))
  | .lit d, X, sc, W, g, tk, pe, h => by
    unfold chk chkM at h
    try dsimp only at h
    split at h
    · exact lit_ok h
    · cases h
  | .v i, X, sc, W, g, tk, pe, h => by
    unfold chk chkM at h
    try dsimp only at h
    split at h
    · simp only [Bool.and_eq_true, decide_eq_true_eq] at h
      exact v_ok g h.1.1 h.1.2 h.2
    · cases h
  | .fz i, X, sc, W, g, tk, pe, h => by
    unfold chk chkM at h
    try dsimp only at h
    split at h
    · simp only [Bool.and_eq_true, decide_eq_true_eq] at h
      exact fz_ok g h.1.1 h.1.2 h.2
    · cases h
  | .gl n d, X, sc, W, g, tk, pe, h => by
    unfold chk chkM at h
    try dsimp only at h
    split at h
    · rw [Bool.and_eq_true, Bool.and_eq_true] at h
      exact gl_ok g h.1.1 h.1.2 h.2
    · cases h
  | .ing neg a n kvs, X, sc, W, g, tk, pe, h => by
    unfold chk chkM at h
    try dsimp only at h
    split at h
    · rw [Bool.and_eq_true, Bool.and_eq_true, Bool.and_eq_true, Bool.and_eq_true, decide_eq_true_eq] at h
      obtain ⟨⟨⟨⟨rfl, h1⟩, h2⟩, h3⟩, h4⟩ := h
      exact (ing_ok g h1 h2 h3 (pe_ok a g tk h4)).1
    · cases h
  | .ixg n kvs a, X, sc, W, g, tk, pe, h => by
    unfold chk chkM at h
    try dsimp only at h
    split at h
    · rw [Bool.and_eq_true, Bool.and_eq_true, Bool.and_eq_true, Bool.and_eq_true] at h
      obtain ⟨⟨⟨⟨h1, h2⟩, h3⟩, h4⟩, h5⟩ := h
      exact ixg_ok g h1 h2 h3 h4 (pe_ok a g tk h5)
    · cases h
  | .tup es, X, sc, W, g, tk, pe, h => by
    unfold chk chkM at h
    try dsimp only at h
    split at h
    · exact tup_ok (pas_ok es g tk h)
    · cases h
  | .lst m es, X, sc, W, g, tk, pe, h => by
    unfold chk chkM at h
    try dsimp only at h
    split at h
    · exact lst_ok (pas_ok es g tk h)
    · cases h
  | .dnew t, X, sc, W, g, tk, pe, h => by
    unfold chk chkM at h
    try dsimp only at h
    split at h
    · exact dnew_ok
    · cases h
  | .bin m op a b, X, sc, W, g, tk, pe, h => by
    unfold chk chkM at h
    try dsimp only at h
    split at h
    · simp only [Bool.and_eq_true, decide_eq_true_eq] at h
      obtain ⟨⟨rfl, h1⟩, h2⟩ := h
      exact bin_ok g (pe_ok a g tk h1) (pe_ok b g tk h2)
    · cases h
  | .neg a, X, sc, W, g, tk, pe, h => by
    unfold chk chkM at h
    try dsimp only at h
    split at h
    · exact neg_ok (pe_ok a g tk h)
    · cases h
  | .cmp op a b, X, sc, W, g, tk, pe, h => by
    unfold chk chkM at h
    try dsimp only at h
    split at h
    · simp only [Bool.and_eq_true, decide_eq_true_eq] at h
      obtain ⟨⟨⟨rfl, h1⟩, h2⟩, h3⟩ := h
      exact (cmp_ok g h1 (pe_ok a g tk h2) (pe_ok b g tk h3)).1
    · cases h
  | .chn o1 o2 a b c, X, sc, W, g, tk, pe, h => by
    unfold chk chkM at h
    try dsimp only at h
    split at h
    · simp only [Bool.and_eq_true, decide_eq_true_eq] at h
      obtain ⟨⟨⟨⟨⟨rfl, rfl⟩, h1⟩, h2⟩, h3⟩, h4⟩ := h
      exact (chn_ok g h1 (pe_ok a g tk h2) (pe_ok b g tk h3) (pe_ok c g tk h4)).1
    · cases h
  | .chn3 o1 o2 o3 a b c d, X, sc, W, g, tk, pe, h => by
    unfold chk chkM at h
    try dsimp only at h
    split at h
    · simp only [Bool.and_eq_true, decide_eq_true_eq] at h
      obtain ⟨⟨⟨⟨⟨⟨⟨rfl, rfl⟩, rfl⟩, h1⟩, h2⟩, h3⟩, h4⟩, h5⟩ := h
      exact chn3_ok g h1 (pe_ok a g tk h2) (pe_ok b g tk h3) (pe_ok c g tk h4) (pe_ok d g tk h5)
    · cases h
  | .and a b, X, sc, W, g, tk, pe, h => by
    unfold chk chkM at h
    try dsimp only at h
    split at h
    · rw [Bool.and_eq_true] at h
      obtain ⟨h1, h2⟩ := h
      split at h2
      · exact and_ok (pe_ok a g tk h1) (pe_one (pe_ok b g tk h2))
      · exact and_ok (pe_ok a g tk h1) (pe_ok b g tk h2)
    · cases h
  | .or a b, X, sc, W, g, tk, pe, h => by
    unfold chk chkM at h
    try dsimp only at h
    split at h
    · rw [Bool.and_eq_true] at h
      obtain ⟨h1, h2⟩ := h
      split at h2
      · exact or_ok (pe_ok a g tk h1) (pe_one (pe_ok b g tk h2))
      · exact or_ok (pe_ok a g tk h1) (pe_ok b g tk h2)
    · cases h
  | .not a, X, sc, W, g, tk, pe, h => by
    unfold chk chkM at h
    try dsimp only at h
    split at h
    · exact not_ok (pe_ok a g tk h)
    · cases h
  | .ite c a b, X, sc, W, g, tk, pe, h => by
    unfold chk chkM at h
    try dsimp only at h
    split at h
    · simp only [Bool.and_eq_true] at h
      exact ite_ok (pt_ok c g tk h.1.1).1 (pe_ok a g tk h.1.2) (pe_ok b g tk h.2)
    · cases h
  | .ix a i, X, sc, W, g, tk, pe, h => by
    unfold chk chkM at h
    try dsimp only at h
    split at h
    · simp only [Bool.and_eq_true] at h
      exact ixE_ok h.1.1 (pe_ok a g tk h.1.2) (pe_ok i g tk h.2)
    · cases h
  | .sl m a lo hi, X, sc, W, g, tk, pe, h => by
    unfold chk chkM at h
    try dsimp only at h
    split at h
    · rw [Bool.and_eq_true, Bool.and_eq_true] at h
      obtain ⟨⟨h1, h2⟩, h3⟩ := h
      refine sl_ok' g (pe_ok a g tk h1) ?_ ?_
      · split at h2
        · exact nil_eq h2
        · rw [Bool.and_eq_true] at h2
          exact ⟨nil_no h2.1, pe_ok lo g tk h2.2⟩
      · split at h3
        · exact nil_eq h3
        · rw [Bool.and_eq_true] at h3
          exact ⟨nil_no h3.1, pe_ok hi g tk h3.2⟩
    · cases h
  | .nil, X, sc, W, g, tk, pe, h => by exact absurd (show false = true from h) (by decide)
  | .isi t a, X, sc, W, g, tk, pe, h => by
    unfold chk chkM at h
    try dsimp only at h
    split at h
    · simp only [Bool.and_eq_true, decide_eq_true_eq] at h
      obtain ⟨⟨⟨⟨⟨rfl, h1⟩, rfl⟩, h2⟩, h3⟩, h4⟩ := h
      exact isi_ok g h1 h2 h3 (pe_ok a g tk h4)
    · cases h
  | .bif m f es, X, sc, W, g, tk, pe, h => by
    unfold chk chkM at h
    try dsimp only at h
    split at h
    · simp only [Bool.and_eq_true, decide_eq_true_eq] at h
      obtain ⟨⟨rfl, h1⟩, h2⟩ := h
      exact bif_ok g h1 (chks_star h2) (pas_ok es g tk h2)
    · cases h
  | .mth m f o es, X, sc, W, g, tk, pe, h => by
    unfold chk chkM at h
    try dsimp only at h
    split at h
    · rename_i po nm apos pe pos
      cases es with
      | nil => simp [chks] at h
      | cons e es =>
        cases es with
        | cons _ _ => simp [chks] at h
        | nil =>
          simp only [Bool.and_eq_true, decide_eq_true_eq, chks] at h
          obtain ⟨⟨⟨⟨rfl, h1⟩, h2⟩, h3⟩, ⟨h4, h5⟩, _⟩ := h
          exact mth_ok g h1 h2 h4 ⟨e, rfl, pe_ok e g tk h5⟩ (pe_ok o g tk h3)
    · cases h
  | .app o e, X, sc, W, g, tk, pe, h => by
    unfold chk chkM at h
    try dsimp only at h
    split at h
    · simp only [Bool.and_eq_true, decide_eq_true_eq] at h
      obtain ⟨⟨⟨⟨⟨rfl, h1⟩, h2⟩, h3⟩, h4⟩, h5⟩ := h
      exact app_ok g h1 h2 h3 (pe_ok e g tk h5) (pe_ok o g tk h4)
    · cases h
  | .pop o i, X, sc, W, g, tk, pe, h => by
    unfold chk chkM at h
    try dsimp only at h
    split at h
    · simp only [Bool.and_eq_true, decide_eq_true_eq] at h
      obtain ⟨⟨⟨⟨⟨rfl, h1⟩, h2⟩, h3⟩, h4⟩, h5⟩ := h
      exact pop_ok g h1 h2 h3 (pe_ok i g tk h5) (pe_ok o g tk h4)
    · cases h
  | .popl o, X, sc, W, g, tk, pe, h => by
    unfold chk chkM at h
    try dsimp only at h
    split at h
    · simp only [Bool.and_eq_true, decide_eq_true_eq] at h
      obtain ⟨⟨⟨rfl, h1⟩, h2⟩, h3⟩ := h
      exact popl_ok g h1 h2 (pe_ok o g tk h3)
    · cases h
  | .call f es, X, sc, W, g, tk, pe, h => by
    unfold chk chkM at h
    try dsimp only at h
    split at h
    · simp only [Bool.and_eq_true, decide_eq_true_eq] at h
      obtain ⟨⟨⟨h1, h2⟩, h3⟩, h4⟩ := h
      exact call_ok g tk h1 h2 h3 (chks_star h4) (pas_ok es g tk h4)
    · simp only [Bool.and_eq_true, decide_eq_true_eq] at h
      exact call0_ok g tk h.1.1.1 h.1.1.2 h.1.2 h.2
    · cases h
  | .rng es, X, sc, W, g, tk, pe, h => by exact absurd (show false = true from h) (by decide)
  | .enm a, X, sc, W, g, tk, pe, h => by exact absurd (show false = true from h) (by decide)
  | .zip a b, X, sc, W, g, tk, pe, h => by exact absurd (show false = true from h) (by decide)
  | .comp m own elt tg it cond, X, sc, W, g, tk, pe, h => by
    unfold chk chkM at h
    try dsimp only at h
    split at h
    · rw [Bool.and_eq_true, Bool.and_eq_true, Bool.and_eq_true, Bool.and_eq_true, Bool.and_eq_true, Bool.and_eq_true, Bool.and_eq_true, decide_eq_true_eq] at h
      obtain ⟨⟨⟨⟨⟨⟨⟨h1, h2⟩, h3⟩, h4⟩, h5⟩, h6⟩, h7⟩, h8⟩ := h
      refine comp_ok g (pi_ok it g tk h2) (fold_no h1) h3 h4 (fun i hi => ?_) h6 (fun s H C cl fp => ?_) (fun s H C cl fp => pe_ok elt (g.blk s H _ C cl fp) takes0 h7)
      · rw [List.all_eq_true] at h5
        simpa using h5 i hi
      · split at h8
        · rw [yes_eq h8]
          exact pts_yes
        · exact pts_one (pt_ok cond (g.blk s H _ C cl fp) takes0 h8).1
        · cases h8
    · cases h
  | .lrg m a, X, sc, W, g, tk, pe, h => by
    unfold chk chkM at h
    try dsimp only at h
    split at h
    · simp only [Bool.and_eq_true, decide_eq_true_eq] at h
      obtain ⟨⟨⟨⟨⟨rfl, h1⟩, rfl⟩, h2⟩, h3⟩, h4⟩ := h
      exact lrg_ok g h1 h2 h3 (pe_ok a g tk h4)
    · cases h
  | .lset e, X, sc, W, g, tk, pe, h => by
    unfold chk chkM at h
    try dsimp only at h
    split at h
    · simp only [Bool.and_eq_true, decide_eq_true_eq] at h
      obtain ⟨⟨⟨⟨⟨rfl, h1⟩, rfl⟩, h2⟩, h3⟩, h4⟩ := h
      exact lset_ok g h1 h2 h3 (pe_ok e g tk h4)
    · cases h
  | .lsc own elt tg it cond, X, sc, W, g, tk, pe, h => by
    unfold chk chkM at h
    try dsimp only at h
    split at h
    · rw [Bool.and_eq_true, Bool.and_eq_true, Bool.and_eq_true, Bool.and_eq_true, Bool.and_eq_true, Bool.and_eq_true, Bool.and_eq_true, Bool.and_eq_true, Bool.and_eq_true, decide_eq_true_eq, decide_eq_true_eq] at h
      obtain ⟨⟨rfl, h0⟩, ⟨⟨⟨⟨⟨⟨h1, h2⟩, h3⟩, h4⟩, h5⟩, h6⟩, h7⟩, h8⟩ := h
      refine lsc_ok g h0 (pi_ok it g tk h2) (fold_no h1) h3 h4 (fun i hi => ?_) h6 (fun s H C cl fp => ?_) (fun s H C cl fp => pe_ok elt (g.blk s H _ C cl fp) takes0 h7)
      · rw [List.all_eq_true] at h5
        simpa using h5 i hi
      · split at h8
        · rw [yes_eq h8]
          exact pts_yes
        · exact pts_one (pt_ok cond (g.blk s H _ C cl fp) takes0 h8).1
        · cases h8
    · cases h
  | .dcm own kx vx tg it cond, X, sc, W, g, tk, pe, h => by
    unfold chk chkM at h
    try dsimp only at h
    split at h
    · rw [Bool.and_eq_true, Bool.and_eq_true, Bool.and_eq_true, Bool.and_eq_true, Bool.and_eq_true, Bool.and_eq_true, Bool.and_eq_true, Bool.and_eq_true, decide_eq_true_eq] at h
      obtain ⟨h0, ⟨⟨⟨⟨⟨⟨h1, h2⟩, h3⟩, h4⟩, h5⟩, h6⟩, h7⟩, h8⟩ := h
      refine dcm_ok g (pi_ok it g tk h2) (fold_no h1) h3 h4 (fun i hi => ?_) h6 (fun s H C cl fp => ?_) (fun s H C cl fp => pe_ok kx (g.blk s H _ C cl fp) takes0 h7) (fun s H C cl fp => pe_ok vx (g.blk s H _ C cl fp) takes0 h0)
      · rw [List.all_eq_true] at h5
        simpa using h5 i hi
      · split at h8
        · rw [yes_eq h8]
          exact pts_yes
        · exact pts_one (pt_ok cond (g.blk s H _ C cl fp) takes0 h8).1
        · cases h8
    · cases h
  | .ind neg a d, X, sc, W, g, tk, pe, h => by
    unfold chk chkM at h
    try dsimp only at h
    split at h
    · rw [Bool.and_eq_true, Bool.and_eq_true, Bool.and_eq_true, decide_eq_true_eq] at h
      obtain ⟨⟨⟨rfl, h1⟩, h2⟩, h3⟩ := h
      exact (ind_ok g h1 (pe_ok a g tk h2) (pe_ok d g tk h3)).1
    · cases h
  | .ixd d a, X, sc, W, g, tk, pe, h => by
    unfold chk chkM at h
    try dsimp only at h
    split at h
    · simp only [Bool.and_eq_true] at h
      exact ixd_ok g h.1.1 (pe_ok d g tk h.1.2) (pe_ok a g tk h.2)
    · cases h
  | .fcal n tab a es, X, sc, W, g, tk, pe, h => by
    unfold chk chkM at h
    try dsimp only at h
    split at h
    · rw [Bool.and_eq_true, Bool.and_eq_true, Bool.and_eq_true, Bool.and_eq_true, Bool.and_eq_true] at h
      obtain ⟨⟨⟨⟨⟨h1, h2⟩, h3⟩, h4⟩, h5⟩, h6⟩ := h
      exact fcal_ok g tk h1 h2 h3 h4 (chks_star h6) (pe_ok a g tk h5) (pas_ok es g tk h6)
    · cases h
  | .comp2 m own own1 elt tg it cond tg1 it1 cond1, X, sc, W, g, tk, pe, h => by
    unfold chk chkM at h
    try dsimp only at h
    split at h
    · rw [Bool.and_eq_true, Bool.and_eq_true, Bool.and_eq_true, Bool.and_eq_true, Bool.and_eq_true, Bool.and_eq_true, Bool.and_eq_true, Bool.and_eq_true, Bool.and_eq_true, Bool.and_eq_true, Bool.and_eq_true, Bool.and_eq_true, Bool.and_eq_true, decide_eq_true_eq] at h
      obtain ⟨⟨⟨⟨⟨⟨⟨⟨⟨⟨⟨⟨⟨h1, h1'⟩, h2⟩, h3⟩, h4⟩, h5⟩, h5'⟩, h5''⟩, h6⟩, h6'⟩, h7⟩, h8⟩, h9⟩, h10⟩ := h
      refine comp2_ok g (pi_ok it g tk h2) (fold_no h1) (fun env => fold_no h1') h3 h4 (fun i hi => ?_) (fun i hi => ?_) (fun i hi => ?_) h6 h6' (fun s H C cl fp => pi_ok it1 (g.blk s H _ C cl fp) takes0 h7) (fun s H C cl fp => ?_) (fun s H C cl fp => ?_) (fun s H C cl fp => pe_ok elt (g.blk s H _ C cl fp) takes0 h8)
      · rw [List.all_eq_true] at h5
        simpa using h5 i hi
      · rw [List.all_eq_true] at h5'
        simpa using h5' i hi
      · rw [List.all_eq_true] at h5''
        simpa using h5'' i hi
      · split at h9
        · rw [yes_eq h9]
          exact pts_yes
        · exact pts_one (pt_ok cond (g.blk s H _ C cl fp) takes0 h9).1
        · cases h9
      · split at h10
        · rw [yes_eq h10]
          exact pts_yes
        · exact pts_one (pt_ok cond1 (g.blk s H _ C cl fp) takes0 h10).1
        · cases h10
    · cases h
termination_by e => (sizeOf e, 0)
decreasing_by all_goals (first | decreasing_tactic | (simp_wf; omega))
theorem pas_ok : ∀ (es : List E) {X : Cx} {sc : Scope} {W : WX}, Gx T cal k X sc N → Takes X W → ∀ {pes : List Expr}, chks T sc N es pes = true → PA X pes (tMs X W (evs cal es))
  | [], X, sc, W, g, tk, pes, h => by
    unfold chks at h
    split at h
    · exact pa_no
    · cases h
  | e :: es, X, sc, W, g, tk, pes, h => by
    unfold chks at h
    split at h
    · simp only [Bool.and_eq_true] at h
      exact pa_more (pe_ok e g tk h.1.2) (pas_ok es g tk h.2) h.1.1
    · cases h
termination_by es => (sizeOf es, 0)
decreasing_by all_goals (first | decreasing_tactic | (simp_wf; omega))
theorem pt_ok : ∀ (e : E) {X : Cx} {sc : Scope} {W : WX}, Gx T cal k X sc N → Takes X W → ∀ {pe : Expr}, chkB T sc N e pe = true → PT X pe (tMb X W (ev cal e)) ∧ (isBo pe = true → PW X pe (tMb X W (ev cal e)))
  | .and a b, X, sc, W, g, tk, pe, h => by
    unfold chkB chkM at h
    try dsimp only at h
    split at h
    · rename_i pa pb rest pos
      rw [Bool.and_eq_true] at h
      obtain ⟨h1, h2⟩ := h
      split at h2
      · have w := andT_ok (pos := pos) (pt_ok a g tk h1).1 (pw_and1 (pt_ok b g tk h2).1)
        exact ⟨w.pt, fun _ => w⟩
      · have w := andT_ok (pos := pos) (pt_ok a g tk h1).1 ((pt_ok b g tk h2).2 rfl)
        exact ⟨w.pt, fun _ => w⟩
    · cases h
  | .or a b, X, sc, W, g, tk, pe, h => by
    unfold chkB chkM at h
    try dsimp only at h
    split at h
    · rename_i pa pb rest pos
      rw [Bool.and_eq_true] at h
      obtain ⟨h1, h2⟩ := h
      split at h2
      · have w := orT_ok (pos := pos) (pt_ok a g tk h1).1 (pw_or1 (pt_ok b g tk h2).1)
        exact ⟨w.pt, fun _ => w⟩
      · have w := orT_ok (pos := pos) (pt_ok a g tk h1).1 ((pt_ok b g tk h2).2 rfl)
        exact ⟨w.pt, fun _ => w⟩
    · cases h
  | .not a, X, sc, W, g, tk, pe, h => by
    unfold chkB chkM at h
    try dsimp only at h
    split at h
    · exact ⟨notT_ok (pt_ok a g tk h).1, fun z => nomatch z⟩
    · cases h
  | .ite c a b, X, sc, W, g, tk, pe, h => by exact absurd (show false = true from h) (by decide)
  | .cmp op a b, X, sc, W, g, tk, pe, h => by
    unfold chkB chkM at h
    try dsimp only at h
    split at h
    · simp only [Bool.and_eq_true, decide_eq_true_eq] at h
      obtain ⟨⟨⟨rfl, h1⟩, h2⟩, h3⟩ := h
      exact ⟨(cmp_ok g h1 (pe_ok a g tk h2) (pe_ok b g tk h3)).2, fun z => nomatch z⟩
    · cases h
  | .chn o1 o2 a b c, X, sc, W, g, tk, pe, h => by
    unfold chkB chkM at h
    try dsimp only at h
    split at h
    · simp only [Bool.and_eq_true, decide_eq_true_eq] at h
      obtain ⟨⟨⟨⟨⟨rfl, rfl⟩, h1⟩, h2⟩, h3⟩, h4⟩ := h
      exact ⟨(chn_ok g h1 (pe_ok a g tk h2) (pe_ok b g tk h3) (pe_ok c g tk h4)).2, fun z => nomatch z⟩
    · cases h
  | .chn3 o1 o2 o3 a b c d, X, sc, W, g, tk, pe, h => by exact absurd (show false = true from h) (by decide)
  | .ing neg a n kvs, X, sc, W, g, tk, pe, h => by
    unfold chkB chkM at h
    try dsimp only at h
    split at h
    · rw [Bool.and_eq_true, Bool.and_eq_true, Bool.and_eq_true, Bool.and_eq_true, decide_eq_true_eq] at h
      obtain ⟨⟨⟨⟨rfl, h1⟩, h2⟩, h3⟩, h4⟩ := h
      exact ⟨(ing_ok g h1 h2 h3 (pe_ok a g tk h4)).2, fun z => nomatch z⟩
    · cases h
  | .lit d, X, sc, W, g, tk, pe, h => by
    have hv : chk T sc N (.lit d) pe = true := h
    have hp : plainT pe = true ∧ isBo pe = false := by
      unfold chkB chkM at h
      try dsimp only at h
      split at h <;> first | exact ⟨rfl, rfl⟩ | cases h
    exact ⟨valT_ok hp.1 (pe_ok (.lit d) g tk hv), fun z => by rw [hp.2] at z; cases z⟩
  | .v i, X, sc, W, g, tk, pe, h => by
    have hv : chk T sc N (.v i) pe = true := h
    have hp : plainT pe = true ∧ isBo pe = false := by
      unfold chkB chkM at h
      try dsimp only at h
      split at h <;> first | exact ⟨rfl, rfl⟩ | cases h
    exact ⟨valT_ok hp.1 (pe_ok (.v i) g tk hv), fun z => by rw [hp.2] at z; cases z⟩
  | .fz i, X, sc, W, g, tk, pe, h => by
    have hv : chk T sc N (.fz i) pe = true := h
    have hp : plainT pe = true ∧ isBo pe = false := by
      unfold chkB chkM at h
      try dsimp only at h
      split at h <;> first | exact ⟨rfl, rfl⟩ | cases h
    exact ⟨valT_ok hp.1 (pe_ok (.fz i) g tk hv), fun z => by rw [hp.2] at z; cases z⟩
  | .gl n d, X, sc, W, g, tk, pe, h => by
    have hv : chk T sc N (.gl n d) pe = true := h
    have hp : plainT pe = true ∧ isBo pe = false := by
      unfold chkB chkM at h
      try dsimp only at h
      split at h <;> first | exact ⟨rfl, rfl⟩ | cases h
    exact ⟨valT_ok hp.1 (pe_ok (.gl n d) g tk hv), fun z => by rw [hp.2] at z; cases z⟩
  | .ixg n kvs a, X, sc, W, g, tk, pe, h => by
    have hv : chk T sc N (.ixg n kvs a) pe = true := h
    have hp : plainT pe = true ∧ isBo pe = false := by
      unfold chkB chkM at h
      try dsimp only at h
      split at h <;> first | exact ⟨rfl, rfl⟩ | cases h
    exact ⟨valT_ok hp.1 (pe_ok (.ixg n kvs a) g tk hv), fun z => by rw [hp.2] at z; cases z⟩
  | .tup es, X, sc, W, g, tk, pe, h => by
    have hv : chk T sc N (.tup es) pe = true := h
    have hp : plainT pe = true ∧ isBo pe = false := by
      unfold chkB chkM at h
      try dsimp only at h
      split at h <;> first | exact ⟨rfl, rfl⟩ | cases h
    exact ⟨valT_ok hp.1 (pe_ok (.tup es) g tk hv), fun z => by rw [hp.2] at z; cases z⟩
  | .lst m es, X, sc, W, g, tk, pe, h => by
    have hv : chk T sc N (.lst m es) pe = true := h
    have hp : plainT pe = true ∧ isBo pe = false := by
      unfold chkB chkM at h
      try dsimp only at h
      split at h <;> first | exact ⟨rfl, rfl⟩ | cases h
    exact ⟨valT_ok hp.1 (pe_ok (.lst m es) g tk hv), fun z => by rw [hp.2] at z; cases z⟩
  | .dnew t, X, sc, W, g, tk, pe, h => by
    have hv : chk T sc N (.dnew t) pe = true := h
    have hp : plainT pe = true ∧ isBo pe = false := by
      unfold chkB chkM at h
      try dsimp only at h
      split at h <;> first | exact ⟨rfl, rfl⟩ | cases h
    exact ⟨valT_ok hp.1 (pe_ok (.dnew t) g tk hv), fun z => by rw [hp.2] at z; cases z⟩
  | .bin m op a b, X, sc, W, g, tk, pe, h => by
    have hv : chk T sc N (.bin m op a b) pe = true := h
    have hp : plainT pe = true ∧ isBo pe = false := by
      unfold chkB chkM at h
      try dsimp only at h
      split at h <;> first | exact ⟨rfl, rfl⟩ | cases h
    exact ⟨valT_ok hp.1 (pe_ok (.bin m op a b) g tk hv), fun z => by rw [hp.2] at z; cases z⟩
  | .neg a, X, sc, W, g, tk, pe, h => by
    have hv : chk T sc N (.neg a) pe = true := h
    have hp : plainT pe = true ∧ isBo pe = false := by
      unfold chkB chkM at h
      try dsimp only at h
      split at h <;> first | exact ⟨rfl, rfl⟩ | cases h
    exact ⟨valT_ok hp.1 (pe_ok (.neg a) g tk hv), fun z => by rw [hp.2] at z; cases z⟩
  | .ix a i, X, sc, W, g, tk, pe, h => by
    have hv : chk T sc N (.ix a i) pe = true := h
    have hp : plainT pe = true ∧ isBo pe = false := by
      unfold chkB chkM at h
      try dsimp only at h
      split at h <;> first | exact ⟨rfl, rfl⟩ | cases h
    exact ⟨valT_ok hp.1 (pe_ok (.ix a i) g tk hv), fun z => by rw [hp.2] at z; cases z⟩
  | .sl m a lo hi, X, sc, W, g, tk, pe, h => by
    have hv : chk T sc N (.sl m a lo hi) pe = true := h
    have hp : plainT pe = true ∧ isBo pe = false := by
      unfold chkB chkM at h
      try dsimp only at h
      split at h <;> first | exact ⟨rfl, rfl⟩ | cases h
    exact ⟨valT_ok hp.1 (pe_ok (.sl m a lo hi) g tk hv), fun z => by rw [hp.2] at z; cases z⟩
  | .nil, X, sc, W, g, tk, pe, h => by exact absurd (show false = true from h) (by decide)
  | .isi t a, X, sc, W, g, tk, pe, h => by
    have hv : chk T sc N (.isi t a) pe = true := h
    have hp : plainT pe = true ∧ isBo pe = false := by
      unfold chkB chkM at h
      try dsimp only at h
      split at h <;> first | exact ⟨rfl, rfl⟩ | cases h
    exact ⟨valT_ok hp.1 (pe_ok (.isi t a) g tk hv), fun z => by rw [hp.2] at z; cases z⟩
  | .bif m f es, X, sc, W, g, tk, pe, h => by
    have hv : chk T sc N (.bif m f es) pe = true := h
    have hp : plainT pe = true ∧ isBo pe = false := by
      unfold chkB chkM at h
      try dsimp only at h
      split at h <;> first | exact ⟨rfl, rfl⟩ | cases h
    exact ⟨valT_ok hp.1 (pe_ok (.bif m f es) g tk hv), fun z => by rw [hp.2] at z; cases z⟩
  | .mth m f o es, X, sc, W, g, tk, pe, h => by
    have hv : chk T sc N (.mth m f o es) pe = true := h
    have hp : plainT pe = true ∧ isBo pe = false := by
      unfold chkB chkM at h
      try dsimp only at h
      split at h <;> first | exact ⟨rfl, rfl⟩ | cases h
    exact ⟨valT_ok hp.1 (pe_ok (.mth m f o es) g tk hv), fun z => by rw [hp.2] at z; cases z⟩
  | .app o e, X, sc, W, g, tk, pe, h => by
    have hv : chk T sc N (.app o e) pe = true := h
    have hp : plainT pe = true ∧ isBo pe = false := by
      unfold chkB chkM at h
      try dsimp only at h
      split at h <;> first | exact ⟨rfl, rfl⟩ | cases h
    exact ⟨valT_ok hp.1 (pe_ok (.app o e) g tk hv), fun z => by rw [hp.2] at z; cases z⟩
  | .pop o i, X, sc, W, g, tk, pe, h => by
    have hv : chk T sc N (.pop o i) pe = true := h
    have hp : plainT pe = true ∧ isBo pe = false := by
      unfold chkB chkM at h
      try dsimp only at h
      split at h <;> first | exact ⟨rfl, rfl⟩ | cases h
    exact ⟨valT_ok hp.1 (pe_ok (.pop o i) g tk hv), fun z => by rw [hp.2] at z; cases z⟩
  | .popl o, X, sc, W, g, tk, pe, h => by
    have hv : chk T sc N (.popl o) pe = true := h
    have hp : plainT pe = true ∧ isBo pe = false := by
      unfold chkB chkM at h
      try dsimp only at h
      split at h <;> first | exact ⟨rfl, rfl⟩ | cases h
    exact ⟨valT_ok hp.1 (pe_ok (.popl o) g tk hv), fun z => by rw [hp.2] at z; cases z⟩
  | .call f es, X, sc, W, g, tk, pe, h => by
    have hv : chk T sc N (.call f es) pe = true := h
    have hp : plainT pe = true ∧ isBo pe = false := by
      unfold chkB chkM at h
      try dsimp only at h
      split at h <;> first | exact ⟨rfl, rfl⟩ | cases h
    exact ⟨valT_ok hp.1 (pe_ok (.call f es) g tk hv), fun z => by rw [hp.2] at z; cases z⟩
  | .rng es, X, sc, W, g, tk, pe, h => by exact absurd (show false = true from h) (by decide)
  | .enm a, X, sc, W, g, tk, pe, h => by exact absurd (show false = true from h) (by decide)
  | .zip a b, X, sc, W, g, tk, pe, h => by exact absurd (show false = true from h) (by decide)
  | .comp m own elt tg it cond, X, sc, W, g, tk, pe, h => by
    have hv : chk T sc N (.comp m own elt tg it cond) pe = true := h
    have hp : plainT pe = true ∧ isBo pe = false := by
      unfold chkB chkM at h
      try dsimp only at h
      split at h <;> first | exact ⟨rfl, rfl⟩ | cases h
    exact ⟨valT_ok hp.1 (pe_ok (.comp m own elt tg it cond) g tk hv), fun z => by rw [hp.2] at z; cases z⟩
  | .ind neg a d, X, sc, W, g, tk, pe, h => by
    unfold chkB chkM at h
    try dsimp only at h
    split at h
    · rw [Bool.and_eq_true, Bool.and_eq_true, Bool.and_eq_true, decide_eq_true_eq] at h
      obtain ⟨⟨⟨rfl, h1⟩, h2⟩, h3⟩ := h
      exact ⟨(ind_ok g h1 (pe_ok a g tk h2) (pe_ok d g tk h3)).2, fun z => nomatch z⟩
    · cases h
  | .lrg m a, X, sc, W, g, tk, pe, h => by
    have hv : chk T sc N (.lrg m a) pe = true := h
    have hp : plainT pe = true ∧ isBo pe = false := by
      unfold chkB chkM at h
      try dsimp only at h
      split at h <;> first | exact ⟨rfl, rfl⟩ | cases h
    exact ⟨valT_ok hp.1 (pe_ok (.lrg m a) g tk hv), fun z => by rw [hp.2] at z; cases z⟩
  | .lset e, X, sc, W, g, tk, pe, h => by
    have hv : chk T sc N (.lset e) pe = true := h
    have hp : plainT pe = true ∧ isBo pe = false := by
      unfold chkB chkM at h
      try dsimp only at h
      split at h <;> first | exact ⟨rfl, rfl⟩ | cases h
    exact ⟨valT_ok hp.1 (pe_ok (.lset e) g tk hv), fun z => by rw [hp.2] at z; cases z⟩
  | .lsc own elt tg it cond, X, sc, W, g, tk, pe, h => by
    have hv : chk T sc N (.lsc own elt tg it cond) pe = true := h
    have hp : plainT pe = true ∧ isBo pe = false := by
      unfold chkB chkM at h
      try dsimp only at h
      split at h <;> first | exact ⟨rfl, rfl⟩ | cases h
    exact ⟨valT_ok hp.1 (pe_ok (.lsc own elt tg it cond) g tk hv), fun z => by rw [hp.2] at z; cases z⟩
  | .dcm own kx vx tg it cond, X, sc, W, g, tk, pe, h => by
    have hv : chk T sc N (.dcm own kx vx tg it cond) pe = true := h
    have hp : plainT pe = true ∧ isBo pe = false := by
      unfold chkB chkM at h
      try dsimp only at h
      split at h <;> first | exact ⟨rfl, rfl⟩ | cases h
    exact ⟨valT_ok hp.1 (pe_ok (.dcm own kx vx tg it cond) g tk hv), fun z => by rw [hp.2] at z; cases z⟩
  | .ixd d a, X, sc, W, g, tk, pe, h => by
    have hv : chk T sc N (.ixd d a) pe = true := h
    have hp : plainT pe = true ∧ isBo pe = false := by
      unfold chkB chkM at h
      try dsimp only at h
      split at h <;> first | exact ⟨rfl, rfl⟩ | cases h
    exact ⟨valT_ok hp.1 (pe_ok (.ixd d a) g tk hv), fun z => by rw [hp.2] at z; cases z⟩
  | .fcal n tab a es, X, sc, W, g, tk, pe, h => by
    have hv : chk T sc N (.fcal n tab a es) pe = true := h
    have hp : plainT pe = true ∧ isBo pe = false := by
      unfold chkB chkM at h
      try dsimp only at h
      split at h <;> first | exact ⟨rfl, rfl⟩ | cases h
    exact ⟨valT_ok hp.1 (pe_ok (.fcal n tab a es) g tk hv), fun z => by rw [hp.2] at z; cases z⟩
  | .comp2 m own own1 elt tg it cond tg1 it1 cond1, X, sc, W, g, tk, pe, h => by
    have hv : chk T sc N (.comp2 m own own1 elt tg it cond tg1 it1 cond1) pe = true := h
    have hp : plainT pe = true ∧ isBo pe = false := by
      unfold chkB chkM at h
      try dsimp only at h
      split at h <;> first | exact ⟨rfl, rfl⟩ | cases h
    exact ⟨valT_ok hp.1 (pe_ok (.comp2 m own own1 elt tg it cond tg1 it1 cond1) g tk hv), fun z => by rw [hp.2] at z; cases z⟩
termination_by e => (sizeOf e, 1)
decreasing_by all_goals (first | decreasing_tactic | (simp_wf; omega))
theorem pi_ok : ∀ (e : E) {X : Cx} {sc : Scope} {W : WX} {ptg : Expr}, Gx T cal k X sc N → Takes X W → ∀ {pe : Expr}, chkI T sc N (isTupT ptg) e pe = true → PI X ptg pe (tIt X W (itM cal e))
  | .rng es, X, sc, W, ptg, g, tk, pe, h => by
    unfold chkI chkM at h
    try dsimp only at h
    split at h
    · simp only [Bool.and_eq_true, decide_eq_true_eq] at h
      obtain ⟨⟨⟨rfl, h1⟩, h2⟩, h3⟩ := h
      cases es with
      | nil => cases h2
      | cons a es => cases es with
        | cons _ _ => simp at h2
        | nil =>
          have hs := chks_star h3
          simp only [List.all_cons, Bool.and_eq_true] at hs
          exact rng_ok1 g h1 hs.1 (pas_ok [a] g tk h3)
    · simp only [Bool.and_eq_true, decide_eq_true_eq] at h
      obtain ⟨⟨⟨rfl, h1⟩, h2⟩, h3⟩ := h
      cases es with
      | nil => cases h2
      | cons a es => cases es with
        | nil => simp at h2
        | cons b es => cases es with
          | cons _ _ => simp at h2
          | nil =>
            have hs := chks_star h3
            simp only [List.all_cons, Bool.and_eq_true] at hs
            exact rng_ok2 g h1 hs.1 hs.2.1 (pas_ok [a, b] g tk h3)
    · simp only [Bool.and_eq_true, decide_eq_true_eq] at h
      obtain ⟨⟨⟨rfl, h1⟩, h2⟩, h3⟩ := h
      cases es with
      | nil => cases h2
      | cons a es => cases es with
        | nil => simp at h2
        | cons b es => cases es with
          | nil => simp at h2
          | cons c es => cases es with
            | cons _ _ => simp at h2
            | nil =>
              have hs := chks_star h3
              simp only [List.all_cons, Bool.and_eq_true] at hs
              exact rng_ok3 g h1 hs.1 hs.2.1 hs.2.2.1 (pas_ok [a, b, c] g tk h3)
    · cases h
  | .enm a, X, sc, W, ptg, g, tk, pe, h => by
    unfold chkI chkM at h
    try dsimp only at h
    split at h
    · simp only [Bool.and_eq_true, decide_eq_true_eq] at h
      obtain ⟨⟨⟨⟨h0, rfl⟩, h1⟩, h2⟩, h3⟩ := h
      obtain ⟨x, y, z, rfl⟩ := isTupT_ok h0
      exact enm_ok g h1 h2 (pe_ok a g tk h3)
    · cases h
  | .zip a b, X, sc, W, ptg, g, tk, pe, h => by
    unfold chkI chkM at h
    try dsimp only at h
    split at h
    · simp only [Bool.and_eq_true, decide_eq_true_eq] at h
      obtain ⟨⟨⟨⟨⟨⟨h0, rfl⟩, h1⟩, h2⟩, h3⟩, h4⟩, h5⟩ := h
      obtain ⟨x, y, z, rfl⟩ := isTupT_ok h0
      exact zip_ok g h1 h2 h3 (pe_ok a g tk h4) (pe_ok b g tk h5)
    · cases h
  | .lit d, X, sc, W, ptg, g, tk, pe, h => val_ok (pe_ok (.lit d) g tk (show chk T sc N (.lit d) pe = true from h))
  | .v i, X, sc, W, ptg, g, tk, pe, h => val_ok (pe_ok (.v i) g tk (show chk T sc N (.v i) pe = true from h))
  | .fz i, X, sc, W, ptg, g, tk, pe, h => val_ok (pe_ok (.fz i) g tk (show chk T sc N (.fz i) pe = true from h))
  | .gl n d, X, sc, W, ptg, g, tk, pe, h => val_ok (pe_ok (.gl n d) g tk (show chk T sc N (.gl n d) pe = true from h))
  | .ixg n kvs a, X, sc, W, ptg, g, tk, pe, h => val_ok (pe_ok (.ixg n kvs a) g tk (show chk T sc N (.ixg n kvs a) pe = true from h))
  | .tup es, X, sc, W, ptg, g, tk, pe, h => val_ok (pe_ok (.tup es) g tk (show chk T sc N (.tup es) pe = true from h))
  | .lst m es, X, sc, W, ptg, g, tk, pe, h => val_ok (pe_ok (.lst m es) g tk (show chk T sc N (.lst m es) pe = true from h))
  | .dnew t, X, sc, W, ptg, g, tk, pe, h => val_ok (pe_ok (.dnew t) g tk (show chk T sc N (.dnew t) pe = true from h))
  | .bin m op a b, X, sc, W, ptg, g, tk, pe, h => val_ok (pe_ok (.bin m op a b) g tk (show chk T sc N (.bin m op a b) pe = true from h))
  | .neg a, X, sc, W, ptg, g, tk, pe, h => val_ok (pe_ok (.neg a) g tk (show chk T sc N (.neg a) pe = true from h))
  | .ix a i, X, sc, W, ptg, g, tk, pe, h => val_ok (pe_ok (.ix a i) g tk (show chk T sc N (.ix a i) pe = true from h))
  | .sl m a lo hi, X, sc, W, ptg, g, tk, pe, h => val_ok (pe_ok (.sl m a lo hi) g tk (show chk T sc N (.sl m a lo hi) pe = true from h))
  | .nil, X, sc, W, ptg, g, tk, pe, h => val_ok (pe_ok (.nil) g tk (show chk T sc N (.nil) pe = true from h))
  | .isi t a, X, sc, W, ptg, g, tk, pe, h => val_ok (pe_ok (.isi t a) g tk (show chk T sc N (.isi t a) pe = true from h))
  | .bif m f es, X, sc, W, ptg, g, tk, pe, h => val_ok (pe_ok (.bif m f es) g tk (show chk T sc N (.bif m f es) pe = true from h))
  | .mth m f o es, X, sc, W, ptg, g, tk, pe, h => val_ok (pe_ok (.mth m f o es) g tk (show chk T sc N (.mth m f o es) pe = true from h))
  | .app o e, X, sc, W, ptg, g, tk, pe, h => val_ok (pe_ok (.app o e) g tk (show chk T sc N (.app o e) pe = true from h))
  | .pop o i, X, sc, W, ptg, g, tk, pe, h => val_ok (pe_ok (.pop o i) g tk (show chk T sc N (.pop o i) pe = true from h))
  | .popl o, X, sc, W, ptg, g, tk, pe, h => val_ok (pe_ok (.popl o) g tk (show chk T sc N (.popl o) pe = true from h))
  | .call f es, X, sc, W, ptg, g, tk, pe, h => val_ok (pe_ok (.call f es) g tk (show chk T sc N (.call f es) pe = true from h))
  | .comp m own elt tg it cond, X, sc, W, ptg, g, tk, pe, h => val_ok (pe_ok (.comp m own elt tg it cond) g tk (show chk T sc N (.comp m own elt tg it cond) pe = true from h))
  | .lrg m a, X, sc, W, ptg, g, tk, pe, h => val_ok (pe_ok (.lrg m a) g tk (show chk T sc N (.lrg m a) pe = true from h))
  | .lset e, X, sc, W, ptg, g, tk, pe, h => val_ok (pe_ok (.lset e) g tk (show chk T sc N (.lset e) pe = true from h))
  | .lsc own elt tg it cond, X, sc, W, ptg, g, tk, pe, h => val_ok (pe_ok (.lsc own elt tg it cond) g tk (show chk T sc N (.lsc own elt tg it cond) pe = true from h))
  | .dcm own kx vx tg it cond, X, sc, W, ptg, g, tk, pe, h => val_ok (pe_ok (.dcm own kx vx tg it cond) g tk (show chk T sc N (.dcm own kx vx tg it cond) pe = true from h))
  | .ixd d a, X, sc, W, ptg, g, tk, pe, h => val_ok (pe_ok (.ixd d a) g tk (show chk T sc N (.ixd d a) pe = true from h))
  | .fcal n tab a es, X, sc, W, ptg, g, tk, pe, h => val_ok (pe_ok (.fcal n tab a es) g tk (show chk T sc N (.fcal n tab a es) pe = true from h))
  | .ind neg a d, X, sc, W, ptg, g, tk, pe, h => val_ok (pe_ok (.ind neg a d) g tk (show chk T sc N (.ind neg a d) pe = true from h))
  | .comp2 m own own1 elt tg it cond tg1 it1 cond1, X, sc, W, ptg, g, tk, pe, h => val_ok (pe_ok (.comp2 m own own1 elt tg it cond tg1 it1 cond1) g tk (show chk T sc N (.comp2 m own own1 elt tg it cond tg1 it1 cond1) pe = true from h))
  | .and a b, X, sc, W, ptg, g, tk, pe, h => val_ok (pe_ok (.and a b) g tk (show chk T sc N (.and a b) pe = true from h))
  | .or a b, X, sc, W, ptg, g, tk, pe, h => val_ok (pe_ok (.or a b) g tk (show chk T sc N (.or a b) pe = true from h))
  | .not a, X, sc, W, ptg, g, tk, pe, h => val_ok (pe_ok (.not a) g tk (show chk T sc N (.not a) pe = true from h))
  | .ite c a b, X, sc, W, ptg, g, tk, pe, h => val_ok (pe_ok (.ite c a b) g tk (show chk T sc N (.ite c a b) pe = true from h))
  | .cmp op a b, X, sc, W, ptg, g, tk, pe, h => val_ok (pe_ok (.cmp op a b) g tk (show chk T sc N (.cmp op a b) pe = true from h))
  | .chn o1 o2 a b c, X, sc, W, ptg, g, tk, pe, h => val_ok (pe_ok (.chn o1 o2 a b c) g tk (show chk T sc N (.chn o1 o2 a b c) pe = true from h))
  | .chn3 o1 o2 o3 a b c d, X, sc, W, ptg, g, tk, pe, h => val_ok (pe_ok (.chn3 o1 o2 o3 a b c d) g tk (show chk T sc N (.chn3 o1 o2 o3 a b c d) pe = true from h))
  | .ing neg a n kvs, X, sc, W, ptg, g, tk, pe, h => val_ok (pe_ok (.ing neg a n kvs) g tk (show chk T sc N (.ing neg a n kvs) pe = true from h))
termination_by e => (sizeOf e, 1)
decreasing_by all_goals (first | decreasing_tactic | (simp_wf; omega))
end
end
end Cy


set_option Elab.async false
set_option linter.all false
set_option maxRecDepth 100000
set_option maxHeartbeats 8000000
/-! L4a: readings of statements; small statements. -/
namespace Cy
open PySem PySem.Spec PyProof.Rows L2

/-- what is wanted behind a statement that ends so -/
def FinS (X : Cx) (W : WX) (D : Ends) (al : List Addr) (h : Hs) (H : Hp) : Fl → Prop
  | .nx ρ h' => ∀ al' H' σ', Stp al h H al' h' H' → RH X.K al' h' H' → RS X.K al' (UU al' h') H' ρ σ' → D.nx σ' H'
  | .bk ρ h' => ∀ al' H' σ', Stp al h H al' h' H' → RH X.K al' h' H' → RS X.K al' (UU al' h') H' ρ σ' → D.bk σ' H'
  | .ct ρ h' => ∀ al' H' σ', Stp al h H al' h' H' → RH X.K al' h' H' → RS X.K al' (UU al' h') H' ρ σ' → D.ct σ' H'
  | .rt r h' => ∀ al' H' v, Stp al h H al' h' H' → RH X.K al' h' H' → RR X.K al' (UU al' h') H' r v → D.rt v H'
  | .ex e ρ h' => ∀ al' H' cls dd σ', Stp al h H al' h' H' → RH X.K al' h' H' → RS X.K al' (UU al' h') H' ρ σ' → XR X.mg e cls dd → W cls dd σ' H'
  | .bad => False
def tS (X : Cx) (W : WX) (m : Rho → Hs → Fl) : TS := fun D σ H => ∃ al h ρ, RH X.K al h H ∧ RS X.K al (UU al h) H ρ σ ∧ FinS X W D al h H (m ρ h)

section
variable {X : Cx} {W : WX} {D D' : Ends} {al al1 : List Addr} {h h1 : Hs} {H H1 : Hp} {ρ : Rho} {σ : Sg} {α β : Type} {rel : List Addr → Mu → Hp → α → β → Prop} {Q' : β → Hp → Prop}
theorem FinS.shift {o : Fl} (f : FinS X W D al h H o) (s : Stp al h H al1 h1 H1) : FinS X W D al1 h1 H1 o := by
  cases o with
  | nx ρ h' => exact fun al' H' σ' st => f al' H' σ' (s.trans st)
  | bk ρ h' => exact fun al' H' σ' st => f al' H' σ' (s.trans st)
  | ct ρ h' => exact fun al' H' σ' st => f al' H' σ' (s.trans st)
  | rt r h' => exact fun al' H' v st => f al' H' v (s.trans st)
  | ex e ρ h' => exact fun al' H' cls dd σ' st => f al' H' cls dd σ' (s.trans st)
  | bad => exact f
theorem FinS.of {o : Out α} {f : α → Hs → Fl} (F : FinS X W D al h H (ofOut ρ o f)) (rs : RS X.K al (UU al h) H ρ σ)
    (k : ∀ r h1 al1 H1 v, Stp al h H al1 h1 H1 → RH X.K al1 h1 H1 → rel al1 (UU al1 h1) H1 r v → FinS X W D al1 h1 H1 (f r h1) → Q' v H1) :
    Fin X.K X.mg (fun cls dd H' => W cls dd σ H') rel al h H Q' o := by
  cases o with
  | ok r h1 => exact fun al1 H1 v st rh rr => k r h1 al1 H1 v st rh rr (F.shift st)
  | ex e h1 => exact fun al1 H1 cls dd st rh x => F al1 H1 cls dd σ st rh (rs.stp st) x
  | bad => exact F
theorem FinS.nx' {ρ' : Rho} {h' : Hs} (F : FinS X W D al h' H (.nx ρ' h')) (rh : RH X.K al h' H) (rs : RS X.K al (UU al h') H ρ' σ) : D.nx σ H := F al H σ (Stp.refl _ _ _) rh rs
end

/-! ### what a tuple's stores are -/
def isStar : Expr → Bool
  | .Starred .. => true
  | _ => false
def nms (sc : Scope) (ts : List Expr) : List Str := ts.filterMap fun e => match e with
  | .Name id pos => if sc.names.lookup id == some .local && pos.line == (ts.head?.map (·.pos.line)).getD 0 then some id else none
  | _ => none
def swp (sc : Scope) (ts vs : List Expr) : Option (Option (List Str)) :=
  if (!(ts.length == 2 || ts.length == 3) || vs.length != ts.length || ScopeKind.function != ScopeKind.function) = true then some none else
  if vs.any isStar = true then some none else
  if ((nms sc ts).length != ts.length || (nms sc ts).eraseDups.length != (nms sc ts).length) = true then some none else
  if vs.all (foldedForSure 8) = true then some none else
  if vs.all (constantsAlone 8) = true then none else some (some (nms sc ts))
theorem swp_ok {env : Env} {sc : Scope} (he : env.scope = sc) (hk : sc.kind = .function) {ts vs : List Expr} {a b : Nat} {p q : Pos} {r : Option (List Str)} (h : swp sc ts vs = some r) : swappedStores [.Tuple ts a p] (.Tuple vs b q) env = pure r := by
  subst he
  have hb : env.blockKind = .function := by unfold Env.blockKind; rw [hk]; rfl
  unfold swp at h
  unfold swappedStores
  simp only [hb]
  show (if (!(ts.length == 2 || ts.length == 3) || vs.length != ts.length || ScopeKind.function != ScopeKind.function) = true then pure none else
    if vs.any isStar = true then pure none else
    if ((nms env.scope ts).length != ts.length || (nms env.scope ts).eraseDups.length != (nms env.scope ts).length) = true then pure none else
    if vs.all (foldedForSure 8) = true then pure none else
    if vs.all (constantsAlone 8) = true then (do
      unsupported "assign.tuple-of-constant-expressions:order-of-the-stores"
      pure (some (nms env.scope ts))) else pure (some (nms env.scope ts))) = pure r
  split
  · rename_i c; rw [if_pos c] at h; cases h; rfl
  rename_i c; rw [if_neg c] at h
  split
  · rename_i c; rw [if_pos c] at h; cases h; rfl
  rename_i c; rw [if_neg c] at h
  split
  · rename_i c; rw [if_pos c] at h; cases h; rfl
  rename_i c; rw [if_neg c] at h
  split
  · rename_i c; rw [if_pos c] at h; cases h; rfl
  rename_i c; rw [if_neg c] at h
  split
  · rename_i c; rw [if_pos c] at h; cases h
  rename_i c; rw [if_neg c] at h
  cases h
  rfl
theorem swp_other {env : Env} {t e : Expr} (h : (match t, e with
    | .Tuple .., .Tuple .. => false
    | .List .., .Tuple .. => false
    | _, _ => true) = true) : swappedStores [t] e env = pure none := by
  unfold swappedStores
  cases t <;> cases e <;> first | rfl | cases h
end Cy


set_option Elab.async false
set_option linter.all false
set_option maxRecDepth 100000
set_option maxHeartbeats 8000000
/-! L4b: statements. -/
namespace Cy
open PySem PySem.Spec PyProof.Rows L2

/-! ### cells that are forgotten -/
section
variable {K : Fg} {al al2 : List Addr} {h h2 : Hs} {H H2 : Hp} {ρ : Rho} {σ : Sg} {n : Nat}
theorem getE_take {α : Type} {l : List α} {n i : Nat} {a : α} (e : (l.take n)[i]? = some a) : i < n ∧ l[i]? = some a := by
  rw [List.getElem?_take] at e
  split at e
  · exact ⟨by assumption, e⟩
  · cases e
theorem uu_take {a : Addr} (u : UU (al.take n) (h.take n) a) : UU al h a := by
  obtain ⟨m, c, e1, e2, e3⟩ := u
  exact ⟨m, c, (getE_take e1).2, (getE_take e2).2, e3⟩
theorem keep_take : Keep (UU al h) H (UU (al.take n) (h.take n)) H := ⟨fun _ _ _ e => e, fun _ u => .inl (uu_take u)⟩
theorem rr_take {r : R} {v : V} (b : r.below n = true) (x : RR K al (UU al h) H r v) : RR K (al.take n) (UU (al.take n) (h.take n)) H r v := by
  cases r with
  | d y => exact RD.keep keep_take x
  | ref m =>
    obtain ⟨a, e, ev⟩ := x
    have hm : m < n := by simpa [R.below] using b
    exact ⟨a, by rw [List.getElem?_take_of_lt hm]; exact e, ev⟩
theorem paired_imp {α β : Type} {F G : α → β → Prop} : ∀ {as : List α} {bs : List β}, Paired F as bs → (∀ a ∈ as, ∀ b, F a b → G a b) → Paired G as bs
  | _, _, .nil, _ => .nil
  | _, _, .cons r t, f => .cons (f _ List.mem_cons_self _ r) (paired_imp t fun a ha b => f a (List.mem_cons_of_mem _ ha) b)
theorem rc_take {c : Cell} {a : Addr} (b : c.below n = true) (x : RC K al (UU al h) H c a) : RC K (al.take n) (UU (al.take n) (h.take n)) H c a := by
  cases c with
  | lst ds => obtain ⟨xs, e, q⟩ := x; exact ⟨xs, e, RDs.keep keep_take q⟩
  | fz ds => obtain ⟨xs, e, q⟩ := x; exact ⟨xs, e, RDs.keep keep_take q⟩
  | dct t kvs =>
    have b2 : (kvs.all fun p => p.2.below n) = true := b
    rw [List.all_eq_true] at b2
    cases t with
    | true =>
      obtain ⟨xs, e, q⟩ := x
      exact ⟨xs, e, paired_imp q fun p hp q z => ⟨z.1, rr_take (b2 p hp) z.2⟩⟩
    | false =>
      obtain ⟨xs, e, q⟩ := x
      exact ⟨xs, e, paired_imp q fun p hp q z => ⟨z.1, rr_take (b2 p hp) z.2⟩⟩
theorem rh_take (rh : RH K al h H) (b : below n (h.take n) = true) : RH K (al.take n) (h.take n) H := by
  refine ⟨by rw [List.length_take, List.length_take, rh.len], rh.nd.sublist (List.take_sublist _ _), fun m c a e1 e2 => ?_⟩
  unfold below at b
  rw [List.all_eq_true] at b
  exact rc_take (b c (List.mem_of_getElem? e1)) (rh.at_ m c a (getE_take e1).2 (getE_take e2).2)
theorem rs_take (rs : RS K al (UU al h) H ρ σ) (b : rbelow n ρ = true) : RS K (al.take n) (UU (al.take n) (h.take n)) H ρ σ := by
  refine ⟨rs.1, fun i r e => ?_⟩
  obtain ⟨v, e1, e2⟩ := rs.2 i r e
  unfold rbelow at b
  rw [List.all_eq_true] at b
  exact ⟨v, e1, rr_take (b _ (List.mem_of_getElem? e)) e2⟩
theorem stp_take (st : Stp al h H al2 h2 H2) (hl : al.length ≤ n) : Stp al h H (al2.take n) (h2.take n) H2 := by
  refine ⟨st.k.trans keep_take, fun m a e => ?_⟩
  have hm : m < al.length := by
    rcases Nat.lt_or_ge m al.length with z | z
    · exact z
    · rw [List.getElem?_eq_none z] at e; cases e
  rw [List.getElem?_take_of_lt (by omega)]
  exact st.pre m a e
theorem trim_ok (rh2 : RH K al2 h2 H2) (rs : RS K al2 (UU al2 h2) H2 ρ σ) (st : Stp al h H al2 h2 H2) (hl : al.length = h.length) :
    ∃ al3, RH K al3 (trim h.length ρ h2) H2 ∧ RS K al3 (UU al3 (trim h.length ρ h2)) H2 ρ σ ∧ Stp al h H al3 (trim h.length ρ h2) H2 := by
  unfold trim
  split
  · rename_i b
    rw [Bool.and_eq_true] at b
    exact ⟨al2.take h.length, rh_take rh2 b.2, rs_take rs b.1, stp_take st (by omega)⟩
  · exact ⟨al2, rh2, rs, st⟩
end

theorem PS.imp {X : Cx} {s : Stmt} {t t' : TS} (p : PS X s t) (i : ∀ D σ H, t' D σ H → t D σ H) : PS X s t' := ⟨fun pins s σ H D I h => p.run pins s σ H D I (i D σ H h)⟩
theorem PSs.imp {X : Cx} {s : List Stmt} {t t' : TS} (p : PSs X s t) (i : ∀ D σ H, t' D σ H → t D σ H) : PSs X s t' := ⟨fun pins s σ H D I h => p.run pins s σ H D I (i D σ H h)⟩
abbrev relB : List Addr → Mu → Hp → Bool → Bool → Prop := fun _ _ _ b c => b = c
theorem Fin.boolOf' {K : Fg} {mg : Str → Option Value} {E : XK} {al : List Addr} {h : Hs} {H : Hp} {Q : Bool → Hp → Prop} {m : M R} (f : Fin K mg E relB al h H Q ((m.bnd Cy.boolOf) h)) : Fin K mg E (RR K) al h H (fun v H' => ∃ b, v = .bl b ∧ Q b H') (m h) := by
  unfold M.bnd at f
  cases e : m h with
  | ok r h1 =>
    rw [e] at f
    intro al1 H1 v st rh rr
    cases r with
    | ref n => exact f.elim
    | d x =>
      cases x with
      | bool b =>
        cases rr
        exact ⟨b, rfl, f al1 H1 b st rh rfl⟩
      | _ => exact f.elim
  | ex x h1 => rw [e] at f; exact f
  | bad => rw [e] at f; exact f.elim

section
variable {T : Tb} {cal : Cal} {k : Nat} {X : Cx} {sc : Scope} {N : List Str} {W : WX}
theorem FinS.of2 {D : Ends} {al : List Addr} {h : Hs} {H : Hp} {ρ : Rho} {σ : Sg} {α β : Type} {rel : List Addr → Mu → Hp → α → β → Prop} {Q' : β → Hp → Prop} {o : Out α} {f : α → Hs → Fl} (F : FinS X W D al h H (ofOut ρ o f)) (rs : RS X.K al (UU al h) H ρ σ)
    (k : ∀ r h1 al1 H1 v, Stp al h H al1 h1 H1 → RH X.K al1 h1 H1 → rel al1 (UU al1 h1) H1 r v → FinS X W D al h H (f r h1) → Q' v H1) :
    Fin X.K X.mg (fun cls dd H' => W cls dd σ H') rel al h H Q' o := by
  cases o with
  | ok r h1 => exact fun al1 H1 v st rh rr => k r h1 al1 H1 v st rh rr F
  | ex e h1 => exact fun al1 H1 cls dd st rh x => F al1 H1 cls dd σ st rh (rs.stp st) x
  | bad => exact F
theorem asg_go {tg : Tg} {e : E} {te : TE} (i : ∀ σ H Q, tM X W (ev cal e) σ H Q → te σ H Q) : ∀ D σ H, tS X W (st cal (.asg tg e)) D σ H → tAsg te (gT X.K tg) D σ H := fun D σ H ⟨al, hh, ρ, rh, rs, F⟩ => by
  unfold st at F
  refine i _ _ _ ⟨al, hh, ρ, rh, rs, FinS.of F rs fun r h1 al1 H1 v st1 rh1 rr F1 => ?_⟩
  cases e : put tg r ρ with
  | none => rw [e] at F1; exact F1.elim
  | some ρ1 =>
    rw [e] at F1
    exact gT_ok tg rr e (rs.stp st1) fun σ' rs' _ => F1.nx' rh1 rs'
theorem ret_ok {e : E} {pe : Expr} {pos : Pos} (he : PE X pe (tM X W (ev cal e))) : PS X (.Return (some pe) pos) (tS X W (st cal (.ret e))) := by
  refine PS.imp (ps_ret he) fun D σ H ⟨al, hh, ρ, rh, rs, F⟩ => ?_
  unfold st at F
  exact ⟨al, hh, ρ, rh, rs, FinS.of F rs fun r h1 al1 H1 v st1 rh1 rr F1 => F1 al1 H1 v (Stp.refl _ _ _) rh1 rr⟩
theorem retN_ok {pos : Pos} : PS X (.Return none pos) (tS X W (st cal (.ret .nil))) := by
  refine PS.imp ps_retN fun D σ H ⟨al, hh, ρ, rh, rs, F⟩ => ?_
  unfold st ev at F
  exact F al H .non (Stp.refl _ _ _) rh .non
theorem ex_ok {e : E} {pe : Expr} {pos : Pos} (hn : notComp pe = true) (he : PE X pe (tM X W (ev cal e))) : PS X (.Expr pe pos) (tS X W (st cal (.ex e))) := by
  refine PS.imp (ps_expr he (swaps_no hn)) fun D σ H ⟨al, hh, ρ, rh, rs, F⟩ => ?_
  unfold st at F
  exact ⟨al, hh, ρ, rh, rs, FinS.of F rs fun r h1 al1 H1 v st1 rh1 rr F1 => F1.nx' rh1 (rs.stp st1)⟩
theorem ife_ok {c : E} {a b : List S} {pc : Expr} {pa pb : List Stmt} {pos : Pos} (hc : PT X pc (tMb X W (ev cal c))) (ha : PSs X pa (tS X W (sts cal a))) (hb : PSs X pb (tS X W (sts cal b))) : PS X (.If pc pa pb pos) (tS X W (st cal (.ife c a b))) := by
  refine PS.imp (ps_if hc ha hb) fun D σ H ⟨al, hh, ρ, rh, rs, F⟩ => ?_
  unfold st at F
  refine ⟨al, hh, ρ, rh, rs, Fin.boolOf' (FinS.of F rs fun r h1 al1 H1 v st1 rh1 rr F1 => ?_)⟩
  cases rr
  cases r with
  | true => exact iteT ⟨al1, h1, ρ, rh1, rs.stp st1, F1⟩
  | false => exact iteF ⟨al1, h1, ρ, rh1, rs.stp st1, F1⟩
theorem nil_ok : PSs X [] (tS X W (sts cal [])) := by
  refine PSs.imp pss_nil fun D σ H ⟨al, hh, ρ, rh, rs, F⟩ => ?_
  unfold sts at F
  exact F.nx' rh rs
theorem cons_ok {s : S} {r : List S} {ps : Stmt} {pr : List Stmt} (h1 : PS X ps (tS X W (st cal s))) (h2 : PSs X pr (tS X W (sts cal r))) : PSs X (ps :: pr) (tS X W (sts cal (s :: r))) := by
  refine PSs.imp (pss_cons h1 h2) fun D σ H ⟨al, hh, ρ, rh, rs, F⟩ => ?_
  unfold sts at F
  refine ⟨al, hh, ρ, rh, rs, ?_⟩
  cases e : st cal s ρ hh with
  | nx ρ1 h1 =>
    rw [e] at F
    exact fun al' H' σ' st' rh' rs' => ⟨al', h1, ρ1, rh', rs', F.shift st'⟩
  | rt r h1 => rw [e] at F; exact F
  | bk ρ1 h1 => rw [e] at F; exact F
  | ct ρ1 h1 => rw [e] at F; exact F
  | ex x ρ1 h1 => rw [e] at F; exact F
  | bad => rw [e] at F; exact F.elim
theorem brk_ok {pos : Pos} : PS X (.Break pos) (tS X W (st cal .brk)) := PS.imp ps_break fun D σ H ⟨al, hh, ρ, rh, rs, F⟩ => by
  unfold st at F
  exact F al H σ (Stp.refl _ _ _) rh rs
theorem cnt_ok {pos : Pos} : PS X (.Continue pos) (tS X W (st cal .cnt)) := PS.imp ps_continue fun D σ H ⟨al, hh, ρ, rh, rs, F⟩ => by
  unfold st at F
  exact F al H σ (Stp.refl _ _ _) rh rs
theorem pass_ok {pos : Pos} : PS X (.Pass pos) (tS X W (st cal .pass)) := PS.imp ps_pass fun D σ H ⟨al, hh, ρ, rh, rs, F⟩ => by
  unfold st at F
  exact F.nx' rh rs
theorem doc_ok {x : Str} {j : Nat} {p pos : Pos} : PS X (.Expr (.Constant (.str x) j p) pos) (tS X W (st cal .pass)) := PS.imp ps_doc fun D σ H ⟨al, hh, ρ, rh, rs, F⟩ => by
  unfold st at F
  exact F.nx' rh rs
theorem never_ok {s : Stmt} : PS X s (tS X W (st cal .never)) := PS.imp ps_never fun D σ H ⟨al, hh, ρ, rh, rs, F⟩ => by
  unfold st at F
  exact F
theorem for_ok {tg : Tg} {it : E} {body : List S} {ptg pit : Expr} {pb : List Stmt} {pos : Pos} (hp : PassesOwn (model X.prog X.w) X.A X.env X.xe) (hc : X.calm = true) (hi : PI X ptg pit (tIt X W (itM cal it))) (hg : PG X ptg (gT X.K tg)) (hb : PSs X pb (tS X W (sts cal body)))
    (hs : ∀ x, foldedSetIterable pit X.env x = pure x) : PS X (.For ptg pit pb [] pos) (tS X W (st cal (.for tg it body))) := by
  refine PS.imp (ps_for hp hc hi hg hb hs) fun D σ H ⟨al, hh, ρ, rh, rs, F⟩ => ?_
  unfold st at F
  refine ⟨al, hh, ρ, rh, rs, FinS.of F rs fun ds hb al1 Hb J st1 rh1 iw F1 => ?_⟩
  have rs1 := rs.stp st1
  generalize hbd : (fun (ρ' : Rho) (h' : Hs) => sts cal body ρ' h') = b at F1
  refine ⟨fun i m σ H => m = ds.length - i ∧ i ≤ ds.length ∧ ∃ al' h' ρ, RH X.K al' h' H ∧ RS X.K al' (UU al' h') H ρ σ ∧ Stp al1 hb Hb al' h' H ∧ FinS X W D al' h' H (loopL tg b (ds.drop i) ρ h'),
    ⟨ds.length, by simp, Nat.zero_le _, al1, hb, ρ, rh1, rs1, Stp.refl _ _ _, F1⟩, ?_⟩
  rintro i m σ2 H2 ⟨rfl, hi, al', h', ρ2, rh', rs', st', F2⟩
  by_cases hlt : i < ds.length
  · have hx : ds[i]? = some ds[i] := List.getElem?_eq_getElem hlt
    generalize ds[i] = x at hx
    have hdrop : ds.drop i = x :: ds.drop (i + 1) := by
      rw [List.drop_eq_getElem_cons hlt]
      rw [List.getElem?_eq_getElem hlt] at hx
      rw [Option.some.inj hx]
    rw [hdrop] at F2
    unfold loopL at F2
    obtain ⟨go, yl⟩ := (iw _ _ st'.k rh'.noU i).1 x hx
    refine .inr ⟨go, fun σ H => i + 1 ≤ ds.length ∧ ∃ al' h' ρ, RH X.K al' h' H ∧ RS X.K al' (UU al' h') H ρ σ ∧ Stp al1 hb Hb al' h' H ∧ FinS X W D al' h' H (loopL tg b (ds.drop (i + 1)) ρ h'),
      fun σ' H' p' => ⟨ds.length - (i + 1), by omega, rfl, p'⟩, fun xv H' y => ?_⟩
    obtain ⟨grow, rd⟩ := yl xv H' y
    have rhg := rh'.grow grow
    have stg := Stp.grow rh' grow
    cases eput : put tg (.d x) ρ2 with
    | none => rw [eput] at F2; exact F2.elim
    | some ρ3 =>
      rw [eput] at F2
      refine gT_ok tg (r := .d x) rd eput (rs'.stp stg) fun σ3 rs3 _ => ⟨al', h', ρ3, rhg, rs3, ?_⟩
      subst hbd
      have F3 := FinS.shift F2 stg
      dsimp only at F3
      have again : ∀ {ρ4 : Rho} {h4 : Hs} {al4 : List Addr} {H4 : Hp} {σ4 : Sg}, FinS X W D al' h' H' (loopL tg (fun (ρ' : Rho) (h' : Hs) => sts cal body ρ' h') (ds.drop (i + 1)) ρ4 (trim h'.length ρ4 h4)) → Stp al' h' H' al4 h4 H4 → RH X.K al4 h4 H4 → RS X.K al4 (UU al4 h4) H4 ρ4 σ4 →
          (i + 1 ≤ ds.length ∧ ∃ al' h' ρ, RH X.K al' h' H4 ∧ RS X.K al' (UU al' h') H4 ρ σ4 ∧ Stp al1 hb Hb al' h' H4 ∧ FinS X W D al' h' H4 (loopL tg (fun (ρ' : Rho) (h' : Hs) => sts cal body ρ' h') (ds.drop (i + 1)) ρ h')) := fun {ρ4 h4 al4 H4 σ4} F st4 rh4 rs4 => by
        obtain ⟨al5, rh5, rs5, st5⟩ := trim_ok rh4 rs4 st4 rhg.len
        exact ⟨hlt, al5, _, ρ4, rh5, rs5, (st'.trans stg).trans st5, F.shift st5⟩
      cases eb : sts cal body ρ3 h' with
      | nx ρ4 h4 =>
        rw [eb] at F3
        exact fun al4 H4 σ4 st4 rh4 rs4 => again F3 st4 rh4 rs4
      | ct ρ4 h4 =>
        rw [eb] at F3
        exact fun al4 H4 σ4 st4 rh4 rs4 => again F3 st4 rh4 rs4
      | bk ρ4 h4 => rw [eb] at F3; exact F3
      | rt r h4 => rw [eb] at F3; exact F3
      | ex e ρ4 h4 => rw [eb] at F3; exact F3
      | bad => rw [eb] at F3; exact F3.elim
  · have e : i = ds.length := by omega
    subst e
    rw [List.drop_length] at F2
    unfold loopL at F2
    exact .inl ⟨(iw _ _ st'.k rh'.noU ds.length).2 (Nat.le_refl _), F2.nx' rh' rs'⟩
theorem whl_ok {c : E} {body : List S} {pc : Expr} {pb : List Stmt} {pos : Pos} (hp : PassesOwn (model X.prog X.w) X.A X.env X.xe) (hc : PT X pc (tMb X W (ev cal c))) (hb : PSs X pb (tS X W (sts cal body))) : PS X (.While pc pb [] pos) (tS X W (st cal (.whl c body))) := by
  refine PS.imp (ps_while hp hc hb) fun D σ H ⟨al, hh, ρ, rh, rs, F⟩ => ?_
  unfold st at F
  refine ⟨fun m σ H => ∃ al h ρ, RH X.K al h H ∧ RS X.K al (UU al h) H ρ σ ∧ FinS X W D al h H (loopW (fun ρ' => (ev cal c ρ').bnd boolOf) (fun ρ' h' => sts cal body ρ' h') m ρ h), ⟨fuel, al, hh, ρ, rh, rs, F⟩, ?_⟩
  rintro m σ2 H2 ⟨al', h', ρ2, rh', rs', F2⟩
  cases m with
  | zero => unfold loopW at F2; exact F2.elim
  | succ m =>
    unfold loopW at F2
    refine ⟨al', h', ρ2, rh', rs', Fin.boolOf' (FinS.of2 F2 rs' fun r h3 al3 H3 v st3 rh3 rr F3 => ?_)⟩
    cases rr
    cases r with
    | false => exact iteF ((F3.shift st3).nx' rh3 (rs'.stp st3))
    | true =>
      refine iteT ⟨fun σ H => ∃ al h ρ, RH X.K al h H ∧ RS X.K al (UU al h) H ρ σ ∧ FinS X W D al h H (loopW (fun ρ' => (ev cal c ρ').bnd boolOf) (fun ρ' h' => sts cal body ρ' h') m ρ h), fun σ' H' p => ⟨m, by omega, p⟩, al3, h3, ρ2, rh3, rs'.stp st3, ?_⟩
      dsimp only at F3
      have again : ∀ {ρ4 : Rho} {h4 : Hs} {al4 : List Addr} {H4 : Hp} {σ4 : Sg}, FinS X W D al' h' H2 (loopW (fun ρ' => (ev cal c ρ').bnd boolOf) (fun ρ' h' => sts cal body ρ' h') m ρ4 (trim h'.length ρ4 h4)) → Stp al3 h3 H3 al4 h4 H4 → RH X.K al4 h4 H4 → RS X.K al4 (UU al4 h4) H4 ρ4 σ4 →
          ∃ al h ρ, RH X.K al h H4 ∧ RS X.K al (UU al h) H4 ρ σ4 ∧ FinS X W D al h H4 (loopW (fun ρ' => (ev cal c ρ').bnd boolOf) (fun ρ' h' => sts cal body ρ' h') m ρ h) := fun {ρ4 h4 al4 H4 σ4} F st4 rh4 rs4 => by
        obtain ⟨al5, rh5, rs5, st5⟩ := trim_ok rh4 rs4 (st3.trans st4) rh'.len
        exact ⟨al5, _, ρ4, rh5, rs5, F.shift st5⟩
      cases eb : sts cal body ρ2 h3 with
      | nx ρ4 h4 =>
        rw [eb] at F3
        exact fun al4 H4 σ4 st4 rh4 rs4 => again F3 st4 rh4 rs4
      | ct ρ4 h4 =>
        rw [eb] at F3
        exact fun al4 H4 σ4 st4 rh4 rs4 => again F3 st4 rh4 rs4
      | bk ρ4 h4 => rw [eb] at F3; exact F3.shift st3
      | rt r h4 => rw [eb] at F3; exact F3.shift st3
      | ex e ρ4 h4 => rw [eb] at F3; exact F3.shift st3
      | bad => rw [eb] at F3; exact F3.elim
end
end Cy


set_option Elab.async false
set_option linter.all false
set_option maxRecDepth 100000
set_option maxHeartbeats 8000000
/-! L4c: statements, checked whole. -/
namespace Cy
open PySem PySem.Spec PyProof.Rows L2

section
variable {T : Tb} {cal : Cal} {k : Nat} {X : Cx} {sc : Scope} {N : List Str} {W : WX}
theorem FinS.bnd {D : Ends} {al : List Addr} {h : Hs} {H : Hp} {ρ : Rho} {σ : Sg} {α γ δ : Type} {rel' : List Addr → Mu → Hp → γ → δ → Prop} {Q' : δ → Hp → Prop} {m : M γ} {g : γ → M α} {f : α → Hs → Fl} (F : FinS X W D al h H (ofOut ρ ((m.bnd g) h) f)) (rs : RS X.K al (UU al h) H ρ σ)
    (k : ∀ r h1 al1 H1 v, Stp al h H al1 h1 H1 → RH X.K al1 h1 H1 → rel' al1 (UU al1 h1) H1 r v → FinS X W D al1 h1 H1 (ofOut ρ (g r h1) f) → Q' v H1) :
    Fin X.K X.mg (fun cls dd H' => W cls dd σ H') rel' al h H Q' (m h) := by
  unfold M.bnd at F
  cases e : m h with
  | ok r h1 => rw [e] at F; exact fun al1 H1 v st rh rr => k r h1 al1 H1 v st rh rr (F.shift st)
  | ex e h1 => rw [e] at F; exact fun al1 H1 cls dd st rh x => F al1 H1 cls dd σ st rh (rs.stp st) x
  | bad => rw [e] at F; exact F
theorem par_ok2 {i j : Nat} {x y : Str} {es : List E} {a b : Expr} {px py pt pt2 pos : Pos} {kt k2 : Nat} (hc : X.calm = true) (hN : X.N.Nodup) (hi : X.N[i]? = some x) (hj : X.N[j]? = some y) (hij : i ≠ j)
    (hx : X.env.scope.names.lookup x = some .local) (hy : X.env.scope.names.lookup y = some .local) (ha : PA X [a, b] (tMs X W (evs cal es)))
    (hw : swappedStores [.Tuple [.Name x px, .Name y py] kt pt] (.Tuple [a, b] k2 pt2) X.env = pure (some [x, y])) :
    PS X (.Assign [.Tuple [.Name x px, .Name y py] kt pt] (.Tuple [a, b] k2 pt2) pos) (tS X W (st cal (.par [i, j] es))) := by
  refine PS.imp (ps_par hc hN hi hj hij hx hy ha hw) fun D σ H ⟨al, hh, ρ, rh, rs, F⟩ => ?_
  unfold st at F
  refine ⟨al, hh, ρ, rh, rs, FinS.of F rs fun r h1 al1 H1 v st1 rh1 rr F1 => ?_⟩
  cases rr with
  | nil => simp only [putR] at F1; exact F1.elim
  | cons r1 rr => cases rr with
    | nil =>
      simp only [putR] at F1
      split at F1
      · rename_i e; split at e <;> cases e
      · exact F1.elim
    | cons r2 rr => cases rr with
      | cons _ _ =>
        simp only [putR] at F1
        split at F1
        · rename_i e; split at e <;> (try split at e) <;> cases e
        · exact F1.elim
      | nil =>
        simp only [putR] at F1
        split at F1
        · rename_i e
          split at e
          · split at e
            · cases e
              exact ⟨_, _, rfl, F1.nx' rh1 (((rs.stp st1).set r1).set r2)⟩
            · cases e
          · cases e
        · exact F1.elim
theorem par_ok3 {i j l : Nat} {x y z : Str} {es : List E} {a b c : Expr} {px py pz pt pt2 pos : Pos} {kt k2 : Nat} (hc : X.calm = true) (hN : X.N.Nodup) (hi : X.N[i]? = some x) (hj : X.N[j]? = some y) (hl : X.N[l]? = some z) (hij : i ≠ j) (hil : i ≠ l) (hjl : j ≠ l)
    (hx : X.env.scope.names.lookup x = some .local) (hy : X.env.scope.names.lookup y = some .local) (hz : X.env.scope.names.lookup z = some .local) (ha : PA X [a, b, c] (tMs X W (evs cal es)))
    (hw : swappedStores [.Tuple [.Name x px, .Name y py, .Name z pz] kt pt] (.Tuple [a, b, c] k2 pt2) X.env = pure (some [x, y, z])) :
    PS X (.Assign [.Tuple [.Name x px, .Name y py, .Name z pz] kt pt] (.Tuple [a, b, c] k2 pt2) pos) (tS X W (st cal (.par [i, j, l] es))) := by
  refine PS.imp (ps_par3 hc hN hi hj hl hij hil hjl hx hy hz ha hw) fun D σ H ⟨al, hh, ρ, rh, rs, F⟩ => ?_
  unfold st at F
  refine ⟨al, hh, ρ, rh, rs, FinS.of F rs fun r h1 al1 H1 v st1 rh1 rr F1 => ?_⟩
  cases rr with
  | nil => simp only [putR] at F1; exact F1.elim
  | cons r1 rr => cases rr with
    | nil =>
      simp only [putR] at F1
      split at F1
      · rename_i e; split at e <;> cases e
      · exact F1.elim
    | cons r2 rr => cases rr with
      | nil =>
        simp only [putR] at F1
        split at F1
        · rename_i e; split at e <;> (try split at e) <;> cases e
        · exact F1.elim
      | cons r3 rr => cases rr with
        | cons _ _ =>
          simp only [putR] at F1
          split at F1
          · rename_i e; split at e <;> (try split at e) <;> (try split at e) <;> cases e
          · exact F1.elim
        | nil =>
          simp only [putR] at F1
          split at F1
          · rename_i e
            split at e
            · split at e
              · split at e
                · cases e
                  exact ⟨_, _, _, rfl, F1.nx' rh1 ((((rs.stp st1).set r1).set r2).set r3)⟩
                · cases e
              · cases e
            · cases e
          · exact F1.elim
theorem ixN_of {n : Nat} {k : Int} (h0 : 0 ≤ k) (h1 : k < n) : ixN n k = some k.toNat := by
  unfold ixN
  rw [if_pos h0, if_pos h1]
theorem setix_ok {o i e : E} {po pi pe : Expr} {p pos : Pos} (hn : notSlice pi = true) (hc : notComp pe = true) (ho : PE X po (tM X W (ev cal o))) (hi : PE X pi (tM X W (ev cal i))) (he : PE X pe (tM X W (ev cal e))) :
    PS X (.Assign [.Subscript po pi p] pe pos) (tS X W (st cal (.setix o i e))) := by
  have ha : ∀ v, assign (.Subscript po pi p) X.env v = (do
      let ov ← holding [v] (eval po X.env)
      let iv ← holding [v, ov] (eval pi X.env)
      standAt p
      holding [v, ov, iv] (setItem ov iv v)
      release [v, ov, iv] []) := by
    intro v
    cases pi <;> first | rfl | cases hn
  refine PS.imp (ps_asg he (pg_sub ho hi set_list ha) (by unfold swapsWithSole; exact swaps_no hc) (swp_other (by cases pe <;> rfl))) fun D σ H ⟨al, hh, ρ, rh, rs, F⟩ => ?_
  unfold st at F
  refine ⟨al, hh, ρ, rh, rs, FinS.bnd F rs fun y h1 al1 H1 yv st1 rh1 rr1 F1 => ?_⟩
  refine ⟨al1, h1, ρ, rh1, rs.stp st1, FinS.bnd F1 (rs.stp st1) fun x h2 al2 H2 xv st2 rh2 rr2 F2 => ?_⟩
  refine ⟨al2, h2, ρ, rh2, (rs.stp st1).stp st2, FinS.bnd F2 ((rs.stp st1).stp st2) fun kx h3 al3 H3 kv st3 rh3 rr3 F3 => ?_⟩
  have rs3 := ((rs.stp st1).stp st2).stp st3
  have F4 : FinS X W D al3 h3 H3 (match (x, kx, y) with
    | (.ref n, .d (.int k), .d d) => match hget h3 n with
      | some (.lst xs) => if 0 ≤ k ∧ k < xs.length then .nx ρ (h3.set n (.lst (xs.set k.toNat d))) else .bad
      | _ => .bad
    | _ => .bad) := F3
  split at F4
  · rename_i n k d q
    cases q
    obtain ⟨a, ea, rfl⟩ := rr2
    have ea3 := st3.pre n a ea
    cases rr3
    have rd := rr1.stp (st2.trans st3)
    cases q : h3[n]? with
    | none => simp only [hget, q] at F4; exact F4.elim
    | some c =>
      simp only [hget, q] at F4
      cases c with
      | fz _ => exact F4.elim
      | dct _ _ => exact F4.elim
      | lst xs =>
        simp only at F4
        obtain ⟨vs, eh, rds⟩ := rh3.at_ n _ a q ea3
        split at F4
        · rename_i hk
          obtain ⟨st4, rh4⟩ := set_cell (c' := .lst (xs.set k.toNat d)) (o := .lst (vs.set k.toNat yv)) rh3 q ea3 rfl rfl fun st => ⟨vs.set k.toNat yv, upd_same, (RDs.set k.toNat rds rd).keep st.k⟩
          exact ⟨a, vs, k, k.toNat, rfl, rfl, eh, ixN_of hk.1 (by rw [← rds.length]; exact hk.2), F4 al3 _ σ st4 rh4 (rs3.stp st4)⟩
        · exact F4.elim
  · exact F4.elim
theorem setLc_ok (g : Gx T cal k X sc N) (tk : Takes X W) {i : Nat} {y : Str} {e : E} {pelt : Expr} {gens : List Comprehension} {scope : Scope} {cpos py spos : Pos} (hk : sc.kind = .function) (h : chk T sc N e (.ListComp pelt gens scope cpos) = true) (hy : N[i]? = some y)
    (hl : sc.names.lookup y = some .local) (hp : (py.line == cpos.line) = true) (ha : (scope.names.any fun (n, k) => n == y && (k == .local || k == .cell)) = false) :
    PS X (.Assign [.Name y py] (.ListComp pelt gens scope cpos) spos) (tS X W (st cal (.asg (.n i) e))) := by
  cases e with
  | comp m own elt tg it cond =>
    unfold chk chkM at h
    try dsimp only at h
    split at h
    · rename_i q
      cases q
      rw [Bool.and_eq_true, Bool.and_eq_true, Bool.and_eq_true, Bool.and_eq_true, Bool.and_eq_true, Bool.and_eq_true, Bool.and_eq_true, decide_eq_true_eq] at h
      obtain ⟨⟨⟨⟨⟨⟨⟨h1, h2⟩, h3⟩, h4⟩, h5⟩, h6⟩, h7⟩, h8⟩ := h
      have ht : ∀ i ∈ tgS tg, i ∈ own := fun i hi => by
        rw [List.all_eq_true] at h5
        simpa using h5 i hi
      have e1 : gT X.K (.n i) = gName i := by unfold gT; rfl
      refine PS.imp (ps_setLc (i := i) (own := ownOf N own) g.calm (by rw [g.nN]; exact g.nd) (by rw [g.nN]; exact hy) (by rw [g.sc]; exact hl) (sw_true (by rw [g.sc]; exact hk) (by rw [g.sc]; exact hl) hp ha)
        (pi_ok it g tk h2) (by rw [g.nN, g.sc]; exact blkOk_by h3) (fun s H C cl fp => chkT_ok (X := X.blk s H scope (compEnvC scope cl C X.env) fp) g.nN g.nd (show relS scope X.env.scope = _ by rw [g.sc]) g.calm (fun x hx => hx) h6) (g := gT X.K tg) (wi := tIt X W (itM cal it)) (tt := tMb X W0 (ev cal cond)) (te := tM X W0 (ev cal elt)) (fun s H C cl fp => ?_)
        (fun s H C cl fp => pe_ok elt (g.blk s H _ C cl fp) takes0 h7) (fold_no h1)) ?_
      · split at h8
        · rw [yes_eq h8]
          exact pts_yes
        · exact pts_one (pt_ok cond (g.blk s H _ C cl fp) takes0 h8).1
        · cases h8
      · intro D σ H q
        have := asg_go (tg := .n i) (te := tLc (tIt X W (itM cal it)) (gT X.K tg) (tMb X W0 (ev cal cond)) (tM X W0 (ev cal elt)) ((ownOf N own).map (·.2))) (fun σ H Q h => by rw [h4]; exact comp_go ht h) D σ H q
        rw [e1] at this
        exact this
    · cases h
  | comp2 m own own1 elt tg it cond tg1 it1 cond1 =>
    unfold chk chkM at h
    try dsimp only at h
    split at h
    · rename_i q
      cases q
      rw [Bool.and_eq_true, Bool.and_eq_true, Bool.and_eq_true, Bool.and_eq_true, Bool.and_eq_true, Bool.and_eq_true, Bool.and_eq_true, Bool.and_eq_true, Bool.and_eq_true, Bool.and_eq_true, Bool.and_eq_true, Bool.and_eq_true, Bool.and_eq_true, decide_eq_true_eq] at h
      obtain ⟨⟨⟨⟨⟨⟨⟨⟨⟨⟨⟨⟨⟨h1, h1'⟩, h2⟩, h3⟩, h4⟩, h5⟩, h5'⟩, h5''⟩, h6⟩, h6'⟩, h7⟩, h8⟩, h9⟩, h10⟩ := h
      have ht : ∀ i ∈ tgS tg, i ∈ own := fun i hi => by
        rw [List.all_eq_true] at h5
        simpa using h5 i hi
      have hv : ∀ i ∈ own1, i ∈ own := fun i hi => by
        rw [List.all_eq_true] at h5'
        simpa using h5' i hi
      have ht1 : ∀ i ∈ tgS tg1, i ∈ own1 := fun i hi => by
        rw [List.all_eq_true] at h5''
        simpa using h5'' i hi
      have e1 : gT X.K (.n i) = gName i := by unfold gT; rfl
      refine PS.imp (ps_setLc2 (i := i) (own := ownOf N own) (vs1 := own1) g.calm (by rw [g.nN]; exact g.nd) (by rw [g.nN]; exact hy) (by rw [g.sc]; exact hl) (sw_true (by rw [g.sc]; exact hk) (by rw [g.sc]; exact hl) hp ha)
        (pi_ok it g tk h2) (by rw [g.nN, g.sc]; exact blkOk_by h3) (by rw [h4]; exact hv)
        (fun s H C cl fp => chkT_ok (X := X.blk s H scope (compEnvC scope cl C X.env) fp) g.nN g.nd (show relS scope X.env.scope = _ by rw [g.sc]) g.calm (fun x hx => hx) h6) (g := gT X.K tg) (g1 := gT X.K tg1) (wi := tIt X W (itM cal it)) (wi1 := tIt X W0 (itM cal it1)) (tt := tMb X W0 (ev cal cond)) (tt1 := tMb X W0 (ev cal cond1)) (te := tM X W0 (ev cal elt)) (fun s H C cl fp => ?_)
        (fun s H C cl fp => pi_ok it1 (g.blk s H _ C cl fp) takes0 h7)
        (fun s H C cl fp => chkT_ok (X := X.blk s H scope (compEnvC scope cl C X.env) fp) g.nN g.nd (show relS scope X.env.scope = _ by rw [g.sc]) g.calm (fun x hx => hx) h6') (fun s H C cl fp => ?_)
        (fun s H C cl fp => pe_ok elt (g.blk s H _ C cl fp) takes0 h8) (fold_no h1) (fun env => fold_no h1')) ?_
      · split at h9
        · rw [yes_eq h9]
          exact pts_yes
        · exact pts_one (pt_ok cond (g.blk s H _ C cl fp) takes0 h9).1
        · cases h9
      · split at h10
        · rw [yes_eq h10]
          exact pts_yes
        · exact pts_one (pt_ok cond1 (g.blk s H _ C cl fp) takes0 h10).1
        · cases h10
      · intro D σ H q
        have := asg_go (tg := .n i) (te := tLc2 (tIt X W (itM cal it)) (gT X.K tg) (tMb X W0 (ev cal cond)) (tIt X W0 (itM cal it1)) (gT X.K tg1) (tMb X W0 (ev cal cond1)) (tM X W0 (ev cal elt)) ((ownOf N own).map (·.2)) own1) (fun σ H Q h => by rw [h4]; exact comp2_go ht ht1 h) D σ H q
        rw [e1] at this
        exact this
    · cases h
  | _ => (first | exact absurd (show false = true from h) (by decide) | (unfold chk chkM at h; cases h))
/-! ### tuple targets with items -/
def tgx (X : Cx) (W : WX) (cal : Cal) : List Tx → TGs
  | [] => gNil
  | .t tg :: l => gCons (gT X.K tg) (tgx X W cal l)
  | .s o i :: l => gCons (gSub (tM X W (ev cal o)) (tM X W (ev cal i)) rSetL) (tgx X W cal l)
def chkX (T : Tb) (sc : Scope) (N : List Str) : List Tx → List Expr → Bool
  | [], [] => true
  | .t tg :: l, e :: es => notStar e && chkT (fun _ => true) sc N tg e && chkX T sc N l es
  | .s o i :: l, .Subscript po pi _ :: es => notSlice pi && chk T sc N o po && chk T sc N i pi && chkX T sc N l es
  | _, _ => false
theorem chkX_len : ∀ {l : List Tx} {es : List Expr} {env : Env}, chkX T sc N l es = true → (assignEach es env).length = l.length ∧ (assignEach es env).findIdx? (·.1) = none
  | [], [], _, _ => ⟨rfl, rfl⟩
  | [], _ :: _, _, h => by simp [chkX] at h
  | .t _ :: _, [], _, h => by simp [chkX] at h
  | .s _ _ :: _, [], _, h => by simp [chkX] at h
  | .t tg :: l, e :: es, env, h => by
    unfold chkX at h
    simp only [Bool.and_eq_true] at h
    obtain ⟨h1, h2⟩ := chkX_len (env := env) h.2
    rw [each_cons h.1.1, List.findIdx?_cons]
    exact ⟨by simp [h1], by simp [h2]⟩
  | .s o i :: l, e :: es, env, h => by
    cases e with
    | Subscript po pi p =>
      unfold chkX at h
      simp only [Bool.and_eq_true] at h
      obtain ⟨h1, h2⟩ := chkX_len (env := env) h.2
      rw [each_cons rfl, List.findIdx?_cons]
      exact ⟨by simp [h1], by simp [h2]⟩
    | _ => simp [chkX] at h
theorem sub_as {po pi : Expr} {p : Pos} (hn : notSlice pi = true) : ∀ v, assign (.Subscript po pi p) X.env v = (do
      let ov ← holding [v] (eval po X.env)
      let iv ← holding [v, ov] (eval pi X.env)
      standAt p
      holding [v, ov, iv] (setItem ov iv v)
      release [v, ov, iv] []) := by
  intro v
  cases pi <;> first | rfl | cases hn
theorem chkX_ok (g : Gx T cal k X sc N) (tk : Takes X W) (hf : ∀ x, X.fn x = true) : ∀ {l : List Tx} {es : List Expr}, chkX T sc N l es = true → PGs X es (tgx X W cal l)
  | [], [], _ => pgs_nil
  | [], _ :: _, h => by simp [chkX] at h
  | .t _ :: _, [], h => by simp [chkX] at h
  | .s _ _ :: _, [], h => by simp [chkX] at h
  | .t tg :: l, e :: es, h => by
    unfold chkX at h
    simp only [Bool.and_eq_true] at h
    exact pgs_cons (chkT_ok g.nN g.nd g.sc g.calm (fun x _ => hf x) h.1.2) (chkX_ok g tk hf h.2) (by rw [each_cons h.1.1]; rfl)
  | .s o i :: l, e :: es, h => by
    cases e with
    | Subscript po pi p =>
      unfold chkX at h
      simp only [Bool.and_eq_true] at h
      exact pgs_cons (pg_sub (pe_ok o g tk h.1.1.2) (pe_ok i g tk h.1.2) set_list (sub_as h.1.1.1)) (chkX_ok g tk hf h.2) (by rw [each_cons rfl]; rfl)
    | _ => simp [chkX] at h
theorem stx_go : ∀ (l : List Tx) {xs : List D} {vs : List V} {al : List Addr} {h : Hs} {H : Hp} {ρ : Rho} {σ : Sg} {D : Ends}, RH X.K al h H → RS X.K al (UU al h) H ρ σ → RDs X.K (UU al h) H xs vs → FinS X W D al h H (stx cal l xs ρ h) → tgx X W cal l vs σ H D.nx
  | [], xs, vs, al, h, H, ρ, σ, D, rh, rs, rds, F => by
    cases rds with
    | nil =>
      unfold stx at F
      exact ⟨rfl, F.nx' rh rs⟩
    | cons _ _ => simp only [stx] at F; exact F.elim
  | .t tg :: l, xs, vs, al, h, H, ρ, σ, D, rh, rs, rds, F => by
    cases rds with
    | nil => simp only [stx] at F; exact F.elim
    | cons a b =>
      unfold stx at F
      rename_i x v xs vs
      cases e : put tg (.d x) ρ with
      | none => rw [e] at F; exact F.elim
      | some ρ1 =>
        rw [e] at F
        exact ⟨v, vs, rfl, gT_ok tg (r := .d x) a e rs fun σ' rs' _ => stx_go l rh rs' b F⟩
  | .s o i :: l, xs, vs, al, h, H, ρ, σ, D, rh, rs, rds, F => by
    cases rds with
    | nil => simp only [stx] at F; exact F.elim
    | cons a b =>
      unfold stx at F
      rename_i x v xs vs
      refine ⟨v, vs, rfl, al, h, ρ, rh, rs, FinS.bnd F rs fun y h2 al2 H2 xv st2 rh2 rr2 F2 => ?_⟩
      refine ⟨al2, h2, ρ, rh2, rs.stp st2, FinS.bnd F2 (rs.stp st2) fun kx h3 al3 H3 kv st3 rh3 rr3 F3 => ?_⟩
      have rs3 := (rs.stp st2).stp st3
      have F4 : FinS X W D al3 h3 H3 (match (y, kx) with
        | (.ref n, .d (.int k)) => match setC n k x h3 (hget h3 n) with
          | some h2 => stx cal l xs ρ h2
          | none => .bad
        | _ => .bad) := F3
      split at F4
      · rename_i n kk q
        cases q
        obtain ⟨ad, ea, rfl⟩ := rr2
        have ea3 := st3.pre n ad ea
        cases rr3
        have rd := RD.keep (st2.trans st3).k a
        have rb := RDs.keep (st2.trans st3).k b
        cases q : h3[n]? with
        | none => simp only [hget, q, setC] at F4; exact F4.elim
        | some c =>
          simp only [hget, q] at F4
          cases c with
          | fz _ => exact F4.elim
          | dct _ _ => exact F4.elim
          | lst ys =>
            obtain ⟨ws, eh, rws⟩ := rh3.at_ n _ ad q ea3
            unfold setC at F4
            dsimp only at F4
            by_cases hk : 0 ≤ kk ∧ kk < ys.length
            · rw [if_pos hk] at F4
              obtain ⟨st4, rh4⟩ := set_cell (c' := .lst (ys.set kk.toNat x)) (o := .lst (ws.set kk.toNat v)) rh3 q ea3 rfl rfl fun st => ⟨ws.set kk.toNat v, upd_same, (RDs.set kk.toNat rws rd).keep st.k⟩
              exact ⟨ad, ws, kk, kk.toNat, rfl, rfl, eh, ixN_of hk.1 (by rw [← rws.length]; exact hk.2), stx_go l rh4 (rs3.stp st4) (RDs.keep st4.k rb) (FinS.shift F4 st4)⟩
            · rw [if_neg hk] at F4
              exact F4.elim
      · exact F4.elim
end
end Cy


set_option Elab.async false
set_option linter.all false
set_option maxRecDepth 100000
set_option maxHeartbeats 8000000
/-! L4d: the check of statements speaks for all. -/
namespace Cy
open PySem PySem.Spec PyProof.Rows L2

def locB (sc : Scope) (x : Str) : Bool := decide (sc.names.lookup x = some .local)
/-- which rule an assignment is under -/
def asgB (sc : Scope) : Expr → Expr → Bool
  | .Name y py => fun
    | .ListComp _ _ scope cpos => (locB sc y && (py.line == cpos.line) && !(scope.names.any fun (n, k) => n == y && (k == .local || k == .cell))) || decide (sc.names.lookup y = some .cell)
    | pe => notComp pe
  | .Tuple ts _ _ => fun
    | .Tuple vs _ _ => decide (swp sc ts vs = some none)
    | pe => notComp pe
  | _ => fun _ => false
def parB (sc : Scope) (N : List Str) (is : List Nat) (ts vs : List Expr) : Bool :=
  match is, ts with
  | [i, j], [.Name x _, .Name y _] => decide (N[i]? = some x) && decide (N[j]? = some y) && decide (i ≠ j) && locB sc x && locB sc y && (vs.length == 2) && decide (swp sc ts vs = some (some [x, y]))
  | [i, j, l], [.Name x _, .Name y _, .Name z _] => decide (N[i]? = some x) && decide (N[j]? = some y) && decide (N[l]? = some z) && decide (i ≠ j) && decide (i ≠ l) && decide (j ≠ l) && locB sc x && locB sc y && locB sc z &&
    (vs.length == 3) && decide (swp sc ts vs = some (some [x, y, z]))
  | _, _ => false
mutual
def chkS (T : Tb) (sc : Scope) (N : List Str) : S → Stmt → Bool
  | .asg tg e => fun
    | .Assign [pt] pe _ => chkT (fun _ => true) sc N tg pt && chk T sc N e pe && asgB sc pt pe
    | _ => false
  | .par is es => fun
    | .Assign [.Tuple ts _ _] (.Tuple vs _ _) _ => chks T sc N es vs && parB sc N is ts vs
    | _ => false
  | .setix o i e => fun
    | .Assign [.Subscript po pi _] pe _ => notSlice pi && notComp pe && chk T sc N o po && chk T sc N i pi && chk T sc N e pe
    | _ => false
  | .dput _ _ _ _ => fun _ => false
  | .asgx l e => fun
    | .Assign [.Tuple ts a p] pe _ => chkX T sc N l ts && chk T sc N e pe && asgB sc (.Tuple ts a p) pe
    | _ => false
  | .ex e => fun
    | .Expr pe _ => notComp pe && chk T sc N e pe
    | _ => false
  | .ret e => fun
    | .Return (some pe) _ => chk T sc N e pe
    | .Return none _ => isNil e
    | _ => false
  | .ife c a b => fun
    | .If pc pa pb _ => chkB T sc N c pc && chkSs T sc N a pa && chkSs T sc N b pb
    | _ => false
  | .for tg it body => fun
    | .For pt pi pb [] _ => notSet pi && chkT (fun _ => true) sc N tg pt && chkI T sc N (isTupT pt) it pi && chkSs T sc N body pb
    | _ => false
  | .whl c body => fun
    | .While pc pb [] _ => chkB T sc N c pc && chkSs T sc N body pb
    | _ => false
  | .brk => fun
    | .Break _ => true
    | _ => false
  | .cnt => fun
    | .Continue _ => true
    | _ => false
  | .pass => fun
    | .Pass _ => true
    | .Expr (.Constant (.str _) _ _) _ => true
    | _ => false
  | .fgt _ => fun _ => false
  | .never => fun _ => true
def chkSs (T : Tb) (sc : Scope) (N : List Str) : List S → List Stmt → Bool
  | [] => fun
    | [] => true
    | _ => false
  | .fgt _ :: r => fun q => chkSs T sc N r q
  | s :: r => fun
    | p :: q => chkS T sc N s p && chkSs T sc N r q
    | _ => false
end
theorem wipe_of {ρ : Rho} : ∀ {vs : List Nat} {i : Nat} {r : R}, (Cy.wipe ρ vs)[i]? = some (some r) → ρ[i]? = some (some r)
  | [], _, _, e => e
  | v :: vs, i, r, e => by
    unfold Cy.wipe at e
    by_cases h : v = i
    · subst h
      by_cases hl : v < (Cy.wipe ρ vs).length
      · rw [List.getElem?_set_self hl] at e; cases e
      · rw [List.getElem?_eq_none (by rw [List.length_set]; omega)] at e; cases e
    · rw [List.getElem?_set_ne h] at e
      exact wipe_of e
theorem wipe_len {ρ : Rho} : ∀ vs : List Nat, (Cy.wipe ρ vs).length = ρ.length
  | [] => rfl
  | v :: vs => by unfold Cy.wipe; rw [List.length_set, wipe_len vs]
theorem fgt_ok {cal : Cal} {X : Cx} {W : WX} {is : List Nat} {r : List S} {ps : List Stmt} (h : PSs X ps (tS X W (sts cal r))) : PSs X ps (tS X W (sts cal (.fgt is :: r))) := by
  refine PSs.imp h fun D σ H ⟨al, hh, ρ, rh, rs, F⟩ => ?_
  unfold sts st at F
  exact ⟨al, hh, Cy.wipe ρ is, rh, ⟨by rw [wipe_len]; exact rs.1, fun i r e => rs.2 i r (wipe_of e)⟩, F⟩

section
variable {T : Tb} {cal : Cal} {k : Nat} {X : Cx} {sc : Scope} {N : List Str} {W : WX}
theorem asg_ok (g : Gx T cal k X sc N) (tk : Takes X W) (hk : sc.kind = .function) (hf : ∀ x, X.fn x = true) {tg : Tg} {e : E} {pt pe : Expr} {pos : Pos} (h1 : chkT (fun _ => true) sc N tg pt = true) (h2 : chk T sc N e pe = true) (h3 : asgB sc pt pe = true) :
    PS X (.Assign [pt] pe pos) (tS X W (st cal (.asg tg e))) := by
  have hpg := chkT_ok g.nN g.nd g.sc g.calm (fun x _ => hf x) h1
  have hpe := pe_ok e g tk h2
  cases pt with
  | Name y py =>
    have one : (assignEach [Expr.Name y py] X.env).map (·.2) = [assign (.Name y py) X.env] := rfl
    cases pe with
    | ListComp pelt gens scope cpos =>
      cases tg with
      | t l => simp [chkT] at h1
      | n i =>
        unfold asgB at h3
        rw [Bool.or_eq_true] at h3
        rcases h3 with h3 | h3
        case inr =>
          have hc : X.env.kindOf y = some .cell := by
            show X.env.scope.names.lookup y = _
            rw [g.sc]
            exact of_decide_eq_true h3
          refine PS.imp (ps_asg hpe hpg (by
            unfold swapsWithSole swapsWith
            simp only [hc]
            have : (some NameKind.cell == some NameKind.local) = false := rfl
            rw [this]
            simp) (swp_other rfl) one) (asg_go fun _ _ _ h => h)
        simp only [Bool.and_eq_true, Bool.not_eq_true', locB, decide_eq_true_eq] at h3
        unfold chkT at h1
        simp only [Bool.and_eq_true, decide_eq_true_eq] at h1
        exact setLc_ok g tk hk h2 h1.1 h3.1.1 h3.1.2 h3.2
    | _ =>
      first
        | (unfold asgB at h3; cases h3; done)
        | exact PS.imp (ps_asg hpe hpg (by unfold swapsWithSole; exact swaps_no rfl) (swp_other rfl) one) (asg_go fun _ _ _ h => h)
  | Tuple ts a p =>
    have one : (assignEach [Expr.Tuple ts a p] X.env).map (·.2) = [assign (.Tuple ts a p) X.env] := rfl
    cases pe with
    | Tuple vs b q =>
      unfold asgB at h3
      exact PS.imp (ps_asg hpe hpg (by unfold swapsWithSole; exact swaps_no rfl) (swp_ok g.sc hk (of_decide_eq_true h3)) one) (asg_go fun _ _ _ h => h)
    | _ =>
      first
        | (unfold asgB at h3; cases h3; done)
        | exact PS.imp (ps_asg hpe hpg (by unfold swapsWithSole; exact swaps_no rfl) (swp_other rfl) one) (asg_go fun _ _ _ h => h)
  | _ => simp [asgB] at h3
theorem asgx_ok (g : Gx T cal k X sc N) (tk : Takes X W) (hk : sc.kind = .function) (hf : ∀ x, X.fn x = true) {l : List Tx} {e : E} {ts : List Expr} {pe : Expr} {a : Nat} {p pos : Pos} (h1 : chkX T sc N l ts = true) (h2 : chk T sc N e pe = true) (h3 : asgB sc (.Tuple ts a p) pe = true) :
    PS X (.Assign [.Tuple ts a p] pe pos) (tS X W (st cal (.asgx l e))) := by
  obtain ⟨q1, q2⟩ := chkX_len (env := X.env) h1
  have hpg := pg_tup (pos := p) (k := a) g.calm (chkX_ok (cal := cal) (W := W) g tk hf h1) q1 q2
  have hpe := pe_ok e g tk h2
  have one : (assignEach [Expr.Tuple ts a p] X.env).map (·.2) = [assign (.Tuple ts a p) X.env] := rfl
  have go : ∀ D σ H, tS X W (st cal (.asgx l e)) D σ H → tAsg (tM X W (ev cal e)) (gTup X.K l.length (tgx X W cal l)) D σ H := fun D σ H ⟨al, hh, ρ, rh, rs, F⟩ => by
    unfold st at F
    refine ⟨al, hh, ρ, rh, rs, FinS.of F rs fun r h1 al1 H1 v st1 rh1 rr F1 => ?_⟩
    cases r with
    | ref n => exact F1.elim
    | d x =>
      cases x with
      | tuple xs =>
        dsimp only at F1
        by_cases hl : xs.length = l.length
        · rw [if_pos hl] at F1
          obtain ⟨b, vs, ev, hq, rds⟩ := (RT.rd rr).sqt
          exact ⟨b, vs, ev, hq, by rw [← rds.length]; exact hl, stx_go l rh1 (rs.stp st1) rds F1⟩
        · rw [if_neg hl] at F1
          exact F1.elim
      | _ => exact F1.elim
  cases pe with
  | Tuple vs b q =>
    unfold asgB at h3
    exact PS.imp (ps_asg hpe hpg (by unfold swapsWithSole; exact swaps_no rfl) (swp_ok g.sc hk (of_decide_eq_true h3)) one) go
  | _ =>
    first
      | (unfold asgB at h3; cases h3; done)
      | exact PS.imp (ps_asg hpe hpg (by unfold swapsWithSole; exact swaps_no rfl) (swp_other rfl) one) go
theorem par_ok (g : Gx T cal k X sc N) (tk : Takes X W) (hk : sc.kind = .function) {is : List Nat} {es : List E} {ts vs : List Expr} {a b : Nat} {p q pos : Pos} (h1 : chks T sc N es vs = true) (h2 : parB sc N is ts vs = true) :
    PS X (.Assign [.Tuple ts a p] (.Tuple vs b q) pos) (tS X W (st cal (.par is es))) := by
  have pa := pas_ok es g tk h1
  have nd : X.N.Nodup := by rw [g.nN]; exact g.nd
  unfold parB at h2
  split at h2
  · simp only [Bool.and_eq_true, decide_eq_true_eq, locB] at h2
    obtain ⟨⟨⟨⟨⟨⟨h3, h4⟩, h5⟩, h6⟩, h7⟩, h8⟩, h9⟩ := h2
    cases vs with
    | nil => cases h8
    | cons v1 vs => cases vs with
      | nil => cases h8
      | cons v2 vs => cases vs with
        | cons _ _ => simp at h8
        | nil => exact par_ok2 g.calm nd (g.at_ h3) (g.at_ h4) h5 (by rw [g.sc]; exact h6) (by rw [g.sc]; exact h7) pa (swp_ok g.sc hk h9)
  · simp only [Bool.and_eq_true, decide_eq_true_eq, locB] at h2
    obtain ⟨⟨⟨⟨⟨⟨⟨⟨⟨⟨h3, h4⟩, h4'⟩, h5⟩, h5'⟩, h5''⟩, h6⟩, h7⟩, h7'⟩, h8⟩, h9⟩ := h2
    cases vs with
    | nil => cases h8
    | cons v1 vs => cases vs with
      | nil => cases h8
      | cons v2 vs => cases vs with
        | nil => cases h8
        | cons v3 vs => cases vs with
          | cons _ _ => simp at h8
          | nil => exact par_ok3 g.calm nd (g.at_ h3) (g.at_ h4) (g.at_ h4') h5 h5' h5'' (by rw [g.sc]; exact h6) (by rw [g.sc]; exact h7) (by rw [g.sc]; exact h7') pa (swp_ok g.sc hk h9)
  · cases h2
mutual
theorem ps_ok (g : Gx T cal k X sc N) (tk : Takes X W) (hp : PassesOwn (model X.prog X.w) X.A X.env X.xe) (hk : sc.kind = .function) (hf : ∀ x, X.fn x = true) : ∀ (s : S) {p : Stmt}, chkS T sc N s p = true → PS X p (tS X W (st cal s))
  | .asg tg e, p, h => by
    unfold chkS at h
    split at h
    · rw [Bool.and_eq_true, Bool.and_eq_true] at h
      exact asg_ok g tk hk hf h.1.1 h.1.2 h.2
    · cases h
  | .par is es, p, h => by
    unfold chkS at h
    split at h
    · rw [Bool.and_eq_true] at h
      exact par_ok g tk hk h.1 h.2
    · cases h
  | .setix o i e, p, h => by
    unfold chkS at h
    split at h
    · simp only [Bool.and_eq_true] at h
      exact setix_ok h.1.1.1.1 h.1.1.1.2 (pe_ok o g tk h.1.1.2) (pe_ok i g tk h.1.2) (pe_ok e g tk h.2)
    · cases h
  | .dput t o i e, p, h => by
    unfold chkS at h
    cases h
  | .asgx l e, p, h => by
    unfold chkS at h
    split at h
    · rw [Bool.and_eq_true, Bool.and_eq_true] at h
      exact asgx_ok g tk hk hf h.1.1 h.1.2 h.2
    · cases h
  | .ex e, p, h => by
    unfold chkS at h
    split at h
    · simp only [Bool.and_eq_true] at h
      exact ex_ok h.1 (pe_ok e g tk h.2)
    · cases h
  | .ret e, p, h => by
    unfold chkS at h
    split at h
    · exact ret_ok (pe_ok e g tk h)
    · rw [nil_eq h]
      exact retN_ok
    · cases h
  | .ife c a b, p, h => by
    unfold chkS at h
    split at h
    · simp only [Bool.and_eq_true] at h
      exact ife_ok (pt_ok c g tk h.1.1).1 (pss_ok g tk hp hk hf a h.1.2) (pss_ok g tk hp hk hf b h.2)
    · cases h
  | .for tg it body, p, h => by
    unfold chkS at h
    split at h
    · rw [Bool.and_eq_true, Bool.and_eq_true, Bool.and_eq_true] at h
      exact for_ok hp g.calm (pi_ok it g tk h.1.2) (chkT_ok g.nN g.nd g.sc g.calm (fun x _ => hf x) h.1.1.2) (pss_ok g tk hp hk hf body h.2) (fold_no h.1.1.1)
    · cases h
  | .whl c body, p, h => by
    unfold chkS at h
    split at h
    · simp only [Bool.and_eq_true] at h
      exact whl_ok hp (pt_ok c g tk h.1).1 (pss_ok g tk hp hk hf body h.2)
    · cases h
  | .brk, p, h => by
    unfold chkS at h
    split at h
    · exact brk_ok
    · cases h
  | .cnt, p, h => by
    unfold chkS at h
    split at h
    · exact cnt_ok
    · cases h
  | .pass, p, h => by
    unfold chkS at h
    split at h
    · exact pass_ok
    · exact doc_ok
    · cases h
  | .fgt _, p, h => absurd (show false = true from h) (by decide)
  | .never, p, h => never_ok
theorem pss_ok (g : Gx T cal k X sc N) (tk : Takes X W) (hp : PassesOwn (model X.prog X.w) X.A X.env X.xe) (hk : sc.kind = .function) (hf : ∀ x, X.fn x = true) : ∀ (l : List S) {ps : List Stmt}, chkSs T sc N l ps = true → PSs X ps (tS X W (sts cal l))
  | [], ps, h => by
    unfold chkSs at h
    split at h
    · exact nil_ok
    · cases h
  | .fgt is :: r, ps, h => fgt_ok (pss_ok g tk hp hk hf r (show chkSs T sc N r ps = true from h))
  | .asg tg e :: r, ps, h => by
    unfold chkSs at h
    split at h
    · rw [Bool.and_eq_true] at h
      exact cons_ok (ps_ok g tk hp hk hf (.asg tg e) h.1) (pss_ok g tk hp hk hf r h.2)
    · cases h
  | .par is es :: r, ps, h => by
    unfold chkSs at h
    split at h
    · rw [Bool.and_eq_true] at h
      exact cons_ok (ps_ok g tk hp hk hf (.par is es) h.1) (pss_ok g tk hp hk hf r h.2)
    · cases h
  | .setix o i e :: r, ps, h => by
    unfold chkSs at h
    split at h
    · rw [Bool.and_eq_true] at h
      exact cons_ok (ps_ok g tk hp hk hf (.setix o i e) h.1) (pss_ok g tk hp hk hf r h.2)
    · cases h
  | .dput t o i e :: r, ps, h => by
    unfold chkSs at h
    split at h
    · rw [Bool.and_eq_true] at h
      exact cons_ok (ps_ok g tk hp hk hf (.dput t o i e) h.1) (pss_ok g tk hp hk hf r h.2)
    · cases h
  | .asgx l e :: r, ps, h => by
    unfold chkSs at h
    split at h
    · rw [Bool.and_eq_true] at h
      exact cons_ok (ps_ok g tk hp hk hf (.asgx l e) h.1) (pss_ok g tk hp hk hf r h.2)
    · cases h
  | .ex e :: r, ps, h => by
    unfold chkSs at h
    split at h
    · rw [Bool.and_eq_true] at h
      exact cons_ok (ps_ok g tk hp hk hf (.ex e) h.1) (pss_ok g tk hp hk hf r h.2)
    · cases h
  | .ret e :: r, ps, h => by
    unfold chkSs at h
    split at h
    · rw [Bool.and_eq_true] at h
      exact cons_ok (ps_ok g tk hp hk hf (.ret e) h.1) (pss_ok g tk hp hk hf r h.2)
    · cases h
  | .ife c a b :: r, ps, h => by
    unfold chkSs at h
    split at h
    · rw [Bool.and_eq_true] at h
      exact cons_ok (ps_ok g tk hp hk hf (.ife c a b) h.1) (pss_ok g tk hp hk hf r h.2)
    · cases h
  | .for tg it body :: r, ps, h => by
    unfold chkSs at h
    split at h
    · rw [Bool.and_eq_true] at h
      exact cons_ok (ps_ok g tk hp hk hf (.for tg it body) h.1) (pss_ok g tk hp hk hf r h.2)
    · cases h
  | .whl c body :: r, ps, h => by
    unfold chkSs at h
    split at h
    · rw [Bool.and_eq_true] at h
      exact cons_ok (ps_ok g tk hp hk hf (.whl c body) h.1) (pss_ok g tk hp hk hf r h.2)
    · cases h
  | .brk :: r, ps, h => by
    unfold chkSs at h
    split at h
    · rw [Bool.and_eq_true] at h
      exact cons_ok (ps_ok g tk hp hk hf .brk h.1) (pss_ok g tk hp hk hf r h.2)
    · cases h
  | .cnt :: r, ps, h => by
    unfold chkSs at h
    split at h
    · rw [Bool.and_eq_true] at h
      exact cons_ok (ps_ok g tk hp hk hf .cnt h.1) (pss_ok g tk hp hk hf r h.2)
    · cases h
  | .pass :: r, ps, h => by
    unfold chkSs at h
    split at h
    · rw [Bool.and_eq_true] at h
      exact cons_ok (ps_ok g tk hp hk hf .pass h.1) (pss_ok g tk hp hk hf r h.2)
    · cases h
  | .never :: r, ps, h => by
    unfold chkSs at h
    split at h
    · rw [Bool.and_eq_true] at h
      exact cons_ok (ps_ok g tk hp hk hf .never h.1) (pss_ok g tk hp hk hf r h.2)
    · cases h
end
end
end Cy


set_option Elab.async false
set_option linter.all false
set_option maxRecDepth 100000
set_option maxHeartbeats 8000000
/-! L5a: functions. -/
namespace Cy
open PySem PySem.Spec PyProof.Rows L2

theorem fnG_of {P : Program} {w : World} {K : Fg} {mg : Str → Option Value} {base : Heap} {k : Nat} {f : Addr} {name qual : Str} {params : Arguments} {body : List Stmt} {scope : Scope} {dV kV doc pm cdv ct oc : Value} {an od : Option Addr}
    {osl : Array (Option Value)} {N ps : List Str} {sp : Sp} (lk : K.lookup f = some ⟨oc, od, .func (PySem.W.fnOf name qual params body scope dV kV doc pm an cdv ct), osl⟩) (hcd : PySem.W.codeIn K cdv qual = true) (S : FnScope N ps scope)
    (len : ∀ vs H Q E, sp vs H Q E → vs.length = ps.length)
    (hbody : ∀ (A : Around) (outer : List Env) (s : Shared) (H : Hp) (vs : List V) (Q : VK) (E : XK), Room k (A.deeper (envOfC qual scope s.heap.objs.size f cdv)) → A.guards = some [] → sp vs H Q E →
      ∃ t, PSs (cxOf (L2.CX P w) P w K mg base N qual scope f cdv A outer s H E) body t ∧ t { nx := fun _ H' => Q .non H', rt := Q } (L2.start N vs) H) :
    FnG P w K mg base (k + 1) f (PySem.W.fnOf name qual params body scope dV kV doc pm an cdv ct) ps sp := by
  refine ⟨len, fun A outer s H args us vs Q E hr hg e0 hb r hsp => ?_⟩
  have hl := len _ _ _ _ hsp
  have KX : K.In s.heap := e0.mod.kin.keeps fun b o e => (e0.bs b o e).1
  have lim : s.heap.NoLimit := e0.mod.nolimit.keeps fun b o e => (e0.bs b o e).1
  have hkind : ∀ y ∈ ps.zip us, scope.names.lookup y.1 = some .local ∨ (scope.names.lookup y.1 = some .cell ∧ ((cellsFrom (s.heap.objs.size + 1) scope.names []).lookup y.1).isSome = true) := fun ⟨n, v⟩ hy => by
    rcases S.par n (List.of_mem_zip hy).1 with q | q
    · exact .inl q
    · exact .inr ⟨q, PySem.W.cellsFrom_some _ _ _ (.inl q)⟩
  refine codeAny_call_function hr.depth (KX _ _ lk) rfl S.co S.gen rfl (PySem.W.codeRec_of KX hcd) (hb _ _ _ _ ?_)
  refine wpAny_newFunctionEnv_cells S.kind hkind fun env he s1 x => ?_
  subst he
  refine ⟨lim.keeps x.toInCall.keep, codeAny_func ?_⟩
  obtain ⟨t, ht, hq⟩ := hbody A outer s H vs Q E (hr.deeper _) hg hsp
  have I : Inv (cxOf (L2.CX P w) P w K mg base N qual scope f cdv A outer s H E) [] (L2.start N vs) H s1 := inv_start S hr.hd e0 hl r x
  refine wpAny_mono (ht.run [] s1 (L2.start N vs) H _ I hq) (fun fl s' hs => ?_) fun e s' hs => hs
  have fin : ∀ {σ' : Sg} {H' : Hp} {v : V} {u : Value}, Inv (cxOf (L2.CX P w) P w K mg base N qual scope f cdv A outer s H E) [] σ' H' s' → RelV v u → Q v H' → CE outer P w H s Q u s' :=
    fun {σ' H' v u} J rv q => ⟨v, H', J.os, J.bare, J.base, J.hok, rv, q⟩
  cases fl with
  | ret u =>
    obtain ⟨v, σ', H', J, rv, q⟩ := hs
    exact fin J rv q
  | next =>
    obtain ⟨σ', H', J, q⟩ := hs
    exact fin (v := V.non) (u := Value.none) J rfl q
  | brk =>
    obtain ⟨_, _, _, q⟩ := hs
    exact False.elim q
  | cont =>
    obtain ⟨_, _, _, q⟩ := hs
    exact False.elim q

section
variable {K : Fg} {mg : Str → Option Value} {E : XK} {al al1 : List Addr} {h h1 : Hs} {H H1 : Hp} {Q : VK}
theorem leave_ok {keep : Bool} {r : R} {v : V} (f : Fin K mg E (RR K) al h H Q (leave keep h.length r h1)) (st : Stp al h H al1 h1 H1) (hl : al.length = h.length) (rh : RH K al1 h1 H1) (rr : RR K al1 (UU al1 h1) H1 r v) : Q v H1 := by
  unfold leave at f
  split at f
  · exact f al1 H1 v st rh rr
  · cases r with
    | d x =>
      simp only at f
      split at f
      · rename_i b
        exact f (al1.take h.length) H1 v (stp_take st (by omega)) (rh_take rh b) (rr_take (r := .d x) rfl rr)
      · exact f.elim
    | ref m =>
      simp only at f
      split at f
      · rename_i hm
        split at f
        · rename_i b
          exact f (al1.take h.length) H1 v (stp_take st (by omega)) (rh_take rh b) (rr_take (r := .ref m) (by simp [R.below, hm]) rr)
        · exact f.elim
      · rename_i hm
        obtain ⟨a, ea, rfl⟩ := rr
        have nu : ¬ UU (al1.take h.length) (h1.take h.length) a := fun ⟨j, c, e1, e2, e3⟩ => by
          obtain ⟨q1, q2⟩ := getE_take e1
          have := al_inj rh q2 ea
          omega
        split at f
        · rename_i xs q
          split at f
          · rename_i b
            obtain ⟨vs, eh, rds⟩ := rh.at_ m _ a q ea
            exact f (al1.take h.length) H1 (.ref a) (stp_take st (by omega)) (rh_take rh b) (.lst nu (.inl eh) (RDs.keep keep_take rds))
          · exact f.elim
        · rename_i xs q
          split at f
          · rename_i b
            obtain ⟨vs, eh, rds⟩ := rh.at_ m _ a q ea
            exact f (al1.take h.length) H1 (.ref a) (stp_take st (by omega)) (rh_take rh b) (.lst nu (.inl eh) (RDs.keep keep_take rds))
          · exact f.elim
        · exact f.elim
theorem RRs.len {U : Mu} {rs : List R} {vs : List V} (r : RRs K al U H rs vs) : rs.length = vs.length := by
  induction r with
  | nil => rfl
  | cons _ _ ih => simp [ih]
theorem start_rs {N : List Str} {U : Mu} {rs : List R} {vs : List V} (r : RRs K al U H rs vs) : RS K al U H (rs.map some ++ List.replicate (N.length - vs.length) none) (L2.start N vs) := by
  unfold L2.start
  refine ⟨by simp [RRs.len r], fun i x e => ?_⟩
  by_cases hi : i < rs.length
  · rw [List.getElem?_append_left (by simpa using hi), List.getElem?_map] at e
    cases q : rs[i]? with
    | none => rw [q] at e; cases e
    | some y =>
      rw [q] at e
      cases e
      obtain ⟨v, e1, e2⟩ := Cy.Paired.get r q
      exact ⟨v, by rw [List.getElem?_append_left (by simpa [← RRs.len r] using hi), List.getElem?_map, e1]; rfl, e2⟩
  · rw [List.getElem?_append_right (by simpa using hi), List.getElem?_replicate] at e
    split at e <;> cases e
end

/-- all that is known of function f, named x -/
def FunFact (T : Tb) (fs : Nat → Option Fn) (K : Fg) (mg : Str → Option Value) (f : Nat) (x : Str) : Prop :=
  ∃ (a : Addr) (qual : Str) (params : Arguments) (body : List Stmt) (scope : Scope) (N ps : List Str) (fn : Fn) (fd : FuncData), fs f = some fn ∧ mg x = some (.ref a) ∧ FunD K x qual params body scope [] [] a fd ∧ Binds K fd ps [] ∧
    FnScope N ps scope ∧ fn.np = ps.length ∧ fn.ns = N.length ∧ chkSs T scope N fn.body body = true

theorem calls_ok {T : Tb} {fs : Nat → Option Fn} {P : Program} {w : World} {K : Fg} {mg : Str → Option Value} {base : Heap} (ff : ∀ f x, T.fnm f = some x → FunFact T fs K mg f x) (hg : GlobOk T K mg) (hd : DictOk T K w mg) (hft : FtabOk T K w mg) (hb : ∀ x ∈ bltN, mg x = none) :
    ∀ k, CallOk T (run fs k) k P w K mg base
  | 0 => fun f x hf => by
    obtain ⟨a, qual, params, body, scope, N, ps, fn, fd, h1, h2, h3, h4, h5, h6, h7, h8⟩ := ff f x hf
    refine ⟨a, fd, ps, h2, h3.kp, h4, ⟨fun vs H Q E h => ?_, fun A outer s H args us vs Q E hr hg e0 hb r hsp => ?_⟩⟩
    · obtain ⟨al, h, rs, _, _, q⟩ := h
      exact q.elim
    · obtain ⟨al, h, rs, _, _, q⟩ := hsp
      exact q.elim
  | k + 1 => fun f x hf => by
    have ih := calls_ok (P := P) (base := base) ff hg hd hft hb k
    obtain ⟨a, qual, params, body, scope, N, ps, fn, fd, h1, h2, h3, h4, h5, h6, h7, h8⟩ := ff f x hf
    have elim : ∀ {vs H Q E}, spM K mg (run fs (k + 1)) f vs H Q E → ∃ al h rs, RH K al h H ∧ RRs K al (UU al h) H rs vs ∧ rs.length = fn.np ∧ Fin K mg E (RR K) al h H Q (match sts (run fs k) fn.body (rs.map some ++ List.replicate (fn.ns - fn.np) none) h with
        | .nx _ h1 => leave fn.keep h.length (.d .none) h1
        | .rt r h1 => leave fn.keep h.length r h1
        | .ex e _ h1 => if below h.length (h1.take h.length) then .ex e (h1.take h.length) else .bad
        | _ => .bad) := fun {vs H Q E} z => by
      obtain ⟨al, h, rs, rh, rr, q⟩ := z
      have q : Fin K mg E (RR K) al h H Q (run fs (k + 1) f rs h) := q
      unfold run at q
      rw [h1] at q
      simp only [enter] at q
      split at q
      · rename_i hl
        exact ⟨al, h, rs, rh, rr, hl, q⟩
      · exact q.elim
    have len : ∀ vs H Q E, spM K mg (run fs (k + 1)) f vs H Q E → vs.length = ps.length := fun vs H Q E z => by
      obtain ⟨al, h, rs, rh, rr, hl, q⟩ := elim z
      rw [← RRs.len rr, hl, h6]
    obtain ⟨oc, od, dV, kV, doc, pm, an, cdv, ct, osl, rfl, lk, hcd, _, _⟩ := h3.ex
    refine ⟨a, _, ps, h2, h3.kp, h4, fnG_of lk hcd h5 len fun A outer s H vs Q E hr hgd hsp => ?_⟩
    have g : Gx T (run fs k) k (cxOf (L2.CX P w) P w K mg base N qual scope a cdv A outer s H E) scope N :=
      ⟨rfl, h5.nd, rfl, rfl, hr, hgd, ih, hg, hd, hft, hb⟩
    have tk : Takes (cxOf (L2.CX P w) P w K mg base N qual scope a cdv A outer s H E) (fun cls d _ H => E cls d H) := takes_of rfl rfl rfl rfl
    refine ⟨_, pss_ok g tk (passes_of rfl) h5.kind (fun _ => rfl) fn.body h8, ?_⟩
    obtain ⟨al, h, rs, rh, rr, hl, q⟩ := elim hsp
    have hlv : rs.length = vs.length := RRs.len rr
    refine ⟨al, h, rs.map some ++ List.replicate (fn.ns - fn.np) none, rh, ?_, ?_⟩
    · rw [h7, ← hl, hlv]
      exact start_rs rr
    · cases e : sts (run fs k) fn.body (rs.map some ++ List.replicate (fn.ns - fn.np) none) h with
      | nx ρ1 h1 =>
        rw [e] at q
        exact fun al' H' σ' st rh' rs' => leave_ok (r := .d .none) q st rh.len rh' .non
      | rt r h1 =>
        rw [e] at q
        exact fun al' H' v st rh' rr' => leave_ok q st rh.len rh' rr'
      | bk ρ1 h1 => rw [e] at q; exact q.elim
      | ct ρ1 h1 => rw [e] at q; exact q.elim
      | bad => rw [e] at q; exact q.elim
      | ex e1 ρ1 h1 =>
        rw [e] at q
        intro al' H' cls dd σ' st rh' rs' x
        have q : Fin K mg E (RR K) al h H Q (if below h.length (h1.take h.length) then .ex e1 (h1.take h.length) else .bad) := q
        split at q
        · rename_i b
          exact q (al'.take h.length) H' cls dd (stp_take st (Nat.le_of_eq rh.len)) (rh_take rh' b) x
        · exact q.elim
end Cy


set_option Elab.async false
set_option linter.all false
set_option maxRecDepth 100000
set_option maxHeartbeats 8000000
namespace Cy
open PySem PySem.Spec PyProof.Rows L2
theorem zip_look : ∀ {ps : List Str} {us : List Value} {n : Str}, us.length = ps.length → n ∈ ps → ((ps.zip us).lookup n).isSome = true
  | [], _, _, _, h => by simp at h
  | p :: ps, [], _, hl, _ => by simp at hl
  | p :: ps, u :: us, n, hl, h => by
    rw [List.zip_cons_cons, List.lookup_cons]
    cases e : n == p with
    | true => rfl
    | false =>
      rcases List.mem_cons.mp h with z | z
      · rw [z] at e; simp at e
      · exact zip_look (by simpa using hl) z
theorem zip_map : ∀ {ps qs : List Str} {us : List Value} {l : List (Str × Value)}, us.length = ps.length → ps.Nodup → (∀ n ∈ ps, l.lookup n = (ps.zip us).lookup n) → ps.filterMap (fun n => (l.lookup n).map (n, ·)) = ps.zip us
  | [], _, us, l, hl, nd, h => by simp
  | p :: ps, _, [], l, hl, nd, h => by simp at hl
  | p :: ps, qs, u :: us, l, hl, nd, h => by
    have h0 := h p List.mem_cons_self
    rw [List.zip_cons_cons, List.lookup_cons] at h0
    simp only [beq_self_eq_true] at h0
    rw [List.filterMap_cons, h0, List.zip_cons_cons]
    simp only [Option.map_some]
    rw [zip_map (qs := qs) (us := us) (by simpa using hl) (List.nodup_cons.mp nd).2 fun n hn => ?_]
    rw [h n (List.mem_cons_of_mem _ hn), List.zip_cons_cons, List.lookup_cons]
    have : (n == p) = false := by
      rw [beq_eq_false_iff_ne]
      rintro rfl
      exact (List.nodup_cons.mp nd).1 hn
    rw [this]
theorem bind_plain {x qual : Str} {as : List Arg} {body : List Stmt} {scope : Scope} {kV doc pm cdv ct : Value} {an : Option Addr} {us : List Value} (nd : (as.map (·.arg)).Nodup) (hl : us.length = (as.map (·.arg)).length) :
    bindArgs (PySem.W.fnOf x qual ⟨[], as, none, [], [], none, []⟩ body scope .none kV doc pm an cdv ct) ⟨us, []⟩ = pure ((as.map (·.arg)).zip us) := by
  have hm : ((as.map (·.arg)).filter fun n => (((as.map (·.arg)).zip us).lookup n).isNone) = [] := by
    rw [List.filter_eq_nil_iff]
    intro n hn
    have := zip_look hl hn
    cases e : ((as.map (·.arg)).zip us).lookup n with
    | none => rw [e] at this; cases this
    | some v => simp
  have hz := zip_map (qs := []) (us := us) (l := (as.map (·.arg)).zip us) hl nd fun n _ => rfl
  unfold bindArgs
  simp only [PySem.W.fnOf, List.map_nil, List.nil_append, List.append_nil, List.forIn_nil]
  generalize as.map (·.arg) = ps at *
  have e1 : seqItems? (.none : Value) = pure none := rfl
  rw [e1]
  have e2 : ¬ (us.length > ps.length) := by omega
  have e3 : (ps.take (ps.length - 0)).filter (fun n => ((ps.zip us).lookup n).isNone) = [] := by rw [Nat.sub_zero, List.take_length]; exact hm
  have e4 : List.drop (ps.length - 0) ps = [] := by simp
  have e5 : (List.drop (((none : Option (Array Value)).getD #[]).toList.length - ps.length) ((none : Option (Array Value)).getD #[]).toList) = [] := by simp
  show (if (decide (us.length > ps.length) && (none : Option Arg).isNone) = true then _ else _) = _
  rw [decide_eq_false e2, if_neg (by simp)]
  simp only [e5, List.length_nil, e3, e4]
  show (pure (List.filterMap (fun n => Option.map (fun x => (n, x)) (List.lookup n (ps.zip us))) ps) : Sem _) = _
  rw [hz]
end Cy


set_option Elab.async false
set_option linter.all false
set_option maxRecDepth 100000
set_option maxHeartbeats 8000000
/-! L5c: a row's table: checks, facts behind the head. -/
namespace Cy
open PySem PySem.Spec PyProof.Rows L2

/-- a function of the row: its number, its name, its place in the text, its names -/
structure Ent where
  id : Nat
  name : Str
  place : Nat
  ns : List Str

def plainA (a : Arguments) : Bool := a.posonlyargs.isEmpty && a.vararg.isNone && a.kwonlyargs.isEmpty && a.kw_defaults.isEmpty && a.kwarg.isNone && a.defaults.isEmpty
theorem plainA_ok {a : Arguments} (h : plainA a = true) : a = ⟨[], a.args, none, [], [], none, []⟩ := by
  obtain ⟨p1, p2, p3, p4, p5, p6, p7⟩ := a
  unfold plainA at h
  simp only [Bool.and_eq_true, List.isEmpty_iff, Option.isNone_iff_eq_none] at h
  obtain ⟨⟨⟨⟨⟨rfl, rfl⟩, rfl⟩, rfl⟩, rfl⟩, rfl⟩ := h
  rfl
def scB (N P : List Str) (sc : Scope) : Bool :=
  (match sc.kind with
    | .function => true
    | _ => false) && !sc.isCoroutine && !sc.isGenerator && decide N.Nodup && decide (N.take P.length = P) && (P.all fun x => decide (sc.names.lookup x = some .local) || decide (sc.names.lookup x = some .cell)) && sc.names.all fun y => !decide (y.2 = .free)
theorem scB_ok {N P : List Str} {sc : Scope} (h : scB N P sc = true) : FnScope N P sc := by
  unfold scB at h
  simp only [Bool.and_eq_true, Bool.not_eq_true', decide_eq_true_eq, List.all_eq_true, Bool.or_eq_true, decide_eq_false_iff_not] at h
  obtain ⟨⟨⟨⟨⟨⟨h1, h2⟩, h3⟩, h4⟩, h5⟩, h6⟩, h7⟩ := h
  refine ⟨?_, h2, h3, h4, h5, h6, h7⟩
  split at h1
  · assumption
  · cases h1
def tbOf (ents : List Ent) (gs : List (Nat × Str × D)) (ds : List (Nat × Str × List (D × D))) (ft : List (Nat × Str × List (Str × Str))) : Tb := ⟨fun f => (ents.find? fun e => e.id == f).map (·.name), gs, ds, ft⟩
def fnB (T : Tb) (fs : Nat → Option Fn) (e : Ent) (ps : Nat) (sc : Scope) (b : List Stmt) : Bool := match fs e.id with
  | some fn => decide (fn.np = ps) && decide (fn.ns = e.ns.length) && chkSs T sc e.ns fn.body b
  | none => false
def entB (T : Tb) (fs : Nat → Option Fn) (body : List Stmt) (e : Ent) : Bool := match body[e.place]? with
  | some (.FunctionDef n a b _ _ _ sc _ _ _) => decide (n = e.name) && plainA a && scB e.ns (a.args.map (·.arg)) sc && fnB T fs e (a.args.map (·.arg)).length sc b
  | _ => false
def dOf (body : List Stmt) (e : Ent) : He.DefD := match body[e.place]? with
  | some st => ⟨(e.name, none), e.name, e.name, defArgs st, defBody st, defScope st, [], []⟩
  | none => ⟨(e.name, none), e.name, e.name, defArgs (.Pass ⟨0, 0, 0, 0⟩), [], defScope (.Pass ⟨0, 0, 0, 0⟩), [], []⟩

/-! ### what is known of the module's constants -/
mutual
def cD (K : Fg) : D → Value → Bool
  | .none, .none => true
  | .bool b, .bool c => b == c
  | .int i, .int j _ => decide (i = j)
  | .str x, .str y _ => decide (x = y)
  | .tuple ds, .ref a => (match K.lookup a with
    | some ⟨.type c, _, .seq its _, _⟩ => decide (c = "tuple") && decide (its.size ≤ sizeLine) && cDs K ds its.toList
    | _ => false)
  | _, _ => false
def cDs (K : Fg) : List D → List Value → Bool
  | [], [] => true
  | d :: ds, u :: us => cD K d u && cDs K ds us
  | _, _ => false
end
mutual
theorem cD_ok {K : Fg} : ∀ {d : D} {u : Value}, cD K d u = true → ∃ v, RelV v u ∧ ∀ U H, RD K U H d v
  | .none, u, h => by
    cases u <;> simp [cD] at h
    exact ⟨.non, rfl, fun _ _ => .non⟩
  | .bool b, u, h => by
    cases u <;> simp [cD] at h
    subst h
    exact ⟨.bl b, rfl, fun _ _ => .bl b⟩
  | .int i, u, h => by
    cases u <;> simp [cD] at h
    subst h
    exact ⟨.int i, ⟨_, rfl⟩, fun _ _ => .int i⟩
  | .str x, u, h => by
    cases u <;> simp [cD] at h
    subst h
    exact ⟨.str x, ⟨_, rfl⟩, fun _ _ => .str x⟩
  | .list _, u, h => by cases u <;> simp [cD] at h
  | .dict _, u, h => by cases u <;> simp [cD] at h
  | .tuple ds, u, h => by
    cases u with
    | ref a =>
      unfold cD at h
      split at h
      · rename_i c od its n sl q
        simp only [Bool.and_eq_true, decide_eq_true_eq] at h
        obtain ⟨⟨rfl, h2⟩, h3⟩ := h
        obtain ⟨vs, rv, rd⟩ := cDs_ok h3
        exact ⟨.ref a, rfl, fun U H => .tupK ⟨_, its, n, q, rfl, rfl, h2, rv⟩ (rd U H)⟩
      · cases h
    | _ => simp [cD] at h
theorem cDs_ok {K : Fg} : ∀ {ds : List D} {us : List Value}, cDs K ds us = true → ∃ vs, Vals vs us ∧ ∀ U H, RDs K U H ds vs
  | [], [], _ => ⟨[], .nil, fun _ _ => .nil⟩
  | [], _ :: _, h => by simp [cDs] at h
  | _ :: _, [], h => by simp [cDs] at h
  | d :: ds, u :: us, h => by
    unfold cDs at h
    rw [Bool.and_eq_true] at h
    obtain ⟨v, r, rd⟩ := cD_ok h.1
    obtain ⟨vs, rs, rds⟩ := cDs_ok h.2
    exact ⟨v :: vs, .cons r rs, fun U H => .cons (rd U H) (rds U H)⟩
end
def cB (K : Fg) (x : Str) (d : D) : Bool := match PySem.W.nsIn K mainGlobals x with
  | some (some u) => cD K d u
  | _ => false
/-- a dict's entries -/
def dE (K : Fg) : List DictEntry → List (D × D) → Bool
  | [], [] => true
  | e :: es, (.str x, d) :: r => (match e.key with
    | .str y _ => decide (y = x)
    | _ => false) && cD K d e.val && dE K es r
  | _, _ => false
def dB (K : Fg) (x : Str) (kvs : List (D × D)) : Bool := match PySem.W.nsIn K mainGlobals x with
  | some (some (.ref a)) => (match K.lookup a with
    | some ⟨_, _, .dict es _, _⟩ => dE K es.toList kvs
    | _ => false)
  | _ => false

/-- a dict's entries, functions of the module -/
def fE (K : Fg) : List DictEntry → List (Str × Str) → Bool
  | [], [] => true
  | e :: es, (x, n) :: r => (match e.key with
    | .str y _ => decide (y = x)
    | _ => false) && (match e.val with
    | .ref a => (match PySem.W.nsIn K mainGlobals n with
      | some (some (.ref b)) => decide (a = b)
      | _ => false)
    | _ => false) && fE K es r
  | _, _ => false
def fB (K : Fg) (x : Str) (kvs : List (Str × Str)) : Bool := match PySem.W.nsIn K mainGlobals x with
  | some (some (.ref a)) => (match K.lookup a with
    | some ⟨_, _, .dict es _, _⟩ => fE K es.toList kvs
    | _ => false)
  | _ => false

/-! ### the script's own object taken out -/
def cutK (K : Fg) (a : Addr) : Fg := K.filter fun p => !(p.1 == a)
theorem cutK_ne {a b : Addr} (h : b ≠ a) : ∀ {K : Fg}, (cutK K a).lookup b = K.lookup b
  | [] => rfl
  | (c, o) :: r => by
    have ih := cutK_ne h (K := r)
    unfold cutK at ih ⊢
    rw [List.filter_cons]
    by_cases hc : c = a
    · subst hc
      simp only [beq_self_eq_true, Bool.not_true, Bool.false_eq_true, if_false]
      rw [ih, List.lookup_cons]
      have : (b == c) = false := by rw [beq_eq_false_iff_ne]; exact h
      rw [this]
    · have : (!(c == a)) = true := by simp [hc]
      simp only [this, if_true]
      rw [List.lookup_cons, List.lookup_cons, ih]
theorem cutK_self {a : Addr} : ∀ {K : Fg}, (cutK K a).lookup a = none
  | [] => rfl
  | (c, o) :: r => by
    have ih := cutK_self (a := a) (K := r)
    unfold cutK at ih ⊢
    rw [List.filter_cons]
    by_cases hc : c = a
    · subst hc
      simp only [beq_self_eq_true, Bool.not_true, Bool.false_eq_true, if_false]
      exact ih
    · have : (!(c == a)) = true := by simp [hc]
      simp only [this, if_true]
      rw [List.lookup_cons]
      have : (a == c) = false := by rw [beq_eq_false_iff_ne]; exact fun z => hc z.symm
      rw [this]
      exact ih
theorem cutK_in {K : Fg} {a : Addr} {h : Heap} (X : K.In h) : (cutK K a).In h := fun b o e => by
  by_cases hb : b = a
  · subst hb
    rw [cutK_self] at e
    cases e
  · rw [cutK_ne hb] at e
    exact X b o e

section
variable {K : Fg} {h : Heap} {a : Addr} {vs : List Value}
theorem cut_at {b : Addr} {o : Obj} (X : K.In h) (ha : h.get? a = some { cls := .type "list", data := .seq vs.toArray }) (e : K.lookup b = some o) (no : o.cls ≠ .type "list" ∨ ∀ its n, o.data ≠ .seq its n) : (cutK K a).lookup b = some o := by
  have hb : b ≠ a := by
    rintro rfl
    have q := X b o e
    rw [ha] at q
    cases q
    rcases no with z | z
    · exact z rfl
    · exact z _ _ rfl
  rw [cutK_ne hb]
  exact e
mutual
theorem cD_cut (X : K.In h) (ha : h.get? a = some { cls := .type "list", data := .seq vs.toArray }) : ∀ {d : D} {u : Value}, cD K d u = true → cD (cutK K a) d u = true
  | .none, u, h => by cases u <;> simp [cD] at h ⊢
  | .bool b, u, h => by cases u <;> simp [cD] at h ⊢; exact h
  | .int i, u, h => by cases u <;> simp [cD] at h ⊢; exact h
  | .str x, u, h => by cases u <;> simp [cD] at h ⊢; exact h
  | .list _, u, h => by cases u <;> simp [cD] at h
  | .dict _, u, h => by cases u <;> simp [cD] at h
  | .tuple ds, u, h => by
    cases u with
    | ref b =>
      unfold cD at h ⊢
      split at h
      · rename_i c od its n sl q
        simp only [Bool.and_eq_true, decide_eq_true_eq] at h
        obtain ⟨⟨rfl, h2⟩, h3⟩ := h
        rw [cut_at X ha q (.inl fun z => absurd (show Value.type "tuple" = .type "list" from z) (by decide))]
        simp only [Bool.and_eq_true, decide_eq_true_eq]
        exact ⟨⟨trivial, h2⟩, cDs_cut X ha h3⟩
      · cases h
    | _ => simp [cD] at h
theorem cDs_cut (X : K.In h) (ha : h.get? a = some { cls := .type "list", data := .seq vs.toArray }) : ∀ {ds : List D} {us : List Value}, cDs K ds us = true → cDs (cutK K a) ds us = true
  | [], [], h => rfl
  | [], _ :: _, h => by simp [cDs] at h
  | _ :: _, [], h => by simp [cDs] at h
  | d :: ds, u :: us, h => by
    unfold cDs at h ⊢
    rw [Bool.and_eq_true] at h ⊢
    exact ⟨cD_cut X ha h.1, cDs_cut X ha h.2⟩
end
theorem dE_cut (X : K.In h) (ha : h.get? a = some { cls := .type "list", data := .seq vs.toArray }) : ∀ {es : List DictEntry} {kvs : List (D × D)}, dE K es kvs = true → dE (cutK K a) es kvs = true
  | [], [], h => rfl
  | [], _ :: _, h => by simp [dE] at h
  | e :: es, [], h => by simp [dE] at h
  | e :: es, (k, d) :: r, h => by
    cases k with
    | str x =>
      unfold dE at h ⊢
      rw [Bool.and_eq_true, Bool.and_eq_true] at h ⊢
      exact ⟨⟨h.1.1, cD_cut X ha h.1.2⟩, dE_cut X ha h.2⟩
    | _ => simp [dE] at h
theorem codeIn_cut (X : K.In h) (ha : h.get? a = some { cls := .type "list", data := .seq vs.toArray }) {cdv : Value} {q : Str} (e : PySem.W.codeIn K cdv q = true) : PySem.W.codeIn (cutK K a) cdv q = true := by
  cases cdv with
  | ref c =>
    unfold PySem.W.codeIn at e ⊢
    simp only at e ⊢
    split at e
    · rename_i cl od vs' sl z
      rw [cut_at X ha z (.inr fun _ _ z => by cases z)]
      exact e
    · cases e
  | _ => simp [PySem.W.codeIn] at e
theorem funD_cut (X : K.In h) (ha : h.get? a = some { cls := .type "list", data := .seq vs.toArray }) {x qual : Str} {params : Arguments} {body : List Stmt} {scope : Scope} {f : Addr} {fd : FuncData} (F : FunD K x qual params body scope [] [] f fd) :
    FunD (cutK K a) x qual params body scope [] [] f fd := by
  obtain ⟨oc, od, dV, kV, doc, pm, an, cdv, ct, osl, rfl, lk, hcd, hD, hK⟩ := F.ex
  have lk' := cut_at X ha lk (.inr fun _ _ z => by cases z)
  refine ⟨⟨oc, od, dV, kV, doc, pm, an, cdv, ct, osl, rfl, lk', codeIn_cut X ha hcd, ?_, .inl rfl⟩, ?_⟩
  · rcases hD with z | ⟨z, _⟩
    · exact .inl z
    · exact absurd rfl z
  · unfold PySem.W.keepIn
    simp only [lk']
end
end Cy


set_option Elab.async false
set_option linter.all false
set_option maxRecDepth 100000
set_option maxHeartbeats 8000000
/-! L5d: the hook of a row, its facts, the law's end. -/
namespace Cy
open PySem PySem.Spec PyProof.Rows L2

theorem isStr_at {y z : Str} {t : Tok} : (Value.str y t).isStr z = (y == z) := rfl
theorem dE_ref {K : Fg} : ∀ {es : List DictEntry} {kvs : List (D × D)}, dE K es kvs = true → es.any (·.refKey) = false
  | [], [], _ => rfl
  | [], _ :: _, h => by simp [dE] at h
  | e :: es, [], h => by simp [dE] at h
  | e :: es, (k, d) :: r, h => by
    cases k with
    | str x =>
      unfold dE at h
      rw [Bool.and_eq_true, Bool.and_eq_true] at h
      rw [List.any_cons, dE_ref h.2, Bool.or_false]
      have h1 := h.1.1
      split at h1
      · rename_i y t q
        unfold DictEntry.refKey
        rw [q]
      · cases h1
    | _ => simp [dE] at h
theorem dE_find {K : Fg} {z : Str} : ∀ {es : List DictEntry} {kvs : List (D × D)}, dE K es kvs = true → match findK z kvs with
    | none => es.find? (·.key.isStr z) = none
    | some y => ∃ e, es.find? (·.key.isStr z) = some e ∧ cD K y e.val = true
  | [], [], _ => rfl
  | [], _ :: _, h => by simp [dE] at h
  | e :: es, [], h => by simp [dE] at h
  | e :: es, (k, d) :: r, h => by
    cases k with
    | str x =>
      unfold dE at h
      rw [Bool.and_eq_true, Bool.and_eq_true] at h
      have ih := dE_find (z := z) h.2
      have h1 := h.1.1
      split at h1
      · rename_i y t q
        have q1 : y = x := of_decide_eq_true h1
        subst q1
        have q2 : e.key.isStr z = (y == z) := by rw [q]; rfl
        unfold findK
        rw [List.find?_cons, q2]
        by_cases hz : y = z
        · subst hz
          simp only [if_true, beq_self_eq_true]
          exact ⟨e, rfl, h.1.2⟩
        · have : (y == z) = false := by rw [beq_eq_false_iff_ne]; exact hz
          simp only [if_neg hz, this]
          exact ih
      · cases h1
    | _ => simp [dE] at h

/-! ### the hook -/
def keysD : List (D × D) → List Str
  | [] => []
  | (.str x, _) :: r => x :: keysD r
  | _ :: r => keysD r
def faOf (ents : List Ent) : List He.Fa := (ents.map fun e => He.Fa.glo e.name) ++ bltN.map .free
def tsOf (ds : List (Nat × Str × List (D × D))) (ft : List (Nat × Str × List (Str × Str))) : List He.Tab := (ds.map fun p => ((fun K => He.ga K p.2.1), keysD p.2.2)) ++ ft.map fun p => ((fun K => He.ga K p.2.1), p.2.2.map (·.1))
def conB (gs : List (Nat × Str × D)) (ds : List (Nat × Str × List (D × D))) (ft : List (Nat × Str × List (Str × Str))) (K : Fg) : Bool := (gs.all fun p => cB K p.2.1 p.2.2) && (ds.all fun p => dB K p.2.1 p.2.2) && ft.all fun p => fB K p.2.1 p.2.2
structure Row where
  body : List Stmt
  ents : List Ent
  gs : List (Nat × Str × D)
  ds : List (Nat × Str × List (D × D))
  ft : List (Nat × Str × List (Str × Str))
def Row.fn (r : Row) : List He.DefD := r.ents.map (dOf r.body)
def Row.T (r : Row) : Tb := tbOf r.ents r.gs r.ds r.ft
def Row.obs (r : Row) (n : Nat) (g : Addr → Option Obj) : He.AlT × Bool := (He.obsT (faOf r.ents) r.fn (tsOf r.ds r.ft) (He.frG g (He.asD g n)), conB r.gs r.ds r.ft (He.frG g (He.asD g n)))
def Row.hook (r : Row) (n : Nat) : PySem.W.Hook where
  α := He.AlT × Bool
  obs := fun s => r.obs n s.heap.get?
  val := fun w => (He.valT r.fn (tsOf r.ds r.ft) w, true)
  says := fun w h => ∃ K : Fg, K.In h ∧ He.SaysT (faOf r.ents) r.fn (tsOf r.ds r.ft) w K ∧ conB r.gs r.ds r.ft K = true
  of := fun _ _ e => ⟨_, He.frG_in, congrArg (fun z : He.AlT × Bool => z.1) e, congrArg (fun z : He.AlT × Bool => z.2) e⟩
  keeps := fun _ _ _ ⟨K, hK, c⟩ k => ⟨K, PySem.W.Frag.In.keeps hK k, c⟩
theorem Row.obs_eq {r : Row} {n : Nat} {g : Addr → Option Obj} {s : Shared} (h : ∀ a, g a = s.heap.get? a) : r.obs n g = (r.hook n).obs s := by
  have e : g = s.heap.get? := funext h
  rw [e] <;> rfl

/-! ### facts -/
section
variable {r : Row} {K : Fg} {h : Heap} {mg : Str → Option Value} {w : World} {a : Addr} {vs : List Value} {fs : Nat → Option Fn}
theorem find_ent {ents : List Ent} {f : Nat} {x : Str} (hf : ((ents.find? fun e => e.id == f).map (·.name)) = some x) : ∃ e ∈ ents, e.id = f ∧ e.name = x := by
  cases q : ents.find? fun e => e.id == f with
  | none => rw [q] at hf; cases hf
  | some e =>
    rw [q] at hf
    have h1 := List.find?_some q
    exact ⟨e, List.mem_of_find?_eq_some q, by simpa using h1, by simpa using hf⟩
theorem row_fn (X : K.In h) (G : h.Ns mainGlobals mg) (c : He.SaysT (faOf r.ents) r.fn (tsOf r.ds r.ft) w K) (ha : h.get? a = some { cls := .type "list", data := .seq vs.toArray }) (ck : (r.ents.all fun e => entB r.T fs r.body e) = true) :
    ∀ f x, r.T.fnm f = some x → FunFact r.T fs (cutK K a) mg f x := by
  intro f x hf
  obtain ⟨e, he, rfl, rfl⟩ := find_ent (ents := r.ents) hf
  have ce := List.all_eq_true.mp ck e he
  unfold entB at ce
  have hd : dOf r.body e ∈ r.fn := List.mem_map_of_mem he
  obtain ⟨fd, F⟩ := He.SaysD.defs c.d hd
  have hglo : mg e.name = some (.ref (He.ga K e.name)) := He.glo_ok X G (He.SaysD.facts c.d (f := .glo e.name) (List.mem_append_left _ (List.mem_map_of_mem he)))
  split at ce
  · rename_i n ar b d1 d2 d3 sc d4 d5 d6 q
    rw [Bool.and_eq_true, Bool.and_eq_true, Bool.and_eq_true] at ce
    obtain ⟨⟨⟨c1, c2⟩, c3⟩, c4⟩ := ce
    have S := scB_ok c3
    have ed : dOf r.body e = ⟨(e.name, none), e.name, e.name, ar, b, sc, [], []⟩ := by
      unfold dOf
      rw [q]
      rfl
    rw [ed] at F
    have F2 : FunD K e.name e.name ar b sc [] [] (He.ga K e.name) fd := F
    have F3 := funD_cut X ha F2
    unfold fnB at c4
    split at c4
    · rename_i fn q2
      simp only [Bool.and_eq_true, decide_eq_true_eq] at c4
      refine ⟨_, e.name, ar, b, sc, e.ns, ar.args.map (·.arg), fn, fd, q2, hglo, F3, ?_, S, c4.1.1, c4.1.2, c4.2⟩
      refine FunD.bindsN F3 fun kV doc pm an cdv ct us hl => ?_
      have nd : (ar.args.map (·.arg)).Nodup := by rw [← S.pre]; exact S.nd.sublist (List.take_sublist _ _)
      rw [plainA_ok c2] at hl nd ⊢
      exact bind_plain nd hl
    · cases c4
  · cases ce
theorem row_glob (X : K.In h) (G : h.Ns mainGlobals mg) (c : conB r.gs r.ds r.ft K = true) (ha : h.get? a = some { cls := .type "list", data := .seq vs.toArray }) : GlobOk r.T (cutK K a) mg := by
  intro p hp
  unfold conB at c
  rw [Bool.and_eq_true, Bool.and_eq_true] at c
  have q := List.all_eq_true.mp c.1.1 p hp
  unfold cB at q
  split at q
  · rename_i u e
    obtain ⟨v, rv, rd⟩ := cD_ok (cD_cut X ha q)
    exact ⟨u, v, PySem.W.mg_of X G e, rv, rd⟩
  · cases q
theorem row_dict (X : K.In h) (G : h.Ns mainGlobals mg) (c : conB r.gs r.ds r.ft K = true) (c2 : He.SaysT (faOf r.ents) r.fn (tsOf r.ds r.ft) w K) (ha : h.get? a = some { cls := .type "list", data := .seq vs.toArray }) : DictOk r.T (cutK K a) w mg := by
  intro p hp
  unfold conB at c
  rw [Bool.and_eq_true, Bool.and_eq_true] at c
  have q := List.all_eq_true.mp c.1.2 p hp
  unfold dB at q
  split at q
  · rename_i b e
    have hga : He.ga K p.2.1 = b := by
      unfold He.ga
      rw [e]
    obtain ⟨i, hi, hpi⟩ := List.mem_iff_getElem.mp (show p ∈ r.ds from hp)
    obtain ⟨es, n, kd⟩ := He.SaysT.tab c2 i (t := ((fun K => He.ga K p.2.1), keysD p.2.2)) (by unfold tsOf; rw [List.getElem?_append_left (by simpa using hi), List.getElem?_map, List.getElem?_eq_getElem hi, hpi]; rfl)
    have kd : KDict K w (He.ga K p.2.1) es n := kd
    rw [hga] at kd
    rw [kd.at_] at q
    have q : dE K es.toList p.2.2 = true := q
    have at2 := cut_at X ha kd.at_ (.inr fun _ _ z => by cases z)
    have q2 := dE_cut X ha q
    refine ⟨b, es, n, PySem.W.mg_of X G e, ⟨at2, kd.lit, kd.low⟩, fun z => ?_⟩
    have fz := dE_find (z := z) q2
    have rf := dE_ref q2
    cases hz : findK z p.2.2 with
    | none =>
      rw [hz] at fz
      simp only at fz ⊢
      unfold PySem.W.nsIn
      simp only [at2, fz, rf, Bool.false_eq_true, if_false]
    | some y =>
      rw [hz] at fz
      obtain ⟨en, e1, e2⟩ := fz
      obtain ⟨v, rv, rd⟩ := cD_ok e2
      refine ⟨en.val, v, ?_, rv, rd⟩
      unfold PySem.W.nsIn
      simp only [at2, e1]
  · cases q
theorem fE_find {K : Fg} {z nm : Str} : ∀ {es : List DictEntry} {kvs : List (Str × Str)}, fE K es kvs = true → lookS z kvs = some nm → ∃ e b, es.find? (·.key.isStr z) = some e ∧ e.val = .ref b ∧ PySem.W.nsIn K mainGlobals nm = some (some (.ref b))
  | [], [], _, e => by cases e
  | [], _ :: _, h, _ => by simp [fE] at h
  | _ :: _, [], h, _ => by simp [fE] at h
  | e :: es, (x, n) :: r, h, l => by
    unfold fE at h
    rw [Bool.and_eq_true, Bool.and_eq_true] at h
    obtain ⟨⟨h1, h2⟩, h3⟩ := h
    have hk : e.key.isStr z = (x == z) := by
      split at h1
      · rename_i y t q
        have q1 : y = x := of_decide_eq_true h1
        rw [q, q1]
        rfl
      · cases h1
    unfold lookS at l
    rw [List.find?_cons, hk]
    by_cases hz : x = z
    · subst hz
      rw [if_pos rfl] at l
      cases l
      simp only [beq_self_eq_true]
      split at h2
      · rename_i b1 q1
        split at h2
        · rename_i b2 q2
          have := of_decide_eq_true h2
          subst this
          exact ⟨e, b1, rfl, q1, q2⟩
        · cases h2
      · cases h2
    · rw [if_neg hz] at l
      have : (x == z) = false := by rw [beq_eq_false_iff_ne]; exact hz
      rw [this]
      exact fE_find h3 l
theorem row_ftab (X : K.In h) (G : h.Ns mainGlobals mg) (c : conB r.gs r.ds r.ft K = true) (c2 : He.SaysT (faOf r.ents) r.fn (tsOf r.ds r.ft) w K) (ha : h.get? a = some { cls := .type "list", data := .seq vs.toArray }) : FtabOk r.T (cutK K a) w mg := by
  intro p hp
  unfold conB at c
  rw [Bool.and_eq_true, Bool.and_eq_true] at c
  have q := List.all_eq_true.mp c.2 p hp
  unfold fB at q
  split at q
  · rename_i b e
    have hga : He.ga K p.2.1 = b := by
      unfold He.ga
      rw [e]
    obtain ⟨i, hi, hpi⟩ := List.mem_iff_getElem.mp (show p ∈ r.ft from hp)
    obtain ⟨es, n, kd⟩ := He.SaysT.tab c2 (r.ds.length + i) (t := ((fun K => He.ga K p.2.1), p.2.2.map (·.1))) (by
      unfold tsOf
      rw [List.getElem?_append_right (by simp), List.length_map, List.getElem?_map]
      have : r.ds.length + i - r.ds.length = i := by omega
      rw [this, List.getElem?_eq_getElem hi, hpi]
      rfl)
    have kd : KDict K w (He.ga K p.2.1) es n := kd
    rw [hga] at kd
    rw [kd.at_] at q
    have q : fE K es.toList p.2.2 = true := q
    have at2 := cut_at X ha kd.at_ (.inr fun _ _ z => by cases z)
    refine ⟨b, es, n, PySem.W.mg_of X G e, ⟨at2, kd.lit, kd.low⟩, fun z nm l => ?_⟩
    obtain ⟨en, b2, e1, e2, e3⟩ := fE_find q l
    refine ⟨b2, ?_, PySem.W.mg_of X G e3⟩
    unfold PySem.W.nsIn
    simp only [at2, e1, e2]
  · cases q
theorem row_free (X : K.In h) (G : h.Ns mainGlobals mg) (c : He.SaysT (faOf r.ents) r.fn (tsOf r.ds r.ft) w K) : ∀ x ∈ bltN, mg x = none := fun x hx =>
  He.free_ok X G (He.SaysD.facts c.d (f := .free x) (List.mem_append_right _ (List.mem_map_of_mem hx)))
end
end Cy


set_option Elab.async false
set_option linter.all false
set_option maxRecDepth 100000
set_option maxHeartbeats 8000000
/-! L5e: the law's end. -/
namespace Cy
open PySem PySem.Spec PyProof.Rows L2

def okT : Out R → Bool
  | .ok (.d (.bool true)) _ => true
  | _ => false

theorem walkC {l : PySem.W.OpenLaw} {r : Row} {n k m lid : Nat} {q : Program} {loose : List Str} {XP : (Str → Option Value) → Heap → Prop} {d : DefRec} {fs : Nat → Option Fn} (hn : l.most = some n) (hn2 : n ≤ sizeLine) (hdf : d.params.defaults = []) (hr : Room k callerA)
    (ck : (r.ents.all fun e => entB r.T fs r.body e) = true) (hl : r.T.fnm lid = some d.name) (law : ∀ ns : List Int, ns.length ≤ n → okT (run fs k lid [.d (.list (ns.map PyData.int))] []) = true) :
    PySem.W.WalkO q loose XP (r.hook m).says l.row.toRowW d [] (fun f vs => PySem.call f vs) := by
  refine Att.attach_call hn hdf fun w s₀ s₁ mg mb fa o pm cd doc a vs ns G Y ho hd hcd hmg hobj hints hlen hg => ?_
  obtain ⟨K, X, c, cc⟩ := Y
  have X2 := cutK_in (a := a) X
  have ff := row_fn (mg := mg) X G.T.g c hobj ck
  have lenV := hints.length
  -- what is tracked: the script alone
  let H : Hp := fun b => if b = a then some (.frz { cls := .type "list", data := .seq vs.toArray } (.lst (ns.map V.int))) else none
  have Ha : H a = some (.frz { cls := .type "list", data := .seq vs.toArray } (.lst (ns.map V.int))) := if_pos rfl
  have Hn : ∀ {b : Addr}, b ≠ a → H b = none := fun hb => if_neg hb
  have eqa : ∀ {b : Addr} {u : HO}, H b = some u → b = a := fun {b u} e => by
    by_cases hb : b = a
    · exact hb
    · rw [Hn hb] at e; cases e
  have hok : HOk l.prog w H s₁.heap := fun b u e => by
    cases eqa e
    rw [Ha] at e
    cases e
    exact ⟨hobj, by rw [List.length_map]; exact Nat.le_trans hlen hn2, vs, _, vals_ints hints, hobj⟩
  have base_of : ∀ {b : Addr} {o : Obj}, b ≠ a → s₁.heap.get? b = some o → (hidT s₁.heap H).get? b = some o := fun hb e => hidT_get e (Hn hb)
  have nsB : ∀ {b : Addr} {m : Str → Option Value}, s₁.heap.Ns b m → (hidT s₁.heap H).Ns b m := fun {b m} ⟨o, es, ep, e, dd, z⟩ => ⟨o, es, ep, base_of (fun hb => by
    rw [hb, hobj] at e
    cases e
    cases (show Data.seq vs.toArray _ = Data.dict es ep from dd)) e, dd, z⟩
  have KB : (cutK K a).In (hidT s₁.heap H) := fun b o e => base_of (fun hb => by
    rw [hb, cutK_self] at e
    cases e) (X2 b o e)
  have M : Mod (cutK K a) mg (hidT s₁.heap H) := ⟨KB, nsB G.T.g, ⟨mb, nsB G.T.b, G.T.builtins⟩, let ⟨mc, z1, z2⟩ := G.T.nolimit; ⟨mc, nsB z1, z2⟩⟩
  have E0 : Env0 l.prog w (cutK K a) mg (hidT s₁.heap H) callerA [] s₁ H :=
    ⟨rfl, M, fun b o e => of_hidT e, Nat.le_of_eq (hidT_size _ _), trivial, fun b hb => absurd (show b ∈ ([] : List Addr) from hb) (by simp), hok, .of_eq hg⟩
  -- the law's own promise
  obtain ⟨f1, fd, ps, e1, kp, hb, F⟩ := calls_ok (P := l.prog) (w := w) (base := hidT s₁.heap H) ff (row_glob X G.T.g cc hobj) (row_dict X G.T.g cc c hobj) (row_ftab X G.T.g cc c hobj) (row_free X G.T.g c) k lid d.name hl
  rw [hmg] at e1
  cases e1
  have lw := law ns hlen
  have sp : spM (cutK K a) mg (run fs k) lid [.ref a] H (fun v _ => v = .bl true) (fun _ _ _ => False) := by
    refine ⟨[], [], [.d (.list (ns.map PyData.int))], ⟨rfl, List.nodup_nil, fun n c b e => by simp at e⟩, .cons (.lst (fun ⟨n, c, e, _⟩ => by simp at e) (.inr ⟨_, Ha⟩) (RDs.ofInts ns)) .nil, ?_⟩
    unfold okT at lw
    split at lw
    · rename_i h1 e
      rw [e]
      intro al' H' v _ _ rr
      cases rr
      rfl
    · cases lw
  have hps : ps.length = 1 := (F.len _ _ _ _ sp).symm
  have bd := hb s₁ [.ref a] X2 (by rw [hps]; rfl)
  rw [List.append_nil] at bd
  refine codeAny_mono (F.run callerA [] s₁ H ⟨[.ref a], []⟩ [.ref a] [.ref a] _ _ hr rfl E0 bd (.cons rfl .nil) sp) fun res s' hq => ?_
  cases res with
  | error e =>
    obtain ⟨_, _, _, _, _, _, _, _, _, _, _, _, z⟩ := hq
    exact z.elim
  | ok fl =>
    cases fl with
    | next => exact False.elim hq
    | brk => exact False.elim hq
    | cont => exact False.elim hq
    | ret u =>
      obtain ⟨v, H', os, bare, un, hok', r', qv⟩ := hq
      have qv' : v = .bl true := qv
      subst qv'
      cases (show u = Value.bool true from r')
      refine ⟨rfl, OldK.of_keep fun b o e => ?_, os, bare⟩
      by_cases hba : b = a
      · subst hba
        have z2 := un.frzs b _ _ Ha
        obtain ⟨e1, _⟩ := hok b _ Ha
        obtain ⟨e2, _⟩ := hok' b _ z2
        rw [e] at e1
        cases e1
        exact e2
      · exact un.keep b o e (Hn hba) (fun z => absurd (show b ∈ ([] : List Addr) from z) (by simp)) (by simp)
end Cy


set_option Elab.async false
set_option linter.all false
set_option maxRecDepth 100000
namespace Cy
open PySem

def B_is_whole_1 : Fn := { np := 1, ns := 1, keep := false, body := [
    .ret (.and (.isi .int (.v 0)) (.not (.isi .bool (.v 0))))] }
def B_is_among_2 : Fn := { np := 3, ns := 3, keep := false, body := [
    .ret (.and (.call 1 [(.v 0)]) (.chn .LtE .LtE (.v 1) (.v 0) (.v 2)))] }
def B_is_deed_3 : Fn := { np := 1, ns := 1, keep := false, body := [
    .ife (.or (.not (.isi .tuple (.v 0))) (.or (.cmp .Eq (.v 0) (.tup [])) (.not (.isi .str (.ix (.v 0) (.lit (.int 0))))))) [.ret (.lit (.bool false))] [],
    .ife (.cmp .In (.ix (.v 0) (.lit (.int 0))) (.gl 0 (.tuple [(.str (PySem.Str.ofString "bide")), (.str (PySem.Str.ofString "fill")), (.str (PySem.Str.ofString "lift")), (.str (PySem.Str.ofString "set"))]))) [.ret (.cmp .Eq (.bif false .len [(.v 0)]) (.lit (.int 1)))] [],
    .ret (.and (.cmp .In (.ix (.v 0) (.lit (.int 0))) (.gl 2 (.tuple [(.str (PySem.Str.ofString "go")), (.str (PySem.Str.ofString "hand"))]))) (.and (.cmp .Eq (.bif false .len [(.v 0)]) (.lit (.int 2))) (.call 2 [(.ix (.v 0) (.lit (.int 1))), (.lit (.int 0)), (.gl 1 (.int 99))])))] }
def B_are_costs_18 : Fn := { np := 1, ns := 6, keep := false, body := [
    .ife (.or (.not (.isi .tuple (.v 0))) (.or (.cmp .NotEq (.bif false .len [(.v 0)]) (.lit (.int 4))) (.not (.bif false .all [(.comp false [1] (.call 1 [(.v 1)]) (.n 1) (.v 0) (.lit (.bool true)))])))) [.ret (.lit (.bool false))] [],
    .asg (.t [(.n 2), (.n 3), (.n 4), (.n 5)]) (.v 0),
    .ret (.and (.chn .LtE .LtE (.lit (.int 0)) (.v 2) (.lit (.int 3))) (.and (.chn .LtE .LtE (.v 2) (.v 3) (.lit (.int 5))) (.and (.chn .LtE .LtE (.lit (.int 1)) (.v 4) (.lit (.int 9))) (.chn .LtE .LtE (.lit (.int 1)) (.v 5) (.lit (.int 8))))))] }
def B_is_text_19 : Fn := { np := 1, ns := 2, keep := false, body := [
    .ret (.and (.isi .str (.v 0)) (.and (.chn .LtE .LtE (.lit (.int 1)) (.bif false .len [(.v 0)]) (.gl 9 (.int 5))) (.bif false .all [(.comp false [1] (.cmp .In (.v 1) (.gl 8 (.str (PySem.Str.ofString ".#SDPL")))) (.n 1) (.v 0) (.lit (.bool true)))])))] }
def B_is_floor_20 : Fn := { np := 1, ns := 2, keep := false, body := [
    .ife (.or (.not (.isi .tuple (.v 0))) (.or (.not (.chn .LtE .LtE (.lit (.int 1)) (.bif false .len [(.v 0)]) (.gl 9 (.int 5)))) (.not (.bif false .all [(.comp false [1] (.call 19 [(.v 1)]) (.n 1) (.v 0) (.lit (.bool true)))])))) [.ret (.lit (.bool false))] [],
    .ret (.bif false .all [(.comp false [1] (.cmp .Eq (.bif false .len [(.v 1)]) (.bif false .len [(.ix (.v 0) (.lit (.int 0)))])) (.n 1) (.v 0) (.lit (.bool true)))])] }
def B_are_floors_21 : Fn := { np := 1, ns := 5, keep := false, body := [
    .ife (.or (.not (.isi .tuple (.v 0))) (.or (.not (.chn .LtE .LtE (.lit (.int 1)) (.bif false .len [(.v 0)]) (.gl 10 (.int 2)))) (.not (.bif false .all [(.comp false [1] (.call 20 [(.v 1)]) (.n 1) (.v 0) (.lit (.bool true)))])))) [.ret (.lit (.bool false))] [],
    .asg (.n 2) (.ix (.v 0) (.lit (.int 0))),
    .ife (.not (.bif false .all [(.comp false [1] (.and (.cmp .Eq (.bif false .len [(.v 1)]) (.bif false .len [(.v 2)])) (.cmp .Eq (.bif false .len [(.ix (.v 1) (.lit (.int 0)))]) (.bif false .len [(.ix (.v 2) (.lit (.int 0)))]))) (.n 1) (.v 0) (.lit (.bool true)))])) [.ret (.lit (.bool false))] [],
    .asg (.n 3) (.mth false .join (.lit (.str (PySem.Str.ofString ""))) [(.comp2 false [1, 4] [4] (.v 4) (.n 1) (.v 0) (.lit (.bool true)) (.n 4) (.v 1) (.lit (.bool true)))]),
    .ret (.and (.cmp .LtE (.bif false .len [(.v 3)]) (.gl 12 (.int 12))) (.cmp .NotEq (.v 3) (.bin false .Mult (.gl 11 (.str (PySem.Str.ofString "#"))) (.bif false .len [(.v 3)]))))] }
def B_signs_of_22 : Fn := { np := 1, ns := 3, keep := false, body := [
    .ret (.mth false .join (.lit (.str (PySem.Str.ofString ""))) [(.comp2 false [1, 2] [2] (.v 2) (.n 1) (.v 0) (.lit (.bool true)) (.n 2) (.v 1) (.lit (.bool true)))])] }
def B_is_shut_row_23 : Fn := { np := 2, ns := 6, keep := false, body := [
    .ife (.or (.not (.isi .tuple (.v 1))) (.or (.cmp .NotEq (.bif false .len [(.v 1)]) (.lit (.int 3))) (.not (.bif false .all [(.comp false [2] (.call 1 [(.v 2)]) (.n 2) (.v 1) (.lit (.bool true)))])))) [.ret (.lit (.bool false))] [],
    .asg (.t [(.n 3), (.n 4), (.n 5)]) (.v 1),
    .ret (.and (.chn .LtE .Lt (.lit (.int 0)) (.v 3) (.bif false .len [(.v 0)])) (.and (.cmp .NotEq (.ix (.v 0) (.v 3)) (.gl 11 (.str (PySem.Str.ofString "#")))) (.chn3 .LtE .LtE .LtE (.lit (.int 1)) (.v 4) (.v 5) (.gl 13 (.int 99)))))] }
def B_rises_24 : Fn := { np := 1, ns := 3, keep := false, body := [
    .ret (.bif false .all [(.comp false [1, 2] (.cmp .Lt (.v 1) (.v 2)) (.t [(.n 1), (.n 2)]) (.zip (.sl false (.v 0) .nil (.neg (.lit (.int 1)))) (.sl false (.v 0) (.lit (.int 1)) .nil)) (.lit (.bool true)))])] }
def B_is_yard_25 : Fn := { np := 1, ns := 4, keep := false, body := [
    .ife (.or (.not (.isi .tuple (.v 0))) (.or (.cmp .NotEq (.bif false .len [(.v 0)]) (.lit (.int 3))) (.or (.not (.call 21 [(.ix (.v 0) (.lit (.int 0)))])) (.not (.call 18 [(.ix (.v 0) (.lit (.int 1)))]))))) [.ret (.lit (.bool false))] [],
    .asg (.t [(.n 1), (.n 2)]) (.tup [(.call 22 [(.ix (.v 0) (.lit (.int 0)))]), (.ix (.v 0) (.lit (.int 2)))]),
    .ife (.or (.not (.isi .tuple (.v 2))) (.or (.cmp .Gt (.bif false .len [(.v 2)]) (.gl 14 (.int 4))) (.not (.bif false .all [(.comp false [3] (.call 23 [(.v 1), (.v 3)]) (.n 3) (.v 2) (.lit (.bool true)))])))) [.ret (.lit (.bool false))] [],
    .ret (.call 24 [(.v 2)])] }
def B_need_yard_26 : Fn := { np := 1, ns := 1, keep := false, body := [
    .ife (.not (.call 25 [(.v 0)])) [.never] []] }
def B_sign_at_27 : Fn := { np := 2, ns := 2, keep := false, body := [
    .ret (.ix (.call 22 [(.ix (.v 0) (.lit (.int 0)))]) (.v 1))] }
def B_cells_of_28 : Fn := { np := 1, ns := 1, keep := false, body := [
    .ret (.lrg false (.bif false .len [(.call 22 [(.ix (.v 0) (.lit (.int 0)))])]))] }
def B_is_cell_29 : Fn := { np := 2, ns := 2, keep := false, body := [
    .ret (.and (.call 2 [(.v 1), (.lit (.int 0)), (.bin false .Sub (.bif false .len [(.call 28 [(.v 0)])]) (.lit (.int 1)))]) (.cmp .NotEq (.call 27 [(.v 0), (.v 1)]) (.gl 11 (.str (PySem.Str.ofString "#")))))] }
def B_is_carrier_30 : Fn := { np := 3, ns := 7, keep := false, body := [
    .ife (.or (.not (.isi .tuple (.v 2))) (.or (.cmp .NotEq (.bif false .len [(.v 2)]) (.lit (.int 4))) (.not (.call 29 [(.v 0), (.ix (.v 2) (.lit (.int 0)))])))) [.ret (.lit (.bool false))] [],
    .asg (.t [(.n 3), (.n 4), (.n 5), (.n 6)]) (.v 2),
    .ife (.or (.not (.call 2 [(.v 4), (.lit (.int 0)), (.ix (.ix (.v 0) (.lit (.int 1))) (.lit (.int 3)))])) (.not (.isi .bool (.v 6)))) [.ret (.lit (.bool false))] [],
    .ret (.or (.cmp .Is (.v 5) (.lit .none)) (.call 2 [(.v 5), (.lit (.int 0)), (.bin false .Sub (.v 1) (.lit (.int 1)))]))] }
def B_are_carriers_31 : Fn := { np := 3, ns := 9, keep := false, body := [
    .ife (.or (.not (.isi .tuple (.v 2))) (.not (.chn .LtE .LtE (.lit (.int 1)) (.bif false .len [(.v 2)]) (.gl 15 (.int 3))))) [.ret (.lit (.bool false))] [],
    .ife (.not (.bif false .all [(.comp false [3] (.call 30 [(.v 0), (.bif false .len [(.v 1)]), (.v 3)]) (.n 3) (.v 2) (.lit (.bool true)))])) [.ret (.lit (.bool false))] [],
    .asg (.n 4) (.comp false [3] (.ix (.v 3) (.lit (.int 2))) (.n 3) (.v 2) (.cmp .IsNot (.ix (.v 3) (.lit (.int 2))) (.lit .none))),
    .ife (.or (.cmp .Lt (.lsc [3] (.ix (.v 3) (.lit (.int 0))) (.n 3) (.v 2) (.lit (.bool true))) (.bif false .len [(.v 2)])) (.cmp .Lt (.lset (.v 4)) (.bif false .len [(.v 4)]))) [.ret (.lit (.bool false))] [],
    .asg (.n 5) (.comp false [6, 7, 8] (.v 7) (.t [(.n 6), (.t [(.n 7), (.n 8)])]) (.enm (.v 1)) (.cmp .NotIn (.v 6) (.v 4))),
    .ret (.bif false .all [(.comp false [3] (.or (.cmp .Is (.ix (.v 3) (.lit (.int 2))) (.lit .none)) (.cmp .NotIn (.ix (.v 3) (.lit (.int 0))) (.v 5))) (.n 3) (.v 2) (.lit (.bool true)))])] }
def B_is_stock_32 : Fn := { np := 1, ns := 2, keep := false, body := [
    .ife (.or (.not (.isi .tuple (.v 0))) (.not (.chn .LtE .LtE (.lit (.int 1)) (.bif false .len [(.v 0)]) (.gl 16 (.int 3))))) [.ret (.lit (.bool false))] [],
    .ret (.bif false .all [(.comp false [1] (.call 2 [(.v 1), (.lit (.int 0)), (.gl 17 (.int 99))]) (.n 1) (.v 0) (.lit (.bool true)))])] }
def B_is_shelf_33 : Fn := { np := 2, ns := 2, keep := false, body := [
    .ife (.or (.not (.isi .tuple (.v 1))) (.or (.cmp .NotEq (.bif false .len [(.v 1)]) (.lit (.int 2))) (.not (.call 29 [(.v 0), (.ix (.v 1) (.lit (.int 0)))])))) [.ret (.lit (.bool false))] [],
    .ret (.and (.cmp .Eq (.call 27 [(.v 0), (.ix (.v 1) (.lit (.int 0)))]) (.gl 18 (.str (PySem.Str.ofString "S")))) (.call 32 [(.ix (.v 1) (.lit (.int 1)))]))] }
def B_are_shelves_34 : Fn := { np := 2, ns := 6, keep := false, body := [
    .ife (.or (.not (.isi .tuple (.v 1))) (.or (.cmp .Gt (.bif false .len [(.v 1)]) (.gl 19 (.int 4))) (.not (.bif false .all [(.comp false [2] (.call 33 [(.v 0), (.v 2)]) (.n 2) (.v 1) (.lit (.bool true)))])))) [.ret (.lit (.bool false))] [],
    .asg (.n 3) (.comp false [4, 5] (.v 4) (.t [(.n 4), (.n 5)]) (.v 1) (.lit (.bool true))),
    .ret (.and (.cmp .Eq (.lset (.v 3)) (.bif false .len [(.v 3)])) (.bif false .all [(.comp false [4, 5] (.cmp .Eq (.bif false .len [(.v 5)]) (.bif false .len [(.ix (.ix (.v 1) (.lit (.int 0))) (.lit (.int 1)))])) (.t [(.n 4), (.n 5)]) (.v 1) (.lit (.bool true)))]))] }
def B_goods_in_35 : Fn := { np := 1, ns := 1, keep := false, body := [
    .ret (.ite (.cmp .NotEq (.v 0) (.tup [])) (.bif false .len [(.ix (.ix (.v 0) (.lit (.int 0))) (.lit (.int 1)))]) (.lit (.int 1)))] }
def B_is_order_36 : Fn := { np := 2, ns := 7, keep := false, body := [
    .ife (.or (.not (.isi .tuple (.v 1))) (.or (.cmp .NotEq (.bif false .len [(.v 1)]) (.lit (.int 4))) (.not (.bif false .all [(.comp false [2] (.call 1 [(.v 2)]) (.n 2) (.v 1) (.lit (.bool true)))])))) [.ret (.lit (.bool false))] [],
    .asg (.t [(.n 3), (.n 4), (.n 5), (.n 6)]) (.v 1),
    .ret (.and (.chn .LtE .Lt (.lit (.int 0)) (.v 3) (.v 0)) (.and (.chn .LtE .LtE (.lit (.int 1)) (.v 4) (.gl 17 (.int 99))) (.and (.chn .LtE .LtE (.lit (.int 0)) (.v 5) (.v 4)) (.cmp .GtE (.v 6) (.lit (.int 0))))))] }
def B_is_state_of_37 : Fn := { np := 2, ns := 7, keep := false, body := [
    .ife (.or (.not (.isi .tuple (.v 1))) (.or (.cmp .NotEq (.bif false .len [(.v 1)]) (.lit (.int 4))) (.or (.not (.call 1 [(.ix (.v 1) (.lit (.int 0)))])) (.cmp .Lt (.ix (.v 1) (.lit (.int 0))) (.lit (.int 0)))))) [.ret (.lit (.bool false))] [],
    .asg (.t [(.n 2), (.n 3), (.n 4), (.n 5)]) (.v 1),
    .ife (.or (.not (.call 34 [(.v 0), (.v 4)])) (.not (.call 31 [(.v 0), (.v 4), (.v 3)]))) [.ret (.lit (.bool false))] [],
    .ife (.or (.not (.isi .tuple (.v 5))) (.cmp .Gt (.bif false .len [(.v 5)]) (.gl 20 (.int 4)))) [.ret (.lit (.bool false))] [],
    .ret (.bif false .all [(.comp false [6] (.call 36 [(.call 35 [(.v 4)]), (.v 6)]) (.n 6) (.v 5) (.lit (.bool true)))])] }
def B_need_state_38 : Fn := { np := 2, ns := 2, keep := false, body := [
    .ex (.call 26 [(.v 0)]),
    .ife (.not (.call 37 [(.v 0), (.v 1)])) [.never] []] }
def B_are_deeds_39 : Fn := { np := 2, ns := 3, keep := false, body := [
    .ret (.and (.isi .tuple (.v 1)) (.and (.cmp .Eq (.bif false .len [(.v 1)]) (.v 0)) (.bif false .all [(.comp false [2] (.call 3 [(.v 2)]) (.n 2) (.v 1) (.lit (.bool true)))])))] }
def B_need_deeds_40 : Fn := { np := 2, ns := 2, keep := false, body := [
    .ife (.not (.call 39 [(.bif false .len [(.ix (.v 0) (.lit (.int 1)))]), (.v 1)])) [.never] []] }
def B_bide_fault_41 : Fn := { np := 4, ns := 4, keep := false, body := [
    .ret (.lit .none)] }
def B_fill_fault_42 : Fn := { np := 4, ns := 4, keep := false, body := [
    .ret (.ite (.cmp .Eq (.call 27 [(.v 0), (.ix (.v 2) (.lit (.int 0)))]) (.gl 22 (.str (PySem.Str.ofString "P")))) (.lit .none) (.lit (.str (PySem.Str.ofString "post"))))] }
def B_beside_by_43 : Fn := { np := 2, ns := 8, keep := false, body := [
    .asg (.t [(.n 2), (.n 3)]) (.tup [(.call 22 [(.ix (.v 0) (.lit (.int 0)))]), (.bif false .len [(.ix (.ix (.ix (.v 0) (.lit (.int 0))) (.lit (.int 0))) (.lit (.int 0)))])]),
    .asg (.n 4) (.bin false .Mult (.bif false .len [(.ix (.ix (.v 0) (.lit (.int 0))) (.lit (.int 0)))]) (.v 3)),
    .asg (.n 5) (.ite (.cmp .GtE (.bin false .Mod (.v 1) (.v 4)) (.v 3)) (.lst true [(.bin false .Sub (.v 1) (.v 3))]) (.lst true [])),
    .ife (.cmp .Gt (.bin false .Mod (.v 1) (.v 3)) (.lit (.int 0))) [.ex (.app (.v 5) (.bin false .Sub (.v 1) (.lit (.int 1))))] [],
    .ife (.cmp .Lt (.bin false .Mod (.v 1) (.v 3)) (.bin false .Sub (.v 3) (.lit (.int 1)))) [.ex (.app (.v 5) (.bin false .Add (.v 1) (.lit (.int 1))))] [],
    .ife (.cmp .Lt (.bin false .Mod (.v 1) (.v 4)) (.bin false .Sub (.v 4) (.v 3))) [.ex (.app (.v 5) (.bin false .Add (.v 1) (.v 3)))] [],
    .asg (.n 6) (.bin false .Mod (.bin false .Add (.v 1) (.v 4)) (.bif false .len [(.v 2)])),
    .ife (.and (.cmp .Gt (.bif false .len [(.ix (.v 0) (.lit (.int 0)))]) (.lit (.int 1))) (.and (.cmp .Eq (.ix (.v 2) (.v 1)) (.gl 23 (.str (PySem.Str.ofString "L")))) (.cmp .Eq (.ix (.v 2) (.v 6)) (.gl 23 (.str (PySem.Str.ofString "L")))))) [.ex (.app (.v 5) (.v 6))] [],
    .ret (.bif false .sorted [(.comp false [7] (.v 7) (.n 7) (.fz 5) (.cmp .NotEq (.ix (.v 2) (.v 7)) (.gl 11 (.str (PySem.Str.ofString "#")))))])] }
def B_loads_of_44 : Fn := { np := 1, ns := 5, keep := false, body := [
    .ret (.comp false [1, 2, 3, 4] (.v 3) (.t [(.n 1), (.n 2), (.n 3), (.n 4)]) (.ix (.v 0) (.lit (.int 1))) (.cmp .IsNot (.v 3) (.lit .none)))] }
def B_standing_by_45 : Fn := { np := 1, ns := 3, keep := false, body := [
    .asg (.n 1) (.call 44 [(.v 0)]),
    .ret (.comp false [2] (.v 2) (.n 2) (.rng [(.bif false .len [(.ix (.v 0) (.lit (.int 2)))])]) (.cmp .NotIn (.v 2) (.v 1)))] }
def B_homes_by_46 : Fn := { np := 1, ns := 2, keep := true, body := [
    .ret (.dcm [1] (.ix (.ix (.ix (.v 0) (.lit (.int 2))) (.v 1)) (.lit (.int 0))) (.v 1) (.n 1) (.call 45 [(.v 0)]) (.lit (.bool true)))] }
def B_price_of_47 : Fn := { np := 2, ns := 2, keep := false, body := [
    .ret (.ite (.cmp .Is (.v 1) (.lit .none)) (.ix (.ix (.v 0) (.lit (.int 1))) (.lit (.int 0))) (.ix (.ix (.v 0) (.lit (.int 1))) (.lit (.int 1))))] }
def B_go_fault_48 : Fn := { np := 4, ns := 8, keep := false, body := [
    .asg (.t [(.n 4), (.n 5), (.n 6), (.n 7)]) (.v 2),
    .ife (.cmp .NotIn (.ix (.v 3) (.lit (.int 1))) (.call 43 [(.v 0), (.v 4)])) [.ret (.lit (.str (PySem.Str.ofString "far")))] [],
    .ife (.and (.cmp .IsNot (.v 6) (.lit .none)) (.ind false (.ix (.v 3) (.lit (.int 1))) (.call 46 [(.v 1)]))) [.ret (.lit (.str (PySem.Str.ofString "shelf")))] [],
    .ret (.ite (.cmp .Lt (.v 5) (.call 47 [(.v 0), (.v 6)])) (.lit (.str (PySem.Str.ofString "charge"))) (.lit .none))] }
def B_lift_fault_49 : Fn := { np := 4, ns := 8, keep := false, body := [
    .asg (.t [(.n 4), (.n 5), (.n 6), (.n 7)]) (.v 2),
    .ife (.cmp .IsNot (.v 6) (.lit .none)) [.ret (.lit (.str (PySem.Str.ofString "load")))] [],
    .ife (.ind true (.v 4) (.call 46 [(.v 1)])) [.ret (.lit (.str (PySem.Str.ofString "none")))] [],
    .ret (.ite (.cmp .Lt (.v 5) (.ix (.ix (.v 0) (.lit (.int 1))) (.lit (.int 1)))) (.lit (.str (PySem.Str.ofString "charge"))) (.lit .none))] }
def B_set_fault_50 : Fn := { np := 4, ns := 8, keep := false, body := [
    .asg (.t [(.n 4), (.n 5), (.n 6), (.n 7)]) (.v 2),
    .ife (.cmp .Is (.v 6) (.lit .none)) [.ret (.lit (.str (PySem.Str.ofString "bare")))] [],
    .ret (.ite (.cmp .Eq (.ix (.ix (.ix (.v 1) (.lit (.int 2))) (.v 6)) (.lit (.int 0))) (.v 4)) (.lit .none) (.lit (.str (PySem.Str.ofString "home"))))] }
def B_lacking_51 : Fn := { np := 1, ns := 5, keep := false, body := [
    .asg (.t [(.n 1), (.n 2), (.n 3), (.n 4)]) (.v 0),
    .ret (.bin false .Sub (.v 2) (.v 3))] }
def B_hand_fault_52 : Fn := { np := 4, ns := 8, keep := false, body := [
    .asg (.t [(.n 4), (.n 5), (.n 6), (.n 7)]) (.v 2),
    .ife (.cmp .Is (.v 6) (.lit .none)) [.ret (.lit (.str (PySem.Str.ofString "bare")))] [],
    .ife (.cmp .NotEq (.call 27 [(.v 0), (.v 4)]) (.gl 24 (.str (PySem.Str.ofString "D")))) [.ret (.lit (.str (PySem.Str.ofString "desk")))] [],
    .ife (.or (.cmp .GtE (.ix (.v 3) (.lit (.int 1))) (.bif false .len [(.ix (.v 1) (.lit (.int 3)))])) (.cmp .Eq (.call 51 [(.ix (.ix (.v 1) (.lit (.int 3))) (.ix (.v 3) (.lit (.int 1))))]) (.lit (.int 0)))) [.ret (.lit (.str (PySem.Str.ofString "order")))] [],
    .ret (.ite (.cmp .Eq (.ix (.ix (.ix (.ix (.v 1) (.lit (.int 2))) (.v 6)) (.lit (.int 1))) (.ix (.ix (.ix (.v 1) (.lit (.int 3))) (.ix (.v 3) (.lit (.int 1)))) (.lit (.int 0)))) (.lit (.int 0))) (.lit (.str (PySem.Str.ofString "order"))) (.lit .none))] }
def B_own_fault_53 : Fn := { np := 4, ns := 5, keep := false, body := [
    .asg (.n 4) (.ix (.ix (.v 1) (.lit (.int 1))) (.v 2)),
    .ife (.and (.ix (.v 4) (.lit (.int 3))) (.cmp .NotEq (.ix (.v 3) (.lit (.int 0))) (.lit (.str (PySem.Str.ofString "bide"))))) [.ret (.lit (.str (PySem.Str.ofString "broken")))] [],
    .ret (.fcal 21 [((PySem.Str.ofString "bide"), 41), ((PySem.Str.ofString "fill"), 42), ((PySem.Str.ofString "go"), 48), ((PySem.Str.ofString "lift"), 49), ((PySem.Str.ofString "set"), 50), ((PySem.Str.ofString "hand"), 52)] (.ix (.v 3) (.lit (.int 0))) [(.v 0), (.v 1), (.v 4), (.v 3)])] }
def B_cells_behind_54 : Fn := { np := 2, ns := 4, keep := false, body := [
    .ret (.comp false [2, 3] (.ite (.cmp .Eq (.ix (.v 3) (.lit (.int 0))) (.lit (.str (PySem.Str.ofString "go")))) (.ix (.v 3) (.lit (.int 1))) (.ix (.v 2) (.lit (.int 0)))) (.t [(.n 2), (.n 3)]) (.zip (.ix (.v 0) (.lit (.int 1))) (.v 1)) (.lit (.bool true)))] }
def B_is_shut_55 : Fn := { np := 3, ns := 6, keep := false, body := [
    .ret (.bif false .any [(.comp false [3, 4, 5] (.and (.cmp .Eq (.v 1) (.v 3)) (.chn .LtE .LtE (.v 4) (.v 2) (.v 5))) (.t [(.n 3), (.n 4), (.n 5)]) (.ix (.v 0) (.lit (.int 2))) (.lit (.bool true)))])] }
def B_met_fault_56 : Fn := { np := 4, ns := 8, keep := false, body := [
    .par [4, 5] [(.comp false [6] (.ix (.v 6) (.lit (.int 0))) (.n 6) (.ix (.v 1) (.lit (.int 1))) (.lit (.bool true))), (.call 54 [(.v 1), (.v 2)])],
    .ife (.cmp .In (.ix (.v 5) (.v 3)) (.sl false (.v 5) .nil (.v 3))) [.ret (.lit (.str (PySem.Str.ofString "two")))] [],
    .for (.n 7) (.rng [(.v 3)]) [.ife (.and (.cmp .Eq (.ix (.v 5) (.v 3)) (.ix (.v 4) (.v 7))) (.cmp .Eq (.ix (.v 5) (.v 7)) (.ix (.v 4) (.v 3)))) [.ret (.lit (.str (PySem.Str.ofString "through")))] []],
    .ife (.and (.cmp .Eq (.ix (.ix (.v 2) (.v 3)) (.lit (.int 0))) (.lit (.str (PySem.Str.ofString "go")))) (.call 55 [(.v 0), (.ix (.v 5) (.v 3)), (.bin false .Add (.ix (.v 1) (.lit (.int 0))) (.lit (.int 1)))])) [.ret (.lit (.str (PySem.Str.ofString "shut")))] [],
    .ret (.lit .none)] }
def B_fault_by_57 : Fn := { np := 3, ns := 6, keep := false, body := [
    .for (.t [(.n 3), (.n 4)]) (.enm (.v 2)) [.asg (.n 5) (.call 53 [(.v 0), (.v 1), (.v 3), (.v 4)]), .ife (.cmp .IsNot (.v 5) (.lit .none)) [.ret (.tup [(.v 3), (.v 5)])] []],
    .for (.n 3) (.rng [(.bif false .len [(.v 2)])]) [.asg (.n 5) (.call 56 [(.v 0), (.v 1), (.v 2), (.v 3)]), .ife (.cmp .IsNot (.v 5) (.lit .none)) [.ret (.tup [(.v 3), (.v 5)])] []],
    .ret (.lit .none)] }
def B_fault_58 : Fn := { np := 3, ns := 3, keep := false, body := [
    .ex (.call 26 [(.v 0)]),
    .ex (.call 38 [(.v 0), (.v 1)]),
    .ex (.call 40 [(.v 1), (.v 2)]),
    .ret (.call 57 [(.v 0), (.v 1), (.v 2)])] }
def B_handed_59 : Fn := { np := 4, ns := 11, keep := false, body := [
    .asg (.t [(.n 4), (.n 5), (.n 6), (.n 7)]) (.ix (.v 1) (.v 3)),
    .asg (.t [(.n 8), (.n 9)]) (.ix (.v 0) (.v 2)),
    .asg (.n 10) (.bif false .min [(.bin false .Sub (.v 5) (.v 6)), (.ix (.v 9) (.v 4))]),
    .asg (.n 9) (.bin false .Add (.bin false .Add (.sl false (.v 9) .nil (.v 4)) (.tup [(.bin false .Sub (.ix (.v 9) (.v 4)) (.v 10))])) (.sl false (.v 9) (.bin false .Add (.v 4) (.lit (.int 1))) .nil)),
    .asg (.n 1) (.bin false .Add (.bin false .Add (.sl false (.v 1) .nil (.v 3)) (.tup [(.tup [(.v 4), (.v 5), (.bin false .Add (.v 6) (.v 10)), (.v 7)])])) (.sl false (.v 1) (.bin false .Add (.v 3) (.lit (.int 1))) .nil)),
    .ret (.tup [(.bin false .Add (.bin false .Add (.sl false (.v 0) .nil (.v 2)) (.tup [(.tup [(.v 8), (.v 9)])])) (.sl false (.v 0) (.bin false .Add (.v 2) (.lit (.int 1))) .nil)), (.v 1)])] }
def B_carrier_behind_60 : Fn := { np := 4, ns := 12, keep := false, body := [
    .asg (.t [(.n 4), (.n 5), (.n 6), (.n 7)]) (.ix (.ix (.v 1) (.lit (.int 1))) (.v 2)),
    .asg (.t [(.n 8), (.n 9), (.n 10), (.n 11)]) (.ix (.v 0) (.lit (.int 1))),
    .ife (.cmp .Eq (.ix (.v 3) (.lit (.int 0))) (.lit (.str (PySem.Str.ofString "fill")))) [.asg (.n 5) (.bif false .min [(.v 11), (.bin false .Add (.v 5) (.v 10))])] [.ife (.cmp .Eq (.ix (.v 3) (.lit (.int 0))) (.lit (.str (PySem.Str.ofString "go")))) [.par [4, 5] [(.ix (.v 3) (.lit (.int 1))), (.bin false .Sub (.v 5) (.call 47 [(.v 0), (.v 6)]))]] [.ife (.cmp .Eq (.ix (.v 3) (.lit (.int 0))) (.lit (.str (PySem.Str.ofString "lift")))) [.par [6, 5] [(.ixd (.call 46 [(.v 1)]) (.v 4)), (.bin false .Sub (.v 5) (.v 9))]] [.ife (.cmp .Eq (.ix (.v 3) (.lit (.int 0))) (.lit (.str (PySem.Str.ofString "set")))) [.asg (.n 6) (.lit .none)] []]]],
    .ret (.tup [(.v 4), (.v 5), (.v 6), (.v 7)])] }
def B_behind_by_61 : Fn := { np := 3, ns := 11, keep := false, body := [
    .asg (.t [(.n 3), (.n 4), (.n 5), (.n 6)]) (.v 1),
    .for (.t [(.n 7), (.n 8)]) (.zip (.v 4) (.v 2)) [.ife (.cmp .Eq (.ix (.v 8) (.lit (.int 0))) (.lit (.str (PySem.Str.ofString "hand")))) [.asg (.t [(.n 5), (.n 6)]) (.call 59 [(.v 5), (.v 6), (.ix (.v 7) (.lit (.int 2))), (.ix (.v 8) (.lit (.int 1)))])] []],
    .asg (.n 9) (.comp false [10, 8] (.call 60 [(.v 0), (.v 1), (.v 10), (.v 8)]) (.t [(.n 10), (.n 8)]) (.enm (.v 2)) (.lit (.bool true))),
    .ret (.tup [(.bin false .Add (.v 3) (.lit (.int 1))), (.bif false .tuple [(.v 9)]), (.v 5), (.v 6)])] }
def B_behind_62 : Fn := { np := 3, ns := 3, keep := false, body := [
    .ife (.cmp .IsNot (.call 58 [(.v 0), (.v 1), (.v 2)]) (.lit .none)) [.never] [],
    .ret (.call 61 [(.v 0), (.v 1), (.v 2)])] }
def B_law_shelves_right_63 : Fn := { np := 0, ns := 8, keep := false, body := [
    .asg (.t [(.n 0), (.n 1)]) (.tup [(.tup [(.tup [(.tup [(.lit (.str (PySem.Str.ofString "SDDS")))])]), (.tup [(.lit (.int 1)), (.lit (.int 1)), (.lit (.int 1)), (.lit (.int 8))]), (.tup [])]), (.tup [(.lit (.str (PySem.Str.ofString "bide")))])]),
    .asg (.n 2) (.tup [(.tup [(.lit (.int 1)), (.lit (.int 8)), (.lit (.int 0)), (.lit (.bool false))]), (.tup [(.lit (.int 2)), (.lit (.int 8)), (.lit (.int 1)), (.lit (.bool false))])]),
    .asg (.t [(.n 3), (.n 4)]) (.tup [(.tup [(.tup [(.lit (.int 0)), (.tup [(.lit (.int 2))])]), (.tup [(.lit (.int 3)), (.tup [(.lit (.int 5))])])]), (.tup [(.tup [(.lit (.str (PySem.Str.ofString "hand"))), (.lit (.int 0))]), (.tup [(.lit (.str (PySem.Str.ofString "hand"))), (.lit (.int 0))])])]),
    .asg (.n 5) (.call 62 [(.v 0), (.tup [(.lit (.int 0)), (.v 2), (.v 3), (.tup [(.tup [(.lit (.int 0)), (.lit (.int 3)), (.lit (.int 0)), (.lit (.int 9))])])]), (.v 4)]),
    .ife (.cmp .NotEq (.v 5) (.tup [(.lit (.int 1)), (.v 2), (.tup [(.tup [(.lit (.int 0)), (.tup [(.lit (.int 0))])]), (.tup [(.lit (.int 3)), (.tup [(.lit (.int 4))])])]), (.tup [(.tup [(.lit (.int 0)), (.lit (.int 3)), (.lit (.int 3)), (.lit (.int 9))])])])) [.ret (.lit (.bool false))] [],
    .asg (.n 5) (.call 62 [(.v 0), (.tup [(.lit (.int 0)), (.v 2), (.v 3), (.tup [(.tup [(.lit (.int 0)), (.lit (.int 4)), (.lit (.int 2)), (.lit (.int 9))])])]), (.v 4)]),
    .ife (.cmp .NotEq (.v 5) (.tup [(.lit (.int 1)), (.v 2), (.tup [(.tup [(.lit (.int 0)), (.tup [(.lit (.int 0))])]), (.tup [(.lit (.int 3)), (.tup [(.lit (.int 5))])])]), (.tup [(.tup [(.lit (.int 0)), (.lit (.int 4)), (.lit (.int 4)), (.lit (.int 9))])])])) [.ret (.lit (.bool false))] [],
    .asg (.n 6) (.tup [(.lit (.int 0)), (.tup [(.tup [(.lit (.int 1)), (.lit (.int 8)), (.lit (.int 0)), (.lit (.bool false))])]), (.v 3), (.tup [(.tup [(.lit (.int 0)), (.lit (.int 3)), (.lit (.int 0)), (.lit (.int 9))])])]),
    .ife (.cmp .NotEq (.call 58 [(.v 0), (.tup [(.lit (.int 0)), (.tup [(.tup [(.lit (.int 2)), (.lit (.int 8)), (.lit (.int 0)), (.lit (.bool false))])]), (.v 3), (.tup [])]), (.tup [(.tup [(.lit (.str (PySem.Str.ofString "go"))), (.lit (.int 3))])])]) (.tup [(.lit (.int 0)), (.lit (.str (PySem.Str.ofString "shelf")))])) [.ret (.lit (.bool false))] [],
    .ife (.cmp .IsNot (.call 58 [(.v 0), (.tup [(.lit (.int 0)), (.tup [(.tup [(.lit (.int 2)), (.lit (.int 8)), (.lit .none), (.lit (.bool false))])]), (.v 3), (.tup [])]), (.tup [(.tup [(.lit (.str (PySem.Str.ofString "go"))), (.lit (.int 3))])])]) (.lit .none)) [.ret (.lit (.bool false))] [],
    .asg (.n 7) (.tup [(.lit (.int 0)), (.tup [(.tup [(.lit (.int 1)), (.lit (.int 8)), (.lit (.int 0)), (.lit (.bool false))])]), (.tup [(.tup [(.lit (.int 0)), (.tup [(.lit (.int 0))])]), (.tup [(.lit (.int 3)), (.tup [(.lit (.int 5))])])]), (.tup [(.tup [(.lit (.int 0)), (.lit (.int 3)), (.lit (.int 0)), (.lit (.int 9))])])]),
    .ret (.and (.cmp .Eq (.call 58 [(.v 0), (.v 7), (.tup [(.tup [(.lit (.str (PySem.Str.ofString "hand"))), (.lit (.int 0))])])]) (.tup [(.lit (.int 0)), (.lit (.str (PySem.Str.ofString "order")))])) (.cmp .Is (.call 58 [(.v 0), (.v 6), (.tup [(.tup [(.lit (.str (PySem.Str.ofString "go"))), (.lit (.int 0))])])]) (.lit .none)))] }
def B_law_line_64 : Fn := { np := 3, ns := 4, keep := false, body := [
    .asg (.n 3) (.tup [(.tup [(.tup [(.lit (.str (PySem.Str.ofString "S.DP")))])]), (.tup [(.lit (.int 1)), (.lit (.int 2)), (.lit (.int 3)), (.lit (.int 8))]), (.tup [(.tup [(.lit (.int 1)), (.lit (.int 5)), (.lit (.int 6))])])]),
    .ret (.tup [(.v 3), (.tup [(.v 2), (.tup [(.v 0), (.v 1)]), (.tup [(.tup [(.lit (.int 0)), (.tup [(.lit (.int 5)), (.lit (.int 2))])])]), (.tup [(.tup [(.lit (.int 0)), (.lit (.int 3)), (.lit (.int 0)), (.lit (.int 4))]), (.tup [(.lit (.int 1)), (.lit (.int 2)), (.lit (.int 2)), (.lit (.int 9))])])])])] }
def B_law_both_right_65 : Fn := { np := 0, ns := 12, keep := false, body := [
    .asg (.t [(.n 0), (.n 1), (.n 2)]) (.tup [(.tup [(.lit (.int 0)), (.lit (.int 8)), (.lit .none), (.lit (.bool false))]), (.tup [(.lit (.int 2)), (.lit (.int 8)), (.lit .none), (.lit (.bool false))]), (.tup [(.lit (.str (PySem.Str.ofString "bide")))])]),
    .asg (.n 3) (.lst true [(.tup [(.v 0), (.v 1), (.lit (.int 0)), (.tup [(.lit (.str (PySem.Str.ofString "go"))), (.lit (.int 1))]), (.tup [(.lit (.str (PySem.Str.ofString "go"))), (.lit (.int 1))]), (.tup [(.lit (.int 1)), (.lit (.str (PySem.Str.ofString "two")))])]), (.tup [(.v 0), (.v 1), (.lit (.int 4)), (.tup [(.lit (.str (PySem.Str.ofString "go"))), (.lit (.int 1))]), (.v 2), (.tup [(.lit (.int 0)), (.lit (.str (PySem.Str.ofString "shut")))])])]),
    .asg (.n 3) (.bin true .Add (.v 3) (.lst false [(.tup [(.v 0), (.v 1), (.lit (.int 6)), (.tup [(.lit (.str (PySem.Str.ofString "go"))), (.lit (.int 1))]), (.v 2), (.lit .none)]), (.tup [(.v 0), (.v 1), (.lit (.int 3)), (.tup [(.lit (.str (PySem.Str.ofString "go"))), (.lit (.int 1))]), (.v 2), (.lit .none)])])),
    .asg (.n 3) (.bin true .Add (.v 3) (.lst false [(.tup [(.v 0), (.v 1), (.lit (.int 4)), (.tup [(.lit (.str (PySem.Str.ofString "go"))), (.lit (.int 1))]), (.tup [(.lit (.str (PySem.Str.ofString "go"))), (.lit (.int 0))]), (.tup [(.lit (.int 1)), (.lit (.str (PySem.Str.ofString "far")))])]), (.tup [(.v 0), (.v 1), (.lit (.int 5)), (.v 2), (.tup [(.lit (.str (PySem.Str.ofString "go"))), (.lit (.int 1))]), (.tup [(.lit (.int 1)), (.lit (.str (PySem.Str.ofString "shut")))])])])),
    .ex (.app (.v 3) (.tup [(.v 0), (.tup [(.lit (.int 1)), (.lit (.int 8)), (.lit .none), (.lit (.bool false))]), (.lit (.int 0)), (.tup [(.lit (.str (PySem.Str.ofString "go"))), (.lit (.int 1))]), (.tup [(.lit (.str (PySem.Str.ofString "go"))), (.lit (.int 0))]), (.tup [(.lit (.int 1)), (.lit (.str (PySem.Str.ofString "through")))])])),
    .ex (.app (.v 3) (.tup [(.v 0), (.tup [(.lit (.int 1)), (.lit (.int 8)), (.lit .none), (.lit (.bool false))]), (.lit (.int 4)), (.tup [(.lit (.str (PySem.Str.ofString "go"))), (.lit (.int 1))]), (.v 2), (.tup [(.lit (.int 0)), (.lit (.str (PySem.Str.ofString "shut")))])])),
    .ex (.app (.v 3) (.tup [(.v 0), (.tup [(.lit (.int 1)), (.lit (.int 8)), (.lit .none), (.lit (.bool false))]), (.lit (.int 0)), (.tup [(.lit (.str (PySem.Str.ofString "go"))), (.lit (.int 1))]), (.v 2), (.tup [(.lit (.int 1)), (.lit (.str (PySem.Str.ofString "two")))])])),
    .ex (.app (.v 3) (.tup [(.v 0), (.tup [(.lit (.int 1)), (.lit (.int 8)), (.lit .none), (.lit (.bool false))]), (.lit (.int 4)), (.v 2), (.v 2), (.lit .none)])),
    .ex (.app (.v 3) (.tup [(.v 0), (.tup [(.lit (.int 1)), (.lit (.int 8)), (.lit .none), (.lit (.bool false))]), (.lit (.int 0)), (.tup [(.lit (.str (PySem.Str.ofString "go"))), (.lit (.int 1))]), (.tup [(.lit (.str (PySem.Str.ofString "go"))), (.lit (.int 2))]), (.lit .none)])),
    .for (.t [(.n 4), (.n 5), (.n 6), (.n 7), (.n 8), (.n 9)]) (.fz 3) [.asg (.t [(.n 10), (.n 11)]) (.call 64 [(.v 4), (.v 5), (.v 6)]), .ife (.cmp .NotEq (.call 58 [(.v 10), (.v 11), (.tup [(.v 7), (.v 8)])]) (.v 9)) [.ret (.lit (.bool false))] []],
    .ret (.lit (.bool true))] }
def B_law_lone_right_66 : Fn := { np := 0, ns := 8, keep := false, body := [
    .asg (.t [(.n 0), (.n 1)]) (.tup [(.tup [(.lit (.int 3)), (.lit (.int 8)), (.lit .none), (.lit (.bool false))]), (.tup [(.lit (.str (PySem.Str.ofString "bide")))])]),
    .asg (.n 2) (.lst false [(.tup [(.tup [(.lit (.int 0)), (.lit (.int 8)), (.lit .none), (.lit (.bool false))]), (.tup [(.lit (.str (PySem.Str.ofString "lift")))]), (.lit .none)]), (.tup [(.tup [(.lit (.int 0)), (.lit (.int 8)), (.lit .none), (.lit (.bool false))]), (.tup [(.lit (.str (PySem.Str.ofString "go"))), (.lit (.int 2))]), (.lit (.str (PySem.Str.ofString "far")))])]),
    .asg (.n 2) (.bin false .Add (.v 2) (.lst false [(.tup [(.tup [(.lit (.int 0)), (.lit (.int 8)), (.lit .none), (.lit (.bool false))]), (.tup [(.lit (.str (PySem.Str.ofString "fill")))]), (.lit (.str (PySem.Str.ofString "post")))]), (.tup [(.tup [(.lit (.int 0)), (.lit (.int 8)), (.lit .none), (.lit (.bool false))]), (.tup [(.lit (.str (PySem.Str.ofString "set")))]), (.lit (.str (PySem.Str.ofString "bare")))])])),
    .asg (.n 2) (.bin false .Add (.v 2) (.lst false [(.tup [(.tup [(.lit (.int 0)), (.lit (.int 8)), (.lit .none), (.lit (.bool false))]), (.tup [(.lit (.str (PySem.Str.ofString "hand"))), (.lit (.int 0))]), (.lit (.str (PySem.Str.ofString "bare")))]), (.tup [(.tup [(.lit (.int 2)), (.lit (.int 8)), (.lit .none), (.lit (.bool false))]), (.tup [(.lit (.str (PySem.Str.ofString "lift")))]), (.lit (.str (PySem.Str.ofString "none")))])])),
    .asg (.n 2) (.bin false .Add (.v 2) (.lst false [(.tup [(.tup [(.lit (.int 0)), (.lit (.int 8)), (.lit .none), (.lit (.bool true))]), (.tup [(.lit (.str (PySem.Str.ofString "lift")))]), (.lit (.str (PySem.Str.ofString "broken")))]), (.tup [(.tup [(.lit (.int 0)), (.lit (.int 8)), (.lit .none), (.lit (.bool true))]), (.v 1), (.lit .none)])])),
    .asg (.n 2) (.bin false .Add (.v 2) (.lst false [(.tup [(.tup [(.lit (.int 0)), (.lit (.int 0)), (.lit .none), (.lit (.bool false))]), (.tup [(.lit (.str (PySem.Str.ofString "go"))), (.lit (.int 1))]), (.lit (.str (PySem.Str.ofString "charge")))]), (.tup [(.tup [(.lit (.int 0)), (.lit (.int 1)), (.lit .none), (.lit (.bool false))]), (.tup [(.lit (.str (PySem.Str.ofString "go"))), (.lit (.int 1))]), (.lit .none)])])),
    .asg (.n 2) (.bin false .Add (.v 2) (.lst false [(.tup [(.tup [(.lit (.int 0)), (.lit (.int 1)), (.lit .none), (.lit (.bool false))]), (.tup [(.lit (.str (PySem.Str.ofString "lift")))]), (.lit (.str (PySem.Str.ofString "charge")))]), (.tup [(.tup [(.lit (.int 0)), (.lit (.int 2)), (.lit .none), (.lit (.bool false))]), (.tup [(.lit (.str (PySem.Str.ofString "lift")))]), (.lit .none)])])),
    .asg (.n 2) (.bin false .Add (.v 2) (.lst false [(.tup [(.tup [(.lit (.int 0)), (.lit (.int 8)), (.lit (.int 0)), (.lit (.bool false))]), (.tup [(.lit (.str (PySem.Str.ofString "lift")))]), (.lit (.str (PySem.Str.ofString "load")))]), (.tup [(.tup [(.lit (.int 1)), (.lit (.int 8)), (.lit (.int 0)), (.lit (.bool false))]), (.tup [(.lit (.str (PySem.Str.ofString "set")))]), (.lit (.str (PySem.Str.ofString "home")))])])),
    .asg (.n 2) (.bin false .Add (.v 2) (.lst false [(.tup [(.tup [(.lit (.int 1)), (.lit (.int 8)), (.lit (.int 0)), (.lit (.bool false))]), (.tup [(.lit (.str (PySem.Str.ofString "hand"))), (.lit (.int 0))]), (.lit (.str (PySem.Str.ofString "desk")))]), (.tup [(.tup [(.lit (.int 2)), (.lit (.int 8)), (.lit (.int 0)), (.lit (.bool false))]), (.tup [(.lit (.str (PySem.Str.ofString "hand"))), (.lit (.int 0))]), (.lit .none)])])),
    .asg (.n 2) (.bin false .Add (.v 2) (.lst false [(.tup [(.tup [(.lit (.int 2)), (.lit (.int 8)), (.lit (.int 0)), (.lit (.bool false))]), (.tup [(.lit (.str (PySem.Str.ofString "hand"))), (.lit (.int 1))]), (.lit (.str (PySem.Str.ofString "order")))]), (.tup [(.tup [(.lit (.int 2)), (.lit (.int 8)), (.lit (.int 0)), (.lit (.bool false))]), (.tup [(.lit (.str (PySem.Str.ofString "hand"))), (.lit (.int 7))]), (.lit (.str (PySem.Str.ofString "order")))])])),
    .asg (.n 2) (.bin false .Add (.v 2) (.lst false [(.tup [(.tup [(.lit (.int 1)), (.lit (.int 1)), (.lit (.int 0)), (.lit (.bool false))]), (.tup [(.lit (.str (PySem.Str.ofString "go"))), (.lit (.int 2))]), (.lit (.str (PySem.Str.ofString "charge")))]), (.tup [(.tup [(.lit (.int 1)), (.lit (.int 2)), (.lit (.int 0)), (.lit (.bool false))]), (.tup [(.lit (.str (PySem.Str.ofString "go"))), (.lit (.int 0))]), (.lit .none)])])),
    .asg (.n 2) (.bin false .Add (.v 2) (.lst false [(.tup [(.tup [(.lit (.int 0)), (.lit (.int 8)), (.lit (.int 0)), (.lit (.bool false))]), (.tup [(.lit (.str (PySem.Str.ofString "set")))]), (.lit .none)]), (.tup [(.tup [(.lit (.int 1)), (.lit (.int 8)), (.lit .none), (.lit (.bool false))]), (.tup [(.lit (.str (PySem.Str.ofString "go"))), (.lit (.int 99))]), (.lit (.str (PySem.Str.ofString "far")))])])),
    .for (.t [(.n 3), (.n 4), (.n 5)]) (.v 2) [.asg (.t [(.n 6), (.n 7)]) (.call 64 [(.v 3), (.v 0), (.lit (.int 0))]), .ife (.cmp .NotEq (.call 58 [(.v 6), (.v 7), (.tup [(.v 4), (.v 1)])]) (.ite (.cmp .Is (.v 5) (.lit .none)) (.lit .none) (.tup [(.lit (.int 0)), (.v 5)]))) [.ret (.lit (.bool false))] []],
    .asg (.t [(.n 6), (.n 7)]) (.call 64 [(.tup [(.lit (.int 1)), (.lit (.int 8)), (.lit (.int 0)), (.lit (.bool false))]), (.v 0), (.lit (.int 0))]),
    .ret (.cmp .Is (.call 58 [(.v 6), (.v 7), (.tup [(.tup [(.lit (.str (PySem.Str.ofString "go"))), (.lit (.int 2))]), (.tup [(.lit (.str (PySem.Str.ofString "fill")))])])]) (.lit .none))] }
def B_law_box_67 : Fn := { np := 2, ns := 6, keep := true, body := [
    .asg (.n 2) (.bin false .Add (.bin false .Mult (.lit (.int 7919)) (.v 1)) (.lit (.int 13))),
    .ife (.cmp .Lt (.v 1) (.bif false .len [(.v 0)])) [.asg (.n 2) (.ix (.v 0) (.v 1))] [],
    .ife (.cmp .Eq (.bin false .Mod (.v 2) (.lit (.int 2))) (.lit (.int 0))) [.ret (.lst true [(.bin false .FloorDiv (.v 2) (.lit (.int 2))), (.bin false .Mod (.bif false .abs [(.v 2)]) (.lit (.int 2147483647)))])] [],
    .asg (.n 3) (.lit (.int 0)),
    .for (.n 4) (.rng [(.lit (.int 16))]) [.asg (.n 5) (.bin false .Mod (.bin false .Add (.bin false .Add (.bin false .Mult (.bin false .Mod (.v 2) (.lit (.int 2147483647))) (.lit (.int 48271))) (.bin false .Mult (.lit (.int 7919)) (.v 4))) (.lit (.int 1))) (.lit (.int 2147483647))), .asg (.n 5) (.bin false .Mod (.bin false .Mult (.v 5) (.v 5)) (.lit (.int 2147483629))), .asg (.n 3) (.bin false .Add (.bin false .Mult (.v 3) (.lit (.int 2147483647))) (.bin false .Mod (.bin false .Mult (.v 5) (.bin false .Add (.v 5) (.lit (.int 13)))) (.lit (.int 2147483647))))],
    .ret (.lst true [(.v 3), (.bin false .Mod (.bif false .abs [(.v 2)]) (.lit (.int 2147483647)))])] }
def B_law_more_68 : Fn := { np := 1, ns := 3, keep := false, body := [
    .asg (.n 1) (.lit (.int 0)),
    .for (.n 2) (.rng [(.lit (.int 12))]) [.setix (.v 0) (.lit (.int 1)) (.bin false .Mod (.bin false .Add (.bin false .Mult (.ix (.v 0) (.lit (.int 1))) (.lit (.int 48271))) (.lit (.int 30269))) (.lit (.int 2147483647))), .asg (.n 1) (.bin false .Add (.bin false .Mult (.v 1) (.lit (.int 65521))) (.bin false .Mod (.bin false .FloorDiv (.ix (.v 0) (.lit (.int 1))) (.lit (.int 7))) (.lit (.int 65521))))],
    .ret (.v 1)] }
def B_law_take_69 : Fn := { np := 2, ns := 4, keep := false, body := [
    .ife (.chn .LtE .Lt (.lit (.int 0)) (.ix (.v 0) (.lit (.int 0))) (.v 1)) [.setix (.v 0) (.lit (.int 0)) (.bin false .Add (.ix (.v 0) (.lit (.int 0))) (.bin false .Mult (.v 1) (.call 68 [(.v 0)])))] [],
    .asg (.t [(.n 2), (.n 3)]) (.bif false .divmod [(.ix (.v 0) (.lit (.int 0))), (.v 1)]),
    .setix (.v 0) (.lit (.int 0)) (.v 2),
    .ret (.v 3)] }
def B_are_rows_70 : Fn := { np := 2, ns := 3, keep := false, body := [
    .ife (.or (.not (.isi .tuple (.v 1))) (.cmp .Gt (.bif false .len [(.v 1)]) (.gl 25 (.int 24)))) [.ret (.lit (.bool false))] [],
    .ret (.bif false .all [(.comp false [2] (.call 39 [(.bif false .len [(.ix (.v 0) (.lit (.int 1)))]), (.v 2)]) (.n 2) (.v 1) (.lit (.bool true)))])] }
def B_need_rows_71 : Fn := { np := 2, ns := 2, keep := false, body := [
    .ife (.not (.call 70 [(.v 0), (.v 1)])) [.never] []] }
def B_run_by_72 : Fn := { np := 3, ns := 6, keep := false, body := [
    .asg (.n 3) (.lst true [(.v 1)]),
    .for (.n 4) (.v 2) [.asg (.n 5) (.call 57 [(.v 0), (.v 1), (.v 4)]), .ife (.cmp .IsNot (.v 5) (.lit .none)) [.ret (.tup [(.bif false .tuple [(.v 3)]), (.bin false .Add (.tup [(.ix (.v 1) (.lit (.int 0)))]) (.v 5))])] [], .asg (.n 1) (.call 61 [(.v 0), (.v 1), (.v 4)]), .ex (.app (.v 3) (.v 1))],
    .ret (.tup [(.bif false .tuple [(.v 3)]), (.lit .none)])] }
def B_run_73 : Fn := { np := 3, ns := 3, keep := false, body := [
    .ex (.call 26 [(.v 0)]),
    .ex (.call 38 [(.v 0), (.v 1)]),
    .ex (.call 71 [(.v 1), (.v 2)]),
    .ret (.call 72 [(.v 0), (.v 1), (.v 2)])] }
def B_law_example_right_74 : Fn := { np := 2, ns := 10, keep := false, body := [
    .par [2, 3] [(.tup [(.tup [(.tup [(.lit (.str (PySem.Str.ofString "SD")))])]), (.tup [(.lit (.int 1)), (.lit (.int 2)), (.lit (.int 1)), (.lit (.int 8))]), (.tup [])]), (.tup [(.lit (.int 0)), (.v 0), (.lit .none), (.lit (.bool false))])],
    .asg (.n 4) (.tup [(.v 1), (.tup [(.v 3)]), (.tup [(.tup [(.lit (.int 0)), (.tup [(.lit (.int 5))])])]), (.tup [(.tup [(.lit (.int 0)), (.lit (.int 2)), (.lit (.int 0)), (.lit (.int 4))])])]),
    .asg (.n 5) (.tup [(.tup [(.tup [(.lit (.str (PySem.Str.ofString "lift")))])]), (.tup [(.tup [(.lit (.str (PySem.Str.ofString "go"))), (.lit (.int 1))])]), (.tup [(.tup [(.lit (.str (PySem.Str.ofString "hand"))), (.lit (.int 0))])]), (.tup [(.tup [(.lit (.str (PySem.Str.ofString "go"))), (.lit (.int 0))])]), (.tup [(.tup [(.lit (.str (PySem.Str.ofString "set")))])])]),
    .asg (.t [(.n 6), (.n 7)]) (.call 73 [(.v 2), (.v 4), (.v 5)]),
    .ife (.cmp .NotEq (.ix (.call 73 [(.v 2), (.v 4), (.tup [(.tup [(.tup [(.lit (.str (PySem.Str.ofString "go"))), (.lit (.int 1))])]), (.tup [(.tup [(.lit (.str (PySem.Str.ofString "lift")))])])])]) (.lit (.int 1))) (.tup [(.bin false .Add (.v 1) (.lit (.int 1))), (.lit (.int 0)), (.lit (.str (PySem.Str.ofString "none")))])) [.ret (.lit (.bool false))] [],
    .ife (.cmp .Lt (.v 0) (.lit (.int 6))) [.asg (.n 8) (.ix (.lst false [(.lit (.int 0)), (.lit (.int 0)), (.lit (.int 1)), (.lit (.int 1)), (.lit (.int 3)), (.lit (.int 3))]) (.v 0)), .ret (.and (.cmp .Eq (.v 7) (.tup [(.bin false .Add (.v 1) (.v 8)), (.lit (.int 0)), (.lit (.str (PySem.Str.ofString "charge")))])) (.cmp .Eq (.bif false .len [(.v 6)]) (.bin false .Add (.v 8) (.lit (.int 1)))))] [],
    .asg (.n 9) (.tup [(.bin false .Add (.v 1) (.lit (.int 5))), (.tup [(.tup [(.lit (.int 0)), (.bin false .Sub (.v 0) (.lit (.int 6))), (.lit .none), (.lit (.bool false))])]), (.tup [(.tup [(.lit (.int 0)), (.tup [(.lit (.int 3))])])]), (.tup [(.tup [(.lit (.int 0)), (.lit (.int 2)), (.lit (.int 2)), (.lit (.int 4))])])]),
    .ret (.and (.cmp .Is (.v 7) (.lit .none)) (.and (.cmp .Eq (.bif false .len [(.v 6)]) (.lit (.int 6))) (.cmp .Eq (.ix (.v 6) (.neg (.lit (.int 1)))) (.v 9))))] }
def B_law_75 : Fn := { np := 1, ns := 4, keep := false, body := [
    .ife (.or (.not (.call 66 [])) (.or (.not (.call 65 [])) (.not (.call 63 [])))) [.ret (.lit (.bool false))] [],
    .for (.n 1) (.rng [(.bif false .max [(.lit (.int 1)), (.bif false .min [(.bif false .len [(.v 0)]), (.lit (.int 3))])])]) [.asg (.n 2) (.call 67 [(.v 0), (.v 1)]), .ife (.not (.bif false .all [(.comp false [3] (.call 74 [(.bin false .Add (.lit (.int 1)) (.call 69 [(.v 2), (.lit (.int 8))])), (.call 69 [(.v 2), (.lit (.int 200))])]) (.n 3) (.rng [(.lit (.int 4))]) (.lit (.bool true)))])) [.ret (.lit (.bool false))] [], .fgt [2]],
    .ret (.lit (.bool true))] }
/-- the functions by their numbers -/
def FN : Nat → Option Fn
  | 1 => some B_is_whole_1
  | 2 => some B_is_among_2
  | 3 => some B_is_deed_3
  | 18 => some B_are_costs_18
  | 19 => some B_is_text_19
  | 20 => some B_is_floor_20
  | 21 => some B_are_floors_21
  | 22 => some B_signs_of_22
  | 23 => some B_is_shut_row_23
  | 24 => some B_rises_24
  | 25 => some B_is_yard_25
  | 26 => some B_need_yard_26
  | 27 => some B_sign_at_27
  | 28 => some B_cells_of_28
  | 29 => some B_is_cell_29
  | 30 => some B_is_carrier_30
  | 31 => some B_are_carriers_31
  | 32 => some B_is_stock_32
  | 33 => some B_is_shelf_33
  | 34 => some B_are_shelves_34
  | 35 => some B_goods_in_35
  | 36 => some B_is_order_36
  | 37 => some B_is_state_of_37
  | 38 => some B_need_state_38
  | 39 => some B_are_deeds_39
  | 40 => some B_need_deeds_40
  | 41 => some B_bide_fault_41
  | 42 => some B_fill_fault_42
  | 43 => some B_beside_by_43
  | 44 => some B_loads_of_44
  | 45 => some B_standing_by_45
  | 46 => some B_homes_by_46
  | 47 => some B_price_of_47
  | 48 => some B_go_fault_48
  | 49 => some B_lift_fault_49
  | 50 => some B_set_fault_50
  | 51 => some B_lacking_51
  | 52 => some B_hand_fault_52
  | 53 => some B_own_fault_53
  | 54 => some B_cells_behind_54
  | 55 => some B_is_shut_55
  | 56 => some B_met_fault_56
  | 57 => some B_fault_by_57
  | 58 => some B_fault_58
  | 59 => some B_handed_59
  | 60 => some B_carrier_behind_60
  | 61 => some B_behind_by_61
  | 62 => some B_behind_62
  | 63 => some B_law_shelves_right_63
  | 64 => some B_law_line_64
  | 65 => some B_law_both_right_65
  | 66 => some B_law_lone_right_66
  | 67 => some B_law_box_67
  | 68 => some B_law_more_68
  | 69 => some B_law_take_69
  | 70 => some B_are_rows_70
  | 71 => some B_need_rows_71
  | 72 => some B_run_by_72
  | 73 => some B_run_73
  | 74 => some B_law_example_right_74
  | 75 => some B_law_75
  | _ => none
theorem FN_1 : FN 1 = some B_is_whole_1 := rfl
theorem FN_2 : FN 2 = some B_is_among_2 := rfl
theorem FN_3 : FN 3 = some B_is_deed_3 := rfl
theorem FN_18 : FN 18 = some B_are_costs_18 := rfl
theorem FN_19 : FN 19 = some B_is_text_19 := rfl
theorem FN_20 : FN 20 = some B_is_floor_20 := rfl
theorem FN_21 : FN 21 = some B_are_floors_21 := rfl
theorem FN_22 : FN 22 = some B_signs_of_22 := rfl
theorem FN_23 : FN 23 = some B_is_shut_row_23 := rfl
theorem FN_24 : FN 24 = some B_rises_24 := rfl
theorem FN_25 : FN 25 = some B_is_yard_25 := rfl
theorem FN_26 : FN 26 = some B_need_yard_26 := rfl
theorem FN_27 : FN 27 = some B_sign_at_27 := rfl
theorem FN_28 : FN 28 = some B_cells_of_28 := rfl
theorem FN_29 : FN 29 = some B_is_cell_29 := rfl
theorem FN_30 : FN 30 = some B_is_carrier_30 := rfl
theorem FN_31 : FN 31 = some B_are_carriers_31 := rfl
theorem FN_32 : FN 32 = some B_is_stock_32 := rfl
theorem FN_33 : FN 33 = some B_is_shelf_33 := rfl
theorem FN_34 : FN 34 = some B_are_shelves_34 := rfl
theorem FN_35 : FN 35 = some B_goods_in_35 := rfl
theorem FN_36 : FN 36 = some B_is_order_36 := rfl
theorem FN_37 : FN 37 = some B_is_state_of_37 := rfl
theorem FN_38 : FN 38 = some B_need_state_38 := rfl
theorem FN_39 : FN 39 = some B_are_deeds_39 := rfl
theorem FN_40 : FN 40 = some B_need_deeds_40 := rfl
theorem FN_41 : FN 41 = some B_bide_fault_41 := rfl
theorem FN_42 : FN 42 = some B_fill_fault_42 := rfl
theorem FN_43 : FN 43 = some B_beside_by_43 := rfl
theorem FN_44 : FN 44 = some B_loads_of_44 := rfl
theorem FN_45 : FN 45 = some B_standing_by_45 := rfl
theorem FN_46 : FN 46 = some B_homes_by_46 := rfl
theorem FN_47 : FN 47 = some B_price_of_47 := rfl
theorem FN_48 : FN 48 = some B_go_fault_48 := rfl
theorem FN_49 : FN 49 = some B_lift_fault_49 := rfl
theorem FN_50 : FN 50 = some B_set_fault_50 := rfl
theorem FN_51 : FN 51 = some B_lacking_51 := rfl
theorem FN_52 : FN 52 = some B_hand_fault_52 := rfl
theorem FN_53 : FN 53 = some B_own_fault_53 := rfl
theorem FN_54 : FN 54 = some B_cells_behind_54 := rfl
theorem FN_55 : FN 55 = some B_is_shut_55 := rfl
theorem FN_56 : FN 56 = some B_met_fault_56 := rfl
theorem FN_57 : FN 57 = some B_fault_by_57 := rfl
theorem FN_58 : FN 58 = some B_fault_58 := rfl
theorem FN_59 : FN 59 = some B_handed_59 := rfl
theorem FN_60 : FN 60 = some B_carrier_behind_60 := rfl
theorem FN_61 : FN 61 = some B_behind_by_61 := rfl
theorem FN_62 : FN 62 = some B_behind_62 := rfl
theorem FN_63 : FN 63 = some B_law_shelves_right_63 := rfl
theorem FN_64 : FN 64 = some B_law_line_64 := rfl
theorem FN_65 : FN 65 = some B_law_both_right_65 := rfl
theorem FN_66 : FN 66 = some B_law_lone_right_66 := rfl
theorem FN_67 : FN 67 = some B_law_box_67 := rfl
theorem FN_68 : FN 68 = some B_law_more_68 := rfl
theorem FN_69 : FN 69 = some B_law_take_69 := rfl
theorem FN_70 : FN 70 = some B_are_rows_70 := rfl
theorem FN_71 : FN 71 = some B_need_rows_71 := rfl
theorem FN_72 : FN 72 = some B_run_by_72 := rfl
theorem FN_73 : FN 73 = some B_run_73 := rfl
theorem FN_74 : FN 74 = some B_law_example_right_74 := rfl
theorem FN_75 : FN 75 = some B_law_75 := rfl
end Cy


set_option Elab.async false
set_option linter.all false
set_option maxRecDepth 100000
set_option maxHeartbeats 8000000
/-! S16: the document's example at each charge, the beat open. -/
namespace Cy
open PySem
theorem run_at {fs : Nat → Option Fn} {f : Nat} {fn : Fn} (h : fs f = some fn) (k : Nat) (args : List R) (hh : Hs) : run fs (k + 1) f args hh = enter fn (run fs k) args hh := by
  show (match fs f with
    | some fn => enter fn (run fs k) args
    | none => M.no) hh = _
  rw [h]
theorem enter_rt {fn : Fn} {cal : Cal} {args : List R} {h h1 : Hs} {r : R} (hl : args.length = fn.np) (e : sts cal fn.body (args.map some ++ List.replicate (fn.ns - fn.np) none) h = .rt r h1) : enter fn cal args h = leave fn.keep h.length r h1 := by
  unfold enter
  rw [if_pos hl, e]
theorem sts_app (cal : Cal) : ∀ (a b : List S) (ρ : Rho) (h : Hs), sts cal (a ++ b) ρ h = match sts cal a ρ h with
    | .nx ρ1 h1 => sts cal b ρ1 h1
    | o => o
  | [], b, ρ, h => by simp [sts]
  | s :: a, b, ρ, h => by
    have ih := sts_app cal a b
    simp only [List.cons_append, sts]
    cases e : st cal s ρ h with
    | nx ρ1 h1 => simp [ih]
    | _ => rfl
theorem ne_self {d : D} (h : SeqAt.shaped d = true) : cmpD .NotEq d d = some false := by
  show (eqD d d).map (!·) = _
  unfold eqD
  rw [h]
  simp [SeqAt.eqv_refl d (SeqAt.canLay_of_shaped h)]
theorem eq_self {d : D} (h : SeqAt.shaped d = true) : cmpD .Eq d d = some true := by
  show eqD d d = _
  unfold eqD
  rw [h]
  simp [SeqAt.eqv_refl d (SeqAt.canLay_of_shaped h)]
abbrev eC : E := .ix (.call 73 [(.v 2), (.v 4), (.tup [(.tup [(.tup [(.lit (.str (PySem.Str.ofString "go"))), (.lit (.int 1))])]), (.tup [(.tup [(.lit (.str (PySem.Str.ofString "lift")))])])])]) (.lit (.int 1))
def T74 : List S := [
    .ife (.cmp .NotEq eC (.tup [(.bin false .Add (.v 1) (.lit (.int 1))), (.lit (.int 0)), (.lit (.str (PySem.Str.ofString "none")))])) [.ret (.lit (.bool false))] [],
    .ife (.cmp .Lt (.v 0) (.lit (.int 6))) [.asg (.n 8) (.ix (.lst false [(.lit (.int 0)), (.lit (.int 0)), (.lit (.int 1)), (.lit (.int 1)), (.lit (.int 3)), (.lit (.int 3))]) (.v 0)), .ret (.and (.cmp .Eq (.v 7) (.tup [(.bin false .Add (.v 1) (.v 8)), (.lit (.int 0)), (.lit (.str (PySem.Str.ofString "charge")))])) (.cmp .Eq (.bif false .len [(.v 6)]) (.bin false .Add (.v 8) (.lit (.int 1)))))] [],
    .asg (.n 9) (.tup [(.bin false .Add (.v 1) (.lit (.int 5))), (.tup [(.tup [(.lit (.int 0)), (.bin false .Sub (.v 0) (.lit (.int 6))), (.lit .none), (.lit (.bool false))])]), (.tup [(.tup [(.lit (.int 0)), (.tup [(.lit (.int 3))])])]), (.tup [(.tup [(.lit (.int 0)), (.lit (.int 2)), (.lit (.int 2)), (.lit (.int 4))])])]),
    .ret (.and (.cmp .Is (.v 7) (.lit .none)) (.and (.cmp .Eq (.bif false .len [(.v 6)]) (.lit (.int 6))) (.cmp .Eq (.ix (.v 6) (.neg (.lit (.int 1)))) (.v 9))))]
theorem body74 : B_law_example_right_74.body = B_law_example_right_74.body.take 4 ++ T74 := by kernel_rfl
theorem isD_lt (i j : Int) : cmpD .Lt (.int i) (.int j) = some (decide (i < j)) := rfl
theorem isD_none : cmpD .Is .none .none = some true := rfl
theorem i_eq (n : Int) : cmpD .Eq (.int n) (.int n) = some true := eq_self rfl
theorem t1 (b : Nat) : cmpD .NotEq (.tuple [.int ((b : Int) + 1), .int 0, .str (PySem.Str.ofString "none")]) (.tuple [.int ((b : Int) + 1), .int 0, .str (PySem.Str.ofString "none")]) = some false := ne_self (by kernel_rfl)
theorem u0 (b : Nat) : cmpD .Eq (.tuple [(.int (b : Nat)), (.int 0), (.str (PySem.Str.ofString "charge"))]) (.tuple [(.int (b : Nat)), (.int 0), (.str (PySem.Str.ofString "charge"))]) = some true := eq_self (by kernel_rfl)
theorem u1 (b : Nat) : cmpD .Eq (.tuple [(.int ((b : Nat) + 1)), (.int 0), (.str (PySem.Str.ofString "charge"))]) (.tuple [(.int ((b : Nat) + 1)), (.int 0), (.str (PySem.Str.ofString "charge"))]) = some true := eq_self (by kernel_rfl)
theorem u3 (b : Nat) : cmpD .Eq (.tuple [(.int ((b : Nat) + 3)), (.int 0), (.str (PySem.Str.ofString "charge"))]) (.tuple [(.int ((b : Nat) + 3)), (.int 0), (.str (PySem.Str.ofString "charge"))]) = some true := eq_self (by kernel_rfl)
theorem w6 (b : Nat) : cmpD .Eq (.tuple [(.int ((b : Nat) + 5)), (.tuple [(.tuple [(.int 0), (.int 0), .none, (.bool false)])]), (.tuple [(.tuple [(.int 0), (.tuple [(.int 3)])])]), (.tuple [(.tuple [(.int 0), (.int 2), (.int 2), (.int 4)])])]) (.tuple [(.int ((b : Nat) + 5)), (.tuple [(.tuple [(.int 0), (.int 0), .none, (.bool false)])]), (.tuple [(.tuple [(.int 0), (.tuple [(.int 3)])])]), (.tuple [(.tuple [(.int 0), (.int 2), (.int 2), (.int 4)])])]) = some true := eq_self (by kernel_rfl)
theorem w7 (b : Nat) : cmpD .Eq (.tuple [(.int ((b : Nat) + 5)), (.tuple [(.tuple [(.int 0), (.int 1), .none, (.bool false)])]), (.tuple [(.tuple [(.int 0), (.tuple [(.int 3)])])]), (.tuple [(.tuple [(.int 0), (.int 2), (.int 2), (.int 4)])])]) (.tuple [(.int ((b : Nat) + 5)), (.tuple [(.tuple [(.int 0), (.int 1), .none, (.bool false)])]), (.tuple [(.tuple [(.int 0), (.tuple [(.int 3)])])]), (.tuple [(.tuple [(.int 0), (.int 2), (.int 2), (.int 4)])])]) = some true := eq_self (by kernel_rfl)
theorem w8 (b : Nat) : cmpD .Eq (.tuple [(.int ((b : Nat) + 5)), (.tuple [(.tuple [(.int 0), (.int 2), .none, (.bool false)])]), (.tuple [(.tuple [(.int 0), (.tuple [(.int 3)])])]), (.tuple [(.tuple [(.int 0), (.int 2), (.int 2), (.int 4)])])]) (.tuple [(.int ((b : Nat) + 5)), (.tuple [(.tuple [(.int 0), (.int 2), .none, (.bool false)])]), (.tuple [(.tuple [(.int 0), (.tuple [(.int 3)])])]), (.tuple [(.tuple [(.int 0), (.int 2), (.int 2), (.int 4)])])]) = some true := eq_self (by kernel_rfl)
abbrev env1 (b : Nat) : Rho := [some (.d (.int 1)), some (.d (.int (b : Nat))), some (.d (.tuple [(.tuple [(.tuple [(.str (PySem.Str.ofString "SD"))])]), (.tuple [(.int 1), (.int 2), (.int 1), (.int 8)]), (.tuple [])])), some (.d (.tuple [(.int 0), (.int 1), .none, (.bool false)])), some (.d (.tuple [(.int (b : Nat)), (.tuple [(.tuple [(.int 0), (.int 1), .none, (.bool false)])]), (.tuple [(.tuple [(.int 0), (.tuple [(.int 5)])])]), (.tuple [(.tuple [(.int 0), (.int 2), (.int 0), (.int 4)])])])), some (.d (.tuple [(.tuple [(.tuple [(.str (PySem.Str.ofString "lift"))])]), (.tuple [(.tuple [(.str (PySem.Str.ofString "go")), (.int 1)])]), (.tuple [(.tuple [(.str (PySem.Str.ofString "hand")), (.int 0)])]), (.tuple [(.tuple [(.str (PySem.Str.ofString "go")), (.int 0)])]), (.tuple [(.tuple [(.str (PySem.Str.ofString "set"))])])])), some (.d (.tuple [(.tuple [(.int (b : Nat)), (.tuple [(.tuple [(.int 0), (.int 1), .none, (.bool false)])]), (.tuple [(.tuple [(.int 0), (.tuple [(.int 5)])])]), (.tuple [(.tuple [(.int 0), (.int 2), (.int 0), (.int 4)])])])])), some (.d (.tuple [(.int (b : Nat)), (.int 0), (.str (PySem.Str.ofString "charge"))])), none, none]
theorem A1 (b : Nat) (xs ys : List D) : sts (run FN 18) (B_law_example_right_74.body.take 4) [some (.d (.int 1)), some (.d (.int (b : Nat))), none, none, none, none, none, none, none, none] [.lst xs, .lst ys] = .nx (env1 b) [.lst xs, .lst ys] := by kernel_rfl
theorem C1 (b : Nat) (xs ys : List D) : ev (run FN 18) eC (env1 b) [.lst xs, .lst ys] = .ok (.d (.tuple [(.int ((b : Nat) + 1)), (.int 0), (.str (PySem.Str.ofString "none"))])) [.lst xs, .lst ys] := by kernel_rfl
theorem X1 (b : Nat) (xs ys : List D) : run FN 19 74 [.d (.int 1), .d (.int (b : Nat))] [.lst xs, .lst ys] = .ok (.d (.bool true)) [.lst xs, .lst ys] := by
  have e : sts (run FN 18) B_law_example_right_74.body [some (.d (.int 1)), some (.d (.int (b : Nat))), none, none, none, none, none, none, none, none] [.lst xs, .lst ys] = .rt (.d (.bool true)) [.lst xs, .lst ys] := by
    rw [body74, sts_app, A1]
    have h := C1 b xs ys
    unfold T74
    generalize eC = C at h ⊢
    simp [sts, st, ofOut, ev, evs, M.bnd, M.ret, M.opt, h, dat, dats, pur, boolOf, purAll, binD, lay, lim, t1, ixD, atX, put, bifD, lenD, i_eq, isD_lt, isD_none, u0]
  rw [run_at FN_74, enter_rt rfl e]
  rfl
abbrev env2 (b : Nat) : Rho := [some (.d (.int 2)), some (.d (.int (b : Nat))), some (.d (.tuple [(.tuple [(.tuple [(.str (PySem.Str.ofString "SD"))])]), (.tuple [(.int 1), (.int 2), (.int 1), (.int 8)]), (.tuple [])])), some (.d (.tuple [(.int 0), (.int 2), .none, (.bool false)])), some (.d (.tuple [(.int (b : Nat)), (.tuple [(.tuple [(.int 0), (.int 2), .none, (.bool false)])]), (.tuple [(.tuple [(.int 0), (.tuple [(.int 5)])])]), (.tuple [(.tuple [(.int 0), (.int 2), (.int 0), (.int 4)])])])), some (.d (.tuple [(.tuple [(.tuple [(.str (PySem.Str.ofString "lift"))])]), (.tuple [(.tuple [(.str (PySem.Str.ofString "go")), (.int 1)])]), (.tuple [(.tuple [(.str (PySem.Str.ofString "hand")), (.int 0)])]), (.tuple [(.tuple [(.str (PySem.Str.ofString "go")), (.int 0)])]), (.tuple [(.tuple [(.str (PySem.Str.ofString "set"))])])])), some (.d (.tuple [(.tuple [(.int (b : Nat)), (.tuple [(.tuple [(.int 0), (.int 2), .none, (.bool false)])]), (.tuple [(.tuple [(.int 0), (.tuple [(.int 5)])])]), (.tuple [(.tuple [(.int 0), (.int 2), (.int 0), (.int 4)])])]), (.tuple [(.int ((b : Nat) + 1)), (.tuple [(.tuple [(.int 0), (.int 0), (.int 0), (.bool false)])]), (.tuple [(.tuple [(.int 0), (.tuple [(.int 5)])])]), (.tuple [(.tuple [(.int 0), (.int 2), (.int 0), (.int 4)])])])])), some (.d (.tuple [(.int ((b : Nat) + 1)), (.int 0), (.str (PySem.Str.ofString "charge"))])), none, none]
theorem A2 (b : Nat) (xs ys : List D) : sts (run FN 18) (B_law_example_right_74.body.take 4) [some (.d (.int 2)), some (.d (.int (b : Nat))), none, none, none, none, none, none, none, none] [.lst xs, .lst ys] = .nx (env2 b) [.lst xs, .lst ys] := by kernel_rfl
theorem C2 (b : Nat) (xs ys : List D) : ev (run FN 18) eC (env2 b) [.lst xs, .lst ys] = .ok (.d (.tuple [(.int ((b : Nat) + 1)), (.int 0), (.str (PySem.Str.ofString "none"))])) [.lst xs, .lst ys] := by kernel_rfl
theorem X2 (b : Nat) (xs ys : List D) : run FN 19 74 [.d (.int 2), .d (.int (b : Nat))] [.lst xs, .lst ys] = .ok (.d (.bool true)) [.lst xs, .lst ys] := by
  have e : sts (run FN 18) B_law_example_right_74.body [some (.d (.int 2)), some (.d (.int (b : Nat))), none, none, none, none, none, none, none, none] [.lst xs, .lst ys] = .rt (.d (.bool true)) [.lst xs, .lst ys] := by
    rw [body74, sts_app, A2]
    have h := C2 b xs ys
    unfold T74
    generalize eC = C at h ⊢
    simp [sts, st, ofOut, ev, evs, M.bnd, M.ret, M.opt, h, dat, dats, pur, boolOf, purAll, binD, lay, lim, t1, ixD, atX, put, bifD, lenD, i_eq, isD_lt, isD_none, u1]
  rw [run_at FN_74, enter_rt rfl e]
  rfl
abbrev env3 (b : Nat) : Rho := [some (.d (.int 3)), some (.d (.int (b : Nat))), some (.d (.tuple [(.tuple [(.tuple [(.str (PySem.Str.ofString "SD"))])]), (.tuple [(.int 1), (.int 2), (.int 1), (.int 8)]), (.tuple [])])), some (.d (.tuple [(.int 0), (.int 3), .none, (.bool false)])), some (.d (.tuple [(.int (b : Nat)), (.tuple [(.tuple [(.int 0), (.int 3), .none, (.bool false)])]), (.tuple [(.tuple [(.int 0), (.tuple [(.int 5)])])]), (.tuple [(.tuple [(.int 0), (.int 2), (.int 0), (.int 4)])])])), some (.d (.tuple [(.tuple [(.tuple [(.str (PySem.Str.ofString "lift"))])]), (.tuple [(.tuple [(.str (PySem.Str.ofString "go")), (.int 1)])]), (.tuple [(.tuple [(.str (PySem.Str.ofString "hand")), (.int 0)])]), (.tuple [(.tuple [(.str (PySem.Str.ofString "go")), (.int 0)])]), (.tuple [(.tuple [(.str (PySem.Str.ofString "set"))])])])), some (.d (.tuple [(.tuple [(.int (b : Nat)), (.tuple [(.tuple [(.int 0), (.int 3), .none, (.bool false)])]), (.tuple [(.tuple [(.int 0), (.tuple [(.int 5)])])]), (.tuple [(.tuple [(.int 0), (.int 2), (.int 0), (.int 4)])])]), (.tuple [(.int ((b : Nat) + 1)), (.tuple [(.tuple [(.int 0), (.int 1), (.int 0), (.bool false)])]), (.tuple [(.tuple [(.int 0), (.tuple [(.int 5)])])]), (.tuple [(.tuple [(.int 0), (.int 2), (.int 0), (.int 4)])])])])), some (.d (.tuple [(.int ((b : Nat) + 1)), (.int 0), (.str (PySem.Str.ofString "charge"))])), none, none]
theorem A3 (b : Nat) (xs ys : List D) : sts (run FN 18) (B_law_example_right_74.body.take 4) [some (.d (.int 3)), some (.d (.int (b : Nat))), none, none, none, none, none, none, none, none] [.lst xs, .lst ys] = .nx (env3 b) [.lst xs, .lst ys] := by kernel_rfl
theorem C3 (b : Nat) (xs ys : List D) : ev (run FN 18) eC (env3 b) [.lst xs, .lst ys] = .ok (.d (.tuple [(.int ((b : Nat) + 1)), (.int 0), (.str (PySem.Str.ofString "none"))])) [.lst xs, .lst ys] := by kernel_rfl
theorem X3 (b : Nat) (xs ys : List D) : run FN 19 74 [.d (.int 3), .d (.int (b : Nat))] [.lst xs, .lst ys] = .ok (.d (.bool true)) [.lst xs, .lst ys] := by
  have e : sts (run FN 18) B_law_example_right_74.body [some (.d (.int 3)), some (.d (.int (b : Nat))), none, none, none, none, none, none, none, none] [.lst xs, .lst ys] = .rt (.d (.bool true)) [.lst xs, .lst ys] := by
    rw [body74, sts_app, A3]
    have h := C3 b xs ys
    unfold T74
    generalize eC = C at h ⊢
    simp [sts, st, ofOut, ev, evs, M.bnd, M.ret, M.opt, h, dat, dats, pur, boolOf, purAll, binD, lay, lim, t1, ixD, atX, put, bifD, lenD, i_eq, isD_lt, isD_none, u1]
  rw [run_at FN_74, enter_rt rfl e]
  rfl
abbrev env4 (b : Nat) : Rho := [some (.d (.int 4)), some (.d (.int (b : Nat))), some (.d (.tuple [(.tuple [(.tuple [(.str (PySem.Str.ofString "SD"))])]), (.tuple [(.int 1), (.int 2), (.int 1), (.int 8)]), (.tuple [])])), some (.d (.tuple [(.int 0), (.int 4), .none, (.bool false)])), some (.d (.tuple [(.int (b : Nat)), (.tuple [(.tuple [(.int 0), (.int 4), .none, (.bool false)])]), (.tuple [(.tuple [(.int 0), (.tuple [(.int 5)])])]), (.tuple [(.tuple [(.int 0), (.int 2), (.int 0), (.int 4)])])])), some (.d (.tuple [(.tuple [(.tuple [(.str (PySem.Str.ofString "lift"))])]), (.tuple [(.tuple [(.str (PySem.Str.ofString "go")), (.int 1)])]), (.tuple [(.tuple [(.str (PySem.Str.ofString "hand")), (.int 0)])]), (.tuple [(.tuple [(.str (PySem.Str.ofString "go")), (.int 0)])]), (.tuple [(.tuple [(.str (PySem.Str.ofString "set"))])])])), some (.d (.tuple [(.tuple [(.int (b : Nat)), (.tuple [(.tuple [(.int 0), (.int 4), .none, (.bool false)])]), (.tuple [(.tuple [(.int 0), (.tuple [(.int 5)])])]), (.tuple [(.tuple [(.int 0), (.int 2), (.int 0), (.int 4)])])]), (.tuple [(.int ((b : Nat) + 1)), (.tuple [(.tuple [(.int 0), (.int 2), (.int 0), (.bool false)])]), (.tuple [(.tuple [(.int 0), (.tuple [(.int 5)])])]), (.tuple [(.tuple [(.int 0), (.int 2), (.int 0), (.int 4)])])]), (.tuple [(.int ((b : Nat) + 2)), (.tuple [(.tuple [(.int 1), (.int 0), (.int 0), (.bool false)])]), (.tuple [(.tuple [(.int 0), (.tuple [(.int 5)])])]), (.tuple [(.tuple [(.int 0), (.int 2), (.int 0), (.int 4)])])]), (.tuple [(.int ((b : Nat) + 3)), (.tuple [(.tuple [(.int 1), (.int 0), (.int 0), (.bool false)])]), (.tuple [(.tuple [(.int 0), (.tuple [(.int 3)])])]), (.tuple [(.tuple [(.int 0), (.int 2), (.int 2), (.int 4)])])])])), some (.d (.tuple [(.int ((b : Nat) + 3)), (.int 0), (.str (PySem.Str.ofString "charge"))])), none, none]
theorem A4 (b : Nat) (xs ys : List D) : sts (run FN 18) (B_law_example_right_74.body.take 4) [some (.d (.int 4)), some (.d (.int (b : Nat))), none, none, none, none, none, none, none, none] [.lst xs, .lst ys] = .nx (env4 b) [.lst xs, .lst ys] := by kernel_rfl
theorem C4 (b : Nat) (xs ys : List D) : ev (run FN 18) eC (env4 b) [.lst xs, .lst ys] = .ok (.d (.tuple [(.int ((b : Nat) + 1)), (.int 0), (.str (PySem.Str.ofString "none"))])) [.lst xs, .lst ys] := by kernel_rfl
theorem X4 (b : Nat) (xs ys : List D) : run FN 19 74 [.d (.int 4), .d (.int (b : Nat))] [.lst xs, .lst ys] = .ok (.d (.bool true)) [.lst xs, .lst ys] := by
  have e : sts (run FN 18) B_law_example_right_74.body [some (.d (.int 4)), some (.d (.int (b : Nat))), none, none, none, none, none, none, none, none] [.lst xs, .lst ys] = .rt (.d (.bool true)) [.lst xs, .lst ys] := by
    rw [body74, sts_app, A4]
    have h := C4 b xs ys
    unfold T74
    generalize eC = C at h ⊢
    simp [sts, st, ofOut, ev, evs, M.bnd, M.ret, M.opt, h, dat, dats, pur, boolOf, purAll, binD, lay, lim, t1, ixD, atX, put, bifD, lenD, i_eq, isD_lt, isD_none, u3]
  rw [run_at FN_74, enter_rt rfl e]
  rfl
abbrev env5 (b : Nat) : Rho := [some (.d (.int 5)), some (.d (.int (b : Nat))), some (.d (.tuple [(.tuple [(.tuple [(.str (PySem.Str.ofString "SD"))])]), (.tuple [(.int 1), (.int 2), (.int 1), (.int 8)]), (.tuple [])])), some (.d (.tuple [(.int 0), (.int 5), .none, (.bool false)])), some (.d (.tuple [(.int (b : Nat)), (.tuple [(.tuple [(.int 0), (.int 5), .none, (.bool false)])]), (.tuple [(.tuple [(.int 0), (.tuple [(.int 5)])])]), (.tuple [(.tuple [(.int 0), (.int 2), (.int 0), (.int 4)])])])), some (.d (.tuple [(.tuple [(.tuple [(.str (PySem.Str.ofString "lift"))])]), (.tuple [(.tuple [(.str (PySem.Str.ofString "go")), (.int 1)])]), (.tuple [(.tuple [(.str (PySem.Str.ofString "hand")), (.int 0)])]), (.tuple [(.tuple [(.str (PySem.Str.ofString "go")), (.int 0)])]), (.tuple [(.tuple [(.str (PySem.Str.ofString "set"))])])])), some (.d (.tuple [(.tuple [(.int (b : Nat)), (.tuple [(.tuple [(.int 0), (.int 5), .none, (.bool false)])]), (.tuple [(.tuple [(.int 0), (.tuple [(.int 5)])])]), (.tuple [(.tuple [(.int 0), (.int 2), (.int 0), (.int 4)])])]), (.tuple [(.int ((b : Nat) + 1)), (.tuple [(.tuple [(.int 0), (.int 3), (.int 0), (.bool false)])]), (.tuple [(.tuple [(.int 0), (.tuple [(.int 5)])])]), (.tuple [(.tuple [(.int 0), (.int 2), (.int 0), (.int 4)])])]), (.tuple [(.int ((b : Nat) + 2)), (.tuple [(.tuple [(.int 1), (.int 1), (.int 0), (.bool false)])]), (.tuple [(.tuple [(.int 0), (.tuple [(.int 5)])])]), (.tuple [(.tuple [(.int 0), (.int 2), (.int 0), (.int 4)])])]), (.tuple [(.int ((b : Nat) + 3)), (.tuple [(.tuple [(.int 1), (.int 1), (.int 0), (.bool false)])]), (.tuple [(.tuple [(.int 0), (.tuple [(.int 3)])])]), (.tuple [(.tuple [(.int 0), (.int 2), (.int 2), (.int 4)])])])])), some (.d (.tuple [(.int ((b : Nat) + 3)), (.int 0), (.str (PySem.Str.ofString "charge"))])), none, none]
theorem A5 (b : Nat) (xs ys : List D) : sts (run FN 18) (B_law_example_right_74.body.take 4) [some (.d (.int 5)), some (.d (.int (b : Nat))), none, none, none, none, none, none, none, none] [.lst xs, .lst ys] = .nx (env5 b) [.lst xs, .lst ys] := by kernel_rfl
theorem C5 (b : Nat) (xs ys : List D) : ev (run FN 18) eC (env5 b) [.lst xs, .lst ys] = .ok (.d (.tuple [(.int ((b : Nat) + 1)), (.int 0), (.str (PySem.Str.ofString "none"))])) [.lst xs, .lst ys] := by kernel_rfl
theorem X5 (b : Nat) (xs ys : List D) : run FN 19 74 [.d (.int 5), .d (.int (b : Nat))] [.lst xs, .lst ys] = .ok (.d (.bool true)) [.lst xs, .lst ys] := by
  have e : sts (run FN 18) B_law_example_right_74.body [some (.d (.int 5)), some (.d (.int (b : Nat))), none, none, none, none, none, none, none, none] [.lst xs, .lst ys] = .rt (.d (.bool true)) [.lst xs, .lst ys] := by
    rw [body74, sts_app, A5]
    have h := C5 b xs ys
    unfold T74
    generalize eC = C at h ⊢
    simp [sts, st, ofOut, ev, evs, M.bnd, M.ret, M.opt, h, dat, dats, pur, boolOf, purAll, binD, lay, lim, t1, ixD, atX, put, bifD, lenD, i_eq, isD_lt, isD_none, u3]
  rw [run_at FN_74, enter_rt rfl e]
  rfl
abbrev env6 (b : Nat) : Rho := [some (.d (.int 6)), some (.d (.int (b : Nat))), some (.d (.tuple [(.tuple [(.tuple [(.str (PySem.Str.ofString "SD"))])]), (.tuple [(.int 1), (.int 2), (.int 1), (.int 8)]), (.tuple [])])), some (.d (.tuple [(.int 0), (.int 6), .none, (.bool false)])), some (.d (.tuple [(.int (b : Nat)), (.tuple [(.tuple [(.int 0), (.int 6), .none, (.bool false)])]), (.tuple [(.tuple [(.int 0), (.tuple [(.int 5)])])]), (.tuple [(.tuple [(.int 0), (.int 2), (.int 0), (.int 4)])])])), some (.d (.tuple [(.tuple [(.tuple [(.str (PySem.Str.ofString "lift"))])]), (.tuple [(.tuple [(.str (PySem.Str.ofString "go")), (.int 1)])]), (.tuple [(.tuple [(.str (PySem.Str.ofString "hand")), (.int 0)])]), (.tuple [(.tuple [(.str (PySem.Str.ofString "go")), (.int 0)])]), (.tuple [(.tuple [(.str (PySem.Str.ofString "set"))])])])), some (.d (.tuple [(.tuple [(.int (b : Nat)), (.tuple [(.tuple [(.int 0), (.int 6), .none, (.bool false)])]), (.tuple [(.tuple [(.int 0), (.tuple [(.int 5)])])]), (.tuple [(.tuple [(.int 0), (.int 2), (.int 0), (.int 4)])])]), (.tuple [(.int ((b : Nat) + 1)), (.tuple [(.tuple [(.int 0), (.int 4), (.int 0), (.bool false)])]), (.tuple [(.tuple [(.int 0), (.tuple [(.int 5)])])]), (.tuple [(.tuple [(.int 0), (.int 2), (.int 0), (.int 4)])])]), (.tuple [(.int ((b : Nat) + 2)), (.tuple [(.tuple [(.int 1), (.int 2), (.int 0), (.bool false)])]), (.tuple [(.tuple [(.int 0), (.tuple [(.int 5)])])]), (.tuple [(.tuple [(.int 0), (.int 2), (.int 0), (.int 4)])])]), (.tuple [(.int ((b : Nat) + 3)), (.tuple [(.tuple [(.int 1), (.int 2), (.int 0), (.bool false)])]), (.tuple [(.tuple [(.int 0), (.tuple [(.int 3)])])]), (.tuple [(.tuple [(.int 0), (.int 2), (.int 2), (.int 4)])])]), (.tuple [(.int ((b : Nat) + 4)), (.tuple [(.tuple [(.int 0), (.int 0), (.int 0), (.bool false)])]), (.tuple [(.tuple [(.int 0), (.tuple [(.int 3)])])]), (.tuple [(.tuple [(.int 0), (.int 2), (.int 2), (.int 4)])])]), (.tuple [(.int ((b : Nat) + 5)), (.tuple [(.tuple [(.int 0), (.int 0), .none, (.bool false)])]), (.tuple [(.tuple [(.int 0), (.tuple [(.int 3)])])]), (.tuple [(.tuple [(.int 0), (.int 2), (.int 2), (.int 4)])])])])), some (.d .none), none, none]
theorem A6 (b : Nat) (xs ys : List D) : sts (run FN 18) (B_law_example_right_74.body.take 4) [some (.d (.int 6)), some (.d (.int (b : Nat))), none, none, none, none, none, none, none, none] [.lst xs, .lst ys] = .nx (env6 b) [.lst xs, .lst ys] := by kernel_rfl
theorem C6 (b : Nat) (xs ys : List D) : ev (run FN 18) eC (env6 b) [.lst xs, .lst ys] = .ok (.d (.tuple [(.int ((b : Nat) + 1)), (.int 0), (.str (PySem.Str.ofString "none"))])) [.lst xs, .lst ys] := by kernel_rfl
theorem X6 (b : Nat) (xs ys : List D) : run FN 19 74 [.d (.int 6), .d (.int (b : Nat))] [.lst xs, .lst ys] = .ok (.d (.bool true)) [.lst xs, .lst ys] := by
  have e : sts (run FN 18) B_law_example_right_74.body [some (.d (.int 6)), some (.d (.int (b : Nat))), none, none, none, none, none, none, none, none] [.lst xs, .lst ys] = .rt (.d (.bool true)) [.lst xs, .lst ys] := by
    rw [body74, sts_app, A6]
    have h := C6 b xs ys
    unfold T74
    generalize eC = C at h ⊢
    simp [sts, st, ofOut, ev, evs, M.bnd, M.ret, M.opt, h, dat, dats, pur, boolOf, purAll, binD, lay, lim, t1, ixD, atX, put, bifD, lenD, i_eq, isD_lt, isD_none, w6]
  rw [run_at FN_74, enter_rt rfl e]
  rfl
abbrev env7 (b : Nat) : Rho := [some (.d (.int 7)), some (.d (.int (b : Nat))), some (.d (.tuple [(.tuple [(.tuple [(.str (PySem.Str.ofString "SD"))])]), (.tuple [(.int 1), (.int 2), (.int 1), (.int 8)]), (.tuple [])])), some (.d (.tuple [(.int 0), (.int 7), .none, (.bool false)])), some (.d (.tuple [(.int (b : Nat)), (.tuple [(.tuple [(.int 0), (.int 7), .none, (.bool false)])]), (.tuple [(.tuple [(.int 0), (.tuple [(.int 5)])])]), (.tuple [(.tuple [(.int 0), (.int 2), (.int 0), (.int 4)])])])), some (.d (.tuple [(.tuple [(.tuple [(.str (PySem.Str.ofString "lift"))])]), (.tuple [(.tuple [(.str (PySem.Str.ofString "go")), (.int 1)])]), (.tuple [(.tuple [(.str (PySem.Str.ofString "hand")), (.int 0)])]), (.tuple [(.tuple [(.str (PySem.Str.ofString "go")), (.int 0)])]), (.tuple [(.tuple [(.str (PySem.Str.ofString "set"))])])])), some (.d (.tuple [(.tuple [(.int (b : Nat)), (.tuple [(.tuple [(.int 0), (.int 7), .none, (.bool false)])]), (.tuple [(.tuple [(.int 0), (.tuple [(.int 5)])])]), (.tuple [(.tuple [(.int 0), (.int 2), (.int 0), (.int 4)])])]), (.tuple [(.int ((b : Nat) + 1)), (.tuple [(.tuple [(.int 0), (.int 5), (.int 0), (.bool false)])]), (.tuple [(.tuple [(.int 0), (.tuple [(.int 5)])])]), (.tuple [(.tuple [(.int 0), (.int 2), (.int 0), (.int 4)])])]), (.tuple [(.int ((b : Nat) + 2)), (.tuple [(.tuple [(.int 1), (.int 3), (.int 0), (.bool false)])]), (.tuple [(.tuple [(.int 0), (.tuple [(.int 5)])])]), (.tuple [(.tuple [(.int 0), (.int 2), (.int 0), (.int 4)])])]), (.tuple [(.int ((b : Nat) + 3)), (.tuple [(.tuple [(.int 1), (.int 3), (.int 0), (.bool false)])]), (.tuple [(.tuple [(.int 0), (.tuple [(.int 3)])])]), (.tuple [(.tuple [(.int 0), (.int 2), (.int 2), (.int 4)])])]), (.tuple [(.int ((b : Nat) + 4)), (.tuple [(.tuple [(.int 0), (.int 1), (.int 0), (.bool false)])]), (.tuple [(.tuple [(.int 0), (.tuple [(.int 3)])])]), (.tuple [(.tuple [(.int 0), (.int 2), (.int 2), (.int 4)])])]), (.tuple [(.int ((b : Nat) + 5)), (.tuple [(.tuple [(.int 0), (.int 1), .none, (.bool false)])]), (.tuple [(.tuple [(.int 0), (.tuple [(.int 3)])])]), (.tuple [(.tuple [(.int 0), (.int 2), (.int 2), (.int 4)])])])])), some (.d .none), none, none]
theorem A7 (b : Nat) (xs ys : List D) : sts (run FN 18) (B_law_example_right_74.body.take 4) [some (.d (.int 7)), some (.d (.int (b : Nat))), none, none, none, none, none, none, none, none] [.lst xs, .lst ys] = .nx (env7 b) [.lst xs, .lst ys] := by kernel_rfl
theorem C7 (b : Nat) (xs ys : List D) : ev (run FN 18) eC (env7 b) [.lst xs, .lst ys] = .ok (.d (.tuple [(.int ((b : Nat) + 1)), (.int 0), (.str (PySem.Str.ofString "none"))])) [.lst xs, .lst ys] := by kernel_rfl
theorem X7 (b : Nat) (xs ys : List D) : run FN 19 74 [.d (.int 7), .d (.int (b : Nat))] [.lst xs, .lst ys] = .ok (.d (.bool true)) [.lst xs, .lst ys] := by
  have e : sts (run FN 18) B_law_example_right_74.body [some (.d (.int 7)), some (.d (.int (b : Nat))), none, none, none, none, none, none, none, none] [.lst xs, .lst ys] = .rt (.d (.bool true)) [.lst xs, .lst ys] := by
    rw [body74, sts_app, A7]
    have h := C7 b xs ys
    unfold T74
    generalize eC = C at h ⊢
    simp [sts, st, ofOut, ev, evs, M.bnd, M.ret, M.opt, h, dat, dats, pur, boolOf, purAll, binD, lay, lim, t1, ixD, atX, put, bifD, lenD, i_eq, isD_lt, isD_none, w7]
  rw [run_at FN_74, enter_rt rfl e]
  rfl
abbrev env8 (b : Nat) : Rho := [some (.d (.int 8)), some (.d (.int (b : Nat))), some (.d (.tuple [(.tuple [(.tuple [(.str (PySem.Str.ofString "SD"))])]), (.tuple [(.int 1), (.int 2), (.int 1), (.int 8)]), (.tuple [])])), some (.d (.tuple [(.int 0), (.int 8), .none, (.bool false)])), some (.d (.tuple [(.int (b : Nat)), (.tuple [(.tuple [(.int 0), (.int 8), .none, (.bool false)])]), (.tuple [(.tuple [(.int 0), (.tuple [(.int 5)])])]), (.tuple [(.tuple [(.int 0), (.int 2), (.int 0), (.int 4)])])])), some (.d (.tuple [(.tuple [(.tuple [(.str (PySem.Str.ofString "lift"))])]), (.tuple [(.tuple [(.str (PySem.Str.ofString "go")), (.int 1)])]), (.tuple [(.tuple [(.str (PySem.Str.ofString "hand")), (.int 0)])]), (.tuple [(.tuple [(.str (PySem.Str.ofString "go")), (.int 0)])]), (.tuple [(.tuple [(.str (PySem.Str.ofString "set"))])])])), some (.d (.tuple [(.tuple [(.int (b : Nat)), (.tuple [(.tuple [(.int 0), (.int 8), .none, (.bool false)])]), (.tuple [(.tuple [(.int 0), (.tuple [(.int 5)])])]), (.tuple [(.tuple [(.int 0), (.int 2), (.int 0), (.int 4)])])]), (.tuple [(.int ((b : Nat) + 1)), (.tuple [(.tuple [(.int 0), (.int 6), (.int 0), (.bool false)])]), (.tuple [(.tuple [(.int 0), (.tuple [(.int 5)])])]), (.tuple [(.tuple [(.int 0), (.int 2), (.int 0), (.int 4)])])]), (.tuple [(.int ((b : Nat) + 2)), (.tuple [(.tuple [(.int 1), (.int 4), (.int 0), (.bool false)])]), (.tuple [(.tuple [(.int 0), (.tuple [(.int 5)])])]), (.tuple [(.tuple [(.int 0), (.int 2), (.int 0), (.int 4)])])]), (.tuple [(.int ((b : Nat) + 3)), (.tuple [(.tuple [(.int 1), (.int 4), (.int 0), (.bool false)])]), (.tuple [(.tuple [(.int 0), (.tuple [(.int 3)])])]), (.tuple [(.tuple [(.int 0), (.int 2), (.int 2), (.int 4)])])]), (.tuple [(.int ((b : Nat) + 4)), (.tuple [(.tuple [(.int 0), (.int 2), (.int 0), (.bool false)])]), (.tuple [(.tuple [(.int 0), (.tuple [(.int 3)])])]), (.tuple [(.tuple [(.int 0), (.int 2), (.int 2), (.int 4)])])]), (.tuple [(.int ((b : Nat) + 5)), (.tuple [(.tuple [(.int 0), (.int 2), .none, (.bool false)])]), (.tuple [(.tuple [(.int 0), (.tuple [(.int 3)])])]), (.tuple [(.tuple [(.int 0), (.int 2), (.int 2), (.int 4)])])])])), some (.d .none), none, none]
theorem A8 (b : Nat) (xs ys : List D) : sts (run FN 18) (B_law_example_right_74.body.take 4) [some (.d (.int 8)), some (.d (.int (b : Nat))), none, none, none, none, none, none, none, none] [.lst xs, .lst ys] = .nx (env8 b) [.lst xs, .lst ys] := by kernel_rfl
theorem C8 (b : Nat) (xs ys : List D) : ev (run FN 18) eC (env8 b) [.lst xs, .lst ys] = .ok (.d (.tuple [(.int ((b : Nat) + 1)), (.int 0), (.str (PySem.Str.ofString "none"))])) [.lst xs, .lst ys] := by kernel_rfl
theorem X8 (b : Nat) (xs ys : List D) : run FN 19 74 [.d (.int 8), .d (.int (b : Nat))] [.lst xs, .lst ys] = .ok (.d (.bool true)) [.lst xs, .lst ys] := by
  have e : sts (run FN 18) B_law_example_right_74.body [some (.d (.int 8)), some (.d (.int (b : Nat))), none, none, none, none, none, none, none, none] [.lst xs, .lst ys] = .rt (.d (.bool true)) [.lst xs, .lst ys] := by
    rw [body74, sts_app, A8]
    have h := C8 b xs ys
    unfold T74
    generalize eC = C at h ⊢
    simp [sts, st, ofOut, ev, evs, M.bnd, M.ret, M.opt, h, dat, dats, pur, boolOf, purAll, binD, lay, lim, t1, ixD, atX, put, bifD, lenD, i_eq, isD_lt, isD_none, w8]
  rw [run_at FN_74, enter_rt rfl e]
  rfl
end Cy


set_option Elab.async false
set_option linter.all false
set_option maxRecDepth 100000
set_option maxHeartbeats 4000000
/-! S16b: the law's own draws. -/
namespace Cy
open PySem
theorem ex_all {c w : Int} (c1 : 1 ≤ c) (c8 : c ≤ 8) (w0 : 0 ≤ w) (xs ys : List D) : run FN 19 74 [.d (.int c), .d (.int w)] [.lst xs, .lst ys] = .ok (.d (.bool true)) [.lst xs, .lst ys] := by
  obtain ⟨b, rfl⟩ : ∃ b : Nat, w = (b : Int) := ⟨w.toNat, (Int.toNat_of_nonneg w0).symm⟩
  have hc : c = 1 ∨ c = 2 ∨ c = 3 ∨ c = 4 ∨ c = 5 ∨ c = 6 ∨ c = 7 ∨ c = 8 := by omega
  rcases hc with rfl | rfl | rfl | rfl | rfl | rfl | rfl | rfl
  · exact X1 b xs ys
  · exact X2 b xs ys
  · exact X3 b xs ys
  · exact X4 b xs ys
  · exact X5 b xs ys
  · exact X6 b xs ys
  · exact X7 b xs ys
  · exact X8 b xs ys
theorem mul_c (i : Int) {j : Int} (h : -1000000000000 < j) (h2 : j < 1000000000000) : mulOk i j = true := by
  have e1 : -big < j := by unfold big; omega
  have e2 : j < big := by unfold big; omega
  unfold mulOk
  simp [e1, e2]
theorem mul_d (j : Int) {i : Int} (h : -1000000000000 < i) (h2 : i < 1000000000000) : mulOk i j = true := by
  have e1 : -big < i := by unfold big; omega
  have e2 : i < big := by unfold big; omega
  unfold mulOk
  simp [e1, e2]
theorem i_cmp (i j : Int) : cmpD .Eq (.int i) (.int j) = some (decide (i = j)) := by
  show eqD (.int i) (.int j) = _
  unfold eqD
  have h : ∀ n : Int, SeqAt.shaped (.int n) = true := fun n => rfl
  rw [h, h]
  simp [PyData.eqv]
  by_cases e : i = j <;> simp [e]
def bodyM : List S := [.setix (.v 0) (.lit (.int 1)) (.bin false .Mod (.bin false .Add (.bin false .Mult (.ix (.v 0) (.lit (.int 1))) (.lit (.int 48271))) (.lit (.int 30269))) (.lit (.int 2147483647))), .asg (.n 1) (.bin false .Add (.bin false .Mult (.v 1) (.lit (.int 65521))) (.bin false .Mod (.bin false .FloorDiv (.ix (.v 0) (.lit (.int 1))) (.lit (.int 7))) (.lit (.int 65521))))]
theorem more_turn (cal : Cal) (a m v : Int) (r2 : R) (acc : List D) : ∃ m' v', sts cal bodyM [some (.ref 0), some (.d (.int v)), some r2] [.lst [.int a, .int m], .lst acc] = .nx [some (.ref 0), some (.d (.int v')), some r2] [.lst [.int a, .int m'], .lst acc] := by
  refine ⟨(m * 48271 + 30269) % 2147483647, v * 65521 + (m * 48271 + 30269) % 2147483647 / 7 % 65521, ?_⟩
  unfold bodyM
  simp [sts, st, ofOut, ev, evs, M.bnd, M.ret, M.opt, dat, pur, hget, ixD, atX, binD, mul_c, lay, put]
theorem more_loop (cal : Cal) (a : Int) (acc : List D) : ∀ (n : Nat) (i m v : Int) (r2 : Option R), ∃ m' v' q2, loopL (.n 2) (fun ρ' h' => sts cal bodyM ρ' h') (rangeD i n) [some (.ref 0), some (.d (.int v)), r2] [.lst [.int a, .int m], .lst acc] =
    .nx [some (.ref 0), some (.d (.int v')), q2] [.lst [.int a, .int m'], .lst acc]
  | 0, i, m, v, r2 => ⟨m, v, r2, by simp [rangeD, loopL]⟩
  | n + 1, i, m, v, r2 => by
    obtain ⟨m1, v1, e⟩ := more_turn cal a m v (.d (.int i)) acc
    obtain ⟨m2, v2, q2, e2⟩ := more_loop cal a acc n (i + 1) m1 v1 (some (.d (.int i)))
    refine ⟨m2, v2, q2, ?_⟩
    have et : trim 2 [some (.ref 0), some (.d (.int v1)), some (.d (.int i))] [.lst [.int a, .int m1], .lst acc] = [.lst [.int a, .int m1], .lst acc] := rfl
    unfold rangeD loopL
    simp [put, e, et, e2]
theorem more_ok (k : Nat) (a m : Int) (acc : List D) : ∃ m' v', run FN (k + 1) 68 [.ref 0] [.lst [.int a, .int m], .lst acc] = .ok (.d (.int v')) [.lst [.int a, .int m'], .lst acc] := by
  obtain ⟨m', v', q2, e⟩ := more_loop (run FN k) a acc 12 0 m 0 none
  refine ⟨m', v', ?_⟩
  have hb : B_law_more_68.body = [.asg (.n 1) (.lit (.int 0)), .for (.n 2) (.rng [(.lit (.int 12))]) bodyM, .ret (.v 1)] := rfl
  have e1 : sts (run FN k) B_law_more_68.body [some (.ref 0), none, none] [.lst [.int a, .int m], .lst acc] = .rt (.d (.int v')) [.lst [.int a, .int m'], .lst acc] := by
    have hr : ev (run FN k) (.rng [(.lit (.int 12))]) [some (.ref 0), some (.d (.int 0)), none] [.lst [.int a, .int m], .lst acc] = .ok (.d (.list (rangeD 0 12))) [.lst [.int a, .int m], .lst acc] := by
      simp [ev, evs, M.bnd, M.ret, M.opt, purAll, rngD, small]
    rw [hb]
    generalize rangeD 0 12 = X at e hr
    generalize E.rng [(.lit (.int 12))] = C at hr ⊢
    generalize bodyM = B at e ⊢
    simp [sts, st, ofOut, ev, evs, M.bnd, M.ret, M.opt, put, hr, pur, seqD, e]
  rw [run_at FN_68, enter_rt rfl e1]
  rfl
theorem take_ok (k : Nat) (a m far : Int) (acc : List D) (f0 : 0 < far) (f1 : far < 1000) :
    ∃ v a' m', 0 ≤ v ∧ v < far ∧ run FN (k + 2) 69 [.ref 0, .d (.int far)] [.lst [.int a, .int m], .lst acc] = .ok (.d (.int v)) [.lst [.int a', .int m'], .lst acc] := by
  obtain ⟨m1, w, em⟩ := more_ok k a m acc
  have f2 : far < 1073741824 := by omega
  by_cases h1 : 0 ≤ a
  · by_cases h2 : a < far
    · refine ⟨(a + far * w) % far, (a + far * w) / far, m1, Int.emod_nonneg _ (by omega), Int.emod_lt_of_pos _ f0, ?_⟩
      have hm : mulOk far w = true := mul_d w (by omega) (by omega)
      rw [run_at FN_69]
      simp [enter, B_law_take_69, sts, st, ofOut, ev, evs, M.bnd, M.ret, M.opt, dat, dats, pur, hget, ixD, atX, cmpD, boolOf, h1, h2, em, binD, hm, lay, bifD, f0, f2, put, put.putAll, leave, below, Cell.below]
    · refine ⟨a % far, a / far, m, Int.emod_nonneg _ (by omega), Int.emod_lt_of_pos _ f0, ?_⟩
      rw [run_at FN_69]
      simp [enter, B_law_take_69, sts, st, ofOut, ev, evs, M.bnd, M.ret, M.opt, dat, dats, pur, hget, ixD, atX, cmpD, boolOf, h1, h2, binD, lay, bifD, f0, f2, put, put.putAll, leave, below, Cell.below]
  · refine ⟨a % far, a / far, m, Int.emod_nonneg _ (by omega), Int.emod_lt_of_pos _ f0, ?_⟩
    rw [run_at FN_69]
    simp [enter, B_law_take_69, sts, st, ofOut, ev, evs, M.bnd, M.ret, M.opt, dat, dats, pur, hget, ixD, atX, cmpD, boolOf, h1, binD, lay, bifD, f0, f2, put, put.putAll, leave, below, Cell.below]
def bodyX : List S := [.asg (.n 5) (.bin false .Mod (.bin false .Add (.bin false .Add (.bin false .Mult (.bin false .Mod (.v 2) (.lit (.int 2147483647))) (.lit (.int 48271))) (.bin false .Mult (.lit (.int 7919)) (.v 4))) (.lit (.int 1))) (.lit (.int 2147483647))), .asg (.n 5) (.bin false .Mod (.bin false .Mult (.v 5) (.v 5)) (.lit (.int 2147483629))), .asg (.n 3) (.bin false .Add (.bin false .Mult (.v 3) (.lit (.int 2147483647))) (.bin false .Mod (.bin false .Mult (.v 5) (.bin false .Add (.v 5) (.lit (.int 13)))) (.lit (.int 2147483647))))]
theorem box_turn (cal : Cal) (L : R) (k g v j : Int) (r5 : Option R) : ∃ v' r5', sts cal bodyX [some L, some (.d (.int k)), some (.d (.int g)), some (.d (.int v)), some (.d (.int j)), r5] [] = .nx [some L, some (.d (.int k)), some (.d (.int g)), some (.d (.int v')), some (.d (.int j)), some (.d r5')] [] := by
  obtain ⟨p, ep⟩ : ∃ p, p = (g % 2147483647 * 48271 + 7919 * j + 1) % 2147483647 := ⟨_, rfl⟩
  have p0 : 0 ≤ p := by omega
  have p1 : p < 2147483647 := by omega
  obtain ⟨q, eq⟩ : ∃ q, q = p * p % 2147483629 := ⟨_, rfl⟩
  have q0 : 0 ≤ q := by omega
  have q1 : q < 2147483629 := by omega
  refine ⟨v * 2147483647 + q * (q + 13) % 2147483647, .int q, ?_⟩
  have m1 : mulOk p p = true := mul_d p (by omega) (by omega)
  have m2 : mulOk q (q + 13) = true := mul_d _ (by omega) (by omega)
  have m3 : mulOk 7919 j = true := mul_d j (by decide) (by decide)
  unfold bodyX
  simp [sts, st, ofOut, ev, evs, M.bnd, M.ret, M.opt, dat, binD, mul_c, m3, lay, put, ← ep, m1, ← eq, m2]
theorem box_loop (cal : Cal) (L : D) (k g : Int) : ∀ (n : Nat) (i v : Int) (r4 r5 : Option R), ∃ v' q4 q5, loopL (.n 4) (fun ρ' h' => sts cal bodyX ρ' h') (rangeD i n) [some (.d L), some (.d (.int k)), some (.d (.int g)), some (.d (.int v)), r4, r5] [] =
    .nx [some (.d L), some (.d (.int k)), some (.d (.int g)), some (.d (.int v')), q4, q5] []
  | 0, i, v, r4, r5 => ⟨v, r4, r5, by simp [rangeD, loopL]⟩
  | n + 1, i, v, r4, r5 => by
    obtain ⟨v1, s5, e⟩ := box_turn cal (.d L) k g v i r5
    obtain ⟨v2, q4, q5, e2⟩ := box_loop cal L k g n (i + 1) v1 (some (.d (.int i))) (some (.d s5))
    refine ⟨v2, q4, q5, ?_⟩
    have et : trim 0 [some (.d L), some (.d (.int k)), some (.d (.int g)), some (.d (.int v1)), some (.d (.int i)), some (.d s5)] [] = [] := rfl
    unfold rangeD loopL
    simp [put, e, et, e2]
theorem box_head (cal : Cal) (ns : List Int) (i : Nat) : ∃ g : Int, sts cal (B_law_box_67.body.take 2) [some (.d (.list (ns.map .int))), some (.d (.int i)), none, none, none, none] [] = .nx [some (.d (.list (ns.map .int))), some (.d (.int i)), some (.d (.int g)), none, none, none] [] := by
  have hm : mulOk 7919 (i : Int) = true := mul_d _ (by decide) (by decide)
  by_cases hi : i < ns.length
  · refine ⟨ns[i], ?_⟩
    have e : ixD (.list (ns.map PyData.int)) (.int (i : Int)) = some (.int ns[i]) := by
      unfold ixD atX
      simp [hi]
    simp [B_law_box_67, sts, st, ofOut, ev, evs, M.bnd, M.ret, M.opt, dat, dats, pur, binD, hm, lay, put, cmpD, boolOf, bifD, lenD, hi, e]
  · refine ⟨7919 * i + 13, ?_⟩
    simp [B_law_box_67, sts, st, ofOut, ev, evs, M.bnd, M.ret, M.opt, dat, dats, pur, binD, hm, lay, put, cmpD, boolOf, bifD, lenD, hi]
def Y67 (B : List S) : List S := [
    .ife (.cmp .Eq (.bin false .Mod (.v 2) (.lit (.int 2))) (.lit (.int 0))) [.ret (.lst true [(.bin false .FloorDiv (.v 2) (.lit (.int 2))), (.bin false .Mod (.bif false .abs [(.v 2)]) (.lit (.int 2147483647)))])] [],
    .asg (.n 3) (.lit (.int 0)),
    .for (.n 4) (.rng [(.lit (.int 16))]) B,
    .ret (.lst true [(.v 3), (.bin false .Mod (.bif false .abs [(.v 2)]) (.lit (.int 2147483647)))])]
theorem body67 : B_law_box_67.body = B_law_box_67.body.take 2 ++ Y67 bodyX := by
  unfold B_law_box_67 Y67 bodyX
  rfl
theorem abs_d (g : Int) : bifD .abs [.int g] = some (.v (.int (if g < 0 then -g else g))) := rfl
theorem mod_d (x : Int) : binD .Mod (.int x) (.int 2147483647) = some (.v (.int (x % 2147483647))) := by
  unfold binD
  simp
theorem box_even (cal : Cal) (B : List S) (L : D) (i g : Int) (h2 : g % 2 = 0) : ∃ a m, sts cal (Y67 B) [some (.d L), some (.d (.int i)), some (.d (.int g)), none, none, none] [] = .rt (.ref 0) [.lst [.int a, .int m]] := by
  refine ⟨g / 2, (if g < 0 then -g else g) % 2147483647, ?_⟩
  have e2 : binD .Mod (.int g) (.int 2) = some (.v (.int (g % 2))) := rfl
  have e3 : binD .FloorDiv (.int g) (.int 2) = some (.v (.int (g / 2))) := rfl
  unfold Y67
  simp [sts, st, ofOut, ev, evs, M.bnd, M.ret, M.opt, dat, dats, i_cmp, h2, e2, e3, mod_d, abs_d, lay, boolOf, purAll, lim]
theorem box_odd (cal : Cal) (B : List S) (L : D) (i g : Int) (h2 : ¬ g % 2 = 0) (el : ∃ v' q4 q5, loopL (.n 4) (fun ρ' h' => sts cal B ρ' h') (rangeD 0 16) [some (.d L), some (.d (.int i)), some (.d (.int g)), some (.d (.int 0)), none, none] [] =
    .nx [some (.d L), some (.d (.int i)), some (.d (.int g)), some (.d (.int v')), q4, q5] []) : ∃ a m, sts cal (Y67 B) [some (.d L), some (.d (.int i)), some (.d (.int g)), none, none, none] [] = .rt (.ref 0) [.lst [.int a, .int m]] := by
  obtain ⟨v', q4, q5, el⟩ := el
  refine ⟨v', (if g < 0 then -g else g) % 2147483647, ?_⟩
  have e2 : binD .Mod (.int g) (.int 2) = some (.v (.int (g % 2))) := rfl
  have hr : ev cal (.rng [(.lit (.int 16))]) [some (.d L), some (.d (.int i)), some (.d (.int g)), some (.d (.int 0)), none, none] [] = .ok (.d (.list (rangeD 0 16))) [] := by
    simp [ev, evs, M.bnd, M.ret, M.opt, purAll, rngD, small]
  unfold Y67
  generalize rangeD 0 16 = X at el hr
  generalize E.rng [(.lit (.int 16))] = C at hr ⊢
  simp [sts, st, ofOut, ev, evs, M.bnd, M.ret, M.opt, dat, dats, i_cmp, h2, e2, mod_d, abs_d, lay, boolOf, put, hr, pur, seqD, el, purAll, lim]
theorem box_ok (k : Nat) (ns : List Int) (i : Nat) : ∃ a m : Int, run FN (k + 1) 67 [.d (.list (ns.map .int)), .d (.int i)] [] = .ok (.ref 0) [.lst [.int a, .int m]] := by
  obtain ⟨g, eg⟩ := box_head (run FN k) ns i
  have key : ∃ a m : Int, sts (run FN k) B_law_box_67.body [some (.d (.list (ns.map .int))), some (.d (.int i)), none, none, none, none] [] = .rt (.ref 0) [.lst [.int a, .int m]] := by
    by_cases h2 : g % 2 = 0
    · obtain ⟨a, m, e⟩ := box_even (run FN k) bodyX (.list (ns.map .int)) i g h2
      exact ⟨a, m, by rw [body67, sts_app, eg]; exact e⟩
    · obtain ⟨a, m, e⟩ := box_odd (run FN k) bodyX (.list (ns.map .int)) i g h2 (box_loop (run FN k) (.list (ns.map .int)) i g 16 0 0 none none)
      exact ⟨a, m, by rw [body67, sts_app, eg]; exact e⟩
  obtain ⟨a, m, e⟩ := key
  refine ⟨a, m, ?_⟩
  rw [run_at FN_67, enter_rt rfl e]
  rfl
end Cy


set_option Elab.async false
set_option linter.all false
set_option maxRecDepth 100000
set_option maxHeartbeats 4000000
/-! S16c: the law's loops. -/
namespace Cy
open PySem
abbrev eltE : E := .call 74 [(.bin false .Add (.lit (.int 1)) (.call 69 [(.v 2), (.lit (.int 8))])), (.call 69 [(.v 2), (.lit (.int 200))])]
def turnF (ρ' : Rho) : M (Option D) := M.nox (((ev (run FN 19) (.lit (.bool true)) ρ').bnd boolOf).bnd fun k =>
      match k with
      | true => (ev (run FN 19) eltE ρ').bnd fun y => (pur y).bnd fun dy => M.ret (some dy)
      | false => M.ret none)
theorem turns_ok (r0 r1 : Option R) : ∀ (ds : List D) (a m : Int) (acc : List D), acc.length + ds.length ≤ 100 →
    ∃ a' m', turns turnF (.n 3) [r0, r1, some (.ref 0), none] 1 ds [.lst [.int a, .int m], .lst acc] = .ok () [.lst [.int a', .int m'], .lst (acc ++ List.replicate ds.length (.bool true))]
  | [], a, m, acc, _ => ⟨a, m, by simp [turns, M.ret]⟩
  | x :: ds, a, m, acc, hl => by
    obtain ⟨v, a1, m1, v0, v1, e1⟩ := take_ok 17 a m 8 acc (by decide) (by decide)
    obtain ⟨w, a2, m2, w0, w1, e2⟩ := take_ok 17 a1 m1 200 acc (by decide) (by decide)
    have e3 := ex_all (c := 1 + v) (w := w) (by omega) (by omega) w0 [.int a2, .int m2] acc
    have hz : acc.length < lim := by
      have : lim = 16777216 := rfl
      simp only [List.length_cons] at hl
      omega
    obtain ⟨a3, m3, e4⟩ := turns_ok r0 r1 ds a2 m2 (acc ++ [.bool true]) (by simp at hl ⊢; omega)
    refine ⟨a3, m3, ?_⟩
    have ef : turnF [r0, r1, some (.ref 0), some (.d x)] [.lst [.int a, .int m], .lst acc] = .ok (some (.bool true)) [.lst [.int a2, .int m2], .lst acc] := by
      simp [turnF, eltE, M.nox, ev, evs, M.bnd, M.ret, M.opt, boolOf, pur, dat, binD, lay, e1, e2, e3]
    unfold turns
    simp [put, M.opt, M.bnd, ef, appR, appC, hget, hz, e4, List.replicate_succ]
abbrev eK : E := .comp false [3] eltE (.n 3) (.rng [(.lit (.int 4))]) (.lit (.bool true))
theorem bnd_ok {α β : Type} {m : M α} {f : α → M β} {h h1 : Hs} {a : α} (e : m h = .ok a h1) : (m.bnd f) h = f a h1 := by
  unfold M.bnd
  rw [e]
def T4 : List D := List.replicate 4 (.bool true)
theorem comp_ok' (r0 r1 : Option R) (a m : Int) : ∃ a' m', ev (run FN 19) eK [r0, r1, some (.ref 0), none] [.lst [.int a, .int m]] = .ok (.d (.list (T4))) [.lst [.int a', .int m'], .fz (T4)] := by
  obtain ⟨a', m', e⟩ := turns_ok r0 r1 (rangeD 0 4) a m [] (by decide)
  refine ⟨a', m', ?_⟩
  have hr : ev (run FN 19) (.rng [(.lit (.int 4))]) [r0, r1, some (.ref 0), none] [.lst [.int a, .int m]] = .ok (.d (.list (rangeD 0 4))) [.lst [.int a, .int m]] := by
    simp [ev, evs, M.bnd, M.ret, M.opt, purAll, rngD, small]
  unfold eK ev
  refine (bnd_ok hr).trans ?_
  refine (bnd_ok (h1 := [.lst [.int a, .int m]]) (a := PyData.list (rangeD 0 4)) rfl).trans ?_
  refine (bnd_ok (h1 := [.lst [.int a, .int m]]) (a := rangeD 0 4) rfl).trans ?_
  unfold compM
  refine (bnd_ok (h1 := [.lst [.int a', .int m'], .lst (T4)]) (a := ()) e).trans ?_
  rfl
def loopB : List S := [.asg (.n 2) (.call 67 [(.v 0), (.v 1)]), .ife (.not (.bif false .all [eK])) [.ret (.lit (.bool false))] [], .fgt [2]]
theorem all4 : bifD .all [.list (T4)] = some (.v (.bool true)) := rfl
theorem turn_ok (ns : List Int) (i : Nat) : ∃ h', sts (run FN 19) loopB [some (.d (.list (ns.map .int))), some (.d (.int i)), none, none] [] = .nx [some (.d (.list (ns.map .int))), some (.d (.int i)), none, none] h' := by
  obtain ⟨a, m, e⟩ := box_ok 18 ns i
  have e : run FN 19 67 [.d (.list (ns.map .int)), .d (.int i)] [] = .ok (.ref 0) [.lst [.int a, .int m]] := e
  obtain ⟨a', m', ec⟩ := comp_ok' (some (.d (.list (ns.map .int)))) (some (.d (.int i))) a m
  refine ⟨[.lst [.int a', .int m'], .fz (T4)], ?_⟩
  unfold loopB
  generalize eK = C at ec ⊢
  simp [sts, st, ofOut, ev, evs, M.bnd, M.ret, M.opt, e, put, ec, dats, dat, all4, lay, boolOf, wipe]
theorem loop_ok (ns : List Int) : ∀ (n i : Nat) (r1 : Option R), ∃ q1, loopL (.n 1) (fun ρ' h' => sts (run FN 19) loopB ρ' h') (rangeD (i : Nat) n) [some (.d (.list (ns.map .int))), r1, none, none] [] = .nx [some (.d (.list (ns.map .int))), q1, none, none] []
  | 0, i, r1 => ⟨r1, by simp [rangeD, loopL]⟩
  | n + 1, i, r1 => by
    obtain ⟨h', e⟩ := turn_ok ns i
    obtain ⟨q1, e2⟩ := loop_ok ns n (i + 1) (some (.d (.int i)))
    refine ⟨q1, ?_⟩
    have et : trim 0 [some (.d (.list (ns.map .int))), some (.d (.int i)), none, none] h' = [] := by
      simp [trim, rbelow, R.below, below]
    have ei : ((i + 1 : Nat) : Int) = (i : Int) + 1 := by omega
    rw [ei] at e2
    unfold rangeD loopL
    simp [put, e, et, e2]
theorem first_ok (L : D) : sts (run FN 19) (B_law_75.body.take 1) [some (.d L), none, none, none] [] = .nx [some (.d L), none, none, none] [] := by
  kernel_rfl
abbrev eR : E := .rng [(.bif false .max [(.lit (.int 1)), (.bif false .min [(.bif false .len [(.v 0)]), (.lit (.int 3))])])]
theorem body75 : B_law_75.body = B_law_75.body.take 1 ++ [.for (.n 1) eR loopB, .ret (.lit (.bool true))] := by
  unfold B_law_75 loopB
  rfl
theorem K16.law (ns : List Int) (hn : ns.length ≤ 63) : okT (run FN 20 75 [.d (.list (ns.map PyData.int))] []) = true := by
  rw [run_at FN_75]
  obtain ⟨m, em⟩ : ∃ m : Int, m = (if (if (3 : Int) < (ns.length : Nat) then (3 : Int) else (ns.length : Nat)) > 1 then (if (3 : Int) < (ns.length : Nat) then (3 : Int) else (ns.length : Nat)) else 1) := ⟨_, rfl⟩
  have hm : small m = true := by
    unfold small
    simp only [Bool.and_eq_true, decide_eq_true_eq]
    omega
  have er : ev (run FN 19) eR [some (.d (.list (ns.map .int))), none, none, none] [] = .ok (.d (.list (rangeD 0 m.toNat))) [] := by
    simp [eR, ev, evs, M.bnd, M.ret, M.opt, dats, dat, bifD, lenD, lay, purAll, rngD, ← em, hm]
  obtain ⟨q1, el⟩ := loop_ok ns m.toNat 0 none
  have el : loopL (.n 1) (fun ρ' h' => sts (run FN 19) loopB ρ' h') (rangeD 0 m.toNat) [some (.d (.list (ns.map .int))), none, none, none] [] = .nx [some (.d (.list (ns.map .int))), q1, none, none] [] := el
  have e1 : sts (run FN 19) B_law_75.body [some (.d (.list (ns.map .int))), none, none, none] [] = .rt (.d (.bool true)) [] := by
    rw [body75, sts_app, first_ok]
    generalize eR = C at er ⊢
    generalize loopB = B at el ⊢
    simp [sts, st, ofOut, M.bnd, M.opt, M.ret, er, pur, seqD, el, ev]
  have e2 := enter_rt (fn := B_law_75) (cal := run FN 19) (args := [.d (.list (ns.map PyData.int))]) (h := []) rfl e1
  rw [e2]
  rfl
end Cy


set_option Elab.async false
set_option linter.all false
set_option maxRecDepth 100000
set_option maxHeartbeats 0
namespace Cy.K16
open PySem Cy
def ents : List Ent := [
  ⟨1, (PySem.Str.ofString "is_whole"), 17, [(PySem.Str.ofString "thing")]⟩,
  ⟨2, (PySem.Str.ofString "is_among"), 18, [(PySem.Str.ofString "thing"), (PySem.Str.ofString "low"), (PySem.Str.ofString "high")]⟩,
  ⟨3, (PySem.Str.ofString "is_deed"), 57, [(PySem.Str.ofString "thing")]⟩,
  ⟨18, (PySem.Str.ofString "are_costs"), 23, [(PySem.Str.ofString "thing"), (PySem.Str.ofString "one"), (PySem.Str.ofString "bare"), (PySem.Str.ofString "laden"), (PySem.Str.ofString "gain"), (PySem.Str.ofString "top")]⟩,
  ⟨19, (PySem.Str.ofString "is_text"), 20, [(PySem.Str.ofString "thing"), (PySem.Str.ofString "sign")]⟩,
  ⟨20, (PySem.Str.ofString "is_floor"), 21, [(PySem.Str.ofString "thing"), (PySem.Str.ofString "text")]⟩,
  ⟨21, (PySem.Str.ofString "are_floors"), 22, [(PySem.Str.ofString "thing"), (PySem.Str.ofString "one"), (PySem.Str.ofString "first"), (PySem.Str.ofString "signs"), (PySem.Str.ofString "text")]⟩,
  ⟨22, (PySem.Str.ofString "signs_of"), 24, [(PySem.Str.ofString "floors"), (PySem.Str.ofString "floor"), (PySem.Str.ofString "text")]⟩,
  ⟨23, (PySem.Str.ofString "is_shut_row"), 25, [(PySem.Str.ofString "signs"), (PySem.Str.ofString "thing"), (PySem.Str.ofString "one"), (PySem.Str.ofString "cell"), (PySem.Str.ofString "first"), (PySem.Str.ofString "last")]⟩,
  ⟨24, (PySem.Str.ofString "rises"), 19, [(PySem.Str.ofString "row"), (PySem.Str.ofString "one"), (PySem.Str.ofString "other")]⟩,
  ⟨25, (PySem.Str.ofString "is_yard"), 26, [(PySem.Str.ofString "thing"), (PySem.Str.ofString "signs"), (PySem.Str.ofString "shuts"), (PySem.Str.ofString "one")]⟩,
  ⟨26, (PySem.Str.ofString "need_yard"), 27, [(PySem.Str.ofString "thing")]⟩,
  ⟨27, (PySem.Str.ofString "sign_at"), 29, [(PySem.Str.ofString "yard"), (PySem.Str.ofString "cell")]⟩,
  ⟨28, (PySem.Str.ofString "cells_of"), 28, [(PySem.Str.ofString "yard")]⟩,
  ⟨29, (PySem.Str.ofString "is_cell"), 30, [(PySem.Str.ofString "yard"), (PySem.Str.ofString "thing")]⟩,
  ⟨30, (PySem.Str.ofString "is_carrier"), 39, [(PySem.Str.ofString "yard"), (PySem.Str.ofString "shelves"), (PySem.Str.ofString "thing"), (PySem.Str.ofString "cell"), (PySem.Str.ofString "charge"), (PySem.Str.ofString "load"), (PySem.Str.ofString "broken")]⟩,
  ⟨31, (PySem.Str.ofString "are_carriers"), 44, [(PySem.Str.ofString "yard"), (PySem.Str.ofString "shelves"), (PySem.Str.ofString "thing"), (PySem.Str.ofString "one"), (PySem.Str.ofString "loads"), (PySem.Str.ofString "homes"), (PySem.Str.ofString "number"), (PySem.Str.ofString "home"), (PySem.Str.ofString "stock")]⟩,
  ⟨32, (PySem.Str.ofString "is_stock"), 40, [(PySem.Str.ofString "thing"), (PySem.Str.ofString "one")]⟩,
  ⟨33, (PySem.Str.ofString "is_shelf"), 41, [(PySem.Str.ofString "yard"), (PySem.Str.ofString "thing")]⟩,
  ⟨34, (PySem.Str.ofString "are_shelves"), 42, [(PySem.Str.ofString "yard"), (PySem.Str.ofString "thing"), (PySem.Str.ofString "one"), (PySem.Str.ofString "homes"), (PySem.Str.ofString "home"), (PySem.Str.ofString "stock")]⟩,
  ⟨35, (PySem.Str.ofString "goods_in"), 45, [(PySem.Str.ofString "shelves")]⟩,
  ⟨36, (PySem.Str.ofString "is_order"), 43, [(PySem.Str.ofString "goods"), (PySem.Str.ofString "thing"), (PySem.Str.ofString "one"), (PySem.Str.ofString "good"), (PySem.Str.ofString "many"), (PySem.Str.ofString "given"), (PySem.Str.ofString "hour")]⟩,
  ⟨37, (PySem.Str.ofString "is_state_of"), 46, [(PySem.Str.ofString "yard"), (PySem.Str.ofString "thing"), (PySem.Str.ofString "beat"), (PySem.Str.ofString "carriers"), (PySem.Str.ofString "shelves"), (PySem.Str.ofString "orders"), (PySem.Str.ofString "one")]⟩,
  ⟨38, (PySem.Str.ofString "need_state"), 47, [(PySem.Str.ofString "yard"), (PySem.Str.ofString "thing")]⟩,
  ⟨39, (PySem.Str.ofString "are_deeds"), 58, [(PySem.Str.ofString "many"), (PySem.Str.ofString "thing"), (PySem.Str.ofString "one")]⟩,
  ⟨40, (PySem.Str.ofString "need_deeds"), 59, [(PySem.Str.ofString "state"), (PySem.Str.ofString "thing")]⟩,
  ⟨41, (PySem.Str.ofString "bide_fault"), 67, [(PySem.Str.ofString "yard"), (PySem.Str.ofString "state"), (PySem.Str.ofString "carrier"), (PySem.Str.ofString "deed")]⟩,
  ⟨42, (PySem.Str.ofString "fill_fault"), 66, [(PySem.Str.ofString "yard"), (PySem.Str.ofString "state"), (PySem.Str.ofString "carrier"), (PySem.Str.ofString "deed")]⟩,
  ⟨43, (PySem.Str.ofString "beside_by"), 31, [(PySem.Str.ofString "yard"), (PySem.Str.ofString "cell"), (PySem.Str.ofString "signs"), (PySem.Str.ofString "wide"), (PySem.Str.ofString "area"), (PySem.Str.ofString "found"), (PySem.Str.ofString "other"), (PySem.Str.ofString "one")]⟩,
  ⟨44, (PySem.Str.ofString "loads_of"), 48, [(PySem.Str.ofString "state"), (PySem.Str.ofString "cell"), (PySem.Str.ofString "charge"), (PySem.Str.ofString "load"), (PySem.Str.ofString "broken")]⟩,
  ⟨45, (PySem.Str.ofString "standing_by"), 49, [(PySem.Str.ofString "state"), (PySem.Str.ofString "loads"), (PySem.Str.ofString "number")]⟩,
  ⟨46, (PySem.Str.ofString "homes_by"), 60, [(PySem.Str.ofString "state"), (PySem.Str.ofString "shelf")]⟩,
  ⟨47, (PySem.Str.ofString "price_of"), 61, [(PySem.Str.ofString "yard"), (PySem.Str.ofString "load")]⟩,
  ⟨48, (PySem.Str.ofString "go_fault"), 62, [(PySem.Str.ofString "yard"), (PySem.Str.ofString "state"), (PySem.Str.ofString "carrier"), (PySem.Str.ofString "deed"), (PySem.Str.ofString "cell"), (PySem.Str.ofString "charge"), (PySem.Str.ofString "load"), (PySem.Str.ofString "broken")]⟩,
  ⟨49, (PySem.Str.ofString "lift_fault"), 63, [(PySem.Str.ofString "yard"), (PySem.Str.ofString "state"), (PySem.Str.ofString "carrier"), (PySem.Str.ofString "deed"), (PySem.Str.ofString "cell"), (PySem.Str.ofString "charge"), (PySem.Str.ofString "load"), (PySem.Str.ofString "broken")]⟩,
  ⟨50, (PySem.Str.ofString "set_fault"), 64, [(PySem.Str.ofString "yard"), (PySem.Str.ofString "state"), (PySem.Str.ofString "carrier"), (PySem.Str.ofString "deed"), (PySem.Str.ofString "cell"), (PySem.Str.ofString "charge"), (PySem.Str.ofString "load"), (PySem.Str.ofString "broken")]⟩,
  ⟨51, (PySem.Str.ofString "lacking"), 50, [(PySem.Str.ofString "order"), (PySem.Str.ofString "good"), (PySem.Str.ofString "many"), (PySem.Str.ofString "given"), (PySem.Str.ofString "hour")]⟩,
  ⟨52, (PySem.Str.ofString "hand_fault"), 65, [(PySem.Str.ofString "yard"), (PySem.Str.ofString "state"), (PySem.Str.ofString "carrier"), (PySem.Str.ofString "deed"), (PySem.Str.ofString "cell"), (PySem.Str.ofString "charge"), (PySem.Str.ofString "load"), (PySem.Str.ofString "broken")]⟩,
  ⟨53, (PySem.Str.ofString "own_fault"), 69, [(PySem.Str.ofString "yard"), (PySem.Str.ofString "state"), (PySem.Str.ofString "number"), (PySem.Str.ofString "deed"), (PySem.Str.ofString "carrier")]⟩,
  ⟨54, (PySem.Str.ofString "cells_behind"), 70, [(PySem.Str.ofString "state"), (PySem.Str.ofString "deeds"), (PySem.Str.ofString "carrier"), (PySem.Str.ofString "deed")]⟩,
  ⟨55, (PySem.Str.ofString "is_shut"), 32, [(PySem.Str.ofString "yard"), (PySem.Str.ofString "cell"), (PySem.Str.ofString "beat"), (PySem.Str.ofString "one"), (PySem.Str.ofString "first"), (PySem.Str.ofString "last")]⟩,
  ⟨56, (PySem.Str.ofString "met_fault"), 71, [(PySem.Str.ofString "yard"), (PySem.Str.ofString "state"), (PySem.Str.ofString "deeds"), (PySem.Str.ofString "number"), (PySem.Str.ofString "ahead"), (PySem.Str.ofString "later"), (PySem.Str.ofString "carrier"), (PySem.Str.ofString "other")]⟩,
  ⟨57, (PySem.Str.ofString "fault_by"), 72, [(PySem.Str.ofString "yard"), (PySem.Str.ofString "state"), (PySem.Str.ofString "deeds"), (PySem.Str.ofString "number"), (PySem.Str.ofString "deed"), (PySem.Str.ofString "word")]⟩,
  ⟨58, (PySem.Str.ofString "fault"), 76, [(PySem.Str.ofString "yard"), (PySem.Str.ofString "state"), (PySem.Str.ofString "deeds")]⟩,
  ⟨59, (PySem.Str.ofString "handed"), 74, [(PySem.Str.ofString "shelves"), (PySem.Str.ofString "orders"), (PySem.Str.ofString "load"), (PySem.Str.ofString "number"), (PySem.Str.ofString "good"), (PySem.Str.ofString "many"), (PySem.Str.ofString "given"), (PySem.Str.ofString "hour"), (PySem.Str.ofString "home"), (PySem.Str.ofString "stock"), (PySem.Str.ofString "moved")]⟩,
  ⟨60, (PySem.Str.ofString "carrier_behind"), 73, [(PySem.Str.ofString "yard"), (PySem.Str.ofString "state"), (PySem.Str.ofString "number"), (PySem.Str.ofString "deed"), (PySem.Str.ofString "cell"), (PySem.Str.ofString "charge"), (PySem.Str.ofString "load"), (PySem.Str.ofString "broken"), (PySem.Str.ofString "bare"), (PySem.Str.ofString "laden"), (PySem.Str.ofString "gain"), (PySem.Str.ofString "top")]⟩,
  ⟨61, (PySem.Str.ofString "behind_by"), 75, [(PySem.Str.ofString "yard"), (PySem.Str.ofString "state"), (PySem.Str.ofString "deeds"), (PySem.Str.ofString "beat"), (PySem.Str.ofString "carriers"), (PySem.Str.ofString "shelves"), (PySem.Str.ofString "orders"), (PySem.Str.ofString "carrier"), (PySem.Str.ofString "deed"), (PySem.Str.ofString "later"), (PySem.Str.ofString "number")]⟩,
  ⟨62, (PySem.Str.ofString "behind"), 77, [(PySem.Str.ofString "yard"), (PySem.Str.ofString "state"), (PySem.Str.ofString "deeds")]⟩,
  ⟨63, (PySem.Str.ofString "_law_shelves_right"), 91, [(PySem.Str.ofString "_law_yard"), (PySem.Str.ofString "_law_bide"), (PySem.Str.ofString "_law_two"), (PySem.Str.ofString "_law_shelves"), (PySem.Str.ofString "_law_hands"), (PySem.Str.ofString "_law_told"), (PySem.Str.ofString "_law_state"), (PySem.Str.ofString "_law_bare")]⟩,
  ⟨64, (PySem.Str.ofString "_law_line"), 88, [(PySem.Str.ofString "_law_one"), (PySem.Str.ofString "_law_two"), (PySem.Str.ofString "_law_beat"), (PySem.Str.ofString "_law_yard")]⟩,
  ⟨65, (PySem.Str.ofString "_law_both_right"), 90, [(PySem.Str.ofString "_law_here"), (PySem.Str.ofString "_law_there"), (PySem.Str.ofString "_law_bide"), (PySem.Str.ofString "_law_rows"), (PySem.Str.ofString "_law_one"), (PySem.Str.ofString "_law_two"), (PySem.Str.ofString "_law_beat"), (PySem.Str.ofString "_law_first"), (PySem.Str.ofString "_law_last"), (PySem.Str.ofString "_law_due"), (PySem.Str.ofString "_law_yard"), (PySem.Str.ofString "_law_state")]⟩,
  ⟨66, (PySem.Str.ofString "_law_lone_right"), 89, [(PySem.Str.ofString "_law_far"), (PySem.Str.ofString "_law_bide"), (PySem.Str.ofString "_law_rows"), (PySem.Str.ofString "_law_one"), (PySem.Str.ofString "_law_deed"), (PySem.Str.ofString "_law_word"), (PySem.Str.ofString "_law_yard"), (PySem.Str.ofString "_law_state")]⟩,
  ⟨67, (PySem.Str.ofString "_law_box"), 85, [(PySem.Str.ofString "_law_script"), (PySem.Str.ofString "_law_k"), (PySem.Str.ofString "_law_here"), (PySem.Str.ofString "_law_number"), (PySem.Str.ofString "_law_j"), (PySem.Str.ofString "_law_piece")]⟩,
  ⟨68, (PySem.Str.ofString "_law_more"), 86, [(PySem.Str.ofString "_law_box_here"), (PySem.Str.ofString "_law_number"), (PySem.Str.ofString "_law_j")]⟩,
  ⟨69, (PySem.Str.ofString "_law_take"), 87, [(PySem.Str.ofString "_law_box_here"), (PySem.Str.ofString "_law_count"), (PySem.Str.ofString "_law_rest_of"), (PySem.Str.ofString "_law_digit")]⟩,
  ⟨70, (PySem.Str.ofString "are_rows"), 80, [(PySem.Str.ofString "state"), (PySem.Str.ofString "thing"), (PySem.Str.ofString "one")]⟩,
  ⟨71, (PySem.Str.ofString "need_rows"), 81, [(PySem.Str.ofString "state"), (PySem.Str.ofString "thing")]⟩,
  ⟨72, (PySem.Str.ofString "run_by"), 82, [(PySem.Str.ofString "yard"), (PySem.Str.ofString "state"), (PySem.Str.ofString "rows"), (PySem.Str.ofString "states"), (PySem.Str.ofString "deeds"), (PySem.Str.ofString "found")]⟩,
  ⟨73, (PySem.Str.ofString "run"), 83, [(PySem.Str.ofString "yard"), (PySem.Str.ofString "state"), (PySem.Str.ofString "rows")]⟩,
  ⟨74, (PySem.Str.ofString "_law_example_right"), 92, [(PySem.Str.ofString "_law_charge"), (PySem.Str.ofString "_law_beat"), (PySem.Str.ofString "_law_yard"), (PySem.Str.ofString "_law_carrier"), (PySem.Str.ofString "_law_state"), (PySem.Str.ofString "_law_rows"), (PySem.Str.ofString "_law_states"), (PySem.Str.ofString "_law_found"), (PySem.Str.ofString "_law_at"), (PySem.Str.ofString "_law_end")]⟩,
  ⟨75, (PySem.Str.ofString "law"), 93, [(PySem.Str.ofString "_law_script"), (PySem.Str.ofString "_law_k"), (PySem.Str.ofString "_law_box_here"), (PySem.Str.ofString "_law_turn")]⟩]
def gs : List (Nat × Str × PyData) := [
  (0, (PySem.Str.ofString "ALONE"), (.tuple [(.str (PySem.Str.ofString "bide")), (.str (PySem.Str.ofString "fill")), (.str (PySem.Str.ofString "lift")), (.str (PySem.Str.ofString "set"))])),
  (1, (PySem.Str.ofString "MOST_NUMBER"), (.int 99)),
  (2, (PySem.Str.ofString "NUMBERED"), (.tuple [(.str (PySem.Str.ofString "go")), (.str (PySem.Str.ofString "hand"))])),
  (8, (PySem.Str.ofString "SIGNS"), (.str (PySem.Str.ofString ".#SDPL"))),
  (9, (PySem.Str.ofString "MOST_SIDE"), (.int 5)),
  (10, (PySem.Str.ofString "MOST_FLOORS"), (.int 2)),
  (11, (PySem.Str.ofString "WALL"), (.str (PySem.Str.ofString "#"))),
  (12, (PySem.Str.ofString "MOST_CELLS"), (.int 12)),
  (13, (PySem.Str.ofString "LAST_SHUT"), (.int 99)),
  (14, (PySem.Str.ofString "MOST_SHUTS"), (.int 4)),
  (15, (PySem.Str.ofString "MOST_CARRIERS"), (.int 3)),
  (16, (PySem.Str.ofString "MOST_GOODS"), (.int 3)),
  (17, (PySem.Str.ofString "MOST_STOCK"), (.int 99)),
  (18, (PySem.Str.ofString "HOME"), (.str (PySem.Str.ofString "S"))),
  (19, (PySem.Str.ofString "MOST_SHELVES"), (.int 4)),
  (20, (PySem.Str.ofString "MOST_ORDERS"), (.int 4)),
  (22, (PySem.Str.ofString "POST"), (.str (PySem.Str.ofString "P"))),
  (23, (PySem.Str.ofString "LIFT"), (.str (PySem.Str.ofString "L"))),
  (24, (PySem.Str.ofString "DESK"), (.str (PySem.Str.ofString "D"))),
  (25, (PySem.Str.ofString "MOST_ROWS"), (.int 24))]
def ds : List (Nat × Str × List (PyData × PyData)) := [
  ]
def ft : List (Nat × Str × List (Str × Str)) := [
  (21, (PySem.Str.ofString "FAULTS"), [((PySem.Str.ofString "bide"), (PySem.Str.ofString "bide_fault")), ((PySem.Str.ofString "fill"), (PySem.Str.ofString "fill_fault")), ((PySem.Str.ofString "go"), (PySem.Str.ofString "go_fault")), ((PySem.Str.ofString "lift"), (PySem.Str.ofString "lift_fault")), ((PySem.Str.ofString "set"), (PySem.Str.ofString "set_fault")), ((PySem.Str.ofString "hand"), (PySem.Str.ofString "hand_fault"))])]
def row : Row := ⟨PySem.Challenge.pw_carryyard_k16_faults_by_hand.main.body, ents, gs, ds, ft⟩
theorem chkd : (row.ents.all fun e => entB row.T FN row.body e) = true := by decide +kernel
abbrev RO : PySem.W.OpenRow := PySem.W.OpenLaw.row PySem.Challenge.rw_carryyard_k16_faults_by_hand
def ob (s : PySem.W.SharedT) : He.AlT × Bool := row.obs 4 (HandSHeadRun.getT s)
theorem ob_eq (s : PySem.W.SharedT) : ob s = (row.hook 4).obs s.abs := Row.obs_eq (HandSHeadRun.getT_eq s)
def loose : List Str := ([⟨#[89, 97, 114, 100, 69, 114, 114, 111, 114]⟩, ⟨#[78, 111, 89, 97, 114, 100]⟩, ⟨#[78, 111, 83, 116, 97, 116, 101]⟩, ⟨#[78, 111, 68, 101, 101, 100, 115]⟩, ⟨#[78, 111, 82, 111, 119, 115]⟩, ⟨#[70, 97, 117, 108, 116]⟩, ⟨#[87, 65, 76, 76]⟩, ⟨#[72, 79, 77, 69]⟩, ⟨#[76, 73, 70, 84]⟩, ⟨#[83, 73, 71, 78, 83]⟩, ⟨#[77, 79, 83, 84, 95, 70, 76, 79, 79, 82, 83]⟩, ⟨#[77, 79, 83, 84, 95, 83, 73, 68, 69]⟩, ⟨#[77, 79, 83, 84, 95, 67, 69, 76, 76, 83]⟩, ⟨#[77, 79, 83, 84, 95, 83, 72, 85, 84, 83]⟩, ⟨#[76, 65, 83, 84, 95, 83, 72, 85, 84]⟩, ⟨#[105, 115, 95, 119, 104, 111, 108, 101]⟩, ⟨#[105, 115, 95, 97, 109, 111, 110, 103]⟩, ⟨#[114, 105, 115, 101, 115]⟩, ⟨#[105, 115, 95, 116, 101, 120, 116]⟩, ⟨#[105, 115, 95, 102, 108, 111, 111, 114]⟩, ⟨#[97, 114, 101, 95, 102, 108, 111, 111, 114, 115]⟩, ⟨#[97, 114, 101, 95, 99, 111, 115, 116, 115]⟩, ⟨#[115, 105, 103, 110, 115, 95, 111, 102]⟩, ⟨#[105, 115, 95, 115, 104, 117, 116, 95, 114, 111, 119]⟩, ⟨#[105, 115, 95, 121, 97, 114, 100]⟩, ⟨#[110, 101, 101, 100, 95, 121, 97, 114, 100]⟩, ⟨#[99, 101, 108, 108, 115, 95, 111, 102]⟩, ⟨#[115, 105, 103, 110, 95, 97, 116]⟩, ⟨#[105, 115, 95, 99, 101, 108, 108]⟩, ⟨#[98, 101, 115, 105, 100, 101, 95, 98, 121]⟩, ⟨#[105, 115, 95, 115, 104, 117, 116]⟩, ⟨#[77, 79, 83, 84, 95, 67, 65, 82, 82, 73, 69, 82, 83]⟩, ⟨#[77, 79, 83, 84, 95, 83, 72, 69, 76, 86, 69, 83]⟩, ⟨#[77, 79, 83, 84, 95, 79, 82, 68, 69, 82, 83]⟩, ⟨#[77, 79, 83, 84, 95, 71, 79, 79, 68, 83]⟩] : List Str) ++ ([⟨#[77, 79, 83, 84, 95, 83, 84, 79, 67, 75]⟩, ⟨#[105, 115, 95, 99, 97, 114, 114, 105, 101, 114]⟩, ⟨#[105, 115, 95, 115, 116, 111, 99, 107]⟩, ⟨#[105, 115, 95, 115, 104, 101, 108, 102]⟩, ⟨#[97, 114, 101, 95, 115, 104, 101, 108, 118, 101, 115]⟩, ⟨#[105, 115, 95, 111, 114, 100, 101, 114]⟩, ⟨#[97, 114, 101, 95, 99, 97, 114, 114, 105, 101, 114, 115]⟩, ⟨#[103, 111, 111, 100, 115, 95, 105, 110]⟩, ⟨#[105, 115, 95, 115, 116, 97, 116, 101, 95, 111, 102]⟩, ⟨#[110, 101, 101, 100, 95, 115, 116, 97, 116, 101]⟩, ⟨#[108, 111, 97, 100, 115, 95, 111, 102]⟩, ⟨#[115, 116, 97, 110, 100, 105, 110, 103, 95, 98, 121]⟩, ⟨#[108, 97, 99, 107, 105, 110, 103]⟩, ⟨#[65, 76, 79, 78, 69]⟩, ⟨#[78, 85, 77, 66, 69, 82, 69, 68]⟩, ⟨#[77, 79, 83, 84, 95, 78, 85, 77, 66, 69, 82]⟩, ⟨#[68, 69, 83, 75]⟩, ⟨#[80, 79, 83, 84]⟩, ⟨#[105, 115, 95, 100, 101, 101, 100]⟩, ⟨#[97, 114, 101, 95, 100, 101, 101, 100, 115]⟩, ⟨#[110, 101, 101, 100, 95, 100, 101, 101, 100, 115]⟩, ⟨#[104, 111, 109, 101, 115, 95, 98, 121]⟩, ⟨#[112, 114, 105, 99, 101, 95, 111, 102]⟩, ⟨#[103, 111, 95, 102, 97, 117, 108, 116]⟩, ⟨#[108, 105, 102, 116, 95, 102, 97, 117, 108, 116]⟩, ⟨#[115, 101, 116, 95, 102, 97, 117, 108, 116]⟩, ⟨#[104, 97, 110, 100, 95, 102, 97, 117, 108, 116]⟩, ⟨#[102, 105, 108, 108, 95, 102, 97, 117, 108, 116]⟩, ⟨#[98, 105, 100, 101, 95, 102, 97, 117, 108, 116]⟩, ⟨#[70, 65, 85, 76, 84, 83]⟩, ⟨#[111, 119, 110, 95, 102, 97, 117, 108, 116]⟩, ⟨#[99, 101, 108, 108, 115, 95, 98, 101, 104, 105, 110, 100]⟩, ⟨#[109, 101, 116, 95, 102, 97, 117, 108, 116]⟩, ⟨#[102, 97, 117, 108, 116, 95, 98, 121]⟩, ⟨#[99, 97, 114, 114, 105, 101, 114, 95, 98, 101, 104, 105, 110, 100]⟩] : List Str) ++ ([⟨#[104, 97, 110, 100, 101, 100]⟩, ⟨#[98, 101, 104, 105, 110, 100, 95, 98, 121]⟩, ⟨#[102, 97, 117, 108, 116]⟩, ⟨#[98, 101, 104, 105, 110, 100]⟩, ⟨#[77, 79, 83, 84, 95, 82, 79, 87, 83]⟩, ⟨#[97, 114, 101, 95, 114, 111, 119, 115]⟩, ⟨#[110, 101, 101, 100, 95, 114, 111, 119, 115]⟩, ⟨#[114, 117, 110, 95, 98, 121]⟩, ⟨#[114, 117, 110]⟩, ⟨#[95, 108, 97, 119, 95, 98, 111, 120]⟩, ⟨#[95, 108, 97, 119, 95, 109, 111, 114, 101]⟩, ⟨#[95, 108, 97, 119, 95, 116, 97, 107, 101]⟩, ⟨#[95, 108, 97, 119, 95, 108, 105, 110, 101]⟩, ⟨#[95, 108, 97, 119, 95, 108, 111, 110, 101, 95, 114, 105, 103, 104, 116]⟩, ⟨#[95, 108, 97, 119, 95, 98, 111, 116, 104, 95, 114, 105, 103, 104, 116]⟩, ⟨#[95, 108, 97, 119, 95, 115, 104, 101, 108, 118, 101, 115, 95, 114, 105, 103, 104, 116]⟩, ⟨#[95, 108, 97, 119, 95, 101, 120, 97, 109, 112, 108, 101, 95, 114, 105, 103, 104, 116]⟩] : List Str)
def Pr (w : World) : Prop := HandSHeadRun.RunEq RO (PySem.W.view RO.prog [93]) (row.hook 4) ob 6000 loose w
theorem runsF (w : World) : Pr (w.withFollow "special-get-raises" false) := by
  unfold Pr
  intro os
  kernel_rfl
theorem runsT (w : World) : Pr (w.withFollow "special-get-raises" true) := by
  unfold Pr
  intro os
  kernel_rfl
theorem runs (w : World) : HandSHeadRun.RunEq RO (PySem.W.view RO.prog [93]) (row.hook 4) ob 6000 loose w := PySem.W.byRow2 "special-get-raises" (P := Pr) runsF runsT w
end Cy.K16
theorem PySem.Challenge.cw_carryyard_k16_faults_by_hand_holds : PySem.Challenge.rw_carryyard_k16_faults_by_hand.Holds := by
  w_on; o_law
  refine HandSHeadRun.head_any (r := Cy.K16.RO) (q := PySem.W.view Cy.K16.RO.prog [93]) (H := Cy.K16.row.hook 4) (ob := Cy.K16.ob) (M := 6000) (loose := Cy.K16.loose)
    (d := HandSHeadRun.topDef Cy.K16.RO.prog 93) (kwd := []) Cy.K16.ob_eq (by kernel_rfl) (fun s => by kernel_rfl) Cy.K16.runs (by kernel_rfl) (by kernel_rfl) (by kernel_rfl) (by rfl)
    (by first | assumption | decide +kernel) (by decide +kernel) ⟨rfl, rfl, rfl, rfl, rfl, by decide +kernel⟩ ?hw ?hc
  case hw => w_witness2
  case hc => exact Cy.walkC (l := PySem.Challenge.rw_carryyard_k16_faults_by_hand) (r := Cy.K16.row) (n := 63) (k := 20) (m := 4) (lid := 75) rfl (by decide) (by kernel_rfl) ⟨rfl, by decide, by decide⟩ Cy.K16.chkd (by kernel_rfl) Cy.K16.law

