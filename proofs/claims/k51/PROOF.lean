import PyProof.Rows.All
import HandS.ForMost
import HandS.Zip
import HandS.More
import HandS.Style
import PyProof.ReprRoads
import PyProof.EqLayable
import HandS.ForExc
import HandS.TupAny
import HandS.TupMul
import HandS.Small
import HandS.RaiseMore
import HandS.Deep
import HandS.TupLe
import HandS.SortInts
import HandS.Comp
import HandS.IsInst
import KE.KSortedM
import PyProof.CallFns
import HandS.ExcOwn
import HandS.Defaults
import HandS.HeadEnd
import HandS.HeadHook3
import HandS.HeadHook4
import HandS.Head2
import PyProof.ReprLen
import PyProof.StrLawsTight
import PySem.Challenge.RW_carryyard_k51_deeds_of_beats_written
set_option Elab.async false
set_option linter.all false
set_option maxRecDepth 100000
/-! L0: a small language of our own (expressions E, statements S), its values and its pure interpreter. -/
namespace Cy
open PySem

abbrev D := PyData

/-- what an operation on data yields: a value that is never changed again, or a list made just now -/
inductive Re where
  | v (d : D)
  | nl (ds : List D)

/-- a value at run time: data, or a cell that may be changed -/
inductive R where
  | d (x : D)
  | ref (n : Nat)

inductive Cell where
  | lst (xs : List D)
  | fz (xs : List D)
  | dct (t : Bool) (kvs : List (D × R))

abbrev Hs := List Cell
abbrev Rho := List (Option R)

structure Ex where
  cls : Str
  fs : List D

inductive Out (α : Type) where
  | ok (a : α) (h : Hs)
  | ex (e : Ex) (h : Hs)
  | bad

abbrev M (α : Type) := Hs → Out α

def M.ret {α : Type} (a : α) : M α := fun h => .ok a h
def M.no {α : Type} : M α := fun _ => .bad
def M.bnd {α β : Type} (m : M α) (f : α → M β) : M β := fun h =>
  match m h with
  | .ok a h1 => f a h1
  | .ex e h1 => .ex e h1
  | .bad => .bad
/-- an error here is none that we carry -/
def M.nox {α : Type} (m : M α) : M α := fun h =>
  match m h with
  | .ok a h1 => .ok a h1
  | .ex _ _ => .bad
  | .bad => .bad
def M.opt {α : Type} (o : Option α) : M α := fun h =>
  match o with
  | some a => .ok a h
  | none => .bad

/-! ### operations on data -/
def big : Int := 18446744073709551616
def lim : Nat := 16777216

def mulOk (i j : Int) : Bool := (decide (-big < i) && decide (i < big)) || (decide (-big < j) && decide (j < big))

def binD : Operator → D → D → Option Re
  | .Add, .int i, .int j => some (.v (.int (i + j)))
  | .Add, .str x, .str y => if x.length + y.length ≤ lim then some (.v (.str (x ++ y))) else none
  | .Add, .tuple xs, .tuple ys => if xs.length + ys.length ≤ lim then some (.v (.tuple (xs ++ ys))) else none
  | .Add, .list xs, .list ys => if xs.length + ys.length ≤ lim then some (.nl (xs ++ ys)) else none
  | .Sub, .int i, .int j => some (.v (.int (i - j)))
  | .Mult, .int i, .int j => if mulOk i j then some (.v (.int (i * j))) else none
  | .FloorDiv, .int i, .int j => if 0 < j ∧ j < 1073741824 then some (.v (.int (i / j))) else none
  | .Mod, .int i, .int j => if 0 < j then some (.v (.int (i % j))) else none
  | .Pow, .int i, .int j => if 0 ≤ j ∧ j ≤ 1000000 ∧ i.natAbs < 2 ^ 64 then some (.v (.int (i ^ j.toNat))) else none
  | _, _, _ => none

def allInts : List D → Option (List Int)
  | [] => some []
  | .int i :: r => (allInts r).map (i :: ·)
  | _ :: _ => none
def allBools : List D → Option (List Bool)
  | [] => some []
  | .bool b :: r => (allBools r).map (b :: ·)
  | _ :: _ => none
def allStrs : List D → Option (List Str)
  | [] => some []
  | .str x :: r => (allStrs r).map (x :: ·)
  | _ :: _ => none

def eqD (a b : D) : Option Bool := if SeqAt.shaped a && SeqAt.shaped b then some (PyData.eqv a b) else none

def inD (x : D) (ys : List D) : Option Bool := if SeqAt.shaped x && SeqAt.shaped (.list ys) then some (ys.any fun y => PyData.eqv y x) else none

/-- a key of a written dict: a text -/
def findK (k : Str) : List (D × D) → Option D
  | [] => none
  | (.str x, d) :: r => if x = k then some d else findK k r
  | _ :: r => findK k r

def cmpD : CmpOp → D → D → Option Bool
  | .Eq, a, b => eqD a b
  | .NotEq, a, b => (eqD a b).map (!·)
  | .Lt, .int i, .int j => some (decide (i < j))
  | .LtE, .int i, .int j => some (decide (i ≤ j))
  | .Gt, .int i, .int j => some (decide (j < i))
  | .GtE, .int i, .int j => some (decide (j ≤ i))
  | .Lt, .tuple xs, .tuple ys =>
    match allInts xs, allInts ys with
    | some ns, some ms => some (HT.lexLt ns ms)
    | _, _ => none
  | .Is, .none, .none => some true
  | .Is, _, .none => some false
  | .IsNot, .none, .none => some false
  | .IsNot, _, .none => some true
  | .Is, .bool a, .bool b => some (a == b)
  | .IsNot, .bool a, .bool b => some (!(a == b))
  | .In, .str x, .str y => some (!(Builtin.Str.occurrences y x 0 y.length 1).isEmpty)
  | .NotIn, .str x, .str y => some (!(!(Builtin.Str.occurrences y x 0 y.length 1).isEmpty))
  | .In, x, .list ys => inD x ys
  | .In, x, .tuple ys => inD x ys
  | .NotIn, x, .list ys => (inD x ys).map (!·)
  | .NotIn, x, .tuple ys => (inD x ys).map (!·)
  | _, _, _ => none

def atX {α : Type} (xs : List α) (i : Int) : Option α :=
  if 0 ≤ i then xs[i.toNat]? else if -(xs.length : Int) ≤ i then xs[(i + xs.length).toNat]? else none

def ixD : D → D → Option D
  | .list xs, .int i => atX xs i
  | .tuple xs, .int i => atX xs i
  | .str z, .int i => if z.length ≤ lim then (atX z.cps.toList i).map fun c => .str ⟨#[c]⟩ else none
  | _, _ => none

def cut {α : Type} (xs : List α) (lo hi : Option Int) : List α :=
  (xs.drop (HT.sIx xs.length 0 lo)).take (HT.sIx xs.length xs.length hi - HT.sIx xs.length 0 lo)

def slD (x : D) (lo hi : Option Int) : Option Re :=
  match x with
  | .list xs => some (.nl (cut xs lo hi))
  | .tuple xs => some (.v (.tuple (cut xs lo hi)))
  | .str z => if z.length ≤ lim then some (.v (.str (L2.cutS z lo hi))) else none
  | _ => none

/-- built-in classes that isinstance is asked of -/
inductive Ty where
  | int | bool | str | tuple | list | dict
  deriving DecidableEq

def isiD : Ty → D → Bool
  | .int, .int _ => true
  | .int, .bool _ => true
  | .bool, .bool _ => true
  | .str, .str _ => true
  | .tuple, .tuple _ => true
  | .list, .list _ => true
  | .dict, .dict _ => true
  | _, _ => false

/-- built-in functions of one kind of arguments -/
inductive Bf where
  | len | all | any | sum | tuple | list | min | max | abs | int | str | repr | sorted | divmod
  deriving DecidableEq

def lenD : D → Option Nat
  | .list xs => some xs.length
  | .tuple xs => some xs.length
  | .str z => if z.length ≤ lim then some z.length else none
  | _ => none

def insI (a : Int) : List Int → List Int
  | [] => [a]
  | b :: r => if a ≤ b then a :: b :: r else b :: insI a r
def sortI : List Int → List Int
  | [] => []
  | a :: r => insI a (sortI r)

def maxI : List Int → Option Int
  | [] => none
  | [a] => some a
  | a :: r => (maxI r).map fun b => if a < b then b else a
def minI : List Int → Option Int
  | [] => none
  | [a] => some a
  | a :: r => (minI r).map fun b => if b < a then b else a

def reprD (d : D) : Option D := if d.showable && !d.hasDict && decide (d.depth ≤ 64) && decide (d.shown.length ≤ lim) then some (.str d.shown) else none

def bifD : Bf → List D → Option Re
  | .len, [x] => (lenD x).map fun n => .v (.int (n : Nat))
  | .all, [.list xs] => (allBools xs).map fun bs => .v (.bool (bs.all id))
  | .any, [.list xs] => (allBools xs).map fun bs => .v (.bool (bs.any id))
  | .sum, [.list xs] => (allInts xs).map fun ns => .v (.int ns.sum)
  | .tuple, [.list xs] => some (.v (.tuple xs))
  | .tuple, [.tuple xs] => some (.v (.tuple xs))
  | .list, [.list xs] => some (.nl xs)
  | .list, [.tuple xs] => some (.nl xs)
  | .min, [.int i, .int j] => some (.v (.int (if j < i then j else i)))
  | .max, [.int i, .int j] => some (.v (.int (if j > i then j else i)))
  | .min, [.list xs] => (allInts xs).bind fun ns => (minI ns).map fun m => .v (.int m)
  | .max, [.list xs] => (allInts xs).bind fun ns => (maxI ns).map fun m => .v (.int m)
  | .abs, [.int i] => some (.v (.int (if i < 0 then -i else i)))
  | .int, [.int i] => some (.v (.int i))
  | .int, [.bool b] => some (.v (.int (if b then 1 else 0)))
  | .int, [.str x] => if x.length ≤ 640 then (intText? x).map fun n => .v (.int n) else none
  | .str, [.int i] => if i.natAbs.log2 < 1920 then some (.v (.str (toString i))) else none
  | .str, [.str x] => some (.v (.str x))
  | .repr, [x] => (reprD x).map .v
  | .sorted, [.list xs] => (allInts xs).bind fun ns => if ns.length < 64 then some (.nl ((sortI ns).map .int)) else none
  | .divmod, [.int i, .int j] => if 0 < j ∧ j < 1073741824 then some (.v (.tuple [.int (i / j), .int (i % j)])) else none
  | _, _ => none

/-- methods that change nothing -/
inductive Mt where
  | join | split | count
  deriving DecidableEq

def mtD : Mt → Str → List D → Option Re
  | .join, a, [.list xs] => (allStrs xs).bind fun ys => if (ys.map (·.length)).sum + ys.length * a.length ≤ lim then some (.v (.str (Txt.join a ys))) else none
  | .join, a, [.tuple xs] => (allStrs xs).bind fun ys => if (ys.map (·.length)).sum + ys.length * a.length ≤ lim then some (.v (.str (Txt.join a ys))) else none
  | .split, a, [.str b] => if b.length ≠ 0 ∧ a.length + 2 ≤ lim then some (.nl ((Txt.split a b).map .str)) else none
  | .count, a, [.str b] => some (.v (.int (Txt.count a b)))
  | _, _, _ => none

/-! ### the language -/
/-- targets of assignments and loops -/
inductive Tg where
  | n (i : Nat)
  | t (l : List Tg)

inductive E where
  | lit (d : D)
  | v (i : Nat)
  | fz (i : Nat)
  | gl (g : Nat) (d : D)
  | ing (neg : Bool) (a : E) (g : Nat) (kvs : List (D × D))
  | ixg (g : Nat) (kvs : List (D × D)) (a : E)
  | tup (es : List E)
  | lst (m : Bool) (es : List E)
  | dnew (t : Bool)
  | bin (m : Bool) (op : Operator) (a b : E)
  | neg (a : E)
  | cmp (op : CmpOp) (a b : E)
  | chn (o1 o2 : CmpOp) (a b c : E)
  | chn3 (o1 o2 o3 : CmpOp) (a b c d : E)
  | and (a b : E)
  | or (a b : E)
  | not (a : E)
  | ite (c a b : E)
  | ix (a i : E)
  | sl (m : Bool) (a lo hi : E)
  | nil
  | isi (t : Ty) (a : E)
  | bif (m : Bool) (f : Bf) (es : List E)
  | mth (m : Bool) (f : Mt) (o : E) (es : List E)
  | app (o e : E)
  | pop (o i : E)
  | popl (o : E)
  | call (f : Nat) (es : List E)
  | rng (es : List E)
  | enm (e : E)
  | zip (a b : E)
  | comp (m : Bool) (own : List Nat) (elt : E) (tg : Tg) (it : E) (cond : E)
  | comp2 (m : Bool) (own own1 : List Nat) (elt : E) (tg : Tg) (it cond : E) (tg1 : Tg) (it1 cond1 : E)

/-- targets of a tuple assignment, items among them -/
inductive Tx where
  | t (tg : Tg)
  | s (o i : E)

inductive S where
  | asg (tg : Tg) (e : E)
  | par (is : List Nat) (es : List E)
  | setix (o i e : E)
  | asgx (l : List Tx) (e : E)
  | ex (e : E)
  | ret (e : E)
  | ife (c : E) (a b : List S)
  | for (tg : Tg) (it : E) (body : List S)
  | whl (c : E) (body : List S)
  | brk
  | cnt
  | pass
  | fgt (is : List Nat)
  | never

/-! ### the interpreter: expressions -/
def hget (h : Hs) (n : Nat) : Option Cell := h[n]?

def purs : List (D × R) → Option (List (D × D))
  | [] => some []
  | (k, .d v) :: r => (purs r).map ((k, v) :: ·)
  | _ :: _ => none

/-- the data that a value stands for now -/
def dat : R → M D
  | .d x, h => .ok x h
  | .ref n, h =>
    match hget h n with
    | some (.lst xs) => .ok (.list xs) h
    | some (.fz xs) => .ok (.list xs) h
    | _ => .bad

def dats : List R → M (List D)
  | [] => M.ret []
  | r :: rs => (dat r).bnd fun d => (dats rs).bnd fun ds => M.ret (d :: ds)

/-- data as it is handed on (no cell in it) -/
def pur : R → M D
  | .d x => M.ret x
  | .ref _ => M.no

def purAll : List R → Option (List D)
  | [] => some []
  | .d x :: r => (purAll r).map (x :: ·)
  | .ref _ :: _ => none

/-- a made thing laid: kept as data, or (m) as a cell that may be changed -/
def lay (m : Bool) : Re → M R
  | .v d => fun h => if m then .bad else .ok (.d d) h
  | .nl ds => fun h => if ds.length ≤ lim then (if m then .ok (.ref h.length) (h ++ [.lst ds]) else .ok (.d (.list ds)) h) else .bad

def boolOf : R → M Bool
  | .d (.bool b) => M.ret b
  | _ => M.no

def intOf : R → M (Option Int)
  | .d (.int i) => M.ret (some i)
  | _ => M.no

/-- a value stored at a target -/
def put : Tg → R → Rho → Option Rho
  | .n i, r, ρ => if i < ρ.length then some (ρ.set i (some r)) else none
  | .t l, .d (.tuple xs), ρ => putAll l xs ρ
  | .t _, _, _ => none
where putAll : List Tg → List D → Rho → Option Rho
  | [], [], ρ => some ρ
  | t :: l, x :: xs, ρ => (put t (.d x) ρ).bind (putAll l xs)
  | _, _, _ => none

/-- several names at once -/
def putR : List Nat → List R → Rho → Option Rho
  | [], [], ρ => some ρ
  | i :: is, r :: rs, ρ => if i < ρ.length then putR is rs (ρ.set i (some r)) else none
  | _, _, _ => none

def rangeD (lo : Int) : Nat → List D
  | 0 => []
  | n + 1 => .int lo :: rangeD (lo + 1) n

def small (i : Int) : Bool := decide (-4611686018427387904 ≤ i) && decide (i < 4611686018427387904)

def rangeS (lo c : Int) : Nat → List D
  | 0 => []
  | n + 1 => .int lo :: rangeS (lo + c) c n
def stepOk (i j c : Int) : Bool := decide (c ≠ 0) && decide (c.natAbs < 1073741824) && Builtin.Range.small i j c && decide (Builtin.Range.rangeSize i j c = (Builtin.Range.rangeSize i j c).toNat)

def rngD : List D → Option (List D)
  | [.int j] => if small j then some (rangeD 0 j.toNat) else none
  | [.int i, .int j] => if small i && small j then some (rangeD i (j - i).toNat) else none
  | [.int i, .int j, .int c] => if stepOk i j c then some (rangeS i c (Builtin.Range.rangeSize i j c).toNat) else none
  | _ => none

def seqD : D → Option (List D)
  | .list xs => some xs
  | .tuple xs => some xs
  | .str z => some (z.cps.toList.map fun c => .str ⟨#[c]⟩)
  | _ => none

def lstD : D → Option (List D)
  | .list xs => some xs
  | _ => none
def zipP : D → D → Option (List D × List D)
  | .list xs, .list ys => some (xs, ys)
  | .tuple xs, .tuple ys => some (xs, ys)
  | _, _ => none

def enmD (i : Int) : List D → List D
  | [] => []
  | x :: xs => .tuple [.int i, x] :: enmD (i + 1) xs

def zipD : List D → List D → List D
  | x :: xs, y :: ys => .tuple [x, y] :: zipD xs ys
  | _, _ => []

def wipe (ρ : Rho) : List Nat → Rho
  | [] => ρ
  | i :: r => (wipe ρ r).set i none

/-- a cell is data from now on -/
def fzC (n : Nat) (h : Hs) : Option Cell → Out R
  | some (.lst xs) => .ok (.d (.list xs)) (h.set n (.fz xs))
  | some (.fz xs) => .ok (.d (.list xs)) h
  | _ => .bad
def fzR : R → M R
  | .d x => M.ret (.d x)
  | .ref n => fun h => fzC n h (hget h n)
def strOf : R → M Str
  | .d (.str z) => M.ret z
  | _ => M.no
def lstC (h : Hs) : Option Cell → Out Unit
  | some (.lst _) => .ok () h
  | _ => .bad
def lstOf : R → M Unit
  | .ref n => fun h => lstC h (hget h n)
  | .d _ => M.no
def appC (n : Nat) (d : D) (h : Hs) : Option Cell → Out R
  | some (.lst xs) => if xs.length < lim then .ok (.d .none) (h.set n (.lst (xs ++ [d]))) else .bad
  | _ => .bad
def appR : R → D → M R
  | .d _, _ => M.no
  | .ref n, d => fun h => appC n d h (hget h n)

/-- the turns of a comprehension; the new list is cell n -/
def turns (f : Rho → M (Option D)) (tg : Tg) (ρ : Rho) (n : Nat) : List D → M Unit
  | [] => M.ret ()
  | x :: xs => (M.opt (put tg (.d x) ρ)).bnd fun ρ' => (f ρ').bnd fun o =>
      (match o with
        | some y => appR (.ref n) y
        | none => M.ret (.d .none)).bnd fun _ => turns f tg ρ n xs
/-- the turns of a comprehension of two clauses -/
def turns2 (f0 : Rho → M (Option (List D))) (f1 : Rho → M (Option D)) (tg tg1 : Tg) (own1 : List Nat) (ρ : Rho) (n : Nat) : List D → M Unit
  | [] => M.ret ()
  | x :: xs => (M.opt (put tg (.d x) ρ)).bnd fun ρ' => (f0 ρ').bnd fun o =>
      (match o with
        | some ds => turns f1 tg1 (wipe ρ' own1) n ds
        | none => M.ret ()).bnd fun _ => turns2 f0 f1 tg tg1 own1 ρ n xs
def compM2 (m : Bool) (f0 : Rho → M (Option (List D))) (f1 : Rho → M (Option D)) (tg tg1 : Tg) (own1 : List Nat) (ρ : Rho) (ds : List D) : M R := fun h =>
  ((turns2 f0 f1 tg tg1 own1 ρ h.length ds).bnd fun _ => if m then M.ret (.ref h.length) else fzR (.ref h.length)) (h ++ [.lst []])
/-- a comprehension: a new cell, the turns -/
def compM (m : Bool) (f : Rho → M (Option D)) (tg : Tg) (ρ : Rho) (ds : List D) : M R := fun h =>
  ((turns f tg ρ h.length ds).bnd fun _ => if m then M.ret (.ref h.length) else fzR (.ref h.length)) (h ++ [.lst []])

def popC (n : Nat) (i : Int) (h : Hs) : Option Cell → Out R
  | some (.lst xs) => if 0 ≤ i ∧ i < xs.length ∧ i < 4611686018427387904 then (match xs[i.toNat]? with
    | some d => .ok (.d d) (h.set n (.lst (xs.eraseIdx i.toNat)))
    | none => .bad) else .bad
  | _ => .bad
def poplC (n : Nat) (h : Hs) : Option Cell → Out R
  | some (.lst xs) => (match xs[xs.length - 1]? with
    | some d => .ok (.d d) (h.set n (.lst xs.dropLast))
    | none => .bad)
  | _ => .bad
def popR : R → D → M R
  | .ref n, .int i => fun h => popC n i h (hget h n)
  | _, _ => M.no
def poplR : R → M R
  | .ref n => fun h => poplC n h (hget h n)
  | _ => M.no

abbrev Cal := Nat → List R → M R

mutual
def ev (cal : Cal) : E → Rho → M R
  | .lit d, _ => M.ret (.d d)
  | .v i, ρ => M.opt ((ρ[i]?).join)
  | .fz i, ρ => (M.opt ((ρ[i]?).join)).bnd fzR
  | .gl _ d, _ => M.ret (.d d)
  | .ing neg a _ kvs, ρ => (ev cal a ρ).bnd fun x => (pur x).bnd fun d => match d with
    | .str z => M.ret (.d (.bool (if neg then !(findK z kvs).isSome else (findK z kvs).isSome)))
    | _ => M.no
  | .ixg _ kvs a, ρ => (ev cal a ρ).bnd fun x => (pur x).bnd fun d => match d with
    | .str z => (M.opt (findK z kvs)).bnd fun y => M.ret (.d y)
    | _ => M.no
  | .tup es, ρ => (evs cal es ρ).bnd fun rs => fun h =>
    match purAll rs with
    | some ds => if ds.length ≤ lim then .ok (.d (.tuple ds)) h else .bad
    | none => .bad
  | .lst m es, ρ => (evs cal es ρ).bnd fun rs => (M.opt (purAll rs)).bnd fun ds => lay m (.nl ds)
  | .dnew t, _ => fun h => .ok (.ref h.length) (h ++ [.dct t []])
  | .bin m op a b, ρ => (ev cal a ρ).bnd fun x => (ev cal b ρ).bnd fun y => (dat x).bnd fun dx => (dat y).bnd fun dy => (M.opt (binD op dx dy)).bnd (lay m)
  | .neg a, ρ => (ev cal a ρ).bnd fun x => (pur x).bnd fun d => match d with
    | .int i => M.ret (.d (.int (-i)))
    | _ => M.no
  | .cmp op a b, ρ => (ev cal a ρ).bnd fun x => (ev cal b ρ).bnd fun y => (dat x).bnd fun dx => (dat y).bnd fun dy => (M.opt (cmpD op dx dy)).bnd fun c => M.ret (.d (.bool c))
  | .chn o1 o2 a b c, ρ => (ev cal a ρ).bnd fun x => (ev cal b ρ).bnd fun y => (dat x).bnd fun dx => (dat y).bnd fun dy => (M.opt (cmpD o1 dx dy)).bnd fun k =>
    match k with
    | true => (ev cal c ρ).bnd fun z => (dat y).bnd fun dy' => (dat z).bnd fun dz => (M.opt (cmpD o2 dy' dz)).bnd fun k => M.ret (.d (.bool k))
    | false => M.ret (.d (.bool false))
  | .chn3 o1 o2 o3 a b c e, ρ => (ev cal a ρ).bnd fun x => (ev cal b ρ).bnd fun y => (pur x).bnd fun dx => (pur y).bnd fun dy => (M.opt (cmpD o1 dx dy)).bnd fun k =>
    match k with
    | true => (ev cal c ρ).bnd fun z => (pur z).bnd fun dz => (M.opt (cmpD o2 dy dz)).bnd fun k =>
      match k with
      | true => (ev cal e ρ).bnd fun w => (pur w).bnd fun dw => (M.opt (cmpD o3 dz dw)).bnd fun k => M.ret (.d (.bool k))
      | false => M.ret (.d (.bool false))
    | false => M.ret (.d (.bool false))
  | .and a b, ρ => ((ev cal a ρ).bnd boolOf).bnd fun k =>
    match k with
    | true => ev cal b ρ
    | false => M.ret (.d (.bool false))
  | .or a b, ρ => ((ev cal a ρ).bnd boolOf).bnd fun k =>
    match k with
    | true => M.ret (.d (.bool true))
    | false => ev cal b ρ
  | .not a, ρ => ((ev cal a ρ).bnd boolOf).bnd fun k => M.ret (.d (.bool (!k)))
  | .ite c a b, ρ => ((ev cal c ρ).bnd boolOf).bnd fun k =>
    match k with
    | true => ev cal a ρ
    | false => ev cal b ρ
  | .ix a i, ρ => (ev cal a ρ).bnd fun x => (ev cal i ρ).bnd fun y => (dat x).bnd fun dx => (pur y).bnd fun dy => (M.opt (ixD dx dy)).bnd fun d => M.ret (.d d)
  | .sl m a lo hi, ρ => (ev cal a ρ).bnd fun x =>
    (match lo with
      | .nil => M.ret none
      | _ => (ev cal lo ρ).bnd intOf).bnd fun l =>
    (match hi with
      | .nil => M.ret none
      | _ => (ev cal hi ρ).bnd intOf).bnd fun u => (dat x).bnd fun dx => (M.opt (slD dx l u)).bnd (lay m)
  | .nil, _ => M.ret (.d .none)
  | .isi t a, ρ => (ev cal a ρ).bnd fun x => (dat x).bnd fun d => M.ret (.d (.bool (isiD t d)))
  | .bif m f es, ρ => (evs cal es ρ).bnd fun rs => (dats rs).bnd fun ds => (M.opt (bifD f ds)).bnd (lay m)
  | .mth m f o es, ρ => (ev cal o ρ).bnd fun x => (strOf x).bnd fun z => (evs cal es ρ).bnd fun rs => (dats rs).bnd fun ds => (M.opt (mtD f z ds)).bnd (lay m)
  | .app o e, ρ => (ev cal o ρ).bnd fun x => (lstOf x).bnd fun _ => (ev cal e ρ).bnd fun y => (pur y).bnd fun d => appR x d
  | .pop o i, ρ => (ev cal o ρ).bnd fun x => (lstOf x).bnd fun _ => (ev cal i ρ).bnd fun y => (pur y).bnd fun d => popR x d
  | .popl o, ρ => (ev cal o ρ).bnd fun x => poplR x
  | .call f es, ρ => (evs cal es ρ).bnd fun rs => cal f rs
  | .rng es, ρ => (evs cal es ρ).bnd fun rs => (M.opt ((purAll rs).bind rngD)).bnd fun ds => M.ret (.d (.list ds))
  | .enm e, ρ => (ev cal e ρ).bnd fun x => (pur x).bnd fun d => (M.opt (lstD d)).bnd fun ds => M.ret (.d (.list (enmD 0 ds)))
  | .zip a b, ρ => (ev cal a ρ).bnd fun x => (ev cal b ρ).bnd fun y => (pur x).bnd fun dx => (pur y).bnd fun dy => (M.opt (zipP dx dy)).bnd fun p =>
    M.ret (.d (.list (zipD p.1 p.2)))
  | .comp m own elt tg it cond, ρ => (ev cal it ρ).bnd fun x => (pur x).bnd fun d => (M.opt (seqD d)).bnd fun ds =>
    compM m (fun ρ' => M.nox (((ev cal cond ρ').bnd boolOf).bnd fun k =>
      match k with
      | true => (ev cal elt ρ').bnd fun y => (pur y).bnd fun dy => M.ret (some dy)
      | false => M.ret none)) tg (wipe ρ own) ds
  | .comp2 m own own1 elt tg it cond tg1 it1 cond1, ρ => (ev cal it ρ).bnd fun x => (pur x).bnd fun d => (M.opt (seqD d)).bnd fun ds =>
    compM2 m (fun ρ' => M.nox (((ev cal cond ρ').bnd boolOf).bnd fun k =>
      match k with
      | true => ((ev cal it1 ρ').bnd fun x => (pur x).bnd fun d => M.opt (seqD d)).bnd fun ds => M.ret (some ds)
      | false => M.ret none)) (fun ρ' => M.nox (((ev cal cond1 ρ').bnd boolOf).bnd fun k =>
      match k with
      | true => (ev cal elt ρ').bnd fun y => (pur y).bnd fun dy => M.ret (some dy)
      | false => M.ret none)) tg tg1 own1 (wipe ρ own) ds
def evs (cal : Cal) : List E → Rho → M (List R)
  | [], _ => M.ret []
  | e :: es, ρ => (ev cal e ρ).bnd fun r => (evs cal es ρ).bnd fun rs => M.ret (r :: rs)
end

/-! ### statements -/
inductive Fl where
  | nx (ρ : Rho) (h : Hs)
  | rt (r : R) (h : Hs)
  | bk (ρ : Rho) (h : Hs)
  | ct (ρ : Rho) (h : Hs)
  | ex (e : Ex) (ρ : Rho) (h : Hs)
  | bad

def ofOut {α : Type} (ρ : Rho) (o : Out α) (f : α → Hs → Fl) : Fl :=
  match o with
  | .ok a h => f a h
  | .ex e h => .ex e ρ h
  | .bad => .bad

def R.below (n : Nat) : R → Bool
  | .d _ => true
  | .ref m => decide (m < n)
def Cell.below (n : Nat) : Cell → Bool
  | .lst _ => true
  | .fz _ => true
  | .dct _ kvs => kvs.all fun p => p.2.below n
def below (n : Nat) (h : Hs) : Bool := h.all fun c => c.below n
def rbelow (n : Nat) (ρ : Rho) : Bool := ρ.all fun o => match o with
  | some r => r.below n
  | none => true

/-- cells that nobody names any more are forgotten -/
def trim (n : Nat) (ρ : Rho) (h : Hs) : Hs := if rbelow n ρ && below n (h.take n) then h.take n else h

/-- a loop over items -/
def loopL (tg : Tg) (b : Rho → Hs → Fl) : List D → Rho → Hs → Fl
  | [], ρ, h => .nx ρ h
  | x :: xs, ρ, h =>
    match put tg (.d x) ρ with
    | none => .bad
    | some ρ1 => match b ρ1 h with
      | .nx ρ2 h2 => loopL tg b xs ρ2 (trim h.length ρ2 h2)
      | .ct ρ2 h2 => loopL tg b xs ρ2 (trim h.length ρ2 h2)
      | .bk ρ2 h2 => .nx ρ2 h2
      | o => o

def loopW (c : Rho → M Bool) (b : Rho → Hs → Fl) : Nat → Rho → Hs → Fl
  | 0, _, _ => .bad
  | n + 1, ρ, h => ofOut ρ (c ρ h) fun k h1 =>
    match k with
    | true => match b ρ h1 with
      | .nx ρ2 h2 => loopW c b n ρ2 (trim h.length ρ2 h2)
      | .ct ρ2 h2 => loopW c b n ρ2 (trim h.length ρ2 h2)
      | .bk ρ2 h2 => .nx ρ2 h2
      | o => o
    | false => .nx ρ h1

def fuel : Nat := 1000

def setC (n : Nat) (k : Int) (d : D) (h : Hs) : Option Cell → Option Hs
  | some (.lst xs) => if 0 ≤ k ∧ k < xs.length then some (h.set n (.lst (xs.set k.toNat d))) else none
  | _ => none
def stx (cal : Cal) : List Tx → List D → Rho → Hs → Fl
  | [], [], ρ, h => .nx ρ h
  | .t tg :: l, x :: xs, ρ, h =>
    match put tg (.d x) ρ with
    | some ρ1 => stx cal l xs ρ1 h
    | none => .bad
  | .s o i :: l, x :: xs, ρ, h => ofOut ρ (((ev cal o ρ).bnd fun a => (ev cal i ρ).bnd fun k => M.ret (a, k)) h) fun t h1 =>
    match t with
    | (.ref n, .d (.int k)) => match setC n k x h1 (hget h1 n) with
      | some h2 => stx cal l xs ρ h2
      | none => .bad
    | _ => .bad
  | _, _, _, _ => .bad

mutual
def st (cal : Cal) : S → Rho → Hs → Fl
  | .asg tg e, ρ, h => ofOut ρ (ev cal e ρ h) fun r h1 =>
    match put tg r ρ with
    | some ρ1 => .nx ρ1 h1
    | none => .bad
  | .par is es, ρ, h => ofOut ρ (evs cal es ρ h) fun rs h1 =>
    match putR is rs ρ with
    | some ρ1 => .nx ρ1 h1
    | none => .bad
  | .setix o i e, ρ, h => ofOut ρ (((ev cal e ρ).bnd fun y => (ev cal o ρ).bnd fun x => (ev cal i ρ).bnd fun k => M.ret (x, k, y)) h) fun t h1 =>
    match t with
    | (.ref n, .d (.int k), .d d) => match hget h1 n with
      | some (.lst xs) => if 0 ≤ k ∧ k < xs.length then .nx ρ (h1.set n (.lst (xs.set k.toNat d))) else .bad
      | _ => .bad
    | _ => .bad
  | .asgx l e, ρ, h => ofOut ρ (ev cal e ρ h) fun r h1 =>
    match r with
    | .d (.tuple xs) => if xs.length = l.length then stx cal l xs ρ h1 else .bad
    | _ => .bad
  | .ex e, ρ, h => ofOut ρ (ev cal e ρ h) fun _ h1 => .nx ρ h1
  | .ret e, ρ, h => ofOut ρ (ev cal e ρ h) fun r h1 => .rt r h1
  | .ife c a b, ρ, h => ofOut ρ (((ev cal c ρ).bnd boolOf) h) fun k h1 =>
    match k with
    | true => sts cal a ρ h1
    | false => sts cal b ρ h1
  | .for tg it body, ρ, h => ofOut ρ (((ev cal it ρ).bnd fun x => (pur x).bnd fun d => M.opt (seqD d)) h) fun ds h1 => loopL tg (fun ρ' h' => sts cal body ρ' h') ds ρ h1
  | .whl c body, ρ, h => loopW (fun ρ' => (ev cal c ρ').bnd boolOf) (fun ρ' h' => sts cal body ρ' h') fuel ρ h
  | .brk, ρ, h => .bk ρ h
  | .cnt, ρ, h => .ct ρ h
  | .pass, ρ, h => .nx ρ h
  | .fgt is, ρ, h => .nx (wipe ρ is) h
  | .never, _, _ => .bad
def sts (cal : Cal) : List S → Rho → Hs → Fl
  | [], ρ, h => .nx ρ h
  | s :: r, ρ, h =>
    match st cal s ρ h with
    | .nx ρ1 h1 => sts cal r ρ1 h1
    | o => o
end

/-! ### functions -/
structure Fn where
  np : Nat
  ns : Nat
  keep : Bool
  body : List S

/-- what leaves a function: cells made within are data from now on, and forgotten -/
def leave (keep : Bool) (n : Nat) (r : R) (h : Hs) : Out R :=
  if keep then .ok r h else
  match r with
  | .d x => if below n (h.take n) then .ok (.d x) (h.take n) else .bad
  | .ref m =>
    if m < n then (if below n (h.take n) then .ok (.ref m) (h.take n) else .bad) else
    match hget h m with
    | some (.lst xs) => if below n (h.take n) then .ok (.d (.list xs)) (h.take n) else .bad
    | some (.fz xs) => if below n (h.take n) then .ok (.d (.list xs)) (h.take n) else .bad
    | _ => .bad

def enter (fn : Fn) (cal : Cal) (args : List R) (h : Hs) : Out R :=
  if args.length = fn.np then
    match sts cal fn.body (args.map some ++ List.replicate (fn.ns - fn.np) none) h with
    | .nx _ h1 => leave fn.keep h.length (.d .none) h1
    | .rt r h1 => leave fn.keep h.length r h1
    | .ex e _ h1 => if below h.length (h1.take h.length) then .ex e (h1.take h.length) else .bad
    | _ => .bad
  else .bad

/-- a program by its functions: k calls deep at most -/
def run (fs : Nat → Option Fn) : Nat → Cal
  | 0, _, _ => M.no
  | k + 1, f, args =>
    match fs f with
    | some fn => enter fn (run fs k) args
    | none => M.no

end Cy


set_option Elab.async false
set_option linter.all false
set_option maxRecDepth 100000
set_option maxHeartbeats 2000000
/-! L1: what the mini-language's values mean in the abstract heap of the hand layer. -/
namespace Cy
open PySem PySem.Spec PyProof.Rows L2

abbrev Mu := Addr → Prop
abbrev Fg := PySem.W.Frag
abbrev Sg := L2.St

/-- a tuple of the written part -/
def TupK (K : Fg) (a : Addr) (xs : List V) : Prop :=
  ∃ (o : Obj) (its : Array Value) (n : Nat), K.lookup a = some o ∧ o.cls = .type "tuple" ∧ o.data = .seq its n ∧ its.size ≤ sizeLine ∧ Vals xs its.toList

mutual
/-- v is the data d; what it is made of stands outside of U, where things may change -/
inductive RD (K : Fg) (U : Mu) (H : Hp) : D → V → Prop
  | non : RD K U H .none .non
  | bl (b : Bool) : RD K U H (.bool b) (.bl b)
  | int (i : Int) : RD K U H (.int i) (.int i)
  | str (x : Str) : RD K U H (.str x) (.str x)
  | lst {a : Addr} {xs : List V} {ds : List D} : ¬ U a → Rd H a (.lst xs) → RDs K U H ds xs → RD K U H (.list ds) (.ref a)
  | tup {a : Addr} {xs : List V} {ds : List D} : ¬ U a → Rd H a (.tup xs) → RDs K U H ds xs → RD K U H (.tuple ds) (.ref a)
  | tupK {a : Addr} {xs : List V} {ds : List D} : TupK K a xs → RDs K U H ds xs → RD K U H (.tuple ds) (.ref a)
inductive RDs (K : Fg) (U : Mu) (H : Hp) : List D → List V → Prop
  | nil : RDs K U H [] []
  | cons {d : D} {v : V} {ds : List D} {vs : List V} : RD K U H d v → RDs K U H ds vs → RDs K U H (d :: ds) (v :: vs)
end

/-- from (U, H) to (U', H'): what can't change stays -/
structure Keep (U : Mu) (H : Hp) (U' : Mu) (H' : Hp) : Prop where
  fr : ∀ a o, ¬ U a → H a = some o → H' a = some o
  un : ∀ a, U' a → U a ∨ H a = none
theorem Keep.refl (U : Mu) (H : Hp) : Keep U H U H := ⟨fun _ _ _ e => e, fun _ u => .inl u⟩
theorem Keep.trans {U1 U2 U3 : Mu} {H1 H2 H3 : Hp} (a : Keep U1 H1 U2 H2) (b : Keep U2 H2 U3 H3) : Keep U1 H1 U3 H3 := by
  refine ⟨fun x o n e => b.fr x o (fun u => ?_) (a.fr x o n e), fun x u => ?_⟩
  · rcases a.un x u with z | z
    · exact n z
    · rw [z] at e; cases e
  · rcases b.un x u with z | z
    · exact a.un x z
    · by_cases hu : U1 x
      · exact .inl hu
      · right
        cases q : H1 x with
        | none => rfl
        | some o => rw [a.fr x o hu q] at z; cases z
theorem Keep.rd {U U' : Mu} {H H' : Hp} {a : Addr} {u : HO} (k : Keep U H U' H') (n : ¬ U a) (r : Rd H a u) : Rd H' a u ∧ ¬ U' a := by
  have hne : H a ≠ none := by
    rcases r with r | ⟨o, r⟩ <;> (rw [r]; exact fun z => nomatch z)
  refine ⟨?_, fun u' => ?_⟩
  · rcases r with r | ⟨o, r⟩
    · exact .inl (k.fr a _ n r)
    · exact .inr ⟨o, k.fr a _ n r⟩
  · rcases k.un a u' with z | z
    · exact n z
    · exact hne z

section
variable {K : Fg} {U U' : Mu} {H H' : Hp}
mutual
theorem RD.keep (k : Keep U H U' H') : ∀ {d : D} {v : V}, RD K U H d v → RD K U' H' d v
  | _, _, .non => .non
  | _, _, .bl b => .bl b
  | _, _, .int i => .int i
  | _, _, .str x => .str x
  | _, _, .lst n r q => .lst (k.rd n r).2 (k.rd n r).1 (RDs.keep k q)
  | _, _, .tup n r q => .tup (k.rd n r).2 (k.rd n r).1 (RDs.keep k q)
  | _, _, .tupK t q => .tupK t (RDs.keep k q)
theorem RDs.keep (k : Keep U H U' H') : ∀ {ds : List D} {vs : List V}, RDs K U H ds vs → RDs K U' H' ds vs
  | _, _, .nil => .nil
  | _, _, .cons a b => .cons (RD.keep k a) (RDs.keep k b)
end
theorem RDs.length : ∀ {ds : List D} {vs : List V}, RDs K U H ds vs → ds.length = vs.length
  | _, _, .nil => rfl
  | _, _, .cons _ b => by simp [RDs.length b]
theorem RDs.get : ∀ {ds : List D} {vs : List V} {i : Nat} {d : D}, RDs K U H ds vs → ds[i]? = some d → ∃ v, vs[i]? = some v ∧ RD K U H d v
  | _, _, _, _, .nil, e => by simp at e
  | _, _, 0, _, .cons r _, e => by simp at e; subst e; exact ⟨_, rfl, r⟩
  | _, _, i + 1, _, .cons _ t, e => by
    obtain ⟨v, h1, h2⟩ := RDs.get (i := i) t (by simpa using e)
    exact ⟨v, by simpa using h1, h2⟩
theorem RDs.append : ∀ {as bs : List D} {xs ys : List V}, RDs K U H as xs → RDs K U H bs ys → RDs K U H (as ++ bs) (xs ++ ys)
  | _, _, _, _, .nil, b => b
  | _, _, _, _, .cons r t, b => .cons r (RDs.append t b)
theorem RDs.take : ∀ {as : List D} {xs : List V} (n : Nat), RDs K U H as xs → RDs K U H (as.take n) (xs.take n)
  | _, _, 0, _ => .nil
  | _, _, _ + 1, .nil => .nil
  | _, _, n + 1, .cons r t => .cons r (RDs.take n t)
theorem RDs.drop : ∀ {as : List D} {xs : List V} (n : Nat), RDs K U H as xs → RDs K U H (as.drop n) (xs.drop n)
  | _, _, 0, r => r
  | _, _, _ + 1, .nil => .nil
  | _, _, n + 1, .cons _ t => RDs.drop n t
theorem RDs.set : ∀ {as : List D} {xs : List V} (n : Nat) {d : D} {v : V}, RDs K U H as xs → RD K U H d v → RDs K U H (as.set n d) (xs.set n v)
  | _, _, _, _, _, .nil, _ => .nil
  | _, _, 0, _, _, .cons _ t, r => .cons r t
  | _, _, n + 1, _, _, .cons q t, r => .cons q (RDs.set n t r)
theorem RDs.ints : ∀ {ds : List D} {ns : List Int} {vs : List V}, RDs K U H ds vs → allInts ds = some ns → vs = ns.map V.int
  | _, _, _, .nil, e => by simp [allInts] at e; subst e; rfl
  | .int i :: r, _, _, .cons (.int _) t, e => by
    unfold allInts at e
    cases q : allInts r with
    | none => rw [q] at e; cases e
    | some l =>
      rw [q] at e
      cases e
      rw [RDs.ints t q]; rfl
  | .none :: _, _, _, _, e => by simp [allInts] at e
  | .bool _ :: _, _, _, _, e => by simp [allInts] at e
  | .str _ :: _, _, _, _, e => by simp [allInts] at e
  | .list _ :: _, _, _, _, e => by simp [allInts] at e
  | .tuple _ :: _, _, _, _, e => by simp [allInts] at e
  | .dict _ :: _, _, _, _, e => by simp [allInts] at e
theorem RDs.bools : ∀ {ds : List D} {ns : List Bool} {vs : List V}, RDs K U H ds vs → allBools ds = some ns → vs = ns.map V.bl
  | _, _, _, .nil, e => by simp [allBools] at e; subst e; rfl
  | .bool i :: r, _, _, .cons (.bl _) t, e => by
    unfold allBools at e
    cases q : allBools r with
    | none => rw [q] at e; cases e
    | some l =>
      rw [q] at e
      cases e
      rw [RDs.bools t q]; rfl
  | .none :: _, _, _, _, e => by simp [allBools] at e
  | .int _ :: _, _, _, _, e => by simp [allBools] at e
  | .str _ :: _, _, _, _, e => by simp [allBools] at e
  | .list _ :: _, _, _, _, e => by simp [allBools] at e
  | .tuple _ :: _, _, _, _, e => by simp [allBools] at e
  | .dict _ :: _, _, _, _, e => by simp [allBools] at e
theorem RDs.strs : ∀ {ds : List D} {ns : List Str} {vs : List V}, RDs K U H ds vs → allStrs ds = some ns → vs = ns.map V.str
  | _, _, _, .nil, e => by simp [allStrs] at e; subst e; rfl
  | .str i :: r, _, _, .cons (.str _) t, e => by
    unfold allStrs at e
    cases q : allStrs r with
    | none => rw [q] at e; cases e
    | some l =>
      rw [q] at e
      cases e
      rw [RDs.strs t q]; rfl
  | .none :: _, _, _, _, e => by simp [allStrs] at e
  | .int _ :: _, _, _, _, e => by simp [allStrs] at e
  | .bool _ :: _, _, _, _, e => by simp [allStrs] at e
  | .list _ :: _, _, _, _, e => by simp [allStrs] at e
  | .tuple _ :: _, _, _, _, e => by simp [allStrs] at e
  | .dict _ :: _, _, _, _, e => by simp [allStrs] at e
theorem RDs.ofInts : ∀ ns : List Int, RDs K U H (ns.map PyData.int) (ns.map V.int)
  | [] => .nil
  | i :: r => .cons (.int i) (RDs.ofInts r)
theorem RDs.ofStrs : ∀ ns : List Str, RDs K U H (ns.map PyData.str) (ns.map V.str)
  | [] => .nil
  | i :: r => .cons (.str i) (RDs.ofStrs r)
end

/-- the data that v stands for now: the outermost list may be one that changes -/
inductive RT (K : Fg) (U : Mu) (H : Hp) : D → V → Prop
  | rd {d : D} {v : V} : RD K U H d v → RT K U H d v
  | lst {a : Addr} {xs : List V} {ds : List D} : Rd H a (.lst xs) → RDs K U H ds xs → RT K U H (.list ds) (.ref a)

section
variable {K : Fg} {U U' : Mu} {H H' : Hp}
theorem RT.sql {ds : List D} {v : V} (r : RT K U H (.list ds) v) : ∃ a xs, v = .ref a ∧ Rd H a (.lst xs) ∧ RDs K U H ds xs := by
  cases r with
  | rd r => cases r with
    | lst n r q => exact ⟨_, _, rfl, r, q⟩
  | lst r q => exact ⟨_, _, rfl, r, q⟩
theorem RT.sqt {ds : List D} {v : V} (r : RT K U H (.tuple ds) v) : ∃ a xs, v = .ref a ∧ SqT K H a xs ∧ RDs K U H ds xs := by
  cases r with
  | rd r => cases r with
    | tup n r q => exact ⟨_, _, rfl, .inl r, q⟩
    | tupK t q => exact ⟨_, _, rfl, .inr t, q⟩
theorem RT.int {i : Int} {v : V} (r : RT K U H (.int i) v) : v = .int i := by
  cases r with
  | rd r => cases r; rfl
theorem RT.str {i : Str} {v : V} (r : RT K U H (.str i) v) : v = .str i := by
  cases r with
  | rd r => cases r; rfl
theorem RT.bl {i : Bool} {v : V} (r : RT K U H (.bool i) v) : v = .bl i := by
  cases r with
  | rd r => cases r; rfl
theorem RT.non {v : V} (r : RT K U H .none v) : v = .non := by
  cases r with
  | rd r => cases r; rfl
end

/-! ### cells -/
def Cell.mut : Cell → Bool
  | .fz _ => false
  | _ => true
/-- where the cells that may change stand -/
def UU (al : List Addr) (h : Hs) : Mu := fun a => ∃ (n : Nat) (c : Cell), al[n]? = some a ∧ h[n]? = some c ∧ c.mut = true

def RR (K : Fg) (al : List Addr) (U : Mu) (H : Hp) : R → V → Prop
  | .d x, v => RD K U H x v
  | .ref n, v => ∃ a, al[n]? = some a ∧ v = .ref a

def keysOf : D → Option (List Key)
  | .tuple xs => go xs
  | _ => none
where go : List D → Option (List Key)
  | [] => some []
  | .int i :: r => (go r).map (.inl i :: ·)
  | .str x :: r => (go r).map (.inr x :: ·)
  | _ :: _ => none
def keyOf : D → Option Key
  | .int i => some (.inl i)
  | .str x => some (.inr x)
  | _ => none

def RC (K : Fg) (al : List Addr) (U : Mu) (H : Hp) : Cell → Addr → Prop
  | .lst ds, a => ∃ xs, H a = some (.lst xs) ∧ RDs K U H ds xs
  | .fz ds, a => ∃ xs, H a = some (.lst xs) ∧ RDs K U H ds xs
  | .dct true kvs, a => ∃ kvs', H a = some (.dT kvs') ∧ Paired (fun (p : D × R) (q : List Key × V) => keysOf p.1 = some q.1 ∧ RR K al U H p.2 q.2) kvs kvs'
  | .dct false kvs, a => ∃ kvs', H a = some (.dK kvs') ∧ Paired (fun (p : D × R) (q : Key × V) => keyOf p.1 = some q.1 ∧ RR K al U H p.2 q.2) kvs kvs'

structure RH (K : Fg) (al : List Addr) (h : Hs) (H : Hp) : Prop where
  len : al.length = h.length
  nd : al.Nodup
  at_ : ∀ (n : Nat) (c : Cell) (a : Addr), h[n]? = some c → al[n]? = some a → RC K al (UU al h) H c a

def RS (K : Fg) (al : List Addr) (U : Mu) (H : Hp) (ρ : Rho) (σ : Sg) : Prop :=
  ρ.length = σ.length ∧ ∀ (i : Nat) (r : R), ρ[i]? = some (some r) → ∃ v, σ[i]? = some (some v) ∧ RR K al U H r v

/-- a step of the cells and of the heap -/
structure Stp (al : List Addr) (h : Hs) (H : Hp) (al' : List Addr) (h' : Hs) (H' : Hp) : Prop where
  k : Keep (UU al h) H (UU al' h') H'
  pre : ∀ (n : Nat) (a : Addr), al[n]? = some a → al'[n]? = some a
theorem Stp.refl (al : List Addr) (h : Hs) (H : Hp) : Stp al h H al h H := ⟨Keep.refl _ _, fun _ _ e => e⟩
theorem Stp.trans {al1 al2 al3 : List Addr} {h1 h2 h3 : Hs} {H1 H2 H3 : Hp} (a : Stp al1 h1 H1 al2 h2 H2) (b : Stp al2 h2 H2 al3 h3 H3) : Stp al1 h1 H1 al3 h3 H3 :=
  ⟨a.k.trans b.k, fun n x e => b.pre n x (a.pre n x e)⟩

section
variable {K : Fg} {al al' : List Addr} {h h' : Hs} {H H' : Hp}
theorem RR.stp (s : Stp al h H al' h' H') {r : R} {v : V} (x : RR K al (UU al h) H r v) : RR K al' (UU al' h') H' r v := by
  cases r with
  | d y => exact RD.keep s.k x
  | ref n =>
    obtain ⟨a, e, ev⟩ := x
    exact ⟨a, s.pre n a e, ev⟩
theorem RS.stp (s : Stp al h H al' h' H') {ρ : Rho} {σ : Sg} (x : RS K al (UU al h) H ρ σ) : RS K al' (UU al' h') H' ρ σ :=
  ⟨x.1, fun i r e => let ⟨v, e1, e2⟩ := x.2 i r e; ⟨v, e1, e2.stp s⟩⟩
theorem RH.some (x : RH K al h H) {n : Nat} {c : Cell} (e : h[n]? = some c) : ∃ a, al[n]? = some a ∧ RC K al (UU al h) H c a := by
  have hl : n < h.length := by
    rcases Nat.lt_or_ge n h.length with z | z
    · exact z
    · rw [List.getElem?_eq_none z] at e; cases e
  have hl' : n < al.length := by rw [x.len]; exact hl
  exact ⟨al[n], List.getElem?_eq_getElem hl', x.at_ n c _ e (List.getElem?_eq_getElem hl')⟩
theorem RC.there {U : Mu} {c : Cell} {a : Addr} (x : RC K al U H c a) : ∃ o, H a = Option.some o := by
  cases c with
  | lst ds => obtain ⟨_, e, _⟩ := x; exact ⟨_, e⟩
  | fz ds => obtain ⟨_, e, _⟩ := x; exact ⟨_, e⟩
  | dct t kvs => cases t <;> (obtain ⟨_, e, _⟩ := x; exact ⟨_, e⟩)
theorem RH.u_there (x : RH K al h H) {a : Addr} (u : UU al h a) : ∃ o, H a = Option.some o := by
  obtain ⟨n, c, e1, e2, _⟩ := u
  exact (x.at_ n c a e2 e1).there
theorem RH.al_there (x : RH K al h H) {n : Nat} {a : Addr} (e : al[n]? = Option.some a) : ∃ o, H a = Option.some o := by
  have hl : n < al.length := by
    rcases Nat.lt_or_ge n al.length with z | z
    · exact z
    · rw [List.getElem?_eq_none z] at e; cases e
  have hl' : n < h.length := by rw [← x.len]; exact hl
  exact (x.at_ n _ a (List.getElem?_eq_getElem hl') e).there
theorem RC.stp (s : Stp al h H al' h' H') {c : Cell} {a : Addr} (hH : H' a = H a) (x : RC K al (UU al h) H c a) : RC K al' (UU al' h') H' c a := by
  cases c with
  | lst ds => obtain ⟨xs, e, q⟩ := x; exact ⟨xs, hH.trans e, RDs.keep s.k q⟩
  | fz ds => obtain ⟨xs, e, q⟩ := x; exact ⟨xs, hH.trans e, RDs.keep s.k q⟩
  | dct t kvs =>
    cases t with
    | true =>
      obtain ⟨xs, e, q⟩ := x
      exact ⟨xs, hH.trans e, Paired.mapP q fun p q z => ⟨z.1, RR.stp s z.2⟩⟩
    | false =>
      obtain ⟨xs, e, q⟩ := x
      exact ⟨xs, hH.trans e, Paired.mapP q fun p q z => ⟨z.1, RR.stp s z.2⟩⟩
/-- the heap has grown -/
theorem Stp.grow (x : RH K al h H) (g : ∀ a o, H a = Option.some o → H' a = Option.some o) : Stp al h H al h H' :=
  ⟨⟨fun a o _ e => g a o e, fun a u => .inl u⟩, fun _ _ e => e⟩
theorem RH.grow (x : RH K al h H) (g : ∀ a o, H a = Option.some o → H' a = Option.some o) : RH K al h H' := by
  refine ⟨x.len, x.nd, fun n c a e1 e2 => ?_⟩
  have r := x.at_ n c a e1 e2
  obtain ⟨o, eo⟩ := r.there
  exact r.stp (Stp.grow x g) (by rw [g a o eo, eo])
theorem upd_grow {H : Hp} {p : Addr} {o : HO} (n : H p = Option.none) : ∀ a u, H a = Option.some u → upd H p o a = Option.some u := fun a u e => by
  rw [upd_ne (ne_of_none e n)]; exact e
end

/-- a value that a made thing is: data, or a new list -/
def Pst (K : Fg) (U : Mu) (H : Hp) (Q : VK) : Re → Prop
  | .v d => ∀ v H', (∀ a o, H a = some o → H' a = some o) → RD K U H' d v → Q v H'
  | .nl ds => ∀ p xs, H p = none → RDs K U H ds xs → xs.length ≤ sizeLine → Q (.ref p) (upd H p (.lst xs))

end Cy


set_option Elab.async false
set_option linter.all false
set_option maxRecDepth 100000
set_option maxHeartbeats 2000000
/-! L2a: the operations on data, over the hand layer's rules. -/
namespace Cy
open PySem PySem.Spec PyProof.Rows L2

theorem lim_eq : lim = sizeLine := by rw [sizeLine_eq]; rfl

def NoU (U : Mu) (H : Hp) : Prop := ∀ a, U a → H a ≠ none

section
variable {X : Cx}
theorem lrd {pins : List (Addr × Obj)} {σ : Sg} {H : Hp} {s : Shared} {p : Addr} {xs : List V} (I : Inv X pins σ H s) (h : Rd H p (.lst xs)) :
    ∃ (its : List Value) (n : Nat), Vals xs its ∧ s.heap.get? p = some { cls := .type "list", data := .seq its.toArray n } ∧ xs.length ≤ sizeLine := by
  obtain ⟨z, its, n, r, e⟩ := h.ok I.hok
  exact ⟨its, n, r, e, z⟩

/-- xs + ys: a new list -/
def rCatR : R2 := fun x y H Q => ∃ l b xs zs, x = .ref l ∧ y = .ref b ∧ Rd H l (.lst xs) ∧ Rd H b (.lst zs) ∧ xs.length + zs.length ≤ sizeLine ∧ ∀ p, H p = none → Q (.ref p) (upd H p (.lst (xs ++ zs)))
theorem op_catR : OpR X (binaryOp .Add) rCatR := by
  intro pins s σ H x y v u Q I rx ry ⟨l, b, xs, zs, ex, ey, hl, hb, hz, q⟩
  subst ex ey
  cases rx
  cases ry
  obtain ⟨i1, n1, r1, e1, z1⟩ := lrd I hl
  obtain ⟨i2, n2, r2, e2, z2⟩ := lrd I hb
  have l1 := r1.length
  have l2 := r2.length
  have big : i1.toArray.size + i2.toArray.size ≤ sizeLine := by rw [List.size_toArray, List.size_toArray]; omega
  have tog : i1.toArray ++ i2.toArray = (i1 ++ i2).toArray := by simp
  refine PySem.P.add_list e1 e2 ?_ big
  rw [tog]
  have z3 : (xs ++ zs).length ≤ sizeLine := by simpa using hz
  exact ⟨.ref _, _, I.lnew (t' := s.toks) (r1.append r2) z3, rfl, q _ I.fresh⟩

/-- data by an operator: a op b -/
def rB (K : Fg) (op : Operator) : R2 := fun x y H Q => ∃ (U : Mu) (dx dy : D) (re : Re), NoU U H ∧ RT K U H dx x ∧ RT K U H dy y ∧ binD op dx dy = some re ∧ Pst K U H Q re

theorem rd_new_tup {K : Fg} {U : Mu} {H : Hp} {p : Addr} {xs : List V} {ds : List D} (nu : NoU U H) (n : H p = none) (r : RDs K U H ds xs) : RD K U (upd H p (.tup xs)) (.tuple ds) (.ref p) := by
  have k : Keep U H U (upd H p (.tup xs)) := ⟨fun a o _ e => upd_grow n a o e, fun a u => .inl u⟩
  exact .tup (fun u => nu p u n) (.inl upd_same) (RDs.keep k r)
theorem rd_new_lst {K : Fg} {U : Mu} {H : Hp} {p : Addr} {xs : List V} {ds : List D} (nu : NoU U H) (n : H p = none) (r : RDs K U H ds xs) : RD K U (upd H p (.lst xs)) (.list ds) (.ref p) := by
  have k : Keep U H U (upd H p (.lst xs)) := ⟨fun a o _ e => upd_grow n a o e, fun a u => .inl u⟩
  exact .lst (fun u => nu p u n) (.inl upd_same) (RDs.keep k r)

theorem mulOk_ok {i j : Int} (h : mulOk i j = true) : CMul i j := by
  unfold mulOk at h
  simp only [Bool.or_eq_true, Bool.and_eq_true, decide_eq_true_eq] at h
  have e : big = 2 ^ 64 := by decide
  rw [e] at h
  exact h

theorem RDs.nil_iff {K : Fg} {U : Mu} {H : Hp} {ds : List D} {xs : List V} (r : RDs K U H ds xs) : ds = [] ↔ xs = [] := by
  have := r.length
  constructor
  · intro e; subst e; exact List.eq_nil_of_length_eq_zero (by simpa using this.symm)
  · intro e; subst e; exact List.eq_nil_of_length_eq_zero (by simpa using this)

theorem op_bin (op : Operator) : OpR X (binaryOp op) (rB X.K op) := by
  intro pins s σ H x y v u Q I rx ry ⟨U, dx, dy, re, nu, hx, hy, e, q⟩
  have same : ∀ d w, re = .v d → RD X.K U H d w → Q w H := fun d w er r => by
    subst er
    exact q w H (fun _ _ z => z) r
  unfold binD at e
  split at e
  · -- int + int
    cases e
    cases hx.int
    cases hy.int
    exact op_add pins s σ H _ _ v u Q I rx ry ⟨_, _, rfl, rfl, same _ _ rfl (.int _)⟩
  · -- str + str
    split at e
    · cases e
      rename_i hl
      cases hx.str
      cases hy.str
      rw [lim_eq] at hl
      exact op_add_str pins s σ H _ _ v u Q I rx ry ⟨_, _, rfl, rfl, hl, same _ _ rfl (.str _)⟩
    · cases e
  · -- tuple + tuple
    split at e
    · cases e
      rename_i xs ys hl
      rw [lim_eq] at hl
      obtain ⟨a, vx, rfl, qa, ra⟩ := hx.sqt
      obtain ⟨b, vy, rfl, qb, rb⟩ := hy.sqt
      have l1 := ra.length
      have l2 := rb.length
      refine op_catA pins s σ H _ _ v u Q I rx ry ⟨a, b, vx, vy, rfl, rfl, qa, qb, by omega, fun e1 => ?_, fun e1 e2 => ?_, fun e1 e2 p np => ?_⟩
      · have z : xs = [] := ra.nil_iff.mpr e1
        subst z
        refine same _ _ rfl ?_
        cases hy with
        | rd r => exact r
      · have z : ys = [] := rb.nil_iff.mpr e2
        subst z
        refine same _ _ rfl ?_
        rw [List.append_nil]
        cases hx with
        | rd r => exact r
      · exact q (.ref p) _ (fun c o z => upd_grow np c o z) (rd_new_tup nu np (ra.append rb))
    · cases e
  · -- list + list
    split at e
    · cases e
      rename_i xs ys hl
      rw [lim_eq] at hl
      obtain ⟨a, vx, rfl, qa, ra⟩ := hx.sql
      obtain ⟨b, vy, rfl, qb, rb⟩ := hy.sql
      have l1 := ra.length
      have l2 := rb.length
      have z : vx.length + vy.length ≤ sizeLine := by omega
      exact op_catR pins s σ H _ _ v u Q I rx ry ⟨a, b, vx, vy, rfl, rfl, qa, qb, z, fun p np => q p _ np (ra.append rb) (by simpa using z)⟩
    · cases e
  · cases e
    cases hx.int
    cases hy.int
    exact op_sub pins s σ H _ _ v u Q I rx ry ⟨_, _, rfl, rfl, same _ _ rfl (.int _)⟩
  · split at e
    · cases e
      rename_i hm
      cases hx.int
      cases hy.int
      exact op_mul pins s σ H _ _ v u Q I rx ry ⟨_, _, rfl, rfl, mulOk_ok hm, same _ _ rfl (.int _)⟩
    · cases e
  · split at e
    · cases e
      rename_i hm
      cases hx.int
      cases hy.int
      exact op_fdiv pins s σ H _ _ v u Q I rx ry ⟨_, _, rfl, rfl, hm, same _ _ rfl (.int _)⟩
    · cases e
  · split at e
    · cases e
      rename_i hm
      cases hx.int
      cases hy.int
      exact op_mod pins s σ H _ _ v u Q I rx ry ⟨_, _, rfl, rfl, hm, same _ _ rfl (.int _)⟩
    · cases e
  · split at e
    · cases e
      rename_i hm
      cases hx.int
      cases hy.int
      exact op_pow pins s σ H _ _ v u Q I rx ry ⟨_, _, rfl, rfl, hm, same _ _ rfl (.int _)⟩
    · cases e
  · cases e
end
end Cy


set_option Elab.async false
set_option linter.all false
set_option maxRecDepth 100000
set_option maxHeartbeats 2000000
/-! L2b: comparisons, items, slices. -/
namespace Cy
open PySem PySem.Spec PyProof.Rows L2

section
variable {X : Cx} {pins : List (Addr × Obj)} {σ : Sg} {H : Hp} {s : Shared} {U : Mu}
mutual
theorem RD.reads (I : Inv X pins σ H s) : ∀ {d : D} {v : V} {u : Value}, RD X.K U H d v → RelV v u → ∃ as, Reads s.heap u d as
  | _, _, _, .non, r => by cases r; exact ⟨_, .none⟩
  | _, _, _, .bl b, r => by cases r; exact ⟨_, .bool b⟩
  | _, _, _, .int i, r => by obtain ⟨t, rfl⟩ := r; exact ⟨_, .int i t⟩
  | _, _, _, .str x, r => by obtain ⟨t, rfl⟩ := r; exact ⟨_, .str x t⟩
  | _, _, _, .lst _ hr q, r => by
    cases r
    obtain ⟨its, n, rv, e, _⟩ := lrd I hr
    obtain ⟨as, k⟩ := RDs.reads I q rv
    exact ⟨_, .list e rfl rfl k⟩
  | _, _, _, .tup _ hr q, r => by
    cases r
    obtain ⟨its, rv, ⟨o, ho, hc, n, hd⟩, _⟩ := I.tuple (.inl hr)
    obtain ⟨as, k⟩ := RDs.reads I q rv
    exact ⟨_, .tuple ho hc hd k⟩
  | _, _, _, .tupK hr q, r => by
    cases r
    obtain ⟨its, rv, ⟨o, ho, hc, n, hd⟩, _⟩ := I.tuple (.inr hr)
    obtain ⟨as, k⟩ := RDs.reads I q rv
    exact ⟨_, .tuple ho hc hd k⟩
theorem RDs.reads (I : Inv X pins σ H s) : ∀ {ds : List D} {vs : List V} {us : List Value}, RDs X.K U H ds vs → Vals vs us → ∃ as, ReadsAll s.heap us ds as
  | _, _, _, .nil, r => by cases r; exact ⟨_, .nil⟩
  | _, _, _, .cons a b, r => by
    cases r with
    | cons r1 r2 =>
      obtain ⟨as, q1⟩ := RD.reads I a r1
      obtain ⟨bs, q2⟩ := RDs.reads I b r2
      exact ⟨_, .cons q1 q2⟩
end
theorem RT.reads (I : Inv X pins σ H s) {d : D} {v : V} {u : Value} (x : RT X.K U H d v) (r : RelV v u) : ∃ as, Reads s.heap u d as := by
  cases x with
  | rd x => exact RD.reads I x r
  | lst hr q =>
    cases r
    obtain ⟨its, n, rv, e, _⟩ := lrd I hr
    obtain ⟨as, k⟩ := RDs.reads I q rv
    exact ⟨_, .list e rfl rfl k⟩
end

section
variable {X : Cx}
/-- data compared: a op b -/
def rC (K : Fg) (op : CmpOp) : R2 := fun x y H Q => ∃ (U : Mu) (dx dy : D) (b : Bool), RT K U H dx x ∧ RT K U H dy y ∧ cmpD op dx dy = some b ∧ Q (.bl b) H

theorem eqD_ok {a b : D} {k : Bool} (h : eqD a b = some k) : SeqAt.shaped a = true ∧ SeqAt.shaped b = true ∧ k = PyData.eqv a b := by
  unfold eqD at h
  split at h
  · rename_i q
    simp only [Bool.and_eq_true] at q
    exact ⟨q.1, q.2, (Option.some.inj h).symm⟩
  · cases h
theorem inD_ok {x : D} {ys : List D} {k : Bool} (h : inD x ys = some k) : SeqAt.shaped x = true ∧ PyData.canLayAll0 ys = true ∧ k = ys.any fun y => PyData.eqv y x := by
  unfold inD at h
  split at h
  · rename_i q
    simp only [Bool.and_eq_true] at q
    exact ⟨q.1, SeqAt.canLay_of_shaped q.2, (Option.some.inj h).symm⟩
  · cases h
theorem map_not {o : Option Bool} {k : Bool} (h : o.map (!·) = some k) : o = some (!k) := by
  cases o with
  | none => cases h
  | some b => cases h; simp

theorem op_cmp (hu : X.A.units + 65 < cLine) (op : CmpOp) : OpR X (compareOp op) (rC X.K op) := by
  intro pins s σ H x y v u Q I rx ry ⟨U, dx, dy, b, hx, hy, e, q⟩
  have hu1 : X.A.units + 64 < cLine := by omega
  have hu0 : X.A.units < cLine := by omega
  unfold cmpD at e
  split at e
  · -- ==
    obtain ⟨s1, s2, rfl⟩ := eqD_ok e
    obtain ⟨as, r1⟩ := hx.reads I rx
    obtain ⟨bs, r2⟩ := hy.reads I ry
    exact SeqAt.compareEq_shaped r1 r2 s1 s2 hu1 ⟨.bl _, H, I, rfl, q⟩
  · -- !=
    obtain ⟨s1, s2, eb⟩ := eqD_ok (map_not e)
    obtain ⟨as, r1⟩ := hx.reads I rx
    obtain ⟨bs, r2⟩ := hy.reads I ry
    have eb' : b = !PyData.eqv dx dy := by rw [← eb]; simp
    subst eb'
    exact SeqAt.compareNe_shaped r1 r2 s1 s2 hu1 ⟨.bl _, H, I, rfl, q⟩
  · cases e
    cases hx.int
    cases hy.int
    exact op_lt pins s σ H _ _ v u Q I rx ry ⟨_, _, rfl, rfl, q⟩
  · cases e
    cases hx.int
    cases hy.int
    exact op_le pins s σ H _ _ v u Q I rx ry ⟨_, _, rfl, rfl, q⟩
  · cases e
    cases hx.int
    cases hy.int
    exact op_gt pins s σ H _ _ v u Q I rx ry ⟨_, _, rfl, rfl, q⟩
  · cases e
    cases hx.int
    cases hy.int
    exact op_ge pins s σ H _ _ v u Q I rx ry ⟨_, _, rfl, rfl, q⟩
  · -- tuples of ints
    split at e
    · rename_i h1 h2
      cases e
      obtain ⟨a, vx, rfl, qa, ra⟩ := hx.sqt
      obtain ⟨c, vy, rfl, qb, rb⟩ := hy.sqt
      rw [ra.ints h1] at qa
      rw [rb.ints h2] at qb
      exact op_ltT hu0 pins s σ H _ _ v u Q I rx ry ⟨_, _, _, _, rfl, rfl, qa, qb, q⟩
    · cases e
  · cases e
    cases hx.non
    cases hy.non
    exact op_isN pins s σ H _ _ v u Q I rx ry ⟨rfl, q⟩
  · rename_i hne
    cases e
    cases hy.non
    refine op_isN pins s σ H _ _ v u Q I rx ry ⟨rfl, ?_⟩
    have : x ≠ .non := fun z => by
      subst z
      cases hx with
      | rd r => cases r; exact hne rfl
    rw [decide_eq_false this]
    exact q
  · cases e
    cases hx.non
    cases hy.non
    exact op_notN pins s σ H _ _ v u Q I rx ry ⟨rfl, q⟩
  · rename_i hne
    cases e
    cases hy.non
    refine op_notN pins s σ H _ _ v u Q I rx ry ⟨rfl, ?_⟩
    have : x ≠ .non := fun z => by
      subst z
      cases hx with
      | rd r => cases r; exact hne rfl
    rw [decide_eq_false this]
    exact q
  · rename_i a c
    cases e
    cases hx.bl
    cases hy.bl
    refine op_is_bl pins s σ H _ _ v u Q I rx ry ⟨_, _, rfl, rfl, ?_⟩
    have : decide (a = c) = (a == c) := by cases a <;> cases c <;> rfl
    rw [this]; exact q
  · rename_i a c
    cases e
    cases hx.bl
    cases hy.bl
    refine op_isnot_bl pins s σ H _ _ v u Q I rx ry ⟨_, _, rfl, rfl, ?_⟩
    have : decide (a = c) = (a == c) := by cases a <;> cases c <;> rfl
    rw [this]; exact q
  · cases e
    cases hx.str
    cases hy.str
    exact op_in_str pins s σ H _ _ v u Q I rx ry ⟨_, _, rfl, rfl, q⟩
  · cases e
    cases hx.str
    cases hy.str
    exact op_notin_str pins s σ H _ _ v u Q I rx ry ⟨_, _, rfl, rfl, q⟩
  · obtain ⟨s1, s2, rfl⟩ := inD_ok e
    obtain ⟨as, r1⟩ := hx.reads I rx
    obtain ⟨bs, r2⟩ := hy.reads I ry
    exact SeqAt.in_list_reads r2 r1 s2 (SeqAt.canLay_of_shaped s1) (room_in_shaped s1 hu) ⟨.bl _, H, I, rfl, q⟩
  · obtain ⟨s1, s2, rfl⟩ := inD_ok e
    obtain ⟨as, r1⟩ := hx.reads I rx
    obtain ⟨bs, r2⟩ := hy.reads I ry
    exact SeqAt.in_tuple_reads r2 r1 s2 (SeqAt.canLay_of_shaped s1) (room_in_shaped s1 hu) ⟨.bl _, H, I, rfl, q⟩
  · obtain ⟨s1, s2, eb⟩ := inD_ok (map_not e)
    have q2 : Q (.bl (!(!b))) H := by simpa using q
    rw [eb] at q2
    obtain ⟨as, r1⟩ := hx.reads I rx
    obtain ⟨bs, r2⟩ := hy.reads I ry
    exact SeqAt.notIn_list_reads r2 r1 s2 (SeqAt.canLay_of_shaped s1) (room_in_shaped s1 hu) ⟨.bl _, H, I, rfl, q2⟩
  · obtain ⟨s1, s2, eb⟩ := inD_ok (map_not e)
    have q2 : Q (.bl (!(!b))) H := by simpa using q
    rw [eb] at q2
    obtain ⟨as, r1⟩ := hx.reads I rx
    obtain ⟨bs, r2⟩ := hy.reads I ry
    exact SeqAt.notIn_tuple_reads r2 r1 s2 (SeqAt.canLay_of_shaped s1) (room_in_shaped s1 hu) ⟨.bl _, H, I, rfl, q2⟩
  · cases e

/-! ### items -/
def rI' (K : Fg) : R2 := fun x y H Q => ∃ (U : Mu) (dx dy d : D), RT K U H dx x ∧ RT K U H dy y ∧ ixD dx dy = some d ∧ ∀ w, RD K U H d w → Q w H
theorem atX_atI {α : Type} {xs : List α} {i : Int} {x : α} (h : atX xs i = some x) : atI xs i = some x := by
  unfold atX at h
  unfold atI ixN
  by_cases h0 : 0 ≤ i
  · rw [if_pos h0] at h
    have hl : i.toNat < xs.length := by
      rcases Nat.lt_or_ge i.toNat xs.length with z | z
      · exact z
      · rw [List.getElem?_eq_none z] at h; cases h
    rw [if_pos h0, if_pos (by omega)]
    exact h
  · rw [if_neg h0] at h
    rw [if_neg h0]
    split at h
    · rename_i h1
      rw [if_pos h1]
      exact h
    · cases h
theorem RDs.atX {K : Fg} {ds : List D} {xs : List V} {i : Int} {d : D} {U : Mu} {H : Hp} (r : RDs K U H ds xs) (h : atX ds i = some d) : ∃ v, Cy.atX xs i = some v ∧ RD K U H d v := by
  unfold Cy.atX at h ⊢
  rw [← r.length]
  by_cases h0 : 0 ≤ i
  · rw [if_pos h0] at h ⊢
    exact r.get h
  · rw [if_neg h0] at h ⊢
    split at h
    · rename_i h1
      rw [if_pos h1]
      exact r.get h
    · cases h
theorem ix_ok : IxR X (rI' X.K) := by
  intro value slice pins s σ H x y v u Q I rx ry ⟨U, dx, dy, d, hx, hy, e, q⟩ hs
  unfold ixD at e
  split at e
  · obtain ⟨a, vx, rfl, qa, ra⟩ := hx.sql
    cases hy.int
    obtain ⟨w, e1, rw'⟩ := ra.atX e
    exact ix_list value slice pins s σ H _ _ v u Q I rx ry ⟨a, vx, _, w, rfl, rfl, .inl qa, atX_atI e1, q w rw'⟩ hs
  · obtain ⟨a, vx, rfl, qa, ra⟩ := hx.sqt
    cases hy.int
    obtain ⟨w, e1, rw'⟩ := ra.atX e
    exact ix_tup value slice pins s σ H _ _ v u Q I rx ry ⟨a, vx, _, w, rfl, rfl, qa, atX_atI e1, q w rw'⟩ hs
  · split at e
    · rename_i z i hl
      rw [lim_eq] at hl
      cases hx.str
      cases hy.int
      cases q2 : atX z.cps.toList i with
      | none => rw [q2] at e; cases e
      | some c =>
        rw [q2] at e
        cases e
        exact ix_str value slice pins s σ H _ _ v u Q I rx ry ⟨_, _, c, rfl, rfl, hl, atX_atI q2, q _ (.str _)⟩ hs
    · cases e
  · cases e

/-! ### slices -/
def rS' (K : Fg) : V → Option Int → Option Int → Hp → VK → Prop := fun x lo hi H Q => ∃ (U : Mu) (dx : D) (re : Re), NoU U H ∧ RT K U H dx x ∧ slD dx lo hi = some re ∧ Pst K U H Q re
theorem RDs.cut {K : Fg} {ds : List D} {xs : List V} {U : Mu} {H : Hp} (r : RDs K U H ds xs) (lo hi : Option Int) : RDs K U H (Cy.cut ds lo hi) (cutV xs lo hi) := by
  unfold Cy.cut cutV
  rw [r.length]
  exact (r.drop _).take _
theorem cut_whole {α : Type} (xs : List α) (lo hi : Option Int) (h : HT.sIx xs.length 0 lo = 0 ∧ HT.sIx xs.length xs.length hi = xs.length) : cut xs lo hi = xs := by
  unfold cut
  rw [h.1, h.2]
  simp
theorem sl_ok : SlR X (rS' X.K) := by
  intro pins s σ H x v vl vu lo hi sl Q I rx hs pl pu ⟨U, dx, re, nu, hx, e, q⟩
  unfold slD at e
  split at e
  · rename_i xs
    cases e
    obtain ⟨a, vx, rfl, qa, ra⟩ := hx.sql
    obtain ⟨its, _, _, _, hz⟩ := lrd I qa
    have hl : (cutV vx lo hi).length ≤ sizeLine := Nat.le_trans (cutV_length _ _ _) hz
    exact sl_list pins s σ H _ v vl vu lo hi sl Q I rx hs pl pu ⟨a, vx, rfl, .inl qa, fun p np => q p _ np (ra.cut lo hi) hl⟩
  · rename_i xs
    cases e
    obtain ⟨a, vx, rfl, qa, ra⟩ := hx.sqt
    have el := ra.length
    refine sl_tupA pins s σ H _ v vl vu lo hi sl Q I rx hs pl pu ⟨a, vx, rfl, qa, fun w => ?_, fun w p np => ?_⟩
    · refine q _ H (fun _ _ z => z) ?_
      rw [cut_whole xs lo hi (by rw [el]; exact w)]
      cases hx with
      | rd r => exact r
    · exact q (.ref p) _ (fun c o z => upd_grow np c o z) (rd_new_tup nu np (ra.cut lo hi))
  · split at e
    · rename_i z hl
      rw [lim_eq] at hl
      cases e
      cases hx.str
      exact sl_str pins s σ H _ v vl vu lo hi sl Q I rx hs pl pu ⟨_, rfl, hl, q _ H (fun _ _ z => z) (.str _)⟩
    · cases e
  · cases e
end
end Cy


set_option Elab.async false
set_option linter.all false
set_option maxRecDepth 100000
set_option maxHeartbeats 2000000
/-! L2c: built-in functions, methods that change nothing. -/
namespace Cy
open PySem PySem.Spec PyProof.Rows L2

inductive RTs (K : Fg) (U : Mu) (H : Hp) : List D → List V → Prop
  | nil : RTs K U H [] []
  | cons {d : D} {v : V} {ds : List D} {vs : List V} : RT K U H d v → RTs K U H ds vs → RTs K U H (d :: ds) (v :: vs)

def bfV : Bf → Value
  | .len => .builtin "len"
  | .all => .builtin "all"
  | .any => .builtin "any"
  | .sum => .builtin "sum"
  | .tuple => .type "tuple"
  | .list => .type "list"
  | .min => .builtin "min"
  | .max => .builtin "max"
  | .abs => .builtin "abs"
  | .int => .type "int"
  | .str => .type "str"
  | .repr => .builtin "repr"
  | .sorted => .builtin "sorted"
  | .divmod => .builtin "divmod"

theorem insI_perm (a : Int) : ∀ l : List Int, (insI a l).Perm (a :: l)
  | [] => .refl _
  | b :: r => by
    unfold insI
    split
    · exact .refl _
    · exact ((insI_perm a r).cons b).trans (.swap a b r)
theorem sortI_perm : ∀ l : List Int, (sortI l).Perm l
  | [] => .refl _
  | a :: r => (insI_perm a _).trans ((sortI_perm r).cons a)
theorem insI_sorted (a : Int) : ∀ l : List Int, l.Pairwise (· ≤ ·) → (insI a l).Pairwise (· ≤ ·)
  | [], _ => List.pairwise_singleton _ _
  | b :: r, h => by
    have h' := List.pairwise_cons.mp h
    unfold insI
    split
    · rename_i hab
      refine List.pairwise_cons.mpr ⟨fun x hx => ?_, h⟩
      rcases List.mem_cons.mp hx with rfl | hx
      · exact hab
      · exact Int.le_trans hab (h'.1 x hx)
    · rename_i hab
      refine List.pairwise_cons.mpr ⟨fun x hx => ?_, insI_sorted a r h'.2⟩
      rcases List.mem_cons.mp ((insI_perm a r).mem_iff.mp hx) with rfl | hx
      · omega
      · exact h'.1 x hx
theorem sortI_sorted : ∀ l : List Int, (sortI l).Pairwise (· ≤ ·)
  | [] => .nil
  | a :: r => insI_sorted a _ (sortI_sorted r)

theorem minI_some : ∀ {l : List Int} {m : Int}, minI l = some m → m ∈ l ∧ ∀ y ∈ l, m ≤ y
  | [], _, h => by cases h
  | [a], m, h => by
    cases h
    exact ⟨List.mem_singleton.mpr rfl, fun y hy => by rw [List.mem_singleton.mp hy]; exact Int.le_refl _⟩
  | a :: b :: r, m, h => by
    unfold minI at h
    cases q : minI (b :: r) with
    | none => rw [q] at h; cases h
    | some n =>
      rw [q] at h
      obtain ⟨h1, h2⟩ := minI_some q
      have e : m = if n < a then n else a := (Option.some.inj h).symm
      subst e
      split
      · rename_i hl
        refine ⟨List.mem_cons_of_mem _ h1, fun y hy => ?_⟩
        rcases List.mem_cons.mp hy with rfl | hy
        · omega
        · exact h2 y hy
      · rename_i hl
        refine ⟨List.mem_cons_self, fun y hy => ?_⟩
        rcases List.mem_cons.mp hy with rfl | hy
        · omega
        · have := h2 y hy; omega
theorem maxI_some : ∀ {l : List Int} {m : Int}, maxI l = some m → m ∈ l ∧ ∀ y ∈ l, y ≤ m
  | [], _, h => by cases h
  | [a], m, h => by
    cases h
    exact ⟨List.mem_singleton.mpr rfl, fun y hy => by rw [List.mem_singleton.mp hy]; exact Int.le_refl _⟩
  | a :: b :: r, m, h => by
    unfold maxI at h
    cases q : maxI (b :: r) with
    | none => rw [q] at h; cases h
    | some n =>
      rw [q] at h
      obtain ⟨h1, h2⟩ := maxI_some q
      have e : m = if a < n then n else a := (Option.some.inj h).symm
      subst e
      split
      · rename_i hl
        refine ⟨List.mem_cons_of_mem _ h1, fun y hy => ?_⟩
        rcases List.mem_cons.mp hy with rfl | hy
        · omega
        · exact h2 y hy
      · rename_i hl
        refine ⟨List.mem_cons_self, fun y hy => ?_⟩
        rcases List.mem_cons.mp hy with rfl | hy
        · omega
        · have := h2 y hy; omega

theorem reprD_ok {d e : D} (h : reprD d = some e) : d.showable = true ∧ d.hasDict = false ∧ d.depth ≤ 64 ∧ d.shown.length ≤ sizeLine ∧ e = .str d.shown := by
  unfold reprD at h
  split at h
  · rename_i q
    simp only [Bool.and_eq_true, Bool.not_eq_true', decide_eq_true_eq] at q
    rw [lim_eq] at q
    exact ⟨q.1.1.1, q.1.1.2, q.1.2, q.2, (Option.some.inj h).symm⟩
  · cases h

section
variable {X : Cx}
def rF (K : Fg) (f : Bf) : List V → Hp → VK → Prop := fun xs H Q => ∃ (U : Mu) (ds : List D) (re : Re), NoU U H ∧ RTs K U H ds xs ∧ bifD f ds = some re ∧ Pst K U H Q re

theorem len_ok (hc : X.calm = true) {K : Fg} {U : Mu} {H : Hp} {d : D} {v : V} {n : Nat} (r : RT K U H d v) (e : lenD d = some n) :
    (∃ p ys, v = .ref p ∧ (SqL K H p ys ∨ SqT K H p ys) ∧ ys.length = n) ∨ ∃ z, v = .str z ∧ z.length ≤ sizeLine ∧ z.length = n := by
  unfold lenD at e
  split at e
  · obtain ⟨a, vx, rfl, qa, ra⟩ := r.sql
    cases e
    exact .inl ⟨a, vx, rfl, .inl (.inl qa), ra.length.symm⟩
  · obtain ⟨a, vx, rfl, qa, ra⟩ := r.sqt
    cases e
    exact .inl ⟨a, vx, rfl, .inr qa, ra.length.symm⟩
  · split at e
    · rename_i hl
      rw [lim_eq] at hl
      cases e
      cases r.str
      exact .inr ⟨_, rfl, hl, rfl⟩
    · cases e
  · cases e

theorem call_bif (hc : X.calm = true) (hg : X.A.guards = some []) (hu : X.A.units + 80 < cLine) (f : Bf) : CallR X (bfV f) (rF X.K f) := by
  intro pins s σ H xs us Q I r ⟨U, ds, re, nu, hx, e, q⟩
  have same : ∀ d w, re = .v d → RD X.K U H d w → Q w H := fun d w er r => by
    subst er
    exact q w H (fun _ _ z => z) r
  unfold bifD at e
  split at e
  · -- len
    cases hx with | cons h1 hn => cases hn with | nil =>
    rename_i x vx
    cases n : lenD x with
    | none => rw [n] at e; cases e
    | some k =>
      rw [n] at e; cases e
      rcases len_ok hc h1 n with ⟨p, ys, rfl, hq, el⟩ | ⟨z, rfl, hz, el⟩
      · exact call_len_seq pins s σ H _ us Q I r ⟨p, ys, rfl, hq, by rw [el]; exact same _ _ rfl (.int _)⟩
      · exact call_len_str pins s σ H _ us Q I r ⟨z, rfl, hz, by rw [el]; exact same _ _ rfl (.int _)⟩
  · -- all
    cases hx with | cons h1 hn => cases hn with | nil =>
    obtain ⟨a, vs, rfl, qa, ra⟩ := h1.sql
    rename_i x
    cases n : allBools x with
    | none => rw [n] at e; cases e
    | some bs =>
      rw [n] at e; cases e
      rw [ra.bools n] at qa
      exact cr_all hc pins s σ H _ us Q I r ⟨a, bs, rfl, .inl qa, same _ _ rfl (.bl _)⟩
  · cases hx with | cons h1 hn => cases hn with | nil =>
    obtain ⟨a, vs, rfl, qa, ra⟩ := h1.sql
    rename_i x
    cases n : allBools x with
    | none => rw [n] at e; cases e
    | some bs =>
      rw [n] at e; cases e
      rw [ra.bools n] at qa
      exact cr_any hc pins s σ H _ us Q I r ⟨a, bs, rfl, .inl qa, same _ _ rfl (.bl _)⟩
  · cases hx with | cons h1 hn => cases hn with | nil =>
    obtain ⟨a, vs, rfl, qa, ra⟩ := h1.sql
    rename_i x
    cases n : allInts x with
    | none => rw [n] at e; cases e
    | some ns =>
      rw [n] at e; cases e
      rw [ra.ints n] at qa
      exact cr_sum hc pins s σ H _ us Q I r ⟨a, ns, rfl, .inl qa, same _ _ rfl (.int _)⟩
  · -- tuple(list)
    cases e
    cases hx with | cons h1 hn => cases hn with | nil =>
    obtain ⟨a, vs, rfl, qa, ra⟩ := h1.sql
    exact call_tuple_of pins s σ H _ us Q I r ⟨a, vs, rfl, .inl ⟨.inl qa, fun p np => q (.ref p) _ (fun c o z => upd_grow np c o z) (rd_new_tup nu np ra)⟩⟩
  · cases e
    cases hx with | cons h1 hn => cases hn with | nil =>
    have h2 := h1
    obtain ⟨a, vs, rfl, qa, ra⟩ := h1.sqt
    refine call_tuple_of pins s σ H _ us Q I r ⟨a, vs, rfl, .inr ⟨qa, same _ _ rfl ?_⟩⟩
    cases h2 with
    | rd z => exact z
  · cases e
    cases hx with | cons h1 hn => cases hn with | nil =>
    obtain ⟨a, vs, rfl, qa, ra⟩ := h1.sql
    obtain ⟨_, _, _, _, hz⟩ := lrd I qa
    exact call_list_of pins s σ H _ us Q I r ⟨a, vs, rfl, .inl (.inl qa), fun p np => q p _ np ra hz⟩
  · cases e
    cases hx with | cons h1 hn => cases hn with | nil =>
    obtain ⟨a, vs, rfl, qa, ra⟩ := h1.sqt
    obtain ⟨_, _, _, hz⟩ := I.tuple qa
    exact call_list_of pins s σ H _ us Q I r ⟨a, vs, rfl, .inr qa, fun p np => q p _ np ra hz⟩
  · cases e
    cases hx with | cons h1 hn => cases hn with | cons h2 hn => cases hn with | nil =>
    cases h1.int
    cases h2.int
    exact call_min2 hc pins s σ H _ us Q I r ⟨_, _, rfl, same _ _ rfl (.int _)⟩
  · cases e
    cases hx with | cons h1 hn => cases hn with | cons h2 hn => cases hn with | nil =>
    cases h1.int
    cases h2.int
    exact call_max2 hc pins s σ H _ us Q I r ⟨_, _, rfl, same _ _ rfl (.int _)⟩
  · cases hx with | cons h1 hn => cases hn with | nil =>
    obtain ⟨a, vs, rfl, qa, ra⟩ := h1.sql
    rename_i x
    cases n : allInts x with
    | none => rw [n] at e; cases e
    | some ns =>
      rw [n] at e
      cases m : minI ns with
      | none => rw [Option.bind_some, m] at e; cases e
      | some k =>
        rw [Option.bind_some, m] at e; cases e
        rw [ra.ints n] at qa
        obtain ⟨m1, m2⟩ := minI_some m
        refine cr_min hc pins s σ H _ us Q I r ⟨a, ns, rfl, .inl qa, List.length_pos_of_mem m1, fun j hj hm => ?_⟩
        have : j = k := Int.le_antisymm (hm k m1) (m2 j hj)
        subst this
        exact same _ _ rfl (.int _)
  · cases hx with | cons h1 hn => cases hn with | nil =>
    obtain ⟨a, vs, rfl, qa, ra⟩ := h1.sql
    rename_i x
    cases n : allInts x with
    | none => rw [n] at e; cases e
    | some ns =>
      rw [n] at e
      cases m : maxI ns with
      | none => rw [Option.bind_some, m] at e; cases e
      | some k =>
        rw [Option.bind_some, m] at e; cases e
        rw [ra.ints n] at qa
        obtain ⟨m1, m2⟩ := maxI_some m
        refine cr_max hc pins s σ H _ us Q I r ⟨a, ns, rfl, .inl qa, List.length_pos_of_mem m1, fun j hj hm => ?_⟩
        have : j = k := Int.le_antisymm (m2 j hj) (hm k m1)
        subst this
        exact same _ _ rfl (.int _)
  · cases e
    cases hx with | cons h1 hn => cases hn with | nil =>
    cases h1.int
    exact call_abs pins s σ H _ us Q I r ⟨_, rfl, same _ _ rfl (.int _)⟩
  · cases e
    cases hx with | cons h1 hn => cases hn with | nil =>
    cases h1.int
    exact call_int1 pins s σ H _ us Q I r (.inl ⟨_, rfl, same _ _ rfl (.int _)⟩)
  · cases e
    cases hx with | cons h1 hn => cases hn with | nil =>
    cases h1.bl
    exact call_int1 pins s σ H _ us Q I r (.inr ⟨_, rfl, same _ _ rfl (.int _)⟩)
  · split at e
    · rename_i hl
      cases hx with | cons h1 hn => cases hn with | nil =>
      rename_i z _
      cases n : intText? z with
      | none => rw [n] at e; cases e
      | some k =>
        rw [n] at e; cases e
        cases h1.str
        exact call_int_str pins s σ H _ us Q I r ⟨_, k, rfl, n, hl, same _ _ rfl (.int _)⟩
    · cases e
  · split at e
    · rename_i hl
      cases e
      cases hx with | cons h1 hn => cases hn with | nil =>
      cases h1.int
      exact call_str_int pins s σ H _ us Q I r ⟨_, rfl, hl, same _ _ rfl (.str _)⟩
    · cases e
  · cases e
    cases hx with | cons h1 hn => cases hn with | nil =>
    cases h1.str
    exact SkE.call_str_str pins s σ H _ us Q I r ⟨_, rfl, same _ _ rfl (.str _)⟩
  · -- repr
    cases hx with | cons h1 hn => cases hn with | nil =>
    rename_i x vx
    cases n : reprD x with
    | none => rw [n] at e; cases e
    | some k =>
      rw [n] at e; cases e
      obtain ⟨g1, g2, g3, g4, rfl⟩ := reprD_ok n
      obtain ⟨u, rfl, ru⟩ := vals1 r
      have fin : ∀ (x' : Str) (t : Tok) (h' : Heap) (tk : Nat), x' = x.shown → (∀ b o, s.heap.get? b = some o → h'.get? b = some o) → EP X pins σ Q (.str x' t) { s with heap := h', toks := tk } :=
        fun x' t h' tk ex k => ⟨.str x.shown, H, I.kept k, ⟨t, by rw [ex]⟩, same _ _ rfl (.str _)⟩
      have byref : ∀ a, u = .ref a → wpAny (model X.prog X.w) X.A (call (bfV .repr) [u]) (EP X pins σ Q) X.xe s := fun a ea => by
        subst ea
        obtain ⟨as, rd⟩ := h1.reads I ru
        exact PySem.repr_of_reads' rd g1 (PyData.noDict_hsm g2) hg (by omega) (fun _ _ z => z) (fun h' u' tk k => fin _ _ h' tk rfl k) g4
      cases x with
      | none =>
        cases h1.non
        cases ru
        exact PySem.P.repr_of_none (fin _ _ s.heap _ (by simp only [PyData.shown]) fun _ _ z => z)
      | bool b =>
        cases h1.bl
        cases ru
        exact PySem.P.repr_of_bool (fin _ _ s.heap _ (by simp only [PyData.shown]) fun _ _ z => z)
      | int i =>
        cases h1.int
        obtain ⟨t, rfl⟩ := ru
        have hi : i.natAbs.log2 < 1920 := by simpa [PyData.showable] using g1
        exact PySem.P.repr_of_int hi (fin _ _ s.heap _ (by simp only [PyData.shown]) fun _ _ z => z)
      | str z =>
        cases h1.str
        obtain ⟨t, rfl⟩ := ru
        exact PySem.P.repr_of_str (fin _ _ s.heap _ (by simp only [PyData.shown]) fun _ _ z => z) (by simpa [PyData.shown] using g4)
      | list xs =>
        obtain ⟨a, vs, rfl, _, _⟩ := h1.sql
        exact byref a ru
      | tuple xs =>
        obtain ⟨a, vs, rfl, _, _⟩ := h1.sqt
        exact byref a ru
      | dict _ => simp [PyData.hasDict] at g2
  · -- sorted
    cases hx with | cons h1 hn => cases hn with | nil =>
    obtain ⟨a, vs, rfl, qa, ra⟩ := h1.sql
    rename_i x
    cases n : allInts x with
    | none => rw [n] at e; cases e
    | some ns =>
      rw [n, Option.bind_some] at e
      split at e
      · rename_i hl
        cases e
        rw [ra.ints n] at qa
        refine cr_sorted pins s σ H _ us Q I r ⟨a, ns, rfl, .inl qa, hl, fun ns' p hp hs np => ?_⟩
        have : ns' = sortI ns := PySem.W.ksm_same (hp.trans (sortI_perm ns).symm) hs (sortI_sorted ns)
        subst this
        refine q p _ np (RDs.ofInts _) ?_
        rw [List.length_map, (sortI_perm ns).length_eq, sizeLine_eq]
        omega
      · cases e
  · split at e
    · rename_i hj
      cases e
      cases hx with | cons h1 hn => cases hn with | cons h2 hn => cases hn with | nil =>
      cases h1.int
      cases h2.int
      exact call_divmod pins s σ H _ us Q I r ⟨_, _, rfl, hj, fun p np => q (.ref p) _ (fun c o z => upd_grow np c o z) (rd_new_tup nu np (.cons (.int _) (.cons (.int _) .nil)))⟩
    · cases e
  · cases e
end
end Cy


set_option Elab.async false
set_option linter.all false
set_option maxRecDepth 100000
set_option maxHeartbeats 2000000
/-! L3a: readings of the mini-language: what is wanted behind a computation. -/
namespace Cy
open PySem PySem.Spec PyProof.Rows L2

/-- how an error of ours lies: its class by its name -/
def XR (mg : Str → Option Value) (e : Ex) (cls : Value) (dd : Option Addr) : Prop := mg e.cls = some cls ∧ dd = none ∧ e.fs = []

def RRs (K : Fg) (al : List Addr) (U : Mu) (H : Hp) : List R → List V → Prop := fun rs vs => Paired (RR K al U H) rs vs

/-- what is wanted behind a computation that ends so -/
def Fin {α β : Type} (K : Fg) (mg : Str → Option Value) (E : XK) (rel : List Addr → Mu → Hp → α → β → Prop) (al : List Addr) (h : Hs) (H : Hp) (Q : β → Hp → Prop) : Out α → Prop
  | .ok r h' => ∀ al' H' v, Stp al h H al' h' H' → RH K al' h' H' → rel al' (UU al' h') H' r v → Q v H'
  | .ex e h' => ∀ al' H' cls dd, Stp al h H al' h' H' → RH K al' h' H' → XR mg e cls dd → E cls dd H'
  | .bad => False

section
variable {α β γ δ : Type} {K : Fg} {mg : Str → Option Value} {E : XK} {rel : List Addr → Mu → Hp → α → β → Prop} {rel' : List Addr → Mu → Hp → γ → δ → Prop} {al al1 : List Addr} {h h1 : Hs} {H H1 : Hp} {Q : β → Hp → Prop} {Q' : δ → Hp → Prop}
theorem Fin.shift {o : Out α} (f : Fin K mg E rel al h H Q o) (s : Stp al h H al1 h1 H1) : Fin K mg E rel al1 h1 H1 Q o := by
  cases o with
  | ok r h' => exact fun al' H' v st rh rr => f al' H' v (s.trans st) rh rr
  | ex e h' => exact fun al' H' cls dd st rh x => f al' H' cls dd (s.trans st) rh x
  | bad => exact f
theorem Fin.bnd {m : M γ} {g : γ → M α} (f : Fin K mg E rel al h H Q ((m.bnd g) h))
    (k : ∀ r h1 al1 H1 v, Stp al h H al1 h1 H1 → RH K al1 h1 H1 → rel' al1 (UU al1 h1) H1 r v → Fin K mg E rel al1 h1 H1 Q (g r h1) → Q' v H1) : Fin K mg E rel' al h H Q' (m h) := by
  unfold M.bnd at f
  cases e : m h with
  | ok r h1 =>
    rw [e] at f
    exact fun al1 H1 v st rh rr => k r h1 al1 H1 v st rh rr (f.shift st)
  | ex x h1 => rw [e] at f; exact f
  | bad => rw [e] at f; exact f
theorem Fin.opt {o : Option γ} {g : γ → M α} (f : Fin K mg E rel al h H Q (((M.opt o).bnd g) h)) : ∃ a, o = some a ∧ Fin K mg E rel al h H Q (g a h) := by
  cases o with
  | none => exact f.elim
  | some a => exact ⟨a, rfl, f⟩
theorem Fin.ret {r : α} (f : Fin K mg E rel al h H Q (M.ret r h)) (rh : RH K al h H) {v : β} (rr : rel al (UU al h) H r v) : Q v H :=
  f al H v (Stp.refl al h H) rh rr

theorem RH.noU (x : RH K al h H) : NoU (UU al h) H := fun a u => by
  obtain ⟨o, e⟩ := x.u_there u
  rw [e]
  exact fun z => nomatch z

def datC (h : Hs) : Option Cell → Out D
  | some (.lst xs) => .ok (.list xs) h
  | some (.fz xs) => .ok (.list xs) h
  | _ => .bad
theorem dat_ref (n : Nat) (h : Hs) : dat (.ref n) h = datC h h[n]? := rfl
theorem dat_d (x : D) (h : Hs) : dat (.d x) h = .ok x h := rfl
theorem dat_ok {r : R} {d : D} {v : V} (rh : RH K al h H) (rr : RR K al (UU al h) H r v) (e : dat r h = .ok d h1) : h1 = h ∧ RT K (UU al h) H d v := by
  cases r with
  | d x =>
    rw [dat_d] at e
    injection e with e1 e2
    subst e1 e2
    exact ⟨rfl, .rd rr⟩
  | ref n =>
    obtain ⟨a, ea, rfl⟩ := rr
    rw [dat_ref] at e
    cases q : h[n]? with
    | none => rw [q] at e; cases e
    | some c =>
      rw [q] at e
      have rc := rh.at_ n c a q ea
      cases c with
      | lst xs =>
        injection e with e1 e2
        subst e1 e2
        obtain ⟨vs, eh, rs⟩ := rc
        exact ⟨rfl, .lst (.inl eh) rs⟩
      | fz xs =>
        injection e with e1 e2
        subst e1 e2
        obtain ⟨vs, eh, rs⟩ := rc
        exact ⟨rfl, .lst (.inl eh) rs⟩
      | dct t kvs => cases e
theorem dat_noex {r : R} {e : Ex} : dat r h ≠ .ex e h1 := by
  intro z
  cases r with
  | d x => rw [dat_d] at z; cases z
  | ref n =>
    rw [dat_ref] at z
    unfold datC at z
    split at z <;> cases z
theorem Fin.dat {r : R} {g : D → M α} {v : V} (f : Fin K mg E rel al h H Q (((dat r).bnd g) h)) (rh : RH K al h H) (rr : RR K al (UU al h) H r v) : ∃ d, RT K (UU al h) H d v ∧ Fin K mg E rel al h H Q (g d h) := by
  unfold M.bnd at f
  cases e : Cy.dat r h with
  | ok d h1 =>
    obtain ⟨rfl, rt⟩ := dat_ok rh rr e
    rw [e] at f
    exact ⟨d, rt, f⟩
  | ex x h1 => exact absurd e dat_noex
  | bad => rw [e] at f; exact f.elim
theorem Fin.pur {r : R} {g : D → M α} {v : V} (f : Fin K mg E rel al h H Q (((pur r).bnd g) h)) (rr : RR K al (UU al h) H r v) : ∃ d, r = .d d ∧ RD K (UU al h) H d v ∧ Fin K mg E rel al h H Q (g d h) := by
  cases r with
  | d x => exact ⟨x, rfl, rr, f⟩
  | ref n => exact f.elim
theorem Fin.boolOf {m : M R} {g : Bool → M α} {Q1 : V → Hp → Prop} (f : Fin K mg E rel al h H Q (((m.bnd Cy.boolOf).bnd g) h))
    (k : ∀ b h1 al1 H1, Stp al h H al1 h1 H1 → RH K al1 h1 H1 → Fin K mg E rel al1 h1 H1 Q (g b h1) → Q1 (.bl b) H1) : Fin K mg E (RR K) al h H Q1 (m h) := by
  unfold M.bnd at f
  cases e : m h with
  | ok r h1 =>
    rw [e] at f
    intro al1 H1 v st rh rr
    cases r with
    | ref n => exact f.elim
    | d x =>
      cases x with
      | bool b =>
        cases rr
        exact k b h1 al1 H1 st rh (Fin.shift f st)
      | _ => exact f.elim
  | ex x h1 => rw [e] at f; exact f
  | bad => rw [e] at f; exact f.elim
end

theorem uu_same {al : List Addr} {h : Hs} {H H' : Hp} : Keep (UU al h) H (UU al h) H' ↔ ∀ a o, ¬ UU al h a → H a = some o → H' a = some o :=
  ⟨fun k => k.fr, fun k => ⟨k, fun _ u => .inl u⟩⟩

section
variable {K : Fg} {mg : Str → Option Value} {E : XK} {al : List Addr} {h : Hs} {H : Hp} {Q : VK}
/-- a new cell -/
theorem new_cell {p : Addr} {c : Cell} {o : HO} (rh : RH K al h H) (np : H p = none) (hm : c.mut = true) (rc : RC K (al ++ [p]) (UU (al ++ [p]) (h ++ [c])) (upd H p o) c p) :
    Stp al h H (al ++ [p]) (h ++ [c]) (upd H p o) ∧ RH K (al ++ [p]) (h ++ [c]) (upd H p o) := by
  have hlen : al.length = h.length := rh.len
  have hu : ∀ a, UU (al ++ [p]) (h ++ [c]) a → UU al h a ∨ a = p := fun a ⟨n, c', e1, e2, e3⟩ => by
    rcases Nat.lt_or_ge n al.length with hn | hn
    · rw [List.getElem?_append_left hn] at e1
      rw [List.getElem?_append_left (by omega)] at e2
      exact .inl ⟨n, c', e1, e2, e3⟩
    · rw [List.getElem?_append_right hn] at e1
      by_cases hz : n - al.length = 0
      · rw [hz] at e1
        exact .inr (by simpa using e1.symm)
      · rw [List.getElem?_eq_none (by simp; omega)] at e1; cases e1
  have st : Stp al h H (al ++ [p]) (h ++ [c]) (upd H p o) := by
    refine ⟨⟨fun a u _ e => upd_grow np a u e, fun a u => ?_⟩, fun n a e => ?_⟩
    · rcases hu a u with z | z
      · exact .inl z
      · exact .inr (by rw [z]; exact np)
    · have hn : n < al.length := by
        rcases Nat.lt_or_ge n al.length with z | z
        · exact z
        · rw [List.getElem?_eq_none z] at e; cases e
      rw [List.getElem?_append_left hn]; exact e
  refine ⟨st, by simp [hlen], ?_, fun n c' a e1 e2 => ?_⟩
  · rw [List.nodup_append]
    refine ⟨rh.nd, by simp, fun a ha b hb => ?_⟩
    rw [List.mem_singleton] at hb
    subst hb
    rintro rfl
    obtain ⟨n, hn⟩ := List.getElem?_of_mem ha
    obtain ⟨u, e⟩ := rh.al_there hn
    rw [np] at e; cases e
  · rcases Nat.lt_or_ge n h.length with hn | hn
    · rw [List.getElem?_append_left hn] at e1
      rw [List.getElem?_append_left (by omega)] at e2
      have r := rh.at_ n c' a e1 e2
      obtain ⟨u, eu⟩ := r.there
      exact r.stp st (by rw [upd_grow np a u eu, eu])
    · rw [List.getElem?_append_right hn] at e1
      rw [List.getElem?_append_right (by omega)] at e2
      by_cases hz : n - h.length = 0
      · have hz2 : n - al.length = 0 := by omega
        rw [hz] at e1
        rw [hz2] at e2
        have ec : c' = c := by simpa using e1.symm
        have ea : a = p := by simpa using e2.symm
        subst ec ea
        exact rc
      · rw [List.getElem?_eq_none (by simp; omega)] at e1; cases e1
theorem Fin.lay {m : Bool} {re : Re} (f : Fin K mg E (RR K) al h H Q (lay m re h)) (rh : RH K al h H) : Pst K (UU al h) H Q re := by
  cases re with
  | v d =>
    unfold Cy.lay at f
    cases m with
    | true => exact f.elim
    | false => exact fun v H' g r => f al H' v (Stp.grow rh g) (rh.grow g) r
  | nl ds =>
    unfold Cy.lay at f
    by_cases hl : ds.length ≤ lim
    · simp only [if_pos hl] at f
      cases m with
      | true =>
        intro p xs np rs hz
        have k : Keep (UU al h) H (UU (al ++ [p]) (h ++ [.lst ds])) (upd H p (.lst xs)) := by
          refine ⟨fun a u _ e => upd_grow np a u e, fun a u => ?_⟩
          obtain ⟨n, c', e1, e2, e3⟩ := u
          rcases Nat.lt_or_ge n al.length with hn | hn
          · rw [List.getElem?_append_left hn] at e1
            rw [List.getElem?_append_left (by rw [← rh.len]; exact hn)] at e2
            exact .inl ⟨n, c', e1, e2, e3⟩
          · rw [List.getElem?_append_right hn] at e1
            by_cases hz : n - al.length = 0
            · rw [hz] at e1
              have : a = p := by simpa using e1.symm
              exact .inr (by rw [this]; exact np)
            · rw [List.getElem?_eq_none (by simp; omega)] at e1; cases e1
        obtain ⟨st, rh'⟩ := new_cell (c := .lst ds) (o := .lst xs) rh np rfl ⟨xs, upd_same, RDs.keep k rs⟩
        have hp : (al ++ [p])[h.length]? = some p := by rw [← rh.len]; simp
        exact f (al ++ [p]) _ (.ref p) st rh' ⟨p, hp, rfl⟩
      | false =>
        intro p xs np rs hz
        exact f al _ (.ref p) (Stp.grow rh (upd_grow np)) (rh.grow (upd_grow np)) (rd_new_lst rh.noU np rs)
    · simp only [if_neg hl] at f
      exact f.elim
end

section
variable {K : Fg} {al : List Addr} {h : Hs} {H : Hp}
/-- a cell that may be changed is changed -/
theorem set_cell {n : Nat} {a : Addr} {c c' : Cell} {o : HO} (rh : RH K al h H) (en : h[n]? = some c) (ea : al[n]? = some a) (hm : c.mut = true) (hm' : c'.mut = true)
    (rc : Stp al h H al (h.set n c') (upd H a o) → RC K al (UU al (h.set n c')) (upd H a o) c' a) : Stp al h H al (h.set n c') (upd H a o) ∧ RH K al (h.set n c') (upd H a o) := by
  have hn : n < h.length := by
    rcases Nat.lt_or_ge n h.length with z | z
    · exact z
    · rw [List.getElem?_eq_none z] at en; cases en
  have ua : UU al h a := ⟨n, c, ea, en, hm⟩
  have uu : ∀ b, UU al (h.set n c') b → UU al h b := fun b ⟨m, d, e1, e2, e3⟩ => by
    by_cases hmn : m = n
    · subst hmn
      rw [ea] at e1
      cases e1
      exact ua
    · rw [List.getElem?_set_ne (Ne.symm hmn)] at e2
      exact ⟨m, d, e1, e2, e3⟩
  have st : Stp al h H al (h.set n c') (upd H a o) := ⟨⟨fun b u nu e => by
    rw [upd_ne (fun z => nu (by rw [z]; exact ua))]; exact e, fun b u => .inl (uu b u)⟩, fun _ _ e => e⟩
  refine ⟨st, by rw [List.length_set]; exact rh.len, rh.nd, fun m d b e1 e2 => ?_⟩
  by_cases hmn : m = n
  · subst hmn
    rw [List.getElem?_set_self hn] at e1
    cases e1
    rw [ea] at e2
    cases e2
    exact rc st
  · rw [List.getElem?_set_ne (Ne.symm hmn)] at e1
    have r := rh.at_ m d b e1 e2
    refine r.stp st (upd_ne fun z => hmn ?_)
    subst z
    have hm1 : m < al.length := by
      rcases Nat.lt_or_ge m al.length with z | z
      · exact z
      · rw [List.getElem?_eq_none z] at e2; cases e2
    have hn1 : n < al.length := by rw [rh.len]; exact hn
    rw [List.getElem?_eq_getElem hm1] at e2
    rw [List.getElem?_eq_getElem hn1] at ea
    exact (List.getElem_inj (h₀ := hm1) (h₁ := hn1) rh.nd).mp ((Option.some.inj e2).trans (Option.some.inj ea).symm)
/-- a cell is data from now on -/
theorem fz_cell {n : Nat} {xs : List D} (rh : RH K al h H) (en : h[n]? = some (.lst xs)) : Stp al h H al (h.set n (.fz xs)) H ∧ RH K al (h.set n (.fz xs)) H := by
  have hn : n < h.length := by
    rcases Nat.lt_or_ge n h.length with z | z
    · exact z
    · rw [List.getElem?_eq_none z] at en; cases en
  have uu : ∀ b, UU al (h.set n (.fz xs)) b → UU al h b := fun b ⟨m, d, e1, e2, e3⟩ => by
    by_cases hmn : m = n
    · subst hmn
      rw [List.getElem?_set_self hn] at e2
      cases e2
      cases e3
    · rw [List.getElem?_set_ne (Ne.symm hmn)] at e2
      exact ⟨m, d, e1, e2, e3⟩
  have st : Stp al h H al (h.set n (.fz xs)) H := ⟨⟨fun b u nu e => e, fun b u => .inl (uu b u)⟩, fun _ _ e => e⟩
  refine ⟨st, by rw [List.length_set]; exact rh.len, rh.nd, fun m d b e1 e2 => ?_⟩
  by_cases hmn : m = n
  · subst hmn
    rw [List.getElem?_set_self hn] at e1
    cases e1
    have r := rh.at_ m _ b en e2
    obtain ⟨vs, e, q⟩ := r
    exact ⟨vs, e, RDs.keep st.k q⟩
  · rw [List.getElem?_set_ne (Ne.symm hmn)] at e1
    exact (rh.at_ m d b e1 e2).stp st rfl
end

/-! ### the readings -/
def tM (X : Cx) (W : WX) (m : Rho → M R) : TE := fun σ H Q => ∃ al h ρ, RH X.K al h H ∧ RS X.K al (UU al h) H ρ σ ∧ Fin X.K X.mg (fun cls dd H' => W cls dd σ H') (RR X.K) al h H Q (m ρ h)
def tMs (X : Cx) (W : WX) (m : Rho → M (List R)) : TA := fun σ H Q => ∃ al h ρ, RH X.K al h H ∧ RS X.K al (UU al h) H ρ σ ∧ Fin X.K X.mg (fun cls dd H' => W cls dd σ H') (RRs X.K) al h H Q (m ρ h)
def tMb (X : Cx) (W : WX) (m : Rho → M R) : TT := fun σ H Q => tM X W m σ H fun v H' => ∃ b, v = .bl b ∧ Q b H'

theorem PE.imp {X : Cx} {e : Expr} {t t' : TE} (p : PE X e t) (i : ∀ σ H Q, t' σ H Q → t σ H Q) : PE X e t' := ⟨fun pins s σ H Q I h => p.run pins s σ H Q I (i σ H Q h)⟩
theorem PT.imp {X : Cx} {e : Expr} {t t' : TT} (p : PT X e t) (i : ∀ σ H Q, t' σ H Q → t σ H Q) : PT X e t' := ⟨fun pins s σ H Q I h => p.run pins s σ H Q I (i σ H Q h)⟩
theorem PA.imp {X : Cx} {e : List Expr} {t t' : TA} (p : PA X e t) (i : ∀ σ H Q, t' σ H Q → t σ H Q) : PA X e t' := ⟨fun pos pins s σ H Q I h => p.run pos pins s σ H Q I (i σ H Q h)⟩

end Cy


set_option Elab.async false
set_option linter.all false
set_option maxRecDepth 100000
set_option maxHeartbeats 4000000
/-! L3b: the check that a mini-expression is what the row's syntax says. -/
namespace Cy
open PySem PySem.Spec PyProof.Rows L2

mutual
def beqD : D → D → Bool
  | .none, .none => true
  | .bool a, .bool b => a == b
  | .int a, .int b => decide (a = b)
  | .str a, .str b => decide (a = b)
  | .list a, .list b => beqDs a b
  | .tuple a, .tuple b => beqDs a b
  | .dict a, .dict b => beqDk a b
  | _, _ => false
def beqDs : List D → List D → Bool
  | [], [] => true
  | a :: r, b :: s => beqD a b && beqDs r s
  | _, _ => false
def beqDk : List (D × D) → List (D × D) → Bool
  | [], [] => true
  | (a, c) :: r, (b, d) :: s => beqD a b && beqD c d && beqDk r s
  | _, _ => false
end
mutual
theorem beqD_eq : ∀ {a b : D}, beqD a b = true → a = b
  | .none, .none, _ => rfl
  | .bool a, .bool b, h => by unfold beqD at h; rw [eq_of_beq h]
  | .int a, .int b, h => by unfold beqD at h; rw [of_decide_eq_true h]
  | .str a, .str b, h => by unfold beqD at h; rw [of_decide_eq_true h]
  | .list a, .list b, h => by unfold beqD at h; rw [beqDs_eq h]
  | .tuple a, .tuple b, h => by unfold beqD at h; rw [beqDs_eq h]
  | .dict a, .dict b, h => by unfold beqD at h; rw [beqDk_eq h]
  | .none, .bool _, h | .none, .int _, h | .none, .str _, h | .none, .list _, h | .none, .tuple _, h | .none, .dict _, h => by simp [beqD] at h
  | .bool _, .none, h | .bool _, .int _, h | .bool _, .str _, h | .bool _, .list _, h | .bool _, .tuple _, h | .bool _, .dict _, h => by simp [beqD] at h
  | .int _, .none, h | .int _, .bool _, h | .int _, .str _, h | .int _, .list _, h | .int _, .tuple _, h | .int _, .dict _, h => by simp [beqD] at h
  | .str _, .none, h | .str _, .bool _, h | .str _, .int _, h | .str _, .list _, h | .str _, .tuple _, h | .str _, .dict _, h => by simp [beqD] at h
  | .list _, .none, h | .list _, .bool _, h | .list _, .int _, h | .list _, .str _, h | .list _, .tuple _, h | .list _, .dict _, h => by simp [beqD] at h
  | .tuple _, .none, h | .tuple _, .bool _, h | .tuple _, .int _, h | .tuple _, .str _, h | .tuple _, .list _, h | .tuple _, .dict _, h => by simp [beqD] at h
  | .dict _, .none, h | .dict _, .bool _, h | .dict _, .int _, h | .dict _, .str _, h | .dict _, .list _, h | .dict _, .tuple _, h => by simp [beqD] at h
theorem beqDs_eq : ∀ {a b : List D}, beqDs a b = true → a = b
  | [], [], _ => rfl
  | a :: r, b :: s, h => by
    unfold beqDs at h
    rw [Bool.and_eq_true] at h
    rw [beqD_eq h.1, beqDs_eq h.2]
  | [], _ :: _, h => by simp [beqDs] at h
  | _ :: _, [], h => by simp [beqDs] at h
theorem beqDk_eq : ∀ {a b : List (D × D)}, beqDk a b = true → a = b
  | [], [], _ => rfl
  | (a, c) :: r, (b, d) :: s, h => by
    unfold beqDk at h
    rw [Bool.and_eq_true, Bool.and_eq_true] at h
    rw [beqD_eq h.1.1, beqD_eq h.1.2, beqDk_eq h.2]
  | [], _ :: _, h => by simp [beqDk] at h
  | _ :: _, [], h => by simp [beqDk] at h
end

/-- the names of a row: of functions, of constants -/
structure Tb where
  fnm : Nat → Option Str
  gnm : List (Nat × Str × D)
  dnm : List (Nat × Str × List (D × D))

/-! ### what is seen of the syntax -/
def notStar : Expr → Bool
  | .Starred .. => false
  | _ => true
def notSet : Expr → Bool
  | .Set .. => false
  | _ => true
def notSlice : Expr → Bool
  | .Slice .. => false
  | _ => true
/-- no call without arguments (super) -/
def notSuper : Expr → Bool
  | .Call (.Name ..) [] [] _ => false
  | _ => true
def visB (sc : Scope) (x : Str) : Bool :=
  match sc.names.lookup x with
  | some .local => true
  | some .cell => true
  | some .free => true
  | _ => false
def glB (sc : Scope) (x : Str) : Bool := decide (sc.names.lookup x = some .globalImplicit)
def okN (x : Str) : Bool := !(x == ("__debug__" : Str)) && !(x == ("__classdict__" : Str)) && !(decide (x = ("__name__" : Str)))

theorem visB_ok {sc : Scope} {x : Str} (h : visB sc x = true) : Vis sc x := by
  unfold visB at h
  split at h <;> first | (rename_i e; first | exact .inl e | exact .inr (.inl e) | exact .inr (.inr e)) | cases h
theorem okN_ok {x : Str} (h : okN x = true) : (x == ("__debug__" : Str)) = false ∧ (x == ("__classdict__" : Str)) = false ∧ x ≠ "__name__" := by
  unfold okN at h
  simp only [Bool.and_eq_true, Bool.not_eq_true', decide_eq_false_iff_not] at h
  exact ⟨h.1.1, h.1.2, h.2⟩

theorem star_cons {e : Expr} {es : List Expr} {env : Env} (h : notStar e = true) : starEach (e :: es) env = (false, eval e env) :: starEach es env := by
  cases e <;> first | rfl | cases h
theorem star_any {env : Env} {pos : Pos} : ∀ {es : List Expr}, es.all notStar = true → (backTo pos (starEach es env)).any (·.1) = false
  | [], _ => rfl
  | e :: es, h => by
    rw [List.all_cons, Bool.and_eq_true] at h
    rw [star_cons h.1]
    have ih := star_any (env := env) (pos := pos) h.2
    unfold backTo at ih ⊢
    rw [List.map_cons, List.any_cons, ih]
    rfl
theorem set_no {op : CmpOp} {e : Expr} (h : notSet e = true) : behindInMarks op e = false := by
  cases e <;> first | rfl | cases h
theorem ix_plain {e : Expr} (h : notSlice e = true) : PlainIx e := by
  intro o i
  cases e <;> first | rfl | cases h
theorem super_no {e : Expr} {f : Str} {env : Env} (h : notSuper e = true) : attributeBase e f env (eval e env) = eval e env := by
  unfold attributeBase
  split
  · cases h
  · rfl
theorem fold_no {e : Expr} {env : Env} (h : notSet e = true) : ∀ x, foldedSetIterable e env x = pure x := by
  intro x
  unfold foldedSetIterable
  cases e <;> first | rfl | cases h
theorem marks_no {o1 o2 : CmpOp} {b c : Expr} (h : notSet c = true) : lastMarks [o1, o2] [b, c] = false := by
  show behindInMarks o2 c = false
  exact set_no h
theorem marks_no3 {o1 o2 o3 : CmpOp} {b c d : Expr} (h : notSet d = true) : lastMarks [o1, o2, o3] [b, c, d] = false := by
  show behindInMarks o3 d = false
  exact set_no h
/-- a value in a test's place is looked at as a value -/
def plainT : Expr → Bool
  | .UnaryOp .Not _ _ => false
  | .BoolOp .. => false
  | .IfExp .. => false
  | .Compare .. => false
  | _ => true
theorem plainT_ok {e : Expr} {env : Env} (h : plainT e = true) : ∀ whole, isTrue e env whole = (do let v ← whole; standAt e.pos; holding [v] (truthy v)) := by
  intro whole
  cases e <;> first
    | rfl
    | cases h
    | (rename_i op _ _; cases op <;> first | rfl | cases h)

def litB : D → Const → Bool
  | .none, .none => true
  | .bool a, .bool b => a == b
  | .int a, .int b => decide (a = b)
  | .str a, .str b => decide (a = b)
  | _, _ => false
def bfN : Bf → Str
  | .len => "len"
  | .all => "all"
  | .any => "any"
  | .sum => "sum"
  | .tuple => "tuple"
  | .list => "list"
  | .min => "min"
  | .max => "max"
  | .abs => "abs"
  | .int => "int"
  | .str => "str"
  | .repr => "repr"
  | .sorted => "sorted"
  | .divmod => "divmod"
def tyN : Ty → Str
  | .int => "int"
  | .bool => "bool"
  | .str => "str"
  | .tuple => "tuple"
  | .list => "list"
  | .dict => "dict"
def mtN : Mt → Str
  | .join => "join"
  | .split => "split"
  | .count => "count"

/-- a target -/
def chkT (fnc : Str → Bool) (sc : Scope) (N : List Str) : Tg → Expr → Bool
  | .n i, .Name x _ => decide (N[i]? = some x) && (match sc.names.lookup x with
    | some .local => true
    | some .cell => fnc x
    | _ => false)
  | .t l, .Tuple es _ _ => go l es
  | _, _ => false
where go : List Tg → List Expr → Bool
  | [], [] => true
  | t :: l, e :: es => notStar e && chkT fnc sc N t e && go l es
  | _, _ => false
def tgS : Tg → List Nat
  | .n i => [i]
  | .t l => go l
where go : List Tg → List Nat
  | [] => []
  | t :: l => tgS t ++ go l
def fncOf (scope : Scope) (x : Str) : Bool := scope.names.lookup x == some .cell

def isTupT : Expr → Bool
  | .Tuple .. => true
  | _ => false
theorem isTupT_ok {e : Expr} (h : isTupT e = true) : ∃ a b c, e = .Tuple a b c := by
  cases e <;> first | exact ⟨_, _, _, rfl⟩ | cases h

def ownOf (N : List Str) (own : List Nat) : List (Str × Nat) := own.filterMap fun i => (N[i]?).map fun x => (x, i)

def isNil : E → Bool
  | .nil => true
  | _ => false
def isYes : E → Bool
  | .lit (.bool true) => true
  | _ => false

/-- how an expression is looked at: as a value, as a test, as what is walked (the target a tuple) -/
inductive Md where
  | v
  | t
  | i (tt : Bool)
mutual
def chkM (T : Tb) (sc : Scope) (N : List Str) : E → Md → Expr → Bool
  | .lit d => fun _ => fun
    | .Constant c _ _ => litB d c
    | _ => false
  | .v i => fun _ => fun
    | .Name x _ => decide (N[i]? = some x) && visB sc x && okN x
    | _ => false
  | .fz i => fun _ => fun
    | .Name x _ => decide (N[i]? = some x) && visB sc x && okN x
    | _ => false
  | .gl g d => fun _ => fun
    | .Name x _ => (T.gnm.any fun p => decide (p.1 = g) && decide (p.2.1 = x) && beqD p.2.2 d) && glB sc x && okN x
    | _ => false
  | .ing neg a g kvs => fun _ => fun
    | .Compare pa [op] [.Name x _] _ => decide (op = if neg then CmpOp.NotIn else CmpOp.In) && (T.dnm.any fun p => decide (p.1 = g) && decide (p.2.1 = x) && beqDk p.2.2 kvs) && glB sc x && okN x && chkM T sc N a .v pa
    | _ => false
  | .ixg g kvs a => fun _ => fun
    | .Subscript (.Name x _) pa _ => (T.dnm.any fun p => decide (p.1 = g) && decide (p.2.1 = x) && beqDk p.2.2 kvs) && glB sc x && okN x && notSlice pa && chkM T sc N a .v pa
    | _ => false
  | .tup es => fun _ => fun
    | .Tuple pes _ _ => chks T sc N es pes
    | _ => false
  | .lst _ es => fun _ => fun
    | .List pes _ => chks T sc N es pes
    | _ => false
  | .dnew _ => fun _ => fun
    | .Dict [] [] _ => true
    | _ => false
  | .bin _ op a b => fun _ => fun
    | .BinOp pa pop pb _ => decide (op = pop) && chkM T sc N a .v pa && chkM T sc N b .v pb
    | _ => false
  | .neg a => fun _ => fun
    | .UnaryOp .USub pa _ => chkM T sc N a .v pa
    | _ => false
  | .cmp op a b => fun _ => fun
    | .Compare pa [pop] [pb] _ => decide (op = pop) && notSet pb && chkM T sc N a .v pa && chkM T sc N b .v pb
    | _ => false
  | .chn o1 o2 a b c => fun _ => fun
    | .Compare pa [p1, p2] [pb, pc] _ => decide (o1 = p1) && decide (o2 = p2) && notSet pc && chkM T sc N a .v pa && chkM T sc N b .v pb && chkM T sc N c .v pc
    | _ => false
  | .chn3 o1 o2 o3 a b c d => fun
    | .t => fun _ => false
    | _ => fun
      | .Compare pa [p1, p2, p3] [pb, pc, pd] _ => decide (o1 = p1) && decide (o2 = p2) && decide (o3 = p3) && notSet pd && chkM T sc N a .v pa && chkM T sc N b .v pb && chkM T sc N c .v pc && chkM T sc N d .v pd
      | _ => false
  | .and a b => fun
    | .t => fun
      | .BoolOp .And (pa :: pb :: rest) pos => chkM T sc N a .t pa && (match rest with
        | [] => chkM T sc N b .t pb
        | r :: rs => chkM T sc N b .t (.BoolOp .And (pb :: r :: rs) pos))
      | _ => false
    | _ => fun
      | .BoolOp .And (pa :: pb :: rest) pos => chkM T sc N a .v pa && (match rest with
        | [] => chkM T sc N b .v pb
        | r :: rs => chkM T sc N b .v (.BoolOp .And (pb :: r :: rs) pos))
      | _ => false
  | .or a b => fun
    | .t => fun
      | .BoolOp .Or (pa :: pb :: rest) pos => chkM T sc N a .t pa && (match rest with
        | [] => chkM T sc N b .t pb
        | r :: rs => chkM T sc N b .t (.BoolOp .Or (pb :: r :: rs) pos))
      | _ => false
    | _ => fun
      | .BoolOp .Or (pa :: pb :: rest) pos => chkM T sc N a .v pa && (match rest with
        | [] => chkM T sc N b .v pb
        | r :: rs => chkM T sc N b .v (.BoolOp .Or (pb :: r :: rs) pos))
      | _ => false
  | .not a => fun
    | .t => fun
      | .UnaryOp .Not pa _ => chkM T sc N a .t pa
      | _ => false
    | _ => fun
      | .UnaryOp .Not pa _ => chkM T sc N a .v pa
      | _ => false
  | .ite c a b => fun
    | .t => fun _ => false
    | _ => fun
      | .IfExp pc pa pb _ => chkM T sc N c .t pc && chkM T sc N a .v pa && chkM T sc N b .v pb
      | _ => false
  | .ix a i => fun _ => fun
    | .Subscript pa pi _ => notSlice pi && chkM T sc N a .v pa && chkM T sc N i .v pi
    | _ => false
  | .sl _ a lo hi => fun _ => fun
    | .Subscript pa (.Slice pl ph none _) _ => chkM T sc N a .v pa && (match pl with
        | none => isNil lo
        | some p => !(isNil lo) && chkM T sc N lo .v p) && (match ph with
        | none => isNil hi
        | some p => !(isNil hi) && chkM T sc N hi .v p)
    | _ => false
  | .nil => fun _ _ => false
  | .isi t a => fun _ => fun
    | .Call (.Name f _) [pa, .Name c _] [] _ => decide (f = ("isinstance" : Str)) && glB sc f && decide (c = tyN t) && glB sc c && notStar pa && chkM T sc N a .v pa
    | _ => false
  | .bif _ f es => fun _ => fun
    | .Call (.Name x _) (pe :: pes) [] _ => decide (x = bfN f) && glB sc x && chks T sc N es (pe :: pes)
    | _ => false
  | .mth _ f o es => fun _ => fun
    | .Call (.Attribute po nm apos) [pe] [] pos => decide (nm = mtN f) && notSuper po && (apos.endLine == pos.line) && chkM T sc N o .v po && chks T sc N es [pe]
    | _ => false
  | .app o e => fun _ => fun
    | .Call (.Attribute po nm apos) [pe] [] pos => decide (nm = ("append" : Str)) && notSuper po && (apos.endLine == pos.line) && notStar pe && chkM T sc N o .v po && chkM T sc N e .v pe
    | _ => false
  | .pop o i => fun _ => fun
    | .Call (.Attribute po nm apos) [pe] [] pos => decide (nm = ("pop" : Str)) && notSuper po && (apos.endLine == pos.line) && notStar pe && chkM T sc N o .v po && chkM T sc N i .v pe
    | _ => false
  | .popl o => fun _ => fun
    | .Call (.Attribute po nm apos) [] [] pos => decide (nm = ("pop" : Str)) && notSuper po && (apos.endLine == pos.line) && chkM T sc N o .v po
    | _ => false
  | .call f es => fun _ => fun
    | .Call (.Name x _) (pe :: pes) [] _ => decide (T.fnm f = some x) && glB sc x && okN x && chks T sc N es (pe :: pes)
    | _ => false
  | .rng es => fun
    | .i _ => fun
      | .Call (.Name f _) [pa] [] _ => decide (f = ("range" : Str)) && glB sc f && (es.length == 1) && chks T sc N es [pa]
      | .Call (.Name f _) [pa, pb] [] _ => decide (f = ("range" : Str)) && glB sc f && (es.length == 2) && chks T sc N es [pa, pb]
      | .Call (.Name f _) [pa, pb, pc] [] _ => decide (f = ("range" : Str)) && glB sc f && (es.length == 3) && chks T sc N es [pa, pb, pc]
      | _ => false
    | _ => fun _ => false
  | .enm e => fun
    | .i tt => fun
      | .Call (.Name f _) [pe] [] _ => tt && decide (f = ("enumerate" : Str)) && glB sc f && notStar pe && chkM T sc N e .v pe
      | _ => false
    | _ => fun _ => false
  | .zip a b => fun
    | .i tt => fun
      | .Call (.Name f _) [pa, pb] [] _ => tt && decide (f = ("zip" : Str)) && glB sc f && notStar pa && notStar pb && chkM T sc N a .v pa && chkM T sc N b .v pb
      | _ => false
    | _ => fun _ => false
  | .comp _ own elt tg it cond => fun _ => fun
    | .ListComp pelt [⟨ptg, pit, pifs, 0⟩] scope _ =>
      notSet pit && chkM T sc N it (.i (isTupT ptg)) pit && blkC N sc scope (ownOf N own) && decide ((ownOf N own).map (·.2) = own) && (tgS tg).all (own.contains ·) && chkT (fncOf scope) (relS scope sc) N tg ptg && chkM T (relS scope sc) N elt .v pelt && (match pifs with
        | [] => isYes cond
        | [pc] => chkM T (relS scope sc) N cond .t pc
        | _ => false)
    | _ => false
  | .comp2 _ own own1 elt tg it cond tg1 it1 cond1 => fun _ => fun
    | .ListComp pelt [⟨ptg, pit, pifs, 0⟩, ⟨ptg1, pit1, pifs1, 0⟩] scope _ =>
      notSet pit && notSet pit1 && chkM T sc N it (.i (isTupT ptg)) pit && blkC N sc scope (ownOf N own) && decide ((ownOf N own).map (·.2) = own) && (tgS tg).all (own.contains ·) && (own1.all (own.contains ·)) && (tgS tg1).all (own1.contains ·) &&
      chkT (fncOf scope) (relS scope sc) N tg ptg && chkT (fncOf scope) (relS scope sc) N tg1 ptg1 && chkM T (relS scope sc) N it1 (.i (isTupT ptg1)) pit1 && chkM T (relS scope sc) N elt .v pelt && (match pifs with
        | [] => isYes cond
        | [pc] => chkM T (relS scope sc) N cond .t pc
        | _ => false) && (match pifs1 with
        | [] => isYes cond1
        | [pc] => chkM T (relS scope sc) N cond1 .t pc
        | _ => false)
    | _ => false
def chks (T : Tb) (sc : Scope) (N : List Str) : List E → List Expr → Bool
  | [] => fun
    | [] => true
    | _ => false
  | e :: es => fun
    | p :: ps => notStar p && chkM T sc N e .v p && chks T sc N es ps
    | _ => false
end
abbrev chk (T : Tb) (sc : Scope) (N : List Str) (e : E) (p : Expr) : Bool := chkM T sc N e .v p
abbrev chkB (T : Tb) (sc : Scope) (N : List Str) (e : E) (p : Expr) : Bool := chkM T sc N e .t p
abbrev chkI (T : Tb) (sc : Scope) (N : List Str) (tt : Bool) (e : E) (p : Expr) : Bool := chkM T sc N e (.i tt) p

/-- the statement's value is no comprehension on a line of its own -/
def notComp : Expr → Bool
  | .ListComp .. => false
  | .SetComp .. => false
  | .DictComp .. => false
  | _ => true
theorem swaps_no {e : Expr} {t : Option Expr} {l : Nat} {env : Env} (h : notComp e = true) : swapsWith e t l env = pure false := by
  unfold swapsWith
  cases e <;> first | rfl | cases h

end Cy


set_option Elab.async false
set_option linter.all false
set_option maxRecDepth 100000
set_option maxHeartbeats 4000000
/-! L3c: what a def promises by the mini-language; the rules for expressions, one by one. -/
namespace Cy
open PySem PySem.Spec PyProof.Rows L2

/-- the promise of function f: its arguments are the cells and data rs, and it ends as cal says -/
def spM (K : Fg) (mg : Str → Option Value) (cal : Cal) (f : Nat) : Sp := fun vs H Q E =>
  ∃ al h rs, RH K al h H ∧ RRs K al (UU al h) H rs vs ∧ Fin K mg E (RR K) al h H Q (cal f rs h)

/-- a def at f keeps its promise wherever no guard of repr stands around -/
structure FnG (P : Program) (w : World) (K : Fg) (mg : Str → Option Value) (base : Heap) (k : Nat) (f : Addr) (fd : FuncData) (ps : List Str) (sp : Sp) : Prop where
  len : ∀ vs H Q E, sp vs H Q E → vs.length = ps.length
  run : ∀ (A : Around) (outer : List Env) (s : Shared) (H : Hp) (args : Args) (us : List Value) (vs : List V) (Q : VK) (E : XK), Room k A → A.guards = some [] → Env0 P w K mg base A outer s H →
    BindsTo s fd args (ps.zip us) → Vals vs us → sp vs H Q E → codeAny (model P w) A (.call (.ref f) args) (CR (L2.CX P w) outer P w H s Q E) s

def CallOk (T : Tb) (cal : Cal) (k : Nat) (P : Program) (w : World) (K : Fg) (mg : Str → Option Value) (base : Heap) : Prop :=
  ∀ f x, T.fnm f = some x → ∃ (a : Addr) (fd : FuncData) (ps : List Str), mg x = some (.ref a) ∧ PySem.W.keepIn K (.ref a) = true ∧ Binds K fd ps [] ∧ FnG P w K mg base k a fd ps (spM K mg cal f)

/-- a module's constant -/
def GlobOk (T : Tb) (K : Fg) (mg : Str → Option Value) : Prop :=
  ∀ p ∈ T.gnm, ∃ u v, mg p.2.1 = some u ∧ RelV v u ∧ ∀ U H, RD K U H p.2.2 v

/-- a written dict of the module, its keys texts -/
def DictOk (T : Tb) (K : Fg) (w : World) (mg : Str → Option Value) : Prop :=
  ∀ p ∈ T.dnm, ∃ (d : Addr) (es : Array DictEntry) (n : Nat), mg p.2.1 = some (.ref d) ∧ KDict K w d es n ∧ ∀ z, match findK z p.2.2 with
    | none => PySem.W.nsIn K d z = some none
    | some y => ∃ u v, PySem.W.nsIn K d z = some (some u) ∧ RelV v u ∧ ∀ U H, RD K U H y v

def bltN : List Str := ["len", "all", "any", "sum", "tuple", "list", "min", "max", "abs", "int", "str", "repr", "sorted", "divmod", "isinstance", "range", "enumerate", "zip", "bool", "dict"]

structure Gx (T : Tb) (cal : Cal) (k : Nat) (X : Cx) (sc : Scope) (N : List Str) : Prop where
  nN : X.N = N
  nd : N.Nodup
  sc : X.env.scope = sc
  calm : X.calm = true
  room : Room k X.A
  gd : X.A.guards = some []
  calls : CallOk T cal k X.prog X.w X.K X.mg X.base
  globs : GlobOk T X.K X.mg
  dicts : DictOk T X.K X.w X.mg
  blt : ∀ x ∈ bltN, X.mg x = none

section
variable {T : Tb} {cal : Cal} {k : Nat} {X : Cx} {sc : Scope} {N : List Str} {W : WX}

theorem Gx.u80 (g : Gx T cal k X sc N) : X.A.units + 80 < cLine := by have := g.room.un; omega
theorem Gx.u65 (g : Gx T cal k X sc N) : X.A.units + 65 < cLine := by have := g.room.un; omega
theorem Gx.gl (g : Gx T cal k X sc N) {x : Str} (h : glB sc x = true) : Gl X x := by
  show X.env.scope.names.lookup x = some .globalImplicit
  rw [g.sc]
  exact of_decide_eq_true h
theorem Gx.vis (g : Gx T cal k X sc N) {x : Str} (h : visB sc x = true) : Vis X.env.scope x := by
  rw [g.sc]; exact visB_ok h
theorem Gx.at_ (g : Gx T cal k X sc N) {i : Nat} {x : Str} (h : N[i]? = some x) : X.N[i]? = some x := by rw [g.nN]; exact h

theorem Paired.get {α β : Type} {F : α → β → Prop} : ∀ {as : List α} {bs : List β} {i : Nat} {a : α}, Paired F as bs → as[i]? = some a → ∃ b, bs[i]? = some b ∧ F a b
  | _, _, _, _, .nil, e => by simp at e
  | _, _, 0, _, .cons r _, e => by simp at e; subst e; exact ⟨_, rfl, r⟩
  | _, _, i + 1, _, .cons _ t, e => by
    obtain ⟨v, h1, h2⟩ := Paired.get (i := i) t (by simpa using e)
    exact ⟨v, by simpa using h1, h2⟩

/-! ### constants, names -/
theorem lit_ok {d : D} {c : Const} {j : Nat} {pos : Pos} (h : litB d c = true) : PE X (.Constant c j pos) (tM X W (ev cal (.lit d))) := by
  have go : ∀ (v : V), (∀ U H, RD X.K U H d v) → PE X (.Constant c j pos) (tC v) → PE X (.Constant c j pos) (tM X W (ev cal (.lit d))) := fun v r p =>
    PE.imp p fun σ H Q ⟨al, hh, ρ, rh, rs, fin⟩ => Fin.ret (α := R) (r := .d d) fin rh (r _ _)
  unfold litB at h
  split at h
  · exact go _ (fun _ _ => .non) pe_non
  · cases eq_of_beq h
    exact go _ (fun _ _ => .bl _) pe_bl
  · cases of_decide_eq_true h
    exact go _ (fun _ _ => .int _) pe_int
  · cases of_decide_eq_true h
    exact go _ (fun _ _ => .str _) pe_str
  · cases h
theorem join_some {α : Type} {o : Option (Option α)} {a : α} (h : o.join = some a) : o = some (some a) := by
  cases o with
  | none => cases h
  | some b => cases b with
    | none => cases h
    | some c => cases h; rfl
theorem v_ok (g : Gx T cal k X sc N) {i : Nat} {x : Str} {pos : Pos} (h1 : N[i]? = some x) (h2 : visB sc x = true) (h3 : okN x = true) : PE X (.Name x pos) (tM X W (ev cal (.v i))) := by
  obtain ⟨n1, n2, n3⟩ := okN_ok h3
  refine PE.imp (pe_var (g.at_ h1) (g.vis h2) n1 n2) fun σ H Q ⟨al, hh, ρ, rh, rs, fin⟩ => ?_
  unfold ev at fin
  cases e : (ρ[i]?).join with
  | none => rw [e] at fin; exact fin.elim
  | some r =>
    rw [e] at fin
    obtain ⟨v, ev', rr⟩ := rs.2 i r (join_some e)
    exact ⟨v, ev', fin al H v (Stp.refl al hh H) rh rr⟩
theorem al_inj {K : Fg} {al : List Addr} {h : Hs} {H : Hp} (rh : RH K al h H) {m n : Nat} {a : Addr} (e1 : al[m]? = some a) (e2 : al[n]? = some a) : m = n := by
  have h1 : m < al.length := by
    rcases Nat.lt_or_ge m al.length with z | z
    · exact z
    · rw [List.getElem?_eq_none z] at e1; cases e1
  have h2 : n < al.length := by
    rcases Nat.lt_or_ge n al.length with z | z
    · exact z
    · rw [List.getElem?_eq_none z] at e2; cases e2
  rw [List.getElem?_eq_getElem h1] at e1
  rw [List.getElem?_eq_getElem h2] at e2
  exact (List.getElem_inj (h₀ := h1) (h₁ := h2) rh.nd).mp ((Option.some.inj e1).trans (Option.some.inj e2).symm)
theorem fz_ok (g : Gx T cal k X sc N) {i : Nat} {x : Str} {pos : Pos} (h1 : N[i]? = some x) (h2 : visB sc x = true) (h3 : okN x = true) : PE X (.Name x pos) (tM X W (ev cal (.fz i))) := by
  obtain ⟨n1, n2, n3⟩ := okN_ok h3
  refine PE.imp (pe_var (g.at_ h1) (g.vis h2) n1 n2) fun σ H Q ⟨al, hh, ρ, rh, rs, fin⟩ => ?_
  unfold ev at fin
  obtain ⟨r, e, fin2⟩ := Fin.opt fin
  obtain ⟨v, ev', rr⟩ := rs.2 i r (join_some e)
  refine ⟨v, ev', ?_⟩
  cases r with
  | d y => exact fin2 al H v (Stp.refl al hh H) rh rr
  | ref n =>
    obtain ⟨a, ea, rfl⟩ := rr
    have fin3 : Fin X.K X.mg (fun cls dd H' => W cls dd σ H') (RR X.K) al hh H Q (fzC n hh hh[n]?) := fin2
    cases q : hh[n]? with
    | none => rw [q] at fin3; exact fin3.elim
    | some c =>
      rw [q] at fin3
      cases c with
      | dct t kvs => exact fin3.elim
      | fz xs =>
        obtain ⟨vs, eh, rds⟩ := rh.at_ n _ a q ea
        have nu : ¬ UU al hh a := fun ⟨m, c, e1, e2, e3⟩ => by
          cases al_inj rh e1 ea
          rw [q] at e2
          cases e2
          cases e3
        exact fin3 al H _ (Stp.refl al hh H) rh (.lst nu (.inl eh) rds)
      | lst xs =>
        obtain ⟨st, rh'⟩ := fz_cell rh q
        obtain ⟨vs, eh, rds⟩ := rh.at_ n _ a q ea
        have hn : n < hh.length := by
          rcases Nat.lt_or_ge n hh.length with z | z
          · exact z
          · rw [List.getElem?_eq_none z] at q; cases q
        have nu : ¬ UU al (hh.set n (.fz xs)) a := fun ⟨m, c, e1, e2, e3⟩ => by
          cases al_inj rh e1 ea
          rw [List.getElem?_set_self hn] at e2
          cases e2
          cases e3
        exact fin3 al H _ st rh' (.lst nu (.inl eh) (RDs.keep st.k rds))
theorem gl_ok (g : Gx T cal k X sc N) {n : Nat} {d : D} {x : Str} {pos : Pos} (h1 : (T.gnm.any fun p => decide (p.1 = n) && decide (p.2.1 = x) && beqD p.2.2 d) = true) (h2 : glB sc x = true) (h3 : okN x = true) :
    PE X (.Name x pos) (tM X W (ev cal (.gl n d))) := by
  obtain ⟨n1, n2, n3⟩ := okN_ok h3
  obtain ⟨p, hp, q⟩ := List.any_eq_true.mp h1
  simp only [Bool.and_eq_true, decide_eq_true_eq] at q
  obtain ⟨⟨q1, q2⟩, q3⟩ := q
  obtain ⟨u, v, hm, r, rd⟩ := g.globs p hp
  rw [q2] at hm
  rw [beqD_eq q3] at rd
  exact PE.imp (pe_glob (g.gl h2) hm r n1) fun σ H Q ⟨al, hh, ρ, rh, rs, fin⟩ => Fin.ret (α := R) (r := .d d) fin rh (rd _ _)

/-! ### displays -/
theorem purAll_ok {K : Fg} {al : List Addr} {U : Mu} {H : Hp} : ∀ {rs : List R} {ds : List D} {vs : List V}, RRs K al U H rs vs → purAll rs = some ds → RDs K U H ds vs
  | [], _, _, .nil, e => by cases e; exact .nil
  | .d x :: r, _, _, .cons a b, e => by
    unfold purAll at e
    cases q : purAll r with
    | none => rw [q] at e; cases e
    | some l =>
      rw [q] at e
      cases e
      exact .cons a (purAll_ok b q)
  | .ref _ :: _, _, _, _, e => by simp [purAll] at e
theorem tup_ok {es : List E} {pes : List Expr} {j : Nat} {pos : Pos} (pa : PA X pes (tMs X W (evs cal es))) : PE X (.Tuple pes j pos) (tM X W (ev cal (.tup es))) := by
  refine PE.imp (pe_tup pa) fun σ H Q ⟨al, hh, ρ, rh, rs, fin⟩ => ?_
  unfold ev at fin
  refine ⟨al, hh, ρ, rh, rs, Fin.bnd fin fun r h1 al1 H1 vs st rh1 rr fin1 => ?_⟩
  cases e : purAll r with
  | none => rw [e] at fin1; exact fin1.elim
  | some ds =>
    rw [e] at fin1
    have rds := purAll_ok rr e
    by_cases hl : ds.length ≤ lim
    · simp only [if_pos hl] at fin1
      rw [lim_eq] at hl
      exact ⟨by rw [← rds.length]; exact hl, fun p np => fin1 al1 _ (.ref p) (Stp.grow rh1 (upd_grow np)) (rh1.grow (upd_grow np)) (rd_new_tup rh1.noU np rds)⟩
    · simp only [if_neg hl] at fin1
      exact fin1.elim
theorem lst_ok {m : Bool} {es : List E} {pes : List Expr} {pos : Pos} (pa : PA X pes (tMs X W (evs cal es))) : PE X (.List pes pos) (tM X W (ev cal (.lst m es))) := by
  refine PE.imp (pe_lst pa) fun σ H Q ⟨al, hh, ρ, rh, rs, fin⟩ => ?_
  unfold ev at fin
  refine ⟨al, hh, ρ, rh, rs, Fin.bnd fin fun r h1 al1 H1 vs st rh1 rr fin1 => ?_⟩
  obtain ⟨ds, e, fin2⟩ := Fin.opt fin1
  have rds := purAll_ok rr e
  have hl : ds.length ≤ lim := by
    by_cases hl : ds.length ≤ lim
    · exact hl
    · unfold lay at fin2
      simp only [if_neg hl] at fin2
      exact fin2.elim
  rw [lim_eq] at hl
  have hl2 : vs.length ≤ sizeLine := by rw [← rds.length]; exact hl
  exact ⟨hl2, fun p np => Fin.lay fin2 rh1 p vs np rds hl2⟩

/-! ### operators -/
theorem bin_ok (g : Gx T cal k X sc N) {m : Bool} {op : Operator} {a b : E} {pa pb : Expr} {pos : Pos} (ha : PE X pa (tM X W (ev cal a))) (hb : PE X pb (tM X W (ev cal b))) : PE X (.BinOp pa op pb pos) (tM X W (ev cal (.bin m op a b))) := by
  refine PE.imp (pe_op (op_bin op) ha hb) fun σ H Q ⟨al, hh, ρ, rh, rs, fin⟩ => ?_
  unfold ev at fin
  refine ⟨al, hh, ρ, rh, rs, Fin.bnd fin fun r1 h1 al1 H1 v1 st1 rh1 rr1 fin1 => ⟨al1, h1, ρ, rh1, rs.stp st1, Fin.bnd fin1 fun r2 h2 al2 H2 v2 st2 rh2 rr2 fin2 => ?_⟩⟩
  obtain ⟨dx, hx, fin3⟩ := Fin.dat fin2 rh2 (rr1.stp st2)
  obtain ⟨dy, hy, fin4⟩ := Fin.dat fin3 rh2 rr2
  obtain ⟨re, e, fin5⟩ := Fin.opt fin4
  exact ⟨UU al2 h2, dx, dy, re, rh2.noU, hx, hy, e, Fin.lay fin5 rh2⟩
theorem neg_ok {a : E} {pa : Expr} {pos : Pos} (ha : PE X pa (tM X W (ev cal a))) : PE X (.UnaryOp .USub pa pos) (tM X W (ev cal (.neg a))) := by
  refine PE.imp (pe_un un_neg ha) fun σ H Q ⟨al, hh, ρ, rh, rs, fin⟩ => ?_
  unfold ev at fin
  refine ⟨al, hh, ρ, rh, rs, Fin.bnd fin fun r1 h1 al1 H1 v1 st1 rh1 rr1 fin1 => ?_⟩
  obtain ⟨d, rfl, rd, fin2⟩ := Fin.pur fin1 rr1
  cases d with
  | int i =>
    cases rd
    exact ⟨i, rfl, Fin.ret (α := R) (r := .d (.int (-i))) fin2 rh1 (.int _)⟩
  | _ => exact fin2.elim

theorem cmp_ok (g : Gx T cal k X sc N) {op : CmpOp} {a b : E} {pa pb : Expr} {pos : Pos} (hn : notSet pb = true) (ha : PE X pa (tM X W (ev cal a))) (hb : PE X pb (tM X W (ev cal b))) :
    PE X (.Compare pa [op] [pb] pos) (tM X W (ev cal (.cmp op a b))) ∧ PT X (.Compare pa [op] [pb] pos) (tMb X W (ev cal (.cmp op a b))) := by
  have go : ∀ σ H Q, tM X W (ev cal (.cmp op a b)) σ H Q → tOp (rC X.K op) (tM X W (ev cal a)) (tM X W (ev cal b)) σ H Q := fun σ H Q ⟨al, hh, ρ, rh, rs, fin⟩ => by
    unfold ev at fin
    refine ⟨al, hh, ρ, rh, rs, Fin.bnd fin fun r1 h1 al1 H1 v1 st1 rh1 rr1 fin1 => ⟨al1, h1, ρ, rh1, rs.stp st1, Fin.bnd fin1 fun r2 h2 al2 H2 v2 st2 rh2 rr2 fin2 => ?_⟩⟩
    obtain ⟨dx, hx, fin3⟩ := Fin.dat fin2 rh2 (rr1.stp st2)
    obtain ⟨dy, hy, fin4⟩ := Fin.dat fin3 rh2 rr2
    obtain ⟨c, e, fin5⟩ := Fin.opt fin4
    exact ⟨UU al2 h2, dx, dy, c, hx, hy, e, Fin.ret (α := R) (r := .d (.bool c)) fin5 rh2 (.bl c)⟩
  exact ⟨PE.imp (pe_cmpR (op_cmp g.u65 op) ha hb (set_no hn)) go, PT.imp (pt_cmpR (op_cmp g.u65 op) ha hb (set_no hn)) fun σ H Q h => go σ H _ h⟩
theorem chn_ok (g : Gx T cal k X sc N) {o1 o2 : CmpOp} {a b c : E} {pa pb pc : Expr} {pos : Pos} (hn : notSet pc = true) (ha : PE X pa (tM X W (ev cal a))) (hb : PE X pb (tM X W (ev cal b))) (hc : PE X pc (tM X W (ev cal c))) :
    PE X (.Compare pa [o1, o2] [pb, pc] pos) (tM X W (ev cal (.chn o1 o2 a b c))) ∧ PT X (.Compare pa [o1, o2] [pb, pc] pos) (tMb X W (ev cal (.chn o1 o2 a b c))) := by
  have go : ∀ σ H Q, tM X W (ev cal (.chn o1 o2 a b c)) σ H Q → tChain (rC X.K o1) (rC X.K o2) (tM X W (ev cal a)) (tM X W (ev cal b)) (tM X W (ev cal c)) σ H Q := fun σ H Q ⟨al, hh, ρ, rh, rs, fin⟩ => by
    unfold ev at fin
    refine ⟨al, hh, ρ, rh, rs, Fin.bnd fin fun r1 h1 al1 H1 v1 st1 rh1 rr1 fin1 => ⟨al1, h1, ρ, rh1, rs.stp st1, Fin.bnd fin1 fun r2 h2 al2 H2 v2 st2 rh2 rr2 fin2 => ?_⟩⟩
    obtain ⟨dx, hx, fin3⟩ := Fin.dat fin2 rh2 (rr1.stp st2)
    obtain ⟨dy, hy, fin4⟩ := Fin.dat fin3 rh2 rr2
    obtain ⟨c1, e, fin5⟩ := Fin.opt fin4
    refine ⟨UU al2 h2, dx, dy, c1, hx, hy, e, c1, rfl, ?_⟩
    cases c1 with
    | false => exact iteF (Fin.ret (α := R) (r := .d (.bool false)) fin5 rh2 (.bl false))
    | true =>
      refine iteT ⟨al2, h2, ρ, rh2, (rs.stp st1).stp st2, Fin.bnd fin5 fun r3 h3 al3 H3 v3 st3 rh3 rr3 fin6 => ?_⟩
      obtain ⟨dy', hy', fin7⟩ := Fin.dat fin6 rh3 (rr2.stp st3)
      obtain ⟨dz, hz, fin8⟩ := Fin.dat fin7 rh3 rr3
      obtain ⟨c2, e2, fin9⟩ := Fin.opt fin8
      exact ⟨UU al3 h3, dy', dz, c2, hy', hz, e2, Fin.ret (α := R) (r := .d (.bool c2)) fin9 rh3 (.bl c2)⟩
  exact ⟨PE.imp (pe_chain (op_cmp g.u65 o1) (op_cmp g.u65 o2) ha hb hc (marks_no hn)) go, PT.imp (pt_chain (op_cmp g.u65 o1) (op_cmp g.u65 o2) ha hb hc (marks_no hn)) fun σ H Q h => go σ H _ h⟩
/-- a op b op' c op'' d -/
def tChain3 (r r' r'' : R2) (ta tb tc td : TE) : TE := fun σ H Q => ta σ H fun x H1 => tb σ H1 fun y H2 => r x y H2 fun z H3 => ∃ k, z = .bl k ∧
  (if k = true then tc σ H3 fun w H4 => r' y w H4 fun z' H5 => ∃ k', z' = .bl k' ∧ (if k' = true then td σ H5 fun u H6 => r'' w u H6 Q else Q (.bl false) H5) else Q (.bl false) H3)
theorem pe_chain3 {o1 o2 o3 : CmpOp} {r r' r'' : R2} {a b c d : Expr} {ta tb tc td : TE} {pos : Pos} (h1 : OpR X (compareOp o1) r) (h2 : OpR X (compareOp o2) r') (h3 : OpR X (compareOp o3) r'') (ha : PE X a ta) (hb : PE X b tb) (hc : PE X c tc) (hd : PE X d td)
    (hm : lastMarks [o1, o2, o3] [b, c, d] = false) : PE X (.Compare a [o1, o2, o3] [b, c, d] pos) (tChain3 r r' r'' ta tb tc td) := by
  refine ⟨fun pins s σ H Q I h => ?_⟩
  refine Compare_chain (thn (ha.run pins s σ H _ I h) fun v s1 ⟨x, H1, I1, r1, q1⟩ => chain_link (thn (hb.run pins s1 σ H1 _ I1 q1) fun u s2 ⟨y, H2, I2, r2, q2⟩ => thn (h1 pins s2 σ H2 x y v u _ I2 r1 r2 q2) fun e3 s3 ⟨z, H3, I3, r3, k, ez, q3⟩ => ?_)) hm
  subst ez
  cases r3
  refine wpAny_truthy_bool ?_
  cases k with
  | false => exact ite_ff ⟨.bl false, H3, I3, rfl, q3⟩
  | true =>
    refine ite_tt (chain_link (thn (hc.run pins s3 σ H3 _ I3 q3) fun w s4 ⟨z4, H4, I4, r4, q4⟩ => thn (h2 pins s4 σ H4 y z4 u w _ I4 r2 r4 q4) fun e5 s5 ⟨z5, H5, I5, r5, k', ez', q5⟩ => ?_))
    subst ez'
    cases r5
    refine wpAny_truthy_bool ?_
    cases k' with
    | false => exact ite_ff ⟨.bl false, H5, I5, rfl, q5⟩
    | true => exact ite_tt (chain_last (thn (hd.run pins s5 σ H5 _ I5 q5) fun w6 s6 ⟨z6, H6, I6, r6, q6⟩ => h3 pins s6 σ H6 z4 z6 w w6 Q I6 r4 r6 q6))
theorem chn3_ok (g : Gx T cal k X sc N) {o1 o2 o3 : CmpOp} {a b c d : E} {pa pb pc pd : Expr} {pos : Pos} (hn : notSet pd = true) (ha : PE X pa (tM X W (ev cal a))) (hb : PE X pb (tM X W (ev cal b))) (hc : PE X pc (tM X W (ev cal c))) (hd : PE X pd (tM X W (ev cal d))) :
    PE X (.Compare pa [o1, o2, o3] [pb, pc, pd] pos) (tM X W (ev cal (.chn3 o1 o2 o3 a b c d))) := by
  refine PE.imp (pe_chain3 (op_cmp g.u65 o1) (op_cmp g.u65 o2) (op_cmp g.u65 o3) ha hb hc hd (marks_no3 hn)) fun σ H Q ⟨al, hh, ρ, rh, rs, fin⟩ => ?_
  unfold ev at fin
  refine ⟨al, hh, ρ, rh, rs, Fin.bnd fin fun r1 h1 al1 H1 v1 st1 rh1 rr1 fin1 => ⟨al1, h1, ρ, rh1, rs.stp st1, Fin.bnd fin1 fun r2 h2 al2 H2 v2 st2 rh2 rr2 fin2 => ?_⟩⟩
  obtain ⟨dx, _, hx, fin3⟩ := Fin.pur fin2 (rr1.stp st2)
  obtain ⟨dy, ey, hy, fin4⟩ := Fin.pur fin3 rr2
  obtain ⟨c1, e, fin5⟩ := Fin.opt fin4
  refine ⟨UU al2 h2, dx, dy, c1, .rd hx, .rd hy, e, c1, rfl, ?_⟩
  cases c1 with
  | false => exact iteF (Fin.ret (α := R) (r := .d (.bool false)) fin5 rh2 (.bl false))
  | true =>
    refine iteT ⟨al2, h2, ρ, rh2, (rs.stp st1).stp st2, Fin.bnd fin5 fun r3 h3 al3 H3 v3 st3 rh3 rr3 fin6 => ?_⟩
    obtain ⟨dz, ez, hz, fin7⟩ := Fin.pur fin6 rr3
    obtain ⟨c2, e2, fin8⟩ := Fin.opt fin7
    refine ⟨UU al3 h3, dy, dz, c2, .rd (hy.keep st3.k), .rd hz, e2, c2, rfl, ?_⟩
    cases c2 with
    | false => exact iteF (Fin.ret (α := R) (r := .d (.bool false)) fin8 rh3 (.bl false))
    | true =>
      refine iteT ⟨al3, h3, ρ, rh3, ((rs.stp st1).stp st2).stp st3, Fin.bnd fin8 fun r4 h4 al4 H4 v4 st4 rh4 rr4 fin9 => ?_⟩
      obtain ⟨dw, ew, hw, fin10⟩ := Fin.pur fin9 rr4
      obtain ⟨c3, e3, fin11⟩ := Fin.opt fin10
      exact ⟨UU al4 h4, dz, dw, c3, .rd (hz.keep st4.k), .rd hw, e3, Fin.ret (α := R) (r := .d (.bool c3)) fin11 rh4 (.bl c3)⟩

/-! ### and, or, not, if else -/
theorem and_ok {a b : E} {pa pb : Expr} {rest : List Expr} {pos : Pos} (ha : PE X pa (tM X W (ev cal a))) (hb : PE X (.BoolOp .And (pb :: rest) pos) (tM X W (ev cal b))) : PE X (.BoolOp .And (pa :: pb :: rest) pos) (tM X W (ev cal (.and a b))) := by
  refine PE.imp (pe_and ha hb) fun σ H Q ⟨al, hh, ρ, rh, rs, fin⟩ => ?_
  unfold ev at fin
  refine ⟨al, hh, ρ, rh, rs, Fin.boolOf fin fun b h1 al1 H1 st1 rh1 fin1 => ⟨b, rfl, ?_⟩⟩
  cases b with
  | false => exact iteF (Fin.ret (α := R) (r := .d (.bool false)) fin1 rh1 (.bl false))
  | true => exact iteT ⟨al1, h1, ρ, rh1, rs.stp st1, fin1⟩
theorem or_ok {a b : E} {pa pb : Expr} {rest : List Expr} {pos : Pos} (ha : PE X pa (tM X W (ev cal a))) (hb : PE X (.BoolOp .Or (pb :: rest) pos) (tM X W (ev cal b))) : PE X (.BoolOp .Or (pa :: pb :: rest) pos) (tM X W (ev cal (.or a b))) := by
  refine PE.imp (pe_or ha hb) fun σ H Q ⟨al, hh, ρ, rh, rs, fin⟩ => ?_
  unfold ev at fin
  refine ⟨al, hh, ρ, rh, rs, Fin.boolOf fin fun b h1 al1 H1 st1 rh1 fin1 => ⟨b, rfl, ?_⟩⟩
  cases b with
  | true => exact iteT (Fin.ret (α := R) (r := .d (.bool true)) fin1 rh1 (.bl true))
  | false => exact iteF ⟨al1, h1, ρ, rh1, rs.stp st1, fin1⟩
theorem not_ok {a : E} {pa : Expr} {pos : Pos} (ha : PE X pa (tM X W (ev cal a))) : PE X (.UnaryOp .Not pa pos) (tM X W (ev cal (.not a))) := by
  refine PE.imp (pe_not ha) fun σ H Q ⟨al, hh, ρ, rh, rs, fin⟩ => ?_
  unfold ev at fin
  exact ⟨al, hh, ρ, rh, rs, Fin.boolOf fin fun b h1 al1 H1 st1 rh1 fin1 => ⟨b, rfl, Fin.ret (α := R) (r := .d (.bool (!b))) fin1 rh1 (.bl _)⟩⟩
theorem ite_ok {c a b : E} {pc pa pb : Expr} {pos : Pos} (hc : PT X pc (tMb X W (ev cal c))) (ha : PE X pa (tM X W (ev cal a))) (hb : PE X pb (tM X W (ev cal b))) : PE X (.IfExp pc pa pb pos) (tM X W (ev cal (.ite c a b))) := by
  refine PE.imp (pe_ifExp hc ha hb) fun σ H Q ⟨al, hh, ρ, rh, rs, fin⟩ => ?_
  unfold ev at fin
  refine ⟨al, hh, ρ, rh, rs, Fin.boolOf fin fun b h1 al1 H1 st1 rh1 fin1 => ⟨b, rfl, ?_⟩⟩
  cases b with
  | true => exact iteT ⟨al1, h1, ρ, rh1, rs.stp st1, fin1⟩
  | false => exact iteF ⟨al1, h1, ρ, rh1, rs.stp st1, fin1⟩
theorem andT_ok {a b : E} {pa pb : Expr} {rest : List Expr} {pos : Pos} (ha : PT X pa (tMb X W (ev cal a))) (hb : PW X (.BoolOp .And (pb :: rest) pos) (tMb X W (ev cal b))) : PW X (.BoolOp .And (pa :: pb :: rest) pos) (tMb X W (ev cal (.and a b))) := by
  refine ⟨fun wh pins s σ H Q I h => (pw_and ha hb).run wh pins s σ H Q I ?_⟩
  obtain ⟨al, hh, ρ, rh, rs, fin⟩ := h
  unfold ev at fin
  refine ⟨al, hh, ρ, rh, rs, Fin.boolOf fin fun b h1 al1 H1 st1 rh1 fin1 => ⟨b, rfl, ?_⟩⟩
  cases b with
  | false =>
    obtain ⟨b, e, q⟩ := Fin.ret (α := R) (r := .d (.bool false)) fin1 rh1 (.bl false)
    cases e
    exact iteF q
  | true => exact iteT ⟨al1, h1, ρ, rh1, rs.stp st1, fin1⟩
theorem orT_ok {a b : E} {pa pb : Expr} {rest : List Expr} {pos : Pos} (ha : PT X pa (tMb X W (ev cal a))) (hb : PW X (.BoolOp .Or (pb :: rest) pos) (tMb X W (ev cal b))) : PW X (.BoolOp .Or (pa :: pb :: rest) pos) (tMb X W (ev cal (.or a b))) := by
  refine ⟨fun wh pins s σ H Q I h => (pw_or ha hb).run wh pins s σ H Q I ?_⟩
  obtain ⟨al, hh, ρ, rh, rs, fin⟩ := h
  unfold ev at fin
  refine ⟨al, hh, ρ, rh, rs, Fin.boolOf fin fun b h1 al1 H1 st1 rh1 fin1 => ⟨b, rfl, ?_⟩⟩
  cases b with
  | true =>
    obtain ⟨b, e, q⟩ := Fin.ret (α := R) (r := .d (.bool true)) fin1 rh1 (.bl true)
    cases e
    exact iteT q
  | false => exact iteF ⟨al1, h1, ρ, rh1, rs.stp st1, fin1⟩
theorem notT_ok {a : E} {pa : Expr} {pos : Pos} (ha : PT X pa (tMb X W (ev cal a))) : PT X (.UnaryOp .Not pa pos) (tMb X W (ev cal (.not a))) := by
  refine PT.imp (pt_not ha) fun σ H Q ⟨al, hh, ρ, rh, rs, fin⟩ => ?_
  unfold ev at fin
  refine ⟨al, hh, ρ, rh, rs, Fin.boolOf fin fun b h1 al1 H1 st1 rh1 fin1 => ⟨b, rfl, ?_⟩⟩
  obtain ⟨b', e, q⟩ := Fin.ret (α := R) (r := .d (.bool (!b))) fin1 rh1 (.bl _)
  cases e
  exact q
theorem valT_ok {a : E} {pa : Expr} (hp : plainT pa = true) (ha : PE X pa (tM X W (ev cal a))) : PT X pa (tMb X W (ev cal a)) :=
  PT.imp (pt_val ha (plainT_ok hp)) fun σ H Q h => h

/-! ### items, slices -/
theorem ixE_ok {a i : E} {pa pi : Expr} {pos : Pos} (hn : notSlice pi = true) (ha : PE X pa (tM X W (ev cal a))) (hi : PE X pi (tM X W (ev cal i))) : PE X (.Subscript pa pi pos) (tM X W (ev cal (.ix a i))) := by
  refine PE.imp (pe_ix ix_ok ha hi (ix_plain hn)) fun σ H Q ⟨al, hh, ρ, rh, rs, fin⟩ => ?_
  unfold ev at fin
  refine ⟨al, hh, ρ, rh, rs, Fin.bnd fin fun r1 h1 al1 H1 v1 st1 rh1 rr1 fin1 => ⟨al1, h1, ρ, rh1, rs.stp st1, Fin.bnd fin1 fun r2 h2 al2 H2 v2 st2 rh2 rr2 fin2 => ?_⟩⟩
  obtain ⟨dx, hx, fin3⟩ := Fin.dat fin2 rh2 (rr1.stp st2)
  obtain ⟨dy, _, hy, fin4⟩ := Fin.pur fin3 rr2
  obtain ⟨d, e, fin5⟩ := Fin.opt fin4
  exact ⟨UU al2 h2, dx, dy, d, hx, .rd hy, e, fun w r => Fin.ret (α := R) (r := .d d) fin5 rh2 r⟩

/-- a part of a slice: its data -/
def tP (X : Cx) (W : WX) (e : E) (cal : Cal) : TO := fun σ H Q => tM X W (ev cal e) σ H fun v H1 => ∃ o : Option Int, (v = match o with
    | none => V.non
    | some i => .int i) ∧ Q o H1
end
end Cy


set_option Elab.async false
set_option linter.all false
set_option maxRecDepth 100000
set_option maxHeartbeats 4000000
/-! L3d: slices, isinstance, built-in functions, methods, calls. -/
namespace Cy
open PySem PySem.Spec PyProof.Rows L2

section
variable {T : Tb} {cal : Cal} {k : Nat} {X : Cx} {sc : Scope} {N : List Str} {W : WX}

/-! ### slices -/
def part (cal : Cal) (lo : E) (ρ : Rho) : M (Option Int) :=
  match lo with
  | .nil => M.ret none
  | _ => (ev cal lo ρ).bnd intOf
def tPo (X : Cx) (W : WX) (cal : Cal) (lo : E) : Option Expr → TO
  | none => tNoPart
  | some _ => tPart (tM X W (ev cal lo))
/-- a part of a slice -/
def PartOk (X : Cx) (W : WX) (cal : Cal) (lo : E) : Option Expr → Prop
  | none => lo = .nil
  | some p => isNil lo = false ∧ PE X p (tM X W (ev cal lo))
theorem part_po {lo : E} {pl : Option Expr} (h : PartOk X W cal lo pl) : PO X pl (tPo X W cal lo pl) := by
  cases pl with
  | none => exact po_none
  | some p => exact po_some h.2
theorem part_rd {lo : E} {pl : Option Expr} (h : PartOk X W cal lo pl) {σ : Sg} {al : List Addr} {hh : Hs} {H : Hp} {ρ : Rho} {Q : VK} {Q1 : Option Int → Hp → Prop} {g : Option Int → M R} (rh : RH X.K al hh H) (rs : RS X.K al (UU al hh) H ρ σ)
    (fin : Fin X.K X.mg (fun cls dd H' => W cls dd σ H') (RR X.K) al hh H Q (((part cal lo ρ).bnd g) hh))
    (kk : ∀ o h1 al1 H1, Stp al hh H al1 h1 H1 → RH X.K al1 h1 H1 → Fin X.K X.mg (fun cls dd H' => W cls dd σ H') (RR X.K) al1 h1 H1 Q (g o h1) → Q1 o H1) : tPo X W cal lo pl σ H Q1 := by
  cases pl with
  | none =>
    have e : lo = .nil := h
    subst e
    exact kk none hh al H (Stp.refl _ _ _) rh fin
  | some p =>
    have e : part cal lo ρ = (ev cal lo ρ).bnd intOf := by
      unfold part
      cases lo <;> first | rfl | (have := h.1; cases this)
    rw [e] at fin
    refine ⟨al, hh, ρ, rh, rs, ?_⟩
    unfold M.bnd at fin
    cases q : ev cal lo ρ hh with
    | bad => rw [q] at fin; exact fin.elim
    | ex x h1 => rw [q] at fin; exact fin
    | ok r h1 =>
      rw [q] at fin
      intro al1 H1 v st rh1 rr
      cases r with
      | ref n => exact fin.elim
      | d x =>
        cases x with
        | int i =>
          cases rr
          exact ⟨i, rfl, kk (some i) h1 al1 H1 st rh1 (Fin.shift fin st)⟩
        | _ => exact fin.elim
theorem sl_ok' (g : Gx T cal k X sc N) {m : Bool} {a lo hi : E} {pa : Expr} {pl ph : Option Expr} {p2 pos : Pos} (ha : PE X pa (tM X W (ev cal a))) (hl : PartOk X W cal lo pl) (hh : PartOk X W cal hi ph) :
    PE X (.Subscript pa (.Slice pl ph none p2) pos) (tM X W (ev cal (.sl m a lo hi))) := by
  refine PE.imp (pe_slice sl_ok ha (part_po hl) (part_po hh)) fun σ H Q ⟨al, h0, ρ, rh, rs, fin⟩ => ?_
  unfold ev at fin
  refine ⟨al, h0, ρ, rh, rs, Fin.bnd fin fun r1 h1 al1 H1 v1 st1 rh1 rr1 fin1 => ?_⟩
  refine part_rd hl rh1 (rs.stp st1) (show Fin _ _ _ _ _ _ _ _ (((part cal lo ρ).bnd _) h1) from fin1) fun l h2 al2 H2 st2 rh2 fin2 => ?_
  refine part_rd hh rh2 ((rs.stp st1).stp st2) (show Fin _ _ _ _ _ _ _ _ (((part cal hi ρ).bnd _) h2) from fin2) fun u h3 al3 H3 st3 rh3 fin3 => ?_
  obtain ⟨dx, hx, fin4⟩ := Fin.dat fin3 rh3 ((rr1.stp st2).stp st3)
  obtain ⟨re, e, fin5⟩ := Fin.opt fin4
  exact ⟨UU al3 h3, dx, re, rh3.noU, hx, e, Fin.lay fin5 rh3⟩

/-! ### isinstance -/
def tyS : Ty → String
  | .int => "int"
  | .bool => "bool"
  | .str => "str"
  | .tuple => "tuple"
  | .list => "list"
  | .dict => "dict"
def daS : D → String
  | .none => "NoneType"
  | .bool _ => "bool"
  | .int _ => "int"
  | .str _ => "str"
  | .list _ => "list"
  | .tuple _ => "tuple"
  | .dict _ => "dict"
theorem kit_all (t : Ty) (d : D) : kitB (daS d) (tyS t) = some (isiD t d) := by
  cases t <;> cases d <;> simp only [daS, tyS, isiD] <;> decide +kernel
theorem tyx_of {K : Fg} {U : Mu} {H : Hp} {d : D} {v : V} (r : RT K U H d v) : TyX K H v (.type (daS d)) := by
  cases r with
  | rd r =>
    cases r with
    | non => exact .base .non
    | bl b => exact .base (.bl b)
    | int i => exact .base (.int i)
    | str x => exact .base (.str x)
    | lst n hr q =>
      rcases hr with hr | ⟨o, hr⟩
      · exact .base (.lst hr)
      · exact .base (.frz hr)
    | tup n hr q =>
      rcases hr with hr | ⟨o, hr⟩
      · exact .base (.tup hr)
      · exact .fTuple hr
    | tupK t q =>
      obtain ⟨o, its, n, h1, h2, _⟩ := t
      exact .kTuple h1 h2
  | lst hr q =>
    rcases hr with hr | ⟨o, hr⟩
    · exact .base (.lst hr)
    · exact .base (.frz hr)
theorem boot_ty (t : Ty) : bootBuiltins (tyN t) = some (.type (tyS t)) := by
  cases t <;> decide +kernel
theorem ty_blt (t : Ty) : tyN t ∈ bltN := by cases t <;> decide +kernel
theorem ty_n (t : Ty) : tyN t ≠ "__name__" ∧ ((tyN t) == ("__debug__" : Str)) = false := by cases t <;> exact ⟨by decide +kernel, by decide +kernel⟩
theorem boot_isi : bootBuiltins "isinstance" = some (.builtin "isinstance") := by decide +kernel
theorem isi_ok (g : Gx T cal k X sc N) {t : Ty} {a : E} {pa : Expr} {p1 p2 pos : Pos} (h1 : glB sc "isinstance" = true) (h2 : glB sc (tyN t) = true) (hs : notStar pa = true) (ha : PE X pa (tM X W (ev cal a))) :
    PE X (.Call (.Name "isinstance" p1) [pa, .Name (tyN t) p2] [] pos) (tM X W (ev cal (.isi t a))) := by
  have pt : PE X (.Name (tyN t) p2) (tC (.ty (tyS t))) := pe_bltn (g.gl h2) (g.blt _ (ty_blt t)) (boot_ty t) rfl (ty_n t).1 (ty_n t).2
  have pa2 : PA X [pa, .Name (tyN t) p2] (tCons (tM X W (ev cal a)) (tCons (tC (.ty (tyS t))) tNil)) := pa_cons ha (pa_cons pt pa_nil) (star_cons hs)
  refine PE.imp (pe_callB call_isi (g.gl h1) (g.blt _ (by decide +kernel)) boot_isi pa2 (by decide +kernel) (by decide +kernel) (star_cons hs)) fun σ H Q ⟨al, hh, ρ, rh, rs, fin⟩ => ?_
  unfold ev at fin
  refine ⟨al, hh, ρ, rh, rs, Fin.bnd fin fun r1 h1 al1 H1 v1 st1 rh1 rr1 fin1 => ?_⟩
  obtain ⟨d, hd, fin2⟩ := Fin.dat fin1 rh1 rr1
  exact ⟨v1, .ty (tyS t), .type (daS d), .type (tyS t), isiD t d, rfl, .ty _, tyx_of hd, kit_ty (kit_all t d), Fin.ret (α := R) (r := .d (.bool (isiD t d))) fin2 rh1 (.bl _)⟩

/-! ### built-in functions -/
theorem Fin.dats {K : Fg} {mg : Str → Option Value} {E : XK} {al : List Addr} {h : Hs} {H : Hp} {Q : VK} {g : List D → M R} (rh : RH K al h H) : ∀ {rs : List R} {vs : List V}, RRs K al (UU al h) H rs vs → ∀ {g : List D → M R}, Fin K mg E (RR K) al h H Q (((dats rs).bnd g) h) →
    ∃ ds, RTs K (UU al h) H ds vs ∧ Fin K mg E (RR K) al h H Q (g ds h)
  | [], _, .nil, g, f => ⟨[], .nil, f⟩
  | r :: rs, _, .cons a b, g, f => by
    unfold Cy.dats at f
    have e : (((Cy.dat r).bnd fun d => (Cy.dats rs).bnd fun ds => M.ret (d :: ds)).bnd g) h = ((Cy.dat r).bnd fun d => (Cy.dats rs).bnd fun ds => g (d :: ds)) h := by
      unfold M.bnd M.ret
      cases Cy.dat r h with
      | ok d h1 =>
        simp only
        cases Cy.dats rs h1 <;> rfl
      | ex _ _ => rfl
      | bad => rfl
    rw [e] at f
    obtain ⟨d, hd, f1⟩ := Fin.dat f rh a
    obtain ⟨ds, hds, f2⟩ := Fin.dats (g := g) rh b f1
    exact ⟨d :: ds, .cons hd hds, f2⟩

theorem bf_blt (f : Bf) : bfN f ∈ bltN := by cases f <;> decide +kernel
theorem bf_n (f : Bf) : bfN f ≠ "__name__" ∧ ((bfN f) == ("__debug__" : Str)) = false := by cases f <;> exact ⟨by decide +kernel, by decide +kernel⟩
theorem bf_boot (f : Bf) : bootBuiltins (bfN f) = some (bfV f) := by cases f <;> decide +kernel
theorem bfT (f : Bf) : (∃ id, bfV f = .builtin id) ∨ ∃ t, bfV f = .type t := by cases f <;> first | exact .inl ⟨_, rfl⟩ | exact .inr ⟨_, rfl⟩
theorem bif_ok (g : Gx T cal k X sc N) {m : Bool} {f : Bf} {es : List E} {pe : Expr} {pes : List Expr} {p pos : Pos} (h1 : glB sc (bfN f) = true) (hs : (pe :: pes).all notStar = true) (pa : PA X (pe :: pes) (tMs X W (evs cal es))) :
    PE X (.Call (.Name (bfN f) p) (pe :: pes) [] pos) (tM X W (ev cal (.bif m f es))) := by
  have hs2 := hs
  rw [List.all_cons, Bool.and_eq_true] at hs2
  have go : ∀ σ H Q, tM X W (ev cal (.bif m f es)) σ H Q → tCB (rF X.K f) (tMs X W (evs cal es)) σ H Q := fun σ H Q ⟨al, hh, ρ, rh, rs, fin⟩ => by
    unfold ev at fin
    refine ⟨al, hh, ρ, rh, rs, Fin.bnd fin fun r1 h1 al1 H1 v1 st1 rh1 rr1 fin1 => ?_⟩
    obtain ⟨ds, hd, fin2⟩ := Fin.dats (g := fun ds => (M.opt (bifD f ds)).bnd (lay m)) rh1 rr1 fin1
    obtain ⟨re, e, fin3⟩ := Fin.opt fin2
    exact ⟨UU al1 h1, ds, re, rh1.noU, hd, e, Fin.lay fin3 rh1⟩
  have c := call_bif (X := X) g.calm g.gd g.u80 f
  have b := bf_boot f
  rcases bfT f with ⟨id, e⟩ | ⟨t, e⟩
  · rw [e] at c b
    exact PE.imp (pe_callB c (g.gl h1) (g.blt _ (bf_blt f)) b pa (bf_n f).1 (bf_n f).2 (star_cons hs2.1) (star_any hs2.2)) go
  · rw [e] at c b
    exact PE.imp (pe_callTy c (g.gl h1) (g.blt _ (bf_blt f)) b pa (bf_n f).1 (bf_n f).2 (star_cons hs2.1) (star_any hs2.2)) go

/-! ### methods -/
def rM (K : Fg) (f : Mt) : V → List V → Hp → VK → Prop := fun x xs H Q => ∃ (U : Mu) (z : Str) (ds : List D) (re : Re), NoU U H ∧ x = .str z ∧ RTs K U H ds xs ∧ mtD f z ds = some re ∧ Pst K U H Q re
def mtI : Mt → String
  | .join => "str.join"
  | .split => "str.split"
  | .count => "str.count"
theorem mt_ok (f : Mt) : MtR X (mtI f) (rM X.K f) := by
  intro pins s σ H x xs v us Q I rx rxs ⟨U, z, ds, re, nu, ez, hxs, e, q⟩
  subst ez
  have same : ∀ d w, re = .v d → RD X.K U H d w → Q w H := fun d w er r => by
    subst er
    exact q w H (fun _ _ z => z) r
  unfold mtD at e
  split at e
  · rename_i xs
    cases hxs with | cons h1 hn => cases hn with | nil =>
    obtain ⟨p, vs, rfl, qa, ra⟩ := h1.sql
    cases n : allStrs xs with
    | none => rw [n] at e; cases e
    | some ys =>
      rw [n, Option.bind_some] at e
      split at e
      · rename_i hl
        cases e
        rw [ra.strs n] at qa
        exact mt_join pins s σ H _ _ v us Q I rx rxs ⟨_, p, ys, rfl, rfl, .inl (.inl qa), hl, same _ _ rfl (.str _)⟩
      · cases e
  · rename_i xs
    cases hxs with | cons h1 hn => cases hn with | nil =>
    obtain ⟨p, vs, rfl, qa, ra⟩ := h1.sqt
    cases n : allStrs xs with
    | none => rw [n] at e; cases e
    | some ys =>
      rw [n, Option.bind_some] at e
      split at e
      · rename_i hl
        cases e
        rw [ra.strs n] at qa
        exact mt_join pins s σ H _ _ v us Q I rx rxs ⟨_, p, ys, rfl, rfl, .inr qa, hl, same _ _ rfl (.str _)⟩
      · cases e
  · rename_i b
    split at e
    · rename_i hl
      cases e
      cases hxs with | cons h1 hn => cases hn with | nil =>
      cases h1.str
      have hb : (b.length == 0) = false := by
        have := hl.1
        simp [this]
      have ha : z.length + 2 ≤ sizeLine := by rw [← lim_eq]; exact hl.2
      refine mt_split pins s σ H _ _ v us Q I rx rxs ⟨z, b, rfl, rfl, hb, ha, fun p np => q p _ np (RDs.ofStrs _) ?_⟩
      have h2 := split_weight z b (by omega)
      simp only [List.length_map]
      omega
    · cases e
  · cases e
    cases hxs with | cons h1 hn => cases hn with | nil =>
    cases h1.str
    exact mt_count pins s σ H _ _ v us Q I rx rxs ⟨_, _, rfl, rfl, same _ _ rfl (.int _)⟩
  · cases e
theorem mth_ok (g : Gx T cal k X sc N) {m : Bool} {f : Mt} {o : E} {es : List E} {po pe : Expr} {apos pos : Pos} (hn : notSuper po = true) (hl : (apos.endLine == pos.line) = true) (hs : notStar pe = true) (he : ∃ e, es = [e] ∧ PE X pe (tM X W (ev cal e)))
    (ho : PE X po (tM X W (ev cal o))) : PE X (.Call (.Attribute po (mtN f) apos) [pe] [] pos) (tM X W (ev cal (.mth m f o es))) := by
  obtain ⟨e, rfl, he⟩ := he
  have hst : starEach [pe] X.env = [(false, eval pe X.env)] := star_cons hs
  have go : ∀ σ H Q, tM X W (ev cal (.mth m f o [e])) σ H Q → tM1 (rM X.K f) (tM X W (ev cal o)) (tM X W (ev cal e)) σ H Q := fun σ H Q ⟨al, hh, ρ, rh, rs, fin⟩ => by
    unfold ev at fin
    refine ⟨al, hh, ρ, rh, rs, Fin.bnd fin fun r1 h1 al1 H1 v1 st1 rh1 rr1 fin1 => ?_⟩
    cases r1 with
    | ref n => exact fin1.elim
    | d x =>
      cases x with
      | str z =>
        cases rr1
        refine ⟨⟨z, rfl⟩, al1, h1, ρ, rh1, rs.stp st1, ?_⟩
        have fin2 : Fin X.K X.mg (fun cls dd H' => W cls dd σ H') (RR X.K) al1 h1 H1 Q (((ev cal e ρ).bnd fun r => (M.ret [r]).bnd fun rs => (dats rs).bnd fun ds => (M.opt (mtD f z ds)).bnd (lay m)) h1) := by
          have q : ((evs cal [e] ρ).bnd fun rs => (dats rs).bnd fun ds => (M.opt (mtD f z ds)).bnd (lay m)) h1 = ((ev cal e ρ).bnd fun r => (M.ret [r]).bnd fun rs => (dats rs).bnd fun ds => (M.opt (mtD f z ds)).bnd (lay m)) h1 := by
            unfold evs evs M.bnd M.ret
            cases ev cal e ρ h1 <;> rfl
          rw [← q]
          exact fin1
        refine Fin.bnd fin2 fun r2 h2 al2 H2 v2 st2 rh2 rr2 fin3 => ?_
        obtain ⟨ds, hd, fin4⟩ := Fin.dats (g := fun ds => (M.opt (mtD f z ds)).bnd (lay m)) rh2 (.cons rr2 .nil) fin3
        obtain ⟨re, e2, fin5⟩ := Fin.opt fin4
        exact ⟨UU al2 h2, z, ds, re, rh2.noU, rfl, hd, e2, Fin.lay fin5 rh2⟩
      | _ => exact fin1.elim
  cases f with
  | join => exact PE.imp (pe_m1 F.slot_str_join F.type_str_join (mt_ok .join) ho he hst (super_no hn) hl) go
  | split => exact PE.imp (pe_m1 F.slot_str_split F.type_str_split (mt_ok .split) ho he hst (super_no hn) hl) go
  | count => exact PE.imp (pe_m1 F.slot_str_count F.type_str_count (mt_ok .count) ho he hst (super_no hn) hl) go

theorem few1 {pe : Expr} {env : Env} {pos : Pos} (hs : notStar pe = true) : ((backTo pos (starEach [pe] env)).all (fun x => !x.1) && (backToKw pos (keywordEach [] env)).all (fun x => x.1.isSome)
      && decide (([pe] : List Expr).length + ([] : List Keyword).length + (if ([] : List Keyword).isEmpty then 0 else 1) < 30)) = true := by
  rw [star_cons hs]
  rfl
theorem app_ok (g : Gx T cal k X sc N) {o e : E} {po pe : Expr} {apos pos : Pos} (hn : notSuper po = true) (hl : (apos.endLine == pos.line) = true) (hs : notStar pe = true) (he : PE X pe (tM X W (ev cal e)))
    (ho : PE X po (tM X W (ev cal o))) : PE X (.Call (.Attribute po "append" apos) [pe] [] pos) (tM X W (ev cal (.app o e))) := by
  have pa : PA X [pe] (tCons (tM X W (ev cal e)) tNil) := pa_cons he pa_nil (star_cons hs)
  refine PE.imp (pe_bm PySem.F.plainAttrs_list PySem.F.slot_list_append PySem.F.type_list_append mt_append ho pa (super_no hn) (few1 hs) hl (star_cons hs)) fun σ H Q ⟨al, hh, ρ, rh, rs, fin⟩ => ?_
  unfold ev at fin
  refine ⟨al, hh, ρ, rh, rs, Fin.bnd fin fun r1 h1 al1 H1 v1 st1 rh1 rr1 fin1 => ?_⟩
  cases r1 with
  | d x => exact fin1.elim
  | ref n =>
    obtain ⟨a, ea, rfl⟩ := rr1
    have e1 : ((lstOf (.ref n)).bnd fun _ => (ev cal e ρ).bnd fun y => (pur y).bnd fun d => appR (.ref n) d) h1 = (match lstC h1 h1[n]? with
      | .ok _ h2 => ((ev cal e ρ).bnd fun y => (pur y).bnd fun d => appR (.ref n) d) h2
      | .ex x h2 => .ex x h2
      | .bad => .bad) := by
      unfold M.bnd lstOf hget
      simp only
      cases lstC h1 h1[n]? <;> rfl
    rw [e1] at fin1
    cases q : h1[n]? with
    | none => rw [q] at fin1; exact fin1.elim
    | some c =>
      rw [q] at fin1
      cases c with
      | fz xs => exact fin1.elim
      | dct t kvs => exact fin1.elim
      | lst xs =>
        obtain ⟨vs, eh, rds⟩ := rh1.at_ n _ a q ea
        refine ⟨.inl ⟨rfl, vs, .inl (.inl eh)⟩, al1, h1, ρ, rh1, rs.stp st1, ?_⟩
        refine Fin.bnd (show Fin _ _ _ _ _ _ _ _ (((ev cal e ρ).bnd fun y => (pur y).bnd fun d => appR (.ref n) d) h1) from fin1) fun r2 h2 al2 H2 v2 st2 rh2 rr2 fin2 => ?_
        obtain ⟨d, rfl, rd, fin3⟩ := Fin.pur fin2 rr2
        have ea2 := st2.pre n a ea
        have fin4 : Fin X.K X.mg (fun cls dd H' => W cls dd σ H') (RR X.K) al2 h2 H2 Q (appC n d h2 h2[n]?) := fin3
        cases q2 : h2[n]? with
        | none => rw [q2] at fin4; exact fin4.elim
        | some c2 =>
          rw [q2] at fin4
          cases c2 with
          | fz _ => exact fin4.elim
          | dct _ _ => exact fin4.elim
          | lst xs2 =>
            obtain ⟨vs2, eh2, rds2⟩ := rh2.at_ n _ a q2 ea2
            unfold appC at fin4
            by_cases hz : xs2.length < lim
            · simp only [if_pos hz] at fin4
              rw [lim_eq, rds2.length] at hz
              obtain ⟨st3, rh3⟩ := set_cell (c' := .lst (xs2 ++ [d])) (o := .lst (vs2 ++ [v2])) rh2 q2 ea2 rfl rfl fun st => ⟨vs2 ++ [v2], upd_same, (RDs.append rds2 (.cons rd .nil)).keep st.k⟩
              exact ⟨a, vs2, v2, rfl, rfl, eh2, hz, fin4 al2 _ .non st3 rh3 .non⟩
            · simp only [if_neg hz] at fin4
              exact fin4.elim

/-! ### pop -/
theorem lst_at {E : XK} {al : List Addr} {h : Hs} {H : Hp} {Q : VK} {n : Nat} {a : Addr} {g : Unit → M R} (f : Fin X.K X.mg E (RR X.K) al h H Q (((lstOf (.ref n)).bnd g) h)) (rh : RH X.K al h H) (ea : al[n]? = some a) :
    ∃ xs vs, h[n]? = some (.lst xs) ∧ H a = some (.lst vs) ∧ RDs X.K (UU al h) H xs vs ∧ Fin X.K X.mg E (RR X.K) al h H Q (g () h) := by
  have e1 : ((lstOf (.ref n)).bnd g) h = (match lstC h h[n]? with
      | .ok x h2 => g x h2
      | .ex x h2 => .ex x h2
      | .bad => .bad) := by
    unfold M.bnd lstOf hget
    simp only
    cases lstC h h[n]? <;> rfl
  rw [e1] at f
  cases q : h[n]? with
  | none => rw [q] at f; exact f.elim
  | some c =>
    rw [q] at f
    cases c with
    | fz xs => exact f.elim
    | dct t kvs => exact f.elim
    | lst xs =>
      obtain ⟨vs, eh, rds⟩ := rh.at_ n _ a q ea
      exact ⟨xs, vs, rfl, eh, rds, f⟩
theorem RDs.erase {K : Fg} {U : Mu} {H : Hp} : ∀ {ds : List D} {vs : List V} (k : Nat), RDs K U H ds vs → RDs K U H (ds.eraseIdx k) (vs.eraseIdx k)
  | _, _, _, .nil => .nil
  | _, _, 0, .cons _ t => t
  | _, _, k + 1, .cons a t => .cons a (RDs.erase k t)
theorem RDs.dropLast {K : Fg} {U : Mu} {H : Hp} {ds : List D} {vs : List V} (r : RDs K U H ds vs) : RDs K U H ds.dropLast vs.dropLast := by
  rw [List.dropLast_eq_take, List.dropLast_eq_take, r.length]
  exact r.take _
theorem ixN_in {n : Nat} {k : Int} (h0 : 0 ≤ k) (h1 : k < n) : seqIndex? k n = some k.toNat :=
  (ixN_seq (show ixN n k = some k.toNat by unfold ixN; rw [if_pos h0, if_pos h1])).1
theorem pop_ok (g : Gx T cal k X sc N) {o e : E} {po pe : Expr} {apos pos : Pos} (hn : notSuper po = true) (hl : (apos.endLine == pos.line) = true) (hs : notStar pe = true) (he : PE X pe (tM X W (ev cal e)))
    (ho : PE X po (tM X W (ev cal o))) : PE X (.Call (.Attribute po "pop" apos) [pe] [] pos) (tM X W (ev cal (.pop o e))) := by
  have pa : PA X [pe] (tCons (tM X W (ev cal e)) tNil) := pa_cons he pa_nil (star_cons hs)
  refine PE.imp (pe_bm PySem.F.plainAttrs_list PySem.F.slot_list_pop PySem.F.type_list_pop mt_popAt ho pa (super_no hn) (few1 hs) hl (star_cons hs)) fun σ H Q ⟨al, hh, ρ, rh, rs, fin⟩ => ?_
  unfold ev at fin
  refine ⟨al, hh, ρ, rh, rs, Fin.bnd fin fun r1 h1 al1 H1 v1 st1 rh1 rr1 fin1 => ?_⟩
  cases r1 with
  | d x => exact fin1.elim
  | ref n =>
    obtain ⟨a, ea, rfl⟩ := rr1
    obtain ⟨xs, vs, q, eh, rds, fin1⟩ := lst_at fin1 rh1 ea
    refine ⟨.inl ⟨rfl, vs, .inl (.inl eh)⟩, al1, h1, ρ, rh1, rs.stp st1, ?_⟩
    refine Fin.bnd fin1 fun r2 h2 al2 H2 v2 st2 rh2 rr2 fin2 => ?_
    obtain ⟨d, rfl, rd, fin3⟩ := Fin.pur fin2 rr2
    have ea2 := st2.pre n a ea
    cases d with
    | int i =>
      cases rd
      have fin4 : Fin X.K X.mg (fun cls dd H' => W cls dd σ H') (RR X.K) al2 h2 H2 Q (popC n i h2 h2[n]?) := fin3
      cases q2 : h2[n]? with
      | none => rw [q2] at fin4; exact fin4.elim
      | some c2 =>
        rw [q2] at fin4
        cases c2 with
        | fz _ => exact fin4.elim
        | dct _ _ => exact fin4.elim
        | lst xs2 =>
          obtain ⟨vs2, eh2, rds2⟩ := rh2.at_ n _ a q2 ea2
          unfold popC at fin4
          dsimp only at fin4
          split at fin4
          · rename_i hz
            cases qd : xs2[i.toNat]? with
            | none => rw [qd] at fin4; exact fin4.elim
            | some y =>
              rw [qd] at fin4
              obtain ⟨yv, ey, ry⟩ := rds2.get qd
              obtain ⟨st3, rh3⟩ := set_cell (c' := .lst (xs2.eraseIdx i.toNat)) (o := .lst (vs2.eraseIdx i.toNat)) rh2 q2 ea2 rfl rfl fun st => ⟨_, upd_same, (RDs.erase _ rds2).keep st.k⟩
              exact ⟨a, vs2, i, i.toNat, yv, rfl, rfl, eh2, by omega, by omega, ixN_in hz.1 (by rw [← rds2.length]; exact hz.2.1), ey, fin4 al2 _ yv st3 rh3 (ry.keep st3.k)⟩
          · exact fin4.elim
    | _ => exact fin3.elim
theorem popl_ok (g : Gx T cal k X sc N) {o : E} {po : Expr} {apos pos : Pos} (hn : notSuper po = true) (hl : (apos.endLine == pos.line) = true)
    (ho : PE X po (tM X W (ev cal o))) : PE X (.Call (.Attribute po "pop" apos) [] [] pos) (tM X W (ev cal (.popl o))) := by
  refine PE.imp (pe_bm0 PySem.F.plainAttrs_list PySem.F.slot_list_pop PySem.F.type_list_pop mt_pop ho (super_no hn) hl) fun σ H Q ⟨al, hh, ρ, rh, rs, fin⟩ => ?_
  unfold ev at fin
  refine ⟨al, hh, ρ, rh, rs, Fin.bnd fin fun r1 h1 al1 H1 v1 st1 rh1 rr1 fin1 => ?_⟩
  cases r1 with
  | d x => exact fin1.elim
  | ref n =>
    obtain ⟨a, ea, rfl⟩ := rr1
    have fin4 : Fin X.K X.mg (fun cls dd H' => W cls dd σ H') (RR X.K) al1 h1 H1 Q (poplC n h1 h1[n]?) := fin1
    cases q2 : h1[n]? with
    | none => rw [q2] at fin4; exact fin4.elim
    | some c2 =>
      rw [q2] at fin4
      cases c2 with
      | fz _ => exact fin4.elim
      | dct _ _ => exact fin4.elim
      | lst xs2 =>
        obtain ⟨vs2, eh2, rds2⟩ := rh1.at_ n _ a q2 ea
        unfold poplC at fin4
        dsimp only at fin4
        cases qd : xs2[xs2.length - 1]? with
        | none => rw [qd] at fin4; exact fin4.elim
        | some y =>
          rw [qd] at fin4
          obtain ⟨yv, ey, ry⟩ := rds2.get qd
          obtain ⟨st3, rh3⟩ := set_cell (c' := .lst xs2.dropLast) (o := .lst vs2.dropLast) rh1 q2 ea rfl rfl fun st => ⟨_, upd_same, (RDs.dropLast rds2).keep st.k⟩
          exact ⟨.inl ⟨rfl, vs2, .inl (.inl eh2)⟩, a, vs2, yv, rfl, rfl, eh2, by rw [← rds2.length]; exact ey, fin4 al1 _ yv st3 rh3 (ry.keep st3.k)⟩

/-! ### calls of the text's own defs -/
theorem run_fnG {P : Sp} {a : Addr} {fd : FuncData} {ps : List Str} {pins : List (Addr × Obj)} {σ : Sg} {H : Hp} {s : Shared} {Q : VK} {us : List Value} {vs : List V} {E : XK} (F : FnG X.prog X.w X.K X.mg X.base k a fd ps P) (hr : Room k X.A) (hg : X.A.guards = some [])
    (hb : Binds X.K fd ps []) (hx : PassesAt (L2.CX X.prog X.w) X σ E) (I : Inv X pins σ H s) (r : Vals vs us) (h : P vs H Q E) : wpAny (model X.prog X.w) X.A (call (.ref a) us) (EP X pins σ Q) X.xe s := by
  have hl : (us ++ []).length = ps.length := by rw [List.append_nil, ← r.length]; exact F.len _ _ _ _ h
  have b := hb s us I.kIn hl
  rw [List.append_nil] at b
  refine wpAny_call (codeAny_mono (F.run X.A X.stack s H ⟨us, []⟩ us vs Q E hr hg I.env0 b r h) fun res s' hq => ?_)
  match res, hq with
  | .error e, hq => exact hx pins H s e s' I hq
  | .ok (.ret u), hq => exact I.after hq
  | .ok .next, hq => exact hq.elim
  | .ok .brk, hq => exact hq.elim
  | .ok .cont, hq => exact hq.elim
theorem call_ok (g : Gx T cal k X sc N) (tk : Takes X W) {f : Nat} {es : List E} {x : Str} {pe : Expr} {pes : List Expr} {p pos : Pos} (hf : T.fnm f = some x) (h1 : glB sc x = true) (h2 : okN x = true) (hs : (pe :: pes).all notStar = true) (pa : PA X (pe :: pes) (tMs X W (evs cal es))) :
    PE X (.Call (.Name x p) (pe :: pes) [] pos) (tM X W (ev cal (.call f es))) := by
  obtain ⟨n1, n2, n3⟩ := okN_ok h2
  rw [List.all_cons, Bool.and_eq_true] at hs
  obtain ⟨a, fd, ps, hm, hk, hb, F⟩ := g.calls f x hf
  refine ⟨fun pins s σ H Q I h => ?_⟩
  obtain ⟨al, hh, ρ, rh, rs, fin⟩ := h
  unfold ev at fin
  refine wpAny_Call_Name_kw (ld_glob I (g.gl h1) hm ?_ n1)
  refine PySem.W.callWith_K (h₀ := X.base) I.ok.mod.kin hk (thn (pa.run pos pins s σ H (fun vs H1 => spM X.K X.mg cal f vs H1 Q (WE W σ)) I ⟨al, hh, ρ, rh, rs, ?_⟩) fun us s1 ⟨vs, H1, I1, r, q⟩ => ⟨I1.kIn, ?_⟩) (star_cons hs.1) (star_any hs.2)
  · exact Fin.bnd fin fun r1 h1 al1 H1 v1 st1 rh1 rr1 fin1 => ⟨al1, h1, r1, rh1, rr1, fin1⟩
  · exact run_fnG F g.room g.gd hb (passAt tk σ) I1 r q
end
end Cy


set_option Elab.async false
set_option linter.all false
set_option maxRecDepth 100000
set_option maxHeartbeats 4000000
/-! L3e: targets, what is walked, comprehensions. -/
namespace Cy
open PySem PySem.Spec PyProof.Rows L2

theorem bnd_assoc {α β γ : Type} (m : M α) (f : α → M β) (g : β → M γ) : (m.bnd f).bnd g = m.bnd fun x => (f x).bnd g := by
  funext h
  unfold M.bnd
  cases m h <;> rfl
theorem ret_bnd {α β : Type} (a : α) (f : α → M β) : (M.ret a).bnd f = f a := rfl

/-! ### targets -/
mutual
def gT (K : Fg) : Tg → TG
  | .n i => gName i
  | .t l => gTup K l.length (gTs K l)
def gTs (K : Fg) : List Tg → TGs
  | [] => gNil
  | t :: l => gCons (gT K t) (gTs K l)
end
theorem each_cons {e : Expr} {es : List Expr} {env : Env} (h : notStar e = true) : assignEach (e :: es) env = (false, assign e env) :: assignEach es env := by
  cases e <;> first | rfl | cases h
theorem go_len {fnc : Str → Bool} {sc : Scope} {N : List Str} : ∀ {l : List Tg} {es : List Expr} {env : Env}, chkT.go fnc sc N l es = true → (assignEach es env).length = l.length ∧ (assignEach es env).findIdx? (·.1) = none
  | [], [], _, _ => ⟨rfl, rfl⟩
  | [], _ :: _, _, h => by simp [chkT.go] at h
  | _ :: _, [], _, h => by simp [chkT.go] at h
  | t :: l, e :: es, env, h => by
    unfold chkT.go at h
    simp only [Bool.and_eq_true] at h
    obtain ⟨h1, h2⟩ := go_len (env := env) h.2
    rw [each_cons h.1.1]
    refine ⟨by simp [h1], ?_⟩
    rw [List.findIdx?_cons]
    simp [h2]
section
variable {X : Cx} {fnc : Str → Bool} {sc : Scope} {N : List Str}
mutual
theorem chkT_ok (hN : X.N = N) (nd : N.Nodup) (hs : X.env.scope = sc) (hc : X.calm = true) (hf : ∀ x, fnc x = true → X.fn x = true) : ∀ {tg : Tg} {e : Expr}, chkT fnc sc N tg e = true → PG X e (gT X.K tg)
  | .n i, e, h => by
    cases e with
    | Name x pos =>
      unfold chkT at h
      simp only [Bool.and_eq_true, decide_eq_true_eq] at h
      obtain ⟨h1, h2⟩ := h
      unfold gT
      split at h2
      · rename_i q
        exact pg_name (by rw [hN]; exact nd) (by rw [hN]; exact h1) (.inl (by rw [hs]; exact q)) (.inr (by rw [hs]; exact q))
      · rename_i q
        exact pg_name (by rw [hN]; exact nd) (by rw [hN]; exact h1) (.inr (by rw [hs]; exact q)) (.inl (hf x h2))
      · cases h2
    | _ => simp [chkT] at h
  | .t l, e, h => by
    cases e with
    | Tuple es j pos =>
      unfold chkT at h
      unfold gT
      obtain ⟨h1, h2⟩ := go_len (env := X.env) h
      exact pg_tup hc (chkTs_ok hN nd hs hc hf h) h1 h2
    | _ => simp [chkT] at h
theorem chkTs_ok (hN : X.N = N) (nd : N.Nodup) (hs : X.env.scope = sc) (hc : X.calm = true) (hf : ∀ x, fnc x = true → X.fn x = true) : ∀ {l : List Tg} {es : List Expr}, chkT.go fnc sc N l es = true → PGs X es (gTs X.K l)
  | [], [], _ => by unfold gTs; exact pgs_nil
  | [], _ :: _, h => by simp [chkT.go] at h
  | _ :: _, [], h => by simp [chkT.go] at h
  | t :: l, e :: es, h => by
    unfold chkT.go at h
    simp only [Bool.and_eq_true] at h
    unfold gTs
    exact pgs_cons (chkT_ok hN nd hs hc hf h.1.2) (chkTs_ok hN nd hs hc hf h.2) (by rw [each_cons h.1.1]; rfl)
end
end

theorem wipe_get (σ : Sg) : ∀ (vs : List Nat) (i : Nat), (L2.wipe σ vs)[i]? = if i ∈ vs then (if i < σ.length then some none else none) else σ[i]?
  | [], i => by simp [L2.wipe]
  | v :: vs, i => by
    unfold L2.wipe
    by_cases hv : v = i
    · subst hv
      simp only [List.mem_cons, true_or, if_true]
      by_cases hl : v < σ.length
      · rw [List.getElem?_set_self (by rw [wipe_length]; exact hl), if_pos hl]
      · rw [List.getElem?_eq_none (by rw [List.length_set, wipe_length]; omega), if_neg hl]
    · rw [List.getElem?_set_ne hv, wipe_get σ vs i]
      simp [List.mem_cons, Ne.symm hv]
theorem wipe_wipe (σ : Sg) (vs : List Nat) : L2.wipe (L2.wipe σ vs) vs = L2.wipe σ vs := by
  apply List.ext_getElem?
  intro i
  rw [wipe_get, wipe_get, wipe_length]
  by_cases h : i ∈ vs <;> simp [h]
theorem wipe_set {σ : Sg} {vs : List Nat} {i : Nat} {x : Option V} (h : i ∈ vs) : L2.wipe (σ.set i x) vs = L2.wipe σ vs := by
  apply List.ext_getElem?
  intro j
  rw [wipe_get, wipe_get, List.length_set]
  by_cases hj : j ∈ vs
  · simp [hj]
  · have : i ≠ j := fun e => hj (e ▸ h)
    rw [if_neg hj, if_neg hj, List.getElem?_set_ne this]

section
variable {K : Fg} {al : List Addr} {U : Mu} {H : Hp}
theorem RS.set {ρ : Rho} {σ : Sg} (rs : RS K al U H ρ σ) {i : Nat} {r : R} {v : V} (rr : RR K al U H r v) : RS K al U H (ρ.set i (some r)) (σ.set i (some v)) := by
  refine ⟨by rw [List.length_set, List.length_set]; exact rs.1, fun j q e => ?_⟩
  by_cases h : i = j
  · subst h
    by_cases hl : i < ρ.length
    · rw [List.getElem?_set_self hl] at e
      cases e
      exact ⟨v, List.getElem?_set_self (by rw [← rs.1]; exact hl), rr⟩
    · rw [List.getElem?_eq_none (by rw [List.length_set]; omega)] at e; cases e
  · rw [List.getElem?_set_ne h] at e
    obtain ⟨w, e1, e2⟩ := rs.2 j q e
    exact ⟨w, by rw [List.getElem?_set_ne h]; exact e1, e2⟩
theorem RS.wipe {ρ : Rho} {σ : Sg} (rs : RS K al U H ρ σ) : ∀ vs : List Nat, RS K al U H (Cy.wipe ρ vs) (L2.wipe σ vs)
  | [] => rs
  | v :: vs => by
    have ih := RS.wipe rs vs
    unfold Cy.wipe L2.wipe
    refine ⟨by rw [List.length_set, List.length_set]; exact ih.1, fun j q e => ?_⟩
    by_cases h : v = j
    · subst h
      by_cases hl : v < (Cy.wipe ρ vs).length
      · rw [List.getElem?_set_self hl] at e; cases e
      · rw [List.getElem?_eq_none (by rw [List.length_set]; omega)] at e; cases e
    · rw [List.getElem?_set_ne h] at e
      obtain ⟨w, e1, e2⟩ := ih.2 j q e
      exact ⟨w, by rw [List.getElem?_set_ne h]; exact e1, e2⟩
mutual
theorem gT_ok : ∀ (tg : Tg) {r : R} {v : V} {ρ ρ' : Rho} {σ : Sg}, RR K al U H r v → put tg r ρ = some ρ' → RS K al U H ρ σ → ∀ {Q : Sg → Hp → Prop},
    (∀ σ', RS K al U H ρ' σ' → (∀ vs, (∀ i ∈ tgS tg, i ∈ vs) → L2.wipe σ' vs = L2.wipe σ vs) → Q σ' H) → gT K tg v σ H Q
  | .n i, r, v, ρ, ρ', σ, rr, e, rs, Q, q => by
    unfold put at e
    split at e
    · cases e
      unfold gT
      exact q _ (rs.set rr) fun vs hv => wipe_set (hv i (by simp [tgS]))
    · cases e
  | .t l, r, v, ρ, ρ', σ, rr, e, rs, Q, q => by
    cases r with
    | ref n => simp [put] at e
    | d x =>
      cases x with
      | tuple xs =>
        unfold put at e
        obtain ⟨a, vs, ev, hq, rds⟩ := (RT.rd rr).sqt
        unfold gT
        have hl : xs.length = l.length := by
          have : ∀ (l : List Tg) (xs : List D) (ρ : Rho), put.putAll l xs ρ = some ρ' → xs.length = l.length := by
            intro l
            induction l with
            | nil => intro xs ρ e; cases xs with
              | nil => rfl
              | cons _ _ => simp [put.putAll] at e
            | cons t l ih => intro xs ρ e; cases xs with
              | nil => simp [put.putAll] at e
              | cons x xs =>
                unfold put.putAll at e
                cases h : put t (.d x) ρ with
                | none => rw [h] at e; cases e
                | some ρ1 =>
                  rw [h] at e
                  simp [ih xs ρ1 e]
          exact this l xs ρ e
        refine ⟨a, vs, ev, hq, by rw [← rds.length]; exact hl, gTs_ok l rds e rs fun σ' rs' w => q σ' rs' fun us hu => w us fun i hi => hu i (by unfold tgS; exact hi)⟩
      | _ => simp [put] at e
theorem gTs_ok : ∀ (l : List Tg) {ds : List D} {vs : List V} {ρ ρ' : Rho} {σ : Sg}, RDs K U H ds vs → put.putAll l ds ρ = some ρ' → RS K al U H ρ σ → ∀ {Q : Sg → Hp → Prop},
    (∀ σ', RS K al U H ρ' σ' → (∀ us, (∀ i ∈ tgS.go l, i ∈ us) → L2.wipe σ' us = L2.wipe σ us) → Q σ' H) → gTs K l vs σ H Q
  | [], ds, vs, ρ, ρ', σ, rr, e, rs, Q, q => by
    cases rr with
    | nil =>
      unfold put.putAll at e
      cases e
      unfold gTs
      exact ⟨rfl, q σ rs fun _ _ => rfl⟩
    | cons _ _ => simp [put.putAll] at e
  | t :: l, ds, vs, ρ, ρ', σ, rr, e, rs, Q, q => by
    cases rr with
    | nil => simp [put.putAll] at e
    | cons a b =>
      unfold put.putAll at e
      rename_i x v xs vs
      cases h : put t (.d x) ρ with
      | none => rw [h] at e; cases e
      | some ρ1 =>
        rw [h] at e
        unfold gTs
        refine ⟨_, _, rfl, gT_ok t (r := .d x) a h rs fun σ1 rs1 w1 => gTs_ok l b e rs1 fun σ' rs' w => q σ' rs' fun us hu => ?_⟩
        rw [w us fun i hi => hu i (by unfold tgS.go; exact List.mem_append_right _ hi), w1 us fun i hi => hu i (by unfold tgS.go; exact List.mem_append_left _ hi)]
end
end
end Cy


set_option Elab.async false
set_option linter.all false
set_option maxRecDepth 100000
set_option maxHeartbeats 4000000
/-! L3f: what is walked; comprehensions. -/
namespace Cy
open PySem PySem.Spec PyProof.Rows L2

/-- the walk J hands out ds, whatever else is changed meanwhile -/
def IW (K : Fg) (U : Mu) (H : Hp) (ds : List D) (J : It) : Prop := ∀ U' H', Keep U H U' H' → NoU U' H' → ∀ i,
  (∀ d, ds[i]? = some d → J.go i H' ∧ ∀ x H'', J.yld i H' x H'' → (∀ a o, H' a = some o → H'' a = some o) ∧ RD K U' H'' d x) ∧ (ds.length ≤ i → J.stop i H')
theorem IW.keep {K : Fg} {U U1 : Mu} {H H1 : Hp} {ds : List D} {J : It} (w : IW K U H ds J) (k : Keep U H U1 H1) : IW K U1 H1 ds J := fun U' H' k' n => w U' H' (k.trans k') n
/-- the items that are walked -/
def itM (cal : Cal) (it : E) (ρ : Rho) : M (List D) := (ev cal it ρ).bnd fun x => (pur x).bnd fun d => M.opt (seqD d)
def tIt (X : Cx) (W : WX) (m : Rho → M (List D)) : TI := fun σ H R => ∃ al h ρ, RH X.K al h H ∧ RS X.K al (UU al h) H ρ σ ∧
  Fin X.K X.mg (fun cls dd H' => W cls dd σ H') (fun _ U H ds J => IW X.K U H ds J) al h H R (m ρ h)
theorem PI.imp {X : Cx} {tg e : Expr} {t t' : TI} (p : PI X tg e t) (i : ∀ σ H R, t' σ H R → t σ H R) : PI X tg e t' := ⟨fun pins s σ H R I h => p.run pins s σ H R I (i σ H R h)⟩

theorem iw_list {K : Fg} {U : Mu} {H : Hp} {ds : List D} {a : Addr} {vs : List V} (nu : ¬ U a) (hr : Rd H a (.lst vs)) (rds : RDs K U H ds vs) : IW K U H ds (Itl K a) := by
  intro U' H' k nu' i
  obtain ⟨hr', nu2⟩ := k.rd nu hr
  have rds' := RDs.keep k rds
  refine ⟨fun d e => ?_, fun hl => ⟨vs, .inl hr', by rw [← rds.length]; exact hl⟩⟩
  obtain ⟨v, e1, r⟩ := rds'.get e
  refine ⟨⟨vs, v, .inl hr', e1⟩, fun x H'' y => ?_⟩
  obtain ⟨rfl, y⟩ := y
  have e2 := y vs (.inl hr')
  rw [e1] at e2
  cases e2
  exact ⟨fun _ _ z => z, r⟩
theorem sqt_keep {K : Fg} {U U' : Mu} {H H' : Hp} (k : Keep U H U' H') {d : List D} {v : V} (r : RD K U H (.tuple d) v) : ∃ a xs, v = .ref a ∧ SqT K H' a xs ∧ RDs K U' H' d xs := (RT.rd (r.keep k)).sqt
theorem tupK_sq {K : Fg} {H : Hp} {a : Addr} {xs : List V} (t : TupK K a xs) : SqT K H a xs := by
  obtain ⟨o, its, n, h1, h2, h3, h4, h5⟩ := t
  exact .inr ⟨o, its, n, h1, h2, h3, h4, h5⟩
theorem iw_tup {K : Fg} {U : Mu} {H : Hp} {ds : List D} {a : Addr} {vs : List V} (sq : ∀ U' H', Keep U H U' H' → SqT K H' a vs) (rds : RDs K U H ds vs) : IW K U H ds (Itt K a) := by
  intro U' H' k nu' i
  have hr' := sq U' H' k
  have rds' := RDs.keep k rds
  refine ⟨fun d e => ?_, fun hl => ⟨vs, hr', by rw [← rds.length]; exact hl⟩⟩
  obtain ⟨v, e1, r⟩ := rds'.get e
  refine ⟨⟨vs, v, hr', e1⟩, fun x H'' y => ?_⟩
  obtain ⟨rfl, y⟩ := y
  have e2 := y vs hr'
  rw [e1] at e2
  cases e2
  exact ⟨fun _ _ z => z, r⟩
theorem iw_str {K : Fg} {U : Mu} {H : Hp} (z : Str) : IW K U H (z.cps.toList.map fun c => .str ⟨#[c]⟩) (Its z) := by
  intro U' H' k nu' i
  refine ⟨fun d e => ?_, fun hl => ?_⟩
  · rw [List.getElem?_map, Array.getElem?_toList] at e
    cases q : z.cps[i]? with
    | none => rw [q] at e; cases e
    | some c =>
      rw [q] at e
      cases e
      have hi : i < z.cps.size := by
        rcases Nat.lt_or_ge i z.cps.size with h | h
        · exact h
        · rw [Array.getElem?_eq_none h] at q; cases q
      refine ⟨hi, fun x H'' y => ?_⟩
      obtain ⟨rfl, c', e1, rfl⟩ := y
      rw [q] at e1
      cases e1
      exact ⟨fun _ _ z => z, .str _⟩
  · rw [List.length_map, Array.length_toList] at hl
    exact hl
theorem rangeD_get : ∀ (n : Nat) (lo : Int) (i : Nat) (d : D), (rangeD lo n)[i]? = some d → i < n ∧ d = .int (lo + i)
  | 0, _, _, _, e => by simp [rangeD] at e
  | n + 1, lo, 0, d, e => by
    simp [rangeD] at e
    exact ⟨by omega, by rw [← e]; simp⟩
  | n + 1, lo, i + 1, d, e => by
    unfold rangeD at e
    rw [List.getElem?_cons_succ] at e
    obtain ⟨h1, h2⟩ := rangeD_get n (lo + 1) i d e
    refine ⟨by omega, ?_⟩
    rw [h2]
    congr 1
    push_cast
    omega
theorem rangeD_len : ∀ (n : Nat) (lo : Int), (rangeD lo n).length = n
  | 0, _ => rfl
  | n + 1, lo => by simp [rangeD, rangeD_len n]
theorem iw_range {K : Fg} {U : Mu} {H : Hp} (lo : Int) (n : Nat) : IW K U H (rangeD lo n) (Itr lo n) := by
  intro U' H' k nu' i
  refine ⟨fun d e => ?_, fun hl => by rw [rangeD_len] at hl; exact hl⟩
  obtain ⟨h1, rfl⟩ := rangeD_get n lo i d e
  refine ⟨h1, fun x H'' y => ?_⟩
  obtain ⟨rfl, rfl⟩ := y
  exact ⟨fun _ _ z => z, .int _⟩
theorem rangeS_get : ∀ (n : Nat) (lo c : Int) (i : Nat) (d : D), (rangeS lo c n)[i]? = some d → i < n ∧ d = .int (lo + (i : Nat) * c)
  | 0, _, _, _, _, e => by simp [rangeS] at e
  | n + 1, lo, c, 0, d, e => by
    simp [rangeS] at e
    exact ⟨by omega, by rw [← e]; simp⟩
  | n + 1, lo, c, i + 1, d, e => by
    unfold rangeS at e
    rw [List.getElem?_cons_succ] at e
    obtain ⟨h1, h2⟩ := rangeS_get n (lo + c) c i d e
    refine ⟨by omega, ?_⟩
    rw [h2]
    congr 1
    push_cast
    rw [Int.add_mul, Int.one_mul]
    omega
theorem rangeS_len : ∀ (n : Nat) (lo c : Int), (rangeS lo c n).length = n
  | 0, _, _ => rfl
  | n + 1, lo, c => by simp [rangeS, rangeS_len n]
theorem iw_rangeS {K : Fg} {U : Mu} {H : Hp} (lo c : Int) (n : Nat) : IW K U H (rangeS lo c n) (Itc lo c n) := by
  intro U' H' k nu' i
  refine ⟨fun d e => ?_, fun hl => by rw [rangeS_len] at hl; exact hl⟩
  obtain ⟨h1, rfl⟩ := rangeS_get n lo c i d e
  refine ⟨h1, fun x H'' y => ?_⟩
  obtain ⟨rfl, rfl⟩ := y
  exact ⟨fun _ _ z => z, .int _⟩
theorem stepOk_ok {i j c : Int} (h : stepOk i j c = true) : RgC i j c (Builtin.Range.rangeSize i j c).toNat := by
  unfold stepOk at h
  simp only [Bool.and_eq_true, decide_eq_true_eq] at h
  exact ⟨h.1.1.1, h.1.1.2, h.1.2, h.2⟩
theorem enmD_get : ∀ (xs : List D) (lo : Int) (i : Nat) (d : D), (enmD lo xs)[i]? = some d → ∃ x, xs[i]? = some x ∧ d = .tuple [.int (lo + i), x]
  | [], _, _, _, e => by simp [enmD] at e
  | x :: xs, lo, 0, d, e => by
    simp [enmD] at e
    exact ⟨x, rfl, by rw [← e]; simp⟩
  | x :: xs, lo, i + 1, d, e => by
    unfold enmD at e
    rw [List.getElem?_cons_succ] at e
    obtain ⟨y, h1, h2⟩ := enmD_get xs (lo + 1) i d e
    refine ⟨y, by simpa using h1, ?_⟩
    rw [h2]
    congr 3
    push_cast
    omega
theorem enmD_len : ∀ (xs : List D) (lo : Int), (enmD lo xs).length = xs.length
  | [], _ => rfl
  | x :: xs, lo => by simp [enmD, enmD_len xs]
theorem iw_enum {K : Fg} {U : Mu} {H : Hp} {ds : List D} {a : Addr} {vs : List V} (nu : ¬ U a) (hr : Rd H a (.lst vs)) (rds : RDs K U H ds vs) : IW K U H (enmD 0 ds) (Ite K a) := by
  intro U' H' k nu' i
  obtain ⟨hr', nu2⟩ := k.rd nu hr
  have rds' := RDs.keep k rds
  refine ⟨fun d e => ?_, fun hl => ⟨vs, .inl hr', by rw [enmD_len] at hl; rw [← rds.length]; exact hl⟩⟩
  obtain ⟨x0, e0, rfl⟩ := enmD_get ds 0 i d e
  obtain ⟨v, e1, r⟩ := rds'.get e0
  refine ⟨⟨vs, v, .inl hr', e1⟩, fun x H'' y => ?_⟩
  obtain ⟨p, x1, rfl, np, rfl, y⟩ := y
  have e2 := y vs (.inl hr')
  rw [e1] at e2
  cases e2
  refine ⟨upd_grow np, ?_⟩
  have z : (0 : Int) + (i : Int) = (i : Int) := by omega
  rw [z]
  exact rd_new_tup nu' np (.cons (.int _) (.cons r .nil))
theorem zipD_get : ∀ (xs ys : List D) (i : Nat) (d : D), (zipD xs ys)[i]? = some d → ∃ x y, xs[i]? = some x ∧ ys[i]? = some y ∧ d = .tuple [x, y]
  | [], _, _, _, e => by simp [zipD] at e
  | _ :: _, [], _, _, e => by simp [zipD] at e
  | x :: xs, y :: ys, 0, d, e => by
    simp [zipD] at e
    exact ⟨x, y, rfl, rfl, e.symm⟩
  | x :: xs, y :: ys, i + 1, d, e => by
    unfold zipD at e
    rw [List.getElem?_cons_succ] at e
    obtain ⟨a, b, h1, h2, h3⟩ := zipD_get xs ys i d e
    exact ⟨a, b, by simpa using h1, by simpa using h2, h3⟩
theorem zipD_len : ∀ (xs ys : List D), (zipD xs ys).length = min xs.length ys.length
  | [], _ => by simp [zipD]
  | _ :: _, [] => by simp [zipD]
  | x :: xs, y :: ys => by simp [zipD, zipD_len xs ys]
theorem iw_zip {K : Fg} {U : Mu} {H : Hp} {ds es : List D} {a b : Addr} {vs ws : List V} (na : ¬ U a) (ha : Rd H a (.lst vs)) (ra : RDs K U H ds vs) (nb : ¬ U b) (hb : Rd H b (.lst ws)) (rb : RDs K U H es ws) : IW K U H (zipD ds es) (Itz K a b) := by
  intro U' H' k nu' i
  obtain ⟨ha', _⟩ := k.rd na ha
  obtain ⟨hb', _⟩ := k.rd nb hb
  have ra' := RDs.keep k ra
  have rb' := RDs.keep k rb
  refine ⟨fun d e => ?_, fun hl => ⟨vs, ws, .inl ha', .inl hb', by rw [zipD_len] at hl; rw [← ra.length, ← rb.length]; omega⟩⟩
  obtain ⟨x0, y0, e0, f0, rfl⟩ := zipD_get ds es i d e
  obtain ⟨v, e1, r⟩ := ra'.get e0
  obtain ⟨w, f1, q⟩ := rb'.get f0
  refine ⟨⟨vs, ws, v, w, .inl ha', .inl hb', e1, f1⟩, fun x H'' y => ?_⟩
  obtain ⟨p, x1, y1, rfl, np, rfl, h1, h2⟩ := y
  have e2 := h1 vs (.inl ha')
  have f2 := h2 ws (.inl hb')
  rw [e1] at e2
  rw [f1] at f2
  cases e2
  cases f2
  exact ⟨upd_grow np, rd_new_tup nu' np (.cons r (.cons q .nil))⟩
theorem iw_zipT {K : Fg} {U : Mu} {H : Hp} {ds es : List D} {a b : Addr} {vs ws : List V} (ha : ∀ U' H', Keep U H U' H' → SqT K H' a vs) (ra : RDs K U H ds vs) (hb : ∀ U' H', Keep U H U' H' → SqT K H' b ws) (rb : RDs K U H es ws) : IW K U H (zipD ds es) (RZ.ItzT K a b) := by
  intro U' H' k nu' i
  have ha' := ha U' H' k
  have hb' := hb U' H' k
  have ra' := RDs.keep k ra
  have rb' := RDs.keep k rb
  refine ⟨fun d e => ?_, fun hl => ⟨vs, ws, ha', hb', by rw [zipD_len] at hl; rw [← ra.length, ← rb.length]; omega⟩⟩
  obtain ⟨x0, y0, e0, f0, rfl⟩ := zipD_get ds es i d e
  obtain ⟨v, e1, r⟩ := ra'.get e0
  obtain ⟨w, f1, q⟩ := rb'.get f0
  refine ⟨⟨vs, ws, v, w, ha', hb', e1, f1⟩, fun x H'' y => ?_⟩
  obtain ⟨p, x1, y1, rfl, np, rfl, h1, h2⟩ := y
  have e2 := h1 vs ha'
  have f2 := h2 ws hb'
  rw [e1] at e2
  rw [f1] at f2
  cases e2
  cases f2
  exact ⟨upd_grow np, rd_new_tup nu' np (.cons r (.cons q .nil))⟩
/-- a tuple stands -/
theorem RD.tupAt {K : Fg} {U : Mu} {H : Hp} {ds : List D} {v : V} (r : RD K U H (.tuple ds) v) : ∃ a xs, v = .ref a ∧ (∀ U' H', Keep U H U' H' → SqT K H' a xs) ∧ RDs K U H ds xs := by
  cases r with
  | tup n hr q => exact ⟨_, _, rfl, fun U' H' k => .inl (k.rd n hr).1, q⟩
  | tupK t q => exact ⟨_, _, rfl, fun U' H' k => tupK_sq t, q⟩
theorem RD.lstAt {K : Fg} {U : Mu} {H : Hp} {ds : List D} {v : V} (r : RD K U H (.list ds) v) : ∃ a xs, v = .ref a ∧ ¬ U a ∧ Rd H a (.lst xs) ∧ RDs K U H ds xs := by
  cases r with
  | lst n hr q => exact ⟨_, _, rfl, n, hr, q⟩

section
variable {T : Tb} {cal : Cal} {k : Nat} {X : Cx} {sc : Scope} {N : List Str} {W : WX} {tg : Expr}
theorem pi_any {e : Expr} {te : TE} (h : PE X e te) : PI X tg e (fun σ H R => iList X.K te σ H R ∨ iTup X.K te σ H R ∨ iStr te σ H R) :=
  ⟨fun pins s σ H R I q => by
    rcases q with q | q | q
    · exact (pi_list h).run pins s σ H R I q
    · exact (pi_tup h).run pins s σ H R I q
    · exact (pi_str h).run pins s σ H R I q⟩
/-- a value -/
theorem val_ok {it : E} {e : Expr} (h : PE X e (tM X W (ev cal it))) : PI X tg e (tIt X W (itM cal it)) := by
  refine PI.imp (pi_any h) fun σ H R ⟨al, hh, ρ, rh, rs, fin⟩ => ?_
  unfold itM M.bnd at fin
  cases q : ev cal it ρ hh with
  | bad => rw [q] at fin; exact fin.elim
  | ex e h1 => rw [q] at fin; exact .inl ⟨al, hh, ρ, rh, rs, by rw [q]; exact fin⟩
  | ok r h1 =>
    rw [q] at fin
    cases r with
    | ref n => exact fin.elim
    | d x =>
      cases x with
      | list ds =>
        refine .inl ⟨al, hh, ρ, rh, rs, ?_⟩
        rw [q]
        intro al1 H1 v st rh1 rr
        obtain ⟨a, xs, rfl, nu, hr, rds⟩ := RD.lstAt rr
        exact ⟨a, rfl, ⟨xs, .inl hr⟩, fin al1 H1 (Itl X.K a) st rh1 (iw_list nu hr rds)⟩
      | tuple ds =>
        refine .inr (.inl ⟨al, hh, ρ, rh, rs, ?_⟩)
        rw [q]
        intro al1 H1 v st rh1 rr
        obtain ⟨a, xs, rfl, sq, rds⟩ := RD.tupAt rr
        exact ⟨a, rfl, ⟨xs, sq _ _ (Keep.refl _ _)⟩, fin al1 H1 (Itt X.K a) st rh1 (iw_tup sq rds)⟩
      | str z =>
        refine .inr (.inr ⟨al, hh, ρ, rh, rs, ?_⟩)
        rw [q]
        intro al1 H1 v st rh1 rr
        cases rr
        exact ⟨z, rfl, fin al1 H1 (Its z) st rh1 (iw_str z)⟩
      | _ => exact fin.elim
theorem small_ok {i : Int} (h : small i = true) : -(2 ^ 62) ≤ i ∧ i < 2 ^ 62 := by
  unfold small at h
  simp only [Bool.and_eq_true, decide_eq_true_eq] at h
  exact ⟨by omega, by omega⟩
theorem evs_len : ∀ {es : List E} {ρ : Rho} {h h1 : Hs} {r : List R}, evs cal es ρ h = .ok r h1 → r.length = es.length
  | [], ρ, h, h1, r, e => by
    unfold evs at e
    cases e
    rfl
  | a :: es, ρ, h, h1, r, e => by
    unfold evs M.bnd at e
    cases q : ev cal a ρ h with
    | bad => rw [q] at e; cases e
    | ex _ _ => rw [q] at e; cases e
    | ok x h2 =>
      rw [q] at e
      simp only [M.ret] at e
      cases q2 : evs cal es ρ h2 with
      | bad => rw [q2] at e; cases e
      | ex _ _ => rw [q2] at e; cases e
      | ok y h3 =>
        rw [q2] at e
        cases e
        simp [evs_len q2]
theorem rng_fin {es : List E} {al : List Addr} {h : Hs} {H : Hp} {E : XK} {R : It → Hp → Prop} {ρ : Rho} {Q' : List V → Hp → Prop}
    (fin : Fin X.K X.mg E (fun _ U H ds J => IW X.K U H ds J) al h H R (itM cal (.rng es) ρ h))
    (one : ∀ j H1, es.length = 1 → small j = true → R (Itr 0 j.toNat) H1 → Q' [.int j] H1)
    (two : ∀ i j H1, es.length = 2 → small i = true → small j = true → R (Itr i (j - i).toNat) H1 → Q' [.int i, .int j] H1)
    (three : ∀ i j c H1, es.length = 3 → stepOk i j c = true → R (Itc i c (Builtin.Range.rangeSize i j c).toNat) H1 → Q' [.int i, .int j, .int c] H1) : Fin X.K X.mg E (RRs X.K) al h H Q' (evs cal es ρ h) := by
  unfold itM ev at fin
  rw [bnd_assoc] at fin
  unfold M.bnd at fin
  cases eq : evs cal es ρ h with
  | bad => rw [eq] at fin; exact fin.elim
  | ex e h1 => rw [eq] at fin; exact fin
  | ok r h1 =>
  rw [eq] at fin
  have el := evs_len eq
  intro al1 H1 vs st rh1 rr
  have fin1 := Fin.shift (o := _) fin st
  cases q : purAll r with
  | none => simp only [q] at fin1; exact fin1.elim
  | some es =>
    simp only [q, Option.bind_some] at fin1
    have rds := purAll_ok rr q
    have hl := rr.length
    have hl2 := rds.length
    have hl3 : r.length = es.length := hl.trans hl2.symm
    cases e : rngD es with
    | none => rw [e] at fin1; exact fin1.elim
    | some ds =>
    rw [e] at fin1
    have fin2 : Fin X.K X.mg E (fun _ U H ds J => IW X.K U H ds J) al1 h1 H1 R (M.ret ds h1) := fin1
    unfold rngD at e
    split at e
    · cases rds with | cons a b => cases b with | nil =>
      cases a
      split at e
      · rename_i hj
        cases e
        exact one _ H1 (by rw [← el, hl3]; rfl) hj (fin2 al1 H1 _ (Stp.refl _ _ _) rh1 (iw_range _ _))
      · cases e
    · cases rds with | cons a b => cases b with | cons b c => cases c with | nil =>
      cases a
      cases b
      split at e
      · rename_i hj
        cases e
        rw [Bool.and_eq_true] at hj
        exact two _ _ H1 (by rw [← el, hl3]; rfl) hj.1 hj.2 (fin2 al1 H1 _ (Stp.refl _ _ _) rh1 (iw_range _ _))
      · cases e
    · cases rds with | cons a b => cases b with | cons b c => cases c with | cons c f => cases f with | nil =>
      cases a
      cases b
      cases c
      split at e
      · rename_i hj
        cases e
        exact three _ _ _ H1 (by rw [← el, hl3]; rfl) hj (fin2 al1 H1 _ (Stp.refl _ _ _) rh1 (iw_rangeS _ _ _))
      · cases e
    · cases e
theorem rng_ok1 (g : Gx T cal k X sc N) {a : E} {pa : Expr} {p pos : Pos} (h1 : glB sc "range" = true) (hs : notStar pa = true) (pas : PA X [pa] (tMs X W (evs cal [a]))) :
    PI X tg (.Call (.Name "range" p) [pa] [] pos) (tIt X W (itM cal (.rng [a]))) := by
  refine PI.imp (pi_range1 (g.gl h1) (g.blt _ (by decide +kernel)) pas (star_cons hs)) fun σ H R ⟨al, hh, ρ, rh, rs, fin⟩ => ?_
  refine ⟨al, hh, ρ, rh, rs, rng_fin fin (fun j H1 _ hj q => ⟨j, rfl, (small_ok hj).1, (small_ok hj).2, q⟩) (fun i j H1 hl hi hj q => by cases hl) (fun i j c H1 hl hj q => by cases hl)⟩
theorem rng_ok2 (g : Gx T cal k X sc N) {a b : E} {pa pb : Expr} {p pos : Pos} (h1 : glB sc "range" = true) (hs : notStar pa = true) (hs2 : notStar pb = true) (pas : PA X [pa, pb] (tMs X W (evs cal [a, b]))) :
    PI X tg (.Call (.Name "range" p) [pa, pb] [] pos) (tIt X W (itM cal (.rng [a, b]))) := by
  refine PI.imp (pi_range2 (g.gl h1) (g.blt _ (by decide +kernel)) pas (by rw [star_cons hs, star_cons hs2]; rfl) (star_cons hs2)) fun σ H R ⟨al, hh, ρ, rh, rs, fin⟩ => ?_
  refine ⟨al, hh, ρ, rh, rs, rng_fin fin (fun j H1 hl hj q => by cases hl) (fun i j H1 hl hi hj q => ⟨i, j, rfl, ⟨(small_ok hi).1, (small_ok hi).2, (small_ok hj).1, (small_ok hj).2⟩, q⟩) (fun i j c H1 hl hj q => by cases hl)⟩
theorem rng_ok3 (g : Gx T cal k X sc N) {a b c : E} {pa pb pc : Expr} {p pos : Pos} (h1 : glB sc "range" = true) (hs : notStar pa = true) (hs2 : notStar pb = true) (hs3 : notStar pc = true) (pas : PA X [pa, pb, pc] (tMs X W (evs cal [a, b, c]))) :
    PI X tg (.Call (.Name "range" p) [pa, pb, pc] [] pos) (tIt X W (itM cal (.rng [a, b, c]))) := by
  refine PI.imp (pi_range3 (g.gl h1) (g.blt _ (by decide +kernel)) pas (star_cons hs) (star_any (by simp [hs2, hs3]))) fun σ H R ⟨al, hh, ρ, rh, rs, fin⟩ => ?_
  refine ⟨al, hh, ρ, rh, rs, rng_fin fin (fun j H1 hl hj q => by cases hl) (fun i j H1 hl hi hj q => by cases hl) (fun i j c H1 _ hj q => ⟨i, j, c, _, rfl, stepOk_ok hj, q⟩)⟩
/-- enumerate of a list -/
theorem enm_ok (g : Gx T cal k X sc N) {a : E} {pe : Expr} {elts : List Expr} {kk : Nat} {p pos tpos : Pos} (h1 : glB sc "enumerate" = true) (hs : notStar pe = true) (he : PE X pe (tM X W (ev cal a))) :
    PI X (.Tuple elts kk tpos) (.Call (.Name "enumerate" p) [pe] [] pos) (tIt X W (itM cal (.enm a))) := by
  refine PI.imp (pi_enum (g.gl h1) (g.blt _ (by decide +kernel)) (pa_cons he pa_nil (star_cons hs)) (star_cons hs)) fun σ H R ⟨al, hh, ρ, rh, rs, fin⟩ => ?_
  unfold itM ev at fin
  rw [bnd_assoc] at fin
  refine ⟨al, hh, ρ, rh, rs, Fin.bnd fin fun r h1 al1 H1 v st rh1 rr fin1 => ?_⟩
  rw [bnd_assoc] at fin1
  obtain ⟨d, rfl, rd, fin2⟩ := Fin.pur fin1 rr
  rw [bnd_assoc] at fin2
  cases d with
  | list ds =>
    obtain ⟨a, xs, rfl, nu, hr, rds⟩ := RD.lstAt rd
    exact ⟨a, xs, rfl, .inl hr, fin2 al1 H1 _ (Stp.refl _ _ _) rh1 (iw_enum nu hr rds)⟩
  | _ => exact fin2.elim
theorem zip_ok (g : Gx T cal k X sc N) {a b : E} {pa pb : Expr} {elts : List Expr} {kk : Nat} {p pos tpos : Pos} (h1 : glB sc "zip" = true) (hs : notStar pa = true) (hs2 : notStar pb = true) (ha : PE X pa (tM X W (ev cal a))) (hb : PE X pb (tM X W (ev cal b))) :
    PI X (.Tuple elts kk tpos) (.Call (.Name "zip" p) [pa, pb] [] pos) (tIt X W (itM cal (.zip a b))) := by
  refine PI.imp (RZ.pi_zipA (g.gl h1) (g.blt _ (by decide +kernel)) (pa_cons ha (pa_cons hb pa_nil (star_cons hs2)) (star_cons hs)) (star_cons hs) (star_any (by simp [hs2]))) fun σ H R ⟨al, hh, ρ, rh, rs, fin⟩ => ?_
  unfold itM ev at fin
  rw [bnd_assoc] at fin
  refine ⟨al, hh, ρ, rh, rs, Fin.bnd fin fun r h1 al1 H1 v st rh1 rr fin1 => ?_⟩
  rw [bnd_assoc] at fin1
  refine ⟨al1, h1, ρ, rh1, rs.stp st, Fin.bnd fin1 fun r2 h2 al2 H2 w st2 rh2 rr2 fin2 => ?_⟩
  rw [bnd_assoc] at fin2
  obtain ⟨d, rfl, rd, fin3⟩ := Fin.pur fin2 (rr.stp st2)
  rw [bnd_assoc] at fin3
  obtain ⟨e, rfl, re, fin4⟩ := Fin.pur fin3 rr2
  cases d with
  | list ds =>
    cases e with
    | list es =>
      obtain ⟨a, xs, rfl, nu, hr, rds⟩ := RD.lstAt rd
      obtain ⟨b, ys, rfl, nu2, hr2, rds2⟩ := RD.lstAt re
      exact ⟨a, b, xs, ys, rfl, .inl ⟨.inl hr, .inl hr2, fin4 al2 H2 _ (Stp.refl _ _ _) rh2 (iw_zip nu hr rds nu2 hr2 rds2)⟩⟩
    | _ => exact fin4.elim
  | tuple ds =>
    cases e with
    | tuple es =>
      obtain ⟨a, xs, rfl, sq, rds⟩ := RD.tupAt rd
      obtain ⟨b, ys, rfl, sq2, rds2⟩ := RD.tupAt re
      exact ⟨a, b, xs, ys, rfl, .inr ⟨sq _ _ (Keep.refl _ _), sq2 _ _ (Keep.refl _ _), fin4 al2 H2 _ (Stp.refl _ _ _) rh2 (iw_zipT sq rds sq2 rds2)⟩⟩
    | _ => exact fin4.elim
  | _ => exact fin4.elim
end
end Cy


set_option Elab.async false
set_option linter.all false
set_option maxRecDepth 100000
set_option maxHeartbeats 4000000
/-! L3g: comprehensions; dicts of the module. -/
namespace Cy
open PySem PySem.Spec PyProof.Rows L2

section
variable {α β : Type} {K : Fg} {mg : Str → Option Value} {E E' : XK} {rel : List Addr → Mu → Hp → α → β → Prop} {al : List Addr} {h : Hs} {H : Hp} {Q : β → Hp → Prop}
theorem Fin.ofNox {m : M α} (f : Fin K mg E rel al h H Q (M.nox m h)) : Fin K mg E' rel al h H Q (m h) := by
  unfold M.nox at f
  cases e : m h with
  | ok r h1 => rw [e] at f; exact f
  | ex x h1 => rw [e] at f; exact f.elim
  | bad => rw [e] at f; exact f.elim
end
section
variable {K : Fg} {mg : Str → Option Value} {E : XK} {al : List Addr} {h : Hs} {H : Hp} {Q : VK}
/-- a cell is data from now on -/
theorem Fin.fz {n : Nat} {a : Addr} (f : Fin K mg E (RR K) al h H Q (fzR (.ref n) h)) (rh : RH K al h H) (ea : al[n]? = some a) : Q (.ref a) H := by
  have f : Fin K mg E (RR K) al h H Q (fzC n h h[n]?) := f
  cases q : h[n]? with
  | none => rw [q] at f; exact f.elim
  | some c =>
    rw [q] at f
    cases c with
    | dct t kvs => exact f.elim
    | fz xs =>
      obtain ⟨vs, eh, rds⟩ := rh.at_ n _ a q ea
      have nu : ¬ UU al h a := fun ⟨m, c, e1, e2, e3⟩ => by
        cases al_inj rh e1 ea
        rw [q] at e2
        cases e2
        cases e3
      exact f al H _ (Stp.refl al h H) rh (.lst nu (.inl eh) rds)
    | lst xs =>
      obtain ⟨st, rh'⟩ := fz_cell rh q
      obtain ⟨vs, eh, rds⟩ := rh.at_ n _ a q ea
      have hn : n < h.length := by
        rcases Nat.lt_or_ge n h.length with z | z
        · exact z
        · rw [List.getElem?_eq_none z] at q; cases q
      have nu : ¬ UU al (h.set n (.fz xs)) a := fun ⟨m, c, e1, e2, e3⟩ => by
        cases al_inj rh e1 ea
        rw [List.getElem?_set_self hn] at e2
        cases e2
        cases e3
      exact f al H _ st rh' (.lst nu (.inl eh) (RDs.keep st.k rds))
/-- an item goes to the end of a cell -/
theorem Fin.app {α β : Type} {rel : List Addr → Mu → Hp → α → β → Prop} {Q : β → Hp → Prop} {n : Nat} {a : Addr} {d : D} {v : V} {g : R → M α} (f : Fin K mg E rel al h H Q (((appR (.ref n) d).bnd g) h)) (rh : RH K al h H) (ea : al[n]? = some a) (rd : RD K (UU al h) H d v) :
    ∃ vs h', H a = some (.lst vs) ∧ vs.length < sizeLine ∧ Stp al h H al h' (upd H a (.lst (vs ++ [v]))) ∧ RH K al h' (upd H a (.lst (vs ++ [v]))) ∧ Fin K mg E rel al h' (upd H a (.lst (vs ++ [v]))) Q (g (.d .none) h') := by
  have e : ((appR (.ref n) d).bnd g) h = match appC n d h h[n]? with
    | .ok r h1 => g r h1
    | .ex x h1 => .ex x h1
    | .bad => .bad := by
    unfold M.bnd appR hget
    simp only
    cases appC n d h h[n]? <;> rfl
  rw [e] at f
  cases q : h[n]? with
  | none => rw [q] at f; exact f.elim
  | some c =>
    rw [q] at f
    cases c with
    | fz _ => exact f.elim
    | dct _ _ => exact f.elim
    | lst xs =>
      obtain ⟨vs, eh, rds⟩ := rh.at_ n _ a q ea
      unfold appC at f
      by_cases hz : xs.length < lim
      · simp only [if_pos hz] at f
        rw [lim_eq, rds.length] at hz
        obtain ⟨st, rh'⟩ := set_cell (c' := .lst (xs ++ [d])) (o := .lst (vs ++ [v])) rh q ea rfl rfl fun st => ⟨vs ++ [v], upd_same, (RDs.append rds (.cons rd .nil)).keep st.k⟩
        exact ⟨vs, _, eh, hz, st, rh', Fin.shift f st⟩
      · simp only [if_neg hz] at f
        exact f.elim
end

abbrev W0 : WX := fun _ _ _ _ => False
def relO (K : Fg) : List Addr → Mu → Hp → Option D → Option V → Prop := fun _ U H o v =>
  match o, v with
  | some d, some v => RD K U H d v
  | none, none => True
  | _, _ => False
section
variable {T : Tb} {cal : Cal} {k : Nat} {X : Cx} {sc : Scope} {N : List Str} {W : WX}
theorem comp_go {m : Bool} {own : List Nat} {elt it cond : E} {tg : Tg} (ht : ∀ i ∈ tgS tg, i ∈ own) {σ : Sg} {H : Hp} {Q : VK} (h : tM X W (ev cal (.comp m own elt tg it cond)) σ H Q) :
    tLc (tIt X W (itM cal it)) (gT X.K tg) (tMb X W0 (ev cal cond)) (tM X W0 (ev cal elt)) own σ H Q := by
  obtain ⟨al, hh, ρ, rh, rs, fin⟩ := h
  unfold ev at fin
  generalize hf : (fun ρ' => M.nox (((ev cal cond ρ').bnd boolOf).bnd fun k =>
      match k with
      | true => (ev cal elt ρ').bnd fun y => (pur y).bnd fun dy => M.ret (some dy)
      | false => M.ret none)) = f at fin
  have e1 : ((ev cal it ρ).bnd fun x => (pur x).bnd fun d => (M.opt (seqD d)).bnd fun ds => compM m f tg (Cy.wipe ρ own) ds) = (itM cal it ρ).bnd fun ds => compM m f tg (Cy.wipe ρ own) ds := by
    unfold itM
    simp only [bnd_assoc]
  rw [e1] at fin
  refine ⟨al, hh, ρ, rh, rs, Fin.bnd fin fun ds h1 al1 H1 J st1 rh1 iw fin1 => ?_⟩
  intro D hD
  obtain ⟨st2, rh2⟩ := new_cell (c := .lst []) (o := .lst []) rh1 hD rfl ⟨[], upd_same, .nil⟩
  have fin2 : Fin X.K X.mg (fun cls dd H' => W cls dd σ H') (RR X.K) (al1 ++ [D]) (h1 ++ [.lst []]) (upd H1 D (.lst [])) Q
      (((turns f tg (Cy.wipe ρ own) h1.length ds).bnd fun _ => if m then M.ret (.ref h1.length) else fzR (.ref h1.length)) (h1 ++ [.lst []])) := Fin.shift (o := _) fin1 st2
  have hpos : (al1 ++ [D])[h1.length]? = some D := by rw [← rh1.len]; simp
  have iwb := iw.keep st2.k
  have rsb := ((rs.stp st1).stp st2).wipe own
  generalize al1 ++ [D] = alb at *
  generalize h1 ++ [.lst []] = hb at *
  generalize upd H1 D (.lst []) = Hb at *
  generalize hn : h1.length = n at *
  generalize hg : (fun (_ : Unit) => if m then M.ret (R.ref n) else fzR (R.ref n)) = fin0 at fin2
  generalize hρ : Cy.wipe ρ own = ρw at *
  refine ⟨fun i mm H => mm = ds.length - i ∧ i ≤ ds.length ∧ ∃ al' h', RH X.K al' h' H ∧ Stp alb hb Hb al' h' H ∧
    Fin X.K X.mg (fun cls dd H' => W cls dd σ H') (RR X.K) al' h' H Q (((turns f tg ρw n (ds.drop i)).bnd fin0) h'), ⟨ds.length, by simp, Nat.zero_le _, alb, hb, rh2, Stp.refl _ _ _, fin2⟩, ?_⟩
  rintro i mm H2 ⟨rfl, hi, al', h', rh', st', fin3⟩
  by_cases hlt : i < ds.length
  · have hx : ds[i]? = some ds[i] := List.getElem?_eq_getElem hlt
    generalize ds[i] = x at hx
    have hdrop : ds.drop i = x :: ds.drop (i + 1) := by
      rw [List.drop_eq_getElem_cons hlt]
      rw [List.getElem?_eq_getElem hlt] at hx
      rw [Option.some.inj hx]
    rw [hdrop] at fin3
    unfold turns at fin3
    simp only [bnd_assoc] at fin3
    obtain ⟨ρ', eput, fin4⟩ := Fin.opt fin3
    obtain ⟨go, yl⟩ := (iwb _ _ st'.k rh'.noU i).1 x hx
    refine .inr ⟨go, fun H => i + 1 ≤ ds.length ∧ ∃ al' h', RH X.K al' h' H ∧ Stp alb hb Hb al' h' H ∧
      Fin X.K X.mg (fun cls dd H' => W cls dd σ H') (RR X.K) al' h' H Q (((turns f tg ρw n (ds.drop (i + 1))).bnd fin0) h'), fun H' p' => ⟨ds.length - (i + 1), by omega, rfl, p'⟩, fun xv H' y => ?_⟩
    obtain ⟨grow, rd⟩ := yl xv H' y
    have rhg := rh'.grow grow
    have stg := Stp.grow rh' grow
    refine gT_ok tg (r := .d x) rd eput (rsb.stp (st'.trans stg)) fun σ' rs' w => ⟨?_, ?_⟩
    · rw [w own ht, wipe_wipe]
    refine ⟨al', h', ρ', rhg, rs', ?_⟩
    have fin5 := Fin.shift fin4 stg
    have fin6 : Fin X.K X.mg (fun cls dd H' => W cls dd σ H') (relO X.K) al' h' H' (fun (o : Option V) H3 => match o with
        | some v => ∃ acc, H3 D = some (.lst acc) ∧ acc.length < sizeLine ∧ (i + 1 ≤ ds.length ∧ ∃ al' h', RH X.K al' h' (upd H3 D (.lst (acc ++ [v]))) ∧ Stp alb hb Hb al' h' (upd H3 D (.lst (acc ++ [v]))) ∧
            Fin X.K X.mg (fun cls dd H' => W cls dd σ H') (RR X.K) al' h' (upd H3 D (.lst (acc ++ [v]))) Q (((turns f tg ρw n (ds.drop (i + 1))).bnd fin0) h'))
        | none => i + 1 ≤ ds.length ∧ ∃ al' h', RH X.K al' h' H3 ∧ Stp alb hb Hb al' h' H3 ∧
            Fin X.K X.mg (fun cls dd H' => W cls dd σ H') (RR X.K) al' h' H3 Q (((turns f tg ρw n (ds.drop (i + 1))).bnd fin0) h')) (f ρ' h') := by
      refine Fin.bnd fin5 fun o h3 al3 H3 v st3 rh3 rr3 fin7 => ?_
      have stb := (st'.trans stg).trans st3
      cases o with
      | none =>
        cases v with
        | some _ => exact rr3.elim
        | none => exact ⟨hlt, al3, h3, rh3, stb, fin7⟩
      | some d =>
        cases v with
        | none => exact rr3.elim
        | some v =>
          have ea : al3[n]? = some D := stb.pre n D hpos
          obtain ⟨vs, h4, eh, hz, st4, rh4, fin8⟩ := Fin.app fin7 rh3 ea rr3
          exact ⟨vs, eh, hz, hlt, al3, h4, rh4, stb.trans st4, fin8⟩
    subst hf
    have fin7 := Fin.ofNox (E' := fun cls dd H' => W0 cls dd σ' H') fin6
    refine Fin.boolOf fin7 fun b h3 al3 H3 st3 rh3 fin8 => ⟨b, rfl, ?_⟩
    cases b with
    | false =>
      refine iteF ?_
      exact Fin.ret (α := Option PyData) (r := none) (v := none) fin8 rh3 trivial
    | true =>
      refine iteT ⟨al3, h3, ρ', rh3, rs'.stp st3, Fin.bnd fin8 fun y h4 al4 H4 yv st4 rh4 rr4 fin9 => ?_⟩
      obtain ⟨dy, rfl, rdy, fin10⟩ := Fin.pur fin9 rr4
      exact Fin.ret (α := Option PyData) (r := some dy) (v := some yv) fin10 rh4 rdy
  · have e : i = ds.length := by omega
    subst e
    rw [List.drop_length] at fin3
    unfold turns at fin3
    have fin4 : Fin X.K X.mg (fun cls dd H' => W cls dd σ H') (RR X.K) al' h' H2 Q (fin0 () h') := fin3
    rw [← hg] at fin4
    have ea : al'[n]? = some D := st'.pre n D hpos
    refine .inl ⟨(iwb _ _ st'.k rh'.noU ds.length).2 (Nat.le_refl _), ?_⟩
    cases m with
    | true => exact Fin.ret (α := R) (r := .ref n) fin4 rh' ⟨D, ea, rfl⟩
    | false => exact Fin.fz fin4 rh' ea
theorem comp_ok (g : Gx T cal k X sc N) {m : Bool} {own : List Nat} {elt it cond : E} {tg : Tg} {ptg pit pelt : Expr} {pifs : List Expr} {scope : Scope} {pos : Pos} (hi : PI X ptg pit (tIt X W (itM cal it)))
    (hs : ∀ x, foldedSetIterable pit X.env x = pure x) (hb : blkC N sc scope (ownOf N own) = true) (ho : (ownOf N own).map (·.2) = own) (ht : ∀ i ∈ tgS tg, i ∈ own) (hg : chkT (fncOf scope) (relS scope sc) N tg ptg = true)
    (hc : ∀ (s : Shared) (H : Hp) (C : Addr) (cl : List (Str × Addr)) (fp : List Addr), PTs (X.blk s H scope (compEnvC scope cl C X.env) fp) pifs (tMb X W0 (ev cal cond)))
    (he : ∀ (s : Shared) (H : Hp) (C : Addr) (cl : List (Str × Addr)) (fp : List Addr), PE (X.blk s H scope (compEnvC scope cl C X.env) fp) pelt (tM X W0 (ev cal elt))) :
    PE X (.ListComp pelt [⟨ptg, pit, pifs, 0⟩] scope pos) (tM X W (ev cal (.comp m own elt tg it cond))) := by
  refine PE.imp (pe_lc (own := ownOf N own) g.calm (by rw [g.nN]; exact g.nd) hi (by rw [g.nN, g.sc]; exact blkOk_by hb) (fun s H C cl fp => ?_) hc he hs) fun σ H Q h => by rw [ho]; exact comp_go ht h
  exact chkT_ok (X := X.blk s H scope (compEnvC scope cl C X.env) fp) g.nN g.nd (show relS scope X.env.scope = _ by rw [g.sc]) g.calm (fun x hx => hx) hg
def relL (K : Fg) : List Addr → Mu → Hp → Option (List D) → Option It → Prop := fun _ U H o v =>
  match o, v with
  | some ds, some J => IW K U H ds J
  | none, none => True
  | _, _ => False
theorem comp2_go {m : Bool} {own own1 : List Nat} {elt it cond it1 cond1 : E} {tg tg1 : Tg} (ht : ∀ i ∈ tgS tg, i ∈ own) (ht1 : ∀ i ∈ tgS tg1, i ∈ own1) {σ : Sg} {H : Hp} {Q : VK} (h : tM X W (ev cal (.comp2 m own own1 elt tg it cond tg1 it1 cond1)) σ H Q) :
    tLc2 (tIt X W (itM cal it)) (gT X.K tg) (tMb X W0 (ev cal cond)) (tIt X W0 (itM cal it1)) (gT X.K tg1) (tMb X W0 (ev cal cond1)) (tM X W0 (ev cal elt)) own own1 σ H Q := by
  obtain ⟨al, hh, ρ, rh, rs, fin⟩ := h
  unfold ev at fin
  generalize hf : (fun ρ' => M.nox (((ev cal cond1 ρ').bnd boolOf).bnd fun k =>
      match k with
      | true => (ev cal elt ρ').bnd fun y => (pur y).bnd fun dy => M.ret (some dy)
      | false => M.ret none)) = f at fin
  generalize hf0 : (fun ρ' => M.nox (((ev cal cond ρ').bnd boolOf).bnd fun k =>
      match k with
      | true => ((ev cal it1 ρ').bnd fun x => (pur x).bnd fun d => M.opt (seqD d)).bnd fun ds => M.ret (some ds)
      | false => M.ret none)) = f0 at fin
  have e1 : ((ev cal it ρ).bnd fun x => (pur x).bnd fun d => (M.opt (seqD d)).bnd fun ds => compM2 m f0 f tg tg1 own1 (Cy.wipe ρ own) ds) = (itM cal it ρ).bnd fun ds => compM2 m f0 f tg tg1 own1 (Cy.wipe ρ own) ds := by
    unfold itM
    simp only [bnd_assoc]
  rw [e1] at fin
  refine ⟨al, hh, ρ, rh, rs, Fin.bnd fin fun ds h1 al1 H1 J st1 rh1 iw fin1 => ?_⟩
  intro D hD
  obtain ⟨st2, rh2⟩ := new_cell (c := .lst []) (o := .lst []) rh1 hD rfl ⟨[], upd_same, .nil⟩
  have fin2 : Fin X.K X.mg (fun cls dd H' => W cls dd σ H') (RR X.K) (al1 ++ [D]) (h1 ++ [.lst []]) (upd H1 D (.lst [])) Q
      (((turns2 f0 f tg tg1 own1 (Cy.wipe ρ own) h1.length ds).bnd fun _ => if m then M.ret (.ref h1.length) else fzR (.ref h1.length)) (h1 ++ [.lst []])) := Fin.shift (o := _) fin1 st2
  have hpos : (al1 ++ [D])[h1.length]? = some D := by rw [← rh1.len]; simp
  have iwb := iw.keep st2.k
  have rsb := ((rs.stp st1).stp st2).wipe own
  generalize al1 ++ [D] = alb at *
  generalize h1 ++ [.lst []] = hb at *
  generalize upd H1 D (.lst []) = Hb at *
  generalize hn : h1.length = n at *
  generalize hg : (fun (_ : Unit) => if m then M.ret (R.ref n) else fzR (R.ref n)) = fin0 at fin2
  generalize hρ : Cy.wipe ρ own = ρw at *
  refine ⟨fun i mm H => mm = ds.length - i ∧ i ≤ ds.length ∧ ∃ al' h', RH X.K al' h' H ∧ Stp alb hb Hb al' h' H ∧
    Fin X.K X.mg (fun cls dd H' => W cls dd σ H') (RR X.K) al' h' H Q (((turns2 f0 f tg tg1 own1 ρw n (ds.drop i)).bnd fin0) h'), ⟨ds.length, by simp, Nat.zero_le _, alb, hb, rh2, Stp.refl _ _ _, fin2⟩, ?_⟩
  rintro i mm H2 ⟨rfl, hi, al', h', rh', st', fin3⟩
  by_cases hlt : i < ds.length
  · have hx : ds[i]? = some ds[i] := List.getElem?_eq_getElem hlt
    generalize ds[i] = x at hx
    have hdrop : ds.drop i = x :: ds.drop (i + 1) := by
      rw [List.drop_eq_getElem_cons hlt]
      rw [List.getElem?_eq_getElem hlt] at hx
      rw [Option.some.inj hx]
    rw [hdrop] at fin3
    unfold turns2 at fin3
    simp only [bnd_assoc] at fin3
    obtain ⟨ρ', eput, fin4⟩ := Fin.opt fin3
    obtain ⟨go, yl⟩ := (iwb _ _ st'.k rh'.noU i).1 x hx
    -- what a turn is to reach
    generalize hrest : (turns2 f0 f tg tg1 own1 ρw n (ds.drop (i + 1))).bnd fin0 = rest at *
    refine .inr ⟨go, fun H => i + 1 ≤ ds.length ∧ ∃ al' h', RH X.K al' h' H ∧ Stp alb hb Hb al' h' H ∧
      Fin X.K X.mg (fun cls dd H' => W cls dd σ H') (RR X.K) al' h' H Q (rest h'), fun H' p' => ⟨ds.length - (i + 1), by omega, rfl, by rw [hrest]; exact p'⟩, fun xv H' y => ?_⟩
    obtain ⟨grow, rd⟩ := yl xv H' y
    have rhg := rh'.grow grow
    have stg := Stp.grow rh' grow
    refine gT_ok tg (r := .d x) rd eput (rsb.stp (st'.trans stg)) fun σ' rs' w => ⟨?_, ?_⟩
    · rw [w own ht, wipe_wipe]
    refine ⟨al', h', ρ', rhg, rs', ?_⟩
    have fin5 := Fin.shift fin4 stg
    let Inner : It → Hp → Prop := fun J1 H4 => ∃ W1 : Nat → Nat → Hp → Prop, (∃ m, W1 0 m H4) ∧ ∀ j k H, W1 j k H →
      (J1.stop j H ∧ (i + 1 ≤ ds.length ∧ ∃ al' h', RH X.K al' h' H ∧ Stp alb hb Hb al' h' H ∧ Fin X.K X.mg (fun cls dd H' => W cls dd σ H') (RR X.K) al' h' H Q (rest h'))) ∨
      (J1.go j H ∧ ∃ Nx1 : Hp → Prop, (∀ H', Nx1 H' → ∃ k', k' < k ∧ W1 (j + 1) k' H') ∧ ∀ x H', J1.yld j H x H' → gT X.K tg1 x (L2.wipe σ' own1) H' fun σ3 H5 => L2.wipe σ3 own1 = L2.wipe σ' own1 ∧ tMb X W0 (ev cal cond1) σ3 H5 fun b H6 =>
        if b = true then tM X W0 (ev cal elt) σ3 H6 fun y H7 => ∃ acc, H7 D = some (.lst acc) ∧ acc.length < sizeLine ∧ Nx1 (upd H7 D (.lst (acc ++ [y]))) else Nx1 H6)
    have fin6 : Fin X.K X.mg (fun cls dd H' => W cls dd σ H') (relL X.K) al' h' H' (fun (o : Option It) H3 => match o with
        | some J1 => Inner J1 H3
        | none => i + 1 ≤ ds.length ∧ ∃ al' h', RH X.K al' h' H3 ∧ Stp alb hb Hb al' h' H3 ∧ Fin X.K X.mg (fun cls dd H' => W cls dd σ H') (RR X.K) al' h' H3 Q (rest h')) (f0 ρ' h') := by
      refine Fin.bnd fin5 fun o h3 al3 H3 v st3 rh3 rr3 fin7 => ?_
      have stb := (st'.trans stg).trans st3
      cases o with
      | none =>
        cases v with
        | some _ => exact rr3.elim
        | none => exact ⟨hlt, al3, h3, rh3, stb, fin7⟩
      | some es =>
        cases v with
        | none => exact rr3.elim
        | some J1 =>
          have rr3 : IW X.K (UU al3 h3) H3 es J1 := rr3
          have rs3 := (rs'.stp st3).wipe own1
          have fin7 : Fin X.K X.mg (fun cls dd H' => W cls dd σ H') (RR X.K) al3 h3 H3 Q (((turns f tg1 (Cy.wipe ρ' own1) n es).bnd fun _ => rest) h3) := fin7
          generalize Cy.wipe ρ' own1 = ρ1 at *
          refine ⟨fun j kk H => kk = es.length - j ∧ j ≤ es.length ∧ ∃ al' h', RH X.K al' h' H ∧ Stp al3 h3 H3 al' h' H ∧
            Fin X.K X.mg (fun cls dd H' => W cls dd σ H') (RR X.K) al' h' H Q (((turns f tg1 ρ1 n (es.drop j)).bnd fun _ => rest) h'), ⟨es.length, by simp, Nat.zero_le _, al3, h3, rh3, Stp.refl _ _ _, fin7⟩, ?_⟩
          rintro j kk H4 ⟨rfl, hj, al4, h4, rh4, st4, fin8⟩
          by_cases hlt1 : j < es.length
          · have hx1 : es[j]? = some es[j] := List.getElem?_eq_getElem hlt1
            generalize es[j] = x1 at hx1
            have hdrop1 : es.drop j = x1 :: es.drop (j + 1) := by
              rw [List.drop_eq_getElem_cons hlt1]
              rw [List.getElem?_eq_getElem hlt1] at hx1
              rw [Option.some.inj hx1]
            rw [hdrop1] at fin8
            unfold turns at fin8
            simp only [bnd_assoc] at fin8
            obtain ⟨ρ2, eput1, fin9⟩ := Fin.opt fin8
            obtain ⟨go1, yl1⟩ := (rr3 _ _ st4.k rh4.noU j).1 x1 hx1
            refine .inr ⟨go1, fun H => j + 1 ≤ es.length ∧ ∃ al' h', RH X.K al' h' H ∧ Stp al3 h3 H3 al' h' H ∧
              Fin X.K X.mg (fun cls dd H' => W cls dd σ H') (RR X.K) al' h' H Q (((turns f tg1 ρ1 n (es.drop (j + 1))).bnd fun _ => rest) h'), fun H' p' => ⟨es.length - (j + 1), by omega, rfl, p'⟩, fun xv1 H5 y1 => ?_⟩
            obtain ⟨grow1, rd1⟩ := yl1 xv1 H5 y1
            have rhg1 := rh4.grow grow1
            have stg1 := Stp.grow rh4 grow1
            refine gT_ok tg1 (r := .d x1) rd1 eput1 (rs3.stp (st4.trans stg1)) fun σ3 rs4 w1 => ⟨?_, ?_⟩
            · rw [w1 own1 ht1, wipe_wipe]
            refine ⟨al4, h4, ρ2, rhg1, rs4, ?_⟩
            have fin10 := Fin.shift fin9 stg1
            have fin11 : Fin X.K X.mg (fun cls dd H' => W cls dd σ H') (relO X.K) al4 h4 H5 (fun (o : Option V) H6 => match o with
                | some v => ∃ acc, H6 D = some (.lst acc) ∧ acc.length < sizeLine ∧ (j + 1 ≤ es.length ∧ ∃ al' h', RH X.K al' h' (upd H6 D (.lst (acc ++ [v]))) ∧ Stp al3 h3 H3 al' h' (upd H6 D (.lst (acc ++ [v]))) ∧
                    Fin X.K X.mg (fun cls dd H' => W cls dd σ H') (RR X.K) al' h' (upd H6 D (.lst (acc ++ [v]))) Q (((turns f tg1 ρ1 n (es.drop (j + 1))).bnd fun _ => rest) h'))
                | none => j + 1 ≤ es.length ∧ ∃ al' h', RH X.K al' h' H6 ∧ Stp al3 h3 H3 al' h' H6 ∧
                    Fin X.K X.mg (fun cls dd H' => W cls dd σ H') (RR X.K) al' h' H6 Q (((turns f tg1 ρ1 n (es.drop (j + 1))).bnd fun _ => rest) h')) (f ρ2 h4) := by
              refine Fin.bnd fin10 fun o h6 al6 H6 v st6 rh6 rr6 fin12 => ?_
              have stc := (st4.trans stg1).trans st6
              cases o with
              | none =>
                cases v with
                | some _ => exact rr6.elim
                | none => exact ⟨hlt1, al6, h6, rh6, stc, fin12⟩
              | some d =>
                cases v with
                | none => exact rr6.elim
                | some v =>
                  have ea : al6[n]? = some D := (stb.trans stc).pre n D hpos
                  obtain ⟨vs, h7, eh, hz, st7, rh7, fin13⟩ := Fin.app fin12 rh6 ea rr6
                  exact ⟨vs, eh, hz, hlt1, al6, h7, rh7, stc.trans st7, fin13⟩
            subst hf
            have fin12 := Fin.ofNox (E' := fun cls dd H' => W0 cls dd σ3 H') fin11
            refine Fin.boolOf fin12 fun b h6 al6 H6 st6 rh6 fin13 => ⟨b, rfl, ?_⟩
            cases b with
            | false =>
              refine iteF ?_
              exact Fin.ret (α := Option PyData) (r := none) (v := none) fin13 rh6 trivial
            | true =>
              refine iteT ⟨al6, h6, ρ2, rh6, rs4.stp st6, Fin.bnd fin13 fun y h7 al7 H7 yv st7 rh7 rr7 fin14 => ?_⟩
              obtain ⟨dy, rfl, rdy, fin15⟩ := Fin.pur fin14 rr7
              exact Fin.ret (α := Option PyData) (r := some dy) (v := some yv) fin15 rh7 rdy
          · have e : j = es.length := by omega
            subst e
            rw [List.drop_length] at fin8
            unfold turns at fin8
            exact .inl ⟨(rr3 _ _ st4.k rh4.noU es.length).2 (Nat.le_refl _), hlt, al4, h4, rh4, stb.trans st4, fin8⟩
    subst hf0
    have fin7 := Fin.ofNox (E' := fun cls dd H' => W0 cls dd σ' H') fin6
    refine Fin.boolOf fin7 fun b h3 al3 H3 st3 rh3 fin8 => ⟨b, rfl, ?_⟩
    cases b with
    | false =>
      refine iteF ?_
      exact Fin.ret (α := Option (List PyData)) (r := none) (v := none) fin8 rh3 trivial
    | true =>
      refine iteT ⟨al3, h3, ρ', rh3, rs'.stp st3, Fin.bnd (m := itM cal it1 ρ') fin8 fun es h4 al4 H4 J1 st4 rh4 rr4 fin9 => ?_⟩
      exact Fin.ret (α := Option (List PyData)) (r := some es) (v := some J1) fin9 rh4 rr4
  · have e : i = ds.length := by omega
    subst e
    rw [List.drop_length] at fin3
    unfold turns2 at fin3
    have fin4 : Fin X.K X.mg (fun cls dd H' => W cls dd σ H') (RR X.K) al' h' H2 Q (fin0 () h') := fin3
    rw [← hg] at fin4
    have ea : al'[n]? = some D := st'.pre n D hpos
    refine .inl ⟨(iwb _ _ st'.k rh'.noU ds.length).2 (Nat.le_refl _), ?_⟩
    cases m with
    | true => exact Fin.ret (α := R) (r := .ref n) fin4 rh' ⟨D, ea, rfl⟩
    | false => exact Fin.fz fin4 rh' ea
theorem comp2_ok (g : Gx T cal k X sc N) {m : Bool} {own own1 : List Nat} {elt it cond it1 cond1 : E} {tg tg1 : Tg} {ptg pit ptg1 pit1 pelt : Expr} {pifs pifs1 : List Expr} {scope : Scope} {pos : Pos} (hi : PI X ptg pit (tIt X W (itM cal it)))
    (hs : ∀ x, foldedSetIterable pit X.env x = pure x) (hs1 : ∀ env x, foldedSetIterable pit1 env x = pure x) (hb : blkC N sc scope (ownOf N own) = true) (ho : (ownOf N own).map (·.2) = own) (ht : ∀ i ∈ tgS tg, i ∈ own) (hv : ∀ i ∈ own1, i ∈ own) (ht1 : ∀ i ∈ tgS tg1, i ∈ own1)
    (hg : chkT (fncOf scope) (relS scope sc) N tg ptg = true) (hg1 : chkT (fncOf scope) (relS scope sc) N tg1 ptg1 = true)
    (hi1 : ∀ (s : Shared) (H : Hp) (C : Addr) (cl : List (Str × Addr)) (fp : List Addr), PI (X.blk s H scope (compEnvC scope cl C X.env) fp) ptg1 pit1 (tIt X W0 (itM cal it1)))
    (hc : ∀ (s : Shared) (H : Hp) (C : Addr) (cl : List (Str × Addr)) (fp : List Addr), PTs (X.blk s H scope (compEnvC scope cl C X.env) fp) pifs (tMb X W0 (ev cal cond)))
    (hc1 : ∀ (s : Shared) (H : Hp) (C : Addr) (cl : List (Str × Addr)) (fp : List Addr), PTs (X.blk s H scope (compEnvC scope cl C X.env) fp) pifs1 (tMb X W0 (ev cal cond1)))
    (he : ∀ (s : Shared) (H : Hp) (C : Addr) (cl : List (Str × Addr)) (fp : List Addr), PE (X.blk s H scope (compEnvC scope cl C X.env) fp) pelt (tM X W0 (ev cal elt))) :
    PE X (.ListComp pelt [⟨ptg, pit, pifs, 0⟩, ⟨ptg1, pit1, pifs1, 0⟩] scope pos) (tM X W (ev cal (.comp2 m own own1 elt tg it cond tg1 it1 cond1))) := by
  refine PE.imp (pe_lc2 (own := ownOf N own) (vs1 := own1) (g := gT X.K tg) (g1 := gT X.K tg1) g.calm (by rw [g.nN]; exact g.nd) hi (by rw [g.nN, g.sc]; exact blkOk_by hb) (by rw [ho]; exact hv) (fun s H C cl fp => ?_) hc hi1 (fun s H C cl fp => ?_) hc1 he hs hs1) fun σ H Q h => by rw [ho]; exact comp2_go ht ht1 h
  · exact chkT_ok (X := X.blk s H scope (compEnvC scope cl C X.env) fp) g.nN g.nd (show relS scope X.env.scope = _ by rw [g.sc]) g.calm (fun x hx => hx) hg
  · exact chkT_ok (X := X.blk s H scope (compEnvC scope cl C X.env) fp) g.nN g.nd (show relS scope X.env.scope = _ by rw [g.sc]) g.calm (fun x hx => hx) hg1
end
end Cy


set_option Elab.async false
set_option linter.all false
set_option maxRecDepth 100000
set_option maxHeartbeats 4000000
/-! L3h: the rest of the rules; the check speaks for all. -/
namespace Cy
open PySem PySem.Spec PyProof.Rows L2

section
variable {T : Tb} {cal : Cal} {k : Nat} {X : Cx} {sc : Scope} {N : List Str} {W : WX}

theorem dnew_ok {t : Bool} {pos : Pos} : PE X (.Dict [] [] pos) (tM X W (ev cal (.dnew t))) := by
  cases t with
  | true =>
    refine PE.imp pe_dnewT fun σ H Q ⟨al, hh, ρ, rh, rs, fin⟩ p np => ?_
    unfold ev at fin
    obtain ⟨st, rh'⟩ := new_cell (c := .dct true []) (o := .dT []) rh np rfl ⟨[], upd_same, .nil⟩
    exact fin _ _ (.ref p) st rh' ⟨p, by rw [← rh.len]; simp, rfl⟩
  | false =>
    refine PE.imp pe_dnewK fun σ H Q ⟨al, hh, ρ, rh, rs, fin⟩ p np => ?_
    unfold ev at fin
    obtain ⟨st, rh'⟩ := new_cell (c := .dct false []) (o := .dK []) rh np rfl ⟨[], upd_same, .nil⟩
    exact fin _ _ (.ref p) st rh' ⟨p, by rw [← rh.len]; simp, rfl⟩

theorem dict_at (g : Gx T cal k X sc N) {n : Nat} {kvs : List (D × D)} {x : Str} (h1 : (T.dnm.any fun p => decide (p.1 = n) && decide (p.2.1 = x) && beqDk p.2.2 kvs) = true) :
    ∃ (d : Addr) (es : Array DictEntry) (n : Nat), X.mg x = some (.ref d) ∧ KDict X.K X.w d es n ∧ ∀ z, match findK z kvs with
    | none => PySem.W.nsIn X.K d z = some none
    | some y => ∃ u v, PySem.W.nsIn X.K d z = some (some u) ∧ RelV v u ∧ ∀ U H, RD X.K U H y v := by
  obtain ⟨p, hp, q⟩ := List.any_eq_true.mp h1
  simp only [Bool.and_eq_true, decide_eq_true_eq] at q
  obtain ⟨⟨q1, q2⟩, q3⟩ := q
  obtain ⟨d, es, m, hm, kd, f⟩ := g.dicts p hp
  rw [q2] at hm
  rw [beqDk_eq q3] at f
  exact ⟨d, es, m, hm, kd, f⟩
theorem ing_ok (g : Gx T cal k X sc N) {neg : Bool} {a : E} {n : Nat} {kvs : List (D × D)} {x : Str} {pa : Expr} {p pos : Pos} (h1 : (T.dnm.any fun p => decide (p.1 = n) && decide (p.2.1 = x) && beqDk p.2.2 kvs) = true) (h2 : glB sc x = true) (h3 : okN x = true)
    (ha : PE X pa (tM X W (ev cal a))) : PE X (.Compare pa [if neg then CmpOp.NotIn else CmpOp.In] [.Name x p] pos) (tM X W (ev cal (.ing neg a n kvs))) ∧ PT X (.Compare pa [if neg then CmpOp.NotIn else CmpOp.In] [.Name x p] pos) (tMb X W (ev cal (.ing neg a n kvs))) := by
  obtain ⟨n1, n2, n3⟩ := okN_ok h3
  obtain ⟨d, es, m, hm, kd, f⟩ := dict_at g h1
  have go : ∀ σ H Q, tM X W (ev cal (.ing neg a n kvs)) σ H Q → tOp (fun x y H Q => ∃ (z : Str) (r : Option Value), x = .str z ∧ y = .ref d ∧ PySem.W.nsIn X.K d z = some r ∧ Q (.bl (if neg then !r.isSome else r.isSome)) H) (tM X W (ev cal a)) (tC (.ref d)) σ H Q := fun σ H Q ⟨al, hh, ρ, rh, rs, fin⟩ => by
    unfold ev at fin
    refine ⟨al, hh, ρ, rh, rs, Fin.bnd fin fun r1 h1 al1 H1 v1 st1 rh1 rr1 fin1 => ?_⟩
    obtain ⟨y, rfl, rd, fin2⟩ := Fin.pur fin1 rr1
    cases y with
    | str z =>
      cases rd
      have fz := f z
      have q := Fin.ret (α := R) (r := .d (.bool (if neg then !(findK z kvs).isSome else (findK z kvs).isSome))) fin2 rh1 (.bl _)
      cases e : findK z kvs with
      | none =>
        rw [e] at fz q
        exact ⟨z, none, rfl, rfl, fz, q⟩
      | some y =>
        rw [e] at fz q
        obtain ⟨u, v, e2, _⟩ := fz
        exact ⟨z, some u, rfl, rfl, e2, q⟩
    | _ => exact fin2.elim
  have pn : PE X (.Name x p) (tC (.ref d)) := pe_glob (g.gl h2) hm rfl n1
  cases neg with
  | true =>
    exact ⟨PE.imp (pe_cmpR (op_notIn_kd kd) ha pn rfl) go, PT.imp (pt_cmpR (op_notIn_kd kd) ha pn rfl) fun σ H Q h => go σ H _ h⟩
  | false =>
    exact ⟨PE.imp (pe_cmpR (op_in_kd kd) ha pn rfl) go, PT.imp (pt_cmpR (op_in_kd kd) ha pn rfl) fun σ H Q h => go σ H _ h⟩
theorem ixg_ok (g : Gx T cal k X sc N) {a : E} {n : Nat} {kvs : List (D × D)} {x : Str} {pa : Expr} {p pos : Pos} (h1 : (T.dnm.any fun p => decide (p.1 = n) && decide (p.2.1 = x) && beqDk p.2.2 kvs) = true) (h2 : glB sc x = true) (h3 : okN x = true) (hn : notSlice pa = true)
    (ha : PE X pa (tM X W (ev cal a))) : PE X (.Subscript (.Name x p) pa pos) (tM X W (ev cal (.ixg n kvs a))) := by
  obtain ⟨n1, n2, n3⟩ := okN_ok h3
  obtain ⟨d, es, m, hm, kd, f⟩ := dict_at g h1
  have pn : PE X (.Name x p) (tC (.ref d)) := pe_glob (g.gl h2) hm rfl n1
  refine PE.imp (pe_ix ix_kdict pn ha (ix_plain hn)) fun σ H Q ⟨al, hh, ρ, rh, rs, fin⟩ => ?_
  unfold ev at fin
  refine ⟨al, hh, ρ, rh, rs, Fin.bnd fin fun r1 h1 al1 H1 v1 st1 rh1 rr1 fin1 => ?_⟩
  obtain ⟨y, rfl, rd, fin2⟩ := Fin.pur fin1 rr1
  cases y with
  | str z =>
    cases rd
    have fz := f z
    obtain ⟨y, e, fin3⟩ := Fin.opt fin2
    rw [e] at fz
    obtain ⟨u, v, e2, r, rd2⟩ := fz
    exact ⟨d, z, v, rfl, rfl, ⟨es, m, u, kd.at_, kd.lit, e2, r⟩, Fin.ret (α := R) (r := .d y) fin3 rh1 (rd2 _ _)⟩
  | _ => exact fin2.elim

theorem pa_no : PA X [] (tMs X W (evs cal [])) := PA.imp pa_nil fun σ H Q ⟨al, hh, ρ, rh, rs, fin⟩ => Fin.ret (α := List R) (r := []) fin rh .nil
theorem pa_more {e : E} {es : List E} {p : Expr} {ps : List Expr} (h1 : PE X p (tM X W (ev cal e))) (h2 : PA X ps (tMs X W (evs cal es))) (hs : notStar p = true) : PA X (p :: ps) (tMs X W (evs cal (e :: es))) := by
  refine PA.imp (pa_cons h1 h2 (star_cons hs)) fun σ H Q ⟨al, hh, ρ, rh, rs, fin⟩ => ?_
  unfold evs at fin
  refine ⟨al, hh, ρ, rh, rs, Fin.bnd fin fun r h1 al1 H1 v st1 rh1 rr fin1 => ⟨al1, h1, ρ, rh1, rs.stp st1, Fin.bnd fin1 fun rs2 h2 al2 H2 vs st2 rh2 rr2 fin2 => ?_⟩⟩
  exact Fin.ret (α := List R) (r := r :: rs2) fin2 rh2 (.cons (rr.stp st2) rr2)
theorem chks_star : ∀ {es : List E} {ps : List Expr}, chks T sc N es ps = true → ps.all notStar = true
  | [], [], _ => rfl
  | [], _ :: _, h => by simp [chks] at h
  | _ :: _, [], h => by simp [chks] at h
  | e :: es, p :: ps, h => by
    unfold chks at h
    simp only [Bool.and_eq_true] at h
    rw [List.all_cons, h.1.1, chks_star h.2]
    rfl
theorem Gx.blk (g : Gx T cal k X sc N) (s : Shared) (H : Hp) (scope : Scope) (C : Addr) (cl : List (Str × Addr)) (fp : List Addr) : Gx T cal k (X.blk s H scope (compEnvC scope cl C X.env) fp) (relS scope sc) N :=
  ⟨g.nN, g.nd, show relS scope X.env.scope = _ by rw [g.sc], g.calm, g.room, g.gd, g.calls, g.globs, g.dicts, g.blt⟩
theorem pts_yes : PTs X [] (tMb X W (ev cal (.lit (.bool true)))) := ⟨fun pins s σ H Q I ⟨al, hh, ρ, rh, rs, fin⟩ => by
  obtain ⟨b, e, q⟩ := Fin.ret (α := R) (r := .d (.bool true)) fin rh (.bl true)
  cases e
  exact pts_nil.run pins s σ H Q I q⟩
end
end Cy


set_option Elab.async false
set_option linter.all false
set_option maxRecDepth 100000
set_option maxHeartbeats 8000000
/-! L3i: the check speaks for all expressions. -/
namespace Cy
open PySem PySem.Spec PyProof.Rows L2

theorem nil_no {e : E} (h : (!(isNil e)) = true) : isNil e = false := by simpa using h
theorem yes_eq {e : E} (h : isYes e = true) : e = .lit (.bool true) := by
  unfold isYes at h
  split at h
  · rfl
  · cases h
theorem nil_eq {e : E} (h : isNil e = true) : e = .nil := by
  unfold isNil at h
  split at h
  · rfl
  · cases h
def isBo : Expr → Bool
  | .BoolOp .. => true
  | _ => false
theorem no_bo {e : Expr} (h : isBo e = true) : ¬ plainT e = true := by
  cases e <;> first | (intro z; cases z; done) | cases h
theorem mth_one {T : Tb} {cal : Cal} {sc : Scope} {N : List Str} {es : List E} {pe : Expr} (h : chks T sc N es [pe] = true) : ∃ e, es = [e] ∧ notStar pe = true ∧ chk T sc N e pe = true := by
  cases es with
  | nil => simp [chks] at h
  | cons e es =>
    unfold chks at h
    cases es with
    | nil =>
      simp only [Bool.and_eq_true] at h
      exact ⟨e, rfl, h.1.1, h.1.2⟩
    | cons _ _ => simp [chks] at h

section
variable {T : Tb} {cal : Cal} {k : Nat} {N : List Str}
mutual
theorem pe_ok : ∀ (e : E) {X : Cx} {sc : Scope} {W : WX}, Gx T cal k X sc N → Takes X W → ∀ {pe : Expr}, chk T sc N e pe = true → PE X pe (tM X W (ev cal e))
  | .lit d, X, sc, W, g, tk, pe, h => by
    unfold chk chkM at h
    try dsimp only at h
    split at h
    · exact lit_ok h
    · cases h
  | .v i, X, sc, W, g, tk, pe, h => by
    unfold chk chkM at h
    try dsimp only at h
    split at h
    · simp only [Bool.and_eq_true, decide_eq_true_eq] at h
      exact v_ok g h.1.1 h.1.2 h.2
    · cases h
  | .fz i, X, sc, W, g, tk, pe, h => by
    unfold chk chkM at h
    try dsimp only at h
    split at h
    · simp only [Bool.and_eq_true, decide_eq_true_eq] at h
      exact fz_ok g h.1.1 h.1.2 h.2
    · cases h
  | .gl n d, X, sc, W, g, tk, pe, h => by
    unfold chk chkM at h
    try dsimp only at h
    split at h
    · rw [Bool.and_eq_true, Bool.and_eq_true] at h
      exact gl_ok g h.1.1 h.1.2 h.2
    · cases h
  | .ing neg a n kvs, X, sc, W, g, tk, pe, h => by
    unfold chk chkM at h
    try dsimp only at h
    split at h
    · rw [Bool.and_eq_true, Bool.and_eq_true, Bool.and_eq_true, Bool.and_eq_true, decide_eq_true_eq] at h
      obtain ⟨⟨⟨⟨rfl, h1⟩, h2⟩, h3⟩, h4⟩ := h
      exact (ing_ok g h1 h2 h3 (pe_ok a g tk h4)).1
    · cases h
  | .ixg n kvs a, X, sc, W, g, tk, pe, h => by
    unfold chk chkM at h
    try dsimp only at h
    split at h
    · rw [Bool.and_eq_true, Bool.and_eq_true, Bool.and_eq_true, Bool.and_eq_true] at h
      obtain ⟨⟨⟨⟨h1, h2⟩, h3⟩, h4⟩, h5⟩ := h
      exact ixg_ok g h1 h2 h3 h4 (pe_ok a g tk h5)
    · cases h
  | .tup es, X, sc, W, g, tk, pe, h => by
    unfold chk chkM at h
    try dsimp only at h
    split at h
    · exact tup_ok (pas_ok es g tk h)
    · cases h
  | .lst m es, X, sc, W, g, tk, pe, h => by
    unfold chk chkM at h
    try dsimp only at h
    split at h
    · exact lst_ok (pas_ok es g tk h)
    · cases h
  | .dnew t, X, sc, W, g, tk, pe, h => by
    unfold chk chkM at h
    try dsimp only at h
    split at h
    · exact dnew_ok
    · cases h
  | .bin m op a b, X, sc, W, g, tk, pe, h => by
    unfold chk chkM at h
    try dsimp only at h
    split at h
    · simp only [Bool.and_eq_true, decide_eq_true_eq] at h
      obtain ⟨⟨rfl, h1⟩, h2⟩ := h
      exact bin_ok g (pe_ok a g tk h1) (pe_ok b g tk h2)
    · cases h
  | .neg a, X, sc, W, g, tk, pe, h => by
    unfold chk chkM at h
    try dsimp only at h
    split at h
    · exact neg_ok (pe_ok a g tk h)
    · cases h
  | .cmp op a b, X, sc, W, g, tk, pe, h => by
    unfold chk chkM at h
    try dsimp only at h
    split at h
    · simp only [Bool.and_eq_true, decide_eq_true_eq] at h
      obtain ⟨⟨⟨rfl, h1⟩, h2⟩, h3⟩ := h
      exact (cmp_ok g h1 (pe_ok a g tk h2) (pe_ok b g tk h3)).1
    · cases h
  | .chn o1 o2 a b c, X, sc, W, g, tk, pe, h => by
    unfold chk chkM at h
    try dsimp only at h
    split at h
    · simp only [Bool.and_eq_true, decide_eq_true_eq] at h
      obtain ⟨⟨⟨⟨⟨rfl, rfl⟩, h1⟩, h2⟩, h3⟩, h4⟩ := h
      exact (chn_ok g h1 (pe_ok a g tk h2) (pe_ok b g tk h3) (pe_ok c g tk h4)).1
    · cases h
  | .chn3 o1 o2 o3 a b c d, X, sc, W, g, tk, pe, h => by
    unfold chk chkM at h
    try dsimp only at h
    split at h
    · simp only [Bool.and_eq_true, decide_eq_true_eq] at h
      obtain ⟨⟨⟨⟨⟨⟨⟨rfl, rfl⟩, rfl⟩, h1⟩, h2⟩, h3⟩, h4⟩, h5⟩ := h
      exact chn3_ok g h1 (pe_ok a g tk h2) (pe_ok b g tk h3) (pe_ok c g tk h4) (pe_ok d g tk h5)
    · cases h
  | .and a b, X, sc, W, g, tk, pe, h => by
    unfold chk chkM at h
    try dsimp only at h
    split at h
    · rw [Bool.and_eq_true] at h
      obtain ⟨h1, h2⟩ := h
      split at h2
      · exact and_ok (pe_ok a g tk h1) (pe_one (pe_ok b g tk h2))
      · exact and_ok (pe_ok a g tk h1) (pe_ok b g tk h2)
    · cases h
  | .or a b, X, sc, W, g, tk, pe, h => by
    unfold chk chkM at h
    try dsimp only at h
    split at h
    · rw [Bool.and_eq_true] at h
      obtain ⟨h1, h2⟩ := h
      split at h2
      · exact or_ok (pe_ok a g tk h1) (pe_one (pe_ok b g tk h2))
      · exact or_ok (pe_ok a g tk h1) (pe_ok b g tk h2)
    · cases h
  | .not a, X, sc, W, g, tk, pe, h => by
    unfold chk chkM at h
    try dsimp only at h
    split at h
    · exact not_ok (pe_ok a g tk h)
    · cases h
  | .ite c a b, X, sc, W, g, tk, pe, h => by
    unfold chk chkM at h
    try dsimp only at h
    split at h
    · simp only [Bool.and_eq_true] at h
      exact ite_ok (pt_ok c g tk h.1.1).1 (pe_ok a g tk h.1.2) (pe_ok b g tk h.2)
    · cases h
  | .ix a i, X, sc, W, g, tk, pe, h => by
    unfold chk chkM at h
    try dsimp only at h
    split at h
    · simp only [Bool.and_eq_true] at h
      exact ixE_ok h.1.1 (pe_ok a g tk h.1.2) (pe_ok i g tk h.2)
    · cases h
  | .sl m a lo hi, X, sc, W, g, tk, pe, h => by
    unfold chk chkM at h
    try dsimp only at h
    split at h
    · rw [Bool.and_eq_true, Bool.and_eq_true] at h
      obtain ⟨⟨h1, h2⟩, h3⟩ := h
      refine sl_ok' g (pe_ok a g tk h1) ?_ ?_
      · split at h2
        · exact nil_eq h2
        · rw [Bool.and_eq_true] at h2
          exact ⟨nil_no h2.1, pe_ok lo g tk h2.2⟩
      · split at h3
        · exact nil_eq h3
        · rw [Bool.and_eq_true] at h3
          exact ⟨nil_no h3.1, pe_ok hi g tk h3.2⟩
    · cases h
  | .nil, X, sc, W, g, tk, pe, h => by exact absurd (show false = true from h) (by decide)
  | .isi t a, X, sc, W, g, tk, pe, h => by
    unfold chk chkM at h
    try dsimp only at h
    split at h
    · simp only [Bool.and_eq_true, decide_eq_true_eq] at h
      obtain ⟨⟨⟨⟨⟨rfl, h1⟩, rfl⟩, h2⟩, h3⟩, h4⟩ := h
      exact isi_ok g h1 h2 h3 (pe_ok a g tk h4)
    · cases h
  | .bif m f es, X, sc, W, g, tk, pe, h => by
    unfold chk chkM at h
    try dsimp only at h
    split at h
    · simp only [Bool.and_eq_true, decide_eq_true_eq] at h
      obtain ⟨⟨rfl, h1⟩, h2⟩ := h
      exact bif_ok g h1 (chks_star h2) (pas_ok es g tk h2)
    · cases h
  | .mth m f o es, X, sc, W, g, tk, pe, h => by
    unfold chk chkM at h
    try dsimp only at h
    split at h
    · rename_i po nm apos pe pos
      cases es with
      | nil => simp [chks] at h
      | cons e es =>
        cases es with
        | cons _ _ => simp [chks] at h
        | nil =>
          simp only [Bool.and_eq_true, decide_eq_true_eq, chks] at h
          obtain ⟨⟨⟨⟨rfl, h1⟩, h2⟩, h3⟩, ⟨h4, h5⟩, _⟩ := h
          exact mth_ok g h1 h2 h4 ⟨e, rfl, pe_ok e g tk h5⟩ (pe_ok o g tk h3)
    · cases h
  | .app o e, X, sc, W, g, tk, pe, h => by
    unfold chk chkM at h
    try dsimp only at h
    split at h
    · simp only [Bool.and_eq_true, decide_eq_true_eq] at h
      obtain ⟨⟨⟨⟨⟨rfl, h1⟩, h2⟩, h3⟩, h4⟩, h5⟩ := h
      exact app_ok g h1 h2 h3 (pe_ok e g tk h5) (pe_ok o g tk h4)
    · cases h
  | .pop o i, X, sc, W, g, tk, pe, h => by
    unfold chk chkM at h
    try dsimp only at h
    split at h
    · simp only [Bool.and_eq_true, decide_eq_true_eq] at h
      obtain ⟨⟨⟨⟨⟨rfl, h1⟩, h2⟩, h3⟩, h4⟩, h5⟩ := h
      exact pop_ok g h1 h2 h3 (pe_ok i g tk h5) (pe_ok o g tk h4)
    · cases h
  | .popl o, X, sc, W, g, tk, pe, h => by
    unfold chk chkM at h
    try dsimp only at h
    split at h
    · simp only [Bool.and_eq_true, decide_eq_true_eq] at h
      obtain ⟨⟨⟨rfl, h1⟩, h2⟩, h3⟩ := h
      exact popl_ok g h1 h2 (pe_ok o g tk h3)
    · cases h
  | .call f es, X, sc, W, g, tk, pe, h => by
    unfold chk chkM at h
    try dsimp only at h
    split at h
    · simp only [Bool.and_eq_true, decide_eq_true_eq] at h
      obtain ⟨⟨⟨h1, h2⟩, h3⟩, h4⟩ := h
      exact call_ok g tk h1 h2 h3 (chks_star h4) (pas_ok es g tk h4)
    · cases h
  | .rng es, X, sc, W, g, tk, pe, h => by exact absurd (show false = true from h) (by decide)
  | .enm a, X, sc, W, g, tk, pe, h => by exact absurd (show false = true from h) (by decide)
  | .zip a b, X, sc, W, g, tk, pe, h => by exact absurd (show false = true from h) (by decide)
  | .comp m own elt tg it cond, X, sc, W, g, tk, pe, h => by
    unfold chk chkM at h
    try dsimp only at h
    split at h
    · rw [Bool.and_eq_true, Bool.and_eq_true, Bool.and_eq_true, Bool.and_eq_true, Bool.and_eq_true, Bool.and_eq_true, Bool.and_eq_true, decide_eq_true_eq] at h
      obtain ⟨⟨⟨⟨⟨⟨⟨h1, h2⟩, h3⟩, h4⟩, h5⟩, h6⟩, h7⟩, h8⟩ := h
      refine comp_ok g (pi_ok it g tk h2) (fold_no h1) h3 h4 (fun i hi => ?_) h6 (fun s H C cl fp => ?_) (fun s H C cl fp => pe_ok elt (g.blk s H _ C cl fp) takes0 h7)
      · rw [List.all_eq_true] at h5
        simpa using h5 i hi
      · split at h8
        · rw [yes_eq h8]
          exact pts_yes
        · exact pts_one (pt_ok cond (g.blk s H _ C cl fp) takes0 h8).1
        · cases h8
    · cases h
  | .comp2 m own own1 elt tg it cond tg1 it1 cond1, X, sc, W, g, tk, pe, h => by
    unfold chk chkM at h
    try dsimp only at h
    split at h
    · rw [Bool.and_eq_true, Bool.and_eq_true, Bool.and_eq_true, Bool.and_eq_true, Bool.and_eq_true, Bool.and_eq_true, Bool.and_eq_true, Bool.and_eq_true, Bool.and_eq_true, Bool.and_eq_true, Bool.and_eq_true, Bool.and_eq_true, Bool.and_eq_true, decide_eq_true_eq] at h
      obtain ⟨⟨⟨⟨⟨⟨⟨⟨⟨⟨⟨⟨⟨h1, h1'⟩, h2⟩, h3⟩, h4⟩, h5⟩, h5'⟩, h5''⟩, h6⟩, h6'⟩, h7⟩, h8⟩, h9⟩, h10⟩ := h
      refine comp2_ok g (pi_ok it g tk h2) (fold_no h1) (fun env => fold_no h1') h3 h4 (fun i hi => ?_) (fun i hi => ?_) (fun i hi => ?_) h6 h6' (fun s H C cl fp => pi_ok it1 (g.blk s H _ C cl fp) takes0 h7) (fun s H C cl fp => ?_) (fun s H C cl fp => ?_) (fun s H C cl fp => pe_ok elt (g.blk s H _ C cl fp) takes0 h8)
      · rw [List.all_eq_true] at h5
        simpa using h5 i hi
      · rw [List.all_eq_true] at h5'
        simpa using h5' i hi
      · rw [List.all_eq_true] at h5''
        simpa using h5'' i hi
      · split at h9
        · rw [yes_eq h9]
          exact pts_yes
        · exact pts_one (pt_ok cond (g.blk s H _ C cl fp) takes0 h9).1
        · cases h9
      · split at h10
        · rw [yes_eq h10]
          exact pts_yes
        · exact pts_one (pt_ok cond1 (g.blk s H _ C cl fp) takes0 h10).1
        · cases h10
    · cases h
termination_by e => (sizeOf e, 0)
decreasing_by all_goals (first | decreasing_tactic | (simp_wf; omega))
theorem pas_ok : ∀ (es : List E) {X : Cx} {sc : Scope} {W : WX}, Gx T cal k X sc N → Takes X W → ∀ {pes : List Expr}, chks T sc N es pes = true → PA X pes (tMs X W (evs cal es))
  | [], X, sc, W, g, tk, pes, h => by
    unfold chks at h
    split at h
    · exact pa_no
    · cases h
  | e :: es, X, sc, W, g, tk, pes, h => by
    unfold chks at h
    split at h
    · simp only [Bool.and_eq_true] at h
      exact pa_more (pe_ok e g tk h.1.2) (pas_ok es g tk h.2) h.1.1
    · cases h
termination_by es => (sizeOf es, 0)
decreasing_by all_goals (first | decreasing_tactic | (simp_wf; omega))
theorem pt_ok : ∀ (e : E) {X : Cx} {sc : Scope} {W : WX}, Gx T cal k X sc N → Takes X W → ∀ {pe : Expr}, chkB T sc N e pe = true → PT X pe (tMb X W (ev cal e)) ∧ (isBo pe = true → PW X pe (tMb X W (ev cal e)))
  | .and a b, X, sc, W, g, tk, pe, h => by
    unfold chkB chkM at h
    try dsimp only at h
    split at h
    · rename_i pa pb rest pos
      rw [Bool.and_eq_true] at h
      obtain ⟨h1, h2⟩ := h
      split at h2
      · have w := andT_ok (pos := pos) (pt_ok a g tk h1).1 (pw_and1 (pt_ok b g tk h2).1)
        exact ⟨w.pt, fun _ => w⟩
      · have w := andT_ok (pos := pos) (pt_ok a g tk h1).1 ((pt_ok b g tk h2).2 rfl)
        exact ⟨w.pt, fun _ => w⟩
    · cases h
  | .or a b, X, sc, W, g, tk, pe, h => by
    unfold chkB chkM at h
    try dsimp only at h
    split at h
    · rename_i pa pb rest pos
      rw [Bool.and_eq_true] at h
      obtain ⟨h1, h2⟩ := h
      split at h2
      · have w := orT_ok (pos := pos) (pt_ok a g tk h1).1 (pw_or1 (pt_ok b g tk h2).1)
        exact ⟨w.pt, fun _ => w⟩
      · have w := orT_ok (pos := pos) (pt_ok a g tk h1).1 ((pt_ok b g tk h2).2 rfl)
        exact ⟨w.pt, fun _ => w⟩
    · cases h
  | .not a, X, sc, W, g, tk, pe, h => by
    unfold chkB chkM at h
    try dsimp only at h
    split at h
    · exact ⟨notT_ok (pt_ok a g tk h).1, fun z => nomatch z⟩
    · cases h
  | .ite c a b, X, sc, W, g, tk, pe, h => by exact absurd (show false = true from h) (by decide)
  | .cmp op a b, X, sc, W, g, tk, pe, h => by
    unfold chkB chkM at h
    try dsimp only at h
    split at h
    · simp only [Bool.and_eq_true, decide_eq_true_eq] at h
      obtain ⟨⟨⟨rfl, h1⟩, h2⟩, h3⟩ := h
      exact ⟨(cmp_ok g h1 (pe_ok a g tk h2) (pe_ok b g tk h3)).2, fun z => nomatch z⟩
    · cases h
  | .chn o1 o2 a b c, X, sc, W, g, tk, pe, h => by
    unfold chkB chkM at h
    try dsimp only at h
    split at h
    · simp only [Bool.and_eq_true, decide_eq_true_eq] at h
      obtain ⟨⟨⟨⟨⟨rfl, rfl⟩, h1⟩, h2⟩, h3⟩, h4⟩ := h
      exact ⟨(chn_ok g h1 (pe_ok a g tk h2) (pe_ok b g tk h3) (pe_ok c g tk h4)).2, fun z => nomatch z⟩
    · cases h
  | .chn3 o1 o2 o3 a b c d, X, sc, W, g, tk, pe, h => by exact absurd (show false = true from h) (by decide)
  | .ing neg a n kvs, X, sc, W, g, tk, pe, h => by
    unfold chkB chkM at h
    try dsimp only at h
    split at h
    · rw [Bool.and_eq_true, Bool.and_eq_true, Bool.and_eq_true, Bool.and_eq_true, decide_eq_true_eq] at h
      obtain ⟨⟨⟨⟨rfl, h1⟩, h2⟩, h3⟩, h4⟩ := h
      exact ⟨(ing_ok g h1 h2 h3 (pe_ok a g tk h4)).2, fun z => nomatch z⟩
    · cases h
  | .lit d, X, sc, W, g, tk, pe, h => by
    have hv : chk T sc N (.lit d) pe = true := h
    have hp : plainT pe = true ∧ isBo pe = false := by
      unfold chkB chkM at h
      try dsimp only at h
      split at h <;> first | exact ⟨rfl, rfl⟩ | cases h
    exact ⟨valT_ok hp.1 (pe_ok (.lit d) g tk hv), fun z => by rw [hp.2] at z; cases z⟩
  | .v i, X, sc, W, g, tk, pe, h => by
    have hv : chk T sc N (.v i) pe = true := h
    have hp : plainT pe = true ∧ isBo pe = false := by
      unfold chkB chkM at h
      try dsimp only at h
      split at h <;> first | exact ⟨rfl, rfl⟩ | cases h
    exact ⟨valT_ok hp.1 (pe_ok (.v i) g tk hv), fun z => by rw [hp.2] at z; cases z⟩
  | .fz i, X, sc, W, g, tk, pe, h => by
    have hv : chk T sc N (.fz i) pe = true := h
    have hp : plainT pe = true ∧ isBo pe = false := by
      unfold chkB chkM at h
      try dsimp only at h
      split at h <;> first | exact ⟨rfl, rfl⟩ | cases h
    exact ⟨valT_ok hp.1 (pe_ok (.fz i) g tk hv), fun z => by rw [hp.2] at z; cases z⟩
  | .gl n d, X, sc, W, g, tk, pe, h => by
    have hv : chk T sc N (.gl n d) pe = true := h
    have hp : plainT pe = true ∧ isBo pe = false := by
      unfold chkB chkM at h
      try dsimp only at h
      split at h <;> first | exact ⟨rfl, rfl⟩ | cases h
    exact ⟨valT_ok hp.1 (pe_ok (.gl n d) g tk hv), fun z => by rw [hp.2] at z; cases z⟩
  | .ixg n kvs a, X, sc, W, g, tk, pe, h => by
    have hv : chk T sc N (.ixg n kvs a) pe = true := h
    have hp : plainT pe = true ∧ isBo pe = false := by
      unfold chkB chkM at h
      try dsimp only at h
      split at h <;> first | exact ⟨rfl, rfl⟩ | cases h
    exact ⟨valT_ok hp.1 (pe_ok (.ixg n kvs a) g tk hv), fun z => by rw [hp.2] at z; cases z⟩
  | .tup es, X, sc, W, g, tk, pe, h => by
    have hv : chk T sc N (.tup es) pe = true := h
    have hp : plainT pe = true ∧ isBo pe = false := by
      unfold chkB chkM at h
      try dsimp only at h
      split at h <;> first | exact ⟨rfl, rfl⟩ | cases h
    exact ⟨valT_ok hp.1 (pe_ok (.tup es) g tk hv), fun z => by rw [hp.2] at z; cases z⟩
  | .lst m es, X, sc, W, g, tk, pe, h => by
    have hv : chk T sc N (.lst m es) pe = true := h
    have hp : plainT pe = true ∧ isBo pe = false := by
      unfold chkB chkM at h
      try dsimp only at h
      split at h <;> first | exact ⟨rfl, rfl⟩ | cases h
    exact ⟨valT_ok hp.1 (pe_ok (.lst m es) g tk hv), fun z => by rw [hp.2] at z; cases z⟩
  | .dnew t, X, sc, W, g, tk, pe, h => by
    have hv : chk T sc N (.dnew t) pe = true := h
    have hp : plainT pe = true ∧ isBo pe = false := by
      unfold chkB chkM at h
      try dsimp only at h
      split at h <;> first | exact ⟨rfl, rfl⟩ | cases h
    exact ⟨valT_ok hp.1 (pe_ok (.dnew t) g tk hv), fun z => by rw [hp.2] at z; cases z⟩
  | .bin m op a b, X, sc, W, g, tk, pe, h => by
    have hv : chk T sc N (.bin m op a b) pe = true := h
    have hp : plainT pe = true ∧ isBo pe = false := by
      unfold chkB chkM at h
      try dsimp only at h
      split at h <;> first | exact ⟨rfl, rfl⟩ | cases h
    exact ⟨valT_ok hp.1 (pe_ok (.bin m op a b) g tk hv), fun z => by rw [hp.2] at z; cases z⟩
  | .neg a, X, sc, W, g, tk, pe, h => by
    have hv : chk T sc N (.neg a) pe = true := h
    have hp : plainT pe = true ∧ isBo pe = false := by
      unfold chkB chkM at h
      try dsimp only at h
      split at h <;> first | exact ⟨rfl, rfl⟩ | cases h
    exact ⟨valT_ok hp.1 (pe_ok (.neg a) g tk hv), fun z => by rw [hp.2] at z; cases z⟩
  | .ix a i, X, sc, W, g, tk, pe, h => by
    have hv : chk T sc N (.ix a i) pe = true := h
    have hp : plainT pe = true ∧ isBo pe = false := by
      unfold chkB chkM at h
      try dsimp only at h
      split at h <;> first | exact ⟨rfl, rfl⟩ | cases h
    exact ⟨valT_ok hp.1 (pe_ok (.ix a i) g tk hv), fun z => by rw [hp.2] at z; cases z⟩
  | .sl m a lo hi, X, sc, W, g, tk, pe, h => by
    have hv : chk T sc N (.sl m a lo hi) pe = true := h
    have hp : plainT pe = true ∧ isBo pe = false := by
      unfold chkB chkM at h
      try dsimp only at h
      split at h <;> first | exact ⟨rfl, rfl⟩ | cases h
    exact ⟨valT_ok hp.1 (pe_ok (.sl m a lo hi) g tk hv), fun z => by rw [hp.2] at z; cases z⟩
  | .nil, X, sc, W, g, tk, pe, h => by exact absurd (show false = true from h) (by decide)
  | .isi t a, X, sc, W, g, tk, pe, h => by
    have hv : chk T sc N (.isi t a) pe = true := h
    have hp : plainT pe = true ∧ isBo pe = false := by
      unfold chkB chkM at h
      try dsimp only at h
      split at h <;> first | exact ⟨rfl, rfl⟩ | cases h
    exact ⟨valT_ok hp.1 (pe_ok (.isi t a) g tk hv), fun z => by rw [hp.2] at z; cases z⟩
  | .bif m f es, X, sc, W, g, tk, pe, h => by
    have hv : chk T sc N (.bif m f es) pe = true := h
    have hp : plainT pe = true ∧ isBo pe = false := by
      unfold chkB chkM at h
      try dsimp only at h
      split at h <;> first | exact ⟨rfl, rfl⟩ | cases h
    exact ⟨valT_ok hp.1 (pe_ok (.bif m f es) g tk hv), fun z => by rw [hp.2] at z; cases z⟩
  | .mth m f o es, X, sc, W, g, tk, pe, h => by
    have hv : chk T sc N (.mth m f o es) pe = true := h
    have hp : plainT pe = true ∧ isBo pe = false := by
      unfold chkB chkM at h
      try dsimp only at h
      split at h <;> first | exact ⟨rfl, rfl⟩ | cases h
    exact ⟨valT_ok hp.1 (pe_ok (.mth m f o es) g tk hv), fun z => by rw [hp.2] at z; cases z⟩
  | .app o e, X, sc, W, g, tk, pe, h => by
    have hv : chk T sc N (.app o e) pe = true := h
    have hp : plainT pe = true ∧ isBo pe = false := by
      unfold chkB chkM at h
      try dsimp only at h
      split at h <;> first | exact ⟨rfl, rfl⟩ | cases h
    exact ⟨valT_ok hp.1 (pe_ok (.app o e) g tk hv), fun z => by rw [hp.2] at z; cases z⟩
  | .pop o i, X, sc, W, g, tk, pe, h => by
    have hv : chk T sc N (.pop o i) pe = true := h
    have hp : plainT pe = true ∧ isBo pe = false := by
      unfold chkB chkM at h
      try dsimp only at h
      split at h <;> first | exact ⟨rfl, rfl⟩ | cases h
    exact ⟨valT_ok hp.1 (pe_ok (.pop o i) g tk hv), fun z => by rw [hp.2] at z; cases z⟩
  | .popl o, X, sc, W, g, tk, pe, h => by
    have hv : chk T sc N (.popl o) pe = true := h
    have hp : plainT pe = true ∧ isBo pe = false := by
      unfold chkB chkM at h
      try dsimp only at h
      split at h <;> first | exact ⟨rfl, rfl⟩ | cases h
    exact ⟨valT_ok hp.1 (pe_ok (.popl o) g tk hv), fun z => by rw [hp.2] at z; cases z⟩
  | .call f es, X, sc, W, g, tk, pe, h => by
    have hv : chk T sc N (.call f es) pe = true := h
    have hp : plainT pe = true ∧ isBo pe = false := by
      unfold chkB chkM at h
      try dsimp only at h
      split at h <;> first | exact ⟨rfl, rfl⟩ | cases h
    exact ⟨valT_ok hp.1 (pe_ok (.call f es) g tk hv), fun z => by rw [hp.2] at z; cases z⟩
  | .rng es, X, sc, W, g, tk, pe, h => by exact absurd (show false = true from h) (by decide)
  | .enm a, X, sc, W, g, tk, pe, h => by exact absurd (show false = true from h) (by decide)
  | .zip a b, X, sc, W, g, tk, pe, h => by exact absurd (show false = true from h) (by decide)
  | .comp m own elt tg it cond, X, sc, W, g, tk, pe, h => by
    have hv : chk T sc N (.comp m own elt tg it cond) pe = true := h
    have hp : plainT pe = true ∧ isBo pe = false := by
      unfold chkB chkM at h
      try dsimp only at h
      split at h <;> first | exact ⟨rfl, rfl⟩ | cases h
    exact ⟨valT_ok hp.1 (pe_ok (.comp m own elt tg it cond) g tk hv), fun z => by rw [hp.2] at z; cases z⟩
  | .comp2 m own own1 elt tg it cond tg1 it1 cond1, X, sc, W, g, tk, pe, h => by
    have hv : chk T sc N (.comp2 m own own1 elt tg it cond tg1 it1 cond1) pe = true := h
    have hp : plainT pe = true ∧ isBo pe = false := by
      unfold chkB chkM at h
      try dsimp only at h
      split at h <;> first | exact ⟨rfl, rfl⟩ | cases h
    exact ⟨valT_ok hp.1 (pe_ok (.comp2 m own own1 elt tg it cond tg1 it1 cond1) g tk hv), fun z => by rw [hp.2] at z; cases z⟩
termination_by e => (sizeOf e, 1)
decreasing_by all_goals (first | decreasing_tactic | (simp_wf; omega))
theorem pi_ok : ∀ (e : E) {X : Cx} {sc : Scope} {W : WX} {ptg : Expr}, Gx T cal k X sc N → Takes X W → ∀ {pe : Expr}, chkI T sc N (isTupT ptg) e pe = true → PI X ptg pe (tIt X W (itM cal e))
  | .rng es, X, sc, W, ptg, g, tk, pe, h => by
    unfold chkI chkM at h
    try dsimp only at h
    split at h
    · simp only [Bool.and_eq_true, decide_eq_true_eq] at h
      obtain ⟨⟨⟨rfl, h1⟩, h2⟩, h3⟩ := h
      cases es with
      | nil => cases h2
      | cons a es => cases es with
        | cons _ _ => simp at h2
        | nil =>
          have hs := chks_star h3
          simp only [List.all_cons, Bool.and_eq_true] at hs
          exact rng_ok1 g h1 hs.1 (pas_ok [a] g tk h3)
    · simp only [Bool.and_eq_true, decide_eq_true_eq] at h
      obtain ⟨⟨⟨rfl, h1⟩, h2⟩, h3⟩ := h
      cases es with
      | nil => cases h2
      | cons a es => cases es with
        | nil => simp at h2
        | cons b es => cases es with
          | cons _ _ => simp at h2
          | nil =>
            have hs := chks_star h3
            simp only [List.all_cons, Bool.and_eq_true] at hs
            exact rng_ok2 g h1 hs.1 hs.2.1 (pas_ok [a, b] g tk h3)
    · simp only [Bool.and_eq_true, decide_eq_true_eq] at h
      obtain ⟨⟨⟨rfl, h1⟩, h2⟩, h3⟩ := h
      cases es with
      | nil => cases h2
      | cons a es => cases es with
        | nil => simp at h2
        | cons b es => cases es with
          | nil => simp at h2
          | cons c es => cases es with
            | cons _ _ => simp at h2
            | nil =>
              have hs := chks_star h3
              simp only [List.all_cons, Bool.and_eq_true] at hs
              exact rng_ok3 g h1 hs.1 hs.2.1 hs.2.2.1 (pas_ok [a, b, c] g tk h3)
    · cases h
  | .enm a, X, sc, W, ptg, g, tk, pe, h => by
    unfold chkI chkM at h
    try dsimp only at h
    split at h
    · simp only [Bool.and_eq_true, decide_eq_true_eq] at h
      obtain ⟨⟨⟨⟨h0, rfl⟩, h1⟩, h2⟩, h3⟩ := h
      obtain ⟨x, y, z, rfl⟩ := isTupT_ok h0
      exact enm_ok g h1 h2 (pe_ok a g tk h3)
    · cases h
  | .zip a b, X, sc, W, ptg, g, tk, pe, h => by
    unfold chkI chkM at h
    try dsimp only at h
    split at h
    · simp only [Bool.and_eq_true, decide_eq_true_eq] at h
      obtain ⟨⟨⟨⟨⟨⟨h0, rfl⟩, h1⟩, h2⟩, h3⟩, h4⟩, h5⟩ := h
      obtain ⟨x, y, z, rfl⟩ := isTupT_ok h0
      exact zip_ok g h1 h2 h3 (pe_ok a g tk h4) (pe_ok b g tk h5)
    · cases h
  | .lit d, X, sc, W, ptg, g, tk, pe, h => val_ok (pe_ok (.lit d) g tk (show chk T sc N (.lit d) pe = true from h))
  | .v i, X, sc, W, ptg, g, tk, pe, h => val_ok (pe_ok (.v i) g tk (show chk T sc N (.v i) pe = true from h))
  | .fz i, X, sc, W, ptg, g, tk, pe, h => val_ok (pe_ok (.fz i) g tk (show chk T sc N (.fz i) pe = true from h))
  | .gl n d, X, sc, W, ptg, g, tk, pe, h => val_ok (pe_ok (.gl n d) g tk (show chk T sc N (.gl n d) pe = true from h))
  | .ixg n kvs a, X, sc, W, ptg, g, tk, pe, h => val_ok (pe_ok (.ixg n kvs a) g tk (show chk T sc N (.ixg n kvs a) pe = true from h))
  | .tup es, X, sc, W, ptg, g, tk, pe, h => val_ok (pe_ok (.tup es) g tk (show chk T sc N (.tup es) pe = true from h))
  | .lst m es, X, sc, W, ptg, g, tk, pe, h => val_ok (pe_ok (.lst m es) g tk (show chk T sc N (.lst m es) pe = true from h))
  | .dnew t, X, sc, W, ptg, g, tk, pe, h => val_ok (pe_ok (.dnew t) g tk (show chk T sc N (.dnew t) pe = true from h))
  | .bin m op a b, X, sc, W, ptg, g, tk, pe, h => val_ok (pe_ok (.bin m op a b) g tk (show chk T sc N (.bin m op a b) pe = true from h))
  | .neg a, X, sc, W, ptg, g, tk, pe, h => val_ok (pe_ok (.neg a) g tk (show chk T sc N (.neg a) pe = true from h))
  | .ix a i, X, sc, W, ptg, g, tk, pe, h => val_ok (pe_ok (.ix a i) g tk (show chk T sc N (.ix a i) pe = true from h))
  | .sl m a lo hi, X, sc, W, ptg, g, tk, pe, h => val_ok (pe_ok (.sl m a lo hi) g tk (show chk T sc N (.sl m a lo hi) pe = true from h))
  | .nil, X, sc, W, ptg, g, tk, pe, h => val_ok (pe_ok (.nil) g tk (show chk T sc N (.nil) pe = true from h))
  | .isi t a, X, sc, W, ptg, g, tk, pe, h => val_ok (pe_ok (.isi t a) g tk (show chk T sc N (.isi t a) pe = true from h))
  | .bif m f es, X, sc, W, ptg, g, tk, pe, h => val_ok (pe_ok (.bif m f es) g tk (show chk T sc N (.bif m f es) pe = true from h))
  | .mth m f o es, X, sc, W, ptg, g, tk, pe, h => val_ok (pe_ok (.mth m f o es) g tk (show chk T sc N (.mth m f o es) pe = true from h))
  | .app o e, X, sc, W, ptg, g, tk, pe, h => val_ok (pe_ok (.app o e) g tk (show chk T sc N (.app o e) pe = true from h))
  | .pop o i, X, sc, W, ptg, g, tk, pe, h => val_ok (pe_ok (.pop o i) g tk (show chk T sc N (.pop o i) pe = true from h))
  | .popl o, X, sc, W, ptg, g, tk, pe, h => val_ok (pe_ok (.popl o) g tk (show chk T sc N (.popl o) pe = true from h))
  | .call f es, X, sc, W, ptg, g, tk, pe, h => val_ok (pe_ok (.call f es) g tk (show chk T sc N (.call f es) pe = true from h))
  | .comp m own elt tg it cond, X, sc, W, ptg, g, tk, pe, h => val_ok (pe_ok (.comp m own elt tg it cond) g tk (show chk T sc N (.comp m own elt tg it cond) pe = true from h))
  | .comp2 m own own1 elt tg it cond tg1 it1 cond1, X, sc, W, ptg, g, tk, pe, h => val_ok (pe_ok (.comp2 m own own1 elt tg it cond tg1 it1 cond1) g tk (show chk T sc N (.comp2 m own own1 elt tg it cond tg1 it1 cond1) pe = true from h))
  | .and a b, X, sc, W, ptg, g, tk, pe, h => val_ok (pe_ok (.and a b) g tk (show chk T sc N (.and a b) pe = true from h))
  | .or a b, X, sc, W, ptg, g, tk, pe, h => val_ok (pe_ok (.or a b) g tk (show chk T sc N (.or a b) pe = true from h))
  | .not a, X, sc, W, ptg, g, tk, pe, h => val_ok (pe_ok (.not a) g tk (show chk T sc N (.not a) pe = true from h))
  | .ite c a b, X, sc, W, ptg, g, tk, pe, h => val_ok (pe_ok (.ite c a b) g tk (show chk T sc N (.ite c a b) pe = true from h))
  | .cmp op a b, X, sc, W, ptg, g, tk, pe, h => val_ok (pe_ok (.cmp op a b) g tk (show chk T sc N (.cmp op a b) pe = true from h))
  | .chn o1 o2 a b c, X, sc, W, ptg, g, tk, pe, h => val_ok (pe_ok (.chn o1 o2 a b c) g tk (show chk T sc N (.chn o1 o2 a b c) pe = true from h))
  | .chn3 o1 o2 o3 a b c d, X, sc, W, ptg, g, tk, pe, h => val_ok (pe_ok (.chn3 o1 o2 o3 a b c d) g tk (show chk T sc N (.chn3 o1 o2 o3 a b c d) pe = true from h))
  | .ing neg a n kvs, X, sc, W, ptg, g, tk, pe, h => val_ok (pe_ok (.ing neg a n kvs) g tk (show chk T sc N (.ing neg a n kvs) pe = true from h))
termination_by e => (sizeOf e, 1)
decreasing_by all_goals (first | decreasing_tactic | (simp_wf; omega))
end
end
end Cy


set_option Elab.async false
set_option linter.all false
set_option maxRecDepth 100000
set_option maxHeartbeats 8000000
/-! L4a: readings of statements; small statements. -/
namespace Cy
open PySem PySem.Spec PyProof.Rows L2

/-- what is wanted behind a statement that ends so -/
def FinS (X : Cx) (W : WX) (D : Ends) (al : List Addr) (h : Hs) (H : Hp) : Fl → Prop
  | .nx ρ h' => ∀ al' H' σ', Stp al h H al' h' H' → RH X.K al' h' H' → RS X.K al' (UU al' h') H' ρ σ' → D.nx σ' H'
  | .bk ρ h' => ∀ al' H' σ', Stp al h H al' h' H' → RH X.K al' h' H' → RS X.K al' (UU al' h') H' ρ σ' → D.bk σ' H'
  | .ct ρ h' => ∀ al' H' σ', Stp al h H al' h' H' → RH X.K al' h' H' → RS X.K al' (UU al' h') H' ρ σ' → D.ct σ' H'
  | .rt r h' => ∀ al' H' v, Stp al h H al' h' H' → RH X.K al' h' H' → RR X.K al' (UU al' h') H' r v → D.rt v H'
  | .ex e ρ h' => ∀ al' H' cls dd σ', Stp al h H al' h' H' → RH X.K al' h' H' → RS X.K al' (UU al' h') H' ρ σ' → XR X.mg e cls dd → W cls dd σ' H'
  | .bad => False
def tS (X : Cx) (W : WX) (m : Rho → Hs → Fl) : TS := fun D σ H => ∃ al h ρ, RH X.K al h H ∧ RS X.K al (UU al h) H ρ σ ∧ FinS X W D al h H (m ρ h)

section
variable {X : Cx} {W : WX} {D D' : Ends} {al al1 : List Addr} {h h1 : Hs} {H H1 : Hp} {ρ : Rho} {σ : Sg} {α β : Type} {rel : List Addr → Mu → Hp → α → β → Prop} {Q' : β → Hp → Prop}
theorem FinS.shift {o : Fl} (f : FinS X W D al h H o) (s : Stp al h H al1 h1 H1) : FinS X W D al1 h1 H1 o := by
  cases o with
  | nx ρ h' => exact fun al' H' σ' st => f al' H' σ' (s.trans st)
  | bk ρ h' => exact fun al' H' σ' st => f al' H' σ' (s.trans st)
  | ct ρ h' => exact fun al' H' σ' st => f al' H' σ' (s.trans st)
  | rt r h' => exact fun al' H' v st => f al' H' v (s.trans st)
  | ex e ρ h' => exact fun al' H' cls dd σ' st => f al' H' cls dd σ' (s.trans st)
  | bad => exact f
theorem FinS.of {o : Out α} {f : α → Hs → Fl} (F : FinS X W D al h H (ofOut ρ o f)) (rs : RS X.K al (UU al h) H ρ σ)
    (k : ∀ r h1 al1 H1 v, Stp al h H al1 h1 H1 → RH X.K al1 h1 H1 → rel al1 (UU al1 h1) H1 r v → FinS X W D al1 h1 H1 (f r h1) → Q' v H1) :
    Fin X.K X.mg (fun cls dd H' => W cls dd σ H') rel al h H Q' o := by
  cases o with
  | ok r h1 => exact fun al1 H1 v st rh rr => k r h1 al1 H1 v st rh rr (F.shift st)
  | ex e h1 => exact fun al1 H1 cls dd st rh x => F al1 H1 cls dd σ st rh (rs.stp st) x
  | bad => exact F
theorem FinS.nx' {ρ' : Rho} {h' : Hs} (F : FinS X W D al h' H (.nx ρ' h')) (rh : RH X.K al h' H) (rs : RS X.K al (UU al h') H ρ' σ) : D.nx σ H := F al H σ (Stp.refl _ _ _) rh rs
end

/-! ### what a tuple's stores are -/
def isStar : Expr → Bool
  | .Starred .. => true
  | _ => false
def nms (sc : Scope) (ts : List Expr) : List Str := ts.filterMap fun e => match e with
  | .Name id pos => if sc.names.lookup id == some .local && pos.line == (ts.head?.map (·.pos.line)).getD 0 then some id else none
  | _ => none
def swp (sc : Scope) (ts vs : List Expr) : Option (Option (List Str)) :=
  if (!(ts.length == 2 || ts.length == 3) || vs.length != ts.length || ScopeKind.function != ScopeKind.function) = true then some none else
  if vs.any isStar = true then some none else
  if ((nms sc ts).length != ts.length || (nms sc ts).eraseDups.length != (nms sc ts).length) = true then some none else
  if vs.all (foldedForSure 8) = true then some none else
  if vs.all (constantsAlone 8) = true then none else some (some (nms sc ts))
theorem swp_ok {env : Env} {sc : Scope} (he : env.scope = sc) (hk : sc.kind = .function) {ts vs : List Expr} {a b : Nat} {p q : Pos} {r : Option (List Str)} (h : swp sc ts vs = some r) : swappedStores [.Tuple ts a p] (.Tuple vs b q) env = pure r := by
  subst he
  have hb : env.blockKind = .function := by unfold Env.blockKind; rw [hk]; rfl
  unfold swp at h
  unfold swappedStores
  simp only [hb]
  show (if (!(ts.length == 2 || ts.length == 3) || vs.length != ts.length || ScopeKind.function != ScopeKind.function) = true then pure none else
    if vs.any isStar = true then pure none else
    if ((nms env.scope ts).length != ts.length || (nms env.scope ts).eraseDups.length != (nms env.scope ts).length) = true then pure none else
    if vs.all (foldedForSure 8) = true then pure none else
    if vs.all (constantsAlone 8) = true then (do
      unsupported "assign.tuple-of-constant-expressions:order-of-the-stores"
      pure (some (nms env.scope ts))) else pure (some (nms env.scope ts))) = pure r
  split
  · rename_i c; rw [if_pos c] at h; cases h; rfl
  rename_i c; rw [if_neg c] at h
  split
  · rename_i c; rw [if_pos c] at h; cases h; rfl
  rename_i c; rw [if_neg c] at h
  split
  · rename_i c; rw [if_pos c] at h; cases h; rfl
  rename_i c; rw [if_neg c] at h
  split
  · rename_i c; rw [if_pos c] at h; cases h; rfl
  rename_i c; rw [if_neg c] at h
  split
  · rename_i c; rw [if_pos c] at h; cases h
  rename_i c; rw [if_neg c] at h
  cases h
  rfl
theorem swp_other {env : Env} {t e : Expr} (h : (match t, e with
    | .Tuple .., .Tuple .. => false
    | .List .., .Tuple .. => false
    | _, _ => true) = true) : swappedStores [t] e env = pure none := by
  unfold swappedStores
  cases t <;> cases e <;> first | rfl | cases h
end Cy


set_option Elab.async false
set_option linter.all false
set_option maxRecDepth 100000
set_option maxHeartbeats 8000000
/-! L4b: statements. -/
namespace Cy
open PySem PySem.Spec PyProof.Rows L2

/-! ### cells that are forgotten -/
section
variable {K : Fg} {al al2 : List Addr} {h h2 : Hs} {H H2 : Hp} {ρ : Rho} {σ : Sg} {n : Nat}
theorem getE_take {α : Type} {l : List α} {n i : Nat} {a : α} (e : (l.take n)[i]? = some a) : i < n ∧ l[i]? = some a := by
  rw [List.getElem?_take] at e
  split at e
  · exact ⟨by assumption, e⟩
  · cases e
theorem uu_take {a : Addr} (u : UU (al.take n) (h.take n) a) : UU al h a := by
  obtain ⟨m, c, e1, e2, e3⟩ := u
  exact ⟨m, c, (getE_take e1).2, (getE_take e2).2, e3⟩
theorem keep_take : Keep (UU al h) H (UU (al.take n) (h.take n)) H := ⟨fun _ _ _ e => e, fun _ u => .inl (uu_take u)⟩
theorem rr_take {r : R} {v : V} (b : r.below n = true) (x : RR K al (UU al h) H r v) : RR K (al.take n) (UU (al.take n) (h.take n)) H r v := by
  cases r with
  | d y => exact RD.keep keep_take x
  | ref m =>
    obtain ⟨a, e, ev⟩ := x
    have hm : m < n := by simpa [R.below] using b
    exact ⟨a, by rw [List.getElem?_take_of_lt hm]; exact e, ev⟩
theorem paired_imp {α β : Type} {F G : α → β → Prop} : ∀ {as : List α} {bs : List β}, Paired F as bs → (∀ a ∈ as, ∀ b, F a b → G a b) → Paired G as bs
  | _, _, .nil, _ => .nil
  | _, _, .cons r t, f => .cons (f _ List.mem_cons_self _ r) (paired_imp t fun a ha b => f a (List.mem_cons_of_mem _ ha) b)
theorem rc_take {c : Cell} {a : Addr} (b : c.below n = true) (x : RC K al (UU al h) H c a) : RC K (al.take n) (UU (al.take n) (h.take n)) H c a := by
  cases c with
  | lst ds => obtain ⟨xs, e, q⟩ := x; exact ⟨xs, e, RDs.keep keep_take q⟩
  | fz ds => obtain ⟨xs, e, q⟩ := x; exact ⟨xs, e, RDs.keep keep_take q⟩
  | dct t kvs =>
    have b2 : (kvs.all fun p => p.2.below n) = true := b
    rw [List.all_eq_true] at b2
    cases t with
    | true =>
      obtain ⟨xs, e, q⟩ := x
      exact ⟨xs, e, paired_imp q fun p hp q z => ⟨z.1, rr_take (b2 p hp) z.2⟩⟩
    | false =>
      obtain ⟨xs, e, q⟩ := x
      exact ⟨xs, e, paired_imp q fun p hp q z => ⟨z.1, rr_take (b2 p hp) z.2⟩⟩
theorem rh_take (rh : RH K al h H) (b : below n (h.take n) = true) : RH K (al.take n) (h.take n) H := by
  refine ⟨by rw [List.length_take, List.length_take, rh.len], rh.nd.sublist (List.take_sublist _ _), fun m c a e1 e2 => ?_⟩
  unfold below at b
  rw [List.all_eq_true] at b
  exact rc_take (b c (List.mem_of_getElem? e1)) (rh.at_ m c a (getE_take e1).2 (getE_take e2).2)
theorem rs_take (rs : RS K al (UU al h) H ρ σ) (b : rbelow n ρ = true) : RS K (al.take n) (UU (al.take n) (h.take n)) H ρ σ := by
  refine ⟨rs.1, fun i r e => ?_⟩
  obtain ⟨v, e1, e2⟩ := rs.2 i r e
  unfold rbelow at b
  rw [List.all_eq_true] at b
  exact ⟨v, e1, rr_take (b _ (List.mem_of_getElem? e)) e2⟩
theorem stp_take (st : Stp al h H al2 h2 H2) (hl : al.length ≤ n) : Stp al h H (al2.take n) (h2.take n) H2 := by
  refine ⟨st.k.trans keep_take, fun m a e => ?_⟩
  have hm : m < al.length := by
    rcases Nat.lt_or_ge m al.length with z | z
    · exact z
    · rw [List.getElem?_eq_none z] at e; cases e
  rw [List.getElem?_take_of_lt (by omega)]
  exact st.pre m a e
theorem trim_ok (rh2 : RH K al2 h2 H2) (rs : RS K al2 (UU al2 h2) H2 ρ σ) (st : Stp al h H al2 h2 H2) (hl : al.length = h.length) :
    ∃ al3, RH K al3 (trim h.length ρ h2) H2 ∧ RS K al3 (UU al3 (trim h.length ρ h2)) H2 ρ σ ∧ Stp al h H al3 (trim h.length ρ h2) H2 := by
  unfold trim
  split
  · rename_i b
    rw [Bool.and_eq_true] at b
    exact ⟨al2.take h.length, rh_take rh2 b.2, rs_take rs b.1, stp_take st (by omega)⟩
  · exact ⟨al2, rh2, rs, st⟩
end

theorem PS.imp {X : Cx} {s : Stmt} {t t' : TS} (p : PS X s t) (i : ∀ D σ H, t' D σ H → t D σ H) : PS X s t' := ⟨fun pins s σ H D I h => p.run pins s σ H D I (i D σ H h)⟩
theorem PSs.imp {X : Cx} {s : List Stmt} {t t' : TS} (p : PSs X s t) (i : ∀ D σ H, t' D σ H → t D σ H) : PSs X s t' := ⟨fun pins s σ H D I h => p.run pins s σ H D I (i D σ H h)⟩
abbrev relB : List Addr → Mu → Hp → Bool → Bool → Prop := fun _ _ _ b c => b = c
theorem Fin.boolOf' {K : Fg} {mg : Str → Option Value} {E : XK} {al : List Addr} {h : Hs} {H : Hp} {Q : Bool → Hp → Prop} {m : M R} (f : Fin K mg E relB al h H Q ((m.bnd Cy.boolOf) h)) : Fin K mg E (RR K) al h H (fun v H' => ∃ b, v = .bl b ∧ Q b H') (m h) := by
  unfold M.bnd at f
  cases e : m h with
  | ok r h1 =>
    rw [e] at f
    intro al1 H1 v st rh rr
    cases r with
    | ref n => exact f.elim
    | d x =>
      cases x with
      | bool b =>
        cases rr
        exact ⟨b, rfl, f al1 H1 b st rh rfl⟩
      | _ => exact f.elim
  | ex x h1 => rw [e] at f; exact f
  | bad => rw [e] at f; exact f.elim

section
variable {T : Tb} {cal : Cal} {k : Nat} {X : Cx} {sc : Scope} {N : List Str} {W : WX}
theorem FinS.of2 {D : Ends} {al : List Addr} {h : Hs} {H : Hp} {ρ : Rho} {σ : Sg} {α β : Type} {rel : List Addr → Mu → Hp → α → β → Prop} {Q' : β → Hp → Prop} {o : Out α} {f : α → Hs → Fl} (F : FinS X W D al h H (ofOut ρ o f)) (rs : RS X.K al (UU al h) H ρ σ)
    (k : ∀ r h1 al1 H1 v, Stp al h H al1 h1 H1 → RH X.K al1 h1 H1 → rel al1 (UU al1 h1) H1 r v → FinS X W D al h H (f r h1) → Q' v H1) :
    Fin X.K X.mg (fun cls dd H' => W cls dd σ H') rel al h H Q' o := by
  cases o with
  | ok r h1 => exact fun al1 H1 v st rh rr => k r h1 al1 H1 v st rh rr F
  | ex e h1 => exact fun al1 H1 cls dd st rh x => F al1 H1 cls dd σ st rh (rs.stp st) x
  | bad => exact F
theorem asg_go {tg : Tg} {e : E} {te : TE} (i : ∀ σ H Q, tM X W (ev cal e) σ H Q → te σ H Q) : ∀ D σ H, tS X W (st cal (.asg tg e)) D σ H → tAsg te (gT X.K tg) D σ H := fun D σ H ⟨al, hh, ρ, rh, rs, F⟩ => by
  unfold st at F
  refine i _ _ _ ⟨al, hh, ρ, rh, rs, FinS.of F rs fun r h1 al1 H1 v st1 rh1 rr F1 => ?_⟩
  cases e : put tg r ρ with
  | none => rw [e] at F1; exact F1.elim
  | some ρ1 =>
    rw [e] at F1
    exact gT_ok tg rr e (rs.stp st1) fun σ' rs' _ => F1.nx' rh1 rs'
theorem ret_ok {e : E} {pe : Expr} {pos : Pos} (he : PE X pe (tM X W (ev cal e))) : PS X (.Return (some pe) pos) (tS X W (st cal (.ret e))) := by
  refine PS.imp (ps_ret he) fun D σ H ⟨al, hh, ρ, rh, rs, F⟩ => ?_
  unfold st at F
  exact ⟨al, hh, ρ, rh, rs, FinS.of F rs fun r h1 al1 H1 v st1 rh1 rr F1 => F1 al1 H1 v (Stp.refl _ _ _) rh1 rr⟩
theorem retN_ok {pos : Pos} : PS X (.Return none pos) (tS X W (st cal (.ret .nil))) := by
  refine PS.imp ps_retN fun D σ H ⟨al, hh, ρ, rh, rs, F⟩ => ?_
  unfold st ev at F
  exact F al H .non (Stp.refl _ _ _) rh .non
theorem ex_ok {e : E} {pe : Expr} {pos : Pos} (hn : notComp pe = true) (he : PE X pe (tM X W (ev cal e))) : PS X (.Expr pe pos) (tS X W (st cal (.ex e))) := by
  refine PS.imp (ps_expr he (swaps_no hn)) fun D σ H ⟨al, hh, ρ, rh, rs, F⟩ => ?_
  unfold st at F
  exact ⟨al, hh, ρ, rh, rs, FinS.of F rs fun r h1 al1 H1 v st1 rh1 rr F1 => F1.nx' rh1 (rs.stp st1)⟩
theorem ife_ok {c : E} {a b : List S} {pc : Expr} {pa pb : List Stmt} {pos : Pos} (hc : PT X pc (tMb X W (ev cal c))) (ha : PSs X pa (tS X W (sts cal a))) (hb : PSs X pb (tS X W (sts cal b))) : PS X (.If pc pa pb pos) (tS X W (st cal (.ife c a b))) := by
  refine PS.imp (ps_if hc ha hb) fun D σ H ⟨al, hh, ρ, rh, rs, F⟩ => ?_
  unfold st at F
  refine ⟨al, hh, ρ, rh, rs, Fin.boolOf' (FinS.of F rs fun r h1 al1 H1 v st1 rh1 rr F1 => ?_)⟩
  cases rr
  cases r with
  | true => exact iteT ⟨al1, h1, ρ, rh1, rs.stp st1, F1⟩
  | false => exact iteF ⟨al1, h1, ρ, rh1, rs.stp st1, F1⟩
theorem nil_ok : PSs X [] (tS X W (sts cal [])) := by
  refine PSs.imp pss_nil fun D σ H ⟨al, hh, ρ, rh, rs, F⟩ => ?_
  unfold sts at F
  exact F.nx' rh rs
theorem cons_ok {s : S} {r : List S} {ps : Stmt} {pr : List Stmt} (h1 : PS X ps (tS X W (st cal s))) (h2 : PSs X pr (tS X W (sts cal r))) : PSs X (ps :: pr) (tS X W (sts cal (s :: r))) := by
  refine PSs.imp (pss_cons h1 h2) fun D σ H ⟨al, hh, ρ, rh, rs, F⟩ => ?_
  unfold sts at F
  refine ⟨al, hh, ρ, rh, rs, ?_⟩
  cases e : st cal s ρ hh with
  | nx ρ1 h1 =>
    rw [e] at F
    exact fun al' H' σ' st' rh' rs' => ⟨al', h1, ρ1, rh', rs', F.shift st'⟩
  | rt r h1 => rw [e] at F; exact F
  | bk ρ1 h1 => rw [e] at F; exact F
  | ct ρ1 h1 => rw [e] at F; exact F
  | ex x ρ1 h1 => rw [e] at F; exact F
  | bad => rw [e] at F; exact F.elim
theorem brk_ok {pos : Pos} : PS X (.Break pos) (tS X W (st cal .brk)) := PS.imp ps_break fun D σ H ⟨al, hh, ρ, rh, rs, F⟩ => by
  unfold st at F
  exact F al H σ (Stp.refl _ _ _) rh rs
theorem cnt_ok {pos : Pos} : PS X (.Continue pos) (tS X W (st cal .cnt)) := PS.imp ps_continue fun D σ H ⟨al, hh, ρ, rh, rs, F⟩ => by
  unfold st at F
  exact F al H σ (Stp.refl _ _ _) rh rs
theorem pass_ok {pos : Pos} : PS X (.Pass pos) (tS X W (st cal .pass)) := PS.imp ps_pass fun D σ H ⟨al, hh, ρ, rh, rs, F⟩ => by
  unfold st at F
  exact F.nx' rh rs
theorem doc_ok {x : Str} {j : Nat} {p pos : Pos} : PS X (.Expr (.Constant (.str x) j p) pos) (tS X W (st cal .pass)) := PS.imp ps_doc fun D σ H ⟨al, hh, ρ, rh, rs, F⟩ => by
  unfold st at F
  exact F.nx' rh rs
theorem never_ok {s : Stmt} : PS X s (tS X W (st cal .never)) := PS.imp ps_never fun D σ H ⟨al, hh, ρ, rh, rs, F⟩ => by
  unfold st at F
  exact F
theorem for_ok {tg : Tg} {it : E} {body : List S} {ptg pit : Expr} {pb : List Stmt} {pos : Pos} (hp : PassesOwn (model X.prog X.w) X.A X.env X.xe) (hc : X.calm = true) (hi : PI X ptg pit (tIt X W (itM cal it))) (hg : PG X ptg (gT X.K tg)) (hb : PSs X pb (tS X W (sts cal body)))
    (hs : ∀ x, foldedSetIterable pit X.env x = pure x) : PS X (.For ptg pit pb [] pos) (tS X W (st cal (.for tg it body))) := by
  refine PS.imp (ps_for hp hc hi hg hb hs) fun D σ H ⟨al, hh, ρ, rh, rs, F⟩ => ?_
  unfold st at F
  refine ⟨al, hh, ρ, rh, rs, FinS.of F rs fun ds hb al1 Hb J st1 rh1 iw F1 => ?_⟩
  have rs1 := rs.stp st1
  generalize hbd : (fun (ρ' : Rho) (h' : Hs) => sts cal body ρ' h') = b at F1
  refine ⟨fun i m σ H => m = ds.length - i ∧ i ≤ ds.length ∧ ∃ al' h' ρ, RH X.K al' h' H ∧ RS X.K al' (UU al' h') H ρ σ ∧ Stp al1 hb Hb al' h' H ∧ FinS X W D al' h' H (loopL tg b (ds.drop i) ρ h'),
    ⟨ds.length, by simp, Nat.zero_le _, al1, hb, ρ, rh1, rs1, Stp.refl _ _ _, F1⟩, ?_⟩
  rintro i m σ2 H2 ⟨rfl, hi, al', h', ρ2, rh', rs', st', F2⟩
  by_cases hlt : i < ds.length
  · have hx : ds[i]? = some ds[i] := List.getElem?_eq_getElem hlt
    generalize ds[i] = x at hx
    have hdrop : ds.drop i = x :: ds.drop (i + 1) := by
      rw [List.drop_eq_getElem_cons hlt]
      rw [List.getElem?_eq_getElem hlt] at hx
      rw [Option.some.inj hx]
    rw [hdrop] at F2
    unfold loopL at F2
    obtain ⟨go, yl⟩ := (iw _ _ st'.k rh'.noU i).1 x hx
    refine .inr ⟨go, fun σ H => i + 1 ≤ ds.length ∧ ∃ al' h' ρ, RH X.K al' h' H ∧ RS X.K al' (UU al' h') H ρ σ ∧ Stp al1 hb Hb al' h' H ∧ FinS X W D al' h' H (loopL tg b (ds.drop (i + 1)) ρ h'),
      fun σ' H' p' => ⟨ds.length - (i + 1), by omega, rfl, p'⟩, fun xv H' y => ?_⟩
    obtain ⟨grow, rd⟩ := yl xv H' y
    have rhg := rh'.grow grow
    have stg := Stp.grow rh' grow
    cases eput : put tg (.d x) ρ2 with
    | none => rw [eput] at F2; exact F2.elim
    | some ρ3 =>
      rw [eput] at F2
      refine gT_ok tg (r := .d x) rd eput (rs'.stp stg) fun σ3 rs3 _ => ⟨al', h', ρ3, rhg, rs3, ?_⟩
      subst hbd
      have F3 := FinS.shift F2 stg
      dsimp only at F3
      have again : ∀ {ρ4 : Rho} {h4 : Hs} {al4 : List Addr} {H4 : Hp} {σ4 : Sg}, FinS X W D al' h' H' (loopL tg (fun (ρ' : Rho) (h' : Hs) => sts cal body ρ' h') (ds.drop (i + 1)) ρ4 (trim h'.length ρ4 h4)) → Stp al' h' H' al4 h4 H4 → RH X.K al4 h4 H4 → RS X.K al4 (UU al4 h4) H4 ρ4 σ4 →
          (i + 1 ≤ ds.length ∧ ∃ al' h' ρ, RH X.K al' h' H4 ∧ RS X.K al' (UU al' h') H4 ρ σ4 ∧ Stp al1 hb Hb al' h' H4 ∧ FinS X W D al' h' H4 (loopL tg (fun (ρ' : Rho) (h' : Hs) => sts cal body ρ' h') (ds.drop (i + 1)) ρ h')) := fun {ρ4 h4 al4 H4 σ4} F st4 rh4 rs4 => by
        obtain ⟨al5, rh5, rs5, st5⟩ := trim_ok rh4 rs4 st4 rhg.len
        exact ⟨hlt, al5, _, ρ4, rh5, rs5, (st'.trans stg).trans st5, F.shift st5⟩
      cases eb : sts cal body ρ3 h' with
      | nx ρ4 h4 =>
        rw [eb] at F3
        exact fun al4 H4 σ4 st4 rh4 rs4 => again F3 st4 rh4 rs4
      | ct ρ4 h4 =>
        rw [eb] at F3
        exact fun al4 H4 σ4 st4 rh4 rs4 => again F3 st4 rh4 rs4
      | bk ρ4 h4 => rw [eb] at F3; exact F3
      | rt r h4 => rw [eb] at F3; exact F3
      | ex e ρ4 h4 => rw [eb] at F3; exact F3
      | bad => rw [eb] at F3; exact F3.elim
  · have e : i = ds.length := by omega
    subst e
    rw [List.drop_length] at F2
    unfold loopL at F2
    exact .inl ⟨(iw _ _ st'.k rh'.noU ds.length).2 (Nat.le_refl _), F2.nx' rh' rs'⟩
theorem whl_ok {c : E} {body : List S} {pc : Expr} {pb : List Stmt} {pos : Pos} (hp : PassesOwn (model X.prog X.w) X.A X.env X.xe) (hc : PT X pc (tMb X W (ev cal c))) (hb : PSs X pb (tS X W (sts cal body))) : PS X (.While pc pb [] pos) (tS X W (st cal (.whl c body))) := by
  refine PS.imp (ps_while hp hc hb) fun D σ H ⟨al, hh, ρ, rh, rs, F⟩ => ?_
  unfold st at F
  refine ⟨fun m σ H => ∃ al h ρ, RH X.K al h H ∧ RS X.K al (UU al h) H ρ σ ∧ FinS X W D al h H (loopW (fun ρ' => (ev cal c ρ').bnd boolOf) (fun ρ' h' => sts cal body ρ' h') m ρ h), ⟨fuel, al, hh, ρ, rh, rs, F⟩, ?_⟩
  rintro m σ2 H2 ⟨al', h', ρ2, rh', rs', F2⟩
  cases m with
  | zero => unfold loopW at F2; exact F2.elim
  | succ m =>
    unfold loopW at F2
    refine ⟨al', h', ρ2, rh', rs', Fin.boolOf' (FinS.of2 F2 rs' fun r h3 al3 H3 v st3 rh3 rr F3 => ?_)⟩
    cases rr
    cases r with
    | false => exact iteF ((F3.shift st3).nx' rh3 (rs'.stp st3))
    | true =>
      refine iteT ⟨fun σ H => ∃ al h ρ, RH X.K al h H ∧ RS X.K al (UU al h) H ρ σ ∧ FinS X W D al h H (loopW (fun ρ' => (ev cal c ρ').bnd boolOf) (fun ρ' h' => sts cal body ρ' h') m ρ h), fun σ' H' p => ⟨m, by omega, p⟩, al3, h3, ρ2, rh3, rs'.stp st3, ?_⟩
      dsimp only at F3
      have again : ∀ {ρ4 : Rho} {h4 : Hs} {al4 : List Addr} {H4 : Hp} {σ4 : Sg}, FinS X W D al' h' H2 (loopW (fun ρ' => (ev cal c ρ').bnd boolOf) (fun ρ' h' => sts cal body ρ' h') m ρ4 (trim h'.length ρ4 h4)) → Stp al3 h3 H3 al4 h4 H4 → RH X.K al4 h4 H4 → RS X.K al4 (UU al4 h4) H4 ρ4 σ4 →
          ∃ al h ρ, RH X.K al h H4 ∧ RS X.K al (UU al h) H4 ρ σ4 ∧ FinS X W D al h H4 (loopW (fun ρ' => (ev cal c ρ').bnd boolOf) (fun ρ' h' => sts cal body ρ' h') m ρ h) := fun {ρ4 h4 al4 H4 σ4} F st4 rh4 rs4 => by
        obtain ⟨al5, rh5, rs5, st5⟩ := trim_ok rh4 rs4 (st3.trans st4) rh'.len
        exact ⟨al5, _, ρ4, rh5, rs5, F.shift st5⟩
      cases eb : sts cal body ρ2 h3 with
      | nx ρ4 h4 =>
        rw [eb] at F3
        exact fun al4 H4 σ4 st4 rh4 rs4 => again F3 st4 rh4 rs4
      | ct ρ4 h4 =>
        rw [eb] at F3
        exact fun al4 H4 σ4 st4 rh4 rs4 => again F3 st4 rh4 rs4
      | bk ρ4 h4 => rw [eb] at F3; exact F3.shift st3
      | rt r h4 => rw [eb] at F3; exact F3.shift st3
      | ex e ρ4 h4 => rw [eb] at F3; exact F3.shift st3
      | bad => rw [eb] at F3; exact F3.elim
end
end Cy


set_option Elab.async false
set_option linter.all false
set_option maxRecDepth 100000
set_option maxHeartbeats 8000000
/-! L4c: statements, checked whole. -/
namespace Cy
open PySem PySem.Spec PyProof.Rows L2

section
variable {T : Tb} {cal : Cal} {k : Nat} {X : Cx} {sc : Scope} {N : List Str} {W : WX}
theorem FinS.bnd {D : Ends} {al : List Addr} {h : Hs} {H : Hp} {ρ : Rho} {σ : Sg} {α γ δ : Type} {rel' : List Addr → Mu → Hp → γ → δ → Prop} {Q' : δ → Hp → Prop} {m : M γ} {g : γ → M α} {f : α → Hs → Fl} (F : FinS X W D al h H (ofOut ρ ((m.bnd g) h) f)) (rs : RS X.K al (UU al h) H ρ σ)
    (k : ∀ r h1 al1 H1 v, Stp al h H al1 h1 H1 → RH X.K al1 h1 H1 → rel' al1 (UU al1 h1) H1 r v → FinS X W D al1 h1 H1 (ofOut ρ (g r h1) f) → Q' v H1) :
    Fin X.K X.mg (fun cls dd H' => W cls dd σ H') rel' al h H Q' (m h) := by
  unfold M.bnd at F
  cases e : m h with
  | ok r h1 => rw [e] at F; exact fun al1 H1 v st rh rr => k r h1 al1 H1 v st rh rr (F.shift st)
  | ex e h1 => rw [e] at F; exact fun al1 H1 cls dd st rh x => F al1 H1 cls dd σ st rh (rs.stp st) x
  | bad => rw [e] at F; exact F
theorem par_ok2 {i j : Nat} {x y : Str} {es : List E} {a b : Expr} {px py pt pt2 pos : Pos} {kt k2 : Nat} (hc : X.calm = true) (hN : X.N.Nodup) (hi : X.N[i]? = some x) (hj : X.N[j]? = some y) (hij : i ≠ j)
    (hx : X.env.scope.names.lookup x = some .local) (hy : X.env.scope.names.lookup y = some .local) (ha : PA X [a, b] (tMs X W (evs cal es)))
    (hw : swappedStores [.Tuple [.Name x px, .Name y py] kt pt] (.Tuple [a, b] k2 pt2) X.env = pure (some [x, y])) :
    PS X (.Assign [.Tuple [.Name x px, .Name y py] kt pt] (.Tuple [a, b] k2 pt2) pos) (tS X W (st cal (.par [i, j] es))) := by
  refine PS.imp (ps_par hc hN hi hj hij hx hy ha hw) fun D σ H ⟨al, hh, ρ, rh, rs, F⟩ => ?_
  unfold st at F
  refine ⟨al, hh, ρ, rh, rs, FinS.of F rs fun r h1 al1 H1 v st1 rh1 rr F1 => ?_⟩
  cases rr with
  | nil => simp only [putR] at F1; exact F1.elim
  | cons r1 rr => cases rr with
    | nil =>
      simp only [putR] at F1
      split at F1
      · rename_i e; split at e <;> cases e
      · exact F1.elim
    | cons r2 rr => cases rr with
      | cons _ _ =>
        simp only [putR] at F1
        split at F1
        · rename_i e; split at e <;> (try split at e) <;> cases e
        · exact F1.elim
      | nil =>
        simp only [putR] at F1
        split at F1
        · rename_i e
          split at e
          · split at e
            · cases e
              exact ⟨_, _, rfl, F1.nx' rh1 (((rs.stp st1).set r1).set r2)⟩
            · cases e
          · cases e
        · exact F1.elim
theorem par_ok3 {i j l : Nat} {x y z : Str} {es : List E} {a b c : Expr} {px py pz pt pt2 pos : Pos} {kt k2 : Nat} (hc : X.calm = true) (hN : X.N.Nodup) (hi : X.N[i]? = some x) (hj : X.N[j]? = some y) (hl : X.N[l]? = some z) (hij : i ≠ j) (hil : i ≠ l) (hjl : j ≠ l)
    (hx : X.env.scope.names.lookup x = some .local) (hy : X.env.scope.names.lookup y = some .local) (hz : X.env.scope.names.lookup z = some .local) (ha : PA X [a, b, c] (tMs X W (evs cal es)))
    (hw : swappedStores [.Tuple [.Name x px, .Name y py, .Name z pz] kt pt] (.Tuple [a, b, c] k2 pt2) X.env = pure (some [x, y, z])) :
    PS X (.Assign [.Tuple [.Name x px, .Name y py, .Name z pz] kt pt] (.Tuple [a, b, c] k2 pt2) pos) (tS X W (st cal (.par [i, j, l] es))) := by
  refine PS.imp (ps_par3 hc hN hi hj hl hij hil hjl hx hy hz ha hw) fun D σ H ⟨al, hh, ρ, rh, rs, F⟩ => ?_
  unfold st at F
  refine ⟨al, hh, ρ, rh, rs, FinS.of F rs fun r h1 al1 H1 v st1 rh1 rr F1 => ?_⟩
  cases rr with
  | nil => simp only [putR] at F1; exact F1.elim
  | cons r1 rr => cases rr with
    | nil =>
      simp only [putR] at F1
      split at F1
      · rename_i e; split at e <;> cases e
      · exact F1.elim
    | cons r2 rr => cases rr with
      | nil =>
        simp only [putR] at F1
        split at F1
        · rename_i e; split at e <;> (try split at e) <;> cases e
        · exact F1.elim
      | cons r3 rr => cases rr with
        | cons _ _ =>
          simp only [putR] at F1
          split at F1
          · rename_i e; split at e <;> (try split at e) <;> (try split at e) <;> cases e
          · exact F1.elim
        | nil =>
          simp only [putR] at F1
          split at F1
          · rename_i e
            split at e
            · split at e
              · split at e
                · cases e
                  exact ⟨_, _, _, rfl, F1.nx' rh1 ((((rs.stp st1).set r1).set r2).set r3)⟩
                · cases e
              · cases e
            · cases e
          · exact F1.elim
theorem ixN_of {n : Nat} {k : Int} (h0 : 0 ≤ k) (h1 : k < n) : ixN n k = some k.toNat := by
  unfold ixN
  rw [if_pos h0, if_pos h1]
theorem setix_ok {o i e : E} {po pi pe : Expr} {p pos : Pos} (hn : notSlice pi = true) (hc : notComp pe = true) (ho : PE X po (tM X W (ev cal o))) (hi : PE X pi (tM X W (ev cal i))) (he : PE X pe (tM X W (ev cal e))) :
    PS X (.Assign [.Subscript po pi p] pe pos) (tS X W (st cal (.setix o i e))) := by
  have ha : ∀ v, assign (.Subscript po pi p) X.env v = (do
      let ov ← holding [v] (eval po X.env)
      let iv ← holding [v, ov] (eval pi X.env)
      standAt p
      holding [v, ov, iv] (setItem ov iv v)
      release [v, ov, iv] []) := by
    intro v
    cases pi <;> first | rfl | cases hn
  refine PS.imp (ps_asg he (pg_sub ho hi set_list ha) (by unfold swapsWithSole; exact swaps_no hc) (swp_other (by cases pe <;> rfl))) fun D σ H ⟨al, hh, ρ, rh, rs, F⟩ => ?_
  unfold st at F
  refine ⟨al, hh, ρ, rh, rs, FinS.bnd F rs fun y h1 al1 H1 yv st1 rh1 rr1 F1 => ?_⟩
  refine ⟨al1, h1, ρ, rh1, rs.stp st1, FinS.bnd F1 (rs.stp st1) fun x h2 al2 H2 xv st2 rh2 rr2 F2 => ?_⟩
  refine ⟨al2, h2, ρ, rh2, (rs.stp st1).stp st2, FinS.bnd F2 ((rs.stp st1).stp st2) fun kx h3 al3 H3 kv st3 rh3 rr3 F3 => ?_⟩
  have rs3 := ((rs.stp st1).stp st2).stp st3
  have F4 : FinS X W D al3 h3 H3 (match (x, kx, y) with
    | (.ref n, .d (.int k), .d d) => match hget h3 n with
      | some (.lst xs) => if 0 ≤ k ∧ k < xs.length then .nx ρ (h3.set n (.lst (xs.set k.toNat d))) else .bad
      | _ => .bad
    | _ => .bad) := F3
  split at F4
  · rename_i n k d q
    cases q
    obtain ⟨a, ea, rfl⟩ := rr2
    have ea3 := st3.pre n a ea
    cases rr3
    have rd := rr1.stp (st2.trans st3)
    cases q : h3[n]? with
    | none => simp only [hget, q] at F4; exact F4.elim
    | some c =>
      simp only [hget, q] at F4
      cases c with
      | fz _ => exact F4.elim
      | dct _ _ => exact F4.elim
      | lst xs =>
        simp only at F4
        obtain ⟨vs, eh, rds⟩ := rh3.at_ n _ a q ea3
        split at F4
        · rename_i hk
          obtain ⟨st4, rh4⟩ := set_cell (c' := .lst (xs.set k.toNat d)) (o := .lst (vs.set k.toNat yv)) rh3 q ea3 rfl rfl fun st => ⟨vs.set k.toNat yv, upd_same, (RDs.set k.toNat rds rd).keep st.k⟩
          exact ⟨a, vs, k, k.toNat, rfl, rfl, eh, ixN_of hk.1 (by rw [← rds.length]; exact hk.2), F4 al3 _ σ st4 rh4 (rs3.stp st4)⟩
        · exact F4.elim
  · exact F4.elim
theorem setLc_ok (g : Gx T cal k X sc N) (tk : Takes X W) {i : Nat} {y : Str} {e : E} {pelt : Expr} {gens : List Comprehension} {scope : Scope} {cpos py spos : Pos} (hk : sc.kind = .function) (h : chk T sc N e (.ListComp pelt gens scope cpos) = true) (hy : N[i]? = some y)
    (hl : sc.names.lookup y = some .local) (hp : (py.line == cpos.line) = true) (ha : (scope.names.any fun (n, k) => n == y && (k == .local || k == .cell)) = false) :
    PS X (.Assign [.Name y py] (.ListComp pelt gens scope cpos) spos) (tS X W (st cal (.asg (.n i) e))) := by
  cases e with
  | comp m own elt tg it cond =>
    unfold chk chkM at h
    try dsimp only at h
    split at h
    · rename_i q
      cases q
      rw [Bool.and_eq_true, Bool.and_eq_true, Bool.and_eq_true, Bool.and_eq_true, Bool.and_eq_true, Bool.and_eq_true, Bool.and_eq_true, decide_eq_true_eq] at h
      obtain ⟨⟨⟨⟨⟨⟨⟨h1, h2⟩, h3⟩, h4⟩, h5⟩, h6⟩, h7⟩, h8⟩ := h
      have ht : ∀ i ∈ tgS tg, i ∈ own := fun i hi => by
        rw [List.all_eq_true] at h5
        simpa using h5 i hi
      have e1 : gT X.K (.n i) = gName i := by unfold gT; rfl
      refine PS.imp (ps_setLc (i := i) (own := ownOf N own) g.calm (by rw [g.nN]; exact g.nd) (by rw [g.nN]; exact hy) (by rw [g.sc]; exact hl) (sw_true (by rw [g.sc]; exact hk) (by rw [g.sc]; exact hl) hp ha)
        (pi_ok it g tk h2) (by rw [g.nN, g.sc]; exact blkOk_by h3) (fun s H C cl fp => chkT_ok (X := X.blk s H scope (compEnvC scope cl C X.env) fp) g.nN g.nd (show relS scope X.env.scope = _ by rw [g.sc]) g.calm (fun x hx => hx) h6) (g := gT X.K tg) (wi := tIt X W (itM cal it)) (tt := tMb X W0 (ev cal cond)) (te := tM X W0 (ev cal elt)) (fun s H C cl fp => ?_)
        (fun s H C cl fp => pe_ok elt (g.blk s H _ C cl fp) takes0 h7) (fold_no h1)) ?_
      · split at h8
        · rw [yes_eq h8]
          exact pts_yes
        · exact pts_one (pt_ok cond (g.blk s H _ C cl fp) takes0 h8).1
        · cases h8
      · intro D σ H q
        have := asg_go (tg := .n i) (te := tLc (tIt X W (itM cal it)) (gT X.K tg) (tMb X W0 (ev cal cond)) (tM X W0 (ev cal elt)) ((ownOf N own).map (·.2))) (fun σ H Q h => by rw [h4]; exact comp_go ht h) D σ H q
        rw [e1] at this
        exact this
    · cases h
  | comp2 m own own1 elt tg it cond tg1 it1 cond1 =>
    unfold chk chkM at h
    try dsimp only at h
    split at h
    · rename_i q
      cases q
      rw [Bool.and_eq_true, Bool.and_eq_true, Bool.and_eq_true, Bool.and_eq_true, Bool.and_eq_true, Bool.and_eq_true, Bool.and_eq_true, Bool.and_eq_true, Bool.and_eq_true, Bool.and_eq_true, Bool.and_eq_true, Bool.and_eq_true, Bool.and_eq_true, decide_eq_true_eq] at h
      obtain ⟨⟨⟨⟨⟨⟨⟨⟨⟨⟨⟨⟨⟨h1, h1'⟩, h2⟩, h3⟩, h4⟩, h5⟩, h5'⟩, h5''⟩, h6⟩, h6'⟩, h7⟩, h8⟩, h9⟩, h10⟩ := h
      have ht : ∀ i ∈ tgS tg, i ∈ own := fun i hi => by
        rw [List.all_eq_true] at h5
        simpa using h5 i hi
      have hv : ∀ i ∈ own1, i ∈ own := fun i hi => by
        rw [List.all_eq_true] at h5'
        simpa using h5' i hi
      have ht1 : ∀ i ∈ tgS tg1, i ∈ own1 := fun i hi => by
        rw [List.all_eq_true] at h5''
        simpa using h5'' i hi
      have e1 : gT X.K (.n i) = gName i := by unfold gT; rfl
      refine PS.imp (ps_setLc2 (i := i) (own := ownOf N own) (vs1 := own1) g.calm (by rw [g.nN]; exact g.nd) (by rw [g.nN]; exact hy) (by rw [g.sc]; exact hl) (sw_true (by rw [g.sc]; exact hk) (by rw [g.sc]; exact hl) hp ha)
        (pi_ok it g tk h2) (by rw [g.nN, g.sc]; exact blkOk_by h3) (by rw [h4]; exact hv)
        (fun s H C cl fp => chkT_ok (X := X.blk s H scope (compEnvC scope cl C X.env) fp) g.nN g.nd (show relS scope X.env.scope = _ by rw [g.sc]) g.calm (fun x hx => hx) h6) (g := gT X.K tg) (g1 := gT X.K tg1) (wi := tIt X W (itM cal it)) (wi1 := tIt X W0 (itM cal it1)) (tt := tMb X W0 (ev cal cond)) (tt1 := tMb X W0 (ev cal cond1)) (te := tM X W0 (ev cal elt)) (fun s H C cl fp => ?_)
        (fun s H C cl fp => pi_ok it1 (g.blk s H _ C cl fp) takes0 h7)
        (fun s H C cl fp => chkT_ok (X := X.blk s H scope (compEnvC scope cl C X.env) fp) g.nN g.nd (show relS scope X.env.scope = _ by rw [g.sc]) g.calm (fun x hx => hx) h6') (fun s H C cl fp => ?_)
        (fun s H C cl fp => pe_ok elt (g.blk s H _ C cl fp) takes0 h8) (fold_no h1) (fun env => fold_no h1')) ?_
      · split at h9
        · rw [yes_eq h9]
          exact pts_yes
        · exact pts_one (pt_ok cond (g.blk s H _ C cl fp) takes0 h9).1
        · cases h9
      · split at h10
        · rw [yes_eq h10]
          exact pts_yes
        · exact pts_one (pt_ok cond1 (g.blk s H _ C cl fp) takes0 h10).1
        · cases h10
      · intro D σ H q
        have := asg_go (tg := .n i) (te := tLc2 (tIt X W (itM cal it)) (gT X.K tg) (tMb X W0 (ev cal cond)) (tIt X W0 (itM cal it1)) (gT X.K tg1) (tMb X W0 (ev cal cond1)) (tM X W0 (ev cal elt)) ((ownOf N own).map (·.2)) own1) (fun σ H Q h => by rw [h4]; exact comp2_go ht ht1 h) D σ H q
        rw [e1] at this
        exact this
    · cases h
  | _ => (first | exact absurd (show false = true from h) (by decide) | (unfold chk chkM at h; cases h))
/-! ### tuple targets with items -/
def tgx (X : Cx) (W : WX) (cal : Cal) : List Tx → TGs
  | [] => gNil
  | .t tg :: l => gCons (gT X.K tg) (tgx X W cal l)
  | .s o i :: l => gCons (gSub (tM X W (ev cal o)) (tM X W (ev cal i)) rSetL) (tgx X W cal l)
def chkX (T : Tb) (sc : Scope) (N : List Str) : List Tx → List Expr → Bool
  | [], [] => true
  | .t tg :: l, e :: es => notStar e && chkT (fun _ => true) sc N tg e && chkX T sc N l es
  | .s o i :: l, .Subscript po pi _ :: es => notSlice pi && chk T sc N o po && chk T sc N i pi && chkX T sc N l es
  | _, _ => false
theorem chkX_len : ∀ {l : List Tx} {es : List Expr} {env : Env}, chkX T sc N l es = true → (assignEach es env).length = l.length ∧ (assignEach es env).findIdx? (·.1) = none
  | [], [], _, _ => ⟨rfl, rfl⟩
  | [], _ :: _, _, h => by simp [chkX] at h
  | .t _ :: _, [], _, h => by simp [chkX] at h
  | .s _ _ :: _, [], _, h => by simp [chkX] at h
  | .t tg :: l, e :: es, env, h => by
    unfold chkX at h
    simp only [Bool.and_eq_true] at h
    obtain ⟨h1, h2⟩ := chkX_len (env := env) h.2
    rw [each_cons h.1.1, List.findIdx?_cons]
    exact ⟨by simp [h1], by simp [h2]⟩
  | .s o i :: l, e :: es, env, h => by
    cases e with
    | Subscript po pi p =>
      unfold chkX at h
      simp only [Bool.and_eq_true] at h
      obtain ⟨h1, h2⟩ := chkX_len (env := env) h.2
      rw [each_cons rfl, List.findIdx?_cons]
      exact ⟨by simp [h1], by simp [h2]⟩
    | _ => simp [chkX] at h
theorem sub_as {po pi : Expr} {p : Pos} (hn : notSlice pi = true) : ∀ v, assign (.Subscript po pi p) X.env v = (do
      let ov ← holding [v] (eval po X.env)
      let iv ← holding [v, ov] (eval pi X.env)
      standAt p
      holding [v, ov, iv] (setItem ov iv v)
      release [v, ov, iv] []) := by
  intro v
  cases pi <;> first | rfl | cases hn
theorem chkX_ok (g : Gx T cal k X sc N) (tk : Takes X W) (hf : ∀ x, X.fn x = true) : ∀ {l : List Tx} {es : List Expr}, chkX T sc N l es = true → PGs X es (tgx X W cal l)
  | [], [], _ => pgs_nil
  | [], _ :: _, h => by simp [chkX] at h
  | .t _ :: _, [], h => by simp [chkX] at h
  | .s _ _ :: _, [], h => by simp [chkX] at h
  | .t tg :: l, e :: es, h => by
    unfold chkX at h
    simp only [Bool.and_eq_true] at h
    exact pgs_cons (chkT_ok g.nN g.nd g.sc g.calm (fun x _ => hf x) h.1.2) (chkX_ok g tk hf h.2) (by rw [each_cons h.1.1]; rfl)
  | .s o i :: l, e :: es, h => by
    cases e with
    | Subscript po pi p =>
      unfold chkX at h
      simp only [Bool.and_eq_true] at h
      exact pgs_cons (pg_sub (pe_ok o g tk h.1.1.2) (pe_ok i g tk h.1.2) set_list (sub_as h.1.1.1)) (chkX_ok g tk hf h.2) (by rw [each_cons rfl]; rfl)
    | _ => simp [chkX] at h
theorem stx_go : ∀ (l : List Tx) {xs : List D} {vs : List V} {al : List Addr} {h : Hs} {H : Hp} {ρ : Rho} {σ : Sg} {D : Ends}, RH X.K al h H → RS X.K al (UU al h) H ρ σ → RDs X.K (UU al h) H xs vs → FinS X W D al h H (stx cal l xs ρ h) → tgx X W cal l vs σ H D.nx
  | [], xs, vs, al, h, H, ρ, σ, D, rh, rs, rds, F => by
    cases rds with
    | nil =>
      unfold stx at F
      exact ⟨rfl, F.nx' rh rs⟩
    | cons _ _ => simp only [stx] at F; exact F.elim
  | .t tg :: l, xs, vs, al, h, H, ρ, σ, D, rh, rs, rds, F => by
    cases rds with
    | nil => simp only [stx] at F; exact F.elim
    | cons a b =>
      unfold stx at F
      rename_i x v xs vs
      cases e : put tg (.d x) ρ with
      | none => rw [e] at F; exact F.elim
      | some ρ1 =>
        rw [e] at F
        exact ⟨v, vs, rfl, gT_ok tg (r := .d x) a e rs fun σ' rs' _ => stx_go l rh rs' b F⟩
  | .s o i :: l, xs, vs, al, h, H, ρ, σ, D, rh, rs, rds, F => by
    cases rds with
    | nil => simp only [stx] at F; exact F.elim
    | cons a b =>
      unfold stx at F
      rename_i x v xs vs
      refine ⟨v, vs, rfl, al, h, ρ, rh, rs, FinS.bnd F rs fun y h2 al2 H2 xv st2 rh2 rr2 F2 => ?_⟩
      refine ⟨al2, h2, ρ, rh2, rs.stp st2, FinS.bnd F2 (rs.stp st2) fun kx h3 al3 H3 kv st3 rh3 rr3 F3 => ?_⟩
      have rs3 := (rs.stp st2).stp st3
      have F4 : FinS X W D al3 h3 H3 (match (y, kx) with
        | (.ref n, .d (.int k)) => match setC n k x h3 (hget h3 n) with
          | some h2 => stx cal l xs ρ h2
          | none => .bad
        | _ => .bad) := F3
      split at F4
      · rename_i n kk q
        cases q
        obtain ⟨ad, ea, rfl⟩ := rr2
        have ea3 := st3.pre n ad ea
        cases rr3
        have rd := RD.keep (st2.trans st3).k a
        have rb := RDs.keep (st2.trans st3).k b
        cases q : h3[n]? with
        | none => simp only [hget, q, setC] at F4; exact F4.elim
        | some c =>
          simp only [hget, q] at F4
          cases c with
          | fz _ => exact F4.elim
          | dct _ _ => exact F4.elim
          | lst ys =>
            obtain ⟨ws, eh, rws⟩ := rh3.at_ n _ ad q ea3
            unfold setC at F4
            dsimp only at F4
            by_cases hk : 0 ≤ kk ∧ kk < ys.length
            · rw [if_pos hk] at F4
              obtain ⟨st4, rh4⟩ := set_cell (c' := .lst (ys.set kk.toNat x)) (o := .lst (ws.set kk.toNat v)) rh3 q ea3 rfl rfl fun st => ⟨ws.set kk.toNat v, upd_same, (RDs.set kk.toNat rws rd).keep st.k⟩
              exact ⟨ad, ws, kk, kk.toNat, rfl, rfl, eh, ixN_of hk.1 (by rw [← rws.length]; exact hk.2), stx_go l rh4 (rs3.stp st4) (RDs.keep st4.k rb) (FinS.shift F4 st4)⟩
            · rw [if_neg hk] at F4
              exact F4.elim
      · exact F4.elim
end
end Cy


set_option Elab.async false
set_option linter.all false
set_option maxRecDepth 100000
set_option maxHeartbeats 8000000
/-! L4d: the check of statements speaks for all. -/
namespace Cy
open PySem PySem.Spec PyProof.Rows L2

def locB (sc : Scope) (x : Str) : Bool := decide (sc.names.lookup x = some .local)
/-- which rule an assignment is under -/
def asgB (sc : Scope) : Expr → Expr → Bool
  | .Name y py => fun
    | .ListComp _ _ scope cpos => locB sc y && (py.line == cpos.line) && !(scope.names.any fun (n, k) => n == y && (k == .local || k == .cell))
    | pe => notComp pe
  | .Tuple ts _ _ => fun
    | .Tuple vs _ _ => decide (swp sc ts vs = some none)
    | pe => notComp pe
  | _ => fun _ => false
def parB (sc : Scope) (N : List Str) (is : List Nat) (ts vs : List Expr) : Bool :=
  match is, ts with
  | [i, j], [.Name x _, .Name y _] => decide (N[i]? = some x) && decide (N[j]? = some y) && decide (i ≠ j) && locB sc x && locB sc y && (vs.length == 2) && decide (swp sc ts vs = some (some [x, y]))
  | [i, j, l], [.Name x _, .Name y _, .Name z _] => decide (N[i]? = some x) && decide (N[j]? = some y) && decide (N[l]? = some z) && decide (i ≠ j) && decide (i ≠ l) && decide (j ≠ l) && locB sc x && locB sc y && locB sc z &&
    (vs.length == 3) && decide (swp sc ts vs = some (some [x, y, z]))
  | _, _ => false
mutual
def chkS (T : Tb) (sc : Scope) (N : List Str) : S → Stmt → Bool
  | .asg tg e => fun
    | .Assign [pt] pe _ => chkT (fun _ => true) sc N tg pt && chk T sc N e pe && asgB sc pt pe
    | _ => false
  | .par is es => fun
    | .Assign [.Tuple ts _ _] (.Tuple vs _ _) _ => chks T sc N es vs && parB sc N is ts vs
    | _ => false
  | .setix o i e => fun
    | .Assign [.Subscript po pi _] pe _ => notSlice pi && notComp pe && chk T sc N o po && chk T sc N i pi && chk T sc N e pe
    | _ => false
  | .asgx l e => fun
    | .Assign [.Tuple ts a p] pe _ => chkX T sc N l ts && chk T sc N e pe && asgB sc (.Tuple ts a p) pe
    | _ => false
  | .ex e => fun
    | .Expr pe _ => notComp pe && chk T sc N e pe
    | _ => false
  | .ret e => fun
    | .Return (some pe) _ => chk T sc N e pe
    | .Return none _ => isNil e
    | _ => false
  | .ife c a b => fun
    | .If pc pa pb _ => chkB T sc N c pc && chkSs T sc N a pa && chkSs T sc N b pb
    | _ => false
  | .for tg it body => fun
    | .For pt pi pb [] _ => notSet pi && chkT (fun _ => true) sc N tg pt && chkI T sc N (isTupT pt) it pi && chkSs T sc N body pb
    | _ => false
  | .whl c body => fun
    | .While pc pb [] _ => chkB T sc N c pc && chkSs T sc N body pb
    | _ => false
  | .brk => fun
    | .Break _ => true
    | _ => false
  | .cnt => fun
    | .Continue _ => true
    | _ => false
  | .pass => fun
    | .Pass _ => true
    | .Expr (.Constant (.str _) _ _) _ => true
    | _ => false
  | .fgt _ => fun _ => false
  | .never => fun _ => true
def chkSs (T : Tb) (sc : Scope) (N : List Str) : List S → List Stmt → Bool
  | [] => fun
    | [] => true
    | _ => false
  | .fgt _ :: r => fun q => chkSs T sc N r q
  | s :: r => fun
    | p :: q => chkS T sc N s p && chkSs T sc N r q
    | _ => false
end
theorem wipe_of {ρ : Rho} : ∀ {vs : List Nat} {i : Nat} {r : R}, (Cy.wipe ρ vs)[i]? = some (some r) → ρ[i]? = some (some r)
  | [], _, _, e => e
  | v :: vs, i, r, e => by
    unfold Cy.wipe at e
    by_cases h : v = i
    · subst h
      by_cases hl : v < (Cy.wipe ρ vs).length
      · rw [List.getElem?_set_self hl] at e; cases e
      · rw [List.getElem?_eq_none (by rw [List.length_set]; omega)] at e; cases e
    · rw [List.getElem?_set_ne h] at e
      exact wipe_of e
theorem wipe_len {ρ : Rho} : ∀ vs : List Nat, (Cy.wipe ρ vs).length = ρ.length
  | [] => rfl
  | v :: vs => by unfold Cy.wipe; rw [List.length_set, wipe_len vs]
theorem fgt_ok {cal : Cal} {X : Cx} {W : WX} {is : List Nat} {r : List S} {ps : List Stmt} (h : PSs X ps (tS X W (sts cal r))) : PSs X ps (tS X W (sts cal (.fgt is :: r))) := by
  refine PSs.imp h fun D σ H ⟨al, hh, ρ, rh, rs, F⟩ => ?_
  unfold sts st at F
  exact ⟨al, hh, Cy.wipe ρ is, rh, ⟨by rw [wipe_len]; exact rs.1, fun i r e => rs.2 i r (wipe_of e)⟩, F⟩

section
variable {T : Tb} {cal : Cal} {k : Nat} {X : Cx} {sc : Scope} {N : List Str} {W : WX}
theorem asg_ok (g : Gx T cal k X sc N) (tk : Takes X W) (hk : sc.kind = .function) (hf : ∀ x, X.fn x = true) {tg : Tg} {e : E} {pt pe : Expr} {pos : Pos} (h1 : chkT (fun _ => true) sc N tg pt = true) (h2 : chk T sc N e pe = true) (h3 : asgB sc pt pe = true) :
    PS X (.Assign [pt] pe pos) (tS X W (st cal (.asg tg e))) := by
  have hpg := chkT_ok g.nN g.nd g.sc g.calm (fun x _ => hf x) h1
  have hpe := pe_ok e g tk h2
  cases pt with
  | Name y py =>
    have one : (assignEach [Expr.Name y py] X.env).map (·.2) = [assign (.Name y py) X.env] := rfl
    cases pe with
    | ListComp pelt gens scope cpos =>
      cases tg with
      | t l => simp [chkT] at h1
      | n i =>
        unfold asgB at h3
        simp only [Bool.and_eq_true, Bool.not_eq_true', locB, decide_eq_true_eq] at h3
        unfold chkT at h1
        simp only [Bool.and_eq_true, decide_eq_true_eq] at h1
        exact setLc_ok g tk hk h2 h1.1 h3.1.1 h3.1.2 h3.2
    | _ =>
      first
        | (unfold asgB at h3; cases h3; done)
        | exact PS.imp (ps_asg hpe hpg (by unfold swapsWithSole; exact swaps_no rfl) (swp_other rfl) one) (asg_go fun _ _ _ h => h)
  | Tuple ts a p =>
    have one : (assignEach [Expr.Tuple ts a p] X.env).map (·.2) = [assign (.Tuple ts a p) X.env] := rfl
    cases pe with
    | Tuple vs b q =>
      unfold asgB at h3
      exact PS.imp (ps_asg hpe hpg (by unfold swapsWithSole; exact swaps_no rfl) (swp_ok g.sc hk (of_decide_eq_true h3)) one) (asg_go fun _ _ _ h => h)
    | _ =>
      first
        | (unfold asgB at h3; cases h3; done)
        | exact PS.imp (ps_asg hpe hpg (by unfold swapsWithSole; exact swaps_no rfl) (swp_other rfl) one) (asg_go fun _ _ _ h => h)
  | _ => simp [asgB] at h3
theorem asgx_ok (g : Gx T cal k X sc N) (tk : Takes X W) (hk : sc.kind = .function) (hf : ∀ x, X.fn x = true) {l : List Tx} {e : E} {ts : List Expr} {pe : Expr} {a : Nat} {p pos : Pos} (h1 : chkX T sc N l ts = true) (h2 : chk T sc N e pe = true) (h3 : asgB sc (.Tuple ts a p) pe = true) :
    PS X (.Assign [.Tuple ts a p] pe pos) (tS X W (st cal (.asgx l e))) := by
  obtain ⟨q1, q2⟩ := chkX_len (env := X.env) h1
  have hpg := pg_tup (pos := p) (k := a) g.calm (chkX_ok (cal := cal) (W := W) g tk hf h1) q1 q2
  have hpe := pe_ok e g tk h2
  have one : (assignEach [Expr.Tuple ts a p] X.env).map (·.2) = [assign (.Tuple ts a p) X.env] := rfl
  have go : ∀ D σ H, tS X W (st cal (.asgx l e)) D σ H → tAsg (tM X W (ev cal e)) (gTup X.K l.length (tgx X W cal l)) D σ H := fun D σ H ⟨al, hh, ρ, rh, rs, F⟩ => by
    unfold st at F
    refine ⟨al, hh, ρ, rh, rs, FinS.of F rs fun r h1 al1 H1 v st1 rh1 rr F1 => ?_⟩
    cases r with
    | ref n => exact F1.elim
    | d x =>
      cases x with
      | tuple xs =>
        dsimp only at F1
        by_cases hl : xs.length = l.length
        · rw [if_pos hl] at F1
          obtain ⟨b, vs, ev, hq, rds⟩ := (RT.rd rr).sqt
          exact ⟨b, vs, ev, hq, by rw [← rds.length]; exact hl, stx_go l rh1 (rs.stp st1) rds F1⟩
        · rw [if_neg hl] at F1
          exact F1.elim
      | _ => exact F1.elim
  cases pe with
  | Tuple vs b q =>
    unfold asgB at h3
    exact PS.imp (ps_asg hpe hpg (by unfold swapsWithSole; exact swaps_no rfl) (swp_ok g.sc hk (of_decide_eq_true h3)) one) go
  | _ =>
    first
      | (unfold asgB at h3; cases h3; done)
      | exact PS.imp (ps_asg hpe hpg (by unfold swapsWithSole; exact swaps_no rfl) (swp_other rfl) one) go
theorem par_ok (g : Gx T cal k X sc N) (tk : Takes X W) (hk : sc.kind = .function) {is : List Nat} {es : List E} {ts vs : List Expr} {a b : Nat} {p q pos : Pos} (h1 : chks T sc N es vs = true) (h2 : parB sc N is ts vs = true) :
    PS X (.Assign [.Tuple ts a p] (.Tuple vs b q) pos) (tS X W (st cal (.par is es))) := by
  have pa := pas_ok es g tk h1
  have nd : X.N.Nodup := by rw [g.nN]; exact g.nd
  unfold parB at h2
  split at h2
  · simp only [Bool.and_eq_true, decide_eq_true_eq, locB] at h2
    obtain ⟨⟨⟨⟨⟨⟨h3, h4⟩, h5⟩, h6⟩, h7⟩, h8⟩, h9⟩ := h2
    cases vs with
    | nil => cases h8
    | cons v1 vs => cases vs with
      | nil => cases h8
      | cons v2 vs => cases vs with
        | cons _ _ => simp at h8
        | nil => exact par_ok2 g.calm nd (g.at_ h3) (g.at_ h4) h5 (by rw [g.sc]; exact h6) (by rw [g.sc]; exact h7) pa (swp_ok g.sc hk h9)
  · simp only [Bool.and_eq_true, decide_eq_true_eq, locB] at h2
    obtain ⟨⟨⟨⟨⟨⟨⟨⟨⟨⟨h3, h4⟩, h4'⟩, h5⟩, h5'⟩, h5''⟩, h6⟩, h7⟩, h7'⟩, h8⟩, h9⟩ := h2
    cases vs with
    | nil => cases h8
    | cons v1 vs => cases vs with
      | nil => cases h8
      | cons v2 vs => cases vs with
        | nil => cases h8
        | cons v3 vs => cases vs with
          | cons _ _ => simp at h8
          | nil => exact par_ok3 g.calm nd (g.at_ h3) (g.at_ h4) (g.at_ h4') h5 h5' h5'' (by rw [g.sc]; exact h6) (by rw [g.sc]; exact h7) (by rw [g.sc]; exact h7') pa (swp_ok g.sc hk h9)
  · cases h2
mutual
theorem ps_ok (g : Gx T cal k X sc N) (tk : Takes X W) (hp : PassesOwn (model X.prog X.w) X.A X.env X.xe) (hk : sc.kind = .function) (hf : ∀ x, X.fn x = true) : ∀ (s : S) {p : Stmt}, chkS T sc N s p = true → PS X p (tS X W (st cal s))
  | .asg tg e, p, h => by
    unfold chkS at h
    split at h
    · rw [Bool.and_eq_true, Bool.and_eq_true] at h
      exact asg_ok g tk hk hf h.1.1 h.1.2 h.2
    · cases h
  | .par is es, p, h => by
    unfold chkS at h
    split at h
    · rw [Bool.and_eq_true] at h
      exact par_ok g tk hk h.1 h.2
    · cases h
  | .setix o i e, p, h => by
    unfold chkS at h
    split at h
    · simp only [Bool.and_eq_true] at h
      exact setix_ok h.1.1.1.1 h.1.1.1.2 (pe_ok o g tk h.1.1.2) (pe_ok i g tk h.1.2) (pe_ok e g tk h.2)
    · cases h
  | .asgx l e, p, h => by
    unfold chkS at h
    split at h
    · rw [Bool.and_eq_true, Bool.and_eq_true] at h
      exact asgx_ok g tk hk hf h.1.1 h.1.2 h.2
    · cases h
  | .ex e, p, h => by
    unfold chkS at h
    split at h
    · simp only [Bool.and_eq_true] at h
      exact ex_ok h.1 (pe_ok e g tk h.2)
    · cases h
  | .ret e, p, h => by
    unfold chkS at h
    split at h
    · exact ret_ok (pe_ok e g tk h)
    · rw [nil_eq h]
      exact retN_ok
    · cases h
  | .ife c a b, p, h => by
    unfold chkS at h
    split at h
    · simp only [Bool.and_eq_true] at h
      exact ife_ok (pt_ok c g tk h.1.1).1 (pss_ok g tk hp hk hf a h.1.2) (pss_ok g tk hp hk hf b h.2)
    · cases h
  | .for tg it body, p, h => by
    unfold chkS at h
    split at h
    · rw [Bool.and_eq_true, Bool.and_eq_true, Bool.and_eq_true] at h
      exact for_ok hp g.calm (pi_ok it g tk h.1.2) (chkT_ok g.nN g.nd g.sc g.calm (fun x _ => hf x) h.1.1.2) (pss_ok g tk hp hk hf body h.2) (fold_no h.1.1.1)
    · cases h
  | .whl c body, p, h => by
    unfold chkS at h
    split at h
    · simp only [Bool.and_eq_true] at h
      exact whl_ok hp (pt_ok c g tk h.1).1 (pss_ok g tk hp hk hf body h.2)
    · cases h
  | .brk, p, h => by
    unfold chkS at h
    split at h
    · exact brk_ok
    · cases h
  | .cnt, p, h => by
    unfold chkS at h
    split at h
    · exact cnt_ok
    · cases h
  | .pass, p, h => by
    unfold chkS at h
    split at h
    · exact pass_ok
    · exact doc_ok
    · cases h
  | .fgt _, p, h => absurd (show false = true from h) (by decide)
  | .never, p, h => never_ok
theorem pss_ok (g : Gx T cal k X sc N) (tk : Takes X W) (hp : PassesOwn (model X.prog X.w) X.A X.env X.xe) (hk : sc.kind = .function) (hf : ∀ x, X.fn x = true) : ∀ (l : List S) {ps : List Stmt}, chkSs T sc N l ps = true → PSs X ps (tS X W (sts cal l))
  | [], ps, h => by
    unfold chkSs at h
    split at h
    · exact nil_ok
    · cases h
  | .fgt is :: r, ps, h => fgt_ok (pss_ok g tk hp hk hf r (show chkSs T sc N r ps = true from h))
  | .asg tg e :: r, ps, h => by
    unfold chkSs at h
    split at h
    · rw [Bool.and_eq_true] at h
      exact cons_ok (ps_ok g tk hp hk hf (.asg tg e) h.1) (pss_ok g tk hp hk hf r h.2)
    · cases h
  | .par is es :: r, ps, h => by
    unfold chkSs at h
    split at h
    · rw [Bool.and_eq_true] at h
      exact cons_ok (ps_ok g tk hp hk hf (.par is es) h.1) (pss_ok g tk hp hk hf r h.2)
    · cases h
  | .setix o i e :: r, ps, h => by
    unfold chkSs at h
    split at h
    · rw [Bool.and_eq_true] at h
      exact cons_ok (ps_ok g tk hp hk hf (.setix o i e) h.1) (pss_ok g tk hp hk hf r h.2)
    · cases h
  | .asgx l e :: r, ps, h => by
    unfold chkSs at h
    split at h
    · rw [Bool.and_eq_true] at h
      exact cons_ok (ps_ok g tk hp hk hf (.asgx l e) h.1) (pss_ok g tk hp hk hf r h.2)
    · cases h
  | .ex e :: r, ps, h => by
    unfold chkSs at h
    split at h
    · rw [Bool.and_eq_true] at h
      exact cons_ok (ps_ok g tk hp hk hf (.ex e) h.1) (pss_ok g tk hp hk hf r h.2)
    · cases h
  | .ret e :: r, ps, h => by
    unfold chkSs at h
    split at h
    · rw [Bool.and_eq_true] at h
      exact cons_ok (ps_ok g tk hp hk hf (.ret e) h.1) (pss_ok g tk hp hk hf r h.2)
    · cases h
  | .ife c a b :: r, ps, h => by
    unfold chkSs at h
    split at h
    · rw [Bool.and_eq_true] at h
      exact cons_ok (ps_ok g tk hp hk hf (.ife c a b) h.1) (pss_ok g tk hp hk hf r h.2)
    · cases h
  | .for tg it body :: r, ps, h => by
    unfold chkSs at h
    split at h
    · rw [Bool.and_eq_true] at h
      exact cons_ok (ps_ok g tk hp hk hf (.for tg it body) h.1) (pss_ok g tk hp hk hf r h.2)
    · cases h
  | .whl c body :: r, ps, h => by
    unfold chkSs at h
    split at h
    · rw [Bool.and_eq_true] at h
      exact cons_ok (ps_ok g tk hp hk hf (.whl c body) h.1) (pss_ok g tk hp hk hf r h.2)
    · cases h
  | .brk :: r, ps, h => by
    unfold chkSs at h
    split at h
    · rw [Bool.and_eq_true] at h
      exact cons_ok (ps_ok g tk hp hk hf .brk h.1) (pss_ok g tk hp hk hf r h.2)
    · cases h
  | .cnt :: r, ps, h => by
    unfold chkSs at h
    split at h
    · rw [Bool.and_eq_true] at h
      exact cons_ok (ps_ok g tk hp hk hf .cnt h.1) (pss_ok g tk hp hk hf r h.2)
    · cases h
  | .pass :: r, ps, h => by
    unfold chkSs at h
    split at h
    · rw [Bool.and_eq_true] at h
      exact cons_ok (ps_ok g tk hp hk hf .pass h.1) (pss_ok g tk hp hk hf r h.2)
    · cases h
  | .never :: r, ps, h => by
    unfold chkSs at h
    split at h
    · rw [Bool.and_eq_true] at h
      exact cons_ok (ps_ok g tk hp hk hf .never h.1) (pss_ok g tk hp hk hf r h.2)
    · cases h
end
end
end Cy


set_option Elab.async false
set_option linter.all false
set_option maxRecDepth 100000
set_option maxHeartbeats 8000000
/-! L5a: functions. -/
namespace Cy
open PySem PySem.Spec PyProof.Rows L2

theorem fnG_of {P : Program} {w : World} {K : Fg} {mg : Str → Option Value} {base : Heap} {k : Nat} {f : Addr} {name qual : Str} {params : Arguments} {body : List Stmt} {scope : Scope} {dV kV doc pm cdv ct oc : Value} {an od : Option Addr}
    {osl : Array (Option Value)} {N ps : List Str} {sp : Sp} (lk : K.lookup f = some ⟨oc, od, .func (PySem.W.fnOf name qual params body scope dV kV doc pm an cdv ct), osl⟩) (hcd : PySem.W.codeIn K cdv qual = true) (S : FnScope N ps scope)
    (len : ∀ vs H Q E, sp vs H Q E → vs.length = ps.length)
    (hbody : ∀ (A : Around) (outer : List Env) (s : Shared) (H : Hp) (vs : List V) (Q : VK) (E : XK), Room k (A.deeper (envOfC qual scope s.heap.objs.size f cdv)) → A.guards = some [] → sp vs H Q E →
      ∃ t, PSs (cxOf (L2.CX P w) P w K mg base N qual scope f cdv A outer s H E) body t ∧ t { nx := fun _ H' => Q .non H', rt := Q } (L2.start N vs) H) :
    FnG P w K mg base (k + 1) f (PySem.W.fnOf name qual params body scope dV kV doc pm an cdv ct) ps sp := by
  refine ⟨len, fun A outer s H args us vs Q E hr hg e0 hb r hsp => ?_⟩
  have hl := len _ _ _ _ hsp
  have KX : K.In s.heap := e0.mod.kin.keeps fun b o e => (e0.bs b o e).1
  have lim : s.heap.NoLimit := e0.mod.nolimit.keeps fun b o e => (e0.bs b o e).1
  have hkind : ∀ y ∈ ps.zip us, scope.names.lookup y.1 = some .local ∨ (scope.names.lookup y.1 = some .cell ∧ ((cellsFrom (s.heap.objs.size + 1) scope.names []).lookup y.1).isSome = true) := fun ⟨n, v⟩ hy => by
    rcases S.par n (List.of_mem_zip hy).1 with q | q
    · exact .inl q
    · exact .inr ⟨q, PySem.W.cellsFrom_some _ _ _ (.inl q)⟩
  refine codeAny_call_function hr.depth (KX _ _ lk) rfl S.co S.gen rfl (PySem.W.codeRec_of KX hcd) (hb _ _ _ _ ?_)
  refine wpAny_newFunctionEnv_cells S.kind hkind fun env he s1 x => ?_
  subst he
  refine ⟨lim.keeps x.toInCall.keep, codeAny_func ?_⟩
  obtain ⟨t, ht, hq⟩ := hbody A outer s H vs Q E (hr.deeper _) hg hsp
  have I : Inv (cxOf (L2.CX P w) P w K mg base N qual scope f cdv A outer s H E) [] (L2.start N vs) H s1 := inv_start S hr.hd e0 hl r x
  refine wpAny_mono (ht.run [] s1 (L2.start N vs) H _ I hq) (fun fl s' hs => ?_) fun e s' hs => hs
  have fin : ∀ {σ' : Sg} {H' : Hp} {v : V} {u : Value}, Inv (cxOf (L2.CX P w) P w K mg base N qual scope f cdv A outer s H E) [] σ' H' s' → RelV v u → Q v H' → CE outer P w H s Q u s' :=
    fun {σ' H' v u} J rv q => ⟨v, H', J.os, J.bare, J.base, J.hok, rv, q⟩
  cases fl with
  | ret u =>
    obtain ⟨v, σ', H', J, rv, q⟩ := hs
    exact fin J rv q
  | next =>
    obtain ⟨σ', H', J, q⟩ := hs
    exact fin (v := V.non) (u := Value.none) J rfl q
  | brk =>
    obtain ⟨_, _, _, q⟩ := hs
    exact False.elim q
  | cont =>
    obtain ⟨_, _, _, q⟩ := hs
    exact False.elim q

section
variable {K : Fg} {mg : Str → Option Value} {E : XK} {al al1 : List Addr} {h h1 : Hs} {H H1 : Hp} {Q : VK}
theorem leave_ok {keep : Bool} {r : R} {v : V} (f : Fin K mg E (RR K) al h H Q (leave keep h.length r h1)) (st : Stp al h H al1 h1 H1) (hl : al.length = h.length) (rh : RH K al1 h1 H1) (rr : RR K al1 (UU al1 h1) H1 r v) : Q v H1 := by
  unfold leave at f
  split at f
  · exact f al1 H1 v st rh rr
  · cases r with
    | d x =>
      simp only at f
      split at f
      · rename_i b
        exact f (al1.take h.length) H1 v (stp_take st (by omega)) (rh_take rh b) (rr_take (r := .d x) rfl rr)
      · exact f.elim
    | ref m =>
      simp only at f
      split at f
      · rename_i hm
        split at f
        · rename_i b
          exact f (al1.take h.length) H1 v (stp_take st (by omega)) (rh_take rh b) (rr_take (r := .ref m) (by simp [R.below, hm]) rr)
        · exact f.elim
      · rename_i hm
        obtain ⟨a, ea, rfl⟩ := rr
        have nu : ¬ UU (al1.take h.length) (h1.take h.length) a := fun ⟨j, c, e1, e2, e3⟩ => by
          obtain ⟨q1, q2⟩ := getE_take e1
          have := al_inj rh q2 ea
          omega
        split at f
        · rename_i xs q
          split at f
          · rename_i b
            obtain ⟨vs, eh, rds⟩ := rh.at_ m _ a q ea
            exact f (al1.take h.length) H1 (.ref a) (stp_take st (by omega)) (rh_take rh b) (.lst nu (.inl eh) (RDs.keep keep_take rds))
          · exact f.elim
        · rename_i xs q
          split at f
          · rename_i b
            obtain ⟨vs, eh, rds⟩ := rh.at_ m _ a q ea
            exact f (al1.take h.length) H1 (.ref a) (stp_take st (by omega)) (rh_take rh b) (.lst nu (.inl eh) (RDs.keep keep_take rds))
          · exact f.elim
        · exact f.elim
theorem RRs.len {U : Mu} {rs : List R} {vs : List V} (r : RRs K al U H rs vs) : rs.length = vs.length := by
  induction r with
  | nil => rfl
  | cons _ _ ih => simp [ih]
theorem start_rs {N : List Str} {U : Mu} {rs : List R} {vs : List V} (r : RRs K al U H rs vs) : RS K al U H (rs.map some ++ List.replicate (N.length - vs.length) none) (L2.start N vs) := by
  unfold L2.start
  refine ⟨by simp [RRs.len r], fun i x e => ?_⟩
  by_cases hi : i < rs.length
  · rw [List.getElem?_append_left (by simpa using hi), List.getElem?_map] at e
    cases q : rs[i]? with
    | none => rw [q] at e; cases e
    | some y =>
      rw [q] at e
      cases e
      obtain ⟨v, e1, e2⟩ := Cy.Paired.get r q
      exact ⟨v, by rw [List.getElem?_append_left (by simpa [← RRs.len r] using hi), List.getElem?_map, e1]; rfl, e2⟩
  · rw [List.getElem?_append_right (by simpa using hi), List.getElem?_replicate] at e
    split at e <;> cases e
end

/-- all that is known of function f, named x -/
def FunFact (T : Tb) (fs : Nat → Option Fn) (K : Fg) (mg : Str → Option Value) (f : Nat) (x : Str) : Prop :=
  ∃ (a : Addr) (qual : Str) (params : Arguments) (body : List Stmt) (scope : Scope) (N ps : List Str) (fn : Fn) (fd : FuncData), fs f = some fn ∧ mg x = some (.ref a) ∧ FunD K x qual params body scope [] [] a fd ∧ Binds K fd ps [] ∧
    FnScope N ps scope ∧ fn.np = ps.length ∧ fn.ns = N.length ∧ chkSs T scope N fn.body body = true

theorem calls_ok {T : Tb} {fs : Nat → Option Fn} {P : Program} {w : World} {K : Fg} {mg : Str → Option Value} {base : Heap} (ff : ∀ f x, T.fnm f = some x → FunFact T fs K mg f x) (hg : GlobOk T K mg) (hd : DictOk T K w mg) (hb : ∀ x ∈ bltN, mg x = none) :
    ∀ k, CallOk T (run fs k) k P w K mg base
  | 0 => fun f x hf => by
    obtain ⟨a, qual, params, body, scope, N, ps, fn, fd, h1, h2, h3, h4, h5, h6, h7, h8⟩ := ff f x hf
    refine ⟨a, fd, ps, h2, h3.kp, h4, ⟨fun vs H Q E h => ?_, fun A outer s H args us vs Q E hr hg e0 hb r hsp => ?_⟩⟩
    · obtain ⟨al, h, rs, _, _, q⟩ := h
      exact q.elim
    · obtain ⟨al, h, rs, _, _, q⟩ := hsp
      exact q.elim
  | k + 1 => fun f x hf => by
    have ih := calls_ok (P := P) (base := base) ff hg hd hb k
    obtain ⟨a, qual, params, body, scope, N, ps, fn, fd, h1, h2, h3, h4, h5, h6, h7, h8⟩ := ff f x hf
    have elim : ∀ {vs H Q E}, spM K mg (run fs (k + 1)) f vs H Q E → ∃ al h rs, RH K al h H ∧ RRs K al (UU al h) H rs vs ∧ rs.length = fn.np ∧ Fin K mg E (RR K) al h H Q (match sts (run fs k) fn.body (rs.map some ++ List.replicate (fn.ns - fn.np) none) h with
        | .nx _ h1 => leave fn.keep h.length (.d .none) h1
        | .rt r h1 => leave fn.keep h.length r h1
        | .ex e _ h1 => if below h.length (h1.take h.length) then .ex e (h1.take h.length) else .bad
        | _ => .bad) := fun {vs H Q E} z => by
      obtain ⟨al, h, rs, rh, rr, q⟩ := z
      have q : Fin K mg E (RR K) al h H Q (run fs (k + 1) f rs h) := q
      unfold run at q
      rw [h1] at q
      simp only [enter] at q
      split at q
      · rename_i hl
        exact ⟨al, h, rs, rh, rr, hl, q⟩
      · exact q.elim
    have len : ∀ vs H Q E, spM K mg (run fs (k + 1)) f vs H Q E → vs.length = ps.length := fun vs H Q E z => by
      obtain ⟨al, h, rs, rh, rr, hl, q⟩ := elim z
      rw [← RRs.len rr, hl, h6]
    obtain ⟨oc, od, dV, kV, doc, pm, an, cdv, ct, osl, rfl, lk, hcd, _, _⟩ := h3.ex
    refine ⟨a, _, ps, h2, h3.kp, h4, fnG_of lk hcd h5 len fun A outer s H vs Q E hr hgd hsp => ?_⟩
    have g : Gx T (run fs k) k (cxOf (L2.CX P w) P w K mg base N qual scope a cdv A outer s H E) scope N :=
      ⟨rfl, h5.nd, rfl, rfl, hr, hgd, ih, hg, hd, hb⟩
    have tk : Takes (cxOf (L2.CX P w) P w K mg base N qual scope a cdv A outer s H E) (fun cls d _ H => E cls d H) := takes_of rfl rfl rfl rfl
    refine ⟨_, pss_ok g tk (passes_of rfl) h5.kind (fun _ => rfl) fn.body h8, ?_⟩
    obtain ⟨al, h, rs, rh, rr, hl, q⟩ := elim hsp
    have hlv : rs.length = vs.length := RRs.len rr
    refine ⟨al, h, rs.map some ++ List.replicate (fn.ns - fn.np) none, rh, ?_, ?_⟩
    · rw [h7, ← hl, hlv]
      exact start_rs rr
    · cases e : sts (run fs k) fn.body (rs.map some ++ List.replicate (fn.ns - fn.np) none) h with
      | nx ρ1 h1 =>
        rw [e] at q
        exact fun al' H' σ' st rh' rs' => leave_ok (r := .d .none) q st rh.len rh' .non
      | rt r h1 =>
        rw [e] at q
        exact fun al' H' v st rh' rr' => leave_ok q st rh.len rh' rr'
      | bk ρ1 h1 => rw [e] at q; exact q.elim
      | ct ρ1 h1 => rw [e] at q; exact q.elim
      | bad => rw [e] at q; exact q.elim
      | ex e1 ρ1 h1 =>
        rw [e] at q
        intro al' H' cls dd σ' st rh' rs' x
        have q : Fin K mg E (RR K) al h H Q (if below h.length (h1.take h.length) then .ex e1 (h1.take h.length) else .bad) := q
        split at q
        · rename_i b
          exact q (al'.take h.length) H' cls dd (stp_take st (Nat.le_of_eq rh.len)) (rh_take rh' b) x
        · exact q.elim
end Cy


set_option Elab.async false
set_option linter.all false
set_option maxRecDepth 100000
set_option maxHeartbeats 8000000
namespace Cy
open PySem PySem.Spec PyProof.Rows L2
theorem zip_look : ∀ {ps : List Str} {us : List Value} {n : Str}, us.length = ps.length → n ∈ ps → ((ps.zip us).lookup n).isSome = true
  | [], _, _, _, h => by simp at h
  | p :: ps, [], _, hl, _ => by simp at hl
  | p :: ps, u :: us, n, hl, h => by
    rw [List.zip_cons_cons, List.lookup_cons]
    cases e : n == p with
    | true => rfl
    | false =>
      rcases List.mem_cons.mp h with z | z
      · rw [z] at e; simp at e
      · exact zip_look (by simpa using hl) z
theorem zip_map : ∀ {ps qs : List Str} {us : List Value} {l : List (Str × Value)}, us.length = ps.length → ps.Nodup → (∀ n ∈ ps, l.lookup n = (ps.zip us).lookup n) → ps.filterMap (fun n => (l.lookup n).map (n, ·)) = ps.zip us
  | [], _, us, l, hl, nd, h => by simp
  | p :: ps, _, [], l, hl, nd, h => by simp at hl
  | p :: ps, qs, u :: us, l, hl, nd, h => by
    have h0 := h p List.mem_cons_self
    rw [List.zip_cons_cons, List.lookup_cons] at h0
    simp only [beq_self_eq_true] at h0
    rw [List.filterMap_cons, h0, List.zip_cons_cons]
    simp only [Option.map_some]
    rw [zip_map (qs := qs) (us := us) (by simpa using hl) (List.nodup_cons.mp nd).2 fun n hn => ?_]
    rw [h n (List.mem_cons_of_mem _ hn), List.zip_cons_cons, List.lookup_cons]
    have : (n == p) = false := by
      rw [beq_eq_false_iff_ne]
      rintro rfl
      exact (List.nodup_cons.mp nd).1 hn
    rw [this]
theorem bind_plain {x qual : Str} {as : List Arg} {body : List Stmt} {scope : Scope} {kV doc pm cdv ct : Value} {an : Option Addr} {us : List Value} (nd : (as.map (·.arg)).Nodup) (hl : us.length = (as.map (·.arg)).length) :
    bindArgs (PySem.W.fnOf x qual ⟨[], as, none, [], [], none, []⟩ body scope .none kV doc pm an cdv ct) ⟨us, []⟩ = pure ((as.map (·.arg)).zip us) := by
  have hm : ((as.map (·.arg)).filter fun n => (((as.map (·.arg)).zip us).lookup n).isNone) = [] := by
    rw [List.filter_eq_nil_iff]
    intro n hn
    have := zip_look hl hn
    cases e : ((as.map (·.arg)).zip us).lookup n with
    | none => rw [e] at this; cases this
    | some v => simp
  have hz := zip_map (qs := []) (us := us) (l := (as.map (·.arg)).zip us) hl nd fun n _ => rfl
  unfold bindArgs
  simp only [PySem.W.fnOf, List.map_nil, List.nil_append, List.append_nil, List.forIn_nil]
  generalize as.map (·.arg) = ps at *
  have e1 : seqItems? (.none : Value) = pure none := rfl
  rw [e1]
  have e2 : ¬ (us.length > ps.length) := by omega
  have e3 : (ps.take (ps.length - 0)).filter (fun n => ((ps.zip us).lookup n).isNone) = [] := by rw [Nat.sub_zero, List.take_length]; exact hm
  have e4 : List.drop (ps.length - 0) ps = [] := by simp
  have e5 : (List.drop (((none : Option (Array Value)).getD #[]).toList.length - ps.length) ((none : Option (Array Value)).getD #[]).toList) = [] := by simp
  show (if (decide (us.length > ps.length) && (none : Option Arg).isNone) = true then _ else _) = _
  rw [decide_eq_false e2, if_neg (by simp)]
  simp only [e5, List.length_nil, e3, e4]
  show (pure (List.filterMap (fun n => Option.map (fun x => (n, x)) (List.lookup n (ps.zip us))) ps) : Sem _) = _
  rw [hz]
end Cy


set_option Elab.async false
set_option linter.all false
set_option maxRecDepth 100000
set_option maxHeartbeats 8000000
/-! L5c: a row's table: checks, facts behind the head. -/
namespace Cy
open PySem PySem.Spec PyProof.Rows L2

/-- a function of the row: its number, its name, its place in the text, its names -/
structure Ent where
  id : Nat
  name : Str
  place : Nat
  ns : List Str

def plainA (a : Arguments) : Bool := a.posonlyargs.isEmpty && a.vararg.isNone && a.kwonlyargs.isEmpty && a.kw_defaults.isEmpty && a.kwarg.isNone && a.defaults.isEmpty
theorem plainA_ok {a : Arguments} (h : plainA a = true) : a = ⟨[], a.args, none, [], [], none, []⟩ := by
  obtain ⟨p1, p2, p3, p4, p5, p6, p7⟩ := a
  unfold plainA at h
  simp only [Bool.and_eq_true, List.isEmpty_iff, Option.isNone_iff_eq_none] at h
  obtain ⟨⟨⟨⟨⟨rfl, rfl⟩, rfl⟩, rfl⟩, rfl⟩, rfl⟩ := h
  rfl
def scB (N P : List Str) (sc : Scope) : Bool :=
  (match sc.kind with
    | .function => true
    | _ => false) && !sc.isCoroutine && !sc.isGenerator && decide N.Nodup && decide (N.take P.length = P) && (P.all fun x => decide (sc.names.lookup x = some .local) || decide (sc.names.lookup x = some .cell)) && sc.names.all fun y => !decide (y.2 = .free)
theorem scB_ok {N P : List Str} {sc : Scope} (h : scB N P sc = true) : FnScope N P sc := by
  unfold scB at h
  simp only [Bool.and_eq_true, Bool.not_eq_true', decide_eq_true_eq, List.all_eq_true, Bool.or_eq_true, decide_eq_false_iff_not] at h
  obtain ⟨⟨⟨⟨⟨⟨h1, h2⟩, h3⟩, h4⟩, h5⟩, h6⟩, h7⟩ := h
  refine ⟨?_, h2, h3, h4, h5, h6, h7⟩
  split at h1
  · assumption
  · cases h1
def tbOf (ents : List Ent) (gs : List (Nat × Str × D)) (ds : List (Nat × Str × List (D × D))) : Tb := ⟨fun f => (ents.find? fun e => e.id == f).map (·.name), gs, ds⟩
def fnB (T : Tb) (fs : Nat → Option Fn) (e : Ent) (ps : Nat) (sc : Scope) (b : List Stmt) : Bool := match fs e.id with
  | some fn => decide (fn.np = ps) && decide (fn.ns = e.ns.length) && chkSs T sc e.ns fn.body b
  | none => false
def entB (T : Tb) (fs : Nat → Option Fn) (body : List Stmt) (e : Ent) : Bool := match body[e.place]? with
  | some (.FunctionDef n a b _ _ _ sc _ _ _) => decide (n = e.name) && plainA a && scB e.ns (a.args.map (·.arg)) sc && fnB T fs e (a.args.map (·.arg)).length sc b
  | _ => false
def dOf (body : List Stmt) (e : Ent) : He.DefD := match body[e.place]? with
  | some st => ⟨(e.name, none), e.name, e.name, defArgs st, defBody st, defScope st, [], []⟩
  | none => ⟨(e.name, none), e.name, e.name, defArgs (.Pass ⟨0, 0, 0, 0⟩), [], defScope (.Pass ⟨0, 0, 0, 0⟩), [], []⟩

/-! ### what is known of the module's constants -/
mutual
def cD (K : Fg) : D → Value → Bool
  | .none, .none => true
  | .bool b, .bool c => b == c
  | .int i, .int j _ => decide (i = j)
  | .str x, .str y _ => decide (x = y)
  | .tuple ds, .ref a => (match K.lookup a with
    | some ⟨.type c, _, .seq its _, _⟩ => decide (c = "tuple") && decide (its.size ≤ sizeLine) && cDs K ds its.toList
    | _ => false)
  | _, _ => false
def cDs (K : Fg) : List D → List Value → Bool
  | [], [] => true
  | d :: ds, u :: us => cD K d u && cDs K ds us
  | _, _ => false
end
mutual
theorem cD_ok {K : Fg} : ∀ {d : D} {u : Value}, cD K d u = true → ∃ v, RelV v u ∧ ∀ U H, RD K U H d v
  | .none, u, h => by
    cases u <;> simp [cD] at h
    exact ⟨.non, rfl, fun _ _ => .non⟩
  | .bool b, u, h => by
    cases u <;> simp [cD] at h
    subst h
    exact ⟨.bl b, rfl, fun _ _ => .bl b⟩
  | .int i, u, h => by
    cases u <;> simp [cD] at h
    subst h
    exact ⟨.int i, ⟨_, rfl⟩, fun _ _ => .int i⟩
  | .str x, u, h => by
    cases u <;> simp [cD] at h
    subst h
    exact ⟨.str x, ⟨_, rfl⟩, fun _ _ => .str x⟩
  | .list _, u, h => by cases u <;> simp [cD] at h
  | .dict _, u, h => by cases u <;> simp [cD] at h
  | .tuple ds, u, h => by
    cases u with
    | ref a =>
      unfold cD at h
      split at h
      · rename_i c od its n sl q
        simp only [Bool.and_eq_true, decide_eq_true_eq] at h
        obtain ⟨⟨rfl, h2⟩, h3⟩ := h
        obtain ⟨vs, rv, rd⟩ := cDs_ok h3
        exact ⟨.ref a, rfl, fun U H => .tupK ⟨_, its, n, q, rfl, rfl, h2, rv⟩ (rd U H)⟩
      · cases h
    | _ => simp [cD] at h
theorem cDs_ok {K : Fg} : ∀ {ds : List D} {us : List Value}, cDs K ds us = true → ∃ vs, Vals vs us ∧ ∀ U H, RDs K U H ds vs
  | [], [], _ => ⟨[], .nil, fun _ _ => .nil⟩
  | [], _ :: _, h => by simp [cDs] at h
  | _ :: _, [], h => by simp [cDs] at h
  | d :: ds, u :: us, h => by
    unfold cDs at h
    rw [Bool.and_eq_true] at h
    obtain ⟨v, r, rd⟩ := cD_ok h.1
    obtain ⟨vs, rs, rds⟩ := cDs_ok h.2
    exact ⟨v :: vs, .cons r rs, fun U H => .cons (rd U H) (rds U H)⟩
end
def cB (K : Fg) (x : Str) (d : D) : Bool := match PySem.W.nsIn K mainGlobals x with
  | some (some u) => cD K d u
  | _ => false
/-- a dict's entries -/
def dE (K : Fg) : List DictEntry → List (D × D) → Bool
  | [], [] => true
  | e :: es, (.str x, d) :: r => (match e.key with
    | .str y _ => decide (y = x)
    | _ => false) && cD K d e.val && dE K es r
  | _, _ => false
def dB (K : Fg) (x : Str) (kvs : List (D × D)) : Bool := match PySem.W.nsIn K mainGlobals x with
  | some (some (.ref a)) => (match K.lookup a with
    | some ⟨_, _, .dict es _, _⟩ => dE K es.toList kvs
    | _ => false)
  | _ => false

/-! ### the script's own object taken out -/
def cutK (K : Fg) (a : Addr) : Fg := K.filter fun p => !(p.1 == a)
theorem cutK_ne {a b : Addr} (h : b ≠ a) : ∀ {K : Fg}, (cutK K a).lookup b = K.lookup b
  | [] => rfl
  | (c, o) :: r => by
    have ih := cutK_ne h (K := r)
    unfold cutK at ih ⊢
    rw [List.filter_cons]
    by_cases hc : c = a
    · subst hc
      simp only [beq_self_eq_true, Bool.not_true, Bool.false_eq_true, if_false]
      rw [ih, List.lookup_cons]
      have : (b == c) = false := by rw [beq_eq_false_iff_ne]; exact h
      rw [this]
    · have : (!(c == a)) = true := by simp [hc]
      simp only [this, if_true]
      rw [List.lookup_cons, List.lookup_cons, ih]
theorem cutK_self {a : Addr} : ∀ {K : Fg}, (cutK K a).lookup a = none
  | [] => rfl
  | (c, o) :: r => by
    have ih := cutK_self (a := a) (K := r)
    unfold cutK at ih ⊢
    rw [List.filter_cons]
    by_cases hc : c = a
    · subst hc
      simp only [beq_self_eq_true, Bool.not_true, Bool.false_eq_true, if_false]
      exact ih
    · have : (!(c == a)) = true := by simp [hc]
      simp only [this, if_true]
      rw [List.lookup_cons]
      have : (a == c) = false := by rw [beq_eq_false_iff_ne]; exact fun z => hc z.symm
      rw [this]
      exact ih
theorem cutK_in {K : Fg} {a : Addr} {h : Heap} (X : K.In h) : (cutK K a).In h := fun b o e => by
  by_cases hb : b = a
  · subst hb
    rw [cutK_self] at e
    cases e
  · rw [cutK_ne hb] at e
    exact X b o e

section
variable {K : Fg} {h : Heap} {a : Addr} {vs : List Value}
theorem cut_at {b : Addr} {o : Obj} (X : K.In h) (ha : h.get? a = some { cls := .type "list", data := .seq vs.toArray }) (e : K.lookup b = some o) (no : o.cls ≠ .type "list" ∨ ∀ its n, o.data ≠ .seq its n) : (cutK K a).lookup b = some o := by
  have hb : b ≠ a := by
    rintro rfl
    have q := X b o e
    rw [ha] at q
    cases q
    rcases no with z | z
    · exact z rfl
    · exact z _ _ rfl
  rw [cutK_ne hb]
  exact e
mutual
theorem cD_cut (X : K.In h) (ha : h.get? a = some { cls := .type "list", data := .seq vs.toArray }) : ∀ {d : D} {u : Value}, cD K d u = true → cD (cutK K a) d u = true
  | .none, u, h => by cases u <;> simp [cD] at h ⊢
  | .bool b, u, h => by cases u <;> simp [cD] at h ⊢; exact h
  | .int i, u, h => by cases u <;> simp [cD] at h ⊢; exact h
  | .str x, u, h => by cases u <;> simp [cD] at h ⊢; exact h
  | .list _, u, h => by cases u <;> simp [cD] at h
  | .dict _, u, h => by cases u <;> simp [cD] at h
  | .tuple ds, u, h => by
    cases u with
    | ref b =>
      unfold cD at h ⊢
      split at h
      · rename_i c od its n sl q
        simp only [Bool.and_eq_true, decide_eq_true_eq] at h
        obtain ⟨⟨rfl, h2⟩, h3⟩ := h
        rw [cut_at X ha q (.inl fun z => absurd (show Value.type "tuple" = .type "list" from z) (by decide))]
        simp only [Bool.and_eq_true, decide_eq_true_eq]
        exact ⟨⟨trivial, h2⟩, cDs_cut X ha h3⟩
      · cases h
    | _ => simp [cD] at h
theorem cDs_cut (X : K.In h) (ha : h.get? a = some { cls := .type "list", data := .seq vs.toArray }) : ∀ {ds : List D} {us : List Value}, cDs K ds us = true → cDs (cutK K a) ds us = true
  | [], [], h => rfl
  | [], _ :: _, h => by simp [cDs] at h
  | _ :: _, [], h => by simp [cDs] at h
  | d :: ds, u :: us, h => by
    unfold cDs at h ⊢
    rw [Bool.and_eq_true] at h ⊢
    exact ⟨cD_cut X ha h.1, cDs_cut X ha h.2⟩
end
theorem dE_cut (X : K.In h) (ha : h.get? a = some { cls := .type "list", data := .seq vs.toArray }) : ∀ {es : List DictEntry} {kvs : List (D × D)}, dE K es kvs = true → dE (cutK K a) es kvs = true
  | [], [], h => rfl
  | [], _ :: _, h => by simp [dE] at h
  | e :: es, [], h => by simp [dE] at h
  | e :: es, (k, d) :: r, h => by
    cases k with
    | str x =>
      unfold dE at h ⊢
      rw [Bool.and_eq_true, Bool.and_eq_true] at h ⊢
      exact ⟨⟨h.1.1, cD_cut X ha h.1.2⟩, dE_cut X ha h.2⟩
    | _ => simp [dE] at h
theorem codeIn_cut (X : K.In h) (ha : h.get? a = some { cls := .type "list", data := .seq vs.toArray }) {cdv : Value} {q : Str} (e : PySem.W.codeIn K cdv q = true) : PySem.W.codeIn (cutK K a) cdv q = true := by
  cases cdv with
  | ref c =>
    unfold PySem.W.codeIn at e ⊢
    simp only at e ⊢
    split at e
    · rename_i cl od vs' sl z
      rw [cut_at X ha z (.inr fun _ _ z => by cases z)]
      exact e
    · cases e
  | _ => simp [PySem.W.codeIn] at e
theorem funD_cut (X : K.In h) (ha : h.get? a = some { cls := .type "list", data := .seq vs.toArray }) {x qual : Str} {params : Arguments} {body : List Stmt} {scope : Scope} {f : Addr} {fd : FuncData} (F : FunD K x qual params body scope [] [] f fd) :
    FunD (cutK K a) x qual params body scope [] [] f fd := by
  obtain ⟨oc, od, dV, kV, doc, pm, an, cdv, ct, osl, rfl, lk, hcd, hD, hK⟩ := F.ex
  have lk' := cut_at X ha lk (.inr fun _ _ z => by cases z)
  refine ⟨⟨oc, od, dV, kV, doc, pm, an, cdv, ct, osl, rfl, lk', codeIn_cut X ha hcd, ?_, .inl rfl⟩, ?_⟩
  · rcases hD with z | ⟨z, _⟩
    · exact .inl z
    · exact absurd rfl z
  · unfold PySem.W.keepIn
    simp only [lk']
end
end Cy


set_option Elab.async false
set_option linter.all false
set_option maxRecDepth 100000
set_option maxHeartbeats 8000000
/-! L5d: the hook of a row, its facts, the law's end. -/
namespace Cy
open PySem PySem.Spec PyProof.Rows L2

theorem isStr_at {y z : Str} {t : Tok} : (Value.str y t).isStr z = (y == z) := rfl
theorem dE_ref {K : Fg} : ∀ {es : List DictEntry} {kvs : List (D × D)}, dE K es kvs = true → es.any (·.refKey) = false
  | [], [], _ => rfl
  | [], _ :: _, h => by simp [dE] at h
  | e :: es, [], h => by simp [dE] at h
  | e :: es, (k, d) :: r, h => by
    cases k with
    | str x =>
      unfold dE at h
      rw [Bool.and_eq_true, Bool.and_eq_true] at h
      rw [List.any_cons, dE_ref h.2, Bool.or_false]
      have h1 := h.1.1
      split at h1
      · rename_i y t q
        unfold DictEntry.refKey
        rw [q]
      · cases h1
    | _ => simp [dE] at h
theorem dE_find {K : Fg} {z : Str} : ∀ {es : List DictEntry} {kvs : List (D × D)}, dE K es kvs = true → match findK z kvs with
    | none => es.find? (·.key.isStr z) = none
    | some y => ∃ e, es.find? (·.key.isStr z) = some e ∧ cD K y e.val = true
  | [], [], _ => rfl
  | [], _ :: _, h => by simp [dE] at h
  | e :: es, [], h => by simp [dE] at h
  | e :: es, (k, d) :: r, h => by
    cases k with
    | str x =>
      unfold dE at h
      rw [Bool.and_eq_true, Bool.and_eq_true] at h
      have ih := dE_find (z := z) h.2
      have h1 := h.1.1
      split at h1
      · rename_i y t q
        have q1 : y = x := of_decide_eq_true h1
        subst q1
        have q2 : e.key.isStr z = (y == z) := by rw [q]; rfl
        unfold findK
        rw [List.find?_cons, q2]
        by_cases hz : y = z
        · subst hz
          simp only [if_true, beq_self_eq_true]
          exact ⟨e, rfl, h.1.2⟩
        · have : (y == z) = false := by rw [beq_eq_false_iff_ne]; exact hz
          simp only [if_neg hz, this]
          exact ih
      · cases h1
    | _ => simp [dE] at h

/-! ### the hook -/
def keysD : List (D × D) → List Str
  | [] => []
  | (.str x, _) :: r => x :: keysD r
  | _ :: r => keysD r
def faOf (ents : List Ent) : List He.Fa := (ents.map fun e => He.Fa.glo e.name) ++ bltN.map .free
def tsOf (ds : List (Nat × Str × List (D × D))) : List He.Tab := ds.map fun p => ((fun K => He.ga K p.2.1), keysD p.2.2)
def conB (gs : List (Nat × Str × D)) (ds : List (Nat × Str × List (D × D))) (K : Fg) : Bool := (gs.all fun p => cB K p.2.1 p.2.2) && ds.all fun p => dB K p.2.1 p.2.2
structure Row where
  body : List Stmt
  ents : List Ent
  gs : List (Nat × Str × D)
  ds : List (Nat × Str × List (D × D))
def Row.fn (r : Row) : List He.DefD := r.ents.map (dOf r.body)
def Row.T (r : Row) : Tb := tbOf r.ents r.gs r.ds
def Row.obs (r : Row) (n : Nat) (g : Addr → Option Obj) : He.AlT × Bool := (He.obsT (faOf r.ents) r.fn (tsOf r.ds) (He.frG g (He.asD g n)), conB r.gs r.ds (He.frG g (He.asD g n)))
def Row.hook (r : Row) (n : Nat) : PySem.W.Hook where
  α := He.AlT × Bool
  obs := fun s => r.obs n s.heap.get?
  val := fun w => (He.valT r.fn (tsOf r.ds) w, true)
  says := fun w h => ∃ K : Fg, K.In h ∧ He.SaysT (faOf r.ents) r.fn (tsOf r.ds) w K ∧ conB r.gs r.ds K = true
  of := fun _ _ e => ⟨_, He.frG_in, congrArg (fun z : He.AlT × Bool => z.1) e, congrArg (fun z : He.AlT × Bool => z.2) e⟩
  keeps := fun _ _ _ ⟨K, hK, c⟩ k => ⟨K, PySem.W.Frag.In.keeps hK k, c⟩
theorem Row.obs_eq {r : Row} {n : Nat} {g : Addr → Option Obj} {s : Shared} (h : ∀ a, g a = s.heap.get? a) : r.obs n g = (r.hook n).obs s := by
  have e : g = s.heap.get? := funext h
  rw [e] <;> rfl

/-! ### facts -/
section
variable {r : Row} {K : Fg} {h : Heap} {mg : Str → Option Value} {w : World} {a : Addr} {vs : List Value} {fs : Nat → Option Fn}
theorem find_ent {ents : List Ent} {f : Nat} {x : Str} (hf : ((ents.find? fun e => e.id == f).map (·.name)) = some x) : ∃ e ∈ ents, e.id = f ∧ e.name = x := by
  cases q : ents.find? fun e => e.id == f with
  | none => rw [q] at hf; cases hf
  | some e =>
    rw [q] at hf
    have h1 := List.find?_some q
    exact ⟨e, List.mem_of_find?_eq_some q, by simpa using h1, by simpa using hf⟩
theorem row_fn (X : K.In h) (G : h.Ns mainGlobals mg) (c : He.SaysT (faOf r.ents) r.fn (tsOf r.ds) w K) (ha : h.get? a = some { cls := .type "list", data := .seq vs.toArray }) (ck : (r.ents.all fun e => entB r.T fs r.body e) = true) :
    ∀ f x, r.T.fnm f = some x → FunFact r.T fs (cutK K a) mg f x := by
  intro f x hf
  obtain ⟨e, he, rfl, rfl⟩ := find_ent (ents := r.ents) hf
  have ce := List.all_eq_true.mp ck e he
  unfold entB at ce
  have hd : dOf r.body e ∈ r.fn := List.mem_map_of_mem he
  obtain ⟨fd, F⟩ := He.SaysD.defs c.d hd
  have hglo : mg e.name = some (.ref (He.ga K e.name)) := He.glo_ok X G (He.SaysD.facts c.d (f := .glo e.name) (List.mem_append_left _ (List.mem_map_of_mem he)))
  split at ce
  · rename_i n ar b d1 d2 d3 sc d4 d5 d6 q
    rw [Bool.and_eq_true, Bool.and_eq_true, Bool.and_eq_true] at ce
    obtain ⟨⟨⟨c1, c2⟩, c3⟩, c4⟩ := ce
    have S := scB_ok c3
    have ed : dOf r.body e = ⟨(e.name, none), e.name, e.name, ar, b, sc, [], []⟩ := by
      unfold dOf
      rw [q]
      rfl
    rw [ed] at F
    have F2 : FunD K e.name e.name ar b sc [] [] (He.ga K e.name) fd := F
    have F3 := funD_cut X ha F2
    unfold fnB at c4
    split at c4
    · rename_i fn q2
      simp only [Bool.and_eq_true, decide_eq_true_eq] at c4
      refine ⟨_, e.name, ar, b, sc, e.ns, ar.args.map (·.arg), fn, fd, q2, hglo, F3, ?_, S, c4.1.1, c4.1.2, c4.2⟩
      refine FunD.bindsN F3 fun kV doc pm an cdv ct us hl => ?_
      have nd : (ar.args.map (·.arg)).Nodup := by rw [← S.pre]; exact S.nd.sublist (List.take_sublist _ _)
      rw [plainA_ok c2] at hl nd ⊢
      exact bind_plain nd hl
    · cases c4
  · cases ce
theorem row_glob (X : K.In h) (G : h.Ns mainGlobals mg) (c : conB r.gs r.ds K = true) (ha : h.get? a = some { cls := .type "list", data := .seq vs.toArray }) : GlobOk r.T (cutK K a) mg := by
  intro p hp
  unfold conB at c
  rw [Bool.and_eq_true] at c
  have q := List.all_eq_true.mp c.1 p hp
  unfold cB at q
  split at q
  · rename_i u e
    obtain ⟨v, rv, rd⟩ := cD_ok (cD_cut X ha q)
    exact ⟨u, v, PySem.W.mg_of X G e, rv, rd⟩
  · cases q
theorem row_dict (X : K.In h) (G : h.Ns mainGlobals mg) (c : conB r.gs r.ds K = true) (c2 : He.SaysT (faOf r.ents) r.fn (tsOf r.ds) w K) (ha : h.get? a = some { cls := .type "list", data := .seq vs.toArray }) : DictOk r.T (cutK K a) w mg := by
  intro p hp
  unfold conB at c
  rw [Bool.and_eq_true] at c
  have q := List.all_eq_true.mp c.2 p hp
  unfold dB at q
  split at q
  · rename_i b e
    have hga : He.ga K p.2.1 = b := by
      unfold He.ga
      rw [e]
    obtain ⟨i, hi, hpi⟩ := List.mem_iff_getElem.mp (show p ∈ r.ds from hp)
    obtain ⟨es, n, kd⟩ := He.SaysT.tab c2 i (t := ((fun K => He.ga K p.2.1), keysD p.2.2)) (by unfold tsOf; rw [List.getElem?_map, List.getElem?_eq_getElem hi, hpi]; rfl)
    have kd : KDict K w (He.ga K p.2.1) es n := kd
    rw [hga] at kd
    rw [kd.at_] at q
    have q : dE K es.toList p.2.2 = true := q
    have at2 := cut_at X ha kd.at_ (.inr fun _ _ z => by cases z)
    have q2 := dE_cut X ha q
    refine ⟨b, es, n, PySem.W.mg_of X G e, ⟨at2, kd.lit, kd.low⟩, fun z => ?_⟩
    have fz := dE_find (z := z) q2
    have rf := dE_ref q2
    cases hz : findK z p.2.2 with
    | none =>
      rw [hz] at fz
      simp only at fz ⊢
      unfold PySem.W.nsIn
      simp only [at2, fz, rf, Bool.false_eq_true, if_false]
    | some y =>
      rw [hz] at fz
      obtain ⟨en, e1, e2⟩ := fz
      obtain ⟨v, rv, rd⟩ := cD_ok e2
      refine ⟨en.val, v, ?_, rv, rd⟩
      unfold PySem.W.nsIn
      simp only [at2, e1]
  · cases q
theorem row_free (X : K.In h) (G : h.Ns mainGlobals mg) (c : He.SaysT (faOf r.ents) r.fn (tsOf r.ds) w K) : ∀ x ∈ bltN, mg x = none := fun x hx =>
  He.free_ok X G (He.SaysD.facts c.d (f := .free x) (List.mem_append_right _ (List.mem_map_of_mem hx)))
end
end Cy


set_option Elab.async false
set_option linter.all false
set_option maxRecDepth 100000
set_option maxHeartbeats 8000000
/-! L5e: the law's end. -/
namespace Cy
open PySem PySem.Spec PyProof.Rows L2

def okT : Out R → Bool
  | .ok (.d (.bool true)) _ => true
  | _ => false

theorem walkC {l : PySem.W.OpenLaw} {r : Row} {n k m lid : Nat} {q : Program} {loose : List Str} {XP : (Str → Option Value) → Heap → Prop} {d : DefRec} {fs : Nat → Option Fn} (hn : l.most = some n) (hn2 : n ≤ sizeLine) (hdf : d.params.defaults = []) (hr : Room k callerA)
    (ck : (r.ents.all fun e => entB r.T fs r.body e) = true) (hl : r.T.fnm lid = some d.name) (law : ∀ ns : List Int, ns.length ≤ n → okT (run fs k lid [.d (.list (ns.map PyData.int))] []) = true) :
    PySem.W.WalkO q loose XP (r.hook m).says l.row.toRowW d [] (fun f vs => PySem.call f vs) := by
  refine Att.attach_call hn hdf fun w s₀ s₁ mg mb fa o pm cd doc a vs ns G Y ho hd hcd hmg hobj hints hlen hg => ?_
  obtain ⟨K, X, c, cc⟩ := Y
  have X2 := cutK_in (a := a) X
  have ff := row_fn (mg := mg) X G.T.g c hobj ck
  have lenV := hints.length
  -- what is tracked: the script alone
  let H : Hp := fun b => if b = a then some (.frz { cls := .type "list", data := .seq vs.toArray } (.lst (ns.map V.int))) else none
  have Ha : H a = some (.frz { cls := .type "list", data := .seq vs.toArray } (.lst (ns.map V.int))) := if_pos rfl
  have Hn : ∀ {b : Addr}, b ≠ a → H b = none := fun hb => if_neg hb
  have eqa : ∀ {b : Addr} {u : HO}, H b = some u → b = a := fun {b u} e => by
    by_cases hb : b = a
    · exact hb
    · rw [Hn hb] at e; cases e
  have hok : HOk l.prog w H s₁.heap := fun b u e => by
    cases eqa e
    rw [Ha] at e
    cases e
    exact ⟨hobj, by rw [List.length_map]; exact Nat.le_trans hlen hn2, vs, _, vals_ints hints, hobj⟩
  have base_of : ∀ {b : Addr} {o : Obj}, b ≠ a → s₁.heap.get? b = some o → (hidT s₁.heap H).get? b = some o := fun hb e => hidT_get e (Hn hb)
  have nsB : ∀ {b : Addr} {m : Str → Option Value}, s₁.heap.Ns b m → (hidT s₁.heap H).Ns b m := fun {b m} ⟨o, es, ep, e, dd, z⟩ => ⟨o, es, ep, base_of (fun hb => by
    rw [hb, hobj] at e
    cases e
    cases (show Data.seq vs.toArray _ = Data.dict es ep from dd)) e, dd, z⟩
  have KB : (cutK K a).In (hidT s₁.heap H) := fun b o e => base_of (fun hb => by
    rw [hb, cutK_self] at e
    cases e) (X2 b o e)
  have M : Mod (cutK K a) mg (hidT s₁.heap H) := ⟨KB, nsB G.T.g, ⟨mb, nsB G.T.b, G.T.builtins⟩, let ⟨mc, z1, z2⟩ := G.T.nolimit; ⟨mc, nsB z1, z2⟩⟩
  have E0 : Env0 l.prog w (cutK K a) mg (hidT s₁.heap H) callerA [] s₁ H :=
    ⟨rfl, M, fun b o e => of_hidT e, Nat.le_of_eq (hidT_size _ _), trivial, fun b hb => absurd (show b ∈ ([] : List Addr) from hb) (by simp), hok, .of_eq hg⟩
  -- the law's own promise
  obtain ⟨f1, fd, ps, e1, kp, hb, F⟩ := calls_ok (P := l.prog) (w := w) (base := hidT s₁.heap H) ff (row_glob X G.T.g cc hobj) (row_dict X G.T.g cc c hobj) (row_free X G.T.g c) k lid d.name hl
  rw [hmg] at e1
  cases e1
  have lw := law ns hlen
  have sp : spM (cutK K a) mg (run fs k) lid [.ref a] H (fun v _ => v = .bl true) (fun _ _ _ => False) := by
    refine ⟨[], [], [.d (.list (ns.map PyData.int))], ⟨rfl, List.nodup_nil, fun n c b e => by simp at e⟩, .cons (.lst (fun ⟨n, c, e, _⟩ => by simp at e) (.inr ⟨_, Ha⟩) (RDs.ofInts ns)) .nil, ?_⟩
    unfold okT at lw
    split at lw
    · rename_i h1 e
      rw [e]
      intro al' H' v _ _ rr
      cases rr
      rfl
    · cases lw
  have hps : ps.length = 1 := (F.len _ _ _ _ sp).symm
  have bd := hb s₁ [.ref a] X2 (by rw [hps]; rfl)
  rw [List.append_nil] at bd
  refine codeAny_mono (F.run callerA [] s₁ H ⟨[.ref a], []⟩ [.ref a] [.ref a] _ _ hr rfl E0 bd (.cons rfl .nil) sp) fun res s' hq => ?_
  cases res with
  | error e =>
    obtain ⟨_, _, _, _, _, _, _, _, _, _, _, _, z⟩ := hq
    exact z.elim
  | ok fl =>
    cases fl with
    | next => exact False.elim hq
    | brk => exact False.elim hq
    | cont => exact False.elim hq
    | ret u =>
      obtain ⟨v, H', os, bare, un, hok', r', qv⟩ := hq
      have qv' : v = .bl true := qv
      subst qv'
      cases (show u = Value.bool true from r')
      refine ⟨rfl, OldK.of_keep fun b o e => ?_, os, bare⟩
      by_cases hba : b = a
      · subst hba
        have z2 := un.frzs b _ _ Ha
        obtain ⟨e1, _⟩ := hok b _ Ha
        obtain ⟨e2, _⟩ := hok' b _ z2
        rw [e] at e1
        cases e1
        exact e2
      · exact un.keep b o e (Hn hba) (fun z => absurd (show b ∈ ([] : List Addr) from z) (by simp)) (by simp)
end Cy


set_option Elab.async false
set_option linter.all false
set_option maxRecDepth 100000
set_option maxHeartbeats 4000000
/-! L6a: the frame: what is computed above other cells. -/
namespace Cy
open PySem

def R.sh (n : Nat) : R → R
  | .d x => .d x
  | .ref m => .ref (m + n)
def Cell.sh (n : Nat) : Cell → Cell
  | .lst xs => .lst xs
  | .fz xs => .fz xs
  | .dct t kvs => .dct t (kvs.map fun p => (p.1, p.2.sh n))
def shH (g h : Hs) : Hs := g ++ h.map (Cell.sh g.length)
def shP (n : Nat) (ρ : Rho) : Rho := ρ.map fun o => o.map (R.sh n)
def shO {α : Type} (g : Hs) (sa : α → α) : Out α → Out α
  | .ok a h => .ok (sa a) (shH g h)
  | .ex e h => .ex e (shH g h)
  | .bad => .bad
/-- m' does above g what m does -/
def MSh {α : Type} (g : Hs) (sa : α → α) (m m' : M α) : Prop := ∀ h, m' (shH g h) = shO g sa (m h)

section
variable {g : Hs} {α β : Type} {sa : α → α} {sb : β → β}
theorem MSh.bnd {m m' : M α} {f f' : α → M β} (h1 : MSh g sa m m') (h2 : ∀ a, MSh g sb (f a) (f' (sa a))) : MSh g sb (m.bnd f) (m'.bnd f') := by
  intro h
  unfold M.bnd
  rw [h1 h]
  cases m h with
  | ok a h1 => exact h2 a h1
  | ex e h1 => rfl
  | bad => rfl
theorem MSh.ret (a : α) : MSh g sa (M.ret a) (M.ret (sa a)) := fun h => rfl
theorem MSh.no : MSh g sa M.no M.no := fun h => rfl
theorem MSh.opt (o : Option α) : MSh g id (M.opt o) (M.opt o) := by
  intro h
  cases o <;> rfl
theorem MSh.nox {m m' : M α} (h1 : MSh g sa m m') : MSh g sa (M.nox m) (M.nox m') := by
  intro h
  unfold M.nox
  rw [h1 h]
  cases m h <;> rfl
theorem shH_len (g h : Hs) : (shH g h).length = h.length + g.length := by
  unfold shH
  rw [List.length_append, List.length_map, Nat.add_comm]
theorem shH_get (g h : Hs) (n : Nat) : (shH g h)[n + g.length]? = (h[n]?).map (Cell.sh g.length) := by
  unfold shH
  rw [List.getElem?_append_right (by omega), List.getElem?_map]
  congr 2
  omega
theorem shH_set (g h : Hs) (n : Nat) (c : Cell) : (shH g h).set (n + g.length) (c.sh g.length) = shH g (h.set n c) := by
  unfold shH
  rw [List.set_append_right _ _ (by omega)]
  congr 1
  have : n + g.length - g.length = n := by omega
  rw [this, List.map_set]
theorem shH_push (g h : Hs) (c : Cell) : shH g h ++ [c.sh g.length] = shH g (h ++ [c]) := by
  unfold shH
  rw [List.map_append, List.append_assoc]
  rfl
theorem shH_take (g h : Hs) (n : Nat) : (shH g h).take (n + g.length) = shH g (h.take n) := by
  unfold shH
  rw [List.take_append, List.take_of_length_le (by omega), List.map_take]
  congr 2
  omega
theorem below_mono {m n : Nat} (h : m ≤ n) : ∀ {g : Hs}, below m g = true → below n g = true := fun {g} b => by
  unfold below at b ⊢
  rw [List.all_eq_true] at b ⊢
  intro c hc
  have := b c hc
  cases c with
  | lst _ => rfl
  | fz _ => rfl
  | dct t kvs =>
    unfold Cell.below at this ⊢
    rw [List.all_eq_true] at this ⊢
    intro p hp
    have q := this p hp
    obtain ⟨pk, pr⟩ := p
    cases pr with
    | d _ => rfl
    | ref k =>
      have q : decide (k < m) = true := q
      have q := of_decide_eq_true q
      exact decide_eq_true (show k < n by omega)
theorem rsh_below (n k : Nat) (r : R) : (r.sh k).below (n + k) = r.below n := by
  cases r with
  | d _ => rfl
  | ref m =>
    unfold R.sh R.below
    simp
theorem csh_below (n k : Nat) (c : Cell) : (c.sh k).below (n + k) = c.below n := by
  cases c with
  | lst _ => rfl
  | fz _ => rfl
  | dct t kvs =>
    show ((kvs.map fun p => (p.1, p.2.sh k)).all fun p => p.2.below (n + k)) = kvs.all fun p => p.2.below n
    rw [List.all_map]
    congr 1
    funext p
    exact rsh_below n k p.2
theorem shH_below (hg : below g.length g = true) (n : Nat) (h : Hs) : below (n + g.length) (shH g h) = below n h := by
  have b := below_mono (n := n + g.length) (by omega) hg
  unfold shH below at *
  rw [List.all_append, b, Bool.true_and, List.all_map]
  congr 1
  funext c
  exact csh_below n g.length c
theorem shP_below (n k : Nat) (ρ : Rho) : rbelow (n + k) (shP k ρ) = rbelow n ρ := by
  unfold rbelow shP
  rw [List.all_map]
  congr 1
  funext o
  cases o with
  | none => rfl
  | some r => exact rsh_below n k r
theorem trim_sh (hg : below g.length g = true) (n : Nat) (ρ : Rho) (h : Hs) : trim (n + g.length) (shP g.length ρ) (shH g h) = shH g (trim n ρ h) := by
  unfold trim
  rw [shP_below, shH_take, shH_below hg]
  split <;> rfl
end
end Cy


set_option Elab.async false
set_option linter.all false
set_option maxRecDepth 100000
set_option maxHeartbeats 4000000
/-! L6b: the frame: the interpreter's parts. -/
namespace Cy
open PySem

section
variable {g : Hs}
theorem sh_dat (r : R) : MSh g id (dat r) (dat (r.sh g.length)) := by
  intro h
  cases r with
  | d x => rfl
  | ref n =>
    show (match hget (shH g h) (n + g.length) with
      | some (.lst xs) => Out.ok (PyData.list xs) (shH g h)
      | some (.fz xs) => .ok (.list xs) (shH g h)
      | _ => .bad) = shO g id (match hget h n with
      | some (.lst xs) => .ok (.list xs) h
      | some (.fz xs) => .ok (.list xs) h
      | _ => .bad)
    unfold hget
    rw [shH_get]
    cases h[n]? with
    | none => rfl
    | some c => cases c <;> rfl
theorem sh_dats : ∀ rs : List R, MSh g id (dats rs) (dats (rs.map (R.sh g.length)))
  | [] => fun h => rfl
  | r :: rs => MSh.bnd (sh_dat r) fun d => MSh.bnd (sh_dats rs) fun ds => MSh.ret (sa := id) (d :: ds)
theorem sh_pur (r : R) : MSh g id (pur r) (pur (r.sh g.length)) := by
  intro h
  cases r <;> rfl
theorem sh_bool (r : R) : MSh g id (boolOf r) (boolOf (r.sh g.length)) := by
  intro h
  cases r with
  | ref _ => rfl
  | d x => cases x <;> rfl
theorem sh_int (r : R) : MSh g id (intOf r) (intOf (r.sh g.length)) := by
  intro h
  cases r with
  | ref _ => rfl
  | d x => cases x <;> rfl
theorem sh_str (r : R) : MSh g id (strOf r) (strOf (r.sh g.length)) := by
  intro h
  cases r with
  | ref _ => rfl
  | d x => cases x <;> rfl
theorem sh_lst (r : R) : MSh g id (lstOf r) (lstOf (r.sh g.length)) := by
  intro h
  cases r with
  | d x => rfl
  | ref n =>
    show lstC (shH g h) (hget (shH g h) (n + g.length)) = shO g id (lstC h (hget h n))
    unfold hget
    rw [shH_get]
    cases h[n]? with
    | none => rfl
    | some c => cases c <;> rfl
theorem sh_lay (m : Bool) (re : Re) : MSh g (R.sh g.length) (lay m re) (lay m re) := by
  intro h
  cases re with
  | v d => cases m <;> rfl
  | nl ds =>
    unfold lay
    dsimp only
    by_cases hl : ds.length ≤ lim
    · rw [if_pos hl, if_pos hl]
      cases m with
      | false => rfl
      | true =>
        simp only [if_true]
        rw [shH_len]
        show Out.ok (R.ref (h.length + g.length)) (shH g h ++ [(Cell.lst ds).sh g.length]) = _
        rw [shH_push]
        rfl
    · rw [if_neg hl, if_neg hl]
      rfl
theorem sh_fz (r : R) : MSh g (R.sh g.length) (fzR r) (fzR (r.sh g.length)) := by
  intro h
  cases r with
  | d x => rfl
  | ref n =>
    show fzC (n + g.length) (shH g h) (hget (shH g h) (n + g.length)) = shO g (R.sh g.length) (fzC n h (hget h n))
    unfold hget
    rw [shH_get]
    cases h[n]? with
    | none => rfl
    | some c =>
      cases c with
      | lst xs =>
        show Out.ok (R.d (PyData.list xs)) ((shH g h).set (n + g.length) ((Cell.fz xs).sh g.length)) = _
        rw [shH_set]
        rfl
      | fz xs => rfl
      | dct t kvs => rfl
theorem sh_app (r : R) (d : D) : MSh g (R.sh g.length) (appR r d) (appR (r.sh g.length) d) := by
  intro h
  cases r with
  | d x => rfl
  | ref n =>
    show appC (n + g.length) d (shH g h) (hget (shH g h) (n + g.length)) = shO g (R.sh g.length) (appC n d h (hget h n))
    unfold hget
    rw [shH_get]
    cases h[n]? with
    | none => rfl
    | some c =>
      cases c with
      | lst xs =>
        show (if xs.length < lim then Out.ok (R.d PyData.none) ((shH g h).set (n + g.length) ((Cell.lst (xs ++ [d])).sh g.length)) else .bad) = shO g (R.sh g.length) (if xs.length < lim then .ok (.d .none) (h.set n (.lst (xs ++ [d]))) else .bad)
        rw [shH_set]
        split <;> rfl
      | fz xs => rfl
      | dct t kvs => rfl
theorem sh_pop (r : R) (d : D) : MSh g (R.sh g.length) (popR r d) (popR (r.sh g.length) d) := by
  intro h
  cases r with
  | d x => rfl
  | ref n =>
    cases d with
    | int i =>
      show popC (n + g.length) i (shH g h) (hget (shH g h) (n + g.length)) = shO g (R.sh g.length) (popC n i h (hget h n))
      unfold hget
      rw [shH_get]
      cases h[n]? with
      | none => rfl
      | some c =>
        cases c with
        | fz xs => rfl
        | dct t kvs => rfl
        | lst xs =>
          unfold popC
          dsimp only [Option.map_some, Cell.sh]
          split
          · cases xs[i.toNat]? with
            | none => rfl
            | some y =>
              show Out.ok (R.d y) ((shH g h).set (n + g.length) ((Cell.lst (xs.eraseIdx i.toNat)).sh g.length)) = _
              rw [shH_set]
              rfl
          · rfl
    | _ => rfl
theorem sh_popl (r : R) : MSh g (R.sh g.length) (poplR r) (poplR (r.sh g.length)) := by
  intro h
  cases r with
  | d x => rfl
  | ref n =>
    show poplC (n + g.length) (shH g h) (hget (shH g h) (n + g.length)) = shO g (R.sh g.length) (poplC n h (hget h n))
    unfold hget
    rw [shH_get]
    cases h[n]? with
    | none => rfl
    | some c =>
      cases c with
      | fz xs => rfl
      | dct t kvs => rfl
      | lst xs =>
        unfold poplC
        dsimp only [Option.map_some, Cell.sh]
        cases xs[xs.length - 1]? with
        | none => rfl
        | some y =>
          show Out.ok (R.d y) ((shH g h).set (n + g.length) ((Cell.lst xs.dropLast).sh g.length)) = _
          rw [shH_set]
          rfl
theorem sh_purAll (n : Nat) : ∀ rs : List R, purAll (rs.map (R.sh n)) = purAll rs
  | [] => rfl
  | .d x :: rs => by
    show (purAll (rs.map (R.sh n))).map (x :: ·) = _
    rw [sh_purAll n rs]
    rfl
  | .ref m :: rs => rfl
theorem shP_get (n : Nat) (ρ : Rho) (i : Nat) : ((shP n ρ)[i]?).join = ((ρ[i]?).join).map (R.sh n) := by
  unfold shP
  rw [List.getElem?_map]
  cases ρ[i]? with
  | none => rfl
  | some o => cases o <;> rfl
theorem shP_set (n : Nat) (ρ : Rho) (i : Nat) (r : R) : (shP n ρ).set i (some (r.sh n)) = shP n (ρ.set i (some r)) := by
  unfold shP
  rw [List.map_set]
  rfl
theorem shP_len (n : Nat) (ρ : Rho) : (shP n ρ).length = ρ.length := by
  unfold shP
  rw [List.length_map]
theorem shP_wipe (n : Nat) (ρ : Rho) : ∀ is : List Nat, wipe (shP n ρ) is = shP n (wipe ρ is)
  | [] => rfl
  | i :: is => by
    unfold wipe
    rw [shP_wipe n ρ is]
    unfold shP
    rw [List.map_set]
    rfl
end
end Cy


set_option Elab.async false
set_option linter.all false
set_option maxRecDepth 100000
set_option maxHeartbeats 4000000
/-! L6c: the frame: expressions. -/
namespace Cy
open PySem

mutual
theorem sh_put (n : Nat) : ∀ (tg : Tg) (r : R) (ρ : Rho), put tg (r.sh n) (shP n ρ) = (put tg r ρ).map (shP n)
  | .n i, r, ρ => by
    unfold put
    rw [shP_len]
    split
    · rw [shP_set]
      rfl
    · rfl
  | .t l, r, ρ => by
    cases r with
    | ref m => simp [put, R.sh]
    | d x =>
      cases x with
      | tuple xs =>
        show put (.t l) (.d (.tuple xs)) (shP n ρ) = _
        unfold put
        exact sh_putAll n l xs ρ
      | _ => simp [put, R.sh]
theorem sh_putAll (n : Nat) : ∀ (l : List Tg) (xs : List D) (ρ : Rho), put.putAll l xs (shP n ρ) = (put.putAll l xs ρ).map (shP n)
  | [], [], ρ => by simp [put.putAll]
  | [], _ :: _, ρ => by simp [put.putAll]
  | _ :: _, [], ρ => by simp [put.putAll]
  | t :: l, x :: xs, ρ => by
    unfold put.putAll
    have e := sh_put n t (.d x) ρ
    rw [show (R.d x).sh n = .d x from rfl] at e
    rw [e]
    cases put t (.d x) ρ with
    | none => rfl
    | some ρ1 => exact sh_putAll n l xs ρ1
end
section
variable {g : Hs}
theorem sh_turns {f f' : Rho → M (Option D)} (hf : ∀ ρ, MSh g id (f ρ) (f' (shP g.length ρ))) (tg : Tg) (ρ : Rho) (n : Nat) : ∀ ds, MSh g id (turns f tg ρ n ds) (turns f' tg (shP g.length ρ) (n + g.length) ds)
  | [] => fun h => rfl
  | x :: xs => by
    unfold turns
    have e := sh_put g.length tg (.d x) ρ
    rw [show (R.d x).sh g.length = .d x from rfl] at e
    rw [e]
    cases put tg (.d x) ρ with
    | none => exact fun h => rfl
    | some ρ1 =>
      refine MSh.bnd (sa := shP g.length) (m := M.opt (some ρ1)) (m' := M.opt (some (shP g.length ρ1))) (fun h => rfl) fun ρ2 => ?_
      refine MSh.bnd (hf ρ2) fun o => ?_
      refine MSh.bnd (sa := R.sh g.length) ?_ fun _ => sh_turns hf tg ρ n xs
      cases o with
      | none => exact fun h => rfl
      | some y => exact sh_app (.ref n) y
theorem sh_comp {f f' : Rho → M (Option D)} (hf : ∀ ρ, MSh g id (f ρ) (f' (shP g.length ρ))) (m : Bool) (tg : Tg) (ρ : Rho) (ds : List D) : MSh g (R.sh g.length) (compM m f tg ρ ds) (compM m f' tg (shP g.length ρ) ds) := by
  intro h
  unfold compM
  rw [shH_len, show shH g h ++ [Cell.lst []] = shH g (h ++ [.lst []]) from shH_push g h (.lst [])]
  refine MSh.bnd (sa := id) (sh_turns hf tg ρ h.length ds) (fun _ => ?_) (h ++ [.lst []])
  cases m with
  | true => exact fun h => rfl
  | false => exact sh_fz (.ref h.length)
theorem sh_turns2 {f0 f0' : Rho → M (Option (List D))} {f f' : Rho → M (Option D)} (hf0 : ∀ ρ, MSh g id (f0 ρ) (f0' (shP g.length ρ))) (hf : ∀ ρ, MSh g id (f ρ) (f' (shP g.length ρ))) (tg tg1 : Tg) (own1 : List Nat) (ρ : Rho) (n : Nat) :
    ∀ ds, MSh g id (turns2 f0 f tg tg1 own1 ρ n ds) (turns2 f0' f' tg tg1 own1 (shP g.length ρ) (n + g.length) ds)
  | [] => fun h => rfl
  | x :: xs => by
    unfold turns2
    have e := sh_put g.length tg (.d x) ρ
    rw [show (R.d x).sh g.length = .d x from rfl] at e
    rw [e]
    cases put tg (.d x) ρ with
    | none => exact fun h => rfl
    | some ρ1 =>
      refine MSh.bnd (sa := shP g.length) (m := M.opt (some ρ1)) (m' := M.opt (some (shP g.length ρ1))) (fun h => rfl) fun ρ2 => ?_
      refine MSh.bnd (hf0 ρ2) fun o => ?_
      refine MSh.bnd (sa := id) ?_ fun _ => sh_turns2 hf0 hf tg tg1 own1 ρ n xs
      cases o with
      | none => exact fun h => rfl
      | some ds =>
        show MSh g id (turns f tg1 (wipe ρ2 own1) n ds) (turns f' tg1 (wipe (shP g.length ρ2) own1) (n + g.length) ds)
        rw [shP_wipe]
        exact sh_turns hf tg1 (wipe ρ2 own1) n ds
theorem sh_comp2 {f0 f0' : Rho → M (Option (List D))} {f f' : Rho → M (Option D)} (hf0 : ∀ ρ, MSh g id (f0 ρ) (f0' (shP g.length ρ))) (hf : ∀ ρ, MSh g id (f ρ) (f' (shP g.length ρ))) (m : Bool) (tg tg1 : Tg) (own1 : List Nat) (ρ : Rho) (ds : List D) :
    MSh g (R.sh g.length) (compM2 m f0 f tg tg1 own1 ρ ds) (compM2 m f0' f' tg tg1 own1 (shP g.length ρ) ds) := by
  intro h
  unfold compM2
  rw [shH_len, show shH g h ++ [Cell.lst []] = shH g (h ++ [.lst []]) from shH_push g h (.lst [])]
  refine MSh.bnd (sa := id) (sh_turns2 hf0 hf tg tg1 own1 ρ h.length ds) (fun _ => ?_) (h ++ [.lst []])
  cases m with
  | true => exact fun h => rfl
  | false => exact sh_fz (.ref h.length)
theorem MSh.d (d : D) : MSh g (R.sh g.length) (M.ret (.d d)) (M.ret (.d d)) := fun h => rfl
theorem sh_var (ρ : Rho) (i : Nat) : MSh g (R.sh g.length) (M.opt ((ρ[i]?).join)) (M.opt (((shP g.length ρ)[i]?).join)) := by
  intro h
  rw [shP_get]
  cases (ρ[i]?).join <;> rfl
end
end Cy


set_option Elab.async false
set_option linter.all false
set_option maxRecDepth 100000
set_option maxHeartbeats 8000000
/-! L6d: the frame: expressions, by induction. -/
namespace Cy
open PySem

/-- calls do above g what they do -/
def CSh (g : Hs) (cal : Cal) : Prop := ∀ f args, MSh g (R.sh g.length) (cal f args) (cal f (args.map (R.sh g.length)))
section
variable {g : Hs} {cal : Cal}
theorem sh_binD {m m' : M D} (h : MSh g id m m') {β : Type} {sb : β → β} {f : D → M β} (hf : ∀ d, MSh g sb (f d) (f d)) : MSh g sb (m.bnd f) (m'.bnd f) := MSh.bnd h hf
theorem sh_optB {α β : Type} {sb : β → β} (o : Option α) {f f' : α → M β} (hf : ∀ d, MSh g sb (f d) (f' d)) : MSh g sb ((M.opt o).bnd f) ((M.opt o).bnd f') := MSh.bnd (MSh.opt o) hf
theorem sh_seq {m m' : M R} (h : MSh g (R.sh g.length) m m') : MSh g id (m.bnd fun x => (pur x).bnd fun d => M.opt (seqD d)) (m'.bnd fun x => (pur x).bnd fun d => M.opt (seqD d)) :=
  MSh.bnd h fun x => MSh.bnd (sh_pur x) fun d => MSh.opt (seqD d)
theorem sh_test {m m' : M R} (h : MSh g (R.sh g.length) m m') {β : Type} {sb : β → β} {f f' : Bool → M β} (hf : ∀ b, MSh g sb (f b) (f' b)) : MSh g sb ((m.bnd boolOf).bnd f) ((m'.bnd boolOf).bnd f') :=
  MSh.bnd (sa := id) (MSh.bnd h fun x => sh_bool x) hf
mutual
theorem sh_ev (hc : CSh g cal) : ∀ (e : E) (ρ : Rho), MSh g (R.sh g.length) (ev cal e ρ) (ev cal e (shP g.length ρ))
  | .lit d, ρ => by unfold ev; exact MSh.d d
  | .v i, ρ => by unfold ev; exact sh_var ρ i
  | .fz i, ρ => by unfold ev; exact MSh.bnd (sh_var ρ i) fun r => sh_fz r
  | .gl _ d, ρ => by unfold ev; exact MSh.d d
  | .ing neg a _ kvs, ρ => by
    unfold ev
    refine MSh.bnd (sh_ev hc a ρ) fun x => MSh.bnd (sh_pur x) fun d => ?_
    cases d <;> exact fun h => rfl
  | .ixg _ kvs a, ρ => by
    unfold ev
    refine MSh.bnd (sh_ev hc a ρ) fun x => MSh.bnd (sh_pur x) fun d => ?_
    cases d with
    | str z => exact sh_optB _ fun y => MSh.d y
    | _ => exact fun h => rfl
  | .tup es, ρ => by
    unfold ev
    refine MSh.bnd (sh_evs hc es ρ) fun rs => ?_
    intro h
    dsimp only
    rw [sh_purAll]
    cases purAll rs with
    | none => rfl
    | some ds =>
      dsimp only
      split <;> rfl
  | .lst m es, ρ => by
    unfold ev
    refine MSh.bnd (sh_evs hc es ρ) fun rs => ?_
    rw [sh_purAll]
    exact sh_optB _ fun ds => sh_lay m (.nl ds)
  | .dnew t, ρ => by
    unfold ev
    intro h
    dsimp only
    rw [shH_len, show shH g h ++ [Cell.dct t []] = shH g (h ++ [.dct t []]) from shH_push g h (.dct t [])]
    rfl
  | .bin m op a b, ρ => by
    unfold ev
    exact MSh.bnd (sh_ev hc a ρ) fun x => MSh.bnd (sh_ev hc b ρ) fun y => MSh.bnd (sh_dat x) fun dx => MSh.bnd (sh_dat y) fun dy => sh_optB _ fun re => sh_lay m re
  | .neg a, ρ => by
    unfold ev
    refine MSh.bnd (sh_ev hc a ρ) fun x => MSh.bnd (sh_pur x) fun d => ?_
    cases d <;> exact fun h => rfl
  | .cmp op a b, ρ => by
    unfold ev
    exact MSh.bnd (sh_ev hc a ρ) fun x => MSh.bnd (sh_ev hc b ρ) fun y => MSh.bnd (sh_dat x) fun dx => MSh.bnd (sh_dat y) fun dy => sh_optB _ fun c => MSh.d _
  | .chn o1 o2 a b c, ρ => by
    unfold ev
    refine MSh.bnd (sh_ev hc a ρ) fun x => MSh.bnd (sh_ev hc b ρ) fun y => MSh.bnd (sh_dat x) fun dx => MSh.bnd (sh_dat y) fun dy => sh_optB _ fun k => ?_
    cases k with
    | false => exact MSh.d _
    | true => exact MSh.bnd (sh_ev hc c ρ) fun z => MSh.bnd (sh_dat y) fun dy' => MSh.bnd (sh_dat z) fun dz => sh_optB _ fun k => MSh.d _
  | .chn3 o1 o2 o3 a b c e, ρ => by
    unfold ev
    refine MSh.bnd (sh_ev hc a ρ) fun x => MSh.bnd (sh_ev hc b ρ) fun y => MSh.bnd (sh_pur x) fun dx => MSh.bnd (sh_pur y) fun dy => sh_optB _ fun k => ?_
    cases k with
    | false => exact MSh.d _
    | true =>
      refine MSh.bnd (sh_ev hc c ρ) fun z => MSh.bnd (sh_pur z) fun dz => sh_optB _ fun k => ?_
      cases k with
      | false => exact MSh.d _
      | true => exact MSh.bnd (sh_ev hc e ρ) fun w => MSh.bnd (sh_pur w) fun dw => sh_optB _ fun k => MSh.d _
  | .and a b, ρ => by
    unfold ev
    refine sh_test (sh_ev hc a ρ) fun k => ?_
    cases k with
    | false => exact MSh.d _
    | true => exact sh_ev hc b ρ
  | .or a b, ρ => by
    unfold ev
    refine sh_test (sh_ev hc a ρ) fun k => ?_
    cases k with
    | true => exact MSh.d _
    | false => exact sh_ev hc b ρ
  | .not a, ρ => by
    unfold ev
    exact sh_test (sh_ev hc a ρ) fun k => MSh.d _
  | .ite c a b, ρ => by
    unfold ev
    refine sh_test (sh_ev hc c ρ) fun k => ?_
    cases k with
    | true => exact sh_ev hc a ρ
    | false => exact sh_ev hc b ρ
  | .ix a i, ρ => by
    unfold ev
    exact MSh.bnd (sh_ev hc a ρ) fun x => MSh.bnd (sh_ev hc i ρ) fun y => MSh.bnd (sh_dat x) fun dx => MSh.bnd (sh_pur y) fun dy => sh_optB _ fun d => MSh.d d
  | .sl m a lo hi, ρ => by
    unfold ev
    refine MSh.bnd (sh_ev hc a ρ) fun x => ?_
    refine MSh.bnd (sa := id) ?_ fun l => ?_
    · have h := MSh.bnd (sh_ev hc lo ρ) fun x => sh_int x
      cases lo <;> first | exact fun h => rfl | exact h
    refine MSh.bnd (sa := id) ?_ fun u => ?_
    · have h := MSh.bnd (sh_ev hc hi ρ) fun x => sh_int x
      cases hi <;> first | exact fun h => rfl | exact h
    exact MSh.bnd (sh_dat x) fun dx => sh_optB _ fun re => sh_lay m re
  | .nil, ρ => by unfold ev; exact MSh.d _
  | .isi t a, ρ => by
    unfold ev
    exact MSh.bnd (sh_ev hc a ρ) fun x => MSh.bnd (sh_dat x) fun d => MSh.d _
  | .bif m f es, ρ => by
    unfold ev
    exact MSh.bnd (sh_evs hc es ρ) fun rs => MSh.bnd (sh_dats rs) fun ds => sh_optB _ fun re => sh_lay m re
  | .mth m f o es, ρ => by
    unfold ev
    exact MSh.bnd (sh_ev hc o ρ) fun x => MSh.bnd (sh_str x) fun z => MSh.bnd (sh_evs hc es ρ) fun rs => MSh.bnd (sh_dats rs) fun ds => sh_optB _ fun re => sh_lay m re
  | .app o e, ρ => by
    unfold ev
    exact MSh.bnd (sh_ev hc o ρ) fun x => MSh.bnd (sh_lst x) fun _ => MSh.bnd (sh_ev hc e ρ) fun y => MSh.bnd (sh_pur y) fun d => sh_app x d
  | .pop o i, ρ => by
    unfold ev
    exact MSh.bnd (sh_ev hc o ρ) fun x => MSh.bnd (sh_lst x) fun _ => MSh.bnd (sh_ev hc i ρ) fun y => MSh.bnd (sh_pur y) fun d => sh_pop x d
  | .popl o, ρ => by
    unfold ev
    exact MSh.bnd (sh_ev hc o ρ) fun x => sh_popl x
  | .call f es, ρ => by
    unfold ev
    exact MSh.bnd (sh_evs hc es ρ) fun rs => hc f rs
  | .rng es, ρ => by
    unfold ev
    refine MSh.bnd (sh_evs hc es ρ) fun rs => ?_
    rw [sh_purAll]
    exact sh_optB _ fun ds => MSh.d _
  | .enm e, ρ => by
    unfold ev
    exact MSh.bnd (sh_ev hc e ρ) fun x => MSh.bnd (sh_pur x) fun d => sh_optB _ fun ds => MSh.d _
  | .zip a b, ρ => by
    unfold ev
    exact MSh.bnd (sh_ev hc a ρ) fun x => MSh.bnd (sh_ev hc b ρ) fun y => MSh.bnd (sh_pur x) fun dx => MSh.bnd (sh_pur y) fun dy => sh_optB _ fun p => MSh.d _
  | .comp m own elt tg it cond, ρ => by
    unfold ev
    refine MSh.bnd (sh_ev hc it ρ) fun x => MSh.bnd (sh_pur x) fun d => sh_optB _ fun ds => ?_
    rw [shP_wipe]
    refine sh_comp (fun ρ' => MSh.nox (sh_test (sh_ev hc cond ρ') fun k => ?_)) m tg (wipe ρ own) ds
    cases k with
    | false => exact fun h => rfl
    | true => exact MSh.bnd (sh_ev hc elt ρ') fun y => MSh.bnd (sh_pur y) fun dy => fun h => rfl
  | .comp2 m own own1 elt tg it cond tg1 it1 cond1, ρ => by
    unfold ev
    refine MSh.bnd (sh_ev hc it ρ) fun x => MSh.bnd (sh_pur x) fun d => sh_optB _ fun ds => ?_
    rw [shP_wipe]
    refine sh_comp2 (fun ρ' => MSh.nox (sh_test (sh_ev hc cond ρ') fun k => ?_)) (fun ρ' => MSh.nox (sh_test (sh_ev hc cond1 ρ') fun k => ?_)) m tg tg1 own1 (wipe ρ own) ds
    · cases k with
      | false => exact fun h => rfl
      | true => exact MSh.bnd (sh_seq (sh_ev hc it1 ρ')) fun ds => fun h => rfl
    · cases k with
      | false => exact fun h => rfl
      | true => exact MSh.bnd (sh_ev hc elt ρ') fun y => MSh.bnd (sh_pur y) fun dy => fun h => rfl
theorem sh_evs (hc : CSh g cal) : ∀ (es : List E) (ρ : Rho), MSh g (List.map (R.sh g.length)) (evs cal es ρ) (evs cal es (shP g.length ρ))
  | [], ρ => by unfold evs; exact fun h => rfl
  | e :: es, ρ => by
    unfold evs
    exact MSh.bnd (sh_ev hc e ρ) fun r => MSh.bnd (sh_evs hc es ρ) fun rs => fun h => rfl
end
end
end Cy


set_option Elab.async false
set_option linter.all false
set_option maxRecDepth 100000
set_option maxHeartbeats 8000000
/-! L6e: the frame: statements, functions. -/
namespace Cy
open PySem

def shF (g : Hs) : Fl → Fl
  | .nx ρ h => .nx (shP g.length ρ) (shH g h)
  | .rt r h => .rt (r.sh g.length) (shH g h)
  | .bk ρ h => .bk (shP g.length ρ) (shH g h)
  | .ct ρ h => .ct (shP g.length ρ) (shH g h)
  | .ex e ρ h => .ex e (shP g.length ρ) (shH g h)
  | .bad => .bad
section
variable {g : Hs} {cal : Cal}
theorem sh_of {α : Type} {sa : α → α} {ρ : Rho} {m m' : M α} (hm : MSh g sa m m') (h : Hs) {f f' : α → Hs → Fl} (hf : ∀ a h1, f' (sa a) (shH g h1) = shF g (f a h1)) : ofOut (shP g.length ρ) (m' (shH g h)) f' = shF g (ofOut ρ (m h) f) := by
  rw [hm h]
  cases m h with
  | ok a h1 => exact hf a h1
  | ex e h1 => rfl
  | bad => rfl
theorem sh_putR (n : Nat) : ∀ (is : List Nat) (rs : List R) (ρ : Rho), putR is (rs.map (R.sh n)) (shP n ρ) = (putR is rs ρ).map (shP n)
  | [], [], ρ => by simp [putR]
  | [], _ :: _, ρ => by simp [putR]
  | _ :: _, [], ρ => by simp [putR]
  | i :: is, r :: rs, ρ => by
    simp only [List.map_cons, putR, shP_len, shP_set]
    split
    · exact sh_putR n is rs _
    · rfl
theorem sh_setC (n : Nat) (k : Int) (d : D) (h : Hs) : setC (n + g.length) k d (shH g h) (hget (shH g h) (n + g.length)) = (setC n k d h (hget h n)).map (shH g) := by
  unfold hget
  rw [shH_get]
  cases h[n]? with
  | none => rfl
  | some c =>
    cases c with
    | fz _ => rfl
    | dct _ _ => rfl
    | lst xs =>
      show (if 0 ≤ k ∧ k < xs.length then some ((shH g h).set (n + g.length) ((Cell.lst (xs.set k.toNat d)).sh g.length)) else none) = (if 0 ≤ k ∧ k < xs.length then some (h.set n (.lst (xs.set k.toNat d))) else none).map (shH g)
      rw [shH_set]
      split <;> rfl
theorem sh_stx (hc : CSh g cal) : ∀ (l : List Tx) (xs : List D) (ρ : Rho) (h : Hs), stx cal l xs (shP g.length ρ) (shH g h) = shF g (stx cal l xs ρ h)
  | [], [], ρ, h => by simp [stx, shF]
  | [], _ :: _, ρ, h => by simp [stx, shF]
  | .t _ :: _, [], ρ, h => by simp [stx, shF]
  | .s _ _ :: _, [], ρ, h => by simp [stx, shF]
  | .t tg :: l, x :: xs, ρ, h => by
    unfold stx
    have e := sh_put g.length tg (.d x) ρ
    rw [show (R.d x).sh g.length = .d x from rfl] at e
    rw [e]
    cases put tg (.d x) ρ with
    | none => rfl
    | some ρ1 => exact sh_stx hc l xs ρ1 h
  | .s o i :: l, x :: xs, ρ, h => by
    unfold stx
    refine sh_of (sa := fun t => (t.1.sh g.length, t.2.sh g.length)) (MSh.bnd (sh_ev hc o ρ) fun a => MSh.bnd (sh_ev hc i ρ) fun k => fun h => rfl) h fun t h1 => ?_
    obtain ⟨a, k⟩ := t
    cases a with
    | d _ => rfl
    | ref n => cases k with
      | ref _ => rfl
      | d y => cases y with
        | int kk =>
          show (match setC (n + g.length) kk x (shH g h1) (hget (shH g h1) (n + g.length)) with
            | some h2 => stx cal l xs (shP g.length ρ) h2
            | none => .bad) = shF g (match setC n kk x h1 (hget h1 n) with
            | some h2 => stx cal l xs ρ h2
            | none => .bad)
          rw [sh_setC]
          cases setC n kk x h1 (hget h1 n) with
          | none => rfl
          | some h2 => exact sh_stx hc l xs ρ h2
        | _ => rfl
theorem sh_loopL (hg : below g.length g = true) {b b' : Rho → Hs → Fl} (hb : ∀ ρ h, b' (shP g.length ρ) (shH g h) = shF g (b ρ h)) (tg : Tg) : ∀ (xs : List D) (ρ : Rho) (h : Hs), loopL tg b' xs (shP g.length ρ) (shH g h) = shF g (loopL tg b xs ρ h)
  | [], ρ, h => by simp [loopL, shF]
  | x :: xs, ρ, h => by
    unfold loopL
    have e := sh_put g.length tg (.d x) ρ
    rw [show (R.d x).sh g.length = .d x from rfl] at e
    rw [e]
    cases put tg (.d x) ρ with
    | none => rfl
    | some ρ1 =>
      dsimp only [Option.map_some]
      rw [hb ρ1 h]
      cases b ρ1 h with
      | nx ρ2 h2 =>
        dsimp only [shF]
        rw [shH_len, trim_sh hg]
        exact sh_loopL hg hb tg xs ρ2 _
      | ct ρ2 h2 =>
        dsimp only [shF]
        rw [shH_len, trim_sh hg]
        exact sh_loopL hg hb tg xs ρ2 _
      | _ => rfl
theorem sh_loopW (hg : below g.length g = true) {c c' : Rho → M Bool} (hc : ∀ ρ, MSh g id (c ρ) (c' (shP g.length ρ))) {b b' : Rho → Hs → Fl} (hb : ∀ ρ h, b' (shP g.length ρ) (shH g h) = shF g (b ρ h)) : ∀ (n : Nat) (ρ : Rho) (h : Hs), loopW c' b' n (shP g.length ρ) (shH g h) = shF g (loopW c b n ρ h)
  | 0, ρ, h => rfl
  | n + 1, ρ, h => by
    unfold loopW
    refine sh_of (hc ρ) h fun k h1 => ?_
    cases k with
    | false => rfl
    | true =>
      dsimp only [id]
      rw [hb ρ h1]
      cases b ρ h1 with
      | nx ρ2 h2 =>
        dsimp only [shF]
        rw [shH_len, trim_sh hg]
        exact sh_loopW hg hc hb n ρ2 _
      | ct ρ2 h2 =>
        dsimp only [shF]
        rw [shH_len, trim_sh hg]
        exact sh_loopW hg hc hb n ρ2 _
      | _ => rfl
end
end Cy


set_option Elab.async false
set_option linter.all false
set_option maxRecDepth 100000
set_option maxHeartbeats 8000000
/-! L6f: the frame: statements by induction, functions, the lemma. -/
namespace Cy
open PySem

section
variable {g : Hs} {cal : Cal}
mutual
theorem sh_st (hg : below g.length g = true) (hc : CSh g cal) : ∀ (s : S) (ρ : Rho) (h : Hs), st cal s (shP g.length ρ) (shH g h) = shF g (st cal s ρ h)
  | .asg tg e, ρ, h => by
    unfold st
    refine sh_of (sh_ev hc e ρ) h fun r h1 => ?_
    rw [sh_put]
    cases put tg r ρ <;> rfl
  | .par is es, ρ, h => by
    unfold st
    refine sh_of (sh_evs hc es ρ) h fun rs h1 => ?_
    rw [sh_putR]
    cases putR is rs ρ <;> rfl
  | .setix o i e, ρ, h => by
    unfold st
    refine sh_of (sa := fun t => (t.1.sh g.length, t.2.1.sh g.length, t.2.2.sh g.length)) (MSh.bnd (sh_ev hc e ρ) fun y => MSh.bnd (sh_ev hc o ρ) fun x => MSh.bnd (sh_ev hc i ρ) fun k => fun h => rfl) h fun t h1 => ?_
    obtain ⟨a, k, y⟩ := t
    cases a with
    | d _ => rfl
    | ref n => cases k with
      | ref _ => rfl
      | d kx => cases kx with
        | int kk => cases y with
          | ref _ => rfl
          | d d =>
            show (match hget (shH g h1) (n + g.length) with
              | some (.lst xs) => if 0 ≤ kk ∧ kk < xs.length then Fl.nx (shP g.length ρ) ((shH g h1).set (n + g.length) ((Cell.lst (xs.set kk.toNat d)).sh g.length)) else .bad
              | _ => .bad) = shF g (match hget h1 n with
              | some (.lst xs) => if 0 ≤ kk ∧ kk < xs.length then .nx ρ (h1.set n (.lst (xs.set kk.toNat d))) else .bad
              | _ => .bad)
            unfold hget
            rw [shH_get]
            cases h1[n]? with
            | none => rfl
            | some c =>
              cases c with
              | fz _ => rfl
              | dct _ _ => rfl
              | lst xs =>
                dsimp only [Option.map_some, Cell.sh]
                have e := shH_set g h1 n (.lst (xs.set kk.toNat d))
                dsimp only [Cell.sh] at e
                rw [e]
                split <;> rfl
        | _ => cases y <;> rfl
  | .asgx l e, ρ, h => by
    unfold st
    refine sh_of (sh_ev hc e ρ) h fun r h1 => ?_
    cases r with
    | ref _ => rfl
    | d x => cases x with
      | tuple xs =>
        show (if xs.length = l.length then stx cal l xs (shP g.length ρ) (shH g h1) else .bad) = shF g (if xs.length = l.length then stx cal l xs ρ h1 else .bad)
        rw [sh_stx hc]
        split <;> rfl
      | _ => rfl
  | .ex e, ρ, h => by
    unfold st
    exact sh_of (sh_ev hc e ρ) h fun r h1 => rfl
  | .ret e, ρ, h => by
    unfold st
    exact sh_of (sh_ev hc e ρ) h fun r h1 => rfl
  | .ife c a b, ρ, h => by
    unfold st
    refine sh_of (sa := id) (MSh.bnd (sh_ev hc c ρ) fun x => sh_bool x) h fun k h1 => ?_
    cases k with
    | true => exact sh_sts hg hc a ρ h1
    | false => exact sh_sts hg hc b ρ h1
  | .for tg it body, ρ, h => by
    unfold st
    refine sh_of (sa := id) (sh_seq (sh_ev hc it ρ)) h fun ds h1 => ?_
    exact sh_loopL hg (fun ρ h => sh_sts hg hc body ρ h) tg ds ρ h1
  | .whl c body, ρ, h => by
    unfold st
    exact sh_loopW hg (fun ρ => MSh.bnd (sh_ev hc c ρ) fun x => sh_bool x) (fun ρ h => sh_sts hg hc body ρ h) fuel ρ h
  | .brk, ρ, h => by unfold st; rfl
  | .cnt, ρ, h => by unfold st; rfl
  | .pass, ρ, h => by unfold st; rfl
  | .fgt is, ρ, h => by
    unfold st
    rw [shP_wipe]
    rfl
  | .never, ρ, h => by unfold st; rfl
theorem sh_sts (hg : below g.length g = true) (hc : CSh g cal) : ∀ (l : List S) (ρ : Rho) (h : Hs), sts cal l (shP g.length ρ) (shH g h) = shF g (sts cal l ρ h)
  | [], ρ, h => by unfold sts; rfl
  | s :: r, ρ, h => by
    unfold sts
    rw [sh_st hg hc s ρ h]
    cases st cal s ρ h with
    | nx ρ1 h1 => exact sh_sts hg hc r ρ1 h1
    | _ => rfl
end
theorem sh_leave (hg : below g.length g = true) (keep : Bool) (n : Nat) (r : R) (h : Hs) : leave keep (n + g.length) (r.sh g.length) (shH g h) = shO g (R.sh g.length) (leave keep n r h) := by
  unfold leave
  split
  · rfl
  · cases r with
    | d x =>
      dsimp only [R.sh]
      rw [shH_take, shH_below hg]
      split <;> rfl
    | ref m =>
      dsimp only [R.sh]
      rw [shH_take, shH_below hg]
      by_cases hm : m < n
      · have hm2 : m + g.length < n + g.length := by omega
        rw [if_pos hm, if_pos hm2]
        split <;> rfl
      · have hm2 : ¬ m + g.length < n + g.length := by omega
        rw [if_neg hm, if_neg hm2]
        unfold hget
        rw [shH_get]
        cases h[m]? with
        | none => rfl
        | some c =>
          cases c with
          | dct _ _ => rfl
          | lst xs =>
            dsimp only [Option.map_some, Cell.sh]
            split <;> rfl
          | fz xs =>
            dsimp only [Option.map_some, Cell.sh]
            split <;> rfl
theorem sh_enter (hg : below g.length g = true) (hc : CSh g cal) (fn : Fn) (args : List R) : MSh g (R.sh g.length) (enter fn cal args) (enter fn cal (args.map (R.sh g.length))) := by
  intro h
  unfold enter
  rw [List.length_map]
  by_cases hl : args.length = fn.np
  · rw [if_pos hl, if_pos hl]
    have e : (args.map (R.sh g.length)).map some ++ List.replicate (fn.ns - fn.np) none = shP g.length (args.map some ++ List.replicate (fn.ns - fn.np) none) := by
      unfold shP
      simp
    rw [e, sh_sts hg hc]
    cases sts cal fn.body (args.map some ++ List.replicate (fn.ns - fn.np) none) h with
    | nx ρ1 h1 =>
      dsimp only [shF]
      rw [shH_len]
      exact sh_leave hg fn.keep h.length (.d .none) h1
    | rt r h1 =>
      dsimp only [shF]
      rw [shH_len]
      exact sh_leave hg fn.keep h.length r h1
    | ex x ρ1 h1 =>
      dsimp only [shF]
      rw [shH_len, shH_take, shH_below hg]
      split <;> rfl
    | _ => rfl
  · rw [if_neg hl, if_neg hl]
    rfl
theorem sh_run (hg : below g.length g = true) (fs : Nat → Option Fn) : ∀ k, CSh g (run fs k)
  | 0 => fun f args h => rfl
  | k + 1 => fun f args h => by
    unfold run
    cases fs f with
    | none => rfl
    | some fn => exact sh_enter hg (sh_run hg fs k) fn args h
/-- THE FRAME: what a call by data alone answers above nothing, it answers above g -/
theorem frame {fs : Nat → Option Fn} {k f : Nat} {ds : List D} {x : D} (e : run fs k f (ds.map .d) [] = .ok (.d x) []) (g : Hs) (hg : below g.length g = true) : run fs k f (ds.map .d) g = .ok (.d x) g := by
  have q := sh_run hg fs k f (ds.map .d) []
  have e1 : (ds.map R.d).map (R.sh g.length) = ds.map .d := by
    rw [List.map_map]
    rfl
  have e2 : shH g [] = g := by simp [shH]
  rw [e1, e2, e] at q
  rw [q]
  simp [shO, R.sh, e2]
end
end Cy


set_option Elab.async false
set_option linter.all false
set_option maxRecDepth 100000
namespace Cy
open PySem

def B_law_text_0 : Fn := { np := 1, ns := 2, keep := false, body := [
    .ret (.mth false .join (.lit (.str (PySem.Str.ofString " "))) [(.comp false [1] (.bif false .str [(.v 1)]) (.n 1) (.v 0) (.lit (.bool true)))])] }
def B_is_whole_1 : Fn := { np := 1, ns := 1, keep := false, body := [
    .ret (.and (.isi .int (.v 0)) (.not (.isi .bool (.v 0))))] }
def B_is_among_2 : Fn := { np := 3, ns := 3, keep := false, body := [
    .ret (.and (.call 1 [(.v 0)]) (.chn .LtE .LtE (.v 1) (.v 0) (.v 2)))] }
def B_is_deed_3 : Fn := { np := 1, ns := 1, keep := false, body := [
    .ife (.or (.not (.isi .tuple (.v 0))) (.or (.cmp .Eq (.v 0) (.tup [])) (.not (.isi .str (.ix (.v 0) (.lit (.int 0))))))) [.ret (.lit (.bool false))] [],
    .ife (.cmp .In (.ix (.v 0) (.lit (.int 0))) (.gl 0 (.tuple [(.str (PySem.Str.ofString "bide")), (.str (PySem.Str.ofString "fill")), (.str (PySem.Str.ofString "lift")), (.str (PySem.Str.ofString "set"))]))) [.ret (.cmp .Eq (.bif false .len [(.v 0)]) (.lit (.int 1)))] [],
    .ret (.and (.cmp .In (.ix (.v 0) (.lit (.int 0))) (.gl 2 (.tuple [(.str (PySem.Str.ofString "go")), (.str (PySem.Str.ofString "hand"))]))) (.and (.cmp .Eq (.bif false .len [(.v 0)]) (.lit (.int 2))) (.call 2 [(.ix (.v 0) (.lit (.int 1))), (.lit (.int 0)), (.gl 1 (.int 99))])))] }
def B_text_of_4 : Fn := { np := 1, ns := 2, keep := false, body := [
    .ret (.mth false .join (.lit (.str (PySem.Str.ofString " "))) [(.comp false [1] (.bif false .str [(.v 1)]) (.n 1) (.v 0) (.lit (.bool true)))])] }
def B_deed_text_5 : Fn := { np := 1, ns := 1, keep := false, body := [
    .ife (.not (.call 3 [(.v 0)])) [.never] [],
    .ret (.call 4 [(.v 0)])] }
def B_number_in_6 : Fn := { np := 1, ns := 2, keep := false, body := [
    .ife (.or (.not (.chn .LtE .LtE (.lit (.int 1)) (.bif false .len [(.v 0)]) (.lit (.int 2)))) (.not (.bif false .all [(.comp false [1] (.cmp .In (.v 1) (.gl 4 (.str (PySem.Str.ofString "0123456789")))) (.n 1) (.v 0) (.lit (.bool true)))]))) [.ret (.lit .none)] [],
    .ret (.ite (.and (.cmp .Eq (.bif false .str [(.bif false .int [(.v 0)])]) (.v 0)) (.call 2 [(.bif false .int [(.v 0)]), (.lit (.int 0)), (.gl 5 (.int 99))])) (.bif false .int [(.v 0)]) (.lit .none))] }
def B_deed_in_7 : Fn := { np := 1, ns := 4, keep := false, body := [
    .asg (.n 1) (.mth false .split (.v 0) [(.lit (.str (PySem.Str.ofString " ")))]),
    .ife (.or (.ing true (.ix (.v 1) (.lit (.int 0))) 3 [((.str (PySem.Str.ofString "bide")), (.int 0)), ((.str (PySem.Str.ofString "fill")), (.int 0)), ((.str (PySem.Str.ofString "go")), (.int 1)), ((.str (PySem.Str.ofString "hand")), (.int 1)), ((.str (PySem.Str.ofString "lift")), (.int 0)), ((.str (PySem.Str.ofString "set")), (.int 0))]) (.cmp .NotEq (.bif false .len [(.v 1)]) (.bin false .Add (.lit (.int 1)) (.ixg 3 [((.str (PySem.Str.ofString "bide")), (.int 0)), ((.str (PySem.Str.ofString "fill")), (.int 0)), ((.str (PySem.Str.ofString "go")), (.int 1)), ((.str (PySem.Str.ofString "hand")), (.int 1)), ((.str (PySem.Str.ofString "lift")), (.int 0)), ((.str (PySem.Str.ofString "set")), (.int 0))] (.ix (.v 1) (.lit (.int 0))))))) [.ret (.lit .none)] [],
    .asg (.n 2) (.bif false .tuple [(.comp false [3] (.call 6 [(.v 3)]) (.n 3) (.sl false (.v 1) (.lit (.int 1)) .nil) (.lit (.bool true)))]),
    .ret (.ite (.cmp .In (.lit .none) (.v 2)) (.lit .none) (.bin false .Add (.tup [(.ix (.v 1) (.lit (.int 0)))]) (.v 2)))] }
def B_read_deed_8 : Fn := { np := 1, ns := 2, keep := false, body := [
    .asg (.n 1) (.ite (.isi .str (.v 0)) (.call 7 [(.v 0)]) (.lit .none)),
    .ife (.cmp .Is (.v 1) (.lit .none)) [.never] [],
    .ret (.v 1)] }
def B_law_right_9 : Fn := { np := 1, ns := 4, keep := false, body := [
    .par [1, 2] [(.call 0 [(.v 0)]), (.bif false .repr [(.v 0)])],
    .asg (.n 3) (.lst false [(.call 5 [(.v 0)]), (.call 5 [(.v 0)])]),
    .ife (.or (.cmp .NotEq (.bif false .repr [(.v 3)]) (.bif false .repr [(.lst false [(.v 1), (.v 1)])])) (.cmp .NotEq (.bif false .repr [(.v 0)]) (.v 2))) [.ret (.lit (.bool false))] [],
    .ret (.cmp .Eq (.lst false [(.bif false .repr [(.call 8 [(.v 1)])]), (.bif false .repr [(.call 8 [(.v 1)])])]) (.lst false [(.v 2), (.v 2)]))] }
def B_law_cell_at_10 : Fn := { np := 2, ns := 2, keep := false, body := [
    .ife (.cmp .Lt (.v 1) (.bif false .len [(.v 0)])) [.ret (.ix (.v 0) (.v 1))] [],
    .ret (.lit (.int 0))] }
def B_law_state_11 : Fn := { np := 2, ns := 3, keep := true, body := [
    .asg (.n 2) (.call 10 [(.v 0), (.v 1)]),
    .ret (.lst true [(.bif false .max [(.lit (.int 0)), (.bin false .Sub (.v 2) (.bin false .Pow (.lit (.int 10)) (.lit (.int 18))))]), (.bin false .Mod (.v 2) (.lit (.int 2147483647))), (.lit (.int 0))])] }
def B_law_take_12 : Fn := { np := 2, ns := 4, keep := false, body := [
    .ife (.cmp .Gt (.ix (.v 0) (.lit (.int 0))) (.lit (.int 0))) [.asg (.n 2) (.bin false .Mod (.ix (.v 0) (.lit (.int 0))) (.v 1)), .setix (.v 0) (.lit (.int 0)) (.bin false .FloorDiv (.ix (.v 0) (.lit (.int 0))) (.v 1)), .ret (.v 2)] [],
    .setix (.v 0) (.lit (.int 2)) (.bin false .Add (.ix (.v 0) (.lit (.int 2))) (.lit (.int 1))),
    .setix (.v 0) (.lit (.int 1)) (.bin false .Mod (.bin false .Add (.bin false .Add (.bin false .Mult (.ix (.v 0) (.lit (.int 1))) (.lit (.int 48271))) (.lit (.int 29))) (.ix (.v 0) (.lit (.int 2)))) (.lit (.int 2147483647))),
    .asg (.n 3) (.bin false .Mod (.bin false .Add (.bin false .Add (.bin false .Mult (.ix (.v 0) (.lit (.int 1))) (.ix (.v 0) (.lit (.int 1)))) (.bin false .Mult (.lit (.int 39373)) (.ix (.v 0) (.lit (.int 1))))) (.lit (.int 7))) (.lit (.int 2147483629))),
    .asg (.n 3) (.bin false .Mod (.bin false .Add (.bin false .Mult (.v 3) (.v 3)) (.bin false .Mult (.lit (.int 16807)) (.v 3))) (.lit (.int 2147483587))),
    .ret (.bin false .Mod (.bin false .FloorDiv (.v 3) (.lit (.int 8))) (.v 1))] }
def B_law_deed_13 : Fn := { np := 1, ns := 2, keep := false, body := [
    .asg (.n 1) (.lst false [(.tup [(.lit (.str (PySem.Str.ofString "bide")))]), (.tup [(.lit (.str (PySem.Str.ofString "fill")))]), (.tup [(.lit (.str (PySem.Str.ofString "lift")))]), (.tup [(.lit (.str (PySem.Str.ofString "set")))]), (.tup [(.lit (.str (PySem.Str.ofString "go"))), (.call 12 [(.v 0), (.lit (.int 100))])]), (.tup [(.lit (.str (PySem.Str.ofString "hand"))), (.call 12 [(.v 0), (.lit (.int 100))])])]),
    .ret (.ix (.v 1) (.call 12 [(.v 0), (.lit (.int 6))]))] }
def B_law_14 : Fn := { np := 1, ns := 7, keep := false, body := [
    .asg (.n 1) (.lst false [(.tup [(.lit (.str (PySem.Str.ofString "bide")))]), (.tup [(.lit (.str (PySem.Str.ofString "fill")))]), (.tup [(.lit (.str (PySem.Str.ofString "lift")))]), (.tup [(.lit (.str (PySem.Str.ofString "set")))])]),
    .for (.n 2) (.lst false [(.lit (.int 0)), (.lit (.int 1)), (.lit (.int 9)), (.lit (.int 10)), (.lit (.int 11)), (.lit (.int 99))]) [.asg (.n 1) (.bin false .Add (.v 1) (.lst false [(.tup [(.lit (.str (PySem.Str.ofString "go"))), (.v 2)]), (.tup [(.lit (.str (PySem.Str.ofString "hand"))), (.v 2)])]))],
    .ife (.not (.bif false .all [(.comp false [3] (.call 9 [(.v 3)]) (.n 3) (.v 1) (.lit (.bool true)))])) [.ret (.lit (.bool false))] [],
    .for (.n 4) (.rng [(.bif false .max [(.lit (.int 1)), (.bif false .min [(.bif false .len [(.v 0)]), (.lit (.int 6))])])]) [.asg (.n 5) (.call 11 [(.v 0), (.v 4)]), .ife (.not (.bif false .all [(.comp false [6] (.call 9 [(.call 13 [(.v 5)])]) (.n 6) (.rng [(.lit (.int 8))]) (.lit (.bool true)))])) [.ret (.lit (.bool false))] [], .fgt [5]],
    .ret (.lit (.bool true))] }
def B_deeds_text_15 : Fn := { np := 1, ns := 2, keep := false, body := [
    .ife (.or (.not (.isi .tuple (.v 0))) (.not (.chn .LtE .LtE (.lit (.int 1)) (.bif false .len [(.v 0)]) (.gl 6 (.int 3))))) [.never] [],
    .ife (.not (.bif false .all [(.comp false [1] (.call 3 [(.v 1)]) (.n 1) (.v 0) (.lit (.bool true)))])) [.never] [],
    .ret (.mth false .join (.gl 7 (.str (PySem.Str.ofString ", "))) [(.comp false [1] (.call 4 [(.v 1)]) (.n 1) (.v 0) (.lit (.bool true)))])] }
def B_read_deeds_16 : Fn := { np := 1, ns := 3, keep := false, body := [
    .ife (.not (.isi .str (.v 0))) [.never] [],
    .asg (.n 1) (.bif false .tuple [(.comp false [2] (.call 7 [(.v 2)]) (.n 2) (.mth false .split (.v 0) [(.gl 7 (.str (PySem.Str.ofString ", ")))]) (.lit (.bool true)))]),
    .ife (.or (.cmp .Gt (.bif false .len [(.v 1)]) (.gl 6 (.int 3))) (.cmp .In (.lit .none) (.v 1))) [.never] [],
    .ret (.v 1)] }
def B_law_17 : Fn := { np := 1, ns := 9, keep := false, body := [
    .for (.n 1) (.rng [(.bif false .max [(.lit (.int 1)), (.bif false .min [(.bif false .len [(.v 0)]), (.lit (.int 6))])])]) [.asg (.n 2) (.call 11 [(.v 0), (.v 1)]), .for (.n 3) (.rng [(.lit (.int 8))]) [.asg (.n 4) (.bif false .tuple [(.comp false [5] (.call 13 [(.v 2)]) (.n 5) (.rng [(.bin false .Add (.lit (.int 1)) (.call 12 [(.v 2), (.lit (.int 3))]))]) (.lit (.bool true)))]), .par [6, 7] [(.mth false .join (.lit (.str (PySem.Str.ofString ", "))) [(.comp false [8] (.call 0 [(.v 8)]) (.n 8) (.v 4) (.lit (.bool true)))]), (.bif false .repr [(.v 4)])], .ife (.or (.cmp .NotEq (.bif false .repr [(.lst false [(.call 15 [(.v 4)]), (.call 15 [(.v 4)])])]) (.bif false .repr [(.lst false [(.v 6), (.v 6)])])) (.cmp .NotEq (.bif false .repr [(.v 4)]) (.v 7))) [.ret (.lit (.bool false))] [], .ife (.cmp .NotEq (.lst false [(.bif false .repr [(.call 16 [(.v 6)])]), (.bif false .repr [(.call 16 [(.v 6)])])]) (.lst false [(.v 7), (.v 7)])) [.ret (.lit (.bool false))] []], .fgt [2]],
    .ret (.lit (.bool true))] }
/-- the functions by their numbers -/
def FN : Nat → Option Fn
  | 0 => some B_law_text_0
  | 1 => some B_is_whole_1
  | 2 => some B_is_among_2
  | 3 => some B_is_deed_3
  | 4 => some B_text_of_4
  | 5 => some B_deed_text_5
  | 6 => some B_number_in_6
  | 7 => some B_deed_in_7
  | 8 => some B_read_deed_8
  | 9 => some B_law_right_9
  | 10 => some B_law_cell_at_10
  | 11 => some B_law_state_11
  | 12 => some B_law_take_12
  | 13 => some B_law_deed_13
  | 14 => some B_law_14
  | 15 => some B_deeds_text_15
  | 16 => some B_read_deeds_16
  | 17 => some B_law_17
  | _ => none
theorem FN_0 : FN 0 = some B_law_text_0 := rfl
theorem FN_1 : FN 1 = some B_is_whole_1 := rfl
theorem FN_2 : FN 2 = some B_is_among_2 := rfl
theorem FN_3 : FN 3 = some B_is_deed_3 := rfl
theorem FN_4 : FN 4 = some B_text_of_4 := rfl
theorem FN_5 : FN 5 = some B_deed_text_5 := rfl
theorem FN_6 : FN 6 = some B_number_in_6 := rfl
theorem FN_7 : FN 7 = some B_deed_in_7 := rfl
theorem FN_8 : FN 8 = some B_read_deed_8 := rfl
theorem FN_9 : FN 9 = some B_law_right_9 := rfl
theorem FN_10 : FN 10 = some B_law_cell_at_10 := rfl
theorem FN_11 : FN 11 = some B_law_state_11 := rfl
theorem FN_12 : FN 12 = some B_law_take_12 := rfl
theorem FN_13 : FN 13 = some B_law_deed_13 := rfl
theorem FN_14 : FN 14 = some B_law_14 := rfl
theorem FN_15 : FN 15 = some B_deeds_text_15 := rfl
theorem FN_16 : FN 16 = some B_read_deeds_16 := rfl
theorem FN_17 : FN 17 = some B_law_17 := rfl
end Cy


set_option Elab.async false
set_option linter.all false
set_option maxRecDepth 100000
set_option maxHeartbeats 4000000
/-! L8: the signs of what is shown. -/
namespace Cy
open PySem
def SOk (z : Str) : Prop := ∀ c ∈ z.cps.toList, c < 1114112
theorem SOk.of {z : Str} (h : PyData.strOk z = true) : SOk z := by
  intro c hc
  have h0 : z.cps.all (· < 0x110000) = true := h
  have := (Array.all_eq_true_iff_forall_mem.mp h0) c (Array.mem_toList_iff.mp hc)
  simpa using this
theorem SOk.strOk {z : Str} (h : SOk z) : PyData.strOk z = true := by
  show (z.cps.all (· < 0x110000)) = true
  rw [Array.all_eq_true_iff_forall_mem]
  intro c hc
  have := h c (Array.mem_toList_iff.mpr hc)
  simpa using this
theorem app_toList (a b : Str) : (a ++ b).cps.toList = a.cps.toList ++ b.cps.toList := by
  show (a.cps ++ b.cps).toList = _
  simp
theorem SOk.app {a b : Str} (ha : SOk a) (hb : SOk b) : SOk (a ++ b) := by
  intro c hc
  rw [app_toList, List.mem_append] at hc
  rcases hc with h | h
  · exact ha c h
  · exact hb c h
theorem char_ok (c : Char) : c.toNat < 1114112 := by
  rcases c.valid with h | h
  · have : c.toNat < 0xd800 := h
    omega
  · have : c.toNat < 0x110000 := h.2
    omega
theorem SOk.ofS (s : String) : SOk (PySem.Str.ofString s) := by
  intro c hc
  have e : (PySem.Str.ofString s).cps.toList = s.toList.map Char.toNat := by
    show (cpsOfBytes 0 0 s.toByteArray.data.toList).toArray.toList = _
    rw [cpsOfBytes_string]
  rw [e, List.mem_map] at hc
  obtain ⟨x, _, rfl⟩ := hc
  exact char_ok x
theorem reprChar_ok {q c : Nat} (hc : c < 1114112) : ∀ x ∈ Builtin.Str.reprChar q c, x < 1114112 := by
  have hx : ∀ w, ∀ x ∈ (let d := (Nat.toDigits 16 c).map Char.toNat; List.replicate (w - d.length) 48 ++ d), x < 1114112 := by
    intro w x h
    simp only [List.mem_append] at h
    rcases h with h | h
    · have := (List.mem_replicate.mp h).2
      omega
    · obtain ⟨y, _, rfl⟩ := List.mem_map.mp h
      exact char_ok y
  intro x h
  unfold Builtin.Str.reprChar at h
  have two : ∀ a b : Nat, a < 1114112 → b < 1114112 → x ∈ [a, b] → x < 1114112 := fun a b ha hb h => by
    simp only [List.mem_cons, List.not_mem_nil, or_false] at h
    rcases h with rfl | rfl <;> assumption
  have pre : ∀ b w, b < 1114112 → x ∈ [92, b] ++ (let d := (Nat.toDigits 16 c).map Char.toNat; List.replicate (w - d.length) 48 ++ d) → x < 1114112 := fun b w hb h => by
    rcases List.mem_append.mp h with h | h
    · exact two 92 b (by decide) hb h
    · exact hx w x h
  dsimp only at h
  split at h
  · exact two 92 c (by decide) hc h
  · split at h
    · exact two 92 110 (by decide) (by decide) h
    · split at h
      · exact two 92 114 (by decide) (by decide) h
      · split at h
        · exact two 92 116 (by decide) (by decide) h
        · split at h
          · simp only [List.mem_cons, List.not_mem_nil, or_false] at h
            omega
          · split at h
            · exact pre 120 2 (by decide) h
            · split at h
              · exact pre 117 4 (by decide) h
              · exact pre 85 8 (by decide) h
theorem reprText_ok {z : Str} (h : SOk z) : SOk (reprText z) := by
  have hq : reprQuote z < 1114112 := by
    unfold reprQuote
    split <;> decide
  have go : ∀ (l : List Nat) (acc : Array Nat), (∀ c ∈ l, c < 1114112) → (∀ c ∈ acc.toList, c < 1114112) → ∀ c ∈ (l.foldl (fun out c => out ++ (Builtin.Str.reprChar (reprQuote z) c).toArray) acc).toList, c < 1114112 := fun l => by
    induction l with
    | nil => intro acc _ ha; exact ha
    | cons x r ih =>
      intro acc hl ha
      refine ih _ (fun c hc => hl c (List.mem_cons_of_mem _ hc)) fun c hc => ?_
      rw [Array.toList_append, List.mem_append] at hc
      rcases hc with hc | hc
      · exact ha c hc
      · exact reprChar_ok (hl x (by simp)) c hc
  intro c hc
  unfold reprText at hc
  rw [Array.toList_push, List.mem_append, ← Array.foldl_toList] at hc
  rcases hc with hc | hc
  · exact go z.cps.toList #[reprQuote z] h (fun c hc => by
      have : c = reprQuote z := by simpa using hc
      omega) c hc
  · have : c = reprQuote z := by simpa using hc
    omega
theorem join_ok {sep : Str} (hs : SOk sep) : ∀ ts : List Str, (∀ t ∈ ts, SOk t) → SOk (PySem.Str.join sep ts)
  | [], _ => by intro c hc; simp [PySem.Str.join, PySem.Str.empty] at hc
  | [t], h => h t (by simp)
  | t :: u :: r, h => by
    show SOk (t ++ sep ++ PySem.Str.join sep (u :: r))
    exact ((h t (by simp)).app hs).app (join_ok hs (u :: r) fun x hx => h x (List.mem_cons_of_mem _ hx))
theorem textFrom_ok : ∀ (ts : List Str) (k : Nat) (acc : Str), SOk acc → (∀ t ∈ ts, SOk t) → SOk (textFrom k acc ts)
  | [], k, acc, h, _ => h
  | t :: ts, k, acc, h, ht => by
    show SOk (textFrom (k + 1) (acc ++ (if k > 0 then ", " else "" : String) ++ t) ts)
    exact textFrom_ok ts _ _ ((h.app (SOk.ofS _)).app (ht t (by simp))) fun x hx => ht x (List.mem_cons_of_mem _ hx)
mutual
theorem shown_ok : ∀ d : D, d.canLay0 = true → SOk d.shown
  | .none, _ => by simp only [PyData.shown]; exact SOk.ofS _
  | .bool b, _ => by cases b <;> (simp only [PyData.shown]; exact SOk.ofS _)
  | .int i, _ => by simp only [PyData.shown]; exact SOk.ofS _
  | .str x, h => by simp only [PyData.shown]; exact reprText_ok (SOk.of (by simpa [PyData.canLay0] using h))
  | .list xs, h => by
    simp only [PyData.shown]
    exact (textFrom_ok _ _ _ (SOk.ofS _) (shownAll_ok xs (by simpa [PyData.canLay0] using h))).app (SOk.ofS _)
  | .tuple xs, h => by
    simp only [PyData.shown]
    exact ((SOk.ofS _).app (join_ok (SOk.ofS _) _ (shownAll_ok xs (by simpa [PyData.canLay0] using h)))).app (SOk.ofS _)
  | .dict _, h => by simp [PyData.canLay0] at h
theorem shownAll_ok : ∀ xs : List D, PyData.canLayAll0 xs = true → ∀ t ∈ PyData.shownAll xs, SOk t
  | [], _, t, ht => by simp [PyData.shownAll] at ht
  | x :: xs, h, t, ht => by
    have h' : x.canLay0 = true ∧ PyData.canLayAll0 xs = true := by simpa [PyData.canLayAll0] using h
    simp only [PyData.shownAll, List.mem_cons] at ht
    rcases ht with rfl | ht
    · exact shown_ok x h'.1
    · exact shownAll_ok xs h'.2 t ht
end
/-- what repr tells can be laid -/
theorem repr_ok {d : D} {z : Str} (e : reprD d = some (.str z)) (h : d.canLay0 = true) : PyData.strOk z = true := by
  unfold reprD at e
  split at e
  · injection e with e
    injection e with e
    rw [← e]
    exact (shown_ok d h).strOk
  · cases e
end Cy


set_option Elab.async false
set_option linter.all false
set_option maxRecDepth 100000
set_option maxHeartbeats 4000000
/-! S51: texts joined by a comma and a blank, parted again. -/
namespace Cy
open PySem PySem.StrLaws Builtin Builtin.Str

def Sep : Str := ⟨#[44, 32]⟩
def glue : List (List Nat) → List Nat
  | [] => []
  | [t] => t
  | t :: u :: r => t ++ 44 :: 32 :: glue (u :: r)
theorem at_drop {x : Str} {k : Nat} : At x Sep x.length k ↔ ∃ r, x.cps.toList.drop k = 44 :: 32 :: r := by
  unfold At
  rw [subAt_eq]
  have hs : Sep.length = 2 := rfl
  have hc : Sep.cps.toList = [44, 32] := rfl
  have hx : x.length = x.cps.toList.length := by simp [Str.length]
  rw [hs, hc, hx]
  generalize x.cps.toList = L
  constructor
  · rintro ⟨h1, h2⟩
    have h2 := eq_of_beq h2
    have e := List.take_append_drop 2 (L.drop k)
    rw [h2] at e
    exact ⟨_, e.symm⟩
  · rintro ⟨r, e⟩
    have hl := congrArg List.length e
    simp at hl
    refine ⟨by omega, ?_⟩
    rw [e]
    rfl
theorem parts_ok {x : Str} : ∀ (ts : List Str) (a : Nat) (cuts : List Nat) (f : Nat), ts ≠ [] → (∀ t ∈ ts, 44 ∉ t.cps.toList) → x.cps.toList.drop a = glue (ts.map fun t => t.cps.toList) →
    ChainG x Sep x.length a cuts f → (∀ k, f ≤ k → ¬ At x Sep x.length k) → partsFrom x 2 a cuts = ts
  | [], _, _, _, h, _, _, _, _ => absurd rfl h
  | [t], a, cuts, f, _, hc, hd, ch, tl => by
    have hd : x.cps.toList.drop a = t.cps.toList := hd
    cases cuts with
    | nil =>
      have e : strSub x a x.length = t := by
        apply Str.ext'
        apply Array.toList_inj.mp
        rw [strSub_toList, hd, ← hd]
        exact List.take_of_length_le (by simp [Str.length])
      unfold partsFrom
      rw [e]
    | cons c r =>
      obtain ⟨h1, h2, _, _⟩ := ch
      obtain ⟨r', e⟩ := at_drop.mp h2
      have e2 : x.cps.toList.drop c = t.cps.toList.drop (c - a) := by
        rw [← hd, List.drop_drop]
        congr 1
        omega
      have : 44 ∈ t.cps.toList.drop (c - a) := by rw [← e2, e]; simp
      exact absurd (List.mem_of_mem_drop this) (hc t (by simp))
  | t :: u :: r, a, cuts, f, _, hc, hd, ch, tl => by
    have hd : x.cps.toList.drop a = t.cps.toList ++ 44 :: 32 :: glue ((u :: r).map fun t => t.cps.toList) := hd
    have hn : x.cps.toList.drop (a + t.cps.toList.length) = 44 :: 32 :: glue ((u :: r).map fun t => t.cps.toList) := by
      rw [← List.drop_drop, hd, List.drop_left]
    have hat : At x Sep x.length (a + t.cps.toList.length) := at_drop.mpr ⟨_, hn⟩
    cases cuts with
    | nil =>
      have e : f = a := ch
      exact absurd hat (tl _ (by omega))
    | cons c cs =>
      obtain ⟨h1, h2, h3, h4⟩ := ch
      have hle : c ≤ a + t.cps.toList.length := by
        rcases Nat.lt_or_ge (a + t.cps.toList.length) c with z | z
        · exact absurd hat (h3 _ (by omega) z)
        · exact z
      have hge : a + t.cps.toList.length ≤ c := by
        rcases Nat.lt_or_ge c (a + t.cps.toList.length) with z | z
        · obtain ⟨r', e⟩ := at_drop.mp h2
          have e2 : x.cps.toList.drop c = t.cps.toList.drop (c - a) ++ 44 :: 32 :: glue ((u :: r).map fun t => t.cps.toList) := by
            have : c = a + (c - a) := by omega
            rw [this, ← List.drop_drop, hd, List.drop_append_of_le_length (by omega)]
            congr 2
            omega
          rw [e] at e2
          cases q : t.cps.toList.drop (c - a) with
          | nil =>
            have := congrArg List.length q
            simp at this
            simp at z
            omega
          | cons y ys =>
            rw [q] at e2
            have : (44 : Nat) = y := by
              have := congrArg List.head? e2
              simpa using this
            exact absurd (List.mem_of_mem_drop (show (44 : Nat) ∈ t.cps.toList.drop (c - a) by rw [q, this]; simp)) (hc t (by simp))
        · exact z
      have ec : c = a + t.cps.toList.length := by omega
      have e : strSub x a c = t := by
        apply Str.ext'
        apply Array.toList_inj.mp
        rw [strSub_toList, hd, ec]
        have : a + t.cps.toList.length - a = t.cps.toList.length := by omega
        rw [this, List.take_left]
      have hd2 : x.cps.toList.drop (c + 2) = glue ((u :: r).map fun t => t.cps.toList) := by
        rw [← List.drop_drop, ec, hn]
        rfl
      unfold partsFrom
      rw [e, parts_ok (u :: r) (c + 2) cs f (by simp) (fun t ht => hc t (List.mem_cons_of_mem _ ht)) hd2 h4 tl]

theorem app_codes (a b : Str) : (a ++ b).cps.toList = a.cps.toList ++ b.cps.toList := by
  show (a.cps ++ b.cps).toList = _
  simp
theorem join_codes : ∀ ts : List Str, (Str.join Sep ts).cps.toList = glue (ts.map fun t => t.cps.toList)
  | [] => rfl
  | [t] => rfl
  | t :: u :: r => by
    show ((t ++ Sep) ++ Str.join Sep (u :: r)).cps.toList = _
    rw [app_codes, app_codes, join_codes (u :: r)]
    simp [glue, Sep]
theorem split_join {ts : List Str} (hn : ts ≠ []) (hc : ∀ t ∈ ts, 44 ∉ t.cps.toList) : Txt.split (Str.join Sep ts) Sep = ts := by
  have hj := join_codes ts
  generalize Str.join Sep ts = x at hj
  obtain ⟨f, ch, tl⟩ := occ_tight x Sep (by decide)
  have key := parts_ok ts 0 _ f hn hc (by rw [List.drop_zero]; exact hj) ch tl
  unfold Txt.split
  split
  · rename_i h
    rw [Bool.or_eq_true, decide_eq_true_eq, decide_eq_true_eq] at h
    have hk : ¬ Str.strKind x < Str.strKind Sep := by
      have e : Str.strKind Sep = 1 := by decide +kernel
      rw [e]
      unfold Str.strKind
      split
      · omega
      · split <;> omega
    rcases h with h | h
    · have hl : x.cps.toList.length < 2 := by
        have : x.length = x.cps.toList.length := by simp [Str.length]
        have h2 : Sep.length = 2 := rfl
        omega
      cases ts with
      | nil => exact absurd rfl hn
      | cons t r => cases r with
        | nil =>
          have e : x = t := Str.ext' (Array.toList_inj.mp hj)
          rw [e]
        | cons u r =>
          rw [hj] at hl
          simp [glue] at hl
          omega
    · exact absurd h hk
  · split
    · rename_i h
      have e : occurrences x Sep 0 x.length (x.length + 1) = [] := by
        rwa [List.isEmpty_iff] at h
      rw [e] at key
      have key : [strSub x 0 x.length] = ts := key
      rw [sub_whole] at key
      exact key
    · rw [partsBetween_eq]
      exact key
end Cy


set_option Elab.async false
set_option linter.all false
set_option maxRecDepth 100000
set_option maxHeartbeats 4000000
/-! S51b: single deeds, by the kernel, at the empty heap. -/
namespace Cy
open PySem
def one (x : Str) : D := .tuple [.str x]
def two (x : Str) (i : Int) : D := .tuple [.str x, .int i]
/-- what is asked of a deed: its text twice over, that it is one, that it is read again, that its text has no comma, that it can be shown shortly -/
def fact (d : D) : Bool := match run FN 19 0 [.d d] [] with
  | .ok (.d (.str t)) [] => (match run FN 18 4 [.d d] [] with
      | .ok (.d (.str u)) [] => decide (t = u)
      | _ => false) && (match run FN 18 3 [.d d] [] with
      | .ok (.d (.bool true)) [] => true
      | _ => false) && (match run FN 18 7 [.d (.str t)] [] with
      | .ok (.d e) [] => beqD e d
      | _ => false) && !(t.cps.toList.contains 44) && (t.cps.toList.all fun c => decide (c < 128)) && decide (t.length ≤ 40) && d.showable && !d.hasDict && decide (d.depth ≤ 3) && decide (d.shown.length ≤ 60) && d.canLay0 && !(PyData.eqv d .none)
  | _ => false
theorem fact_one : [one (PySem.Str.ofString "bide"), one (PySem.Str.ofString "fill"), one (PySem.Str.ofString "lift"), one (PySem.Str.ofString "set")].all fact = true := by decide +kernel
theorem fact_go_0 : ((List.range 25).all fun i => fact (two (PySem.Str.ofString "go") ((i + 0 : Nat) : Int))) = true := by decide +kernel
theorem fact_go_1 : ((List.range 25).all fun i => fact (two (PySem.Str.ofString "go") ((i + 25 : Nat) : Int))) = true := by decide +kernel
theorem fact_go_2 : ((List.range 25).all fun i => fact (two (PySem.Str.ofString "go") ((i + 50 : Nat) : Int))) = true := by decide +kernel
theorem fact_go_3 : ((List.range 25).all fun i => fact (two (PySem.Str.ofString "go") ((i + 75 : Nat) : Int))) = true := by decide +kernel
theorem fact_go {i : Nat} (hi : i < 100) : fact (two (PySem.Str.ofString "go") (i : Nat)) = true := by
  have hq : i / 25 = 0 ∨ i / 25 = 1 ∨ i / 25 = 2 ∨ i / 25 = 3 := by omega
  rcases hq with hq | hq | hq | hq
  · have e := List.all_eq_true.mp fact_go_0 (i % 25) (List.mem_range.mpr (by omega))
    have z : i % 25 + 0 = i := by omega
    rw [z] at e
    exact e
  · have e := List.all_eq_true.mp fact_go_1 (i % 25) (List.mem_range.mpr (by omega))
    have z : i % 25 + 25 = i := by omega
    rw [z] at e
    exact e
  · have e := List.all_eq_true.mp fact_go_2 (i % 25) (List.mem_range.mpr (by omega))
    have z : i % 25 + 50 = i := by omega
    rw [z] at e
    exact e
  · have e := List.all_eq_true.mp fact_go_3 (i % 25) (List.mem_range.mpr (by omega))
    have z : i % 25 + 75 = i := by omega
    rw [z] at e
    exact e
theorem fact_hand_0 : ((List.range 25).all fun i => fact (two (PySem.Str.ofString "hand") ((i + 0 : Nat) : Int))) = true := by decide +kernel
theorem fact_hand_1 : ((List.range 25).all fun i => fact (two (PySem.Str.ofString "hand") ((i + 25 : Nat) : Int))) = true := by decide +kernel
theorem fact_hand_2 : ((List.range 25).all fun i => fact (two (PySem.Str.ofString "hand") ((i + 50 : Nat) : Int))) = true := by decide +kernel
theorem fact_hand_3 : ((List.range 25).all fun i => fact (two (PySem.Str.ofString "hand") ((i + 75 : Nat) : Int))) = true := by decide +kernel
theorem fact_hand {i : Nat} (hi : i < 100) : fact (two (PySem.Str.ofString "hand") (i : Nat)) = true := by
  have hq : i / 25 = 0 ∨ i / 25 = 1 ∨ i / 25 = 2 ∨ i / 25 = 3 := by omega
  rcases hq with hq | hq | hq | hq
  · have e := List.all_eq_true.mp fact_hand_0 (i % 25) (List.mem_range.mpr (by omega))
    have z : i % 25 + 0 = i := by omega
    rw [z] at e
    exact e
  · have e := List.all_eq_true.mp fact_hand_1 (i % 25) (List.mem_range.mpr (by omega))
    have z : i % 25 + 25 = i := by omega
    rw [z] at e
    exact e
  · have e := List.all_eq_true.mp fact_hand_2 (i % 25) (List.mem_range.mpr (by omega))
    have z : i % 25 + 50 = i := by omega
    rw [z] at e
    exact e
  · have e := List.all_eq_true.mp fact_hand_3 (i % 25) (List.mem_range.mpr (by omega))
    have z : i % 25 + 75 = i := by omega
    rw [z] at e
    exact e
def deeds : List D := [one (PySem.Str.ofString "bide"), one (PySem.Str.ofString "fill"), one (PySem.Str.ofString "lift"), one (PySem.Str.ofString "set")] ++ (List.range 100).map (fun i => two (PySem.Str.ofString "go") (i : Nat)) ++ (List.range 100).map (fun i => two (PySem.Str.ofString "hand") (i : Nat))
theorem fact_all {d : D} (hd : d ∈ deeds) : fact d = true := by
  unfold deeds at hd
  rcases List.mem_append.mp hd with hd | hd
  · rcases List.mem_append.mp hd with hd | hd
    · exact List.all_eq_true.mp fact_one d hd
    · obtain ⟨i, hi, rfl⟩ := List.mem_map.mp hd
      exact fact_go (List.mem_range.mp hi)
  · obtain ⟨i, hi, rfl⟩ := List.mem_map.mp hd
    exact fact_hand (List.mem_range.mp hi)
end Cy


set_option Elab.async false
set_option linter.all false
set_option maxRecDepth 100000
set_option maxHeartbeats 4000000
namespace Cy
open PySem
structure Shows (d : D) : Prop where
  s : d.showable = true
  n : d.hasDict = false
  p : d.depth ≤ 3
  l : d.shown.length ≤ 60
  c : d.canLay0 = true
  e : PyData.eqv d .none = false
theorem shows_of {d : D} (h : fact d = true) : Shows d := by
  unfold fact at h
  split at h
  · simp only [Bool.and_eq_true, Bool.not_eq_true', decide_eq_true_eq] at h
    exact ⟨h.1.1.1.1.1.2, h.1.1.1.1.2, h.1.1.1.2, h.1.1.2, h.1.2, h.2⟩
  · cases h
theorem repr3 {a b c : D} (ha : Shows a) (hb : Shows b) (hc : Shows c) : ∃ z, reprD (.tuple [a, b, c]) = some (.str z) := by
  refine ⟨(PyData.tuple [a, b, c]).shown, ?_⟩
  unfold reprD
  rw [if_pos]
  simp [PyData.showable, PyData.showableAll, PyData.hasDict, PyData.hasDictAll, PyData.shown, PyData.shownAll, ha.s, hb.s, hc.s, ha.n, hb.n, hc.n]
  refine ⟨?_, ?_⟩
  · have h1 := ha.p
    have h2 := hb.p
    have h3 := hc.p
    simp [PyData.depth, PyData.depthAll]
    omega
  · have hl := StrLaws.join_length_le (", ") [a.shown, b.shown, c.shown]
    have h1 := ha.l
    have h2 := hb.l
    have h3 := hc.l
    have hz : lim = 16777216 := rfl
    have e2 : ((", " : String) : Str).length = 2 := rfl
    simp [e2] at hl
    unfold tupleText
    have e3 : (("(" : String) : Str).length = 1 := rfl
    have e4 : ((")" : String) : Str).length = 1 := rfl
    simp [PySem.strLen_append, e3, e4]
    omega
theorem repr2 {a b : D} (ha : Shows a) (hb : Shows b) : ∃ z, reprD (.tuple [a, b]) = some (.str z) := by
  refine ⟨(PyData.tuple [a, b]).shown, ?_⟩
  unfold reprD
  rw [if_pos]
  simp [PyData.showable, PyData.showableAll, PyData.hasDict, PyData.hasDictAll, PyData.shown, PyData.shownAll, ha.s, hb.s, ha.n, hb.n]
  refine ⟨?_, ?_⟩
  · have h1 := ha.p
    have h2 := hb.p
    simp [PyData.depth, PyData.depthAll]
    omega
  · have hl := StrLaws.join_length_le (", ") [a.shown, b.shown]
    have h1 := ha.l
    have h2 := hb.l
    have hz : lim = 16777216 := rfl
    have e2 : ((", " : String) : Str).length = 2 := rfl
    simp [e2] at hl
    unfold tupleText
    have e3 : (("(" : String) : Str).length = 1 := rfl
    have e4 : ((")" : String) : Str).length = 1 := rfl
    simp [PySem.strLen_append, e3, e4]
    omega
theorem repr1 {a : D} (ha : Shows a) : ∃ z, reprD (.tuple [a]) = some (.str z) := by
  refine ⟨(PyData.tuple [a]).shown, ?_⟩
  unfold reprD
  rw [if_pos]
  simp [PyData.showable, PyData.showableAll, PyData.hasDict, PyData.hasDictAll, PyData.shown, PyData.shownAll, ha.s, ha.n]
  refine ⟨?_, ?_⟩
  · have h1 := ha.p
    simp [PyData.depth, PyData.depthAll]
    omega
  · have hl := StrLaws.join_length_le (", ") [a.shown]
    have h1 := ha.l
    have hz : lim = 16777216 := rfl
    have e2 : ((", " : String) : Str).length = 2 := rfl
    simp [e2] at hl
    unfold tupleText
    have e3 : (("(" : String) : Str).length = 1 := rfl
    have e4 : ((",)" : String) : Str).length = 2 := rfl
    simp [PySem.strLen_append, e3, e4]
    omega
theorem repr_uu {u : Str} (hl : u.length ≤ 200) (hc : ∀ c ∈ u.cps.toList, c < 128) : ∃ z, reprD (.list [.str u, .str u]) = some (.str z) := by
  refine ⟨(PyData.list [.str u, .str u]).shown, ?_⟩
  have h1 := StrLaws.reprText_len u fun c h => Nat.lt_of_lt_of_le (hc c h) (by decide)
  have hz : lim = 16777216 := rfl
  unfold reprD
  rw [if_pos]
  simp [PyData.showable, PyData.showableAll, PyData.hasDict, PyData.hasDictAll, PyData.shown, PyData.shownAll, PyData.depth, PyData.depthAll]
  have e2 : ((", " : String) : Str).length = 2 := rfl
  have e3 : (("[" : String) : Str).length = 1 := rfl
  have e4 : (("]" : String) : Str).length = 1 := rfl
  have e5 : (("" : String) : Str).length = 0 := rfl
  simp [listText, textFrom, PySem.strLen_append, e2, e3, e4, e5]
  omega
end Cy


set_option Elab.async false
set_option linter.all false
set_option maxRecDepth 100000
set_option maxHeartbeats 4000000
/-! S51d: what a comprehension of calls by data alone makes; the program's two functions at a tuple of deeds. -/
namespace Cy
open PySem
theorem run_at {fs : Nat → Option Fn} {f : Nat} {fn : Fn} (h : fs f = some fn) (k : Nat) (args : List R) (hh : Hs) : run fs (k + 1) f args hh = enter fn (run fs k) args hh := by
  show (match fs f with
    | some fn => enter fn (run fs k) args
    | none => M.no) hh = _
  rw [h]
theorem enter_rt {fn : Fn} {cal : Cal} {args : List R} {h h1 : Hs} {r : R} (hl : args.length = fn.np) (e : sts cal fn.body (args.map some ++ List.replicate (fn.ns - fn.np) none) h = .rt r h1) : enter fn cal args h = leave fn.keep h.length r h1 := by
  unfold enter
  rw [if_pos hl, e]
theorem bnd_ok {α β : Type} {m : M α} {f : α → M β} {h h1 : Hs} {a : α} (e : m h = .ok a h1) : (m.bnd f) h = f a h1 := by
  unfold M.bnd
  rw [e]
/-- the turns of a comprehension, each of which makes φ x and leaves the cells as they are -/
theorem turns_map {f : Rho → M (Option D)} {tg : Tg} {ρ : Rho} {n : Nat} {g : Hs} (φ : D → D) : ∀ (ds acc : List D), acc.length + ds.length ≤ 1000 → g.length = n →
    (∀ x ∈ ds, ∀ a : List D, ∃ ρ', put tg (.d x) ρ = some ρ' ∧ f ρ' (g ++ [Cell.lst a]) = .ok (some (φ x)) (g ++ [Cell.lst a])) →
    turns f tg ρ n ds (g ++ [Cell.lst acc]) = .ok () (g ++ [Cell.lst (acc ++ ds.map φ)])
  | [], acc, _, _, _ => by simp [turns, M.ret]
  | x :: ds, acc, hl, hn, hf => by
    obtain ⟨ρ', e1, e2⟩ := hf x (by simp) acc
    have ih := turns_map (f := f) (tg := tg) (ρ := ρ) φ ds (acc ++ [φ x]) (by simp at hl ⊢; omega) hn fun y hy a => hf y (List.mem_cons_of_mem _ hy) a
    have hz : acc.length < lim := by
      have : lim = 16777216 := rfl
      simp only [List.length_cons] at hl
      omega
    have ha : appR (.ref n) (φ x) (g ++ [Cell.lst acc]) = .ok (.d .none) (g ++ [Cell.lst (acc ++ [φ x])]) := by
      subst hn
      simp [appR, appC, hget, hz]
    unfold turns
    simp only [M.bnd, M.opt, e1, e2, ha]
    rw [ih]
    simp
theorem comp_map {cal : Cal} {own : List Nat} {elt it : E} {tg : Tg} {ρ : Rho} {g : Hs} {d : D} {ds : List D} (φ : D → D) (hi : ev cal it ρ g = .ok (.d d) g) (hs : seqD d = some ds) (hl : ds.length ≤ 1000)
    (hf : ∀ x ∈ ds, ∀ a : List D, ∃ ρ', put tg (.d x) (wipe ρ own) = some ρ' ∧ ev cal elt ρ' (g ++ [Cell.lst a]) = .ok (.d (φ x)) (g ++ [Cell.lst a])) :
    ev cal (.comp false own elt tg it (.lit (.bool true))) ρ g = .ok (.d (.list (ds.map φ))) (g ++ [Cell.fz (ds.map φ)]) := by
  have e := turns_map (f := fun ρ' => M.nox (((ev cal (.lit (.bool true)) ρ').bnd boolOf).bnd fun k =>
      match k with
      | true => (ev cal elt ρ').bnd fun y => (pur y).bnd fun dy => M.ret (some dy)
      | false => M.ret none)) (tg := tg) (ρ := wipe ρ own) (n := g.length) (g := g) φ ds [] (by simpa using hl) rfl fun x hx a => by
    obtain ⟨ρ', e1, e2⟩ := hf x hx a
    exact ⟨ρ', e1, by simp [M.nox, ev, M.bnd, M.ret, boolOf, e2, pur]⟩
  rw [List.nil_append] at e
  unfold ev
  refine (bnd_ok hi).trans ?_
  refine (bnd_ok (show pur (.d d) g = .ok d g from rfl)).trans ?_
  refine (bnd_ok (show M.opt (seqD d) g = .ok ds g by rw [hs]; rfl)).trans ?_
  unfold compM
  refine (bnd_ok e).trans ?_
  simp [fzR, fzC, hget]
theorem below_lst {a : List D} : ∀ g : Hs, below g.length g = true → below (g ++ [Cell.lst a]).length (g ++ [Cell.lst a]) = true := fun g h => by
  unfold below at h ⊢
  rw [List.all_eq_true] at h ⊢
  intro c hc
  rcases List.mem_append.mp hc with z | z
  · have := h c z
    cases c with
    | lst _ => rfl
    | fz _ => rfl
    | dct t kvs =>
      unfold Cell.below at this ⊢
      rw [List.all_eq_true] at this ⊢
      intro p hp
      have q := this p hp
      cases e : p.2 with
      | d _ => rfl
      | ref m =>
        rw [e] at q
        unfold R.below at q ⊢
        have q := of_decide_eq_true q
        exact decide_eq_true (by simp; omega)
  · rw [List.mem_singleton] at z
    subst z
    rfl
/-- what is known of a deed -/
structure Knows (d : D) (t : Str) : Prop where
  t4 : ∀ g, below g.length g = true → run FN 18 4 [.d d] g = .ok (.d (.str t)) g
  t0 : ∀ g, below g.length g = true → run FN 19 0 [.d d] g = .ok (.d (.str t)) g
  t3 : ∀ g, below g.length g = true → run FN 18 3 [.d d] g = .ok (.d (.bool true)) g
  t7 : ∀ g, below g.length g = true → run FN 18 7 [.d (.str t)] g = .ok (.d d) g
  nc : 44 ∉ t.cps.toList
  lo : ∀ c ∈ t.cps.toList, c < 128
  ln : t.length ≤ 40
  sh : Shows d
theorem knows {d : D} (hd : d ∈ deeds) : ∃ t, Knows d t := by
  have hf := fact_all hd
  have hsh := shows_of hf
  unfold fact at hf
  split at hf
  · rename_i t e0
    simp only [Bool.and_eq_true, Bool.not_eq_true', decide_eq_true_eq] at hf
    obtain ⟨⟨⟨⟨⟨⟨⟨⟨⟨⟨⟨q1, q2⟩, q3⟩, q4⟩, q5⟩, q6⟩, _⟩, _⟩, _⟩, _⟩, _⟩, _⟩ := hf
    refine ⟨t, fun g hg => ?_, fun g hg => frame (ds := [d]) e0 g hg, fun g hg => ?_, fun g hg => ?_, ?_, ?_, q6, hsh⟩
    · split at q1
      · rename_i u e
        have : t = u := of_decide_eq_true q1
        subst this
        exact frame (ds := [d]) e g hg
      · cases q1
    · split at q2
      · rename_i e
        exact frame (ds := [d]) e g hg
      · cases q2
    · split at q3
      · rename_i x e
        have := beqD_eq q3
        subst this
        exact frame (ds := [.str t]) e g hg
      · cases q3
    · intro hm
      rw [List.contains_iff_mem.mpr hm] at q4
      cases q4
    · intro c hc
      exact of_decide_eq_true (List.all_eq_true.mp q5 c hc)
  · cases hf
end Cy


set_option Elab.async false
set_option linter.all false
set_option maxRecDepth 100000
set_option maxHeartbeats 4000000
namespace Cy
open PySem
/-- a tuple of one to three deeds, with their texts -/
structure Beat (ds : List D) (tx : D → Str) : Prop where
  k : ∀ d ∈ ds, Knows d (tx d)
  n1 : 1 ≤ ds.length
  n3 : ds.length ≤ 3
theorem beat_of {ds : List D} (h : ∀ d ∈ ds, d ∈ deeds) (n1 : 1 ≤ ds.length) (n3 : ds.length ≤ 3) : ∃ tx, Beat ds tx := by
  classical
  refine ⟨fun d => if hd : d ∈ deeds then (knows hd).choose else default, fun d hd => ?_, n1, n3⟩
  have hd := h d hd
  rw [dif_pos hd]
  exact (knows hd).choose_spec
theorem allStrs_map (tx : D → Str) : ∀ ds : List D, allStrs (ds.map fun d => .str (tx d)) = some (ds.map tx)
  | [] => rfl
  | d :: ds => by simp [allStrs, allStrs_map tx ds]
theorem join_fits {ds : List D} {tx : D → Str} (b : Beat ds tx) : ((ds.map tx).map (·.length)).sum + (ds.map tx).length * Sep.length ≤ 126 := by
  have hs : Sep.length = 2 := rfl
  have n3 := b.n3
  have : ∀ l : List D, (∀ d ∈ l, Knows d (tx d)) → ((l.map tx).map (·.length)).sum ≤ l.length * 40 := fun l => by
    induction l with
    | nil => intro _; simp
    | cons d l ih =>
      intro h
      have h1 := (h d (by simp)).ln
      have h2 := ih fun e he => h e (List.mem_cons_of_mem _ he)
      simp at h2 ⊢
      omega
  have q := this ds b.k
  simp [hs] at q ⊢
  omega
theorem sep_eq : PySem.Str.ofString ", " = Sep := by decide +kernel
theorem bifD_len (x : D) : bifD .len [x] = (lenD x).map fun n => .v (.int (n : Nat)) := rfl
theorem below_nil (c : List D) : below 1 [.fz c] = true := rfl
/-- the text of a beat -/
def beatT (ds : List D) (tx : D → Str) : Str := Txt.join Sep (ds.map tx)
theorem join_part {ds : List D} {tx : D → Str} (b : Beat ds tx) : mtD .join Sep [.list (ds.map fun d => .str (tx d))] = some (.v (.str (beatT ds tx))) := by
  have hf := join_fits b
  have hz : lim = 16777216 := rfl
  unfold mtD
  simp only [allStrs_map, Option.bind_some]
  rw [if_pos (by omega)]
  rfl
theorem text_ok {ds : List D} {tx : D → Str} (b : Beat ds tx) (g : Hs) (hg : below g.length g = true) : run FN 19 15 [.d (.tuple ds)] g = .ok (.d (.str (beatT ds tx))) g := by
  refine frame (ds := [.tuple ds]) (g := g) (hg := hg) (k := 19) (f := 15) (x := .str (beatT ds tx)) ?_
  show run FN 19 15 [.d (.tuple ds)] [] = _
  rw [run_at FN_15]
  have c1 : ev (run FN 18) (.comp false [1] (.call 3 [(.v 1)]) (.n 1) (.v 0) (.lit (.bool true))) [some (.d (.tuple ds)), none] [] = .ok (.d (.list (ds.map fun _ => .bool true))) [.fz (ds.map fun _ => .bool true)] := by
    have := comp_map (cal := run FN 18) (own := [1]) (elt := .call 3 [(.v 1)]) (it := .v 0) (tg := .n 1) (ρ := [some (.d (.tuple ds)), none]) (g := []) (d := .tuple ds) (ds := ds) (fun _ => .bool true) (by simp [ev, M.opt]) rfl (by have := b.n3; omega) fun x hx a => by
      refine ⟨[some (.d (.tuple ds)), some (.d x)], by simp [put, wipe], ?_⟩
      simp [ev, evs, M.bnd, M.ret, M.opt, (b.k x hx).t3 [.lst a] rfl]
    simpa using this
  have c2 : ∀ z, ev (run FN 18) (.comp false [1] (.call 4 [(.v 1)]) (.n 1) (.v 0) (.lit (.bool true))) [some (.d (.tuple ds)), none] [.fz z] = .ok (.d (.list (ds.map fun d => .str (tx d)))) [.fz z, .fz (ds.map fun d => .str (tx d))] := fun z => by
    have := comp_map (cal := run FN 18) (own := [1]) (elt := .call 4 [(.v 1)]) (it := .v 0) (tg := .n 1) (ρ := [some (.d (.tuple ds)), none]) (g := [.fz z]) (d := .tuple ds) (ds := ds) (fun d => .str (tx d)) (by simp [ev, M.opt]) rfl (by have := b.n3; omega) fun x hx a => by
      refine ⟨[some (.d (.tuple ds)), some (.d x)], by simp [put, wipe], ?_⟩
      simp [ev, evs, M.bnd, M.ret, M.opt, (b.k x hx).t4 [.fz z, .lst a] rfl]
    simpa using this
  have e1 : bifD .all [.list (ds.map fun _ => PyData.bool true)] = some (.v (.bool true)) := by
    have : ∀ l : List D, allBools (l.map fun _ => PyData.bool true) = some (l.map fun _ => true) := fun l => by
      induction l with
      | nil => rfl
      | cons d l ih => simp [allBools, ih]
    unfold bifD
    simp [this]
  have e2 := join_part b
  have n1 : (1 : Int) ≤ (ds.length : Nat) := by have := b.n1; omega
  have n3 : ((ds.length : Nat) : Int) ≤ 3 := by have := b.n3; omega
  unfold B_deeds_text_15
  generalize E.comp false [1] (.call 3 [(.v 1)]) (.n 1) (.v 0) (.lit (.bool true)) = C1 at c1 ⊢
  generalize E.comp false [1] (.call 4 [(.v 1)]) (.n 1) (.v 0) (.lit (.bool true)) = C2 at c2 ⊢
  have sepv : (PyData.str (PySem.Str.ofString ", ")) = .str Sep := by rw [sep_eq]
  have body : sts (run FN 18) [
    .ife (.or (.not (.isi .tuple (.v 0))) (.not (.chn .LtE .LtE (.lit (.int 1)) (.bif false .len [(.v 0)]) (.gl 6 (.int 3))))) [.never] [],
    .ife (.not (.bif false .all [C1])) [.never] [],
    .ret (.mth false .join (.gl 7 (.str (PySem.Str.ofString ", "))) [C2])] [some (.d (.tuple ds)), none] [] = .rt (.d (.str (beatT ds tx))) [.fz (ds.map fun _ => .bool true), .fz (ds.map fun d => .str (tx d))] := by
    simp [sts, st, ev, evs, M.bnd, M.ret, M.opt, ofOut, dats, dat, c1, c2, e1, bifD_len, lenD, lay, isiD, cmpD, boolOf, n1, n3, strOf, sep_eq, e2]
  rw [enter_rt (by rfl) body]
  rfl
end Cy


set_option Elab.async false
set_option linter.all false
set_option maxRecDepth 100000
set_option maxHeartbeats 4000000
namespace Cy
open PySem
theorem shaped_list {ds : List D} (h : ∀ d ∈ ds, Shows d) : SeqAt.shaped (.list ds) = true := by
  have h1 : ∀ l : List D, (∀ d ∈ l, Shows d) → PyData.canLayAll0 l = true ∧ PyData.depthAll l ≤ 3 := fun l => by
    induction l with
    | nil => intro _; exact ⟨rfl, by simp [PyData.depthAll]⟩
    | cons d l ih =>
      intro hh
      obtain ⟨q1, q2⟩ := ih fun e he => hh e (List.mem_cons_of_mem _ he)
      have s := hh d (by simp)
      have := s.p
      refine ⟨by simp [PyData.canLayAll0, s.c, q1], ?_⟩
      simp [PyData.depthAll]
      omega
  obtain ⟨a, b⟩ := h1 ds h
  unfold SeqAt.shaped
  simp [PyData.canLay0, a, PyData.depth]
  omega
theorem none_in {ds : List D} (h : ∀ d ∈ ds, Shows d) : inD .none ds = some false := by
  unfold inD
  rw [shaped_list h, show SeqAt.shaped .none = true from rfl]
  simp only [Bool.and_self, if_true]
  congr 1
  rw [List.any_eq_false]
  intro d hd
  rw [(h d hd).e]
  exact Bool.false_ne_true
theorem beat_split {ds : List D} {tx : D → Str} (b : Beat ds tx) : Txt.split (beatT ds tx) Sep = ds.map tx := by
  have e : beatT ds tx = PySem.Str.join Sep (ds.map tx) := StrLaws.glued_eq_join Sep (ds.map tx)
  rw [e]
  refine split_join (fun z => ?_) fun t ht => ?_
  · have := b.n1
    have h2 := congrArg List.length z
    simp at h2
    subst h2
    exact absurd this (by simp)
  · obtain ⟨d, hd, rfl⟩ := List.mem_map.mp ht
    exact (b.k d hd).nc
theorem beat_len {ds : List D} {tx : D → Str} (b : Beat ds tx) : (beatT ds tx).length ≤ 126 := by
  have e : beatT ds tx = PySem.Str.join Sep (ds.map tx) := StrLaws.glued_eq_join Sep (ds.map tx)
  rw [e]
  exact Nat.le_trans (StrLaws.join_length_le _ _) (join_fits b)
theorem read_ok {ds : List D} {tx : D → Str} (b : Beat ds tx) (g : Hs) (hg : below g.length g = true) : run FN 19 16 [.d (.str (beatT ds tx))] g = .ok (.d (.tuple ds)) g := by
  refine frame (ds := [.str (beatT ds tx)]) (g := g) (hg := hg) (k := 19) (f := 16) (x := .tuple ds) ?_
  show run FN 19 16 [.d (.str (beatT ds tx))] [] = _
  rw [run_at FN_16]
  have hl := beat_len b
  have hz : lim = 16777216 := rfl
  have e0 : mtD .split (beatT ds tx) [.str Sep] = some (.nl (ds.map fun d => .str (tx d))) := by
    unfold mtD
    simp only
    rw [if_pos ⟨by decide, by omega⟩, beat_split b, List.map_map]
    rfl
  have n3 := b.n3
  have nn : (ds.map fun d => PyData.str (tx d)).length ≤ lim := by simp; omega
  have it : ev (run FN 18) (.mth false .split (.v 0) [(.gl 7 (.str (PySem.Str.ofString ", ")))]) [some (.d (.str (beatT ds tx))), none, none] [] = .ok (.d (.list (ds.map fun d => .str (tx d)))) [] := by
    simp [ev, evs, M.bnd, M.ret, M.opt, strOf, dats, dat, sep_eq, e0, lay]
    omega
  have c1 : ev (run FN 18) (.comp false [2] (.call 7 [(.v 2)]) (.n 2) (.mth false .split (.v 0) [(.gl 7 (.str (PySem.Str.ofString ", ")))]) (.lit (.bool true))) [some (.d (.str (beatT ds tx))), none, none] [] = .ok (.d (.list ds)) [.fz ds] := by
    classical
    -- the reading of a text of these
    let φ : D → D := fun x => if h : ∃ d ∈ ds, x = .str (tx d) then h.choose else .none
    have hφ : ∀ d ∈ ds, φ (.str (tx d)) = d := fun d hd => by
      have h : ∃ e ∈ ds, PyData.str (tx d) = .str (tx e) := ⟨d, hd, rfl⟩
      show (if h : ∃ e ∈ ds, PyData.str (tx d) = .str (tx e) then h.choose else .none) = d
      rw [dif_pos h]
      have q := h.choose_spec
      have e1 := (b.k _ q.1).t7 [] rfl
      have e2 := (b.k d hd).t7 [] rfl
      have e3 : tx h.choose = tx d := by
        have := q.2
        injection this with this
        exact this.symm
      rw [e3, e2] at e1
      injection e1 with e1 _
      injection e1 with e1
      exact e1.symm
    have := comp_map (cal := run FN 18) (own := [2]) (elt := .call 7 [(.v 2)]) (tg := .n 2) (ρ := [some (.d (.str (beatT ds tx))), none, none]) (g := []) (ds := ds.map fun d => .str (tx d)) φ it rfl (by simp; omega) fun x hx a => by
      obtain ⟨d, hd, rfl⟩ := List.mem_map.mp hx
      refine ⟨[some (.d (.str (beatT ds tx))), none, some (.d (.str (tx d)))], by simp [put, wipe], ?_⟩
      simp only [hφ d hd]
      simp [ev, evs, M.bnd, M.ret, M.opt, (b.k d hd).t7 [.lst a] rfl]
    have em : (ds.map fun d => PyData.str (tx d)).map φ = ds := by
      rw [List.map_map]
      have : ds.map (φ ∘ fun d => PyData.str (tx d)) = ds.map id := List.map_congr_left fun d hd => hφ d hd
      rw [this, List.map_id]
    rw [em] at this
    simpa using this
  have e2 := none_in fun d hd => (b.k d hd).sh
  have e3 : cmpD .In .none (.tuple ds) = some false := e2
  have n4 : ¬ (3 : Int) < (ds.length : Nat) := by omega
  have e4 : cmpD .Gt (.int (ds.length : Nat)) (.int 3) = some false := by simp [cmpD, n4]
  unfold B_read_deeds_16
  generalize E.comp false [2] (.call 7 [(.v 2)]) (.n 2) (.mth false .split (.v 0) [(.gl 7 (.str (PySem.Str.ofString ", ")))]) (.lit (.bool true)) = C1 at c1 ⊢
  have body : sts (run FN 18) [
    .ife (.not (.isi .str (.v 0))) [.never] [],
    .asg (.n 1) (.bif false .tuple [C1]),
    .ife (.or (.cmp .Gt (.bif false .len [(.v 1)]) (.gl 6 (.int 3))) (.cmp .In (.lit .none) (.v 1))) [.never] [],
    .ret (.v 1)] [some (.d (.str (beatT ds tx))), none, none] [] = .rt (.d (.tuple ds)) [.fz ds] := by
    simp [sts, st, ev, evs, M.bnd, M.ret, M.opt, ofOut, dats, dat, c1, bifD, lenD, lay, isiD, e3, e4, put, boolOf]
  rw [enter_rt (by rfl) body]
  rfl
end Cy


set_option Elab.async false
set_option linter.all false
set_option maxRecDepth 100000
set_option maxHeartbeats 4000000
namespace Cy
open PySem
theorem cell_ok (k : Nat) (ns : List Int) (i : Nat) (h : Hs) (hb : below h.length h = true) : ∃ g, run FN (k + 1) 10 [.d (.list (ns.map .int)), .d (.int i)] h = .ok (.d (.int g)) h := by
  rw [run_at FN_10]
  by_cases hi : i < ns.length
  · refine ⟨ns[i], ?_⟩
    have e : ixD (.list (ns.map PyData.int)) (.int (i : Int)) = some (.int ns[i]) := by
      unfold ixD atX
      simp [hi]
    simp [enter, B_law_cell_at_10, sts, st, ev, evs, M.bnd, M.ret, M.opt, ofOut, dats, dat, pur, bifD, lenD, lay, cmpD, boolOf, hi, e, leave, hb]
  · refine ⟨0, ?_⟩
    simp [enter, B_law_cell_at_10, sts, st, ev, evs, M.bnd, M.ret, M.opt, ofOut, dats, dat, pur, bifD, lenD, lay, cmpD, boolOf, hi, leave, hb]
/-- the state of the law's own numbers -/
def Good (xs : List D) : Prop := ∃ a b c : Int, xs = [.int a, .int b, .int c] ∧ 0 ≤ b ∧ b < 2147483647
theorem state_ok (k : Nat) (ns : List Int) (i : Nat) (h : Hs) (hb : below h.length h = true) : ∃ xs, Good xs ∧ run FN (k + 2) 11 [.d (.list (ns.map .int)), .d (.int i)] h = .ok (.ref h.length) (h ++ [.lst xs]) := by
  obtain ⟨g, e⟩ := cell_ok k ns i h hb
  rw [run_at FN_11]
  refine ⟨_, ⟨if 0 < g - 1000000000000000000 then g - 1000000000000000000 else 0, g % 2147483647, 0, rfl, by omega, by omega⟩, ?_⟩
  simp [enter, B_law_state_11, sts, st, ev, evs, M.bnd, M.ret, M.opt, ofOut, dats, dat, pur, bifD, binD, lay, leave, put, e, purAll, lim]
theorem take_ok (k : Nat) (a b c far : Int) (n : Nat) (h : Hs) (hb0 : 0 ≤ b) (hb1 : b < 2147483647) (f0 : 0 < far) (f1 : far < 1000) (hn : h[n]? = some (.lst [.int a, .int b, .int c])) (hb : ∀ c, below h.length (h.set n (.lst c)) = true) :
    ∃ v xs, Good xs ∧ 0 ≤ v ∧ v < far ∧ run FN (k + 1) 12 [.ref n, .d (.int far)] h = .ok (.d (.int v)) (h.set n (.lst xs)) := by
  rw [run_at FN_12]
  have hl : n < h.length := by
    rcases Nat.lt_or_ge n h.length with z | z
    · exact z
    · rw [List.getElem?_eq_none z] at hn; cases hn
  have hn2 : h[n] = .lst [.int a, .int b, .int c] := by
    rw [List.getElem?_eq_getElem hl] at hn
    exact Option.some.inj hn
  have ht : ∀ c, List.take h.length (h.set n c) = h.set n c := fun c => List.take_of_length_le (by simp)
  by_cases ha : 0 < a
  · refine ⟨a % far, _, ⟨a / far, b, c, rfl, hb0, hb1⟩, Int.emod_nonneg _ (by omega), Int.emod_lt_of_pos _ f0, ?_⟩
    have f2 : far < 1073741824 := by omega
    simp [enter, B_law_take_12, sts, st, ev, evs, M.bnd, M.ret, M.opt, ofOut, dats, dat, pur, bifD, binD, lay, leave, put, purAll, lim, hget, hn2, cmpD, boolOf, ixD, atX, ha, f0, f2, hb, hl, ht]
  · obtain ⟨b', eb⟩ : ∃ b', b' = (b * 48271 + 29 + (c + 1)) % 2147483647 := ⟨_, rfl⟩
    have b0 : 0 ≤ b' := by omega
    have b1 : b' < 2147483647 := by omega
    obtain ⟨s1, e1⟩ : ∃ s1, s1 = (b' * b' + 39373 * b' + 7) % 2147483629 := ⟨_, rfl⟩
    have s10 : 0 ≤ s1 := by omega
    have s11 : s1 < 2147483629 := by omega
    obtain ⟨s2, e2⟩ : ∃ s2, s2 = (s1 * s1 + 16807 * s1) % 2147483587 := ⟨_, rfl⟩
    have m1 : mulOk b 48271 = true := by unfold mulOk big; simp <;> omega
    have m2 : mulOk b' b' = true := by unfold mulOk big; simp <;> omega
    have m3 : mulOk 39373 b' = true := by unfold mulOk big; simp
    have m4 : mulOk s1 s1 = true := by unfold mulOk big; simp <;> omega
    have m5 : mulOk 16807 s1 = true := by unfold mulOk big; simp
    refine ⟨s2 / 8 % far, _, ⟨a, b', c + 1, rfl, b0, b1⟩, Int.emod_nonneg _ (by omega), Int.emod_lt_of_pos _ f0, ?_⟩
    simp [enter, B_law_take_12, sts, st, ev, evs, M.bnd, M.ret, M.opt, ofOut, dats, dat, pur, bifD, binD, lay, leave, put, purAll, lim, hget, hn2, cmpD, boolOf, ixD, atX, ha, f0, hb, hl, ht, m1, ← eb, m2, m3, ← e1, m4, m5, ← e2]

theorem two_go {v : Int} (h0 : 0 ≤ v) (h1 : v < 100) : two (PySem.Str.ofString "go") v ∈ deeds := by
  refine List.mem_append_left _ (List.mem_append_right _ (List.mem_map.mpr ⟨v.toNat, List.mem_range.mpr (by omega), ?_⟩))
  rw [Int.toNat_of_nonneg h0]
theorem two_hand {v : Int} (h0 : 0 ≤ v) (h1 : v < 100) : two (PySem.Str.ofString "hand") v ∈ deeds := by
  refine List.mem_append_right _ (List.mem_map.mpr ⟨v.toNat, List.mem_range.mpr (by omega), ?_⟩)
  rw [Int.toNat_of_nonneg h0]
theorem deed_ok (k : Nat) (xs : List D) (n : Nat) (h : Hs) (g : Good xs) (hn : h[n]? = some (.lst xs)) (hb : ∀ c, below h.length (h.set n (.lst c)) = true) :
    ∃ d ys, d ∈ deeds ∧ Good ys ∧ run FN (k + 2) 13 [.ref n] h = .ok (.d d) (h.set n (.lst ys)) := by
  have hl : n < h.length := by
    rcases Nat.lt_or_ge n h.length with z | z
    · exact z
    · rw [List.getElem?_eq_none z] at hn; cases hn
  obtain ⟨a, b, c, rfl, b0, b1⟩ := g
  obtain ⟨v1, xs1, ⟨a1, b1', c1, rfl, g1, g1'⟩, p1, q1, e1⟩ := take_ok k a b c 100 n h b0 b1 (by decide) (by decide) hn hb
  obtain ⟨v2, xs2, ⟨a2, b2', c2, rfl, g2, g2'⟩, p2, q2, e2⟩ := take_ok k a1 b1' c1 100 n (h.set n (.lst [.int a1, .int b1', .int c1])) g1 g1' (by decide) (by decide) (by simp [hl]) (by simpa using hb)
  obtain ⟨v3, xs3, ⟨a3, b3', c3, rfl, g3, g3'⟩, p3, q3, e3⟩ := take_ok k a2 b2' c2 6 n ((h.set n (.lst [.int a1, .int b1', .int c1])).set n (.lst [.int a2, .int b2', .int c2])) g2 g2' (by decide) (by decide) (by simp [hl]) (by simpa using hb)
  simp only [List.set_set] at e2 e3
  have ht : ∀ c, List.take h.length (h.set n c) = h.set n c := fun c => List.take_of_length_le (by simp)
  have hv : v3 = 0 ∨ v3 = 1 ∨ v3 = 2 ∨ v3 = 3 ∨ v3 = 4 ∨ v3 = 5 := by omega
  have fin : ∀ d, [one (PySem.Str.ofString "bide"), one (PySem.Str.ofString "fill"), one (PySem.Str.ofString "lift"), one (PySem.Str.ofString "set"), two (PySem.Str.ofString "go") v1, two (PySem.Str.ofString "hand") v2][v3.toNat]? = some d →
      run FN (k + 2) 13 [.ref n] h = .ok (.d d) (h.set n (.lst [.int a3, .int b3', .int c3])) := fun d hd => by
    have e : ixD (.list [one (PySem.Str.ofString "bide"), one (PySem.Str.ofString "fill"), one (PySem.Str.ofString "lift"), one (PySem.Str.ofString "set"), two (PySem.Str.ofString "go") v1, two (PySem.Str.ofString "hand") v2]) (.int v3) = some d := by
      unfold ixD atX
      dsimp only
      rw [if_pos p3]
      exact hd
    unfold one two at e
    rw [run_at FN_13]
    simp [enter, B_law_deed_13, sts, st, ev, evs, M.bnd, M.ret, M.opt, ofOut, dats, dat, pur, lay, leave, put, purAll, lim, e1, e2, e3, e, hb, ht]
  rcases hv with rfl | rfl | rfl | rfl | rfl | rfl
  · exact ⟨_, _, by simp [deeds], ⟨a3, b3', c3, rfl, g3, g3'⟩, fin _ rfl⟩
  · exact ⟨_, _, by simp [deeds], ⟨a3, b3', c3, rfl, g3, g3'⟩, fin _ rfl⟩
  · exact ⟨_, _, by simp [deeds], ⟨a3, b3', c3, rfl, g3, g3'⟩, fin _ rfl⟩
  · exact ⟨_, _, by simp [deeds], ⟨a3, b3', c3, rfl, g3, g3'⟩, fin _ rfl⟩
  · exact ⟨_, _, two_go p1 q1, ⟨a3, b3', c3, rfl, g3, g3'⟩, fin _ rfl⟩
  · exact ⟨_, _, two_hand p2 q2, ⟨a3, b3', c3, rfl, g3, g3'⟩, fin _ rfl⟩

end Cy


set_option Elab.async false
set_option linter.all false
set_option maxRecDepth 100000
set_option maxHeartbeats 4000000
namespace Cy
open PySem
def turnF : Rho → M (Option D) := fun ρ' => M.nox (((ev (run FN 19) (.lit (.bool true)) ρ').bnd boolOf).bnd fun k =>
      match k with
      | true => (ev (run FN 19) (.call 13 [(.v 2)]) ρ').bnd fun y => (pur y).bnd fun dy => M.ret (some dy)
      | false => M.ret none)
theorem turns_deeds (r0 r1 r3 r4 r6 r7 r8 : Option R) : ∀ (ds xs acc : List D), Good xs → acc.length + ds.length ≤ 100 →
    ∃ ys es, Good ys ∧ es.length = ds.length ∧ (∀ e ∈ es, e ∈ deeds) ∧ turns turnF (.n 5) [r0, r1, some (.ref 0), r3, r4, none, r6, r7, r8] 1 ds [.lst xs, .lst acc] = .ok () [.lst ys, .lst (acc ++ es)]
  | [], xs, acc, g, _ => ⟨xs, [], g, rfl, by simp, by simp [turns, M.ret]⟩
  | x :: ds, xs, acc, g, hl => by
    obtain ⟨d, ys, hd, gy, e⟩ := deed_ok 17 xs 0 [.lst xs, .lst acc] g rfl (fun c => rfl)
    have e : run FN 19 13 [.ref 0] [.lst xs, .lst acc] = .ok (.d d) [.lst ys, .lst acc] := e
    have hz : acc.length < lim := by
      have : lim = 16777216 := rfl
      simp only [List.length_cons] at hl
      omega
    obtain ⟨us, es, gu, hle, hes, e3⟩ := turns_deeds r0 r1 r3 r4 r6 r7 r8 ds ys (acc ++ [d]) gy (by simp at hl ⊢; omega)
    refine ⟨us, d :: es, gu, by simp [hle], fun z hz => ?_, ?_⟩
    · rcases List.mem_cons.mp hz with rfl | hz
      · exact hd
      · exact hes z hz
    have ef : turnF [r0, r1, some (.ref 0), r3, r4, some (.d x), r6, r7, r8] [.lst xs, .lst acc] = .ok (some d) [.lst ys, .lst acc] := by
      simp [turnF, M.nox, ev, evs, M.bnd, M.ret, M.opt, boolOf, pur, e]
    unfold turns
    simp [put, M.opt, M.bnd, ef, appR, appC, hget, hz, e3]
abbrev C5 : E := .comp false [5] (.call 13 [(.v 2)]) (.n 5) (.rng [(.bin false .Add (.lit (.int 1)) (.call 12 [(.v 2), (.lit (.int 3))]))]) (.lit (.bool true))
abbrev C8 : E := .comp false [8] (.call 0 [(.v 8)]) (.n 8) (.v 4) (.lit (.bool true))
theorem draw_ok (r0 r1 r3 r4 r5 r6 r7 r8 : Option R) (xs : List D) (g : Good xs) : ∃ ys ds, Good ys ∧ 1 ≤ ds.length ∧ ds.length ≤ 3 ∧ (∀ e ∈ ds, e ∈ deeds) ∧
    ev (run FN 19) C5 [r0, r1, some (.ref 0), r3, r4, r5, r6, r7, r8] [.lst xs] = .ok (.d (.list ds)) [.lst ys, .fz ds] := by
  obtain ⟨a, b, c, rfl, b0, b1⟩ := g
  obtain ⟨v, zs, gz, p, q, e⟩ := take_ok 18 a b c 3 0 [.lst [.int a, .int b, .int c]] b0 b1 (by decide) (by decide) rfl fun c => rfl
  have e : run FN 19 12 [.ref 0, .d (.int 3)] [.lst [.int a, .int b, .int c]] = .ok (.d (.int v)) [.lst zs] := e
  have hr : (rangeD 0 (1 + v).toNat).length = (1 + v).toNat := by
    have : ∀ (n : Nat) (i : Int), (rangeD i n).length = n := fun n => by
      induction n with
      | zero => intro i; rfl
      | succ n ih => intro i; simp [rangeD, ih]
    exact this _ _
  obtain ⟨us, es, gu, hle, hes, e3⟩ := turns_deeds r0 r1 r3 r4 r6 r7 r8 (rangeD 0 (1 + v).toNat) zs [] gz (by rw [hr]; simp; omega)
  refine ⟨us, es, gu, by rw [hle, hr]; omega, by rw [hle, hr]; omega, hes, ?_⟩
  have er : ev (run FN 19) (.rng [(.bin false .Add (.lit (.int 1)) (.call 12 [(.v 2), (.lit (.int 3))]))]) [r0, r1, some (.ref 0), r3, r4, r5, r6, r7, r8] [.lst [.int a, .int b, .int c]] = .ok (.d (.list (rangeD 0 (1 + v).toNat))) [.lst zs] := by
    have hs : small (1 + v) = true := by
      unfold small
      simp only [Bool.and_eq_true, decide_eq_true_eq]
      omega
    simp [ev, evs, M.bnd, M.ret, M.opt, e, dat, binD, lay, purAll, rngD, hs]
  unfold C5 ev
  refine (bnd_ok er).trans ?_
  refine (bnd_ok (h1 := [.lst zs]) (a := PyData.list (rangeD 0 (1 + v).toNat)) rfl).trans ?_
  refine (bnd_ok (h1 := [.lst zs]) (a := rangeD 0 (1 + v).toNat) rfl).trans ?_
  unfold compM
  refine (bnd_ok (h1 := [.lst us, .lst es]) (a := ()) e3).trans ?_
  rfl
theorem ne_self {d : D} (h : SeqAt.shaped d = true) : cmpD .NotEq d d = some false := by
  show (eqD d d).map (!·) = _
  unfold eqD
  rw [h]
  simp [SeqAt.eqv_refl d (SeqAt.canLay_of_shaped h)]
theorem str_eq {z : Str} (h : PyData.strOk z = true) : cmpD .NotEq (.str z) (.str z) = some false :=
  ne_self (by simp [SeqAt.shaped, PyData.canLay0, PyData.depth, h])
theorem strs_eq {z : Str} (h : PyData.strOk z = true) : cmpD .NotEq (.list [.str z, .str z]) (.list [.str z, .str z]) = some false :=
  ne_self (by simp [SeqAt.shaped, PyData.canLay0, PyData.canLayAll0, PyData.depth, PyData.depthAll, h])
theorem lay_tuple {ds : List D} (h : ∀ d ∈ ds, Shows d) : (PyData.tuple ds).canLay0 = true := by
  have := SeqAt.canLay_of_shaped (shaped_list h)
  simpa [PyData.canLay0] using this
theorem repr_beat {ds : List D} {tx : D → Str} (b : Beat ds tx) : ∃ z, reprD (.tuple ds) = some (.str z) := by
  have hk := b.k
  have n1 := b.n1
  have n3 := b.n3
  match ds, hk, n1, n3 with
  | [a], hk, _, _ => exact repr1 (hk a (by simp)).sh
  | [a, c], hk, _, _ => exact repr2 (hk a (by simp)).sh (hk c (by simp)).sh
  | [a, c, d], hk, _, _ => exact repr3 (hk a (by simp)).sh (hk c (by simp)).sh (hk d (by simp)).sh
  | _ :: _ :: _ :: _ :: _, _, _, h => simp at h
theorem beat_lo {ds : List D} {tx : D → Str} (b : Beat ds tx) : ∀ c ∈ (beatT ds tx).cps.toList, c < 128 := by
  have e : beatT ds tx = PySem.Str.join Sep (ds.map tx) := StrLaws.glued_eq_join Sep (ds.map tx)
  rw [e, join_codes]
  have : ∀ l : List (List Nat), (∀ t ∈ l, ∀ c ∈ t, c < 128) → ∀ c ∈ glue l, c < 128 := fun l => by
    induction l with
    | nil => intro _ c hc; simp [glue] at hc
    | cons t l ih =>
      intro h c hc
      cases l with
      | nil => exact h t (by simp) c (by simpa [glue] using hc)
      | cons u r =>
        simp only [glue, List.mem_append, List.mem_cons] at hc
        rcases hc with hc | rfl | rfl | hc
        · exact h t (by simp) c hc
        · decide
        · decide
        · exact ih (fun t ht => h t (List.mem_cons_of_mem _ ht)) c hc
  refine this _ fun t ht => ?_
  rw [List.mem_map] at ht
  obtain ⟨s, hs, rfl⟩ := ht
  obtain ⟨d, hd, rfl⟩ := List.mem_map.mp hs
  exact (b.k d hd).lo
theorem lay_texts {ds : List D} {tx : D → Str} (b : Beat ds tx) : (PyData.list [.str (beatT ds tx), .str (beatT ds tx)]).canLay0 = true := by
  have : SOk (beatT ds tx) := fun c hc => Nat.lt_of_lt_of_le (beat_lo b c hc) (by decide)
  simp [PyData.canLay0, PyData.canLayAll0, this.strOk]
theorem repr_texts {ds : List D} {tx : D → Str} (b : Beat ds tx) : ∃ z, reprD (.list [.str (beatT ds tx), .str (beatT ds tx)]) = some (.str z) :=
  repr_uu (Nat.le_trans (beat_len b) (by decide)) (beat_lo b)
end Cy


set_option Elab.async false
set_option linter.all false
set_option maxRecDepth 100000
set_option maxHeartbeats 4000000
namespace Cy
open PySem
def bodyA : List S := [.asg (.n 4) (.bif false .tuple [C5]),
  .par [6, 7] [(.mth false .join (.lit (.str (PySem.Str.ofString ", "))) [C8]), (.bif false .repr [(.v 4)])]]
def bodyB : List S := [
  .ife (.or (.cmp .NotEq (.bif false .repr [(.lst false [(.call 15 [(.v 4)]), (.call 15 [(.v 4)])])]) (.bif false .repr [(.lst false [(.v 6), (.v 6)])])) (.cmp .NotEq (.bif false .repr [(.v 4)]) (.v 7))) [.ret (.lit (.bool false))] [],
  .ife (.cmp .NotEq (.lst false [(.bif false .repr [(.call 16 [(.v 6)])]), (.bif false .repr [(.call 16 [(.v 6)])])]) (.lst false [(.v 7), (.v 7)])) [.ret (.lit (.bool false))] []]
theorem partA (r0 r1 r3 r4 r5 r6 r7 r8 : Option R) (xs : List D) (g : Good xs) : ∃ ys ds tx z zs, Good ys ∧ Beat ds tx ∧ reprD (.tuple ds) = some (.str z) ∧
    sts (run FN 19) bodyA [r0, r1, some (.ref 0), r3, r4, r5, r6, r7, r8] [.lst xs] = .nx [r0, r1, some (.ref 0), r3, some (.d (.tuple ds)), r5, some (.d (.str (beatT ds tx))), some (.d (.str z)), r8] [.lst ys, .fz ds, .fz zs] := by
  obtain ⟨ys, ds, gy, n1, n3, hd, e⟩ := draw_ok r0 r1 r3 r4 r5 r6 r7 r8 xs g
  obtain ⟨tx, b⟩ := beat_of hd n1 n3
  obtain ⟨z, ez⟩ := repr_beat b
  refine ⟨ys, ds, tx, z, ds.map fun d => .str (tx d), gy, b, ez, ?_⟩
  have e8 : ev (run FN 19) C8 [r0, r1, some (.ref 0), r3, some (.d (.tuple ds)), r5, r6, r7, r8] [.lst ys, .fz ds] = .ok (.d (.list (ds.map fun d => .str (tx d)))) [.lst ys, .fz ds, .fz (ds.map fun d => .str (tx d))] := by
    have := comp_map (cal := run FN 19) (own := [8]) (elt := .call 0 [(.v 8)]) (it := .v 4) (tg := .n 8) (ρ := [r0, r1, some (.ref 0), r3, some (.d (.tuple ds)), r5, r6, r7, r8]) (g := [.lst ys, .fz ds]) (d := .tuple ds) (ds := ds) (fun d => .str (tx d)) (by simp [ev, M.opt]) rfl (by omega) fun x hx a => by
      refine ⟨[r0, r1, some (.ref 0), r3, some (.d (.tuple ds)), r5, r6, r7, some (.d x)], by simp [put, wipe], ?_⟩
      simp [ev, evs, M.bnd, M.ret, M.opt, (b.k x hx).t0 [.lst ys, .fz ds, .lst a] rfl]
    simpa using this
  have ej := join_part b
  unfold bodyA
  generalize C5 = C5 at e ⊢
  generalize C8 = C8 at e8 ⊢
  have et : bifD .tuple [.list ds] = some (.v (.tuple ds)) := rfl
  have er : bifD .repr [.tuple ds] = some (.v (.str z)) := by
    show (reprD (.tuple ds)).map Re.v = _
    rw [ez]
    rfl
  simp [sts, st, ofOut, ev, evs, M.bnd, M.ret, M.opt, e, put, putR, e8, dats, dat, et, er, lay, strOf, sep_eq, ej]
theorem partB (r0 r1 r2 r3 r5 r8 : Option R) {ds : List D} {tx : D → Str} {z : Str} (b : Beat ds tx) (ez : reprD (.tuple ds) = some (.str z)) (g : Hs) (hg : below g.length g = true) :
    sts (run FN 19) bodyB [r0, r1, r2, r3, some (.d (.tuple ds)), r5, some (.d (.str (beatT ds tx))), some (.d (.str z)), r8] g = .nx [r0, r1, r2, r3, some (.d (.tuple ds)), r5, some (.d (.str (beatT ds tx))), some (.d (.str z)), r8] g := by
  have e15 := text_ok b g hg
  have e16 := read_ok b g hg
  obtain ⟨u, eu⟩ := repr_texts b
  have er : bifD .repr [.tuple ds] = some (.v (.str z)) := by
    show (reprD (.tuple ds)).map Re.v = _
    rw [ez]
    rfl
  have er2 : bifD .repr [.list [.str (beatT ds tx), .str (beatT ds tx)]] = some (.v (.str u)) := by
    show (reprD _).map Re.v = _
    rw [eu]
    rfl
  have hz : 2 ≤ lim := by decide
  have lz := repr_ok ez (lay_tuple fun d hd => (b.k d hd).sh)
  have q1 := str_eq lz
  have q2 := strs_eq lz
  have q3 := str_eq (repr_ok eu (lay_texts b))
  unfold bodyB
  simp [sts, st, ofOut, ev, evs, M.bnd, M.ret, M.opt, e15, e16, dats, dat, er, er2, lay, purAll, hz, q1, q2, q3, boolOf]
end Cy


set_option Elab.async false
set_option linter.all false
set_option maxRecDepth 100000
set_option maxHeartbeats 4000000
namespace Cy
open PySem
theorem sts_app (cal : Cal) : ∀ (a b : List S) (ρ : Rho) (h : Hs), sts cal (a ++ b) ρ h = match sts cal a ρ h with
    | .nx ρ1 h1 => sts cal b ρ1 h1
    | o => o
  | [], b, ρ, h => by simp [sts]
  | s :: a, b, ρ, h => by
    have ih := sts_app cal a b
    simp only [List.cons_append, sts]
    cases e : st cal s ρ h with
    | nx ρ1 h1 => simp [ih]
    | _ => rfl
/-- a name's value is data, or there is none -/
def dd (o : Option R) : Bool := match o with
  | some (.ref _) => false
  | _ => true
theorem dd_cases {o : Option R} (h : dd o = true) : o = none ∨ ∃ x, o = some (.d x) := by
  cases o with
  | none => exact .inl rfl
  | some r => cases r with
    | d x => exact .inr ⟨x, rfl⟩
    | ref _ => cases h
theorem inner_ok (L : D) (k t : Int) (r4 r6 r7 : Option R) (xs : List D) (g : Good xs) : ∃ ys q4 q6 q7 h', Good ys ∧ dd q4 = true ∧ dd q6 = true ∧ dd q7 = true ∧
    sts (run FN 19) (bodyA ++ bodyB) [some (.d L), some (.d (.int k)), some (.ref 0), some (.d (.int t)), r4, none, r6, r7, none] [.lst xs] =
      .nx [some (.d L), some (.d (.int k)), some (.ref 0), some (.d (.int t)), q4, none, q6, q7, none] (.lst ys :: h') := by
  obtain ⟨ys, ds, tx, z, zs, gy, b, ez, e⟩ := partA (some (.d L)) (some (.d (.int k))) (some (.d (.int t))) r4 none r6 r7 none xs g
  have e2 := partB (some (.d L)) (some (.d (.int k))) (some (.ref 0)) (some (.d (.int t))) none none b ez [.lst ys, .fz ds, .fz zs] rfl
  refine ⟨ys, some (.d (.tuple ds)), some (.d (.str (beatT ds tx))), some (.d (.str z)), [.fz ds, .fz zs], gy, rfl, rfl, rfl, ?_⟩
  rw [sts_app, e]
  exact e2
theorem trim_in (L : D) (k t : Int) (q4 q6 q7 : Option R) (c : Cell) (h' : Hs) (h4 : dd q4 = true) (h6 : dd q6 = true) (h7 : dd q7 = true) (hc : c.below 1 = true) :
    trim 1 [some (.d L), some (.d (.int k)), some (.ref 0), some (.d (.int t)), q4, none, q6, q7, none] (c :: h') = [c] := by
  unfold trim
  rw [if_pos]
  · rfl
  · rw [Bool.and_eq_true]
    refine ⟨?_, by simp [below, hc]⟩
    rcases dd_cases h4 with rfl | ⟨x4, rfl⟩ <;> rcases dd_cases h6 with rfl | ⟨x6, rfl⟩ <;> rcases dd_cases h7 with rfl | ⟨x7, rfl⟩ <;> rfl
theorem loop8 (L : D) (k : Int) : ∀ (m : Nat) (i : Int) (r3 r4 r6 r7 : Option R) (xs : List D), Good xs → dd r3 = true → dd r4 = true → dd r6 = true → dd r7 = true → ∃ ys q3 q4 q6 q7, Good ys ∧ dd q3 = true ∧ dd q4 = true ∧ dd q6 = true ∧ dd q7 = true ∧
    loopL (.n 3) (fun ρ' h' => sts (run FN 19) (bodyA ++ bodyB) ρ' h') (rangeD i m) [some (.d L), some (.d (.int k)), some (.ref 0), r3, r4, none, r6, r7, none] [.lst xs] =
      .nx [some (.d L), some (.d (.int k)), some (.ref 0), q3, q4, none, q6, q7, none] [.lst ys]
  | 0, i, r3, r4, r6, r7, xs, g, h3, h4, h6, h7 => ⟨xs, r3, r4, r6, r7, g, h3, h4, h6, h7, by simp [rangeD, loopL]⟩
  | m + 1, i, r3, r4, r6, r7, xs, g, h3, h4, h6, h7 => by
    obtain ⟨ys, q4, q6, q7, h', gy, k4, k6, k7, e⟩ := inner_ok L k i r4 r6 r7 xs g
    obtain ⟨zs, p3, p4, p6, p7, gz, l3, l4, l6, l7, e2⟩ := loop8 L k m (i + 1) (some (.d (.int i))) q4 q6 q7 ys gy rfl k4 k6 k7
    refine ⟨zs, p3, p4, p6, p7, gz, l3, l4, l6, l7, ?_⟩
    have et := trim_in L k i q4 q6 q7 (.lst ys) h' k4 k6 k7 rfl
    unfold rangeD loopL
    simp [put, e, et, e2]
def bodyO : List S := [.asg (.n 2) (.call 11 [(.v 0), (.v 1)]), .for (.n 3) (.rng [(.lit (.int 8))]) (bodyA ++ bodyB), .fgt [2]]
theorem outer_ok (ns : List Int) (i : Nat) (r3 r4 r6 r7 : Option R) (h3 : dd r3 = true) (h4 : dd r4 = true) (h6 : dd r6 = true) (h7 : dd r7 = true) : ∃ q3 q4 q6 q7 h', dd q3 = true ∧ dd q4 = true ∧ dd q6 = true ∧ dd q7 = true ∧
    sts (run FN 19) bodyO [some (.d (.list (ns.map .int))), some (.d (.int i)), none, r3, r4, none, r6, r7, none] [] = .nx [some (.d (.list (ns.map .int))), some (.d (.int i)), none, q3, q4, none, q6, q7, none] h' := by
  obtain ⟨xs, g, e⟩ := state_ok 17 ns i [] rfl
  have e : run FN 19 11 [.d (.list (ns.map .int)), .d (.int i)] [] = .ok (.ref 0) [.lst xs] := e
  obtain ⟨ys, q3, q4, q6, q7, gy, k3, k4, k6, k7, e2⟩ := loop8 (.list (ns.map .int)) i 8 0 r3 r4 r6 r7 xs g h3 h4 h6 h7
  have er : rangeD 0 8 = [.int 0, .int 1, .int 2, .int 3, .int 4, .int 5, .int 6, .int 7] := rfl
  refine ⟨q3, q4, q6, q7, [.lst ys], k3, k4, k6, k7, ?_⟩
  have hr : ev (run FN 19) (.rng [(.lit (.int 8))]) [some (.d (.list (ns.map .int))), some (.d (.int i)), some (.ref 0), r3, r4, none, r6, r7, none] [.lst xs] = .ok (.d (.list (rangeD 0 8))) [.lst xs] := by
    simp [ev, evs, M.bnd, M.ret, M.opt, purAll, rngD, small]
  generalize rangeD 0 8 = X at e2 hr
  unfold bodyO
  generalize E.rng [(.lit (.int 8))] = C at hr ⊢
  generalize bodyA ++ bodyB = B at e2 ⊢
  simp [sts, st, ofOut, ev, evs, M.bnd, M.ret, M.opt, e, put, hr, pur, seqD, e2, wipe]
theorem trim_out (L : D) (k : Int) (q3 q4 q6 q7 : Option R) (h' : Hs) (h3 : dd q3 = true) (h4 : dd q4 = true) (h6 : dd q6 = true) (h7 : dd q7 = true) :
    trim 0 [some (.d L), some (.d (.int k)), none, q3, q4, none, q6, q7, none] h' = [] := by
  unfold trim
  rw [if_pos]
  · rfl
  · rw [Bool.and_eq_true]
    refine ⟨?_, by simp [below]⟩
    rcases dd_cases h3 with rfl | ⟨x3, rfl⟩ <;> rcases dd_cases h4 with rfl | ⟨x4, rfl⟩ <;> rcases dd_cases h6 with rfl | ⟨x6, rfl⟩ <;> rcases dd_cases h7 with rfl | ⟨x7, rfl⟩ <;> rfl
theorem loopO (ns : List Int) : ∀ (m i : Nat) (r1 r3 r4 r6 r7 : Option R), dd r3 = true → dd r4 = true → dd r6 = true → dd r7 = true →
    ∃ q1 q3 q4 q6 q7, loopL (.n 1) (fun ρ' h' => sts (run FN 19) bodyO ρ' h') (rangeD (i : Nat) m) [some (.d (.list (ns.map .int))), r1, none, r3, r4, none, r6, r7, none] [] =
      .nx [some (.d (.list (ns.map .int))), q1, none, q3, q4, none, q6, q7, none] []
  | 0, i, r1, r3, r4, r6, r7, _, _, _, _ => ⟨r1, r3, r4, r6, r7, by simp [rangeD, loopL]⟩
  | m + 1, i, r1, r3, r4, r6, r7, h3, h4, h6, h7 => by
    obtain ⟨q3, q4, q6, q7, h', k3, k4, k6, k7, e⟩ := outer_ok ns i r3 r4 r6 r7 h3 h4 h6 h7
    obtain ⟨p1, p3, p4, p6, p7, e2⟩ := loopO ns m (i + 1) (some (.d (.int i))) q3 q4 q6 q7 k3 k4 k6 k7
    refine ⟨p1, p3, p4, p6, p7, ?_⟩
    have et := trim_out (.list (ns.map .int)) i q3 q4 q6 q7 h' k3 k4 k6 k7
    have ei : ((i + 1 : Nat) : Int) = (i : Int) + 1 := by omega
    rw [ei] at e2
    unfold rangeD loopL
    simp [put, e, et, e2]
theorem K51.law (ns : List Int) (hn : ns.length ≤ 63) : okT (run FN 20 17 [.d (.list (ns.map PyData.int))] []) = true := by
  rw [run_at FN_17]
  obtain ⟨m, em⟩ : ∃ m : Int, m = (if (if (6 : Int) < (ns.length : Nat) then (6 : Int) else (ns.length : Nat)) > 1 then (if (6 : Int) < (ns.length : Nat) then (6 : Int) else (ns.length : Nat)) else 1) := ⟨_, rfl⟩
  have hm : small m = true := by
    unfold small
    simp only [Bool.and_eq_true, decide_eq_true_eq]
    omega
  have er : ev (run FN 19) (.rng [(.bif false .max [(.lit (.int 1)), (.bif false .min [(.bif false .len [(.v 0)]), (.lit (.int 6))])])]) [some (.d (.list (ns.map .int))), none, none, none, none, none, none, none, none] [] =
      .ok (.d (.list (rangeD 0 m.toNat))) [] := by
    simp [ev, evs, M.bnd, M.ret, M.opt, dats, dat, bifD, lenD, lay, purAll, rngD, ← em, hm]
  obtain ⟨q1, q3, q4, q6, q7, el⟩ := loopO ns m.toNat 0 none none none none none rfl rfl rfl rfl
  have el : loopL (.n 1) (fun ρ' h' => sts (run FN 19) bodyO ρ' h') (rangeD 0 m.toNat) [some (.d (.list (ns.map .int))), none, none, none, none, none, none, none, none] [] = .nx [some (.d (.list (ns.map .int))), q1, none, q3, q4, none, q6, q7, none] [] := el
  have be : B_law_17.body = [.for (.n 1) (.rng [(.bif false .max [(.lit (.int 1)), (.bif false .min [(.bif false .len [(.v 0)]), (.lit (.int 6))])])]) bodyO, .ret (.lit (.bool true))] := by
    kernel_rfl
  have e1 : sts (run FN 19) B_law_17.body [some (.d (.list (ns.map .int))), none, none, none, none, none, none, none, none] [] = .rt (.d (.bool true)) [] := by
    rw [be]
    generalize E.rng [(.bif false .max [(.lit (.int 1)), (.bif false .min [(.bif false .len [(.v 0)]), (.lit (.int 6))])])] = C at er ⊢
    generalize bodyO = B at el ⊢
    simp [sts, st, ofOut, M.bnd, M.opt, M.ret, er, pur, seqD, el, ev]
  have e2 := enter_rt (fn := B_law_17) (cal := run FN 19) (args := [.d (.list (ns.map PyData.int))]) (h := []) rfl e1
  rw [e2]
  rfl
end Cy


set_option Elab.async false
set_option linter.all false
set_option maxRecDepth 100000
set_option maxHeartbeats 0
namespace Cy.K51
open PySem Cy
def ents : List Ent := [
  ⟨0, (PySem.Str.ofString "_law_text"), 28, [(PySem.Str.ofString "_law_deed_here"), (PySem.Str.ofString "_law_part")]⟩,
  ⟨1, (PySem.Str.ofString "is_whole"), 5, [(PySem.Str.ofString "thing")]⟩,
  ⟨2, (PySem.Str.ofString "is_among"), 6, [(PySem.Str.ofString "thing"), (PySem.Str.ofString "low"), (PySem.Str.ofString "high")]⟩,
  ⟨3, (PySem.Str.ofString "is_deed"), 12, [(PySem.Str.ofString "thing")]⟩,
  ⟨4, (PySem.Str.ofString "text_of"), 18, [(PySem.Str.ofString "deed"), (PySem.Str.ofString "part")]⟩,
  ⟨6, (PySem.Str.ofString "number_in"), 20, [(PySem.Str.ofString "word"), (PySem.Str.ofString "sign")]⟩,
  ⟨7, (PySem.Str.ofString "deed_in"), 21, [(PySem.Str.ofString "text"), (PySem.Str.ofString "words"), (PySem.Str.ofString "numbers"), (PySem.Str.ofString "word")]⟩,
  ⟨10, (PySem.Str.ofString "_law_cell_at"), 24, [(PySem.Str.ofString "_law_script"), (PySem.Str.ofString "_law_k")]⟩,
  ⟨11, (PySem.Str.ofString "_law_state"), 25, [(PySem.Str.ofString "_law_script"), (PySem.Str.ofString "_law_k"), (PySem.Str.ofString "_law_grain")]⟩,
  ⟨12, (PySem.Str.ofString "_law_take"), 26, [(PySem.Str.ofString "_law_state_here"), (PySem.Str.ofString "_law_far"), (PySem.Str.ofString "_law_found"), (PySem.Str.ofString "_law_stirred")]⟩,
  ⟨13, (PySem.Str.ofString "_law_deed"), 27, [(PySem.Str.ofString "_law_state_here"), (PySem.Str.ofString "_law_some")]⟩,
  ⟨15, (PySem.Str.ofString "deeds_text"), 19, [(PySem.Str.ofString "deeds"), (PySem.Str.ofString "deed")]⟩,
  ⟨16, (PySem.Str.ofString "read_deeds"), 22, [(PySem.Str.ofString "text"), (PySem.Str.ofString "found"), (PySem.Str.ofString "piece")]⟩,
  ⟨17, (PySem.Str.ofString "law"), 29, [(PySem.Str.ofString "_law_script"), (PySem.Str.ofString "_law_k"), (PySem.Str.ofString "_law_state_here"), (PySem.Str.ofString "_law_turn"), (PySem.Str.ofString "_law_deeds"), (PySem.Str.ofString "_law_carrier"), (PySem.Str.ofString "_law_text_here"), (PySem.Str.ofString "_law_kept"), (PySem.Str.ofString "_law_deed_here")]⟩]
def gs : List (Nat × Str × PyData) := [
  (0, (PySem.Str.ofString "ALONE"), (.tuple [(.str (PySem.Str.ofString "bide")), (.str (PySem.Str.ofString "fill")), (.str (PySem.Str.ofString "lift")), (.str (PySem.Str.ofString "set"))])),
  (1, (PySem.Str.ofString "MOST_NUMBER_beats"), (.int 99)),
  (2, (PySem.Str.ofString "NUMBERED"), (.tuple [(.str (PySem.Str.ofString "go")), (.str (PySem.Str.ofString "hand"))])),
  (4, (PySem.Str.ofString "FIGURES"), (.str (PySem.Str.ofString "0123456789"))),
  (5, (PySem.Str.ofString "MOST_NUMBER_texts"), (.int 99)),
  (6, (PySem.Str.ofString "MOST_CARRIERS"), (.int 3)),
  (7, (PySem.Str.ofString "BETWEEN"), (.str (PySem.Str.ofString ", ")))]
def ds : List (Nat × Str × List (PyData × PyData)) := [
  (3, (PySem.Str.ofString "WORDS"), [((.str (PySem.Str.ofString "bide")), (.int 0)), ((.str (PySem.Str.ofString "fill")), (.int 0)), ((.str (PySem.Str.ofString "go")), (.int 1)), ((.str (PySem.Str.ofString "hand")), (.int 1)), ((.str (PySem.Str.ofString "lift")), (.int 0)), ((.str (PySem.Str.ofString "set")), (.int 0))])]
def row : Row := ⟨PySem.Challenge.pw_carryyard_k51_deeds_of_beats_written.main.body, ents, gs, ds⟩
theorem chkd : (row.ents.all fun e => entB row.T FN row.body e) = true := by decide +kernel
abbrev RO : PySem.W.OpenRow := PySem.W.OpenLaw.row PySem.Challenge.rw_carryyard_k51_deeds_of_beats_written
def ob (s : PySem.W.SharedT) : He.AlT × Bool := row.obs 4 (HandSHeadRun.getT s)
theorem ob_eq (s : PySem.W.SharedT) : ob s = (row.hook 4).obs s.abs := Row.obs_eq (HandSHeadRun.getT_eq s)
def loose : List Str := [(PySem.Str.ofString "YardError"), (PySem.Str.ofString "NoDeeds"), (PySem.Str.ofString "NoText"), (PySem.Str.ofString "is_whole"), (PySem.Str.ofString "is_among"), (PySem.Str.ofString "MOST_CARRIERS"), (PySem.Str.ofString "ALONE"), (PySem.Str.ofString "NUMBERED"), (PySem.Str.ofString "MOST_NUMBER_beats"), (PySem.Str.ofString "is_deed"), (PySem.Str.ofString "BETWEEN"), (PySem.Str.ofString "FIGURES"), (PySem.Str.ofString "MOST_NUMBER_texts"), (PySem.Str.ofString "WORDS"), (PySem.Str.ofString "text_of"), (PySem.Str.ofString "deeds_text"), (PySem.Str.ofString "number_in"), (PySem.Str.ofString "deed_in"), (PySem.Str.ofString "read_deeds"), (PySem.Str.ofString "_law_cell_at"), (PySem.Str.ofString "_law_state"), (PySem.Str.ofString "_law_take"), (PySem.Str.ofString "_law_deed"), (PySem.Str.ofString "_law_text")]
theorem runs (w : World) : HandSHeadRun.RunEq RO (PySem.W.view RO.prog [29]) (row.hook 4) ob 4000 loose w :=
  PySem.W.byRow2 "special-get-raises" (P := fun w => HandSHeadRun.RunEq RO (PySem.W.view RO.prog [29]) (row.hook 4) ob 4000 loose w) (fun w => by intro os; kernel_rfl) (fun w => by intro os; kernel_rfl) w
end Cy.K51
theorem PySem.Challenge.cw_carryyard_k51_deeds_of_beats_written_holds : PySem.Challenge.rw_carryyard_k51_deeds_of_beats_written.Holds := by
  w_on; o_law
  refine HandSHeadRun.head_any (r := Cy.K51.RO) (q := PySem.W.view Cy.K51.RO.prog [29]) (H := Cy.K51.row.hook 4) (ob := Cy.K51.ob) (M := 4000) (loose := Cy.K51.loose)
    (d := HandSHeadRun.topDef Cy.K51.RO.prog 29) (kwd := []) Cy.K51.ob_eq (by kernel_rfl) (fun s => by kernel_rfl) Cy.K51.runs (by kernel_rfl) (by kernel_rfl) (by kernel_rfl) (by rfl)
    (by first | assumption | decide +kernel) (by decide +kernel) ⟨rfl, rfl, rfl, rfl, rfl, by decide +kernel⟩ ?hw ?hc
  case hw => w_witness2
  case hc => exact Cy.walkC (l := PySem.Challenge.rw_carryyard_k51_deeds_of_beats_written) (r := Cy.K51.row) (n := 63) (k := 20) (m := 4) (lid := 17) rfl (by decide) (by kernel_rfl) ⟨rfl, by decide, by decide⟩ Cy.K51.chkd (by kernel_rfl) Cy.K51.law

