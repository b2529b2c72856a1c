import PyProof.Rows.All
import PyProof.P3Statements
import PyProof.EqLayable
import Wide.All
import OpenK.AllK
import Wide.FinOn
import HandS.ForMost
import HandS.ForExc
import HandS.Wide
import HandS.Gcd
import HandS.TupAny
import HandS.TupMul
import HandS.IsInst
import HandS.SortInts
import HandS.Style
import HandS.Walk
import HandS.TryMany
import HandS.Zip
import HandS.HeadHook2
import HandS.Flow
import HandS.Conv
import HandS.Defaults
import HandS.Head2
import HandS.Head3
import HandS.HeadEnd
import HandS.HeadHook1
import HandS.Words
import HandS.WordsExc
import HandS.Codes
import PySem.Challenge.RW_tubedrooms_k61_main_saws_steps_and_worth
set_option linter.all false
/-! PyEv: a small pure evaluator for the fragment of Python that the programs use. Values are data (PyData); a list that stands
at a local name and was just made is "owned" by that name and may be changed through it. -/
namespace Ev
open PySem

abbrev D := PyData

/-- a value in a slot: data that is shared, or a list owned by the slot -/
inductive Sl where
  | d (x : D)
  | o (l : List D)

abbrev SEnv := List (Option Sl)

inductive Res (α : Type) where
  | ok (a : α)
  | err (x : Nat) (e : SEnv)
  | stuck

namespace Res
def bind {α β : Type} : Res α → (α → Res β) → Res β
  | ok a, f => f a
  | err x e, _ => err x e
  | stuck, _ => stuck
@[simp] theorem bind_ok {α β : Type} (a : α) (f : α → Res β) : (ok a).bind f = f a := rfl
@[simp] theorem bind_err {α β : Type} (x : Nat) (e : SEnv) (f : α → Res β) : (err x e : Res α).bind f = err x e := rfl
@[simp] theorem bind_stuck {α β : Type} (f : α → Res β) : (stuck : Res α).bind f = stuck := rfl
end Res

inductive Pat where
  | n (i : Nat)
  | t (l : List Pat)

inductive AOp where
  | add | sub | mul | fdiv | mod | pow
inductive COp where
  | eq | ne | lt | le | gt | ge | is | isn | inn | nin
inductive Ty where
  | int | bool | str | tuple | list
inductive Blt where
  | len | abs | min | max | sum | all | any | tuple | list | int | sorted | set | str | gcd | range | zip | enumerate
  deriving DecidableEq

inductive E where
  | v (i : Nat)
  | c (d : D)
  | g (k : Nat)
  | bin (o : AOp) (a b : E)
  | neg (a : E)
  | cmp (o : COp) (a b : E)
  | chain (o p : COp) (a b c : E)
  | and (l : List E)
  | or (l : List E)
  | not (a : E)
  | ife (t a b : E)
  | tup (l : List E)
  | lst (l : List E)
  | ix (a i : E)
  | sl (a : E) (lo hi : Option E)
  | rev (a : E)
  | call (f : Nat) (args : List E)
  | blt (b : Blt) (args : List E)
  | isi (a : E) (ts : List Ty)
  | lc (elt : E) (p : Pat) (it : E) (ifs : List E)
  | lc2 (elt : E) (p : Pat) (it : E) (ifs : List E) (q : Pat) (it2 : E) (ifs2 : List E)
  | pop (i : Nat) (a : Option E)
  | lrg (l : List E)

inductive Sm where
  | asg (p : Pat) (e : E)
  | par (ps : List Pat) (es : List E)
  | setix (i : Nat) (k e : E)
  | app (i : Nat) (e : E)
  | ext (i : Nat) (e : E)
  | aug (i : Nat) (o : AOp) (e : E)
  | ex (e : E)
  | ret (e : E)
  | retn
  | iff (t : E) (a b : List Sm)
  | whl (t : E) (b : List Sm)
  | fr (p : Pat) (it : E) (b : List Sm)
  | rais (x : Nat)
  | brk
  | cnt
  | pass
  | try_ (b : List Sm) (hs : List (Nat × Nat × D))
  | never

structure Fn where
  np : Nat
  n : Nat
  body : List Sm

/-! ### values -/
def sizeMax : Nat := 16777216
def frz : Sl → D
  | .d x => x
  | .o l => .list l
def truth : D → Option Bool
  | .none => some false
  | .bool b => some b
  | .int i => some (i != 0)
  | .str s => if s.length ≤ sizeMax then some ((s.length : Int) != 0) else none
  | .list l => some (!l.isEmpty)
  | .tuple l => some (!l.isEmpty)
  | .dict _ => none
def seqOf : D → Option (List D)
  | .list l => some l
  | .tuple l => some l
  | _ => none
def opt {α : Type} : Option α → Res α
  | some a => .ok a
  | none => .stuck
@[simp] theorem opt_some {α : Type} (a : α) : opt (some a) = .ok a := rfl
@[simp] theorem opt_none {α : Type} : opt (none : Option α) = .stuck := rfl
def grd {α : Type} (b : Bool) (r : Res α) : Res α := match b with
  | true => r
  | false => .stuck
@[simp] theorem grd_true {α : Type} (r : Res α) : grd true r = r := rfl
@[simp] theorem grd_false {α : Type} (r : Res α) : grd false r = .stuck := rfl

def mulOk (i j : Int) : Bool := (decide (-18446744073709551616 < i) && decide (i < 18446744073709551616)) || (decide (-18446744073709551616 < j) && decide (j < 18446744073709551616))
def divOk (j : Int) : Bool := decide (j ≠ 0) && (decide (j.natAbs < 1073741824) || (decide (0 < j) && decide (j.natAbs < 2 ^ 8000)))
def powOk (i j : Int) : Bool := decide (0 ≤ j) && decide (j ≤ 1000000) && decide (i.natAbs < 18446744073709551616)
/-- what an index, a bound of a slice stands for -/
def ixN (n : Nat) (i : Int) : Option Nat := if 0 ≤ i then (if i < n then some i.toNat else none) else if -(n : Int) ≤ i then some (i + n).toNat else none
def sIx (n d : Nat) : Option Int → Nat
  | none => d
  | some v => if v < 0 then (v + (n : Int)).toNat else min v.toNat n
def cut (xs : List D) (lo hi : Option Int) : List D := (xs.drop (sIx xs.length 0 lo)).take (sIx xs.length xs.length hi - sIx xs.length 0 lo)
def bI (b : Bool) : Int := if b then 1 else 0

/-- a op b -/
def binD : AOp → D → D → Res Sl
  | .add, .int i, .int j => .ok (.d (.int (i + j)))
  | .add, .int i, .bool j => .ok (.d (.int (i + bI j)))
  | .sub, .int i, .int j => .ok (.d (.int (i - j)))
  | .mul, .int i, .int j => grd (mulOk i j) (.ok (.d (.int (i * j))))
  | .fdiv, .int i, .int j => grd (divOk j) (.ok (.d (.int (i.fdiv j))))
  | .mod, .int i, .int j => grd (decide (j ≠ 0)) (.ok (.d (.int (i.fmod j))))
  | .pow, .int i, .int j => grd (powOk i j) (.ok (.d (.int (i ^ j.toNat))))
  | .sub, .bool i, .bool j => .ok (.d (.int (bI i - bI j)))
  | .add, .list xs, .list ys => grd (decide (xs.length + ys.length ≤ sizeMax)) (.ok (.o (xs ++ ys)))
  | .add, .tuple xs, .tuple ys => grd (decide (xs.length + ys.length ≤ sizeMax)) (.ok (.d (.tuple (xs ++ ys))))
  | .add, .str x, .str y => grd (decide (x.length + y.length ≤ sizeMax)) (.ok (.d (.str (x ++ y))))
  | .mul, .list xs, .int k => grd (decide (-(2 ^ 63) ≤ k) && decide (k < 2 ^ 63) && decide (xs.length * k.toNat ≤ sizeMax)) (.ok (.o (List.replicate k.toNat xs).flatten))
  | .mul, .tuple xs, .int k => grd (!xs.isEmpty && decide (2 ≤ k) && decide (k ≤ 1000) && decide (xs.length ≤ 1000)) (.ok (.d (.tuple (List.replicate k.toNat xs).flatten)))
  | _, _, _ => .stuck

/-- data that == tells apart as data -/
def shp (d : D) : Bool := SeqAt.shaped d
def flat : D → Bool
  | .none | .bool _ | .int _ | .str _ => true
  | _ => false
/-- a tuple of ints (its own), for < -/
def intsOf : List D → Option (List Int)
  | [] => some []
  | .int i :: r => (intsOf r).map (i :: ·)
  | _ :: _ => none
def lexLt : List Int → List Int → Bool
  | [], [] => false
  | [], _ :: _ => true
  | _ :: _, [] => false
  | x :: xs, y :: ys => if x = y then lexLt xs ys else decide (x < y)
def memD (x : D) (l : List D) : Bool := l.any fun y => PyData.eqv y x
def cmpD : COp → D → D → Res Bool
  | .eq, .int i, .int j => .ok (decide (i = j))
  | .ne, .int i, .int j => .ok (!decide (i = j))
  | .eq, a, b => grd (shp a && shp b) (.ok (PyData.eqv a b))
  | .ne, a, b => grd (shp a && shp b) (.ok (!PyData.eqv a b))
  | .lt, .int i, .int j => .ok (decide (i < j))
  | .le, .int i, .int j => .ok (decide (i ≤ j))
  | .gt, .int i, .int j => .ok (decide (j < i))
  | .ge, .int i, .int j => .ok (decide (j ≤ i))
  | .lt, .tuple xs, .tuple ys => match intsOf xs, intsOf ys with
    | some ns, some ms => .ok (lexLt ns ms)
    | _, _ => .stuck
  | .is, x, .none => .ok (match x with | .none => true | _ => false)
  | .isn, x, .none => .ok (match x with | .none => false | _ => true)
  | .inn, x, .list l => grd (flat x && l.all flat) (.ok (memD x l))
  | .inn, x, .tuple l => grd (flat x && l.all flat) (.ok (memD x l))
  | .nin, x, .list l => grd (flat x && l.all flat) (.ok (!memD x l))
  | .nin, x, .tuple l => grd (flat x && l.all flat) (.ok (!memD x l))
  | _, _, _ => .stuck

def isTy : D → Ty → Option Bool
  | .none, _ => some false
  | .bool _, .int => some true
  | .bool _, .bool => some true
  | .bool _, _ => some false
  | .int _, .int => some true
  | .int _, _ => some false
  | .str _, .str => some true
  | .str _, _ => some false
  | .list _, .list => some true
  | .list _, _ => some false
  | .tuple _, .tuple => some true
  | .tuple _, _ => some false
  | .dict _, _ => none
def isTys (x : D) : List Ty → Option Bool
  | [] => some false
  | t :: ts => match isTy x t with
    | some true => some true
    | some false => isTys x ts
    | none => none

def sumI : List D → Option Int
  | [] => some 0
  | .int i :: r => (sumI r).map (i + ·)
  | _ :: _ => none
def bools : List D → Option (List Bool)
  | [] => some []
  | .bool b :: r => (bools r).map (b :: ·)
  | _ :: _ => none
def insI (x : Int) : List Int → List Int
  | [] => [x]
  | y :: r => if x ≤ y then x :: y :: r else y :: insI x r
def sortI : List Int → List Int
  | [] => []
  | x :: r => insI x (sortI r)
def minI : List Int → Option Int
  | [] => none
  | x :: r => some (r.foldl (fun a b => if b < a then b else a) x)
def maxI : List Int → Option Int
  | [] => none
  | x :: r => some (r.foldl (fun a b => if b > a then b else a) x)
/-- a built-in function of values -/
def bltD : Blt → List D → Res Sl
  | .len, [.list l] => .ok (.d (.int l.length))
  | .len, [.tuple l] => .ok (.d (.int l.length))
  | .len, [.str s] => grd (decide (s.length ≤ sizeMax)) (.ok (.d (.int s.length)))
  | .abs, [.int i] => .ok (.d (.int (if i < 0 then -i else i)))
  | .min, [.int i, .int j] => .ok (.d (.int (if j < i then j else i)))
  | .max, [.int i, .int j] => .ok (.d (.int (if j > i then j else i)))
  | .sum, [.list l] => (opt (sumI l)).bind fun i => .ok (.d (.int i))
  | .all, [.list l] => (opt (bools l)).bind fun bs => .ok (.d (.bool (bs.all id)))
  | .any, [.list l] => (opt (bools l)).bind fun bs => .ok (.d (.bool (bs.any id)))
  | .tuple, [.list l] => .ok (.d (.tuple l))
  | .tuple, [.tuple l] => .ok (.d (.tuple l))
  | .list, [.list l] => .ok (.o l)
  | .list, [.tuple l] => .ok (.o l)
  | .int, [.int i] => .ok (.d (.int i))
  | .int, [.bool b] => .ok (.d (.int (if b then 1 else 0)))
  | .gcd, [.int a, .int b] => .ok (.d (.int ((Nat.gcd a.natAbs b.natAbs : Nat) : Int)))
  | .sorted, [.list l] => (opt (intsOf l)).bind fun ns => .ok (.o ((sortI ns).map .int))
  | .min, [.list l] => (opt (intsOf l)).bind fun ns => (opt (minI ns)).bind fun m => .ok (.d (.int m))
  | .max, [.list l] => (opt (intsOf l)).bind fun ns => (opt (maxI ns)).bind fun m => .ok (.d (.int m))
  | _, _ => .stuck

/-! ### the slots -/
def setE (e : SEnv) (i : Nat) (x : Option Sl) : SEnv := List.set e i x
def getE : SEnv → Nat → Option Sl
  | [], _ => none
  | x :: _, 0 => x
  | _ :: r, i + 1 => getE r i

/-- an argument: data, a list just made, a name -/
inductive AV where
  | d (x : D)
  | o (l : List D)
  | r (i : Nat)
def avOf : Sl → AV
  | .d x => .d x
  | .o l => .o l
/-- read without taking -/
def rdB (e : SEnv) : List AV → Res (List D)
  | [] => .ok []
  | .d x :: r => (rdB e r).bind fun xs => .ok (x :: xs)
  | .o l :: r => (rdB e r).bind fun xs => .ok (.list l :: xs)
  | .r i :: r => match getE e i with
    | some s => (rdB e r).bind fun xs => .ok (frz s :: xs)
    | none => .stuck
/-- read as shared data -/
def rdF : SEnv → List AV → Res (List D × SEnv)
  | e, [] => .ok ([], e)
  | e, .d x :: r => (rdF e r).bind fun p => .ok (x :: p.1, p.2)
  | e, .o l :: r => (rdF e r).bind fun p => .ok (.list l :: p.1, p.2)
  | e, .r i :: r => match getE e i with
    | some (.d x) => (rdF e r).bind fun p => .ok (x :: p.1, p.2)
    | some (.o l) => (rdF (setE e i (some (.d (.list l)))) r).bind fun p => .ok (.list l :: p.1, p.2)
    | none => .stuck
/-- for `a, b = ..`: lists just made stay owned -/
def rdP : SEnv → List AV → Res (List Sl × SEnv)
  | e, [] => .ok ([], e)
  | e, .d x :: r => (rdP e r).bind fun p => .ok (.d x :: p.1, p.2)
  | e, .o l :: r => (rdP e r).bind fun p => .ok (.o l :: p.1, p.2)
  | e, .r i :: r => match getE e i with
    | some (.d x) => (rdP e r).bind fun p => .ok (.d x :: p.1, p.2)
    | some (.o l) => (rdP (setE e i (some (.d (.list l)))) r).bind fun p => .ok (.d (.list l) :: p.1, p.2)
    | none => .stuck
/-- for a call: an owned list is lent -/
def rdC : SEnv → List AV → Res (List Sl)
  | _, [] => .ok []
  | e, .d x :: r => (rdC e r).bind fun xs => .ok (.d x :: xs)
  | e, .o l :: r => (rdC e r).bind fun xs => .ok (.d (.list l) :: xs)
  | e, .r i :: r => match getE e i with
    | some (.d x) => (rdC e r).bind fun xs => .ok (.d x :: xs)
    | some (.o l) => (rdC (setE e i none) r).bind fun xs => .ok (.o l :: xs)
    | none => .stuck
/-- what was lent is forgotten -/
def lost : SEnv → List AV → SEnv
  | e, [] => e
  | e, .r i :: r => match getE e i with
    | some (.o _) => lost (setE e i none) r
    | _ => lost e r
  | e, _ :: r => lost e r
/-- behind a call: what was lent comes back -/
def backL (e : SEnv) : SEnv → List AV → List (Option Sl) → Res SEnv
  | acc, [], _ => .ok acc
  | acc, .r i :: r, x :: xs => match getE e i with
    | some (.o _) => match x with
      | some s => backL e (setE acc i (some s)) r xs
      | none => .stuck
    | _ => backL e acc r xs
  | acc, _ :: r, _ :: xs => backL e acc r xs
  | _, _ :: _, [] => .stuck
def back (e : SEnv) (l : List AV) (outs : List (Option Sl)) : Res SEnv := backL e (lost e l) l outs

/-! ### targets -/
mutual
/-- nk: the slots that may not be stored -/
def bindP (nk : Nat → Bool) : Pat → D → SEnv → Res SEnv
  | .n i, x, e => grd (!nk i) (.ok (setE e i (some (.d x))))
  | .t ps, x, e => match seqOf x with
    | some xs => bindPs nk ps xs e
    | none => .stuck
def bindPs (nk : Nat → Bool) : List Pat → List D → SEnv → Res SEnv
  | [], [], e => .ok e
  | p :: ps, x :: xs, e => (bindP nk p x e).bind fun e1 => bindPs nk ps xs e1
  | _, _, _ => .stuck
end
/-- a value at a target -/
def bindS (nk : Nat → Bool) : Pat → Sl → SEnv → Res SEnv
  | .n i, x, e => grd (!nk i) (.ok (setE e i (some x)))
  | .t ps, x, e => bindP nk (.t ps) (frz x) e
def bindSs (nk : Nat → Bool) : List Pat → List Sl → SEnv → Res SEnv
  | [], [], e => .ok e
  | p :: ps, x :: xs, e => (bindS nk p x e).bind fun e1 => bindSs nk ps xs e1
  | _, _, _ => .stuck
mutual
def slots : Pat → List Nat
  | .n i => [i]
  | .t ps => slotsL ps
def slotsL : List Pat → List Nat
  | [] => []
  | p :: ps => slots p ++ slotsL ps
end
def wipeE (e : SEnv) : List Nat → SEnv
  | [] => e
  | i :: r => setE (wipeE e r) i none
/-- the slots is of e as they stood in e0 -/
def putBack (e e0 : SEnv) : List Nat → SEnv
  | [] => e
  | i :: r => setE (putBack e e0 r) i (getE e0 i)

/-- what stands around: the functions, the module's constants, how often a while may turn -/
structure Wx where
  call : Nat → List Sl → Res (Sl × List (Option Sl))
  glob : Nat → Option D
  laps : Nat

def intR (lo : Int) (n : Nat) : List D := (List.range n).map fun k => .int (lo + (k : Nat))
def zipD : List D → List D → List D
  | x :: xs, y :: ys => .tuple [x, y] :: zipD xs ys
  | _, _ => []
def enumD : Int → List D → List D
  | _, [] => []
  | k, x :: xs => .tuple [.int k, x] :: enumD (k + 1) xs
def rngOk (i : Int) : Bool := decide (-4611686018427387904 ≤ i) && decide (i < 4611686018427387904)

/-- a comprehension's laps; f: one lap -/
def lcL (f : D → SEnv → Res (Option D × SEnv)) : List D → List D → SEnv → Res (List D × SEnv)
  | [], acc, e => .ok (acc, e)
  | x :: xs, acc, e => match f x e with
    | .ok (some y, e1) => grd (decide (acc.length < sizeMax)) (lcL f xs (acc ++ [y]) e1)
    | .ok (none, e1) => lcL f xs acc e1
    | _ => .stuck

/-- one argument; r: its value -/
def ar (a : E) (e : SEnv) (r : Res (Sl × SEnv)) : Res (AV × SEnv) := match a with
  | .v i => match getE e i with
    | some _ => .ok (.r i, e)
    | none => .stuck
  | _ => r.bind fun p => .ok (avOf p.1, p.2)
/-- what a for walks; r: its value -/
def itr (a : E) (e : SEnv) (r : Res (Sl × SEnv)) : Res (List D × SEnv) := match a with
  | .v i => match getE e i with
    | some s => (opt (seqOf (frz s))).bind fun l => .ok (l, e)
    | none => .stuck
  | _ => r.bind fun p => (opt (seqOf (frz p.1))).bind fun l => .ok (l, p.2)
/-- a value as a test: its truth -/
def post (m : Bool) (r : Res (Sl × SEnv)) : Res (Sl × SEnv) := match m with
  | false => r
  | true => r.bind fun p => (opt (truth (frz p.1))).bind fun b => .ok (.d (.bool b), p.2)
/-- what a loop may walk beside lists and tuples -/
def walkB : Blt → List D → Res Sl
  | .range, [.int j] => grd (rngOk j) (.ok (.o (intR 0 j.toNat)))
  | .range, [.int i, .int j] => grd (rngOk i && rngOk j) (.ok (.o (intR i (j - i).toNat)))
  | .zip, [.list a, .list b] => .ok (.o (zipD a b))
  | .zip, [.tuple a, .tuple b] => .ok (.o (zipD a b))
  | .enumerate, [.list a] => .ok (.o (enumD 0 a))
  | b, xs => bltD b xs
def isWalk : Blt → Bool
  | .range | .zip | .enumerate => true
  | _ => false
def rdX (b : Blt) (e : SEnv) (l : List AV) : Res (List D × SEnv) := match isWalk b with
  | true => rdF e l
  | false => (rdB e l).bind fun xs => .ok (xs, e)

/-- read one without taking -/
def rd1 (e : SEnv) : AV → Res D
  | .d x => .ok x
  | .o l => .ok (.list l)
  | .r i => match getE e i with
    | some s => .ok (frz s)
    | none => .stuck
/-- an operation raises nothing -/
def noErr {α : Type} : Res α → Res α
  | .ok a => .ok a
  | _ => .stuck
@[simp] theorem noErr_ok {α : Type} (a : α) : noErr (.ok a : Res α) = .ok a := rfl
@[simp] theorem noErr_stuck {α : Type} : noErr (.stuck : Res α) = .stuck := rfl
/-- an operation on one value, on two -/
def app1 (f : D → Res Sl) (a : Res (AV × SEnv)) : Res (Sl × SEnv) := a.bind fun p => (rd1 p.2 p.1).bind fun x => (noErr (f x)).bind fun r => .ok (r, p.2)
def app2 (f : D → D → Res Sl) (a : Res (AV × SEnv)) (b : SEnv → Res (AV × SEnv)) : Res (Sl × SEnv) :=
  a.bind fun p => (b p.2).bind fun q => (rd1 q.2 p.1).bind fun x => (rd1 q.2 q.1).bind fun y => (noErr (f x y)).bind fun r => .ok (r, q.2)
def negD : D → Res Sl
  | .int i => .ok (.d (.int (-i)))
  | _ => .stuck
def cmpS (o : COp) (x y : D) : Res Sl := (cmpD o x y).bind fun r => .ok (.d (.bool r))
def ixD (x y : D) : Res Sl := match y with
  | .int k => (opt (seqOf x)).bind fun l => (opt ((ixN l.length k).bind fun j => l[j]?)).bind fun y => .ok (.d y)
  | _ => .stuck
def slD (lo hi : Option Int) : D → Res Sl
  | .list y => .ok (.o (cut y lo hi))
  | .tuple y => .ok (.d (.tuple (cut y lo hi)))
  | _ => .stuck
def revD : D → Res Sl
  | .list y => .ok (.o y.reverse)
  | _ => .stuck
def isiD (ts : List Ty) (x : D) : Res Sl := (opt (isTys x ts)).bind fun b => .ok (.d (.bool b))
def notS (p : Sl × SEnv) : Res (Sl × SEnv) := (opt (truth (frz p.1))).bind fun b => .ok (.d (.bool (!b)), p.2)
/-- a call; r: what the def gave -/
def fin (e : SEnv) (l : List AV) : Res (Sl × List (Option Sl)) → Res (Sl × SEnv)
  | .ok (r, outs) => (back e l outs).bind fun e1 => .ok (r, e1)
  | .err x _ => .err x (lost e l)
  | .stuck => .stuck
def popAt (i : Nat) (k : Option Int) (e : SEnv) : Res (Sl × SEnv) := match getE e i with
  | some (.o l) => match k with
    | none => match l[l.length - 1]? with
      | some y => .ok (.d y, setE e i (some (.o l.dropLast)))
      | none => .stuck
    | some j => grd (decide (-(2 ^ 63) ≤ j) && decide (j < 2 ^ 63)) (match ixN l.length j with
      | some n => match l[n]? with
        | some y => .ok (.d y, setE e i (some (.o (l.eraseIdx n))))
        | none => .stuck
      | none => .stuck)
  | _ => .stuck
def hidOf : E → List Nat
  | .v i => [i]
  | _ => []
/-- a lap's end: the item -/
def itemOf (e : SEnv) (a : AV) : Res (Option D × SEnv) := (rdF e [a]).bind fun ys => match ys with
  | ([z], e3) => .ok (some z, e3)
  | _ => .stuck

section
variable (C : Wx)
mutual
/-- the value of an expression (m: as a test, its truth) -/
def evE : Bool → E → SEnv → Res (Sl × SEnv)
  | m, .v i, e => match m with
    | false => match getE e i with
      | some (.d x) => .ok (.d x, e)
      | some (.o l) => .ok (.d (.list l), setE e i (some (.d (.list l))))
      | none => .stuck
    | true => match getE e i with
      | some s => (opt (truth (frz s))).bind fun b => .ok (.d (.bool b), e)
      | none => .stuck
  | m, .c d, e => post m (.ok (.d d, e))
  | m, .g k, e => post m ((opt (C.glob k)).bind fun d => .ok (.d d, e))
  | m, .bin o a b, e => post m (app2 (binD o) (ar a e (evE false a e)) fun e1 => ar b e1 (evE false b e1))
  | m, .neg a, e => post m (app1 negD (ar a e (evE false a e)))
  | m, .cmp o a b, e => post m (app2 (cmpS o) (ar a e (evE false a e)) fun e1 => ar b e1 (evE false b e1))
  | m, .chain o q a b c, e => post m ((ar a e (evE false a e)).bind fun p => (ar b p.2 (evE false b p.2)).bind fun p1 => (rdF p1.2 [p.1, p1.1]).bind fun xs => match xs with
    | ([x, y], e1) => (noErr (cmpD o x y)).bind fun r => match r with
      | false => .ok (.d (.bool false), e1)
      | true => app1 (cmpS q y) (ar c e1 (evE false c e1))
    | _ => .stuck)
  | m, .and l, e => evAnd m l e
  | m, .or l, e => evOr m l e
  | m, .not a, e => (evE m a e).bind notS
  | m, .ife t a b, e => post m ((evE true t e).bind fun p => match p.1 with
    | .d (.bool true) => evE false a p.2
    | .d (.bool false) => evE false b p.2
    | _ => .stuck)
  | m, .tup l, e => post m ((evA l e).bind fun p => (rdF p.2 p.1).bind fun xs => grd (decide (xs.1.length ≤ sizeMax)) (.ok (.d (.tuple xs.1), xs.2)))
  | m, .lst l, e => post m ((evA l e).bind fun p => (rdF p.2 p.1).bind fun xs => grd (decide (xs.1.length ≤ sizeMax)) (.ok (.o xs.1, xs.2)))
  | m, .ix a i, e => post m (app2 ixD (ar a e (evE false a e)) fun e1 => ar i e1 (evE false i e1))
  | m, .sl a lo hi, e => post m ((ar a e (evE false a e)).bind fun p => (evO lo p.2).bind fun l => (evO hi l.2).bind fun h => (rd1 h.2 p.1).bind fun x => (noErr (slD l.1 h.1 x)).bind fun r => .ok (r, h.2))
  | m, .rev a, e => post m (app1 revD (ar a e (evE false a e)))
  | m, .call f l, e => post m ((evA l e).bind fun p => (rdC p.2 p.1).bind fun xs => fin p.2 p.1 (C.call f xs))
  | m, .blt b l, e => post m ((evA l e).bind fun p => (rdX b p.2 p.1).bind fun xs => (noErr (walkB b xs.1)).bind fun r => .ok (r, xs.2))
  | m, .lrg l, e => post m ((evA l e).bind fun p => (rdF p.2 p.1).bind fun xs => (noErr (walkB .range xs.1)).bind fun r => match r with
    | .o ys => grd (decide (ys.length ≤ sizeMax)) (.ok (.o ys, xs.2))
    | _ => .stuck)
  | m, .isi a ts, e => post m (app1 (isiD ts) (ar a e (evE false a e)))
  | m, .lc elt q it ifs, e => post m ((itr it e (evE false it e)).bind fun p =>
      (lcL (fun x e1 => (bindP (fun _ => false) q x (wipeE e1 (slots q))).bind fun e2 => (evTs ifs e2).bind fun t => match t.1 with
        | false => .ok (none, t.2)
        | true => (ar elt t.2 (evE false elt t.2)).bind fun y => itemOf y.2 y.1) p.1 [] (wipeE p.2 (hidOf it))).bind fun r => .ok (.o r.1, putBack r.2 p.2 (slots q ++ hidOf it)))
  | _, .lc2 _ _ _ _ _ _ _, _ => .stuck
  | m, .pop i a, e => post m (match getE e i with
    | some (.o _) => (evO a e).bind fun k => popAt i k.1 k.2
    | _ => .stuck)
/-- arguments, from the left -/
def evA : List E → SEnv → Res (List AV × SEnv)
  | [], e => .ok ([], e)
  | a :: l, e => (ar a e (evE false a e)).bind fun p => (evA l p.2).bind fun q => .ok (p.1 :: q.1, q.2)
/-- a bound of a slice, an optional argument: an int -/
def evO : Option E → SEnv → Res (Option Int × SEnv)
  | none, e => .ok (none, e)
  | some a, e => (ar a e (evE false a e)).bind fun p => (rd1 p.2 p.1).bind fun x => match x with
    | .int i => .ok (some i, p.2)
    | _ => .stuck
def evAnd : Bool → List E → SEnv → Res (Sl × SEnv)
  | _, [], _ => .stuck
  | m, a :: r, e => (evE m a e).bind fun p => match r with
    | [] => .ok p
    | _ :: _ => match truth (frz p.1) with
      | some true => evAnd m r p.2
      | some false => .ok p
      | none => .stuck
def evOr : Bool → List E → SEnv → Res (Sl × SEnv)
  | _, [], _ => .stuck
  | m, a :: r, e => (evE m a e).bind fun p => match r with
    | [] => .ok p
    | _ :: _ => match truth (frz p.1) with
      | some true => .ok p
      | some false => evOr m r p.2
      | none => .stuck
/-- a comprehension's tests -/
def evTs : List E → SEnv → Res (Bool × SEnv)
  | [], e => .ok (true, e)
  | a :: r, e => (evE true a e).bind fun p => match r with
    | [] => match p.1 with
      | .d (.bool b) => .ok (b, p.2)
      | _ => .stuck
    | _ :: _ => .stuck
end

/-- how a statement ends -/
inductive Out where
  | nx (e : SEnv)
  | rt (r : Sl) (e : SEnv)
  | bk (e : SEnv)
  | ct (e : SEnv)
/-- a for's laps -/
def forL (f : D → SEnv → Res Out) : List D → SEnv → Res Out
  | [], e => .ok (.nx e)
  | x :: xs, e => (f x e).bind fun o => match o with
    | .nx e1 => forL f xs e1
    | .ct e1 => forL f xs e1
    | .bk e1 => .ok (.nx e1)
    | .rt r e1 => .ok (.rt r e1)
/-- a while's laps -/
def whlL (t : SEnv → Res (Sl × SEnv)) (f : SEnv → Res Out) : Nat → SEnv → Res Out
  | 0, _ => .stuck
  | n + 1, e => (t e).bind fun p => match p.1 with
    | .d (.bool true) => (f p.2).bind fun o => match o with
      | .nx e1 => whlL t f n e1
      | .ct e1 => whlL t f n e1
      | .bk e1 => .ok (.nx e1)
      | .rt r e1 => .ok (.rt r e1)
    | .d (.bool false) => .ok (.nx p.2)
    | _ => .stuck
def handler (x : Nat) : List (Nat × Nat × D) → Option (Nat × D)
  | [] => none
  | (y, i, d) :: r => if x = y then some (i, d) else handler x r
def setAt (i : Nat) (ks : D) (xs : List D) (e : SEnv) : Res Out := match xs, ks with
  | [x], .int z => match getE e i with
    | some (.o l) => match ixN l.length z with
      | some j => .ok (.nx (setE e i (some (.o (l.set j x)))))
      | none => .stuck
    | _ => .stuck
  | _, _ => .stuck
def appAt (i : Nat) (xs : List D) (e : SEnv) : Res Out := match xs with
  | [x] => match getE e i with
    | some (.o l) => grd (decide (l.length < sizeMax)) (.ok (.nx (setE e i (some (.o (l ++ [x]))))))
    | _ => .stuck
  | _ => .stuck
def extAt (i : Nat) (xs : List D) (e : SEnv) : Res Out := match xs with
  | [.list y] => match getE e i with
    | some (.o l) => grd (decide (l.length + y.length ≤ sizeMax)) (.ok (.nx (setE e i (some (.o (l ++ y))))))
    | _ => .stuck
  | _ => .stuck
def augAt (i : Nat) (o : AOp) (x : Int) (y : D) (e : SEnv) : Res Out := match o, y with
  | .add, .int y => .ok (.nx (setE e i (some (.d (.int (x + y))))))
  | .sub, .int y => .ok (.nx (setE e i (some (.d (.int (x - y))))))
  | _, _ => .stuck
/-- np: how many slots are parameters; nk: slots that may not be stored -/
def retV (np : Nat) (a : E) (e : SEnv) (r : Res (Sl × SEnv)) : Res (Sl × SEnv) := match a with
  | .v i => match getE e i with
    | some (.o l) => match decide (i < np) with
      | true => r
      | false => .ok (.o l, setE e i none)
    | _ => r
  | _ => r
mutual
def evS (np : Nat) (nk : Nat → Bool) : Sm → SEnv → Res Out
  | .asg p a, e => (evE C false a e).bind fun r => (bindS nk p r.1 r.2).bind fun e1 => .ok (.nx e1)
  | .par ps l, e => (evA C l e).bind fun p => (rdP p.2 p.1).bind fun xs => (bindSs nk ps xs.1 xs.2).bind fun e1 => .ok (.nx e1)
  | .setix i k a, e => (ar a e (evE C false a e)).bind fun p => (rdF p.2 [p.1]).bind fun xs => match getE xs.2 i with
    | some (.o _) => (ar k xs.2 (evE C false k xs.2)).bind fun q => (rd1 q.2 q.1).bind fun ks => setAt i ks xs.1 q.2
    | _ => .stuck
  | .app i a, e => match getE e i with
    | some (.o _) => (ar a e (evE C false a e)).bind fun p => (rdF p.2 [p.1]).bind fun xs => appAt i xs.1 xs.2
    | _ => .stuck
  | .ext i a, e => match getE e i with
    | some (.o _) => (ar a e (evE C false a e)).bind fun p => (rdF p.2 [p.1]).bind fun xs => extAt i xs.1 xs.2
    | _ => .stuck
  | .aug i o a, e => match getE e i with
    | some (.d (.int x)) => (ar a e (evE C false a e)).bind fun p => (rd1 p.2 p.1).bind fun y => grd (!nk i) (augAt i o x y p.2)
    | _ => .stuck
  | .ex a, e => (evE C false a e).bind fun r => .ok (.nx r.2)
  | .ret a, e => (retV np a e (evE C false a e)).bind fun r => .ok (.rt r.1 r.2)
  | .retn, e => .ok (.rt (.d .none) e)
  | .iff t a b, e => (evE C true t e).bind fun p => match p.1 with
    | .d (.bool true) => evSs np nk a p.2
    | .d (.bool false) => evSs np nk b p.2
    | _ => .stuck
  | .whl t b, e => whlL (evE C true t) (evSs np nk b) C.laps e
  | .fr q it b, e => (evE C false it e).bind fun p => (opt (seqOf (frz p.1))).bind fun l => forL (fun x e1 => (bindP nk q x e1).bind fun e2 => evSs np nk b e2) l p.2
  | .rais x, e => .err x e
  | .brk, e => .ok (.bk e)
  | .cnt, e => .ok (.ct e)
  | .pass, e => .ok (.nx e)
  | .never, _ => .stuck
  | .try_ b hs, e => match evSs np nk b e with
    | .err x e1 => match handler x hs with
      | some (i, d) => grd (!nk i) (.ok (.nx (setE e1 i (some (.d d)))))
      | none => .err x e1
    | r => r
def evSs (np : Nat) (nk : Nat → Bool) : List Sm → SEnv → Res Out
  | [], e => .ok (.nx e)
  | s :: r, e => (evS np nk s e).bind fun o => match o with
    | .nx e1 => evSs np nk r e1
    | o => .ok o
end
end
/-- which parameters are lent lists -/
def lent (xs : List Sl) (i : Nat) : Bool := match xs[i]? with
  | some (.o _) => true
  | _ => false
/-- what is left of the lent lists -/
def outs (e : SEnv) : Nat → List Sl → List (Option Sl)
  | _, [] => []
  | i, .o _ :: r => getE e i :: outs e (i + 1) r
  | i, .d _ :: r => none :: outs e (i + 1) r
/-- a def, called -/
def evF (C : Wx) (f : Fn) (xs : List Sl) : Res (Sl × List (Option Sl)) := grd (decide (xs.length = f.np))
  ((evSs C f.np (lent xs) f.body (xs.map some ++ List.replicate (f.n - f.np) none)).bind fun o => match o with
    | .nx e => .ok (.d .none, outs e 0 xs)
    | .rt r e => .ok (r, outs e 0 xs)
    | _ => .stuck)
/-- a program: its functions, its constants -/
structure Prg where
  fn : Nat → Option Fn
  glob : Nat → Option D
  laps : Nat
/-- n: how deep calls may go -/
def callN (P : Prg) : Nat → Nat → List Sl → Res (Sl × List (Option Sl))
  | 0, _, _ => .stuck
  | n + 1, f, xs => match P.fn f with
    | some fn => evF ⟨callN P n, P.glob, P.laps⟩ fn xs
    | none => .stuck
end Ev

set_option Elab.async false
set_option linter.all false
set_option maxHeartbeats 4000000
/-! PyEvG: how the evaluator's slots stand to the layer's slots and heap. -/
namespace EvS
open PySem PySem.Spec PyProof.Rows L2 Ev

abbrev Fr := PySem.W.Frag
abbrev SS := L2.St
/-- S grows -/
def Gr (S S' : Hp) : Prop := ∀ a o, S a = some o → S' a = some o
theorem Gr.refl (S : Hp) : Gr S S := fun _ _ h => h
theorem Gr.trans {a b c : Hp} (x : Gr a b) (y : Gr b c) : Gr a c := fun p o h => y p o (x p o h)
theorem gr_upd {S : Hp} {a : Addr} {o : HO} (h : S a = none) : Gr S (upd S a o) := fun b u e => by
  rw [upd_ne (ne_of_none e h)]; exact e
theorem Gr.rd {S S' : Hp} (g : Gr S S') {a : Addr} {u : HO} (h : Rd S a u) : Rd S' a u := by
  rcases h with h | ⟨o, h⟩
  · exact .inl (g _ _ h)
  · exact .inr ⟨o, g _ _ h⟩
mutual
/-- a value that is this data, as S has it -/
inductive Dq (K : Fr) (S : Hp) : V → D → Prop
  | non : Dq K S .non .none
  | bl (b : Bool) : Dq K S (.bl b) (.bool b)
  | int (i : Int) : Dq K S (.int i) (.int i)
  | str (x : Str) : Dq K S (.str x) (.str x)
  | lst {a : Addr} {xs : List V} {ds : List D} : Rd S a (.lst xs) → DqAll K S xs ds → Dq K S (.ref a) (.list ds)
  | tup {a : Addr} {xs : List V} {ds : List D} : SqT K S a xs → DqAll K S xs ds → Dq K S (.ref a) (.tuple ds)
inductive DqAll (K : Fr) (S : Hp) : List V → List D → Prop
  | nil : DqAll K S [] []
  | cons {v : V} {vs : List V} {d : D} {ds : List D} : Dq K S v d → DqAll K S vs ds → DqAll K S (v :: vs) (d :: ds)
end
mutual
theorem Dq.dp {K : Fr} {S : Hp} : ∀ {v : V} {x : D}, Dq K S v x → Dp K S v x
  | _, _, .non => .non
  | _, _, .bl b => .bl b
  | _, _, .int i => .int i
  | _, _, .str x => .str x
  | _, _, .lst h r => .lst (.inl h) (DqAll.dp r)
  | _, _, .tup h r => .tup h (DqAll.dp r)
theorem DqAll.dp {K : Fr} {S : Hp} : ∀ {vs : List V} {xs : List D}, DqAll K S vs xs → DpAll K S vs xs
  | _, _, .nil => .nil
  | _, _, .cons h r => .cons (Dq.dp h) (DqAll.dp r)
end
theorem Gr.sql {K : Fr} {S S' : Hp} (g : Gr S S') {a : Addr} {xs : List V} (h : SqL K S a xs) : SqL K S' a xs := by
  rcases h with h | h
  · exact .inl (g.rd h)
  · exact .inr h
theorem Gr.sqt {K : Fr} {S S' : Hp} (g : Gr S S') {a : Addr} {xs : List V} (h : SqT K S a xs) : SqT K S' a xs := by
  rcases h with h | h
  · exact .inl (g.rd h)
  · exact .inr h
mutual
theorem Gr.dp {K : Fr} {S S' : Hp} (g : Gr S S') : ∀ {v : V} {x : D}, Dq K S v x → Dq K S' v x
  | _, _, .non => .non
  | _, _, .bl b => .bl b
  | _, _, .int i => .int i
  | _, _, .str x => .str x
  | _, _, .lst h r => .lst (g.rd h) (Gr.dps g r)
  | _, _, .tup h r => .tup (g.sqt h) (Gr.dps g r)
theorem Gr.dps {K : Fr} {S S' : Hp} (g : Gr S S') : ∀ {vs : List V} {xs : List D}, DqAll K S vs xs → DqAll K S' vs xs
  | _, _, .nil => .nil
  | _, _, .cons h r => .cons (Gr.dp g h) (Gr.dps g r)
end
theorem dps_len {K : Fr} {S : Hp} : ∀ {vs : List V} {xs : List D}, DqAll K S vs xs → vs.length = xs.length
  | _, _, .nil => rfl
  | _, _, .cons _ r => by simp [dps_len r]
theorem dps_get {K : Fr} {S : Hp} : ∀ {vs : List V} {xs : List D} {i : Nat} {v : V}, DqAll K S vs xs → vs[i]? = some v → ∃ x, xs[i]? = some x ∧ Dq K S v x
  | _, _, _, _, .nil, h => by simp at h
  | _, _, 0, _, .cons h r, e => by simp at e; subst e; exact ⟨_, rfl, h⟩
  | _, _, i + 1, _, .cons h r, e => by simpa using dps_get (i := i) r (by simpa using e)
theorem dps_get' {K : Fr} {S : Hp} : ∀ {vs : List V} {xs : List D} {i : Nat} {x : D}, DqAll K S vs xs → xs[i]? = some x → ∃ v, vs[i]? = some v ∧ Dq K S v x
  | _, _, _, _, .nil, h => by simp at h
  | _, _, 0, _, .cons h r, e => by simp at e; subst e; exact ⟨_, rfl, h⟩
  | _, _, i + 1, _, .cons h r, e => by simpa using dps_get' (i := i) r (by simpa using e)
theorem dps_app {K : Fr} {S : Hp} : ∀ {vs ws : List V} {xs ys : List D}, DqAll K S vs xs → DqAll K S ws ys → DqAll K S (vs ++ ws) (xs ++ ys)
  | _, _, _, _, .nil, h => h
  | _, _, _, _, .cons h r, q => .cons h (dps_app r q)
theorem dps_one {K : Fr} {S : Hp} {v : V} {x : D} (h : Dq K S v x) : DqAll K S [v] [x] := .cons h .nil
theorem dps_set {K : Fr} {S : Hp} : ∀ {vs : List V} {xs : List D} {v : V} {x : D} (i : Nat), DqAll K S vs xs → Dq K S v x → DqAll K S (vs.set i v) (xs.set i x)
  | _, _, _, _, _, .nil, _ => .nil
  | _, _, _, _, 0, .cons _ r, q => .cons q r
  | _, _, _, _, i + 1, .cons h r, q => .cons h (dps_set i r q)
theorem dps_take {K : Fr} {S : Hp} : ∀ {vs : List V} {xs : List D} (n : Nat), DqAll K S vs xs → DqAll K S (vs.take n) (xs.take n)
  | _, _, 0, _ => .nil
  | _, _, _ + 1, .nil => .nil
  | _, _, n + 1, .cons h r => .cons h (dps_take n r)
theorem dps_drop {K : Fr} {S : Hp} : ∀ {vs : List V} {xs : List D} (n : Nat), DqAll K S vs xs → DqAll K S (vs.drop n) (xs.drop n)
  | _, _, 0, h => h
  | _, _, _ + 1, .nil => .nil
  | _, _, n + 1, .cons h r => dps_drop n r
theorem dps_rev {K : Fr} {S : Hp} : ∀ {vs : List V} {xs : List D}, DqAll K S vs xs → DqAll K S vs.reverse xs.reverse
  | _, _, .nil => .nil
  | _, _, .cons h r => by
    rw [List.reverse_cons, List.reverse_cons]
    exact dps_app (dps_rev r) (dps_one h)
theorem dps_erase {K : Fr} {S : Hp} : ∀ {vs : List V} {xs : List D} (i : Nat), DqAll K S vs xs → DqAll K S (vs.eraseIdx i) (xs.eraseIdx i)
  | _, _, _, .nil => .nil
  | _, _, 0, .cons _ r => r
  | _, _, i + 1, .cons h r => .cons h (dps_erase i r)
theorem dps_dropLast {K : Fr} {S : Hp} {vs : List V} {xs : List D} (h : DqAll K S vs xs) : DqAll K S vs.dropLast xs.dropLast := by
  rw [List.dropLast_eq_take, List.dropLast_eq_take, dps_len h]
  exact dps_take _ h
theorem dps_rep {K : Fr} {S : Hp} {vs : List V} {xs : List D} (h : DqAll K S vs xs) : ∀ n : Nat, DqAll K S (List.replicate n vs).flatten (List.replicate n xs).flatten
  | 0 => .nil
  | n + 1 => by
    rw [List.replicate_succ, List.replicate_succ, List.flatten_cons, List.flatten_cons]
    exact dps_app h (dps_rep h n)

/-- what a slot holds -/
def SlOk (K : Fr) (S T H : Hp) (ov : Option V) : Sl → Prop
  | .d x => ∃ v, ov = some v ∧ Dq K S v x
  | .o l => ∃ a vs, ov = some (.ref a) ∧ H a = some (.lst vs) ∧ DqAll K S vs l ∧ S a = none ∧ T a = none
/-- THE RELATION: σ the layer's slots, e the evaluator's; S what is shared (it never changes), T what is held by others (it doesn't change either, and nothing here names it), H the heap -/
structure StO (K : Fr) (σ : SS) (e : SEnv) (S T H : Hp) : Prop where
  len : e.length ≤ σ.length
  s : Gr S H
  t : Gr T H
  dj : ∀ a o, S a = some o → T a = none
  sl : ∀ i x, getE e i = some x → SlOk K S T H (σ[i]?.join) x
  inj : ∀ i j l l', getE e i = some (.o l) → getE e j = some (.o l') → σ[i]?.join = σ[j]?.join → i = j
theorem join_some {σ : SS} {i : Nat} {v : V} (h : σ[i]?.join = some v) : σ[i]? = some (some v) := by
  cases q : σ[i]? with
  | none => rw [q] at h; cases h
  | some o => rw [q] at h; cases o with
    | none => cases h
    | some w => simpa using h
theorem join_of {σ : SS} {i : Nat} {v : V} (h : σ[i]? = some (some v)) : σ[i]?.join = some v := by rw [h]; rfl
/-- a value that an expression gave -/
def RvOk (K : Fr) (σ : SS) (e : SEnv) (S T H : Hp) (v : V) : Sl → Prop
  | .d x => Dq K S v x
  | .o l => ∃ a vs, v = .ref a ∧ H a = some (.lst vs) ∧ DqAll K S vs l ∧ S a = none ∧ T a = none ∧ ∀ i l', getE e i = some (.o l') → σ[i]?.join ≠ some (.ref a)

theorem getE_set {e : SEnv} {i j : Nat} {x : Option Sl} : getE (setE e i x) j = if j = i ∧ i < e.length then x else getE e j := by
  induction e generalizing i j with
  | nil => cases j <;> simp [setE, getE]
  | cons y r ih =>
    cases i with
    | zero => cases j <;> simp [setE, getE]
    | succ i =>
      cases j with
      | zero => simp [setE, getE]
      | succ j =>
        have := ih (i := i) (j := j)
        simpa [setE, getE, List.set] using this
theorem getE_set_same {e : SEnv} {i : Nat} {x y : Sl} (h : getE e i = some y) : getE (setE e i (some x)) i = some x := by
  have hl : i < e.length := by
    induction e generalizing i with
    | nil => cases i <;> simp [getE] at h
    | cons z r ih =>
      cases i with
      | zero => simp
      | succ i => simp [getE] at h; simpa using ih h
  rw [getE_set, if_pos ⟨rfl, hl⟩]
theorem getE_set_of {e : SEnv} {i j : Nat} {x : Option Sl} {y : Sl} (h : getE (setE e i x) j = some y) : (j = i ∧ x = some y) ∨ (j ≠ i ∧ getE e j = some y) ∨ (j = i ∧ getE e j = some y ∧ ¬ i < e.length) := by
  rw [getE_set] at h
  by_cases hj : j = i
  · by_cases hl : i < e.length
    · rw [if_pos ⟨hj, hl⟩] at h; exact .inl ⟨hj, h⟩
    · rw [if_neg (fun q => hl q.2)] at h; exact .inr (.inr ⟨hj, h, hl⟩)
  · rw [if_neg (fun q => hj q.1)] at h; exact .inr (.inl ⟨hj, h⟩)
theorem getE_lt {e : SEnv} {i : Nat} {y : Sl} (h : getE e i = some y) : i < e.length := by
  induction e generalizing i with
  | nil => cases i <;> simp [getE] at h
  | cons z r ih =>
    cases i with
    | zero => simp
    | succ i => simp [getE] at h; simpa using ih h
theorem getE_set_cases {e : SEnv} {i j : Nat} {x : Option Sl} {y : Sl} (h : getE (setE e i x) j = some y) : (j = i ∧ x = some y) ∨ (j ≠ i ∧ getE e j = some y) := by
  rcases getE_set_of h with h | h | ⟨_, h, hn⟩
  · exact .inl h
  · exact .inr h
  · exact absurd (by have := getE_lt h; omega) hn

section
variable {K : Fr} {σ : SS} {e : SEnv} {S T H : Hp}
theorem StO.data (I : StO K σ e S T H) {i : Nat} {x : D} (h : getE e i = some (.d x)) : ∃ v, σ[i]? = some (some v) ∧ Dq K S v x := by
  obtain ⟨v, q, r⟩ := I.sl i _ h
  exact ⟨v, join_some q, r⟩
theorem StO.own (I : StO K σ e S T H) {i : Nat} {l : List D} (h : getE e i = some (.o l)) : ∃ a vs, σ[i]? = some (some (.ref a)) ∧ H a = some (.lst vs) ∧ DqAll K S vs l ∧ S a = none ∧ T a = none := by
  obtain ⟨a, vs, q, r⟩ := I.sl i _ h
  exact ⟨a, vs, join_some q, r⟩
/-- forgetting a slot -/
theorem StO.forget (I : StO K σ e S T H) (i : Nat) : StO K σ (setE e i none) S T H where
  len := by simpa [setE] using I.len
  s := I.s
  t := I.t
  dj := I.dj
  sl := fun j x h => by
    rcases getE_set_cases h with ⟨_, q⟩ | ⟨_, q⟩
    · cases q
    · exact I.sl j x q
  inj := fun j k l l' h1 h2 h3 => by
    rcases getE_set_cases h1 with ⟨_, q⟩ | ⟨_, q⟩
    · cases q
    rcases getE_set_cases h2 with ⟨_, q2⟩ | ⟨_, q2⟩
    · cases q2
    exact I.inj j k l l' q q2 h3
/-- an owned list becomes shared -/
theorem StO.freeze (I : StO K σ e S T H) {i : Nat} {l : List D} (h : getE e i = some (.o l)) : ∃ S' a vs, Gr S S' ∧ StO K σ (setE e i (some (.d (.list l)))) S' T H ∧ σ[i]? = some (some (.ref a)) ∧ Rd S' a (.lst vs) ∧ DqAll K S' vs l := by
  obtain ⟨a, vs, e1, e2, e3, e4, e5⟩ := I.own h
  have g : Gr S (upd S a (.lst vs)) := gr_upd e4
  have hq : Rd (upd S a (.lst vs)) a (.lst vs) := .inl upd_same
  refine ⟨upd S a (.lst vs), a, vs, g, ⟨by simpa [setE] using I.len, fun b o q => ?_, I.t, fun b o q => ?_, fun j x q => ?_, fun j k l1 l2 h1 h2 h3 => ?_⟩, e1, hq, g.dps e3⟩
  · by_cases hb : b = a
    · subst hb; rw [upd_same] at q; rw [e2]; exact q
    · rw [upd_ne hb] at q; exact I.s b o q
  · by_cases hb : b = a
    · subst hb; exact e5
    · rw [upd_ne hb] at q; exact I.dj b o q
  · rcases getE_set_cases q with ⟨hj, q⟩ | ⟨hj, q⟩
    · cases q
      subst hj
      exact ⟨.ref a, join_of e1, .lst hq (g.dps e3)⟩
    · have := I.sl j x q
      cases x with
      | d y => obtain ⟨v, r1, r2⟩ := this; exact ⟨v, r1, g.dp r2⟩
      | o l1 =>
        obtain ⟨b, ws, r1, r2, r3, r4, r5⟩ := this
        refine ⟨b, ws, r1, r2, g.dps r3, ?_, r5⟩
        rw [upd_ne ?_]
        · exact r4
        · rintro rfl
          exact hj (I.inj j i l1 l q h (by rw [r1, join_of e1]))
  · rcases getE_set_cases h1 with ⟨_, q⟩ | ⟨_, q⟩
    · cases q
    rcases getE_set_cases h2 with ⟨_, q2⟩ | ⟨_, q2⟩
    · cases q2
    exact I.inj j k _ _ q q2 h3
/-- a just made list becomes shared -/
theorem StO.freezeRv (I : StO K σ e S T H) {v : V} {r : Sl} (h : RvOk K σ e S T H v r) : ∃ S', Gr S S' ∧ StO K σ e S' T H ∧ Dq K S' v (frz r) := by
  cases r with
  | d x => exact ⟨S, Gr.refl S, I, h⟩
  | o l =>
    obtain ⟨a, vs, rfl, e2, e3, e4, e5, e6⟩ := h
    have g : Gr S (upd S a (.lst vs)) := gr_upd e4
    refine ⟨upd S a (.lst vs), g, ⟨I.len, fun b o q => ?_, I.t, fun b o q => ?_, fun j x q => ?_, I.inj⟩, .lst (.inl upd_same) (g.dps e3)⟩
    · by_cases hb : b = a
      · subst hb; rw [upd_same] at q; rw [e2]; exact q
      · rw [upd_ne hb] at q; exact I.s b o q
    · by_cases hb : b = a
      · subst hb; exact e5
      · rw [upd_ne hb] at q; exact I.dj b o q
    · have := I.sl j x q
      cases x with
      | d y => obtain ⟨v, r1, r2⟩ := this; exact ⟨v, r1, g.dp r2⟩
      | o l1 =>
        obtain ⟨b, ws, r1, r2, r3, r4, r5⟩ := this
        refine ⟨b, ws, r1, r2, g.dps r3, ?_, r5⟩
        rw [upd_ne ?_]
        · exact r4
        · rintro rfl
          exact e6 j l1 q r1
/-- T is made less -/
theorem StO.less {T' : Hp} (I : StO K σ e S T' H) (h : Gr T T') : StO K σ e S T H := by
  have nn : ∀ a, T' a = none → T a = none := fun a q => by
    cases z : T a with
    | none => rfl
    | some o => rw [h a o z] at q; cases q
  refine ⟨I.len, I.s, fun a o q => I.t a o (h a o q), fun a o q => nn a (I.dj a o q), fun i x q => ?_, I.inj⟩
  have := I.sl i x q
  cases x with
  | d y => exact this
  | o l =>
    obtain ⟨b, ws, r1, r2, r3, r4, r5⟩ := this
    exact ⟨b, ws, r1, r2, r3, r4, nn b r5⟩
/-- a just made list is held -/
theorem StO.hold (I : StO K σ e S T H) {a : Addr} {vs : List V} (h1 : H a = some (.lst vs)) (h2 : S a = none) (h3 : ∀ i l', getE e i = some (.o l') → σ[i]?.join ≠ some (.ref a)) : StO K σ e S (upd T a (.lst vs)) H := by
  refine ⟨I.len, I.s, fun b o q => ?_, fun b o q => ?_, fun i x q => ?_, I.inj⟩
  · by_cases hb : b = a
    · subst hb; rw [upd_same] at q; rw [h1]; exact q
    · rw [upd_ne hb] at q; exact I.t b o q
  · have hb : b ≠ a := fun z => by subst z; rw [h2] at q; cases q
    rw [upd_ne hb]; exact I.dj b o q
  · have := I.sl i x q
    cases x with
    | d y => exact this
    | o l =>
      obtain ⟨b, ws, r1, r2, r3, r4, r5⟩ := this
      refine ⟨b, ws, r1, r2, r3, r4, ?_⟩
      rw [upd_ne ?_]
      · exact r5
      · rintro rfl
        exact h3 i l q r1
/-- a new object is laid; it is shared -/
theorem StO.newS (I : StO K σ e S T H) {p : Addr} {o : HO} (h : H p = none) : Gr S (upd S p o) ∧ StO K σ e (upd S p o) T (upd H p o) := by
  have hS : S p = none := by
    cases q : S p with
    | none => rfl
    | some u => rw [I.s p u q] at h; cases h
  have hT : T p = none := by
    cases q : T p with
    | none => rfl
    | some u => rw [I.t p u q] at h; cases h
  have g : Gr S (upd S p o) := gr_upd hS
  refine ⟨g, I.len, fun b u q => ?_, fun b u q => ?_, fun b u q => ?_, fun i x q => ?_, I.inj⟩
  · by_cases hb : b = p
    · subst hb; rw [upd_same] at q ⊢; exact q
    · rw [upd_ne hb] at q ⊢; exact I.s b u q
  · have hb : b ≠ p := fun z => by subst z; rw [hT] at q; cases q
    rw [upd_ne hb]; exact I.t b u q
  · by_cases hb : b = p
    · subst hb; exact hT
    · rw [upd_ne hb] at q; exact I.dj b u q
  · have := I.sl i x q
    cases x with
    | d y => obtain ⟨v, r1, r2⟩ := this; exact ⟨v, r1, g.dp r2⟩
    | o l =>
      obtain ⟨b, ws, r1, r2, r3, r4, r5⟩ := this
      have hb : b ≠ p := fun z => by subst z; rw [h] at r2; cases r2
      exact ⟨b, ws, r1, by rw [upd_ne hb]; exact r2, g.dps r3, by rw [upd_ne hb]; exact r4, r5⟩
/-- a new object is laid, not shared -/
theorem StO.newO (I : StO K σ e S T H) {p : Addr} {o : HO} (h : H p = none) : StO K σ e S T (upd H p o) ∧ S p = none ∧ T p = none ∧ ∀ i l', getE e i = some (.o l') → σ[i]?.join ≠ some (.ref p) := by
  have hS : S p = none := by
    cases q : S p with
    | none => rfl
    | some u => rw [I.s p u q] at h; cases h
  have hT : T p = none := by
    cases q : T p with
    | none => rfl
    | some u => rw [I.t p u q] at h; cases h
  refine ⟨⟨I.len, fun b u q => ?_, fun b u q => ?_, I.dj, fun i x q => ?_, I.inj⟩, hS, hT, fun i l' q z => ?_⟩
  · have hb : b ≠ p := fun z => by subst z; rw [hS] at q; cases q
    rw [upd_ne hb]; exact I.s b u q
  · have hb : b ≠ p := fun z => by subst z; rw [hT] at q; cases q
    rw [upd_ne hb]; exact I.t b u q
  · have := I.sl i x q
    cases x with
    | d y => exact this
    | o l =>
      obtain ⟨b, ws, r1, r2, r3, r4, r5⟩ := this
      have hb : b ≠ p := fun z => by subst z; rw [h] at r2; cases r2
      exact ⟨b, ws, r1, by rw [upd_ne hb]; exact r2, r3, r4, r5⟩
  · obtain ⟨b, ws, r1, r2, _⟩ := I.sl i _ q
    rw [r1] at z
    cases z
    rw [h] at r2; cases r2
/-- the owned list of a slot is changed -/
theorem StO.write (I : StO K σ e S T H) {i : Nat} {l l' : List D} {a : Addr} {vs : List V} (h : getE e i = some (.o l)) (ha : σ[i]? = some (some (.ref a))) (hd : DqAll K S vs l') : StO K σ (setE e i (some (.o l'))) S T (upd H a (.lst vs)) := by
  obtain ⟨a', ws, e1, e2, e3, e4, e5⟩ := I.own h
  rw [ha] at e1
  cases e1
  refine ⟨by simpa [setE] using I.len, fun b u q => ?_, fun b u q => ?_, I.dj, fun j x q => ?_, fun j k l1 l2 h1 h2 h3 => ?_⟩
  · have hb : b ≠ a := fun z => by subst z; rw [e4] at q; cases q
    rw [upd_ne hb]; exact I.s b u q
  · have hb : b ≠ a := fun z => by subst z; rw [e5] at q; cases q
    rw [upd_ne hb]; exact I.t b u q
  · rcases getE_set_cases q with ⟨hj, q⟩ | ⟨hj, q⟩
    · cases q
      subst hj
      exact ⟨a, vs, join_of ha, upd_same, hd, e4, e5⟩
    · have := I.sl j x q
      cases x with
      | d y => exact this
      | o l1 =>
        obtain ⟨b, ws', r1, r2, r3, r4, r5⟩ := this
        have hb : b ≠ a := by
          rintro rfl
          exact hj (I.inj j i l1 l q h (by rw [r1, join_of ha]))
        exact ⟨b, ws', r1, by rw [upd_ne hb]; exact r2, r3, r4, r5⟩
  · have e1 : ∃ l, getE e j = some (.o l) := by
      rcases getE_set_cases h1 with ⟨hj, _⟩ | ⟨_, q⟩
      · exact ⟨l, by rw [hj]; exact h⟩
      · exact ⟨_, q⟩
    have e2 : ∃ l, getE e k = some (.o l) := by
      rcases getE_set_cases h2 with ⟨hj, _⟩ | ⟨_, q⟩
      · exact ⟨l, by rw [hj]; exact h⟩
      · exact ⟨_, q⟩
    obtain ⟨l3, e1⟩ := e1
    obtain ⟨l4, e2⟩ := e2
    exact I.inj j k l3 l4 e1 e2 h3
/-- a slot is stored -/
theorem StO.store (I : StO K σ e S T H) {i : Nat} {v : V} {x : Sl} (h : RvOk K σ e S T H v x) : StO K (σ.set i (some v)) (setE e i (some x)) S T H := by
  have look : ∀ j, j ≠ i → (σ.set i (some v))[j]?.join = σ[j]?.join := fun j hj => by rw [List.getElem?_set_ne (Ne.symm hj)]
  by_cases hi : i < σ.length
  · have self : (σ.set i (some v))[i]?.join = some v := by rw [List.getElem?_set_self hi]; rfl
    refine ⟨by simpa [setE] using I.len, I.s, I.t, I.dj, fun j y q => ?_, fun j k l1 l2 h1 h2 h3 => ?_⟩
    · rcases getE_set_cases q with ⟨hj, q⟩ | ⟨hj, q⟩
      · cases q
        subst hj
        rw [self]
        cases x with
        | d z => exact ⟨v, rfl, h⟩
        | o l => obtain ⟨a, vs, rfl, r2, r3, r4, r5, _⟩ := h; exact ⟨a, vs, rfl, r2, r3, r4, r5⟩
      · rw [look j hj]; exact I.sl j y q
    · rcases getE_set_cases h1 with ⟨hj, q⟩ | ⟨hj, q⟩
      · cases q
        rcases getE_set_cases h2 with ⟨hk, q2⟩ | ⟨hk, q2⟩
        · rw [hj, hk]
        · subst hj
          rw [self, look k hk] at h3
          obtain ⟨a, vs, rfl, _, _, _, _, r⟩ := h
          exact absurd h3.symm (r k l2 q2)
      · rcases getE_set_cases h2 with ⟨hk, q2⟩ | ⟨hk, q2⟩
        · cases q2
          subst hk
          rw [self, look j hj] at h3
          obtain ⟨a, vs, rfl, _, _, _, _, r⟩ := h
          exact absurd h3 (r j l1 q)
        · rw [look j hj, look k hk] at h3
          exact I.inj j k l1 l2 q q2 h3
  · have hl := I.len
    have same : σ.set i (some v) = σ := List.set_eq_of_length_le (by omega)
    have same2 : setE e i (some x) = e := List.set_eq_of_length_le (by omega)
    rw [same, same2]
    exact I
end
end EvS

set_option Elab.async false
set_option linter.all false
set_option maxHeartbeats 4000000
/-! PyEvO: the operations on values. -/
namespace EvS
open PySem PySem.Spec PyProof.Rows L2 Ev

def BOk (K : Fr) (S H : Hp) (v : V) : D → Prop
  | .list l => ∃ a vs, v = .ref a ∧ Rd H a (.lst vs) ∧ DqAll K S vs l
  | x => Dq K S v x
theorem Dq.b {K : Fr} {S H : Hp} (g : Gr S H) {v : V} {x : D} (h : Dq K S v x) : BOk K S H v x := by
  cases h with
  | lst h r => exact ⟨_, _, rfl, g.rd h, r⟩
  | non => exact .non
  | bl b => exact .bl b
  | int i => exact .int i
  | str s => exact .str s
  | tup h r => exact .tup h r
theorem BOk.q {K : Fr} {S H : Hp} (g : Gr S H) {v : V} {x : D} (h : BOk K S H v x) : Dq K H v x := by
  cases x with
  | list l => obtain ⟨a, vs, rfl, h1, h2⟩ := h; exact .lst h1 (g.dps h2)
  | _ => exact g.dp h
theorem BOk.dp {K : Fr} {S H : Hp} (g : Gr S H) {v : V} {x : D} (h : BOk K S H v x) : Dp K H v x := (h.q g).dp

/-- what an operation gives: a value that is there, a new tuple, a new list -/
inductive ResOk (K : Fr) (S H : Hp) : V → Hp → Sl → Prop
  | same {v : V} {x : D} : Dq K S v x → ResOk K S H v H (.d x)
  | tup {p : Addr} {vs : List V} {l : List D} : H p = none → DqAll K S vs l → ResOk K S H (.ref p) (upd H p (.tup vs)) (.d (.tuple l))
  | lst {p : Addr} {vs : List V} {l : List D} : H p = none → DqAll K S vs l → ResOk K S H (.ref p) (upd H p (.lst vs)) (.o l)
theorem ResOk.fin {K : Fr} {σ : SS} {e : SEnv} {S T H H' : Hp} {v : V} {r : Sl} (I : StO K σ e S T H) (h : ResOk K S H v H' r) : ∃ S', Gr S S' ∧ StO K σ e S' T H' ∧ RvOk K σ e S' T H' v r := by
  cases h with
  | same h => exact ⟨S, Gr.refl S, I, h⟩
  | tup hp hd =>
    obtain ⟨g, J⟩ := I.newS (o := .tup _) hp
    exact ⟨_, g, J, .tup (.inl (.inl upd_same)) (g.dps hd)⟩
  | lst hp hd =>
    obtain ⟨J, h1, h2, h3⟩ := I.newO (o := .lst _) hp
    exact ⟨S, Gr.refl S, J, _, _, rfl, upd_same, hd, h1, h2, h3⟩
def PR (K : Fr) (S H : Hp) (r : Res Sl) (Q : VK) : Prop := match r with
  | .ok r => ∀ v H', ResOk K S H v H' r → Q v H'
  | _ => False
def rOp (K : Fr) (f : D → D → Res Sl) : R2 := fun x y H Q => ∃ S dx dy, Gr S H ∧ BOk K S H x dx ∧ BOk K S H y dy ∧ PR K S H (f dx dy) Q
def rUn (K : Fr) (f : D → Res Sl) : V → Hp → VK → Prop := fun x H Q => ∃ S dx, Gr S H ∧ BOk K S H x dx ∧ PR K S H (f dx) Q
inductive BOks (K : Fr) (S H : Hp) : List V → List D → Prop
  | nil : BOks K S H [] []
  | cons {v : V} {vs : List V} {x : D} {xs : List D} : BOk K S H v x → BOks K S H vs xs → BOks K S H (v :: vs) (x :: xs)
def rCb (K : Fr) (f : List D → Res Sl) : List V → Hp → VK → Prop := fun vs H Q => ∃ S ds, Gr S H ∧ BOks K S H vs ds ∧ PR K S H (f ds) Q

theorem OpR.weak {X : L2.Cx} {f : Value → Value → Sem Value} {r r' : R2} (h : OpR X f r) (w : ∀ x y H Q, r' x y H Q → r x y H Q) : OpR X f r' :=
  fun pins s σ H x y v u Q I rx ry q => h pins s σ H x y v u Q I rx ry (w x y H Q q)
theorem CallR.weak {X : L2.Cx} {f : Value} {r r' : List V → Hp → VK → Prop} (h : CallR X f r) (w : ∀ vs H Q, r' vs H Q → r vs H Q) : CallR X f r' :=
  fun pins s σ H vs us Q I rx q => h pins s σ H vs us Q I rx (w vs H Q q)

section
variable {X : L2.Cx}
theorem lstR {pins : List (Addr × Obj)} {σ : SS} {H : Hp} {s : Shared} {l : Addr} {xs : List V} (I : Inv X pins σ H s) (h : Rd H l (.lst xs)) :
    xs.length ≤ sizeLine ∧ ∃ (its : List Value) (n : Nat), Vals xs its ∧ xs.length = its.length ∧ s.heap.get? l = some { cls := .type "list", data := .seq its.toArray n } := by
  obtain ⟨z, its, n, r, e⟩ := h.ok I.hok
  exact ⟨z, its, n, r, r.length, e⟩
def rCatR : R2 := fun x y H Q => ∃ l b xs zs, x = .ref l ∧ y = .ref b ∧ Rd H l (.lst xs) ∧ Rd H b (.lst zs) ∧ xs.length + zs.length ≤ sizeLine ∧ ∀ p, H p = none → Q (.ref p) (upd H p (.lst (xs ++ zs)))
theorem op_catR : OpR X (binaryOp .Add) rCatR := by
  intro pins s σ H x y v u Q I rx ry h
  obtain ⟨l, b, xs, zs, rfl, rfl, hH, hB, hz, q⟩ := h
  cases rx
  cases ry
  obtain ⟨z, its, n, r, hl, e⟩ := lstR I hH
  obtain ⟨z2, its2, n2, r2, hl2, e2⟩ := lstR I hB
  refine PySem.P.add_list e e2 ?_ (by rw [List.size_toArray, List.size_toArray]; omega)
  have ea : its.toArray ++ its2.toArray = (its ++ its2).toArray := by simp
  rw [ea]
  exact ⟨.ref _, _, I.lnew (t' := s.toks) (r.append r2) (by rw [List.length_append]; omega), rfl, q _ I.fresh⟩
def rRepR : R2 := fun x y H Q => ∃ l k xs, x = .ref l ∧ y = .int k ∧ Rd H l (.lst xs) ∧ -(2 ^ 63) ≤ k ∧ k < 2 ^ 63 ∧ xs.length * k.toNat ≤ sizeLine ∧
  ∀ p, H p = none → Q (.ref p) (upd H p (.lst (List.replicate k.toNat xs).flatten))
theorem op_repR : OpR X (binaryOp .Mult) rRepR := by
  intro pins s σ H x y v u Q I rx ry h
  obtain ⟨l, k, xs, rfl, rfl, hH, h1, h2, hz, q⟩ := h
  cases rx
  obtain ⟨t, rfl⟩ := ry
  obtain ⟨z, its, n, r, hl, e⟩ := lstR I hH
  have hlen : its.toArray.size * k.toNat ≤ sizeLine := by rw [List.size_toArray, ← hl]; exact hz
  have hcap : ¬ its.toArray.size * k.toNat > (2 ^ 63 - 1) / 8 := by
    have : (sizeLine : Nat) ≤ (2 ^ 63 - 1) / 8 := by decide
    omega
  have hfit : ¬ (!Builtin.List.listFitsIndex k) = true := by
    rw [fitsIndex_both h1 h2]
    exact Bool.false_ne_true
  have hlong : ¬ Builtin.List.listTooLong (its.toArray.size * k.toNat) = true := by
    rw [notLongL hlen]
    exact Bool.false_ne_true
  have hnew : List.foldl (fun x1 x2 => x1 ++ x2) #[] (List.replicate (if its.toArray.isEmpty = true then 0 else k.toNat) its.toArray) = (List.replicate k.toNat its).flatten.toArray := by
    have f0 : ∀ m : Nat, List.foldl (fun x1 x2 => x1 ++ x2) #[] (List.replicate m its.toArray) = (List.replicate m its).flatten.toArray := fun m => by
      have := foldl_rep its m []
      rw [List.nil_append] at this
      exact this
    rw [f0]
    cases its with
    | nil => simp
    | cons a r' => rw [if_neg (by simp)]
  refine wpAny_binaryOp_repeat_ref (T := "list") (U := "int") (by decide) ⟨_, e, rfl⟩ (fun s' => typeIs_int s' k t) noFill_list_mul F.fills_int_mul F.slot_int_rmul repeat_list F.slot_int_index.lookup
    (call_meets F.slot_int_rmul (typeIs_int s k t) F.entry_int_rmul (F.args_int_rmul_2 _ _) (int___rmul___int_list k t l its.toArray n)
      ⟨e, rfl, ⟨_, e, rfl⟩, call_meets F.slot_list_mul ⟨_, e, rfl⟩ F.entry_list_mul (F.args_list_mul_2 _ _) (AutoListH.list___mul___list_int_3 l its.toArray n k t hfit hcap hlong) ⟨e, ?_⟩⟩)
  rw [hnew]
  exact ⟨.ref _, _, I.lnew (t' := s.toks) (r.rep k.toNat) (by rw [PyProof.Rows.lm_len_rep_flat, Nat.mul_comm]; exact hz), rfl, q _ I.fresh⟩
/-- // -/
def CDivX (i j : Int) : Prop := j ≠ 0 ∧ (j.natAbs < 1073741824 ∨ (0 < j ∧ j.natAbs.log2 < 9000))
theorem op_fdivX : OpR X (binaryOp .FloorDiv) (rI CDivX fun i j => .int (i.fdiv j)) := opI fun i j _ _ _ _ _ hc q => by
  obtain ⟨h0, h⟩ := hc
  rcases h with h | ⟨_, h⟩
  · exact floordiv_int h0 q (.inl (PyProof.noPylong_small h))
  · exact floordiv_int h0 q (.inl (PyProof.noPylong_of_log2 h))
theorem op_sub_bb : OpR X (binaryOp .Sub) (fun x y H Q => ∃ i k, x = .bl i ∧ y = .bl k ∧ Q (.int (bI i - bI k)) H) := by
  intro pins s σ H x y v u Q I rx ry h
  obtain ⟨i, k, rfl, rfl, q⟩ := h
  cases rx
  cases ry
  refine PyProof.Rows.sub_bool ⟨.int _, H, I.tok _, ⟨_, rfl⟩, ?_⟩
  have e : ∀ b : Bool, b2i b = bI b := fun b => by cases b <;> rfl
  rw [e, e]; exact q
end

theorem grdOk {α : Type} {b : Bool} {r : Res α} {x : α} (h : grd b r = .ok x) : b = true ∧ r = .ok x := by
  cases b with
  | true => exact ⟨rfl, h⟩
  | false => cases h
/-- a guarded operation -/
theorem PR.grd {K : Fr} {S H : Hp} {b : Bool} {r : Res Sl} {Q : VK} (h : PR K S H (grd b r) Q) : b = true ∧ PR K S H r Q := by
  cases b with
  | true => exact ⟨rfl, h⟩
  | false => exact h.elim
theorem PR.at {K : Fr} {S H : Hp} {r : Sl} {Q : VK} (h : PR K S H (.ok r) Q) {v : V} {H' : Hp} (q : ResOk K S H v H' r) : Q v H' := h v H' q
theorem smax : sizeMax = sizeLine := by rw [sizeLine_eq]; rfl

def aop : AOp → Operator
  | .add => .Add
  | .sub => .Sub
  | .mul => .Mult
  | .fdiv => .FloorDiv
  | .mod => .Mod
  | .pow => .Pow
section
variable {X : L2.Cx}
theorem bin_add : OpR X (binaryOp .Add) (rOp X.K (binD .add)) := by
  refine OpR.weak (op_add.or (op_add_ib.or (op_catR.or (op_catA.or op_add_str)))) fun x y H Q h => ?_
  obtain ⟨S, dx, dy, g, bx, bz, q⟩ := h
  cases dx <;> cases dy <;> first
    | exact q.elim
    | skip
  · cases bx; cases bz
    exact .inr (.inl ⟨_, _, rfl, rfl, q.at (.same (.int _))⟩)
  · cases bx; cases bz
    exact .inl ⟨_, _, rfl, rfl, q.at (.same (.int _))⟩
  · cases bx; cases bz
    obtain ⟨hz, q⟩ := PR.grd q
    exact .inr (.inr (.inr (.inr ⟨_, _, rfl, rfl, by have := of_decide_eq_true hz; rw [smax] at this; exact this, q.at (.same (.str _))⟩)))
  · obtain ⟨a, vs, rfl, h1, h2⟩ := bx
    obtain ⟨b, ws, rfl, h3, h4⟩ := bz
    obtain ⟨hz, q⟩ := PR.grd q
    refine .inr (.inr (.inl ⟨_, _, _, _, rfl, rfl, h1, h3, ?_, fun p hp => q.at (.lst hp (dps_app h2 h4))⟩))
    have := of_decide_eq_true hz
    rw [smax] at this
    rw [dps_len h2, dps_len h4]; exact this
  · cases bx with
    | tup h1 h2 =>
      cases bz with
      | tup h3 h4 =>
        obtain ⟨hz, q⟩ := PR.grd q
        refine .inr (.inr (.inr (.inl ⟨_, _, _, _, rfl, rfl, g.sqt h1, g.sqt h3, ?_, fun e => ?_, fun n e => ?_, fun _ _ p hp => q.at (.tup hp (dps_app h2 h4))⟩)))
        · have := of_decide_eq_true hz
          rw [smax] at this
          rw [dps_len h2, dps_len h4]; exact this
        · subst e
          cases h2
          exact q.at (.same (.tup h3 h4))
        · subst e
          cases h4
          refine q.at (.same ?_)
          rw [List.append_nil]
          exact .tup h1 h2
theorem bin_sub : OpR X (binaryOp .Sub) (rOp X.K (binD .sub)) := by
  refine OpR.weak (op_sub.or op_sub_bb) fun x y H Q h => ?_
  obtain ⟨S, dx, dy, g, bx, bz, q⟩ := h
  cases dx <;> cases dy <;> first
    | exact q.elim
    | skip
  · cases bx; cases bz
    exact .inr ⟨_, _, rfl, rfl, q.at (.same (.int _))⟩
  · cases bx; cases bz
    exact .inl ⟨_, _, rfl, rfl, q.at (.same (.int _))⟩
theorem mul_of {i j : Int} (h : mulOk i j = true) : CMul i j := by
  unfold mulOk at h
  simp only [Bool.or_eq_true, Bool.and_eq_true, decide_eq_true_eq] at h
  have e : (2 : Int) ^ 64 = 18446744073709551616 := by decide
  unfold CMul
  rw [e]
  exact h
theorem bin_mul : OpR X (binaryOp .Mult) (rOp X.K (binD .mul)) := by
  refine OpR.weak (op_mul.or (op_repR.or op_repT)) fun x y H Q h => ?_
  obtain ⟨S, dx, dy, g, bx, bz, q⟩ := h
  cases dx <;> cases dy <;> first
    | exact q.elim
    | skip
  · cases bx; cases bz
    obtain ⟨hz, q⟩ := PR.grd q
    exact .inl ⟨_, _, rfl, rfl, mul_of hz, q.at (.same (.int _))⟩
  · obtain ⟨a, vs, rfl, h1, h2⟩ := bx
    cases bz
    obtain ⟨hz, q⟩ := PR.grd q
    simp only [Bool.and_eq_true, decide_eq_true_eq] at hz
    obtain ⟨⟨z1, z2⟩, z3⟩ := hz
    refine .inr (.inl ⟨_, _, _, rfl, rfl, h1, z1, z2, ?_, fun p hp => q.at (.lst hp (dps_rep h2 _))⟩)
    rw [smax] at z3
    rw [dps_len h2]; exact z3
  · cases bx with
    | tup h1 h2 =>
      cases bz
      obtain ⟨hz, q⟩ := PR.grd q
      simp only [Bool.and_eq_true, decide_eq_true_eq] at hz
      obtain ⟨⟨⟨z1, z2⟩, z3⟩, z4⟩ := hz
      refine .inr (.inr ⟨_, _, _, rfl, rfl, g.sqt h1, ?_, z2, z3, ?_, fun p hp => q.at (.tup hp (dps_rep h2 _))⟩)
      · intro e
        subst e
        cases h2
        cases z1
      · rw [dps_len h2]; exact z4
theorem bin_fdiv : OpR X (binaryOp .FloorDiv) (rOp X.K (binD .fdiv)) := by
  refine OpR.weak op_fdivX fun x y H Q h => ?_
  obtain ⟨S, dx, dy, g, bx, bz, q⟩ := h
  cases dx <;> cases dy <;> first
    | exact q.elim
    | skip
  · cases bx; cases bz
    obtain ⟨hz, q⟩ := PR.grd q
    unfold divOk at hz
    simp only [Bool.or_eq_true, Bool.and_eq_true, decide_eq_true_eq] at hz
    refine ⟨_, _, rfl, rfl, ⟨hz.1, hz.2.imp id fun z => ⟨z.1, Nat.lt_of_lt_of_le (PySem.Flt.log2_lt_of (by decide : 0 < 8000) z.2) (by decide)⟩⟩, q.at (.same (.int _))⟩
theorem bin_mod : OpR X (binaryOp .Mod) (rOp X.K (binD .mod)) := by
  refine OpR.weak op_modN fun x y H Q h => ?_
  obtain ⟨S, dx, dy, g, bx, bz, q⟩ := h
  cases dx <;> cases dy <;> first
    | exact q.elim
    | skip
  · cases bx; cases bz
    obtain ⟨hz, q⟩ := PR.grd q
    exact ⟨_, _, rfl, rfl, of_decide_eq_true hz, q.at (.same (.int _))⟩
theorem bin_pow : OpR X (binaryOp .Pow) (rOp X.K (binD .pow)) := by
  refine OpR.weak op_pow fun x y H Q h => ?_
  obtain ⟨S, dx, dy, g, bx, bz, q⟩ := h
  cases dx <;> cases dy <;> first
    | exact q.elim
    | skip
  · cases bx; cases bz
    obtain ⟨hz, q⟩ := PR.grd q
    unfold powOk at hz
    simp only [Bool.and_eq_true, decide_eq_true_eq] at hz
    have e : (2 : Nat) ^ 64 = 18446744073709551616 := by decide
    exact ⟨_, _, rfl, rfl, ⟨hz.1.1, hz.1.2, by rw [e]; exact hz.2⟩, q.at (.same (.int _))⟩
theorem op_bin (o : AOp) : OpR X (binaryOp (aop o)) (rOp X.K (binD o)) := by
  cases o
  · exact bin_add
  · exact bin_sub
  · exact bin_mul
  · exact bin_fdiv
  · exact bin_mod
  · exact bin_pow
theorem un_negD : UnR X (unaryOp .USub) (rUn X.K negD) := by
  intro pins s σ H x v Q I rx h
  obtain ⟨S, dx, g, bx, q⟩ := h
  cases dx <;> first
    | exact q.elim
    | skip
  cases bx
  exact un_neg pins s σ H _ v Q I rx ⟨_, rfl, q.at (.same (.int _))⟩

/-! ### comparisons -/
def cop : COp → CmpOp
  | .eq => .Eq
  | .ne => .NotEq
  | .lt => .Lt
  | .le => .LtE
  | .gt => .Gt
  | .ge => .GtE
  | .is => .Is
  | .isn => .IsNot
  | .inn => .In
  | .nin => .NotIn
/-- an answer -/
def PB (r : Res Bool) (Q : Bool → Prop) : Prop := match r with
  | .ok b => Q b
  | _ => False
theorem PB.grd {b : Bool} {r : Res Bool} {Q : Bool → Prop} (h : PB (grd b r) Q) : b = true ∧ PB r Q := by
  cases b with
  | true => exact ⟨rfl, h⟩
  | false => exact h.elim
def rCp (K : Fr) (f : D → D → Res Bool) : R2 := fun x y H Q => ∃ S dx dy, Gr S H ∧ BOk K S H x dx ∧ BOk K S H y dy ∧ PB (f dx dy) fun b => Q (.bl b) H
theorem flat_of {K : Fr} {S : Hp} {v : V} {x : D} (h : Dq K S v x) (f : flat x = true) : flatV v = true := by
  cases h <;> first | rfl | cases f
theorem eqV_of {K : Fr} {S S' : Hp} {v w : V} {x y : D} (h : Dq K S v x) (k : Dq K S' w y) (f : flat x = true) (f' : flat y = true) : eqV v w = PyData.eqv x y := by
  cases h <;> cases k <;> first | rfl | (exact nomatch f) | (exact nomatch f')
theorem flat_all {K : Fr} {S : Hp} : ∀ {vs : List V} {xs : List D}, DqAll K S vs xs → xs.all flat = true → vs.all flatV = true
  | _, _, .nil, _ => rfl
  | _, _, .cons h r, f => by
    simp only [List.all_cons, Bool.and_eq_true] at f ⊢
    exact ⟨flat_of h f.1, flat_all r f.2⟩
theorem mem_of {K : Fr} {S S' : Hp} {v : V} {x : D} (h : Dq K S v x) (f : flat x = true) : ∀ {vs : List V} {xs : List D}, DqAll K S' vs xs → xs.all flat = true → inV v vs = memD x xs
  | _, _, .nil, _ => rfl
  | _, _, .cons k r, g => by
    simp only [List.all_cons, Bool.and_eq_true] at g
    have := mem_of h f r g.2
    unfold inV memD at this ⊢
    simp only [List.any_cons]
    rw [this, eqV_of k h g.1 f]
theorem ints_of {K : Fr} {S : Hp} : ∀ {vs : List V} {xs : List D} {ns : List Int}, DqAll K S vs xs → intsOf xs = some ns → vs = ns.map V.int ∧ xs = ns.map PyData.int
  | _, _, _, .nil, h => by cases h; exact ⟨rfl, rfl⟩
  | _, _, ns, .cons (d := .int i) (ds := ds) k r, h => by
    have h' : (intsOf ds).map (i :: ·) = some ns := h
    obtain ⟨ms, e, rfl⟩ := Option.map_eq_some_iff.mp h'
    obtain ⟨e1, e2⟩ := ints_of r e
    cases k
    exact ⟨by rw [e1]; rfl, by rw [e2]; rfl⟩
  | _, _, _, .cons (d := .none) _ _, h => nomatch h
  | _, _, _, .cons (d := .bool _) _ _, h => nomatch h
  | _, _, _, .cons (d := .str _) _ _, h => nomatch h
  | _, _, _, .cons (d := .list _) _ _, h => nomatch h
  | _, _, _, .cons (d := .tuple _) _ _, h => nomatch h
  | _, _, _, .cons (d := .dict _) _ _, h => nomatch h
theorem lex_eq : ∀ xs ys : List Int, HT.lexLt xs ys = Ev.lexLt xs ys
  | [], [] => rfl
  | [], _ :: _ => rfl
  | _ :: _, [] => rfl
  | x :: xs, y :: ys => by
    rw [HT.lexLt_cons]
    show _ = if x = y then Ev.lexLt xs ys else decide (x < y)
    rw [lex_eq xs ys]
theorem isN_eq {K : Fr} {S H : Hp} {v : V} {x : D} (h : BOk K S H v x) : decide (v = .non) = (match x with | .none => true | _ => false) := by
  cases x with
  | list l => obtain ⟨a, vs, rfl, _⟩ := h; rfl
  | none => cases h; rfl
  | bool b => cases h; rfl
  | int b => cases h; rfl
  | str b => cases h; rfl
  | tuple b => cases h; rfl
  | dict b => cases h
/-- == and != of data -/
theorem eq_any (hu : X.A.units + 64 < cLine) : OpR X (compareOp .Eq) (rCp X.K fun a b => grd (shp a && shp b) (.ok (PyData.eqv a b))) := by
  refine OpR.weak (op_eqD hu) fun x y H Q h => ?_
  obtain ⟨S, dx, dy, g, bx, bz, q⟩ := h
  obtain ⟨hz, q⟩ := PB.grd q
  simp only [Bool.and_eq_true] at hz
  exact ⟨dx, dy, bx.dp g, bz.dp g, hz.1, hz.2, q⟩
theorem ne_any (hu : X.A.units + 64 < cLine) : OpR X (compareOp .NotEq) (rCp X.K fun a b => grd (shp a && shp b) (.ok (!PyData.eqv a b))) := by
  refine OpR.weak (op_neD hu) fun x y H Q h => ?_
  obtain ⟨S, dx, dy, g, bx, bz, q⟩ := h
  obtain ⟨hz, q⟩ := PB.grd q
  simp only [Bool.and_eq_true] at hz
  exact ⟨dx, dy, bx.dp g, bz.dp g, hz.1, hz.2, q⟩
theorem cmp_eq (hu : X.A.units + 64 < cLine) : OpR X (compareOp .Eq) (rCp X.K (cmpD .eq)) := by
  refine OpR.weak ((eq_any hu).or op_eq) fun x y H Q h => ?_
  obtain ⟨S, dx, dy, g, bx, bz, q⟩ := h
  by_cases hi : ∃ i j, dx = .int i ∧ dy = .int j
  · obtain ⟨i, j, rfl, rfl⟩ := hi
    cases bx; cases bz
    refine .inr ⟨rfl, ?_⟩
    have q' : Q (.bl (decide (i = j))) H := q
    rw [dec_int, Bool.beq_eq_decide_eq]
    exact q'
  · refine .inl ⟨S, dx, dy, g, bx, bz, ?_⟩
    have e : cmpD .eq dx dy = grd (shp dx && shp dy) (.ok (PyData.eqv dx dy)) := by
      cases dx <;> cases dy <;> first | rfl | exact absurd ⟨_, _, rfl, rfl⟩ hi
    rw [e] at q
    exact q
theorem cmp_ne (hu : X.A.units + 64 < cLine) : OpR X (compareOp .NotEq) (rCp X.K (cmpD .ne)) := by
  refine OpR.weak ((ne_any hu).or op_ne) fun x y H Q h => ?_
  obtain ⟨S, dx, dy, g, bx, bz, q⟩ := h
  by_cases hi : ∃ i j, dx = .int i ∧ dy = .int j
  · obtain ⟨i, j, rfl, rfl⟩ := hi
    cases bx; cases bz
    refine .inr ⟨rfl, ?_⟩
    have q' : Q (.bl (!decide (i = j))) H := q
    rw [dec_int, Bool.beq_eq_decide_eq]
    exact q'
  · refine .inl ⟨S, dx, dy, g, bx, bz, ?_⟩
    have e : cmpD .ne dx dy = grd (shp dx && shp dy) (.ok (!PyData.eqv dx dy)) := by
      cases dx <;> cases dy <;> first | rfl | exact absurd ⟨_, _, rfl, rfl⟩ hi
    rw [e] at q
    exact q
theorem cmp_lt (hu : X.A.units < cLine) : OpR X (compareOp .Lt) (rCp X.K (cmpD .lt)) := by
  refine OpR.weak (op_lt.or (op_ltT hu)) fun x y H Q h => ?_
  obtain ⟨S, dx, dy, g, bx, bz, q⟩ := h
  cases dx <;> cases dy <;> first
    | exact q.elim
    | skip
  · cases bx; cases bz
    exact .inl ⟨_, _, rfl, rfl, q⟩
  · rename_i xs ys
    cases bx with
    | tup h1 h2 =>
      cases bz with
      | tup h3 h4 =>
        have q' : PB (match intsOf xs, intsOf ys with
          | some ns, some ms => .ok (Ev.lexLt ns ms)
          | _, _ => .stuck) (fun b => Q (.bl b) H) := q
        cases e1 : intsOf xs with
        | none => rw [e1] at q'; exact q'.elim
        | some ns =>
          cases e2 : intsOf ys with
          | none => rw [e1, e2] at q'; exact q'.elim
          | some ms =>
            rw [e1, e2] at q'
            obtain ⟨r1, _⟩ := ints_of h2 e1
            obtain ⟨r2, _⟩ := ints_of h4 e2
            subst r1 r2
            refine .inr ⟨_, _, ns, ms, rfl, rfl, g.sqt h1, g.sqt h3, ?_⟩
            rw [lex_eq]
            exact q'
theorem cmp_int {op : CmpOp} {o : COp} {p : Int → Int → Bool} (hr : OpR X (compareOp op) (rI0 fun i j => .bl (p i j))) (h1 : ∀ i j, cmpD o (.int i) (.int j) = .ok (p i j))
    (h2 : ∀ x y, (∀ i j, ¬ (x = .int i ∧ y = .int j)) → cmpD o x y = .stuck) : OpR X (compareOp op) (rCp X.K (cmpD o)) := by
  refine OpR.weak hr fun x y H Q h => ?_
  obtain ⟨S, dx, dy, g, bx, bz, q⟩ := h
  by_cases hi : ∃ i j, dx = .int i ∧ dy = .int j
  · obtain ⟨i, j, rfl, rfl⟩ := hi
    cases bx; cases bz
    rw [h1] at q
    exact ⟨_, _, rfl, rfl, q⟩
  · rw [h2 dx dy fun i j z => hi ⟨i, j, z⟩] at q
    exact q.elim
theorem cmp_in (neg : Bool) : OpR X (compareOp (if neg then .NotIn else .In)) (rCp X.K fun x y => match y with
    | .list l => grd (flat x && l.all flat) (.ok (if neg then !memD x l else memD x l))
    | .tuple l => grd (flat x && l.all flat) (.ok (if neg then !memD x l else memD x l))
    | _ => .stuck) := by
  have hr : OpR X (compareOp (if neg then .NotIn else .In)) (rIn X.K neg) := by
    cases neg
    · exact op_in_seq
    · exact op_notIn_seq
  refine OpR.weak hr fun x y H Q h => ?_
  obtain ⟨S, dx, dy, g, bx, bz, q⟩ := h
  cases dy <;> first
    | exact q.elim
    | skip
  · obtain ⟨a, vs, rfl, h1, h2⟩ := bz
    obtain ⟨hz, q⟩ := PB.grd q
    simp only [Bool.and_eq_true] at hz
    refine ⟨a, vs, rfl, .inl (.inl h1), flat_of (bx.q g) hz.1, flat_all h2 hz.2, ?_⟩
    rw [mem_of (bx.q g) hz.1 h2 hz.2]
    exact q
  · cases bz with
    | tup h1 h2 =>
      obtain ⟨hz, q⟩ := PB.grd q
      simp only [Bool.and_eq_true] at hz
      refine ⟨_, _, rfl, .inr (g.sqt h1), flat_of (bx.q g) hz.1, flat_all h2 hz.2, ?_⟩
      rw [mem_of (bx.q g) hz.1 h2 hz.2]
      exact q
theorem op_cmp (hu : X.A.units + 64 < cLine) (o : COp) : OpR X (compareOp (cop o)) (rCp X.K (cmpD o)) := by
  cases o with
  | eq => exact cmp_eq hu
  | ne => exact cmp_ne hu
  | lt => exact cmp_lt (by omega)
  | le => exact cmp_int op_le (fun _ _ => rfl) fun x y h => by cases x <;> cases y <;> first | rfl | exact absurd ⟨rfl, rfl⟩ (h _ _)
  | gt => exact cmp_int op_gt (fun _ _ => rfl) fun x y h => by cases x <;> cases y <;> first | rfl | exact absurd ⟨rfl, rfl⟩ (h _ _)
  | ge => exact cmp_int op_ge (fun _ _ => rfl) fun x y h => by cases x <;> cases y <;> first | rfl | exact absurd ⟨rfl, rfl⟩ (h _ _)
  | is =>
    refine OpR.weak op_isN fun x y H Q h => ?_
    obtain ⟨S, dx, dy, g, bx, bz, q⟩ := h
    cases dy <;> first
      | (exfalso; cases dx <;> exact q)
      | skip
    cases bz
    refine ⟨rfl, ?_⟩
    rw [isN_eq bx]
    cases dx <;> exact q
  | isn =>
    refine OpR.weak op_notN fun x y H Q h => ?_
    obtain ⟨S, dx, dy, g, bx, bz, q⟩ := h
    cases dy <;> first
      | (exfalso; cases dx <;> exact q)
      | skip
    cases bz
    refine ⟨rfl, ?_⟩
    rw [isN_eq bx]
    cases dx <;> exact q
  | inn =>
    refine OpR.weak (cmp_in false) fun x y H Q h => ?_
    obtain ⟨S, dx, dy, g, bx, bz, q⟩ := h
    refine ⟨S, dx, dy, g, bx, bz, ?_⟩
    cases dx <;> cases dy <;> exact q
  | nin =>
    refine OpR.weak (cmp_in true) fun x y H Q h => ?_
    obtain ⟨S, dx, dy, g, bx, bz, q⟩ := h
    refine ⟨S, dx, dy, g, bx, bz, ?_⟩
    cases dx <;> cases dy <;> exact q

/-! ### truth -/
theorem tru_of {K : Fr} {S H : Hp} (g : Gr S H) {v : V} {x : D} {b : Bool} (h : BOk K S H v x) (t : truth x = some b) : TruV K v H b := by
  cases x with
  | list l =>
    obtain ⟨a, vs, rfl, h1, h2⟩ := h
    refine .inl ⟨vs, .inl h1, ?_⟩
    have e : b = !l.isEmpty := (Option.some.inj t).symm
    rw [e]
    cases h2 <;> rfl
  | tuple l =>
    cases h with
    | tup h1 h2 =>
      refine .inr (.inl ⟨_, g.sqt h1, ?_⟩)
      have e : b = !l.isEmpty := (Option.some.inj t).symm
      rw [e]
      cases h2 <;> rfl
  | none => cases h; exact (Option.some.inj t).symm
  | bool c => cases h; exact (Option.some.inj t).symm
  | int c => cases h; exact (Option.some.inj t).symm
  | str c =>
    cases h
    have t' : (if c.length ≤ sizeMax then some ((c.length : Int) != 0) else none) = some b := t
    by_cases hz : c.length ≤ sizeMax
    · rw [if_pos hz] at t'
      exact ⟨by rw [← smax]; exact hz, (Option.some.inj t').symm⟩
    · rw [if_neg hz] at t'; cases t'
  | dict c => cases t

/-! ### an item, a slice, from behind -/
theorem IxR.weak {r r' : R2} (h : IxR X r) (w : ∀ x y H Q, r' x y H Q → r x y H Q) : IxR X r' :=
  fun value slice pins s σ H x y v u Q I rx ry q hs => h value slice pins s σ H x y v u Q I rx ry (w x y H Q q) hs
theorem ix_any : IxR X (rOp X.K ixD) := by
  refine IxR.weak (ix_list.or ix_tup) fun x y H Q h => ?_
  obtain ⟨S, dx, dy, g, bx, bz, q⟩ := h
  cases dy <;> first
    | exact q.elim
    | skip
  rename_i k
  cases bz
  have q' : PR X.K S H ((opt (seqOf dx)).bind fun l => (opt ((Ev.ixN l.length k).bind fun j => l[j]?)).bind fun y => .ok (.d y)) Q := q
  cases dx <;> first
    | exact q'.elim
    | skip
  · rename_i l
    obtain ⟨a, vs, rfl, h1, h2⟩ := bx
    have q2 : PR X.K S H ((opt ((Ev.ixN l.length k).bind fun j => l[j]?)).bind fun y => .ok (.d y)) Q := q'
    cases e1 : Ev.ixN l.length k with
    | none => rw [e1] at q2; exact q2.elim
    | some j =>
      rw [e1] at q2
      have q3 : PR X.K S H ((opt l[j]?).bind fun y => .ok (.d y)) Q := q2
      cases e2 : l[j]? with
      | none => rw [e2] at q3; exact q3.elim
      | some z =>
        rw [e2] at q3
        obtain ⟨w, ew, hw⟩ := dps_get' h2 e2
        refine .inl ⟨a, vs, k, w, rfl, rfl, .inl h1, ?_, q3 _ _ (.same hw)⟩
        show (L2.ixN vs.length k).bind (fun j => vs[j]?) = some w
        have e3 : L2.ixN vs.length k = some j := by rw [dps_len h2]; exact e1
        rw [e3]; exact ew
  · rename_i l
    cases bx with
    | @tup a vs _ h1 h2 =>
      have q2 : PR X.K S H ((opt ((Ev.ixN l.length k).bind fun j => l[j]?)).bind fun y => .ok (.d y)) Q := q'
      cases e1 : Ev.ixN l.length k with
      | none => rw [e1] at q2; exact q2.elim
      | some j =>
        rw [e1] at q2
        have q3 : PR X.K S H ((opt l[j]?).bind fun y => .ok (.d y)) Q := q2
        cases e2 : l[j]? with
        | none => rw [e2] at q3; exact q3.elim
        | some z =>
          rw [e2] at q3
          obtain ⟨w, ew, hw⟩ := dps_get' h2 e2
          refine .inr ⟨a, vs, k, w, rfl, rfl, g.sqt h1, ?_, q3 _ _ (.same hw)⟩
          show (L2.ixN vs.length k).bind (fun j => vs[j]?) = some w
          have e3 : L2.ixN vs.length k = some j := by rw [dps_len h2]; exact e1
          rw [e3]; exact ew
theorem sIx_eq (n d : Nat) (o : Option Int) : HT.sIx n d o = Ev.sIx n d o := by cases o <;> rfl
theorem dps_cut {K : Fr} {S : Hp} {vs : List V} {xs : List D} (h : DqAll K S vs xs) (lo hi : Option Int) : DqAll K S (cutV vs lo hi) (cut xs lo hi) := by
  unfold cutV cut
  rw [sIx_eq, sIx_eq, dps_len h]
  exact dps_take _ (dps_drop _ h)
def rSl (K : Fr) : V → Option Int → Option Int → Hp → VK → Prop := fun x lo hi H Q => ∃ S dx, Gr S H ∧ BOk K S H x dx ∧ PR K S H (slD lo hi dx) Q
theorem sl_any : SlR X (rSl X.K) := by
  intro pins s σ H x v vl vu lo hi sl Q I rx hs pl pu h
  obtain ⟨S, dx, g, bx, q⟩ := h
  cases dx <;> first
    | exact q.elim
    | skip
  · obtain ⟨a, vs, rfl, h1, h2⟩ := bx
    exact sl_list pins s σ H _ v vl vu lo hi sl Q I rx hs pl pu ⟨a, vs, rfl, .inl h1, fun p hp => q.at (.lst hp (dps_cut h2 lo hi))⟩
  · rename_i l
    cases bx with
    | tup h1 h2 =>
      refine sl_tupA pins s σ H _ v vl vu lo hi sl Q I rx hs pl pu ⟨_, _, rfl, g.sqt h1, fun z => ?_, fun _ p hp => q.at (.tup hp (dps_cut h2 lo hi))⟩
      have e : cut l lo hi = l := by
        rw [sIx_eq, sIx_eq, dps_len h2] at z
        unfold cut
        rw [z.1, z.2]
        simp
      have q' := q.at (v := .ref _) (H' := H) (.same (.tup h1 (by rw [e]; exact h2)))
      exact q'
/-- isinstance -/
def tyS : Ty → String
  | .int => "int"
  | .bool => "bool"
  | .str => "str"
  | .tuple => "tuple"
  | .list => "list"
def kindS : D → String
  | .none => "NoneType"
  | .bool _ => "bool"
  | .int _ => "int"
  | .str _ => "str"
  | .list _ => "list"
  | .tuple _ => "tuple"
  | .dict _ => "dict"
theorem ty_of {K : Fr} {S H : Hp} (g : Gr S H) {v : V} {x : D} (h : BOk K S H v x) : TyX K H v (.type (kindS x)) := by
  cases x with
  | list l =>
    obtain ⟨a, vs, rfl, h1, h2⟩ := h
    rcases h1 with h1 | ⟨o, h1⟩
    · exact .base (.lst h1)
    · exact .base (.frz h1)
  | tuple l =>
    cases h with
    | tup h1 h2 =>
      rcases g.sqt h1 with (h1 | ⟨o, h1⟩) | ⟨o, its, n, hk, hc, _⟩
      · exact .base (.tup h1)
      · exact .fTuple h1
      · exact .kTuple hk hc
  | none => cases h; exact .base .non
  | bool c => cases h; exact .base (.bl c)
  | int c => cases h; exact .base (.int c)
  | str c => cases h; exact .base (.str c)
  | dict c => cases h
theorem kit_ok {K : Fr} {x : D} {t : Ty} {b : Bool} (h : isTy x t = some b) : PySem.W.kitOne K (.type (kindS x)) (.type (tyS t)) = some b := by
  refine kit_ty ?_
  cases x <;> cases t <;> first
    | (cases h; show kitB _ _ = _; simp only [kindS, tyS]; decide +kernel)
    | cases h
theorem kits_ok {K : Fr} {x : D} : ∀ {ts : List Ty} {b : Bool}, isTys x ts = some b → PySem.W.kitAny K (.type (kindS x)) (ts.map fun t => .type (tyS t)) = some b
  | [], b, h => by cases h; exact kitAny_nil
  | t :: ts, b, h => by
    have h' : (match isTy x t with
      | some true => some true
      | some false => isTys x ts
      | none => none) = some b := h
    cases e : isTy x t with
    | none => rw [e] at h'; cases h'
    | some c =>
      rw [e] at h'
      cases c with
      | true => exact kitAny_cons (kit_ok e) (fun z => nomatch z) fun _ => (Option.some.inj h').symm
      | false => exact kitAny_cons (kit_ok e) (fun _ => kits_ok h') fun z => nomatch z
/-- isinstance(x, T) with the classes' values -/
def rIsiD (K : Fr) (ts : List Ty) : List V → Hp → VK → Prop := fun xs H Q => ∃ x c, xs = [x, c] ∧ (∃ S dx, Gr S H ∧ BOk K S H x dx ∧ PR K S H (isiD ts dx) Q) ∧
  ((∃ t, ts = [t] ∧ c = .ty (tyS t)) ∨ ∃ tp, c = .ref tp ∧ H tp = some (.tup (ts.map fun t => .ty (tyS t))))
theorem isi_b {K : Fr} {S H : Hp} {ts : List Ty} {dx : D} {Q : VK} (q : PR K S H (isiD ts dx) Q) : ∃ b, isTys dx ts = some b ∧ Q (.bl b) H := by
  unfold isiD at q
  cases e : isTys dx ts with
  | none => rw [e] at q; exact q.elim
  | some b => rw [e] at q; exact ⟨b, rfl, q _ _ (.same (.bl b))⟩
theorem call_isiD (ts : List Ty) : CallR X (.builtin "isinstance") (rIsiD X.K ts) := by
  refine CallR.weak (call_isi.or call_isiT) fun vs H Q h => ?_
  obtain ⟨x, c, rfl, ⟨S, dx, g, bx, q⟩, hc⟩ := h
  obtain ⟨b, e, q2⟩ := isi_b q
  rcases hc with ⟨t, rfl, rfl⟩ | ⟨tp, rfl, hT⟩
  · refine .inl ⟨x, _, _, _, b, rfl, .ty _, ty_of g bx, kit_ok ?_, q2⟩
    have e' : (match isTy dx t with
      | some true => some true
      | some false => isTys dx []
      | none => none) = some b := e
    cases z : isTy dx t with
    | none => rw [z] at e'; cases e'
    | some c => rw [z] at e'; cases c <;> exact e'
  · refine .inr ⟨x, tp, _, _, ts.map (fun t => .type (tyS t)), b, rfl, hT, ?_, ty_of g bx, kits_ok e, q2⟩
    clear e q q2 hT
    induction ts with
    | nil => exact .nil
    | cons t r ih => exact .cons (.ty _) ih

/-! ### built-in functions -/
theorem sum_of {K : Fr} {S : Hp} : ∀ {vs : List V} {xs : List D} {i : Int}, DqAll K S vs xs → sumI xs = some i → ∃ ns : List Int, vs = ns.map V.int ∧ ns.sum = i
  | _, _, _, .nil, h => ⟨[], rfl, by cases h; rfl⟩
  | _, _, i, .cons (d := .int j) (ds := ds) k r, h => by
    have h' : (sumI ds).map (j + ·) = some i := h
    obtain ⟨m, e, rfl⟩ := Option.map_eq_some_iff.mp h'
    obtain ⟨ns, e1, e2⟩ := sum_of r e
    cases k
    exact ⟨j :: ns, by rw [e1]; rfl, by rw [List.sum_cons, e2]⟩
  | _, _, _, .cons (d := .none) _ _, h => nomatch h
  | _, _, _, .cons (d := .bool _) _ _, h => nomatch h
  | _, _, _, .cons (d := .str _) _ _, h => nomatch h
  | _, _, _, .cons (d := .list _) _ _, h => nomatch h
  | _, _, _, .cons (d := .tuple _) _ _, h => nomatch h
  | _, _, _, .cons (d := .dict _) _ _, h => nomatch h
theorem bools_of {K : Fr} {S : Hp} : ∀ {vs : List V} {xs : List D} {bs : List Bool}, DqAll K S vs xs → bools xs = some bs → vs = bs.map V.bl
  | _, _, _, .nil, h => by cases h; rfl
  | _, _, bs, .cons (d := .bool j) (ds := ds) k r, h => by
    have h' : (bools ds).map (j :: ·) = some bs := h
    obtain ⟨m, e, rfl⟩ := Option.map_eq_some_iff.mp h'
    cases k
    rw [bools_of r e]; rfl
  | _, _, _, .cons (d := .none) _ _, h => nomatch h
  | _, _, _, .cons (d := .int _) _ _, h => nomatch h
  | _, _, _, .cons (d := .str _) _ _, h => nomatch h
  | _, _, _, .cons (d := .list _) _ _, h => nomatch h
  | _, _, _, .cons (d := .tuple _) _ _, h => nomatch h
  | _, _, _, .cons (d := .dict _) _ _, h => nomatch h
theorem bok1 {K : Fr} {S H : Hp} {vs : List V} {x : D} (h : BOks K S H vs [x]) : ∃ v, vs = [v] ∧ BOk K S H v x := by
  cases h with
  | cons a r => cases r; exact ⟨_, rfl, a⟩
theorem bok2 {K : Fr} {S H : Hp} {vs : List V} {x y : D} (h : BOks K S H vs [x, y]) : ∃ v w, vs = [v, w] ∧ BOk K S H v x ∧ BOk K S H w y := by
  cases h with
  | cons a r => cases r with
    | cons b r => cases r; exact ⟨_, _, rfl, a, b⟩
/-- a built-in of one argument -/
theorem blt1 {f : Value} {b : Blt} {r : List V → Hp → VK → Prop} (hr : CallR X f r) (hn : ∀ xs, (∀ x, xs ≠ [x]) → bltD b xs = .stuck)
    (h : ∀ S H v x Q, Gr S H → BOk X.K S H v x → PR X.K S H (bltD b [x]) Q → r [v] H Q) : CallR X f (rCb X.K (bltD b)) := by
  refine CallR.weak hr fun vs H Q q => ?_
  obtain ⟨S, ds, g, bs, q⟩ := q
  match ds, bs, q with
  | [x], bs, q =>
    obtain ⟨v, rfl, bx⟩ := bok1 bs
    exact h S H v x Q g bx q
  | [], _, q => rw [hn [] (fun x e => nomatch e)] at q; exact q.elim
  | x :: y :: r, _, q => rw [hn (x :: y :: r) (fun z e => by simp at e)] at q; exact q.elim
theorem b_len : CallR X (.builtin "len") (rCb X.K (bltD .len)) := by
  refine blt1 (call_len_seq.or call_len_str) (fun xs h => ?_) fun S H v x Q g bx q => ?_
  · match xs, h with
    | [], _ => rfl
    | [x], h => exact absurd rfl (h x)
    | x :: y :: r, _ => cases x <;> rfl
  · cases x <;> first
      | exact q.elim
      | skip
    · cases bx
      obtain ⟨hz, q⟩ := PR.grd q
      exact .inr ⟨_, rfl, by have := of_decide_eq_true hz; rw [smax] at this; exact this, q.at (.same (.int _))⟩
    · obtain ⟨a, vs, rfl, h1, h2⟩ := bx
      exact .inl ⟨a, vs, rfl, .inl (.inl h1), by rw [dps_len h2]; exact q.at (.same (.int _))⟩
    · cases bx with
      | tup h1 h2 => exact .inl ⟨_, _, rfl, .inr (g.sqt h1), by rw [dps_len h2]; exact q.at (.same (.int _))⟩

theorem no1 {b : Blt} (h0 : bltD b [] = .stuck) (h2 : ∀ x y r, bltD b (x :: y :: r) = .stuck) : ∀ xs, (∀ x, xs ≠ [x]) → bltD b xs = .stuck
  | [], _ => h0
  | [x], h => absurd rfl (h x)
  | x :: y :: r, _ => h2 x y r
theorem b_abs : CallR X (.builtin "abs") (rCb X.K (bltD .abs)) := by
  refine blt1 call_abs (no1 rfl fun x y r => by cases x <;> rfl) fun S H v x Q g bx q => ?_
  cases x <;> first
    | exact q.elim
    | skip
  cases bx
  exact ⟨_, rfl, q.at (.same (.int _))⟩
theorem b_int : CallR X (.type "int") (rCb X.K (bltD .int)) := by
  refine blt1 call_int1 (no1 rfl fun x y r => by cases x <;> rfl) fun S H v x Q g bx q => ?_
  cases x <;> first
    | exact q.elim
    | skip
  · cases bx
    exact .inr ⟨_, rfl, q.at (.same (.int _))⟩
  · cases bx
    exact .inl ⟨_, rfl, q.at (.same (.int _))⟩
theorem b_sum (hc : X.calm = true) : CallR X (.builtin "sum") (rCb X.K (bltD .sum)) := by
  refine blt1 (cr_sum hc) (no1 rfl fun x y r => by cases x <;> rfl) fun S H v x Q g bx q => ?_
  cases x <;> first
    | exact q.elim
    | skip
  rename_i l
  obtain ⟨a, vs, rfl, h1, h2⟩ := bx
  have q' : PR X.K S H ((opt (sumI l)).bind fun i => .ok (.d (.int i))) Q := q
  cases e : sumI l with
  | none => rw [e] at q'; exact q'.elim
  | some i =>
    rw [e] at q'
    obtain ⟨ns, rfl, e2⟩ := sum_of h2 e
    exact ⟨a, ns, rfl, .inl h1, by rw [e2]; exact q' _ _ (.same (.int _))⟩
theorem b_all (hc : X.calm = true) : CallR X (.builtin "all") (rCb X.K (bltD .all)) := by
  refine blt1 (cr_all hc) (no1 rfl fun x y r => by cases x <;> rfl) fun S H v x Q g bx q => ?_
  cases x <;> first
    | exact q.elim
    | skip
  rename_i l
  obtain ⟨a, vs, rfl, h1, h2⟩ := bx
  have q' : PR X.K S H ((opt (bools l)).bind fun bs => .ok (.d (.bool (bs.all id)))) Q := q
  cases e : bools l with
  | none => rw [e] at q'; exact q'.elim
  | some bs =>
    rw [e] at q'
    have e2 := bools_of h2 e
    subst e2
    exact ⟨a, bs, rfl, .inl h1, q' _ _ (.same (.bl _))⟩
theorem b_any (hc : X.calm = true) : CallR X (.builtin "any") (rCb X.K (bltD .any)) := by
  refine blt1 (cr_any hc) (no1 rfl fun x y r => by cases x <;> rfl) fun S H v x Q g bx q => ?_
  cases x <;> first
    | exact q.elim
    | skip
  rename_i l
  obtain ⟨a, vs, rfl, h1, h2⟩ := bx
  have q' : PR X.K S H ((opt (bools l)).bind fun bs => .ok (.d (.bool (bs.any id)))) Q := q
  cases e : bools l with
  | none => rw [e] at q'; exact q'.elim
  | some bs =>
    rw [e] at q'
    have e2 := bools_of h2 e
    subst e2
    exact ⟨a, bs, rfl, .inl h1, q' _ _ (.same (.bl _))⟩
theorem b_tuple : CallR X (.type "tuple") (rCb X.K (bltD .tuple)) := by
  refine blt1 call_tuple_of (no1 rfl fun x y r => by cases x <;> rfl) fun S H v x Q g bx q => ?_
  cases x <;> first
    | exact q.elim
    | skip
  · obtain ⟨a, vs, rfl, h1, h2⟩ := bx
    exact ⟨a, vs, rfl, .inl ⟨.inl h1, fun l hl => q.at (.tup hl h2)⟩⟩
  · cases bx with
    | tup h1 h2 => exact ⟨_, _, rfl, .inr ⟨g.sqt h1, q.at (.same (.tup h1 h2))⟩⟩
theorem b_list : CallR X (.type "list") (rCb X.K (bltD .list)) := by
  refine blt1 call_list_of (no1 rfl fun x y r => by cases x <;> rfl) fun S H v x Q g bx q => ?_
  cases x <;> first
    | exact q.elim
    | skip
  · obtain ⟨a, vs, rfl, h1, h2⟩ := bx
    exact ⟨a, vs, rfl, .inl (.inl h1), fun l hl => q.at (.lst hl h2)⟩
  · cases bx with
    | tup h1 h2 => exact ⟨_, _, rfl, .inr (g.sqt h1), fun l hl => q.at (.lst hl h2)⟩
/-- sorted ints -/
theorem insI_perm (x : Int) : ∀ l, (insI x l).Perm (x :: l)
  | [] => .refl _
  | y :: r => by
    unfold insI
    by_cases h : x ≤ y
    · rw [if_pos h]
    · rw [if_neg h]
      exact ((insI_perm x r).cons y).trans (.swap x y r)
theorem sortI_perm : ∀ l, (sortI l).Perm l
  | [] => .refl _
  | x :: r => (insI_perm x (sortI r)).trans ((sortI_perm r).cons x)
theorem insI_sorted (x : Int) : ∀ l, l.Pairwise (· ≤ ·) → (insI x l).Pairwise (· ≤ ·)
  | [], _ => by simp [insI]
  | y :: r, h => by
    unfold insI
    by_cases e : x ≤ y
    · rw [if_pos e]
      refine List.pairwise_cons.mpr ⟨fun z hz => ?_, h⟩
      rcases List.mem_cons.mp hz with rfl | hz
      · exact e
      · exact Int.le_trans e ((List.pairwise_cons.mp h).1 z hz)
    · rw [if_neg e]
      refine List.pairwise_cons.mpr ⟨fun z hz => ?_, insI_sorted x r (List.pairwise_cons.mp h).2⟩
      rcases List.mem_cons.mp ((insI_perm x r).mem_iff.mp hz) with rfl | hz
      · omega
      · exact (List.pairwise_cons.mp h).1 z hz
theorem sortI_sorted : ∀ l, (sortI l).Pairwise (· ≤ ·)
  | [] => .nil
  | x :: r => insI_sorted x _ (sortI_sorted r)
theorem sorted_one : ∀ {a b : List Int}, a.Perm b → a.Pairwise (· ≤ ·) → b.Pairwise (· ≤ ·) → a = b
  | [], b, p, _, _ => (List.Perm.nil_eq p)
  | x :: r, [], p, _, _ => absurd p.length_eq (by simp)
  | x :: r, y :: s, p, h, k => by
    have e : x = y := by
      have h1 : x ∈ y :: s := p.mem_iff.mp List.mem_cons_self
      have h2 : y ∈ x :: r := p.mem_iff.mpr List.mem_cons_self
      have a1 : y ≤ x := by
        rcases List.mem_cons.mp h1 with rfl | z
        · exact Int.le_refl _
        · exact (List.pairwise_cons.mp k).1 x z
      have a2 : x ≤ y := by
        rcases List.mem_cons.mp h2 with rfl | z
        · exact Int.le_refl _
        · exact (List.pairwise_cons.mp h).1 y z
      omega
    subst e
    rw [sorted_one ((List.perm_cons x).mp p) (List.pairwise_cons.mp h).2 (List.pairwise_cons.mp k).2]
theorem dps_ints {K : Fr} {S : Hp} : ∀ ns : List Int, DqAll K S (ns.map V.int) (ns.map PyData.int)
  | [] => .nil
  | n :: r => .cons (.int n) (dps_ints r)
theorem b_sorted : CallR X (.builtin "sorted") (rCb X.K (bltD .sorted)) := by
  refine blt1 cr_sortedI (no1 rfl fun x y r => by cases x <;> rfl) fun S H v x Q g bx q => ?_
  cases x <;> first
    | exact q.elim
    | skip
  rename_i l
  obtain ⟨a, vs, rfl, h1, h2⟩ := bx
  have q' : PR X.K S H ((opt (intsOf l)).bind fun ns => .ok (.o ((sortI ns).map .int))) Q := q
  cases e : intsOf l with
  | none => rw [e] at q'; exact q'.elim
  | some ns =>
    rw [e] at q'
    obtain ⟨e1, e2⟩ := ints_of h2 e
    subst e1
    refine ⟨a, ns, rfl, .inl h1, fun ns' p hp hs hn => ?_⟩
    rw [sorted_one (hp.trans (sortI_perm ns).symm) hs (sortI_sorted ns)]
    exact q' _ _ (.lst hn (dps_ints _))
theorem min_fold : ∀ (l : List Int) (x : Int), (l.foldl (fun a b => if b < a then b else a) x = x ∨ l.foldl (fun a b => if b < a then b else a) x ∈ l) ∧ l.foldl (fun a b => if b < a then b else a) x ≤ x ∧ ∀ y ∈ l, l.foldl (fun a b => if b < a then b else a) x ≤ y
  | [], x => ⟨.inl rfl, Int.le_refl _, fun _ h => nomatch h⟩
  | z :: r, x => by
    obtain ⟨h1, h2, h3⟩ := min_fold r (if z < x then z else x)
    simp only [List.foldl_cons]
    by_cases hz : z < x
    · rw [if_pos hz] at h1 h2 h3 ⊢
      refine ⟨.inr ?_, by omega, fun y hy => ?_⟩
      · rcases h1 with h1 | h1
        · rw [h1]; exact List.mem_cons_self
        · exact List.mem_cons_of_mem _ h1
      · rcases List.mem_cons.mp hy with rfl | hy
        · exact h2
        · exact h3 y hy
    · rw [if_neg hz] at h1 h2 h3 ⊢
      refine ⟨h1.imp id fun h => List.mem_cons_of_mem _ h, h2, fun y hy => ?_⟩
      rcases List.mem_cons.mp hy with rfl | hy
      · omega
      · exact h3 y hy
theorem max_fold : ∀ (l : List Int) (x : Int), (l.foldl (fun a b => if b > a then b else a) x = x ∨ l.foldl (fun a b => if b > a then b else a) x ∈ l) ∧ x ≤ l.foldl (fun a b => if b > a then b else a) x ∧ ∀ y ∈ l, y ≤ l.foldl (fun a b => if b > a then b else a) x
  | [], x => ⟨.inl rfl, Int.le_refl _, fun _ h => nomatch h⟩
  | z :: r, x => by
    obtain ⟨h1, h2, h3⟩ := max_fold r (if z > x then z else x)
    simp only [List.foldl_cons]
    by_cases hz : z > x
    · rw [if_pos hz] at h1 h2 h3 ⊢
      refine ⟨.inr ?_, by omega, fun y hy => ?_⟩
      · rcases h1 with h1 | h1
        · rw [h1]; exact List.mem_cons_self
        · exact List.mem_cons_of_mem _ h1
      · rcases List.mem_cons.mp hy with rfl | hy
        · exact h2
        · exact h3 y hy
    · rw [if_neg hz] at h1 h2 h3 ⊢
      refine ⟨h1.imp id fun h => List.mem_cons_of_mem _ h, h2, fun y hy => ?_⟩
      rcases List.mem_cons.mp hy with rfl | hy
      · omega
      · exact h3 y hy
theorem b_min2 (hc : X.calm = true) : CallR X (.builtin "min") (fun vs H Q => ∃ v w, vs = [v, w] ∧ ∃ S x y, Gr S H ∧ BOk X.K S H v x ∧ BOk X.K S H w y ∧ PR X.K S H (bltD .min [x, y]) Q) := by
  refine CallR.weak (call_min2 hc) fun vs H Q h => ?_
  obtain ⟨v, w, rfl, S, x, y, g, bx, bz, q⟩ := h
  cases x <;> cases y <;> first
    | exact q.elim
    | skip
  cases bx; cases bz
  exact ⟨_, _, rfl, q.at (.same (.int _))⟩
theorem b_max2 (hc : X.calm = true) : CallR X (.builtin "max") (fun vs H Q => ∃ v w, vs = [v, w] ∧ ∃ S x y, Gr S H ∧ BOk X.K S H v x ∧ BOk X.K S H w y ∧ PR X.K S H (bltD .max [x, y]) Q) := by
  refine CallR.weak (call_max2 hc) fun vs H Q h => ?_
  obtain ⟨v, w, rfl, S, x, y, g, bx, bz, q⟩ := h
  cases x <;> cases y <;> first
    | exact q.elim
    | skip
  cases bx; cases bz
  exact ⟨_, _, rfl, q.at (.same (.int _))⟩
theorem b_min1 (hc : X.calm = true) : CallR X (.builtin "min") (fun vs H Q => ∃ v, vs = [v] ∧ ∃ S x, Gr S H ∧ BOk X.K S H v x ∧ PR X.K S H (bltD .min [x]) Q) := by
  refine CallR.weak (cr_min hc) fun vs H Q h => ?_
  obtain ⟨v, rfl, S, x, g, bx, q⟩ := h
  cases x <;> first
    | exact q.elim
    | skip
  rename_i l
  obtain ⟨a, vs, rfl, h1, h2⟩ := bx
  have q' : PR X.K S H ((opt (intsOf l)).bind fun ns => (opt (minI ns)).bind fun m => .ok (.d (.int m))) Q := q
  cases e : intsOf l with
  | none => rw [e] at q'; exact q'.elim
  | some ns =>
    rw [e] at q'
    obtain ⟨e1, e2⟩ := ints_of h2 e
    subst e1
    cases ns with
    | nil => exact q'.elim
    | cons n r =>
      refine ⟨a, n :: r, rfl, .inl h1, by simp, fun m hm hle => ?_⟩
      obtain ⟨k1, k2, k3⟩ := min_fold r n
      have em : m = r.foldl (fun a b => if b < a then b else a) n := by
        have a1 : m ≤ r.foldl (fun a b => if b < a then b else a) n := by
          rcases k1 with k | k
          · rw [k]; exact hle n List.mem_cons_self
          · exact hle _ (List.mem_cons_of_mem _ k)
        have a2 : r.foldl (fun a b => if b < a then b else a) n ≤ m := by
          rcases List.mem_cons.mp hm with rfl | hm
          · exact k2
          · exact k3 m hm
        omega
      rw [em]
      exact q' _ _ (.same (.int _))
theorem b_max1 (hc : X.calm = true) : CallR X (.builtin "max") (fun vs H Q => ∃ v, vs = [v] ∧ ∃ S x, Gr S H ∧ BOk X.K S H v x ∧ PR X.K S H (bltD .max [x]) Q) := by
  refine CallR.weak (cr_max hc) fun vs H Q h => ?_
  obtain ⟨v, rfl, S, x, g, bx, q⟩ := h
  cases x <;> first
    | exact q.elim
    | skip
  rename_i l
  obtain ⟨a, vs, rfl, h1, h2⟩ := bx
  have q' : PR X.K S H ((opt (intsOf l)).bind fun ns => (opt (maxI ns)).bind fun m => .ok (.d (.int m))) Q := q
  cases e : intsOf l with
  | none => rw [e] at q'; exact q'.elim
  | some ns =>
    rw [e] at q'
    obtain ⟨e1, e2⟩ := ints_of h2 e
    subst e1
    cases ns with
    | nil => exact q'.elim
    | cons n r =>
      refine ⟨a, n :: r, rfl, .inl h1, by simp, fun m hm hle => ?_⟩
      obtain ⟨k1, k2, k3⟩ := max_fold r n
      have em : m = r.foldl (fun a b => if b > a then b else a) n := by
        have a1 : r.foldl (fun a b => if b > a then b else a) n ≤ m := by
          rcases k1 with k | k
          · rw [k]; exact hle n List.mem_cons_self
          · exact hle _ (List.mem_cons_of_mem _ k)
        have a2 : m ≤ r.foldl (fun a b => if b > a then b else a) n := by
          rcases List.mem_cons.mp hm with rfl | hm
          · exact k2
          · exact k3 m hm
        omega
      rw [em]
      exact q' _ _ (.same (.int _))
theorem b_min (hc : X.calm = true) : CallR X (.builtin "min") (rCb X.K (bltD .min)) := by
  refine CallR.weak ((b_min2 hc).or (b_min1 hc)) fun vs H Q h => ?_
  obtain ⟨S, ds, g, bs, q⟩ := h
  match ds, bs, q with
  | [], _, q => exact q.elim
  | [x], bs, q =>
    obtain ⟨v, rfl, bx⟩ := bok1 bs
    exact .inr ⟨v, rfl, S, x, g, bx, q⟩
  | [x, y], bs, q =>
    obtain ⟨v, w, rfl, bx, bz⟩ := bok2 bs
    exact .inl ⟨v, w, rfl, S, x, y, g, bx, bz, q⟩
  | x :: y :: z :: r, _, q => exfalso; cases x <;> cases y <;> exact q
theorem b_max (hc : X.calm = true) : CallR X (.builtin "max") (rCb X.K (bltD .max)) := by
  refine CallR.weak ((b_max2 hc).or (b_max1 hc)) fun vs H Q h => ?_
  obtain ⟨S, ds, g, bs, q⟩ := h
  match ds, bs, q with
  | [], _, q => exact q.elim
  | [x], bs, q =>
    obtain ⟨v, rfl, bx⟩ := bok1 bs
    exact .inr ⟨v, rfl, S, x, g, bx, q⟩
  | [x, y], bs, q =>
    obtain ⟨v, w, rfl, bx, bz⟩ := bok2 bs
    exact .inl ⟨v, w, rfl, S, x, y, g, bx, bz, q⟩
  | x :: y :: z :: r, _, q => exfalso; cases x <;> cases y <;> exact q
theorem b_gcd : CallR X (.builtin "math.gcd") (rCb X.K (bltD .gcd)) := by
  refine CallR.weak cr_gcd fun vs H Q h => ?_
  obtain ⟨S, ds, g, bs, q⟩ := h
  match ds, bs, q with
  | [], _, q => exact q.elim
  | [x], bs, q => exfalso; cases x <;> exact q
  | [x, y], bs, q =>
    obtain ⟨v, w, rfl, bx, bz⟩ := bok2 bs
    cases x <;> cases y <;> first
      | exact q.elim
      | skip
    cases bx; cases bz
    exact ⟨_, _, rfl, q.at (.same (.int _))⟩
  | x :: y :: z :: r, _, q => exfalso; cases x <;> cases y <;> exact q
end
end EvS

set_option Elab.async false
set_option linter.all false
set_option maxHeartbeats 4000000
/-! PyEvA: arguments, and what is wanted behind an evaluation. -/
namespace EvS
open PySem PySem.Spec PyProof.Rows L2 Ev

theorem Gr.nn {T T' : Hp} (h : Gr T T') {a : Addr} (q : T' a = none) : T a = none := by
  cases z : T a with
  | none => rfl
  | some o => rw [h a o z] at q; cases q
/-- how arguments stand: T ahead, T' behind (with the lists just made) -/
inductive AVs (K : Fr) (σ : SS) (S : Hp) : Hp → Hp → List V → List AV → Prop
  | nil {T : Hp} : AVs K σ S T T [] []
  | d {T T' : Hp} {v : V} {x : D} {vs : List V} {as : List AV} : Dq K S v x → AVs K σ S T T' vs as → AVs K σ S T T' (v :: vs) (.d x :: as)
  | o {T T' : Hp} {a : Addr} {ws : List V} {l : List D} {vs : List V} {as : List AV} : T a = none → DqAll K S ws l → AVs K σ S (upd T a (.lst ws)) T' vs as → AVs K σ S T T' (.ref a :: vs) (.o l :: as)
  | r {T T' : Hp} {i : Nat} {v : V} {vs : List V} {as : List AV} : σ[i]? = some (some v) → AVs K σ S T T' vs as → AVs K σ S T T' (v :: vs) (.r i :: as)
section
variable {K : Fr} {σ : SS} {e : SEnv} {S S' T T' T1 T2 H H' : Hp} {vs ws : List V} {as bs : List AV}
theorem AVs.gr (g : Gr S S') : ∀ {T T' : Hp} {vs : List V} {as : List AV}, AVs K σ S T T' vs as → AVs K σ S' T T' vs as
  | _, _, _, _, .nil => .nil
  | _, _, _, _, .d h w => .d (g.dp h) (AVs.gr g w)
  | _, _, _, _, .o h k w => .o h (g.dps k) (AVs.gr g w)
  | _, _, _, _, .r h w => .r h (AVs.gr g w)
theorem AVs.t : ∀ {T T' : Hp} {vs : List V} {as : List AV}, AVs K σ S T T' vs as → Gr T T'
  | _, _, _, _, .nil => Gr.refl _
  | _, _, _, _, .d _ w => AVs.t w
  | _, _, _, _, .o h _ w => (gr_upd h).trans (AVs.t w)
  | _, _, _, _, .r _ w => AVs.t w
theorem AVs.cons : ∀ {T T1 T2 : Hp} {v : V} {a : AV} {vs : List V} {as : List AV}, AVs K σ S T T1 [v] [a] → AVs K σ S T1 T2 vs as → AVs K σ S T T2 (v :: vs) (a :: as)
  | _, _, _, _, _, _, _, .d h .nil, q => .d h q
  | _, _, _, _, _, _, _, .o h k .nil, q => .o h k q
  | _, _, _, _, _, _, _, .r h .nil, q => .r h q
/-- a list just made is shared from now on -/
theorem StO.thaw {a : Addr} {ws : List V} (I : StO K σ e S (upd T a (.lst ws)) H) (h : T a = none) : Gr S (upd S a (.lst ws)) ∧ StO K σ e (upd S a (.lst ws)) T H := by
  have hS : S a = none := by
    cases q : S a with
    | none => rfl
    | some u => have := I.dj a u q; rw [upd_same] at this; cases this
  have hH : H a = some (.lst ws) := I.t a _ upd_same
  have g : Gr S (upd S a (.lst ws)) := gr_upd hS
  refine ⟨g, I.len, fun b u q => ?_, fun b u q => ?_, fun b u q => ?_, fun i x q => ?_, I.inj⟩
  · by_cases hb : b = a
    · subst hb; rw [upd_same] at q; rw [hH]; exact q
    · rw [upd_ne hb] at q; exact I.s b u q
  · have hb : b ≠ a := fun z => by subst z; rw [h] at q; cases q
    exact I.t b u (by rw [upd_ne hb]; exact q)
  · by_cases hb : b = a
    · subst hb; exact h
    · rw [upd_ne hb] at q
      have := I.dj b u q
      rw [upd_ne hb] at this; exact this
  · have := I.sl i x q
    cases x with
    | d y => obtain ⟨v, r1, r2⟩ := this; exact ⟨v, r1, g.dp r2⟩
    | o l =>
      obtain ⟨b, ws', r1, r2, r3, r4, r5⟩ := this
      have hb : b ≠ a := fun z => by subst z; rw [upd_same] at r5; cases r5
      rw [upd_ne hb] at r5
      exact ⟨b, ws', r1, r2, g.dps r3, by rw [upd_ne hb]; exact r4, r5⟩
theorem rd1_ok {v : V} {a : AV} {x : D} (A : AVs K σ S T T1 [v] [a]) (g : Gr S S') (t : Gr T1 T2) (I : StO K σ e S' T2 H) (h : rd1 e a = .ok x) : BOk K S' H v x := by
  cases A with
  | d k r => cases h; exact (g.dp k).b I.s
  | o k l r =>
    cases h
    cases r
    exact ⟨_, _, rfl, .inl (I.t _ _ (t _ _ upd_same)), g.dps l⟩
  | @r _ _ i _ _ _ k r =>
    have h' : (match getE e i with
      | some s => Res.ok (frz s)
      | none => .stuck) = .ok x := h
    cases z : getE e i with
    | none => rw [z] at h'; cases h'
    | some s =>
      rw [z] at h'
      cases h'
      cases s with
      | d y =>
        obtain ⟨w, q1, q2⟩ := I.data z
        rw [k] at q1; cases q1
        exact q2.b I.s
      | o l =>
        obtain ⟨b, ws, q1, q2, q3, _⟩ := I.own z
        rw [k] at q1; cases q1
        exact ⟨b, ws, rfl, .inl q2, q3⟩
theorem bindOk {α β : Type} {r : Res α} {f : α → Res β} {b : β} (h : r.bind f = .ok b) : ∃ a, r = .ok a ∧ f a = .ok b := by
  cases r with
  | ok a => exact ⟨a, rfl, h⟩
  | err x e => cases h
  | stuck => cases h
theorem rdB_ok : ∀ {T T1 : Hp} {vs : List V} {as : List AV} {xs : List D}, AVs K σ S T T1 vs as → Gr S S' → Gr T1 T2 → StO K σ e S' T2 H → rdB e as = .ok xs → BOks K S' H vs xs
  | _, _, _, _, _, .nil, _, _, _, h => by cases h; exact .nil
  | _, _, _, _, _, .d k r, g, t, I, h => by
    obtain ⟨ys, h1, h2⟩ := bindOk h
    cases h2
    exact .cons ((g.dp k).b I.s) (rdB_ok r g t I h1)
  | _, _, _, _, _, .o k l r, g, t, I, h => by
    obtain ⟨ys, h1, h2⟩ := bindOk h
    cases h2
    exact .cons ⟨_, _, rfl, .inl (I.t _ _ (t _ _ (r.t _ _ upd_same))), g.dps l⟩ (rdB_ok r g t I h1)
  | _, _, _, _, _, .r (i := i) k r, g, t, I, h => by
    have h' : (match getE e i with
      | some s => (rdB e _).bind fun xs => .ok (frz s :: xs)
      | none => .stuck) = .ok _ := h
    cases z : getE e i with
    | none => rw [z] at h'; cases h'
    | some s =>
      rw [z] at h'
      obtain ⟨ys, h1, h2⟩ := bindOk h'
      cases h2
      refine .cons ?_ (rdB_ok r g t I h1)
      cases s with
      | d y =>
        obtain ⟨w, q1, q2⟩ := I.data z
        rw [k] at q1; cases q1
        exact q2.b I.s
      | o l =>
        obtain ⟨b, ws, q1, q2, q3, _⟩ := I.own z
        rw [k] at q1; cases q1
        exact ⟨b, ws, rfl, .inl q2, q3⟩
theorem rdF_ok : ∀ {T T' S : Hp} {e : SEnv} {vs : List V} {as : List AV} {p : List D × SEnv}, AVs K σ S T T' vs as → StO K σ e S T' H → rdF e as = .ok p → ∃ S', Gr S S' ∧ StO K σ p.2 S' T H ∧ DqAll K S' vs p.1
  | _, _, S, _, _, _, _, .nil, I, h => by cases h; exact ⟨S, Gr.refl S, I, .nil⟩
  | _, _, _, _, _, _, _, .d k r, I, h => by
    obtain ⟨p, h1, h2⟩ := bindOk h
    cases h2
    obtain ⟨S', g, J, d⟩ := rdF_ok r I h1
    exact ⟨S', g, J, .cons (g.dp k) d⟩
  | _, _, _, _, _, _, _, .o k l r, I, h => by
    obtain ⟨p, h1, h2⟩ := bindOk h
    cases h2
    obtain ⟨S', g, J, d⟩ := rdF_ok r I h1
    obtain ⟨g2, J2⟩ := J.thaw k
    exact ⟨_, g.trans g2, J2, .cons (.lst (.inl upd_same) (g2.dps (g.dps l))) (g2.dps d)⟩
  | _, _, S, e, _, _, _, .r (i := i) k r, I, h => by
    have h' : (match getE e i with
      | some (.d x) => (rdF e _).bind fun p => .ok (x :: p.1, p.2)
      | some (.o l) => (rdF (setE e i (some (.d (.list l)))) _).bind fun p => .ok (.list l :: p.1, p.2)
      | none => .stuck) = .ok _ := h
    cases z : getE e i with
    | none => rw [z] at h'; cases h'
    | some s =>
      rw [z] at h'
      cases s with
      | d y =>
        obtain ⟨p, h1, h2⟩ := bindOk h'
        cases h2
        obtain ⟨S', g, J, d⟩ := rdF_ok r I h1
        obtain ⟨w, q1, q2⟩ := I.data z
        rw [k] at q1; cases q1
        exact ⟨S', g, J, .cons (g.dp q2) d⟩
      | o l =>
        obtain ⟨p, h1, h2⟩ := bindOk h'
        cases h2
        obtain ⟨S1, b, ws, g1, J1, q1, q2, q3⟩ := I.freeze z
        obtain ⟨S', g, J, d⟩ := rdF_ok (r.gr g1) J1 h1
        rw [k] at q1; cases q1
        exact ⟨S', g1.trans g, J, .cons (g.dp (.lst q2 q3)) d⟩
theorem rdP_ok : ∀ {T T' S : Hp} {e : SEnv} {vs : List V} {as : List AV} {p : List Sl × SEnv}, AVs K σ S T T' vs as → StO K σ e S T' H → rdP e as = .ok p → ∃ S', Gr S S' ∧ StO K σ p.2 S' T' H ∧ AVs K σ S' T T' vs (p.1.map avOf)
  | _, _, S, _, _, _, _, .nil, I, h => by cases h; exact ⟨S, Gr.refl S, I, .nil⟩
  | _, _, _, _, _, _, _, .d k r, I, h => by
    obtain ⟨p, h1, h2⟩ := bindOk h
    cases h2
    obtain ⟨S', g, J, d⟩ := rdP_ok r I h1
    exact ⟨S', g, J, .d (g.dp k) d⟩
  | _, _, _, _, _, _, _, .o k l r, I, h => by
    obtain ⟨p, h1, h2⟩ := bindOk h
    cases h2
    obtain ⟨S', g, J, d⟩ := rdP_ok r I h1
    exact ⟨S', g, J, .o k (g.dps l) d⟩
  | _, _, S, e, _, _, _, .r (i := i) k r, I, h => by
    have h' : (match getE e i with
      | some (.d x) => (rdP e _).bind fun p => .ok (Sl.d x :: p.1, p.2)
      | some (.o l) => (rdP (setE e i (some (.d (.list l)))) _).bind fun p => .ok (Sl.d (.list l) :: p.1, p.2)
      | none => .stuck) = .ok _ := h
    cases z : getE e i with
    | none => rw [z] at h'; cases h'
    | some s =>
      rw [z] at h'
      cases s with
      | d y =>
        obtain ⟨p, h1, h2⟩ := bindOk h'
        cases h2
        obtain ⟨S', g, J, d⟩ := rdP_ok r I h1
        obtain ⟨w, q1, q2⟩ := I.data z
        rw [k] at q1; cases q1
        exact ⟨S', g, J, .d (g.dp q2) d⟩
      | o l =>
        obtain ⟨p, h1, h2⟩ := bindOk h'
        cases h2
        obtain ⟨S1, b, ws, g1, J1, q1, q2, q3⟩ := I.freeze z
        obtain ⟨S', g, J, d⟩ := rdP_ok (r.gr g1) J1 h1
        rw [k] at q1; cases q1
        exact ⟨S', g1.trans g, J, .d (g.dp (.lst q2 q3)) d⟩
/-- the first of the lists just made is let go -/
theorem AVs.pull {a : Addr} {ws : List V} : ∀ {T T' : Hp} {vs : List V} {as : List AV}, AVs K σ S (upd T a (.lst ws)) T' vs as → T a = none → ∃ T2, T' = upd T2 a (.lst ws) ∧ T2 a = none ∧ AVs K σ S T T2 vs as := by
  intro T T' vs as A
  generalize hU : upd T a (.lst ws) = U at A
  induction A generalizing T with
  | nil => intro h; exact ⟨T, hU.symm, h, .nil⟩
  | d k r ih =>
    intro h
    obtain ⟨T2, e1, e2, e3⟩ := ih hU h
    exact ⟨T2, e1, e2, .d k e3⟩
  | r k r ih =>
    intro h
    obtain ⟨T2, e1, e2, e3⟩ := ih hU h
    exact ⟨T2, e1, e2, .r k e3⟩
  | @o U U' b us l vs as k q r ih =>
    intro h
    subst hU
    have hb : b ≠ a := fun z => by subst z; rw [upd_same] at k; cases k
    have hTb : T b = none := by rw [upd_ne hb] at k; exact k
    have e : upd (upd T b (.lst us)) a (.lst ws) = upd (upd T a (.lst ws)) b (.lst us) := by
      funext c
      unfold upd
      by_cases h1 : c = a
      · by_cases h2 : c = b
        · exact absurd (h2.symm.trans h1) hb
        · simp [h1]
          exact fun z => absurd z.symm hb
      · by_cases h2 : c = b
        · subst h2; simp [h1]
        · simp [h1, h2]
    obtain ⟨T2, e1, e2, e3⟩ := ih e (by rw [upd_ne (Ne.symm hb)]; exact h)
    exact ⟨T2, e1, e2, .o hTb q e3⟩
end
end EvS

set_option Elab.async false
set_option linter.all false
set_option maxHeartbeats 4000000
/-! PyEvC: that a text is the one that the evaluator's term says; what stands around a text. -/
namespace EvS
open PySem PySem.Spec PyProof.Rows L2 Ev

/-- the program's own names: of functions, of constants, of error classes; free: names that the module leaves to the built-in ones -/
structure Ren where
  fn : Nat → Str
  fnOk : Nat → Bool
  gl : Nat → Str
  glOk : Nat → Bool
  ex : Nat → Str
  exOk : Nat → Bool
  free : List Str
  gcd : Bool

def nmOk (x : Str) : Bool := !(x == "__debug__") && (!(x == "__classdict__") && decide (x ≠ "__name__"))
def visB (sc : Scope) (x : Str) : Bool := match sc.names.lookup x with
  | some .local | some .cell | some .free => true
  | _ => false
def glB (sc : Scope) (x : Str) : Bool := decide (sc.names.lookup x = some .globalImplicit) && nmOk x
def nst : Expr → Bool
  | .Starred _ _ => false
  | _ => true
def nosl : Expr → Bool
  | .Slice _ _ _ _ => false
  | _ => true
def noset : Expr → Bool
  | .Set _ _ _ => false
  | _ => true
def nolc : Expr → Bool
  | .ListComp _ _ _ _ | .SetComp _ _ _ _ | .DictComp _ _ _ _ _ => false
  | _ => true
def nocall : Expr → Bool
  | .Call _ _ _ _ => false
  | _ => true
def bltS : Blt → Str
  | .len => "len"
  | .abs => "abs"
  | .min => "min"
  | .max => "max"
  | .sum => "sum"
  | .all => "all"
  | .any => "any"
  | .tuple => "tuple"
  | .list => "list"
  | .int => "int"
  | .sorted => "sorted"
  | .set => "set"
  | .str => "str"
  | .gcd => "gcd"
  | .range => "range"
  | .zip => "zip"
  | .enumerate => "enumerate"
/-- the built-ins that are walked as values -/
def bltOk : Blt → Bool
  | .len | .abs | .min | .max | .sum | .all | .any | .tuple | .list | .int | .sorted | .gcd => true
  | _ => false
def bltFree (R : Ren) : Blt → Bool
  | .gcd => R.gcd
  | b => R.free.contains (bltS b)
def tyN : Ty → Str
  | .int => "int"
  | .bool => "bool"
  | .str => "str"
  | .tuple => "tuple"
  | .list => "list"
def constB : D → Const → Bool
  | .int i, .int j => decide (i = j)
  | .bool b, .bool c => b == c
  | .str x, .str y => decide (x = y)
  | .none, .none => true
  | _, _ => false
/-- a name of the scope at the place i -/
def nameB (N : List Str) (sc : Scope) (i : Nat) : Expr → Bool
  | .Name x _ => decide (N[i]? = some x) && (visB sc x && nmOk x)
  | _ => false
def glNm (sc : Scope) (y : Str) : Expr → Bool
  | .Name x _ => decide (x = y) && glB sc x
  | _ => false
mutual
/-- a target -/
def chkP (N : List Str) (sc : Scope) (fb : Str → Bool) : Pat → Expr → Bool
  | .n i, .Name x _ => decide (N[i]? = some x) && match sc.names.lookup x with
    | some .local => true
    | some .cell => fb x
    | _ => false
  | .t ps, .Tuple es _ _ => chkPs N sc fb ps es
  | _, _ => false
def chkPs (N : List Str) (sc : Scope) (fb : Str → Bool) : List Pat → List Expr → Bool
  | [], [] => true
  | p :: ps, e :: es => nst e && (chkP N sc fb p e && chkPs N sc fb ps es)
  | _, _ => false
end
def tysB (R : Ren) (sc : Scope) : List Ty → Expr → Bool
  | [t], .Name x _ => decide (x = tyN t) && (glB sc x && R.free.contains x)
  | ts, .Tuple es _ _ => go ts es && decide (ts.length ≤ 10)
  | _, _ => false
where go : List Ty → List Expr → Bool
  | [], [] => true
  | t :: ts, .Name x _ :: es => decide (x = tyN t) && (glB sc x && (R.free.contains x && go ts es))
  | _, _ => false
mutual
/-- tests that the layer walks: no if-expression -/
def chkT : E → Bool
  | .ife _ _ _ => false
  | .not a => chkT a
  | .and l => chkTL l
  | .or l => chkTL l
  | _ => true
def chkTL : List E → Bool
  | [] => true
  | a :: l => chkT a && chkTL l
end
section
variable (R : Ren) (N : List Str)
def isTup : Expr → Bool
  | .Tuple _ _ _ => true
  | _ => false
/-- built-ins that are walked alone -/
def walkOk (b : Blt) (n : Nat) : Bool := match b with
  | .range => decide (n = 1) || decide (n = 2)
  | .zip => decide (n = 2)
  | .enumerate => decide (n = 1)
  | _ => false
/-- pairs want a target of two -/
def itOk (tg : Expr) : E → Bool
  | .blt .zip _ => isTup tg
  | .blt .enumerate _ => isTup tg
  | _ => true
/-- is it a plain value (no iterator) -/
def valB : E → Bool
  | .blt .range _ | .blt .zip _ | .blt .enumerate _ => false
  | _ => true
mutual
def chkE (sc : Scope) (fb : Str → Bool) : E → Expr → Bool
  | .v i, x => nameB N sc i x
  | .c d, .Constant k _ _ => constB d k
  | .g k, x => R.glOk k && glNm sc (R.gl k) x
  | .bin o a b, .BinOp x op y _ => decide (op = aop o) && (valB a && valB b && (chkE sc fb a x && chkE sc fb b y))
  | .neg a, .UnaryOp .USub x _ => valB a && chkE sc fb a x
  | .cmp o a b, .Compare x [op] [y] _ => decide (op = cop o) && (noset y && (valB a && valB b && (chkE sc fb a x && chkE sc fb b y)))
  | .chain o q a b c, .Compare x [op, op'] [y, z] _ => decide (op = cop o) && (decide (op' = cop q) && (noset z && (valB a && valB b && valB c && (chkE sc fb a x && (chkE sc fb b y && chkE sc fb c z)))))
  | .and l, .BoolOp .And xs _ => chkL sc fb l xs && !l.isEmpty
  | .or l, .BoolOp .Or xs _ => chkL sc fb l xs && !l.isEmpty
  | .not a, .UnaryOp .Not x _ => valB a && chkE sc fb a x
  | .ife t a b, .IfExp c x y _ => valB t && valB a && valB b && (chkT t && (chkE sc fb t c && (chkE sc fb a x && chkE sc fb b y)))
  | .tup l, .Tuple xs _ _ => chkL sc fb l xs
  | .lst l, .List xs _ => chkL sc fb l xs
  | .ix a i, .Subscript x y _ => nosl y && (valB a && valB i && (chkE sc fb a x && chkE sc fb i y))
  | .sl a lo hi, .Subscript x (.Slice l h none _) _ => valB a && (chkE sc fb a x && (chkO sc fb lo l && chkO sc fb hi h))
  | .rev a, .Subscript x (.Slice none none (some (.UnaryOp .USub (.Constant (.int 1) _ _) _)) _) _ => valB a && chkE sc fb a x
  | .call f l, .Call g xs [] _ => glNm sc (R.fn f) g && (R.fnOk f && chkL sc fb l xs)
  | .blt b l, .Call g xs [] _ => glNm sc (bltS b) g && (((bltOk b || walkOk b l.length) && bltFree R b) && (!l.isEmpty && chkL sc fb l xs))
  | .isi a ts, .Call g [x, y] [] _ => glNm sc "isinstance" g && (R.free.contains "isinstance" && (nst x && nst y && (valB a && (chkE sc fb a x && tysB R sc ts y))))
  | .lrg l, .Call g [.Call h xs [] _] [] _ => glNm sc "list" g && (glNm sc "range" h && (R.free.contains "list" && (R.free.contains "range" && ((decide (l.length = 1) || decide (l.length = 2)) && chkL sc fb l xs))))
  | .lc elt p it ifs, .ListComp e [⟨tg, iter, is, 0⟩] scope _ => (noset iter && (itOk tg it && chkE sc fb it iter)) && (blkC N sc scope ((slots p).filterMap fun i => N[i]?.map fun x => (x, i)) && (chkP N (relS scope sc) (fun x => scope.names.lookup x == some .cell) p tg &&
      (chkTs (relS scope sc) (fun x => scope.names.lookup x == some .cell) ifs is && (valB elt && chkE (relS scope sc) (fun x => scope.names.lookup x == some .cell) elt e))))
  | .pop i a, .Call (.Attribute x nm apos) es [] cpos => decide (nm = "pop") && (nameB N sc i x && (decide (apos.endLine = cpos.line) && (match es with
    | [] => a.isNone
    | [y] => nst y && chkO sc fb a (some y)
    | _ => false)))
  | _, _ => false
def chkL (sc : Scope) (fb : Str → Bool) : List E → List Expr → Bool
  | [], [] => true
  | a :: l, x :: xs => nst x && (valB a && chkE sc fb a x) && chkL sc fb l xs
  | _, _ => false
def chkO (sc : Scope) (fb : Str → Bool) : Option E → Option Expr → Bool
  | none, none => true
  | some a, some x => valB a && chkE sc fb a x
  | _, _ => false
def chkTs (sc : Scope) (fb : Str → Bool) : List E → List Expr → Bool
  | [], [] => true
  | [a], [x] => valB a && (chkT a && chkE sc fb a x)
  | _, _ => false
end
end
end EvS

set_option Elab.async false
set_option linter.all false
set_option maxHeartbeats 4000000
/-! PyEvP: what is wanted behind an evaluation. -/
namespace EvS
open PySem PySem.Spec PyProof.Rows L2 Ev

section
variable (K : Fr) (xa : Nat → Addr) (W : WX) (σ : SS)
/-- behind an evaluation: k of its value, or the wish of an exception -/
def Post {α : Type} (S T : Hp) (r : Res (α × SEnv)) (k : α → SEnv → Hp → Hp → Prop) : Prop := match r with
  | .ok p => ∀ S' H', Gr S S' → StO K σ p.2 S' T H' → k p.1 p.2 S' H'
  | .err x e => ∀ S' H', Gr S S' → StO K σ e S' T H' → W (.ref (xa x)) none σ H'
  | .stuck => False
/-- .. of a value -/
def PQ (S T : Hp) (r : Res (Sl × SEnv)) (Q : VK) : Prop := Post K xa W σ S T r fun r e S' H' => ∀ v, RvOk K σ e S' T H' v r → Q v H'
/-- .. of a test -/
def PB2 (S T : Hp) (r : Res (Sl × SEnv)) (Q : Bool → Hp → Prop) : Prop := Post K xa W σ S T r fun r e S' H' => ∃ b, truth (frz r) = some b ∧ Q b H'
/-- behind an argument, behind arguments -/
def PostA (S T : Hp) (r : Res (AV × SEnv)) (k : V → AV → SEnv → Hp → Hp → Hp → Prop) : Prop := match r with
  | .ok p => ∀ v S' T' H', Gr S S' → AVs K σ S' T T' [v] [p.1] → StO K σ p.2 S' T' H' → k v p.1 p.2 S' T' H'
  | .err x e => ∀ S' H', Gr S S' → StO K σ e S' T H' → W (.ref (xa x)) none σ H'
  | .stuck => False
def PostL (S T : Hp) (r : Res (List AV × SEnv)) (k : List V → List AV → SEnv → Hp → Hp → Hp → Prop) : Prop := match r with
  | .ok p => ∀ vs S' T' H', Gr S S' → AVs K σ S' T T' vs p.1 → StO K σ p.2 S' T' H' → k vs p.1 p.2 S' T' H'
  | .err x e => ∀ S' H', Gr S S' → StO K σ e S' T H' → W (.ref (xa x)) none σ H'
  | .stuck => False
/-- the readings -/
def rdE (F : SEnv → Res (Sl × SEnv)) : TE := fun σ H Q => ∃ e S T, StO K σ e S T H ∧ PQ K xa W σ S T (F e) Q
def rdT (F : SEnv → Res (Sl × SEnv)) : TT := fun σ H Q => ∃ e S T, StO K σ e S T H ∧ PB2 K xa W σ S T (F e) Q
def argT (a : E) (F : SEnv → Res (Sl × SEnv)) : TE := match a with
  | .v i => tVar i
  | _ => rdE K xa W F
end
section
variable {K : Fr} {xa : Nat → Addr} {W : WX} {σ : SS} {e : SEnv} {S S' T T' H H' : Hp}
theorem RvOk.less {v : V} {r : Sl} (h : RvOk K σ e S T' H v r) (t : Gr T T') : RvOk K σ e S T H v r := by
  cases r with
  | d x => exact h
  | o l => obtain ⟨a, vs, h1, h2, h3, h4, h5, h6⟩ := h; exact ⟨a, vs, h1, h2, h3, h4, t.nn h5, h6⟩
theorem Post.imp {α : Type} {r : Res (α × SEnv)} {k k' : α → SEnv → Hp → Hp → Prop} (h : Post K xa W σ S T r k) (g : Gr S S') (t : Gr T T')
    (f : ∀ a e S'' H'', Gr S' S'' → StO K σ e S'' T' H'' → k a e S'' H'' → k' a e S'' H'') : Post K xa W σ S' T' r k' := by
  cases r with
  | ok p => exact fun S'' H'' g' I => f _ _ _ _ g' I (h S'' H'' (g.trans g') (I.less t))
  | err x e => exact fun S'' H'' g' I => h S'' H'' (g.trans g') (I.less t)
  | stuck => exact h
theorem PQ.mono {r : Res (Sl × SEnv)} {Q : VK} (h : PQ K xa W σ S T r Q) (g : Gr S S') (t : Gr T T') : PQ K xa W σ S' T' r Q :=
  Post.imp h g t fun a e S'' H'' g' I k v rv => k v (rv.less t)
theorem PB2.mono {r : Res (Sl × SEnv)} {Q : Bool → Hp → Prop} (h : PB2 K xa W σ S T r Q) (g : Gr S S') (t : Gr T T') : PB2 K xa W σ S' T' r Q :=
  Post.imp h g t fun a e S'' H'' g' I k => k
theorem Post.bind {α β : Type} {r : Res (α × SEnv)} {f : α × SEnv → Res (β × SEnv)} {k : β → SEnv → Hp → Hp → Prop} (h : Post K xa W σ S T (r.bind f) k) :
    Post K xa W σ S T r fun a e S' H' => Post K xa W σ S' T (f (a, e)) k := by
  cases r with
  | ok p => exact fun S' H' g I => Post.imp h g (Gr.refl T) fun _ _ _ _ _ _ x => x
  | err x e => exact h
  | stuck => exact h
theorem PQ.bind {α : Type} {r : Res (α × SEnv)} {f : α × SEnv → Res (Sl × SEnv)} {Q : VK} (h : PQ K xa W σ S T (r.bind f) Q) :
    Post K xa W σ S T r fun a e S' H' => PQ K xa W σ S' T (f (a, e)) Q := Post.bind h
theorem PQ.bindA {r : Res (AV × SEnv)} {f : AV × SEnv → Res (Sl × SEnv)} {Q : VK} (h : PQ K xa W σ S T (r.bind f) Q) :
    PostA K xa W σ S T r fun v a e S' T' H' => PQ K xa W σ S' T' (f (a, e)) Q := by
  cases r with
  | ok p => exact fun v S' T' H' g A I => PQ.mono h g A.t
  | err x e => exact h
  | stuck => exact h
theorem PB2.bindA {r : Res (AV × SEnv)} {f : AV × SEnv → Res (Sl × SEnv)} {Q : Bool → Hp → Prop} (h : PB2 K xa W σ S T (r.bind f) Q) :
    PostA K xa W σ S T r fun v a e S' T' H' => PB2 K xa W σ S' T' (f (a, e)) Q := by
  cases r with
  | ok p => exact fun v S' T' H' g A I => PB2.mono h g A.t
  | err x e => exact h
  | stuck => exact h
theorem PQ.bindL {r : Res (List AV × SEnv)} {f : List AV × SEnv → Res (Sl × SEnv)} {Q : VK} (h : PQ K xa W σ S T (r.bind f) Q) :
    PostL K xa W σ S T r fun vs as e S' T' H' => PQ K xa W σ S' T' (f (as, e)) Q := by
  cases r with
  | ok p => exact fun v S' T' H' g A I => PQ.mono h g A.t
  | err x e => exact h
  | stuck => exact h
theorem PostA.imp {r : Res (AV × SEnv)} {k k' : V → AV → SEnv → Hp → Hp → Hp → Prop} (h : PostA K xa W σ S T r k)
    (f : ∀ v a e S' T' H', Gr S S' → AVs K σ S' T T' [v] [a] → StO K σ e S' T' H' → k v a e S' T' H' → k' v a e S' T' H') : PostA K xa W σ S T r k' := by
  cases r with
  | ok p => exact fun v S' T' H' g A I => f _ _ _ _ _ _ g A I (h v S' T' H' g A I)
  | err x e => exact h
  | stuck => exact h
/-- the same, T0 what was held ahead of all -/
theorem PQ.bindA0 {T0 : Hp} {r : Res (AV × SEnv)} {f : AV × SEnv → Res (Sl × SEnv)} {Q : VK} (h : PQ K xa W σ S T0 (r.bind f) Q) (t : Gr T0 T) :
    PostA K xa W σ S T r fun v a e S' T' H' => PQ K xa W σ S' T0 (f (a, e)) Q := by
  cases r with
  | ok p => exact fun v S' T' H' g A I => PQ.mono h g (Gr.refl _)
  | err x e => exact fun S' H' g I => h S' H' g (I.less t)
  | stuck => exact h
theorem PQ.bindL0 {T0 : Hp} {r : Res (List AV × SEnv)} {f : List AV × SEnv → Res (Sl × SEnv)} {Q : VK} (h : PQ K xa W σ S T0 (r.bind f) Q) (t : Gr T0 T) :
    PostL K xa W σ S T r fun vs as e S' T' H' => PQ K xa W σ S' T0 (f (as, e)) Q := by
  cases r with
  | ok p => exact fun v S' T' H' g A I => PQ.mono h g (Gr.refl _)
  | err x e => exact fun S' H' g I => h S' H' g (I.less t)
  | stuck => exact h
/-- an argument -/
theorem arg_ok {a : E} {F : SEnv → Res (Sl × SEnv)} {R : V → Hp → Prop} {k : V → AV → SEnv → Hp → Hp → Hp → Prop} (I : StO K σ e S T H) (h : PostA K xa W σ S T (ar a e (F e)) k) (f : ∀ v a e S' T' H', k v a e S' T' H' → R v H') : argT K xa W a F σ H R := by
  have gen : PostA K xa W σ S T ((F e).bind fun p => .ok (avOf p.1, p.2)) k → rdE K xa W F σ H R := fun h => by
    refine ⟨e, S, T, I, ?_⟩
    cases z : F e with
    | stuck => rw [z] at h; exact h
    | err x e' => rw [z] at h; exact h
    | ok p =>
      rw [z] at h
      intro S' H' g J v rv
      obtain ⟨r, e'⟩ := p
      cases r with
      | d x => exact f _ _ _ _ _ _ (h v S' T H' g (.d rv .nil) J)
      | o l =>
        obtain ⟨b, ws, rfl, h2, h3, h4, h5, h6⟩ := rv
        exact f _ _ _ _ _ _ (h (.ref b) S' (upd T b (.lst ws)) H' g (.o h5 h3 .nil) (J.hold h2 h4 h6))
  cases a with
  | v i =>
    have h' : PostA K xa W σ S T (match getE e i with
      | some _ => .ok (.r i, e)
      | none => .stuck) k := h
    cases z : getE e i with
    | none => rw [z] at h'; exact h'.elim
    | some s =>
      rw [z] at h'
      have hv : ∃ v, σ[i]? = some (some v) := by
        cases s with
        | d x => obtain ⟨v, q, _⟩ := I.data z; exact ⟨v, q⟩
        | o l => obtain ⟨b, ws, q, _⟩ := I.own z; exact ⟨_, q⟩
      obtain ⟨v, q⟩ := hv
      exact ⟨v, q, f _ _ _ _ _ _ (h' v S T H (Gr.refl S) (.r q .nil) I)⟩
  | _ => exact gen h
/-- the end of an operation -/
theorem fin_op {r : Res Sl} {Q : VK} (I : StO K σ e S T H) (h : PQ K xa W σ S T ((noErr r).bind fun r => .ok (r, e)) Q) : PR K S H r Q := by
  cases r with
  | ok r =>
    intro v H' q
    obtain ⟨S', g, J, rv⟩ := q.fin I
    exact h S' H' g J v rv
  | err x e => exact h
  | stuck => exact h
end
end EvS

set_option Elab.async false
set_option linter.all false
set_option maxHeartbeats 4000000
/-! PyEvF: calls: from the caller's slots to the callee's and back. -/
namespace EvS
open PySem PySem.Spec PyProof.Rows L2 Ev

section
variable {K : Fr} {σ : SS} {e : SEnv} {S S' T T' H H' : Hp} {vs : List V} {as : List AV}
theorem upd_comm {T : Hp} {a b : Addr} {o u : HO} (h : a ≠ b) : upd (upd T a o) b u = upd (upd T b u) a o := by
  funext c
  unfold upd
  by_cases h1 : c = a
  · by_cases h2 : c = b
    · exact absurd (h1.symm.trans h2) h
    · simp [h1]
      intro z
      exact absurd z h
  · by_cases h2 : c = b
    · subst h2; simp [h1]
    · simp [h1, h2]
/-- one more address is held all the while -/
theorem AVs.more {a : Addr} {o : HO} : ∀ {T T' : Hp} {vs : List V} {as : List AV}, AVs K σ S T T' vs as → T' a = none → AVs K σ S (upd T a o) (upd T' a o) vs as
  | _, _, _, _, .nil, _ => .nil
  | _, _, _, _, .d h w, q => .d h (AVs.more w q)
  | _, _, _, _, .r h w, q => .r h (AVs.more w q)
  | _, _, _, _, .o (a := b) h k w, q => by
    have hb : b ≠ a := fun z => by
      subst z
      have := w.t b _ upd_same
      rw [q] at this; cases this
    refine .o (by rw [upd_ne hb]; exact h) k ?_
    rw [upd_comm (Ne.symm hb)]
    exact AVs.more w q
theorem lost_sub : ∀ (as : List AV) (e : SEnv) {j : Nat} {y : Sl}, getE (lost e as) j = some y → getE e j = some y
  | [], _, _, _, h => h
  | .d _ :: r, e, _, _, h => lost_sub r e h
  | .o _ :: r, e, _, _, h => lost_sub r e h
  | .r i :: r, e, j, y, h => by
    have h' : getE (match getE e i with
      | some (.o _) => lost (setE e i none) r
      | _ => lost e r) j = some y := h
    cases z : getE e i with
    | none => rw [z] at h'; exact lost_sub r e h'
    | some s =>
      rw [z] at h'
      cases s with
      | d x => exact lost_sub r e h'
      | o l =>
        have := lost_sub r _ h'
        rcases getE_set_cases this with ⟨_, q⟩ | ⟨_, q⟩
        · cases q
        · exact q
theorem setE_len {e : SEnv} {i : Nat} {x : Option Sl} : (setE e i x).length = e.length := by simp [setE]
theorem lost_len : ∀ (as : List AV) (e : SEnv), (lost e as).length = e.length
  | [], _ => rfl
  | .d _ :: r, e => lost_len r e
  | .o _ :: r, e => lost_len r e
  | .r i :: r, e => by
    show (match getE e i with
      | some (.o _) => lost (setE e i none) r
      | _ => lost e r).length = e.length
    cases z : getE e i with
    | none => exact lost_len r e
    | some s => cases s with
      | d x => exact lost_len r e
      | o l => exact (lost_len r _).trans setE_len
theorem rdC_ok : ∀ {T T' S : Hp} {e : SEnv} {vs : List V} {as : List AV} {xs : List Sl}, AVs K σ S T T' vs as → StO K σ e S T' H → rdC e as = .ok xs →
    ∃ S1 T1, Gr S S1 ∧ StO K σ (lost e as) S1 T1 H ∧ AVs K σ S1 T T1 vs (xs.map avOf)
  | T, _, S, _, _, _, _, .nil, I, h => by cases h; exact ⟨S, T, Gr.refl S, I, .nil⟩
  | _, _, _, _, _, _, _, .d k w, I, h => by
    obtain ⟨p, h1, h2⟩ := bindOk h
    cases h2
    obtain ⟨S1, T1, g, J, A⟩ := rdC_ok w I h1
    exact ⟨S1, T1, g, J, .d (g.dp k) A⟩
  | _, _, _, _, _, _, _, .o k l w, I, h => by
    obtain ⟨p, h1, h2⟩ := bindOk h
    cases h2
    obtain ⟨S1, T1, g, J, A⟩ := rdC_ok w I h1
    obtain ⟨T2, rfl, e2, A2⟩ := A.pull k
    obtain ⟨g2, J2⟩ := J.thaw e2
    exact ⟨_, T2, g.trans g2, J2, .d (.lst (.inl upd_same) (g2.dps (g.dps l))) (A2.gr g2)⟩
  | T, T', S, e, _, _, _, .r (i := i) (v := v) (as := r) k w, I, h => by
    have h' : (match getE e i with
      | some (.d x) => (rdC e r).bind fun xs => .ok (Sl.d x :: xs)
      | some (.o l) => (rdC (setE e i none) r).bind fun xs => .ok (Sl.o l :: xs)
      | none => .stuck) = .ok _ := h
    cases z : getE e i with
    | none => rw [z] at h'; cases h'
    | some s =>
      rw [z] at h'
      cases s with
      | d y =>
        obtain ⟨p, h1, h2⟩ := bindOk h'
        cases h2
        obtain ⟨S1, T1, g, J, A⟩ := rdC_ok w I h1
        obtain ⟨u, q1, q2⟩ := I.data z
        rw [k] at q1; cases q1
        refine ⟨S1, T1, g, ?_, .d (g.dp q2) A⟩
        have e1 : lost e (.r i :: r) = lost e r := by
          show (match getE e i with
            | some (.o _) => lost (setE e i none) r
            | _ => lost e r) = _
          rw [z]
        rw [e1]; exact J
      | o l =>
        obtain ⟨p, h1, h2⟩ := bindOk h'
        cases h2
        obtain ⟨a, ws, q1, q2, q3, q4, q5⟩ := I.own z
        rw [k] at q1; cases q1
        have I2 : StO K σ (setE e i none) S (upd T' a (.lst ws)) H := (I.forget i).hold q2 q4 fun j l' hj hv => by
          rcases getE_set_cases hj with ⟨_, q⟩ | ⟨hn, q⟩
          · cases q
          · exact hn (I.inj j i l' l q z (by rw [hv, join_of k]))
        obtain ⟨S1, T1, g, J, A⟩ := rdC_ok (w.more q5) I2 h1
        have hT : T a = none := by
          cases hz : T a with
          | none => rfl
          | some u => have := w.t a u hz; rw [q5] at this; cases this
        refine ⟨S1, T1, g, ?_, .o hT (g.dps q3) A⟩
        have e1 : lost e (.r i :: r) = lost (setE e i none) r := by
          show (match getE e i with
            | some (.o _) => lost (setE e i none) r
            | _ => lost e r) = _
          rw [z]
        rw [e1]; exact J
theorem getE_map : ∀ (xs : List Sl) (k : Nat), getE (xs.map some) k = xs[k]?
  | [], k => by cases k <;> rfl
  | x :: xs, 0 => rfl
  | x :: xs, k + 1 => by
    show getE (xs.map some) k = _
    rw [getE_map xs k]
    simp
theorem AVs.look : ∀ {T T' : Hp} {vs : List V} {xs : List Sl} {k : Nat} {x : Sl}, AVs K σ S T T' vs (xs.map avOf) → xs[k]? = some x → match x with
    | .d y => ∃ v, vs[k]? = some v ∧ Dq K S v y
    | .o l => ∃ a ws, vs[k]? = some (.ref a) ∧ T a = none ∧ T' a = some (.lst ws) ∧ DqAll K S ws l := by
  intro T T' vs xs
  induction xs generalizing T vs with
  | nil => intro k x _ h; simp at h
  | cons y r ih =>
    intro k x A h
    cases y with
    | d z =>
      cases A with
      | d h1 h2 =>
        cases k with
        | zero => simp at h; subst h; exact ⟨_, rfl, h1⟩
        | succ k =>
          have h' : r[k]? = some x := by simpa using h
          have := ih h2 h'
          cases x <;> simpa using this
    | o l =>
      cases A with
      | o h0 h1 h2 =>
        cases k with
        | zero => simp at h; subst h; exact ⟨_, _, rfl, h0, h2.t _ _ upd_same, h1⟩
        | succ k =>
          have h' : r[k]? = some x := by simpa using h
          have q := ih h2 h'
          cases x with
          | d w => simpa using q
          | o l' =>
            obtain ⟨b, ws, q1, q2, q3, q4⟩ := q
            exact ⟨b, ws, by simpa using q1, (gr_upd h0).nn q2, q3, q4⟩
theorem AVs.inj : ∀ {T T' : Hp} {vs : List V} {xs : List Sl} {k j : Nat} {l l' : List D}, AVs K σ S T T' vs (xs.map avOf) → xs[k]? = some (.o l) → xs[j]? = some (.o l') → vs[k]? = vs[j]? → k = j := by
  intro T T' vs xs
  induction xs generalizing T vs with
  | nil => intro k j l l' _ h; simp at h
  | cons y r ih =>
    intro k j l l' A h1 h2 h3
    cases y with
    | d z =>
      cases A with
      | d q1 q2 =>
        cases k with
        | zero => simp at h1
        | succ k =>
          cases j with
          | zero => simp at h2
          | succ j => rw [ih q2 (k := k) (j := j) (by simpa using h1) (by simpa using h2) (by simpa using h3)]
    | o z =>
      cases A with
      | o q0 q1 q2 =>
        cases k with
        | zero =>
          cases j with
          | zero => rfl
          | succ j =>
            have := q2.look (k := j) (by simpa using h2)
            obtain ⟨b, ws, r1, r2, r3, _⟩ := this
            simp only [List.getElem?_cons_zero, List.getElem?_cons_succ] at h3
            rw [r1] at h3; cases h3
            rw [upd_same] at r2; cases r2
        | succ k =>
          cases j with
          | zero =>
            have := q2.look (k := k) (by simpa using h1)
            obtain ⟨b, ws, r1, r2, r3, _⟩ := this
            simp only [List.getElem?_cons_zero, List.getElem?_cons_succ] at h3
            rw [r1] at h3; cases h3
            rw [upd_same] at r2; cases r2
          | succ j => rw [ih q2 (k := k) (j := j) (by simpa using h1) (by simpa using h2) (by simpa using h3)]
/-- what a callee may not touch: what is held, and the caller's own lists -/
noncomputable def cov (σ : SS) (e : SEnv) (T H : Hp) : Hp := fun a => open Classical in if ∃ i l, getE e i = some (.o l) ∧ σ[i]?.join = some (.ref a) then H a else T a
theorem cov_own {i : Nat} {l : List D} {a : Addr} (h : getE e i = some (.o l)) (q : σ[i]?.join = some (.ref a)) : cov σ e T H a = H a := by
  unfold cov; rw [if_pos ⟨i, l, h, q⟩]
theorem cov_not {a : Addr} (h : ¬ ∃ i l, getE e i = some (.o l) ∧ σ[i]?.join = some (.ref a)) : cov σ e T H a = T a := by
  unfold cov; rw [if_neg h]
theorem map_join (vs : List V) (k : Nat) : (vs.map some)[k]?.join = vs[k]? := by
  rw [List.getElem?_map]
  cases vs[k]? <;> rfl
theorem AVs.length : ∀ {T T' : Hp} {vs : List V} {as : List AV}, AVs K σ S T T' vs as → vs.length = as.length
  | _, _, _, _, .nil => rfl
  | _, _, _, _, .d _ w => congrArg (· + 1) (AVs.length w)
  | _, _, _, _, .o _ _ w => congrArg (· + 1) (AVs.length w)
  | _, _, _, _, .r _ w => congrArg (· + 1) (AVs.length w)
/-- into the callee -/
theorem enter {T1 : Hp} {xs : List Sl} (J : StO K σ e S T1 H) (A : AVs K σ S T T1 vs (xs.map avOf)) : StO K (vs.map some) (xs.map some) S (cov σ e T H) H where
  len := by have := A.length; simp at this; simp [this]
  s := J.s
  t := fun a o h => by
    by_cases c : ∃ i l, getE e i = some (.o l) ∧ σ[i]?.join = some (.ref a)
    · obtain ⟨i, l, c1, c2⟩ := c
      rw [cov_own c1 c2] at h; exact h
    · rw [cov_not c] at h
      exact J.t a o (A.t a o h)
  dj := fun a o h => by
    by_cases c : ∃ i l, getE e i = some (.o l) ∧ σ[i]?.join = some (.ref a)
    · obtain ⟨i, l, c1, c2⟩ := c
      obtain ⟨b, ws, q1, _, _, q4, _⟩ := J.sl i _ c1
      rw [c2] at q1; cases q1
      rw [q4] at h; cases h
    · rw [cov_not c]
      exact A.t.nn (J.dj a o h)
  sl := fun k x h => by
    rw [getE_map] at h
    have q := A.look h
    rw [map_join]
    cases x with
    | d y => exact q
    | o l =>
      obtain ⟨a, ws, q1, q2, q3, q4⟩ := q
      have hS : S a = none := by
        cases z : S a with
        | none => rfl
        | some u => have := J.dj a u z; rw [q3] at this; cases this
      refine ⟨a, ws, q1, J.t a _ q3, q4, hS, ?_⟩
      rw [cov_not]
      · exact q2
      · rintro ⟨i, l', c1, c2⟩
        obtain ⟨b, ws', r1, _, _, _, r5⟩ := J.sl i _ c1
        rw [c2] at r1; cases r1
        rw [q3] at r5; cases r5
  inj := fun k j l l' h1 h2 h3 => by
    rw [getE_map] at h1 h2
    rw [map_join, map_join] at h3
    exact A.inj h1 h2 h3
/-- out of the callee: the caller's slots that were not lent -/
theorem leave {T1 S2 H2 : Hp} {as : List AV} (J : StO K σ e S T1 H) (A : AVs K σ S T T1 vs as) (g : Gr S S2) (s2 : Gr S2 H2) (t2 : Gr (cov σ e T H) H2) (d2 : ∀ a o, S2 a = some o → cov σ e T H a = none) : StO K σ e S2 T H2 where
  len := J.len
  s := s2
  t := fun a o h => by
    refine t2 a o ?_
    rw [cov_not]
    · exact h
    · rintro ⟨i, l', c1, c2⟩
      obtain ⟨b, ws', r1, _, _, _, r5⟩ := J.sl i _ c1
      rw [c2] at r1; cases r1
      rw [A.t.nn r5] at h; cases h
  dj := fun a o h => by
    have := d2 a o h
    by_cases c : ∃ i l, getE e i = some (.o l) ∧ σ[i]?.join = some (.ref a)
    · obtain ⟨i, l, c1, c2⟩ := c
      obtain ⟨b, ws, q1, _, _, _, q5⟩ := J.sl i _ c1
      rw [c2] at q1; cases q1
      exact A.t.nn q5
    · rw [cov_not c] at this; exact this
  sl := fun i x h => by
    have q := J.sl i x h
    cases x with
    | d y => obtain ⟨v, r1, r2⟩ := q; exact ⟨v, r1, g.dp r2⟩
    | o l =>
      obtain ⟨a, ws, q1, q2, q3, q4, q5⟩ := q
      have c : cov σ e T H a = some (.lst ws) := by rw [cov_own h q1]; exact q2
      refine ⟨a, ws, q1, t2 a _ c, g.dps q3, ?_, A.t.nn q5⟩
      cases z : S2 a with
      | none => rfl
      | some u => have := d2 a u z; rw [c] at this; cases this
  inj := J.inj
theorem backL_look {e : SEnv} : ∀ {as : List AV} {acc e1 : SEnv} {outs : List (Option Sl)}, backL e acc as outs = .ok e1 → e1.length = acc.length ∧ ∀ {j : Nat} {y : Sl}, getE e1 j = some y → getE acc j = some y ∨ ∃ k, as[k]? = some (.r j) ∧ getE outs k = some y
  | [], acc, e1, outs, h => by
    simp only [backL, Res.ok.injEq] at h
    subst h
    exact ⟨rfl, fun h => .inl h⟩
  | .d _ :: r, _, _, [], h => by cases h
  | .o _ :: r, _, _, [], h => by cases h
  | .r _ :: r, _, _, [], h => by cases h
  | .d _ :: r, acc, _, x :: xs, h => by
    obtain ⟨hl, q⟩ := backL_look (as := r) (acc := acc) (outs := xs) h
    exact ⟨hl, fun h => (q h).imp id fun ⟨k, a, b⟩ => ⟨k + 1, by simpa using a, b⟩⟩
  | .o _ :: r, acc, _, x :: xs, h => by
    obtain ⟨hl, q⟩ := backL_look (as := r) (acc := acc) (outs := xs) h
    exact ⟨hl, fun h => (q h).imp id fun ⟨k, a, b⟩ => ⟨k + 1, by simpa using a, b⟩⟩
  | .r i :: r, acc, e1, x :: xs, h => by
    have h' : (match getE e i with
      | some (.o _) => match x with
        | some s => backL e (setE acc i (some s)) r xs
        | none => .stuck
      | _ => backL e acc r xs) = .ok e1 := h
    have plain : backL e acc r xs = .ok e1 → e1.length = acc.length ∧ ∀ {j : Nat} {y : Sl}, getE e1 j = some y → getE acc j = some y ∨ ∃ k, (AV.r i :: r)[k]? = some (.r j) ∧ getE (x :: xs) k = some y := fun h => by
      obtain ⟨hl, q⟩ := backL_look (as := r) (acc := acc) (outs := xs) h
      exact ⟨hl, fun h => (q h).imp id fun ⟨k, a, b⟩ => ⟨k + 1, by simpa using a, b⟩⟩
    cases z : getE e i with
    | none => rw [z] at h'; exact plain h'
    | some s =>
      rw [z] at h'
      cases s with
      | d y => exact plain h'
      | o l =>
        cases x with
        | none => cases h'
        | some s =>
          have h2 : backL e (setE acc i (some s)) r xs = .ok e1 := h'
          obtain ⟨hl, q⟩ := backL_look (as := r) h2
          refine ⟨hl.trans setE_len, fun {j y} h => ?_⟩
          rcases q h with q | ⟨k, a, b⟩
          · rcases getE_set_cases q with ⟨h1, q⟩ | ⟨_, q⟩
            · cases q
              subst h1
              exact .inr ⟨0, by simp, rfl⟩
            · exact .inl q
          · exact .inr ⟨k + 1, by simpa using a, b⟩
theorem AVs.atR : ∀ {T T' : Hp} {vs : List V} {as : List AV} {k i : Nat}, AVs K σ S T T' vs as → as[k]? = some (.r i) → ∃ v, vs[k]? = some v ∧ σ[i]? = some (some v)
  | _, _, _, _, _, _, .nil, h => by simp at h
  | _, _, _, _, 0, _, .d _ _, h => by simp at h
  | _, _, _, _, 0, _, .o _ _ _, h => by simp at h
  | _, _, _, _, 0, _, .r k _, h => by simp at h; subst h; exact ⟨_, rfl, k⟩
  | _, _, _, _, k + 1, _, .d _ w, h => by
    obtain ⟨v, a, b⟩ := AVs.atR (k := k) w (by simpa using h)
    exact ⟨v, by simpa using a, b⟩
  | _, _, _, _, k + 1, _, .o _ _ w, h => by
    obtain ⟨v, a, b⟩ := AVs.atR (k := k) w (by simpa using h)
    exact ⟨v, by simpa using a, b⟩
  | _, _, _, _, k + 1, _, .r _ w, h => by
    obtain ⟨v, a, b⟩ := AVs.atR (k := k) w (by simpa using h)
    exact ⟨v, by simpa using a, b⟩
/-- back in the caller -/
theorem return_ok {S0 T0 T1 S2 H2 : Hp} {as bs : List AV} {outs : List (Option Sl)} {e1 : SEnv} {v : V} {r : Sl} (J : StO K σ (lost e as) S T1 H) (A : AVs K σ S T T1 vs bs) (A0 : AVs K σ S0 T T0 vs as) (g : Gr S S2)
    (I2 : StO K (vs.map some) outs S2 (cov σ (lost e as) T H) H2) (hb : back e as outs = .ok e1) (rv : RvOk K (vs.map some) outs S2 (cov σ (lost e as) T H) H2 v r) : StO K σ e1 S2 T H2 ∧ RvOk K σ e1 S2 T H2 v r := by
  have L := leave J A g I2.s I2.t I2.dj
  obtain ⟨hl, look⟩ := backL_look hb
  have cv : ∀ a, cov σ (lost e as) T H a = none → T a = none := fun a h => by
    cases z : T a with
    | none => rfl
    | some u =>
      rw [cov_not] at h
      · rw [z] at h; cases h
      · rintro ⟨i, l', c1, c2⟩
        obtain ⟨b, ws', r1, _, _, _, r5⟩ := J.sl i _ c1
        rw [c2] at r1; cases r1
        rw [A.t.nn r5] at z; cases z
  -- an own list that was not lent is held in the callee
  have held : ∀ {i : Nat} {l : List D} {a : Addr}, getE (lost e as) i = some (.o l) → σ[i]?.join = some (.ref a) → cov σ (lost e as) T H a ≠ none := fun {i l a} h q z => by
    obtain ⟨b, ws, q1, q2, _⟩ := J.sl i _ h
    rw [q] at q1; cases q1
    rw [cov_own h q, q2] at z; cases z
  have at' : ∀ {k j : Nat}, as[k]? = some (.r j) → σ[j]?.join = (vs.map some)[k]?.join := fun {k j} h => by
    obtain ⟨w, h1, h2⟩ := A0.atR h
    rw [map_join, h1, join_of h2]
  refine ⟨⟨by rw [hl]; exact L.len, L.s, L.t, L.dj, fun j y h => ?_, fun i j l l' h1 h2 h3 => ?_⟩, ?_⟩
  · rcases look h with q | ⟨k, h1, h2⟩
    · exact L.sl j y q
    · have q := I2.sl k y h2
      rw [at' h1]
      cases y with
      | d x => exact q
      | o l => obtain ⟨a, ws, q1, q2, q3, q4, q5⟩ := q; exact ⟨a, ws, q1, q2, q3, q4, cv a q5⟩
  · rcases look h1 with q | ⟨k, k1, k2⟩
    · rcases look h2 with q' | ⟨k', k1', k2'⟩
      · exact L.inj i j l l' q q' h3
      · obtain ⟨a, ws, r1, _, _, _, r5⟩ := I2.sl k' _ k2'
        rw [at' k1', r1] at h3
        exact absurd r5 (held q h3)
    · rcases look h2 with q' | ⟨k', k1', k2'⟩
      · obtain ⟨a, ws, r1, _, _, _, r5⟩ := I2.sl k _ k2
        rw [at' k1, r1] at h3
        exact absurd r5 (held q' h3.symm)
      · rw [at' k1, at' k1'] at h3
        have ek := I2.inj k k' l l' k2 k2' h3
        subst ek
        rw [k1] at k1'; cases k1'; rfl
  · cases r with
    | d x => exact rv
    | o l =>
      obtain ⟨a, ws, rfl, q2, q3, q4, q5, q6⟩ := rv
      refine ⟨a, ws, rfl, q2, q3, q4, cv a q5, fun i l' h z => ?_⟩
      rcases look h with q | ⟨k, k1, k2⟩
      · exact held q z q5
      · exact q6 k l' k2 (by rw [← at' k1]; exact z)
end
end EvS

set_option Elab.async false
set_option linter.all false
set_option maxHeartbeats 4000000
/-! PyEvS: the evaluator's values are the model's: expressions. -/
namespace EvS
open PySem PySem.Spec PyProof.Rows L2 Ev

/-- a def's promise, as the evaluator has it -/
def spF (K : Fr) (xa : Nat → Addr) (call : Nat → List Sl → Res (Sl × List (Option Sl))) (f : Nat) : Sp := fun vs H Q E => ∃ (xs : List Sl) (S T : Hp), StO K (vs.map some) (xs.map some) S T H ∧ vs.length = xs.length ∧ match call f xs with
  | .ok p => ∀ v S' H', Gr S S' → StO K (vs.map some) p.2 S' T H' → RvOk K (vs.map some) p.2 S' T H' v p.1 → Q v H'
  | .err x _ => ∀ S' H', Gr S S' → StO K [] [] S' T H' → E (.ref (xa x)) none H'
  | .stuck => False

/-- what stands around a text -/
structure Sur (C : Wx) (R : Ren) (xa : Nat → Addr) (N : List Str) (W : WX) (X : L2.Cx) (sc : Scope) (fb : Str → Bool) (lvl : Nat) : Prop where
  hsc : X.env.scope = sc
  hN : X.N = N
  nd : X.N.Nodup
  calm : X.calm = true
  tk : Takes X W
  po : PassesOwn (model X.prog X.w) X.A X.env X.xe
  fn : ∀ x, fb x = true → X.fn x = true
  room : Room lvl X.A
  gl : ∀ k d, R.glOk k = true → C.glob k = some d → ∃ v u, X.mg (R.gl k) = some u ∧ RelV v u ∧ Dq X.K (fun _ => none) v d
  fr : ∀ x, R.free.contains x = true → X.mg x = none
  gcd : R.gcd = true → X.mg "gcd" = some (.builtin "math.gcd")
  cl : ∀ f, R.fnOk f = true → ∃ a fd ps, X.mg (R.fn f) = some (.ref a) ∧ FnOk X.prog X.w X.K X.mg X.base (L2.CX X.prog X.w) lvl a fd ps (spF X.K xa C.call f) ∧ PySem.W.keepIn X.K (.ref a) = true ∧ Binds X.K fd ps []
  ex : ∀ x, R.exOk x = true → X.mg (R.ex x) = some (.ref (xa x)) ∧ PySem.W.excIn X.K (xa x) He.veBase "ValueError.__new__" = true ∧ PySem.W.keepIn X.K (.ref (xa x)) = true ∧ Raises X (.ref (xa x))

theorem PE.weak {X : L2.Cx} {e : Expr} {t t' : TE} (h : PE X e t) (w : ∀ σ H Q, t' σ H Q → t σ H Q) : PE X e t' := ⟨fun pins s σ H Q I q => h.run pins s σ H Q I (w σ H Q q)⟩
theorem PT.weak {X : L2.Cx} {e : Expr} {t t' : TT} (h : PT X e t) (w : ∀ σ H Q, t' σ H Q → t σ H Q) : PT X e t' := ⟨fun pins s σ H Q I q => h.run pins s σ H Q I (w σ H Q q)⟩
theorem PA.weak {X : L2.Cx} {es : List Expr} {t t' : TA} (h : PA X es t) (w : ∀ σ H Q, t' σ H Q → t σ H Q) : PA X es t' := ⟨fun pos pins s σ H Q I q => h.run pos pins s σ H Q I (w σ H Q q)⟩

section
variable {K : Fr} {xa : Nat → Addr} {W : WX} {σ : SS} {e : SEnv} {S T H : Hp}
/-- one argument, with what is known behind it -/
theorem arg_in {a : E} {F : SEnv → Res (Sl × SEnv)} {R : V → Hp → Prop} {k : V → AV → SEnv → Hp → Hp → Hp → Prop} (I : StO K σ e S T H) (h : PostA K xa W σ S T (ar a e (F e)) k)
    (f : ∀ v a e' S' T' H', Gr S S' → AVs K σ S' T T' [v] [a] → StO K σ e' S' T' H' → k v a e' S' T' H' → R v H') : argT K xa W a F σ H R :=
  arg_ok I (h.imp (k' := fun v a e' S' T' H' => Gr S S' ∧ AVs K σ S' T T' [v] [a] ∧ StO K σ e' S' T' H' ∧ k v a e' S' T' H') fun _ _ _ _ _ _ g A I k => ⟨g, A, I, k⟩) fun v a e' S' T' H' q => f v a e' S' T' H' q.1 q.2.1 q.2.2.1 q.2.2.2
theorem PQ.at {α : Type} {r : Res α} {f : α → Res (Sl × SEnv)} {Q : VK} (h : PQ K xa W σ S T (r.bind f) Q) (ne : ∀ x e, r ≠ .err x e) : ∃ a, r = .ok a ∧ PQ K xa W σ S T (f a) Q := by
  cases r with
  | ok a => exact ⟨a, rfl, h⟩
  | err x e => exact absurd rfl (ne x e)
  | stuck => exact h.elim
theorem rd1_ne {a : AV} (x : Nat) (e' : SEnv) : rd1 e a ≠ .err x e' := by
  intro h
  cases a with
  | d y => cases h
  | o l => cases h
  | r i =>
    have h' : (match getE e i with
      | some s => Res.ok (frz s)
      | none => .stuck) = .err x e' := h
    cases z : getE e i <;> rw [z] at h' <;> cases h'
theorem two {a b : E} {F G : SEnv → Res (Sl × SEnv)} {f : D → D → Res Sl} {Q : VK} (I : StO K σ e S T H) (h : PQ K xa W σ S T (app2 f (ar a e (F e)) fun e1 => ar b e1 (G e1)) Q) :
    argT K xa W a F σ H fun x H1 => argT K xa W b G σ H1 fun y H2 => rOp K f x y H2 Q := by
  refine arg_in I (PQ.bindA h) fun v1 a1 e1 S1 T1 H1 g1 A1 I1 h1 => ?_
  refine arg_in I1 (PQ.bindA h1) fun v2 a2 e2 S2 T2 H2 g2 A2 I2 h2 => ?_
  obtain ⟨x, ex, h2⟩ := PQ.at h2 (rd1_ne (e := e2) (a := a1))
  obtain ⟨y, ey, h2⟩ := PQ.at h2 (rd1_ne (e := e2) (a := a2))
  exact ⟨S2, x, y, I2.s, rd1_ok A1 g2 A2.t I2 ex, rd1_ok A2 (Gr.refl _) (Gr.refl _) I2 ey, fin_op I2 h2⟩
theorem one {a : E} {F : SEnv → Res (Sl × SEnv)} {f : D → Res Sl} {Q : VK} (I : StO K σ e S T H) (h : PQ K xa W σ S T (app1 f (ar a e (F e))) Q) :
    argT K xa W a F σ H fun x H1 => rUn K f x H1 Q := by
  refine arg_in I (PQ.bindA h) fun v1 a1 e1 S1 T1 H1 g1 A1 I1 h1 => ?_
  obtain ⟨x, ex, h1⟩ := PQ.at h1 (rd1_ne (e := e1) (a := a1))
  exact ⟨S1, x, I1.s, rd1_ok A1 (Gr.refl _) (Gr.refl _) I1 ex, fin_op I1 h1⟩
/-- several arguments -/
def argsT (K : Fr) (xa : Nat → Addr) (W : WX) (F : E → SEnv → Res (Sl × SEnv)) : List E → TA
  | [] => tNil
  | a :: l => tCons (argT K xa W a (F a)) (argsT K xa W F l)
theorem PostL.cons {C : Wx} {a : E} {l : List E} {k : List V → List AV → SEnv → Hp → Hp → Hp → Prop} (h : PostL K xa W σ S T (evA C (a :: l) e) k) :
    PostA K xa W σ S T (ar a e (evE C false a e)) fun v av e' S' T' H' => PostL K xa W σ S' T' (evA C l e') fun vs as e'' S'' T'' H'' => k (v :: vs) (av :: as) e'' S'' T'' H'' := by
  have h' : PostL K xa W σ S T ((ar a e (evE C false a e)).bind fun p => (evA C l p.2).bind fun q => .ok (p.1 :: q.1, q.2)) k := h
  cases z : ar a e (evE C false a e) with
  | stuck => rw [z] at h'; exact h'
  | err x e' => rw [z] at h'; exact h'
  | ok p =>
    rw [z] at h'
    intro v S' T' H' g A I
    have h2 : PostL K xa W σ S T ((evA C l p.2).bind fun q => .ok (p.1 :: q.1, q.2)) k := h'
    cases z2 : evA C l p.2 with
    | stuck => rw [z2] at h2; exact h2
    | err x e' =>
      rw [z2] at h2
      exact fun S'' H'' g' I' => h2 S'' H'' (g.trans g') (I'.less A.t)
    | ok q =>
      rw [z2] at h2
      exact fun vs S'' T'' H'' g' A' I' => h2 (v :: vs) S'' T'' H'' (g.trans g') ((A.gr g').cons A') I'
theorem args_ok {C : Wx} {R : List V → Hp → Prop} : ∀ {l : List E} {e : SEnv} {S T H : Hp} {k : List V → List AV → SEnv → Hp → Hp → Hp → Prop}, StO K σ e S T H → PostL K xa W σ S T (evA C l e) k →
    (∀ vs as e' S' T' H', Gr S S' → AVs K σ S' T T' vs as → StO K σ e' S' T' H' → k vs as e' S' T' H' → R vs H') → argsT K xa W (evE C false) l σ H R := by
  intro l
  induction l generalizing R with
  | nil =>
    intro e S T H k I h f
    exact f [] [] e S T H (Gr.refl S) .nil I (h [] S T H (Gr.refl S) .nil I)
  | cons a l ih =>
    intro e S T H k I h f
    refine arg_in I (PostL.cons h) fun v av e1 S1 T1 H1 g1 A1 I1 h1 => ?_
    exact ih (R := fun vs H2 => R (v :: vs) H2) I1 h1 fun vs as e2 S2 T2 H2 g2 A2 I2 k2 => f _ _ _ _ _ _ (g1.trans g2) ((A1.gr g2).cons A2) I2 k2
end

section
variable {C : Wx} {R : Ren} {xa : Nat → Addr} {N : List Str} {W : WX} {X : L2.Cx} {sc : Scope} {fb : Str → Bool} {lvl : Nat}
theorem nm_ok {x : Str} (h : nmOk x = true) : (x == ("__debug__" : Str)) = false ∧ (x == ("__classdict__" : Str)) = false ∧ x ≠ "__name__" := by
  unfold nmOk at h
  simp only [Bool.and_eq_true, Bool.not_eq_true', decide_eq_true_eq] at h
  exact ⟨h.1, h.2.1, h.2.2⟩
theorem vis_ok {x : Str} (h : visB sc x = true) : Vis sc x := by
  unfold visB at h
  unfold Vis
  split at h <;> simp_all
theorem name_pe (G : Sur C R xa N W X sc fb lvl) {i : Nat} {x : Expr} (h : nameB N sc i x = true) : PE X x (tVar i) := by
  cases x with
  | Name y pos =>
    have h' : (decide (N[i]? = some y) && (visB sc y && nmOk y)) = true := h
    simp only [Bool.and_eq_true, decide_eq_true_eq] at h'
    obtain ⟨h1, h2, h3⟩ := h'
    obtain ⟨n1, n2, _⟩ := nm_ok h3
    exact pe_var (by rw [G.hN]; exact h1) (by rw [G.hsc]; exact vis_ok h2) n1 n2
  | _ => cases h
theorem gl_ok (G : Sur C R xa N W X sc fb lvl) {x : Str} (h : glB sc x = true) : Gl X x ∧ (x == ("__debug__" : Str)) = false ∧ x ≠ "__name__" := by
  unfold glB at h
  simp only [Bool.and_eq_true, decide_eq_true_eq] at h
  obtain ⟨n1, _, n3⟩ := nm_ok h.2
  refine ⟨?_, n1, n3⟩
  show X.env.scope.names.lookup x = some .globalImplicit
  rw [G.hsc]; exact h.1
/-- an argument's own rule -/
theorem arg_pe (G : Sur C R xa N W X sc fb lvl) {a : E} {x : Expr} (hc : chkE R N sc fb a x = true) (h : PE X x (rdE X.K xa W (evE C false a))) : PE X x (argT X.K xa W a (evE C false a)) := by
  cases a with
  | v i => exact name_pe G hc
  | _ => exact h
theorem Vals1 {v : V} {u : Value} (h : RelV v u) : RelV v u := h
/-! ### the values -/
theorem s_v (G : Sur C R xa N W X sc fb lvl) {i : Nat} {x : Expr} (h : nameB N sc i x = true) : PE X x (rdE X.K xa W (evE C false (.v i))) := by
  refine PE.weak (name_pe G h) fun σ H Q ⟨e, S, T, I, P⟩ => ?_
  have P' : PQ X.K xa W σ S T (match getE e i with
      | some (.d x) => .ok (.d x, e)
      | some (.o l) => .ok (.d (.list l), setE e i (some (.d (.list l))))
      | none => .stuck) Q := P
  cases z : getE e i with
  | none => rw [z] at P'; exact P'.elim
  | some s =>
    rw [z] at P'
    cases s with
    | d y =>
      obtain ⟨v, q, r⟩ := I.data z
      exact ⟨v, q, P' S H (Gr.refl S) I v r⟩
    | o l =>
      obtain ⟨S', a, vs, g, J, q1, q2, q3⟩ := I.freeze z
      exact ⟨_, q1, P' S' H g J (.ref a) (.lst q2 q3)⟩
theorem s_c {d : D} {k : Const} {j : Nat} {pos : Pos} (h : constB d k = true) : PE X (.Constant k j pos) (rdE X.K xa W (evE C false (.c d))) := by
  have go : ∀ {v : V}, PE X (.Constant k j pos) (tC v) → (∀ S, Dq X.K S v d) → PE X (.Constant k j pos) (rdE X.K xa W (evE C false (.c d))) := fun {v} hp hd =>
    PE.weak hp fun σ H Q ⟨e, S, T, I, P⟩ => by
      have P' : PQ X.K xa W σ S T (.ok (.d d, e)) Q := P
      exact P' S H (Gr.refl S) I v (hd S)
  cases d with
  | int i =>
    cases k with
    | int j => have e : i = j := of_decide_eq_true h; subst e; exact go pe_int fun S => .int i
    | _ => cases h
  | bool b =>
    cases k with
    | bool c => have e : b = c := by simpa [constB] using h
                subst e; exact go pe_bl fun S => .bl b
    | _ => cases h
  | str b =>
    cases k with
    | str c => have e : b = c := of_decide_eq_true h; subst e; exact go pe_str fun S => .str b
    | _ => cases h
  | none =>
    cases k with
    | none => exact go pe_non fun S => .non
    | _ => cases h
  | list l => cases k <;> cases h
  | tuple l => cases k <;> cases h
  | dict l => cases k <;> cases h
theorem glNm_ok (G : Sur C R xa N W X sc fb lvl) {y : Str} {x : Expr} (h : glNm sc y x = true) : ∃ pos, x = .Name y pos ∧ Gl X y ∧ (y == ("__debug__" : Str)) = false ∧ y ≠ "__name__" := by
  cases x with
  | Name z pos =>
    have h' : (decide (z = y) && glB sc z) = true := h
    simp only [Bool.and_eq_true, decide_eq_true_eq] at h'
    obtain ⟨rfl, h2⟩ := h'
    exact ⟨pos, rfl, gl_ok G h2⟩
  | _ => cases h
theorem dq_nul {K : Fr} {S : Hp} {v : V} {d : D} (h : Dq K (fun _ => none) v d) : Dq K S v d := (show Gr (fun _ => none) S from fun a o z => nomatch z).dp h
theorem s_g (G : Sur C R xa N W X sc fb lvl) {k : Nat} {x : Expr} (hk : R.glOk k = true) (h : glNm sc (R.gl k) x = true) : PE X x (rdE X.K xa W (evE C false (.g k))) := by
  obtain ⟨pos, rfl, hg, n1, _⟩ := glNm_ok G h
  cases z : C.glob k with
  | none =>
    refine PE.weak (t := fun _ _ _ => False) ⟨fun _ _ _ _ _ _ q => q.elim⟩ fun σ H Q ⟨e, S, T, I, P⟩ => ?_
    have P' : PQ X.K xa W σ S T ((opt (C.glob k)).bind fun d => .ok (.d d, e)) Q := P
    rw [z] at P'
    exact P'
  | some d =>
    obtain ⟨v, u, hm, r, hd⟩ := G.gl k d hk z
    refine PE.weak (pe_glob hg hm r n1) fun σ H Q ⟨e, S, T, I, P⟩ => ?_
    have P' : PQ X.K xa W σ S T ((opt (C.glob k)).bind fun d => .ok (.d d, e)) Q := P
    rw [z] at P'
    exact P' S H (Gr.refl S) I v (dq_nul hd)
theorem s_bin {o : AOp} {a b : E} {x y : Expr} {pos : Pos} (ha : PE X x (argT X.K xa W a (evE C false a))) (hb : PE X y (argT X.K xa W b (evE C false b))) :
    PE X (.BinOp x (aop o) y pos) (rdE X.K xa W (evE C false (.bin o a b))) :=
  PE.weak (pe_op (op_bin o) ha hb) fun σ H Q ⟨e, S, T, I, P⟩ => two I P
theorem s_neg {a : E} {x : Expr} {pos : Pos} (ha : PE X x (argT X.K xa W a (evE C false a))) : PE X (.UnaryOp .USub x pos) (rdE X.K xa W (evE C false (.neg a))) :=
  PE.weak (pe_un un_negD ha) fun σ H Q ⟨e, S, T, I, P⟩ => one I P
theorem PRcmp {K : Fr} {S H : Hp} {o : COp} {x y : D} {Q : VK} (h : PR K S H (cmpS o x y) Q) : PB (cmpD o x y) fun b => Q (.bl b) H := by
  unfold cmpS at h
  cases z : cmpD o x y with
  | ok b => rw [z] at h; exact h _ _ (.same (.bl b))
  | err a e => rw [z] at h; exact h
  | stuck => rw [z] at h; exact h
theorem op_cmpS (hu : X.A.units + 64 < cLine) (o : COp) : OpR X (compareOp (cop o)) (rOp X.K (cmpS o)) :=
  OpR.weak (op_cmp hu o) fun x y H Q ⟨S, dx, dy, g, bx, bz, q⟩ => ⟨S, dx, dy, g, bx, bz, PRcmp q⟩
theorem mark_ok {op : CmpOp} {y : Expr} (h : noset y = true) : behindInMarks op y = false := by cases y <;> first | rfl | cases h
theorem s_cmp (G : Sur C R xa N W X sc fb lvl) {o : COp} {a b : E} {x y : Expr} {pos : Pos} (hy : noset y = true) (ha : PE X x (argT X.K xa W a (evE C false a))) (hb : PE X y (argT X.K xa W b (evE C false b))) :
    PE X (.Compare x [cop o] [y] pos) (rdE X.K xa W (evE C false (.cmp o a b))) :=
  PE.weak (pe_cmpR (op_cmpS G.room.units o) ha hb (mark_ok hy)) fun σ H Q ⟨e, S, T, I, P⟩ => two I P
theorem s_ix {a b : E} {x y : Expr} {pos : Pos} (hy : nosl y = true) (ha : PE X x (argT X.K xa W a (evE C false a))) (hb : PE X y (argT X.K xa W b (evE C false b))) :
    PE X (.Subscript x y pos) (rdE X.K xa W (evE C false (.ix a b))) :=
  PE.weak (pe_ix ix_any ha hb (fun o i => by cases y <;> first | rfl | cases hy)) fun σ H Q ⟨e, S, T, I, P⟩ => two I P
end
end EvS

set_option Elab.async false
set_option linter.all false
set_option maxHeartbeats 4000000
/-! PyEvS2: expressions, on. -/
namespace EvS
open PySem PySem.Spec PyProof.Rows L2 Ev

section
variable {K : Fr} {xa : Nat → Addr} {W : WX} {σ : SS} {e : SEnv} {S T H : Hp}
theorem pq_in {r : Res (Sl × SEnv)} {f : Sl × SEnv → Res (Sl × SEnv)} {Q Q' : VK} (h : PQ K xa W σ S T (r.bind f) Q)
    (w : ∀ a e' S' H' v, Gr S S' → StO K σ e' S' T H' → RvOk K σ e' S' T H' v a → PQ K xa W σ S' T (f (a, e')) Q → Q' v H') : PQ K xa W σ S T r Q' := by
  cases r with
  | ok p => exact fun S' H' g I v rv => w _ _ _ _ v g I rv (PQ.mono (S := S) (T := T) h g (Gr.refl T))
  | err x e => exact h
  | stuck => exact h
theorem pb_in {r : Res (Sl × SEnv)} {f : Sl × SEnv → Res (Sl × SEnv)} {Q : VK} {Q' : Bool → Hp → Prop} (h : PQ K xa W σ S T (r.bind f) Q)
    (w : ∀ a e' S' H', Gr S S' → StO K σ e' S' T H' → PQ K xa W σ S' T (f (a, e')) Q → ∃ b, truth (frz a) = some b ∧ Q' b H') : PB2 K xa W σ S T r Q' := by
  cases r with
  | ok p => exact fun S' H' g I => w _ _ _ _ g I (PQ.mono (S := S) (T := T) h g (Gr.refl T))
  | err x e => exact h
  | stuck => exact h
theorem rv_b {v : V} {a : Sl} (I : StO K σ e S T H) (h : RvOk K σ e S T H v a) : BOk K S H v (frz a) := by
  cases a with
  | d x => exact Dq.b I.s h
  | o l => obtain ⟨b, ws, rfl, h1, h2, _⟩ := h; exact ⟨b, ws, rfl, .inl h1, h2⟩
/-- an optional int -/
def optT (K : Fr) (xa : Nat → Addr) (W : WX) (F : E → SEnv → Res (Sl × SEnv)) : Option E → TO
  | none => tNoPart
  | some a => tPart (argT K xa W a (F a))
theorem evO_some {C : Wx} {α : Type} {a : E} {f : Option Int × SEnv → Res α} : ((evO C (some a) e).bind f) = (ar a e (evE C false a e)).bind fun p => (rd1 p.2 p.1).bind fun x => (match x with
      | .int i => Res.ok (some i, p.2)
      | _ => .stuck).bind f := by
  show ((ar a e (evE C false a e)).bind fun p => (rd1 p.2 p.1).bind fun x => match x with
    | .int i => Res.ok (some i, p.2)
    | _ => .stuck).bind f = _
  cases ar a e (evE C false a e) with
  | ok p =>
    show ((rd1 p.2 p.1).bind fun x => match x with
      | .int i => Res.ok (some i, p.2)
      | _ => .stuck).bind f = _
    simp only [Res.bind_ok]
    cases rd1 p.2 p.1 <;> rfl
  | err x e => rfl
  | stuck => rfl
theorem opt_in {C : Wx} {T0 : Hp} {o : Option E} {f : Option Int × SEnv → Res (Sl × SEnv)} {Q : VK} {R : Option Int → Hp → Prop} (I : StO K σ e S T H) (t : Gr T0 T) (h : PQ K xa W σ S T0 ((evO C o e).bind f) Q)
    (w : ∀ i e' S' T' H', Gr S S' → Gr T T' → StO K σ e' S' T' H' → PQ K xa W σ S' T0 (f (i, e')) Q → R i H') : optT K xa W (evE C false) o σ H R := by
  cases o with
  | none =>
    exact w none e S T H (Gr.refl S) (Gr.refl T) I h
  | some a =>
    rw [evO_some] at h
    refine arg_in I (PQ.bindA0 h t) fun v av e1 S1 T1 H1 g1 A1 I1 h1 => ?_
    obtain ⟨x, ex, h1⟩ := PQ.at h1 (rd1_ne (e := e1) (a := av))
    have bx := rd1_ok A1 (Gr.refl _) (Gr.refl _) I1 ex
    cases x <;> first
      | exact (show False from h1).elim
      | skip
    cases bx
    exact ⟨_, rfl, w _ _ _ _ _ g1 A1.t I1 h1⟩
theorem rdF_ne : ∀ {as : List AV} {e : SEnv} (x : Nat) (e' : SEnv), rdF e as ≠ .err x e'
  | [], _, _, _ => fun h => nomatch h
  | .d _ :: r, e, x, e' => fun h => by
    have h' : ((rdF e r).bind fun p => Res.ok (_ :: p.1, p.2)) = .err x e' := h
    cases z : rdF e r with
    | ok p => rw [z] at h'; cases h'
    | err y e2 => exact rdF_ne y e2 z
    | stuck => rw [z] at h'; cases h'
  | .o _ :: r, e, x, e' => fun h => by
    have h' : ((rdF e r).bind fun p => Res.ok (_ :: p.1, p.2)) = .err x e' := h
    cases z : rdF e r with
    | ok p => rw [z] at h'; cases h'
    | err y e2 => exact rdF_ne y e2 z
    | stuck => rw [z] at h'; cases h'
  | .r i :: r, e, x, e' => fun h => by
    have h' : (match getE e i with
      | some (.d x) => (rdF e r).bind fun p => Res.ok (x :: p.1, p.2)
      | some (.o l) => (rdF (setE e i (some (.d (.list l)))) r).bind fun p => .ok (.list l :: p.1, p.2)
      | none => .stuck) = .err x e' := h
    cases q : getE e i with
    | none => rw [q] at h'; cases h'
    | some s =>
      rw [q] at h'
      cases s with
      | d y =>
        have h2 : ((rdF e r).bind fun p => Res.ok (y :: p.1, p.2)) = .err x e' := h'
        cases z : rdF e r with
        | ok p => rw [z] at h2; cases h2
        | err y e2 => exact rdF_ne y e2 z
        | stuck => rw [z] at h2; cases h2
      | o l =>
        have h2 : ((rdF (setE e i (some (.d (.list l)))) r).bind fun p => Res.ok (PyData.list l :: p.1, p.2)) = .err x e' := h'
        cases z : rdF (setE e i (some (.d (.list l)))) r with
        | ok p => rw [z] at h2; cases h2
        | err y e2 => exact rdF_ne y e2 z
        | stuck => rw [z] at h2; cases h2
theorem rdB_ne : ∀ {as : List AV} (x : Nat) (e' : SEnv), rdB e as ≠ .err x e'
  | [], _, _ => fun h => nomatch h
  | .d _ :: r, x, e' => fun h => by
    have h' : ((rdB e r).bind fun p => Res.ok (_ :: p)) = .err x e' := h
    cases z : rdB e r with
    | ok p => rw [z] at h'; cases h'
    | err y e2 => exact rdB_ne y e2 z
    | stuck => rw [z] at h'; cases h'
  | .o _ :: r, x, e' => fun h => by
    have h' : ((rdB e r).bind fun p => Res.ok (_ :: p)) = .err x e' := h
    cases z : rdB e r with
    | ok p => rw [z] at h'; cases h'
    | err y e2 => exact rdB_ne y e2 z
    | stuck => rw [z] at h'; cases h'
  | .r i :: r, x, e' => fun h => by
    have h' : (match getE e i with
      | some s => (rdB e r).bind fun p => Res.ok (frz s :: p)
      | none => .stuck) = .err x e' := h
    cases q : getE e i with
    | none => rw [q] at h'; cases h'
    | some s =>
      rw [q] at h'
      have h2 : ((rdB e r).bind fun p => Res.ok (frz s :: p)) = .err x e' := h'
      cases z : rdB e r with
      | ok p => rw [z] at h2; cases h2
      | err y e2 => exact rdB_ne y e2 z
      | stuck => rw [z] at h2; cases h2
theorem rdC_ne : ∀ {as : List AV} {e : SEnv} (x : Nat) (e' : SEnv), rdC e as ≠ .err x e'
  | [], _, _, _ => fun h => nomatch h
  | .d _ :: r, e, x, e' => fun h => by
    have h' : ((rdC e r).bind fun p => Res.ok (_ :: p)) = .err x e' := h
    cases z : rdC e r with
    | ok p => rw [z] at h'; cases h'
    | err y e2 => exact rdC_ne y e2 z
    | stuck => rw [z] at h'; cases h'
  | .o _ :: r, e, x, e' => fun h => by
    have h' : ((rdC e r).bind fun p => Res.ok (_ :: p)) = .err x e' := h
    cases z : rdC e r with
    | ok p => rw [z] at h'; cases h'
    | err y e2 => exact rdC_ne y e2 z
    | stuck => rw [z] at h'; cases h'
  | .r i :: r, e, x, e' => fun h => by
    have h' : (match getE e i with
      | some (.d x) => (rdC e r).bind fun xs => Res.ok (Sl.d x :: xs)
      | some (.o l) => (rdC (setE e i none) r).bind fun xs => .ok (Sl.o l :: xs)
      | none => .stuck) = .err x e' := h
    cases q : getE e i with
    | none => rw [q] at h'; cases h'
    | some s =>
      rw [q] at h'
      cases s with
      | d y =>
        have h2 : ((rdC e r).bind fun p => Res.ok (Sl.d y :: p)) = .err x e' := h'
        cases z : rdC e r with
        | ok p => rw [z] at h2; cases h2
        | err y e2 => exact rdC_ne y e2 z
        | stuck => rw [z] at h2; cases h2
      | o l =>
        have h2 : ((rdC (setE e i none) r).bind fun p => Res.ok (Sl.o l :: p)) = .err x e' := h'
        cases z : rdC (setE e i none) r with
        | ok p => rw [z] at h2; cases h2
        | err y e2 => exact rdC_ne y e2 z
        | stuck => rw [z] at h2; cases h2
end

section
variable {C : Wx} {R : Ren} {xa : Nat → Addr} {N : List Str} {W : WX} {X : L2.Cx} {sc : Scope} {fb : Str → Bool} {lvl : Nat}
theorem chain_in {o q : COp} {a b c : E} {σ : SS} {H : Hp} {Q : VK} (h : rdE X.K xa W (evE C false (.chain o q a b c)) σ H Q) :
    tChain (rCp X.K (cmpD o)) (rOp X.K (cmpS q)) (argT X.K xa W a (evE C false a)) (argT X.K xa W b (evE C false b)) (argT X.K xa W c (evE C false c)) σ H Q := by
  obtain ⟨e, S, T, I, P⟩ := h
  have P' : PQ X.K xa W σ S T ((ar a e (evE C false a e)).bind fun p => (ar b p.2 (evE C false b p.2)).bind fun p1 => (rdF p1.2 [p.1, p1.1]).bind fun xs => match xs with
    | ([x, y], e1) => (noErr (cmpD o x y)).bind fun r => match r with
      | false => .ok (.d (.bool false), e1)
      | true => app1 (cmpS q y) (ar c e1 (evE C false c e1))
    | _ => .stuck) Q := P
  refine arg_in I (PQ.bindA0 P' (Gr.refl T)) fun v1 a1 e1 S1 T1 H1 g1 A1 I1 h1 => ?_
  refine arg_in I1 (PQ.bindA0 h1 A1.t) fun v2 a2 e2 S2 T2 H2 g2 A2 I2 h2 => ?_
  have A := (A1.gr g2).cons A2
  obtain ⟨p, zf, h2⟩ := PQ.at h2 (rdF_ne (e := e2) (as := [a1, a2]))
  obtain ⟨S3, g3, I3, hd⟩ := rdF_ok A I2 zf
  obtain ⟨xs, e3⟩ := p
  cases hd with
  | cons d1 r =>
    cases r with
    | cons d2 r =>
      cases r
      rename_i dx dy
      have h3 : PQ X.K xa W σ S2 T ((noErr (cmpD o dx dy)).bind fun r => match r with
        | false => .ok (.d (.bool false), e3)
        | true => app1 (cmpS q dy) (ar c e3 (evE C false c e3))) Q := h2
      refine ⟨S3, dx, dy, I3.s, d1.b I3.s, d2.b I3.s, ?_⟩
      cases zc : cmpD o dx dy with
      | stuck => rw [zc] at h3; exact h3.elim
      | err x e => rw [zc] at h3; exact h3.elim
      | ok k =>
        rw [zc] at h3
        refine ⟨k, rfl, ?_⟩
        cases k with
        | false =>
          rw [if_neg Bool.false_ne_true]
          exact h3 S3 H2 g3 I3 (.bl false) (.bl false)
        | true =>
          rw [if_pos rfl]
          have h4 : PQ X.K xa W σ S3 T (app1 (cmpS q dy) (ar c e3 (evE C false c e3))) Q := PQ.mono h3 g3 (Gr.refl _)
          refine arg_in I3 (PQ.bindA h4) fun v3 a3 e4 S4 T4 H4 g4 A4 I4 h5 => ?_
          obtain ⟨w, ew, h5⟩ := PQ.at h5 (rd1_ne (e := e4) (a := a3))
          exact ⟨S4, dy, w, I4.s, (g4.dp d2).b I4.s, rd1_ok A4 (Gr.refl _) (Gr.refl _) I4 ew, fin_op I4 h5⟩
theorem s_chain (G : Sur C R xa N W X sc fb lvl) {o q : COp} {a b c : E} {x y z : Expr} {pos : Pos} (hz : noset z = true) (ha : PE X x (argT X.K xa W a (evE C false a))) (hb : PE X y (argT X.K xa W b (evE C false b))) (hc : PE X z (argT X.K xa W c (evE C false c))) :
    PE X (.Compare x [cop o, cop q] [y, z] pos) (rdE X.K xa W (evE C false (.chain o q a b c))) :=
  PE.weak (pe_chain (op_cmp G.room.units o) (op_cmpS G.room.units q) ha hb hc (by show behindInMarks (cop q) z = false; exact mark_ok hz)) fun σ H Q h => chain_in h
/-! ### and, or, not, if -/
theorem rv_tru {σ : SS} {e : SEnv} {S T H : Hp} {K : Fr} {v : V} {a : Sl} {b : Bool} (I : StO K σ e S T H) (h : RvOk K σ e S T H v a) (t : truth (frz a) = some b) : TruV K v H b := tru_of I.s (rv_b I h) t
theorem s_and1 {m : Bool} {a : E} {x : Expr} {pos : Pos} (ha : PE X x (rdE X.K xa W (evE C false a))) : PE X (.BoolOp .And [x] pos) (rdE X.K xa W (evAnd C false [a])) := by
  refine PE.weak (pe_one ha) fun σ H Q ⟨e, S, T, I, P⟩ => ⟨e, S, T, I, ?_⟩
  have P' : PQ X.K xa W σ S T ((evE C false a e).bind fun p => .ok p) Q := P
  refine pq_in P' fun a e' S' H' v g I' rv h => h S' H' (Gr.refl _) I' v rv
theorem s_or1 {m : Bool} {a : E} {x : Expr} {pos : Pos} (ha : PE X x (rdE X.K xa W (evE C false a))) : PE X (.BoolOp .Or [x] pos) (rdE X.K xa W (evOr C false [a])) := by
  refine PE.weak (pe_one ha) fun σ H Q ⟨e, S, T, I, P⟩ => ⟨e, S, T, I, ?_⟩
  have P' : PQ X.K xa W σ S T ((evE C false a e).bind fun p => .ok p) Q := P
  refine pq_in P' fun a e' S' H' v g I' rv h => h S' H' (Gr.refl _) I' v rv
theorem s_andc {a b : E} {l : List E} {x y : Expr} {xs : List Expr} {pos : Pos} (ha : PE X x (rdE X.K xa W (evE C false a))) (hb : PE X (.BoolOp .And (y :: xs) pos) (rdE X.K xa W (evAnd C false (b :: l)))) :
    PE X (.BoolOp .And (x :: y :: xs) pos) (rdE X.K xa W (evAnd C false (a :: b :: l))) := by
  refine PE.weak (pe_andT ha hb) fun σ H Q ⟨e, S, T, I, P⟩ => ⟨e, S, T, I, ?_⟩
  have P' : PQ X.K xa W σ S T ((evE C false a e).bind fun p => match truth (frz p.1) with
      | some true => evAnd C false (b :: l) p.2
      | some false => .ok p
      | none => .stuck) Q := P
  refine pq_in P' fun r e' S' H' v g I' rv h => ?_
  have h' : PQ X.K xa W σ S' T (match truth (frz r) with
      | some true => evAnd C false (b :: l) e'
      | some false => .ok (r, e')
      | none => .stuck) Q := h
  cases z : truth (frz r) with
  | none => rw [z] at h'; exact h'.elim
  | some k =>
    rw [z] at h'
    refine ⟨k, rv_tru I' rv z, ?_⟩
    cases k with
    | true => rw [if_pos rfl]; exact ⟨e', S', T, I', h'⟩
    | false => rw [if_neg Bool.false_ne_true]; exact h' S' H' (Gr.refl _) I' v rv
theorem s_orc {a b : E} {l : List E} {x y : Expr} {xs : List Expr} {pos : Pos} (ha : PE X x (rdE X.K xa W (evE C false a))) (hb : PE X (.BoolOp .Or (y :: xs) pos) (rdE X.K xa W (evOr C false (b :: l)))) :
    PE X (.BoolOp .Or (x :: y :: xs) pos) (rdE X.K xa W (evOr C false (a :: b :: l))) := by
  refine PE.weak (pe_orT ha hb) fun σ H Q ⟨e, S, T, I, P⟩ => ⟨e, S, T, I, ?_⟩
  have P' : PQ X.K xa W σ S T ((evE C false a e).bind fun p => match truth (frz p.1) with
      | some true => .ok p
      | some false => evOr C false (b :: l) p.2
      | none => .stuck) Q := P
  refine pq_in P' fun r e' S' H' v g I' rv h => ?_
  have h' : PQ X.K xa W σ S' T (match truth (frz r) with
      | some true => .ok (r, e')
      | some false => evOr C false (b :: l) e'
      | none => .stuck) Q := h
  cases z : truth (frz r) with
  | none => rw [z] at h'; exact h'.elim
  | some k =>
    rw [z] at h'
    refine ⟨k, rv_tru I' rv z, ?_⟩
    cases k with
    | true => rw [if_pos rfl]; exact h' S' H' (Gr.refl _) I' v rv
    | false => rw [if_neg Bool.false_ne_true]; exact ⟨e', S', T, I', h'⟩
theorem s_not {a : E} {x : Expr} {pos : Pos} (ha : PE X x (rdE X.K xa W (evE C false a))) : PE X (.UnaryOp .Not x pos) (rdE X.K xa W (evE C false (.not a))) := by
  refine PE.weak (pe_notT ha) fun σ H Q ⟨e, S, T, I, P⟩ => ⟨e, S, T, I, ?_⟩
  have P' : PQ X.K xa W σ S T ((evE C false a e).bind notS) Q := P
  refine pq_in P' fun r e' S' H' v g I' rv h => ?_
  have h' : PQ X.K xa W σ S' T ((opt (truth (frz r))).bind fun b => .ok (.d (.bool (!b)), e')) Q := h
  cases z : truth (frz r) with
  | none => rw [z] at h'; exact h'.elim
  | some k =>
    rw [z] at h'
    exact ⟨k, rv_tru I' rv z, h' S' H' (Gr.refl _) I' (.bl (!k)) (.bl (!k))⟩
theorem s_ife {t a b : E} {c x y : Expr} {pos : Pos} (hc : PT X c (rdT X.K xa W (evE C true t))) (ha : PE X x (rdE X.K xa W (evE C false a))) (hb : PE X y (rdE X.K xa W (evE C false b))) :
    PE X (.IfExp c x y pos) (rdE X.K xa W (evE C false (.ife t a b))) := by
  refine PE.weak (pe_ifExp hc ha hb) fun σ H Q ⟨e, S, T, I, P⟩ => ⟨e, S, T, I, ?_⟩
  have P' : PQ X.K xa W σ S T ((evE C true t e).bind fun p => match p.1 with
    | .d (.bool true) => evE C false a p.2
    | .d (.bool false) => evE C false b p.2
    | _ => .stuck) Q := P
  refine pb_in P' fun r e' S' H' g I' h' => ?_
  cases r with
  | o l => exact h'.elim
  | d z =>
    cases z <;> first
      | exact (show False from h').elim
      | skip
    rename_i k
    refine ⟨k, rfl, ?_⟩
    cases k with
    | true => rw [if_pos rfl]; exact ⟨e', S', T, I', h'⟩
    | false => rw [if_neg Bool.false_ne_true]; exact ⟨e', S', T, I', h'⟩
/-! ### displays, slices -/
theorem s_tup {l : List E} {xs : List Expr} {k : Nat} {pos : Pos} (ha : PA X xs (argsT X.K xa W (evE C false) l)) : PE X (.Tuple xs k pos) (rdE X.K xa W (evE C false (.tup l))) := by
  refine PE.weak (pe_tup ha) fun σ H Q ⟨e, S, T, I, P⟩ => ?_
  have P' : PQ X.K xa W σ S T ((evA C l e).bind fun p => (rdF p.2 p.1).bind fun xs => grd (decide (xs.1.length ≤ sizeMax)) (.ok (.d (.tuple xs.1), xs.2))) Q := P
  refine args_ok I (PQ.bindL0 P' (Gr.refl T)) fun vs as e1 S1 T1 H1 g1 A1 I1 h1 => ?_
  obtain ⟨p, zf, h2⟩ := PQ.at h1 (rdF_ne (e := e1) (as := as))
  obtain ⟨S3, g3, I3, hd⟩ := rdF_ok A1 I1 zf
  cases z : decide (p.1.length ≤ sizeMax) with
  | false => rw [z] at h2; exact (show False from h2).elim
  | true =>
    rw [z] at h2
    have hz := of_decide_eq_true z
    rw [smax] at hz
    refine ⟨by rw [dps_len hd]; exact hz, fun q hq => ?_⟩
    obtain ⟨g4, I4⟩ := I3.newS (o := .tup vs) hq
    exact h2 _ _ (g3.trans g4) I4 (.ref q) (.tup (.inl (.inl upd_same)) (g4.dps hd))
theorem s_lst {l : List E} {xs : List Expr} {pos : Pos} (ha : PA X xs (argsT X.K xa W (evE C false) l)) : PE X (.List xs pos) (rdE X.K xa W (evE C false (.lst l))) := by
  refine PE.weak (pe_lst ha) fun σ H Q ⟨e, S, T, I, P⟩ => ?_
  have P' : PQ X.K xa W σ S T ((evA C l e).bind fun p => (rdF p.2 p.1).bind fun xs => grd (decide (xs.1.length ≤ sizeMax)) (.ok (.o xs.1, xs.2))) Q := P
  refine args_ok I (PQ.bindL0 P' (Gr.refl T)) fun vs as e1 S1 T1 H1 g1 A1 I1 h1 => ?_
  obtain ⟨p, zf, h2⟩ := PQ.at h1 (rdF_ne (e := e1) (as := as))
  obtain ⟨S3, g3, I3, hd⟩ := rdF_ok A1 I1 zf
  cases z : decide (p.1.length ≤ sizeMax) with
  | false => rw [z] at h2; exact (show False from h2).elim
  | true =>
    rw [z] at h2
    have hz := of_decide_eq_true z
    rw [smax] at hz
    refine ⟨by rw [dps_len hd]; exact hz, fun q hq => ?_⟩
    obtain ⟨I4, q1, q2, q3⟩ := I3.newO (o := .lst vs) hq
    exact h2 _ _ g3 I4 (.ref q) ⟨q, vs, rfl, upd_same, hd, q1, q2, q3⟩
theorem s_sl {a : E} {lo hi : Option E} {x : Expr} {l h : Option Expr} {p2 pos : Pos} (ha : PE X x (argT X.K xa W a (evE C false a))) (hl : PO X l (optT X.K xa W (evE C false) lo)) (hh : PO X h (optT X.K xa W (evE C false) hi)) :
    PE X (.Subscript x (.Slice l h none p2) pos) (rdE X.K xa W (evE C false (.sl a lo hi))) := by
  refine PE.weak (pe_slice sl_any ha hl hh) fun σ H Q ⟨e, S, T, I, P⟩ => ?_
  have P' : PQ X.K xa W σ S T ((ar a e (evE C false a e)).bind fun p => (evO C lo p.2).bind fun l => (evO C hi l.2).bind fun h => (rd1 h.2 p.1).bind fun x => (noErr (slD l.1 h.1 x)).bind fun r => .ok (r, h.2)) Q := P
  refine arg_in I (PQ.bindA0 P' (Gr.refl T)) fun v1 a1 e1 S1 T1 H1 g1 A1 I1 h1 => ?_
  refine opt_in I1 A1.t h1 fun i e2 S2 T2 H2 g2 t2 I2 h2 => ?_
  refine opt_in I2 (A1.t.trans t2) h2 fun j e3 S3 T3 H3 g3 t3 I3 h3 => ?_
  obtain ⟨x, ex, h3⟩ := PQ.at h3 (rd1_ne (e := e3) (a := a1))
  exact ⟨S3, x, I3.s, rd1_ok A1 (g2.trans g3) (t2.trans t3) I3 ex, fin_op (I3.less (A1.t.trans (t2.trans t3))) h3⟩
theorem s_rev {a : E} {x : Expr} {k : Nat} {p1 p2 p3 pos : Pos} (ha : PE X x (argT X.K xa W a (evE C false a))) :
    PE X (.Subscript x (.Slice none none (some (.UnaryOp .USub (.Constant (.int 1) k p1) p2)) p3) pos) (rdE X.K xa W (evE C false (.rev a))) := by
  refine PE.weak (pe_revL ha) fun σ H Q ⟨e, S, T, I, P⟩ => ?_
  have P' : PQ X.K xa W σ S T (app1 revD (ar a e (evE C false a e))) Q := P
  refine arg_in I (PQ.bindA0 P' (Gr.refl T)) fun v1 a1 e1 S1 T1 H1 g1 A1 I1 h1 => ?_
  obtain ⟨x, ex, h1⟩ := PQ.at h1 (rd1_ne (e := e1) (a := a1))
  have bx := rd1_ok A1 (Gr.refl _) (Gr.refl _) I1 ex
  have q := fin_op (I1.less A1.t) h1
  cases x <;> first
    | exact (show False from q).elim
    | skip
  obtain ⟨b, vs, rfl, h1, h2⟩ := bx
  exact ⟨b, vs, rfl, .inl h1, fun p hp => q.at (.lst hp (dps_rev h2))⟩
/-! ### calls -/
theorem backL_ne {e : SEnv} : ∀ {as : List AV} {acc : SEnv} {outs : List (Option Sl)} {x : Nat} {e' : SEnv}, backL e acc as outs ≠ .err x e'
  | [], acc, outs, x, e' => by simp [backL]
  | .d _ :: r, acc, [], x, e' => fun h => nomatch h
  | .o _ :: r, acc, [], x, e' => fun h => nomatch h
  | .r _ :: r, acc, [], x, e' => fun h => nomatch h
  | .d _ :: r, acc, y :: ys, x, e' => backL_ne (as := r) (acc := acc) (outs := ys)
  | .o _ :: r, acc, y :: ys, x, e' => backL_ne (as := r) (acc := acc) (outs := ys)
  | .r i :: r, acc, y :: ys, x, e' => fun h => by
    have h' : (match getE e i with
      | some (.o _) => match y with
        | some s => backL e (setE acc i (some s)) r ys
        | none => .stuck
      | _ => backL e acc r ys) = .err x e' := h
    cases z : getE e i with
    | none => rw [z] at h'; exact backL_ne h'
    | some s =>
      rw [z] at h'
      cases s with
      | d w => exact backL_ne h'
      | o l =>
        cases y with
        | none => cases h'
        | some s => exact backL_ne h'
theorem star_ok {x : Expr} {xs : List Expr} {env : Env} (h : nst x = true) : starEach (x :: xs) env = (false, eval x env) :: starEach xs env := by cases x <;> first | rfl | cases h
def nsts : List Expr → Bool
  | [] => true
  | x :: xs => nst x && nsts xs
theorem plain_ok {env : Env} {pos : Pos} : ∀ {xs : List Expr}, nsts xs = true → (backTo pos (starEach xs env)).any (·.1) = false
  | [], _ => rfl
  | x :: xs, h => by
    have h' : (nst x && nsts xs) = true := h
    simp only [Bool.and_eq_true] at h'
    rw [star_ok h'.1]
    show (false || (backTo pos (starEach xs env)).any (·.1)) = false
    rw [plain_ok h'.2]; rfl
theorem call_in {f : Nat} {l : List E} {Q : VK} {σ : SS} {e : SEnv} {S T H : Hp} (I : StO X.K σ e S T H) (P : PQ X.K xa W σ S T (evE C false (.call f l) e) Q) :
    argsT X.K xa W (evE C false) l σ H fun vs H1 => spF X.K xa C.call f vs H1 Q (WE W σ) := by
  have P' : PQ X.K xa W σ S T ((evA C l e).bind fun p => (rdC p.2 p.1).bind fun xs => fin p.2 p.1 (C.call f xs)) Q := P
  refine args_ok I (PQ.bindL0 P' (Gr.refl T)) fun vs as e1 S1 T1 H1 g1 A1 I1 h1 => ?_
  obtain ⟨xs, zc, h2⟩ := PQ.at h1 (rdC_ne (e := e1) (as := as))
  obtain ⟨S2, T2, g2, J, A2⟩ := rdC_ok A1 I1 zc
  refine ⟨xs, S2, cov σ (lost e1 as) T H1, enter J A2, ?_, ?_⟩
  · have := A2.length; simpa using this
  · have h3 : PQ X.K xa W σ S2 T (fin e1 as (C.call f xs)) Q := PQ.mono h2 g2 (Gr.refl _)
    cases z : C.call f xs with
    | stuck => rw [z] at h3; exact h3
    | err x e' =>
      rw [z] at h3
      intro S' H' g I'
      exact h3 S' H' g (leave J A2 g I'.s I'.t I'.dj)
    | ok p =>
      rw [z] at h3
      intro v S' H' g I' rv
      have h4 : PQ X.K xa W σ S2 T ((back e1 as p.2).bind fun e2 => .ok (p.1, e2)) Q := h3
      obtain ⟨e2, zb, h4⟩ := PQ.at h4 fun x e' => backL_ne
      obtain ⟨I5, rv5⟩ := return_ok J A2 A1 g I' zb rv
      exact h4 S' H' g I5 v rv5
theorem s_call (G : Sur C R xa N W X sc fb lvl) {f : Nat} {l : List E} {x : Expr} {xs : List Expr} {p pos : Pos} (hf : R.fnOk f = true) (hg : glB sc (R.fn f) = true) (hn : nsts (x :: xs) = true) (ha : PA X (x :: xs) (argsT X.K xa W (evE C false) l)) :
    PE X (.Call (.Name (R.fn f) p) (x :: xs) [] pos) (rdE X.K xa W (evE C false (.call f l))) := by
  obtain ⟨a, fd, ps, hm, F, hk, hb⟩ := G.cl f hf
  obtain ⟨h1, h2, _⟩ := gl_ok G hg
  have hn' : (nst x && nsts xs) = true := hn
  simp only [Bool.and_eq_true] at hn'
  exact PE.weak (pe_callS F G.room h1 hm hk hb (fun σ => passAt G.tk σ) ha h2 (star_ok hn'.1) (plain_ok hn'.2)) fun σ H Q ⟨e, S, T, I, P⟩ => call_in I P
theorem s_call0 (G : Sur C R xa N W X sc fb lvl) {f : Nat} {p pos : Pos} (hf : R.fnOk f = true) (hg : glB sc (R.fn f) = true) :
    PE X (.Call (.Name (R.fn f) p) [] [] pos) (rdE X.K xa W (evE C false (.call f []))) := by
  obtain ⟨a, fd, ps, hm, F, hk, hb⟩ := G.cl f hf
  obtain ⟨h1, h2, _⟩ := gl_ok G hg
  refine ⟨fun pins s σ H Q I ⟨e, S, T, I0, P⟩ => ?_⟩
  refine wpAny_Call_Name_kw (ld_glob I h1 hm ?_ h2)
  exact PySem.W.callWith_K0 I.kIn hk (run_fnS (us := []) F G.room hb (passAt G.tk σ) I .nil (call_in (l := []) I0 P))
end
end EvS

set_option Elab.async false
set_option linter.all false
set_option maxHeartbeats 4000000
/-! PyEvS3: built-ins by name, isinstance, pop, targets, what is walked. -/
namespace EvS
open PySem PySem.Spec PyProof.Rows L2 Ev

section
variable {C : Wx} {R : Ren} {xa : Nat → Addr} {N : List Str} {W : WX} {X : L2.Cx} {sc : Scope} {fb : Str → Bool} {lvl : Nat}
theorem nsts_ok {x : Expr} {xs : List Expr} (h : nsts (x :: xs) = true) : nst x = true ∧ nsts xs = true := by
  have h' : (nst x && nsts xs) = true := h
  simpa only [Bool.and_eq_true] using h'
theorem blt_pe (G : Sur C R xa N W X sc fb lvl) {b : Blt} {x : Expr} {xs : List Expr} {t : TA} {p pos : Pos} (hb : bltOk b = true) (hf : bltFree R b = true) (hg : glB sc (bltS b) = true)
    (hn : nsts (x :: xs) = true) (ha : PA X (x :: xs) t) : PE X (.Call (.Name (bltS b) p) (x :: xs) [] pos) (tCB (rCb X.K (bltD b)) t) := by
  obtain ⟨h1, h2, h3⟩ := gl_ok G hg
  obtain ⟨n1, n2⟩ := nsts_ok hn
  have hs := star_ok (xs := xs) (env := X.env) n1
  have hp := plain_ok (env := X.env) (pos := pos) n2
  cases b with
  | len => exact pe_callB b_len h1 (G.fr _ hf) (by decide +kernel) ha h3 h2 hs hp
  | abs => exact pe_callB b_abs h1 (G.fr _ hf) (by decide +kernel) ha h3 h2 hs hp
  | min => exact pe_callB (b_min G.calm) h1 (G.fr _ hf) (by decide +kernel) ha h3 h2 hs hp
  | max => exact pe_callB (b_max G.calm) h1 (G.fr _ hf) (by decide +kernel) ha h3 h2 hs hp
  | sum => exact pe_callB (b_sum G.calm) h1 (G.fr _ hf) (by decide +kernel) ha h3 h2 hs hp
  | all => exact pe_callB (b_all G.calm) h1 (G.fr _ hf) (by decide +kernel) ha h3 h2 hs hp
  | any => exact pe_callB (b_any G.calm) h1 (G.fr _ hf) (by decide +kernel) ha h3 h2 hs hp
  | tuple => exact pe_callTy b_tuple h1 (G.fr _ hf) (by decide +kernel) ha h3 h2 hs hp
  | list => exact pe_callTy b_list h1 (G.fr _ hf) (by decide +kernel) ha h3 h2 hs hp
  | int => exact pe_callTy b_int h1 (G.fr _ hf) (by decide +kernel) ha h3 h2 hs hp
  | sorted => exact pe_callB b_sorted h1 (G.fr _ hf) (by decide +kernel) ha h3 h2 hs hp
  | gcd => exact pe_callBfun b_gcd h1 (G.gcd hf) ha h2 hs hp
  | _ => cases hb
theorem walkB_val {b : Blt} (hb : bltOk b = true) (xs : List D) : walkB b xs = bltD b xs := by cases b <;> first | rfl | cases hb
theorem rdX_val {b : Blt} (hb : bltOk b = true) (e : SEnv) (l : List AV) : rdX b e l = (rdB e l).bind fun xs => .ok (xs, e) := by cases b <;> first | rfl | cases hb
theorem s_blt (G : Sur C R xa N W X sc fb lvl) {b : Blt} {l : List E} {x : Expr} {xs : List Expr} {p pos : Pos} (hb : bltOk b = true) (hf : bltFree R b = true) (hg : glB sc (bltS b) = true)
    (hn : nsts (x :: xs) = true) (ha : PA X (x :: xs) (argsT X.K xa W (evE C false) l)) : PE X (.Call (.Name (bltS b) p) (x :: xs) [] pos) (rdE X.K xa W (evE C false (.blt b l))) := by
  refine PE.weak (blt_pe G hb hf hg hn ha) fun σ H Q ⟨e, S, T, I, P⟩ => ?_
  have P' : PQ X.K xa W σ S T ((evA C l e).bind fun p => (rdX b p.2 p.1).bind fun xs => (noErr (walkB b xs.1)).bind fun r => .ok (r, xs.2)) Q := P
  refine args_ok I (PQ.bindL0 P' (Gr.refl T)) fun vs as e1 S1 T1 H1 g1 A1 I1 h1 => ?_
  have h1' : PQ X.K xa W σ S1 T ((rdX b e1 as).bind fun xs => (noErr (walkB b xs.1)).bind fun r => .ok (r, xs.2)) Q := h1
  rw [rdX_val hb] at h1'
  cases z : rdB e1 as with
  | stuck => rw [z] at h1'; exact h1'.elim
  | err x e' => exact absurd z (rdB_ne x e')
  | ok xs =>
    rw [z] at h1'
    have h2 : PQ X.K xa W σ S1 T ((noErr (walkB b xs)).bind fun r => .ok (r, e1)) Q := h1'
    rw [walkB_val hb] at h2
    exact ⟨S1, xs, I1.s, rdB_ok A1 (Gr.refl _) (Gr.refl _) I1 z, fin_op (I1.less A1.t) h2⟩
/-! ### isinstance -/
theorem boot_ty (t : Ty) : bootBuiltins (tyN t) = some (.type (tyS t)) := by cases t <;> (simp only [tyN, tyS]; decide +kernel)
theorem ty_pe (G : Sur C R xa N W X sc fb lvl) {t : Ty} {pos : Pos} (hg : glB sc (tyN t) = true) (hf : R.free.contains (tyN t) = true) : PE X (.Name (tyN t) pos) (tC (.ty (tyS t))) := by
  obtain ⟨h1, h2, h3⟩ := gl_ok G hg
  exact pe_bltn h1 (G.fr _ hf) (boot_ty t) rfl h3 h2
def tysT : List Ty → TA
  | [] => tNil
  | t :: ts => tCons (tC (.ty (tyS t))) (tysT ts)
theorem tysT_in {R' : List V → Hp → Prop} {σ : SS} {H : Hp} : ∀ {ts : List Ty}, R' (ts.map fun t => .ty (tyS t)) H → tysT ts σ H R' := by
  intro ts
  induction ts generalizing R' with
  | nil => exact fun h => h
  | cons t ts ih => exact fun h => ih (R' := fun vs H2 => R' (.ty (tyS t) :: vs) H2) h
theorem tys_pa (G : Sur C R xa N W X sc fb lvl) : ∀ {ts : List Ty} {es : List Expr}, tysB.go R sc ts es = true → PA X es (tysT ts)
  | [], [], _ => pa_nil
  | t :: ts, .Name x p :: es, h => by
    have h' : (decide (x = tyN t) && (glB sc x && (R.free.contains x && tysB.go R sc ts es))) = true := h
    simp only [Bool.and_eq_true, decide_eq_true_eq] at h'
    obtain ⟨rfl, h2, h3, h4⟩ := h'
    exact pa_cons (ty_pe G h2 h3) (tys_pa G h4)
  | [], _ :: _, h => by cases h
  | _ :: _, [], h => by cases h
theorem s_isi (G : Sur C R xa N W X sc fb lvl) {a : E} {ts : List Ty} {x y : Expr} {p pos : Pos} (hg : glB sc "isinstance" = true) (hf : R.free.contains "isinstance" = true) (hx : nst x = true) (hy : nst y = true)
    (ha : PE X x (argT X.K xa W a (evE C false a))) (ht : tysB R sc ts y = true) : PE X (.Call (.Name "isinstance" p) [x, y] [] pos) (rdE X.K xa W (evE C false (.isi a ts))) := by
  obtain ⟨h1, h2, h3⟩ := gl_ok G hg
  have hs := star_ok (xs := [y]) (env := X.env) hx
  have hp := plain_ok (env := X.env) (pos := pos) (xs := [y]) (by show (nst y && true) = true; rw [hy]; rfl)
  have fin : ∀ {ty : TE}, PE X y ty → (∀ σ H (Rr : V → Hp → Prop), (∀ c H', (∀ e S T, StO X.K σ e S T H → StO X.K σ e S T H') → ((∃ t, ts = [t] ∧ c = .ty (tyS t)) ∨ ∃ tp, c = .ref tp ∧ H' tp = some (.tup (ts.map fun t => .ty (tyS t)))) → Rr c H') → ty σ H Rr) →
      PE X (.Call (.Name "isinstance" p) [x, y] [] pos) (rdE X.K xa W (evE C false (.isi a ts))) := fun {ty} hty w => by
    refine PE.weak (pe_callB (call_isiD ts) h1 (G.fr _ hf) (by decide +kernel) (pa_cons ha (pa_cons hty pa_nil (star_ok (xs := []) hy)) hs) h3 h2 hs hp) fun σ H Q ⟨e, S, T, I, P⟩ => ?_
    have P' : PQ X.K xa W σ S T (app1 (isiD ts) (ar a e (evE C false a e))) Q := P
    refine arg_in I (PQ.bindA P') fun v1 a1 e1 S1 T1 H1 g1 A1 I1 h1 => ?_
    refine w σ H1 _ fun c H2 keep hc => ?_
    have I2 := keep _ _ _ I1
    obtain ⟨dx, ex, h1⟩ := PQ.at h1 (rd1_ne (e := e1) (a := a1))
    exact ⟨v1, c, rfl, ⟨S1, dx, I2.s, rd1_ok A1 (Gr.refl _) (Gr.refl _) I2 ex, fin_op I2 h1⟩, hc⟩
  cases y with
  | Name z pz =>
    cases ts with
    | nil => cases ht
    | cons t r =>
      cases r with
      | nil =>
        have h' : (decide (z = tyN t) && (glB sc z && R.free.contains z)) = true := ht
        simp only [Bool.and_eq_true, decide_eq_true_eq] at h'
        obtain ⟨rfl, q2, q3⟩ := h'
        exact fin (ty_pe G q2 q3) fun σ H Rr w => w _ _ (fun _ _ _ I => I) (.inl ⟨t, rfl, rfl⟩)
      | cons t2 r => cases ht
  | Tuple es k pt =>
    have h2' : (tysB.go R sc ts es && decide (ts.length ≤ 10)) = true := by
      cases ts with
      | nil => exact ht
      | cons t r => cases r <;> exact ht
    obtain ⟨h', hlen⟩ := Bool.and_eq_true_iff.mp h2'
    refine fin (pe_tup (tys_pa G h')) fun σ H Rr w => tysT_in ⟨?_, fun q hq => w _ _ (fun e S T I => (I.newO hq).1) (.inr ⟨q, rfl, upd_same⟩)⟩
    rw [List.length_map]
    exact Nat.le_trans (of_decide_eq_true hlen) (by rw [sizeLine_eq]; decide)
  | _ => cases ts with
    | nil => cases ht
    | cons t r => cases r <;> cases ht
/-! ### pop -/
theorem s_pop0 (G : Sur C R xa N W X sc fb lvl) {i : Nat} {x : Expr} {apos cpos : Pos} (hx : nameB N sc i x = true) (hl : apos.endLine = cpos.line) :
    PE X (.Call (.Attribute x "pop" apos) [] [] cpos) (rdE X.K xa W (evE C false (.pop i none))) := by
  have hb : attributeBase x "pop" X.env (eval x X.env) = eval x X.env := by cases x <;> first | rfl | cases hx
  refine PE.weak (pe_bm0 PySem.F.plainAttrs_list PySem.F.slot_list_pop PySem.F.type_list_pop mt_pop (name_pe G hx) hb (by rw [hl]; exact beq_self_eq_true _)) fun σ H Q ⟨e, S, T, I, P⟩ => ?_
  have P' : PQ X.K xa W σ S T (match getE e i with
    | some (.o _) => (Res.ok (none, e) : Res (Option Int × SEnv)).bind fun k => popAt i k.1 k.2
    | _ => .stuck) Q := P
  cases z : getE e i with
  | none => rw [z] at P'; exact P'.elim
  | some s =>
    rw [z] at P'
    cases s with
    | d y => exact P'.elim
    | o l =>
      obtain ⟨a, vs, q1, q2, q3, q4, q5⟩ := I.own z
      refine ⟨.ref a, q1, .inl ⟨rfl, vs, .inl (.inl q2)⟩, ?_⟩
      have P2 : PQ X.K xa W σ S T (match getE e i with
        | some (.o l) => match l[l.length - 1]? with
          | some y => .ok (.d y, setE e i (some (.o l.dropLast)))
          | none => .stuck
        | _ => .stuck) Q := P'
      rw [z] at P2
      have P3 : PQ X.K xa W σ S T (match l[l.length - 1]? with
          | some y => .ok (.d y, setE e i (some (.o l.dropLast)))
          | none => .stuck) Q := P2
      cases zl : l[l.length - 1]? with
      | none => rw [zl] at P3; exact P3.elim
      | some y =>
        rw [zl] at P3
        obtain ⟨w, ew, hw⟩ := dps_get' q3 zl
        refine ⟨a, vs, w, rfl, rfl, q2, by rw [dps_len q3]; exact ew, ?_⟩
        exact P3 S _ (Gr.refl _) (I.write z q1 (dps_dropLast q3)) w hw
theorem s_pop1 (G : Sur C R xa N W X sc fb lvl) {i : Nat} {a : E} {x y : Expr} {apos cpos : Pos} (hx : nameB N sc i x = true) (hy : nst y = true) (hl : apos.endLine = cpos.line) (ha : PE X y (argT X.K xa W a (evE C false a))) :
    PE X (.Call (.Attribute x "pop" apos) [y] [] cpos) (rdE X.K xa W (evE C false (.pop i (some a)))) := by
  have hb : attributeBase x "pop" X.env (eval x X.env) = eval x X.env := by cases x <;> first | rfl | cases hx
  have hs := star_ok (xs := []) (env := X.env) hy
  refine PE.weak (pe_bm PySem.F.plainAttrs_list PySem.F.slot_list_pop PySem.F.type_list_pop mt_popAt (name_pe G hx) (pa_cons ha pa_nil hs) hb (by rw [hs]; rfl) (by rw [hl]; exact beq_self_eq_true _) hs rfl) fun σ H Q ⟨e, S, T, I, P⟩ => ?_
  have P' : PQ X.K xa W σ S T (match getE e i with
    | some (.o _) => (evO C (some a) e).bind fun k => popAt i k.1 k.2
    | _ => .stuck) Q := P
  cases z : getE e i with
  | none => rw [z] at P'; exact P'.elim
  | some s =>
    rw [z] at P'
    cases s with
    | d y => exact P'.elim
    | o l =>
      obtain ⟨b, vs, q1, q2, q3, q4, q5⟩ := I.own z
      refine ⟨.ref b, q1, .inl ⟨rfl, vs, .inl (.inl q2)⟩, ?_⟩
      have P2 : PQ X.K xa W σ S T ((evO C (some a) e).bind fun k => popAt i k.1 k.2) Q := P'
      rw [evO_some] at P2
      refine arg_in I (PQ.bindA0 P2 (Gr.refl T)) fun v1 a1 e1 S1 T1 H1 g1 A1 I1 h1 => ?_
      obtain ⟨x, ex, h1⟩ := PQ.at h1 (rd1_ne (e := e1) (a := a1))
      have bx := rd1_ok A1 (Gr.refl _) (Gr.refl _) I1 ex
      cases x <;> first
        | exact (show False from h1).elim
        | skip
      rename_i j
      cases bx
      have h2 : PQ X.K xa W σ S1 T (popAt i (some j) e1) Q := h1
      unfold popAt at h2
      cases z1 : getE e1 i with
      | none => rw [z1] at h2; exact h2.elim
      | some s =>
        rw [z1] at h2
        cases s with
        | d y => exact h2.elim
        | o l1 =>
          obtain ⟨b1, vs1, r1, r2, r3, r4, r5⟩ := I1.own z1
          rw [q1] at r1; cases r1
          cases zg : (decide (-(2 ^ 63) ≤ j) && decide (j < 2 ^ 63)) with
          | false =>
            simp only [zg] at h2
            exact h2.elim
          | true =>
            simp only [zg, grd_true] at h2
            simp only [Bool.and_eq_true, decide_eq_true_eq] at zg
            cases zn : Ev.ixN l1.length j with
            | none => rw [zn] at h2; exact h2.elim
            | some n =>
              rw [zn] at h2
              simp only at h2
              cases zy : l1[n]? with
              | none => rw [zy] at h2; exact h2.elim
              | some y =>
                rw [zy] at h2
                obtain ⟨w, ew, hw⟩ := dps_get' r3 zy
                have e3 : L2.ixN vs1.length j = some n := by rw [dps_len r3]; exact zn
                refine ⟨b, vs1, j, n, w, rfl, rfl, r2, zg.1, zg.2, (ixN_seq e3).1, ew, ?_⟩
                have J := I1.less A1.t
                exact h2 S1 _ (Gr.refl _) (J.write z1 q1 (dps_erase n r3)) w hw
end
end EvS

set_option Elab.async false
set_option linter.all false
set_option maxHeartbeats 4000000
/-! PyEvL: targets, what is walked, comprehensions. -/
namespace EvS
open PySem PySem.Spec PyProof.Rows L2 Ev

theorem getE_eq : ∀ (e : SEnv) (i : Nat), getE e i = e[i]?.join
  | [], i => by cases i <;> rfl
  | x :: r, 0 => rfl
  | x :: r, i + 1 => by
    show getE r i = _
    rw [getE_eq r i]; simp
def onlyE (e : SEnv) (ids : List Nat) : SEnv := (List.range e.length).map fun i => if ids.contains i then getE e i else none
theorem getE_only {e : SEnv} {ids : List Nat} {i : Nat} {y : Sl} : getE (onlyE e ids) i = some y ↔ i ∈ ids ∧ getE e i = some y := by
  rw [getE_eq]
  unfold onlyE
  rw [List.getElem?_map]
  by_cases h : i < e.length
  · rw [List.getElem?_range h]
    by_cases hc : ids.contains i = true
    · have hm : i ∈ ids := List.contains_iff_mem.mp hc
      simp [hm]
    · have hm : i ∉ ids := fun z => hc (List.contains_iff_mem.mpr z)
      simp [hm]
  · rw [List.getElem?_eq_none (by simpa using h)]
    constructor
    · intro z; cases z
    · rintro ⟨_, z⟩; exact absurd (getE_lt z) h
theorem wipeE_len {e : SEnv} : ∀ ids : List Nat, (wipeE e ids).length = e.length
  | [] => rfl
  | i :: r => by unfold wipeE; rw [setE_len, wipeE_len r]
theorem getE_wipe {e : SEnv} {j : Nat} {y : Sl} : ∀ {ids : List Nat}, getE (wipeE e ids) j = some y → j ∉ ids ∧ getE e j = some y
  | [], h => ⟨by simp, h⟩
  | i :: r, h => by
    unfold wipeE at h
    rcases getE_set_cases h with ⟨_, q⟩ | ⟨hj, q⟩
    · cases q
    · obtain ⟨h1, h2⟩ := getE_wipe q
      exact ⟨by simp [hj, h1], h2⟩
theorem wipe_getE {e : SEnv} {j : Nat} {y : Sl} : ∀ {ids : List Nat}, j ∉ ids → getE e j = some y → getE (wipeE e ids) j = some y
  | [], _, h => h
  | i :: r, hj, h => by
    have h1 : j ≠ i := fun z => hj (by simp [z])
    have h2 : j ∉ r := fun z => hj (by simp [z])
    unfold wipeE
    rw [getE_set, if_neg (fun z => h1 z.1)]
    exact wipe_getE h2 h
theorem putBack_len {e e0 : SEnv} : ∀ ids : List Nat, (putBack e e0 ids).length = e.length
  | [] => rfl
  | i :: r => by unfold putBack; rw [setE_len, putBack_len r]
theorem getE_put {e e0 : SEnv} {j : Nat} {y : Sl} : ∀ {ids : List Nat}, getE (putBack e e0 ids) j = some y → (j ∈ ids ∧ getE e0 j = some y) ∨ (j ∉ ids ∧ getE e j = some y)
  | [], h => .inr ⟨by simp, h⟩
  | i :: r, h => by
    unfold putBack at h
    rcases getE_set_cases h with ⟨hj, q⟩ | ⟨hj, q⟩
    · exact .inl ⟨by simp [hj], by rw [hj]; exact q⟩
    · rcases getE_put q with ⟨a, b⟩ | ⟨a, b⟩
      · exact .inl ⟨by simp [a], b⟩
      · exact .inr ⟨by simp [a, hj], b⟩

section
variable {K : Fr} {xa : Nat → Addr} {W : WX} {σ σ' : SS} {e e' : SEnv} {S S' T T' H H' : Hp}
theorem SlOk.eqv {ov ov' : Option V} {x : Sl} (h : SlOk K S T H ov x) (e : ov' = ov) : SlOk K S T H ov' x := by rw [e]; exact h
theorem StO.sub (I : StO K σ e S T H) (hl : e'.length ≤ σ'.length) (h : ∀ j y, getE e' j = some y → getE e j = some y ∧ σ'[j]?.join = σ[j]?.join) : StO K σ' e' S T H where
  len := hl
  s := I.s
  t := I.t
  dj := I.dj
  sl := fun i x q => by
    obtain ⟨h1, h2⟩ := h i x q
    exact (I.sl i x h1).eqv h2
  inj := fun i j l l' h1 h2 h3 => by
    obtain ⟨a1, a2⟩ := h i _ h1
    obtain ⟨b1, b2⟩ := h j _ h2
    exact I.inj i j l l' a1 b1 (by rw [← a2, ← b2]; exact h3)
/-- the own lists of some slots are held by others for a while -/
theorem StO.holds (I : StO K σ e S T H) (ids : List Nat) : StO K σ (wipeE e ids) S (cov σ (onlyE e ids) T H) H where
  len := by rw [wipeE_len]; exact I.len
  s := I.s
  t := fun a o h => by
    by_cases c : ∃ i l, getE (onlyE e ids) i = some (.o l) ∧ σ[i]?.join = some (.ref a)
    · obtain ⟨i, l, c1, c2⟩ := c
      rw [cov_own c1 c2] at h; exact h
    · rw [cov_not c] at h; exact I.t a o h
  dj := fun a o h => by
    by_cases c : ∃ i l, getE (onlyE e ids) i = some (.o l) ∧ σ[i]?.join = some (.ref a)
    · obtain ⟨i, l, c1, c2⟩ := c
      obtain ⟨b, ws, q1, _, _, q4, _⟩ := I.sl i _ (getE_only.mp c1).2
      rw [c2] at q1; cases q1
      rw [q4] at h; cases h
    · rw [cov_not c]; exact I.dj a o h
  sl := fun i x h => by
    obtain ⟨h1, h2⟩ := getE_wipe h
    have q := I.sl i x h2
    cases x with
    | d y => exact q
    | o l =>
      obtain ⟨a, ws, q1, q2, q3, q4, q5⟩ := q
      refine ⟨a, ws, q1, q2, q3, q4, ?_⟩
      rw [cov_not]
      · exact q5
      · rintro ⟨j, l', c1, c2⟩
        obtain ⟨d1, d2⟩ := getE_only.mp c1
        have := I.inj j i l' l d2 h2 (by rw [c2, q1])
        subst this
        exact h1 d1
  inj := fun i j l l' h1 h2 h3 => I.inj i j l l' (getE_wipe h1).2 (getE_wipe h2).2 h3
theorem holds_gr (I : StO K σ e S T H) (ids : List Nat) : Gr T (cov σ (onlyE e ids) T H) := fun a o h => by
  rw [cov_not]
  · exact h
  · rintro ⟨i, l, c1, c2⟩
    obtain ⟨b, ws, q1, _, _, _, q5⟩ := I.sl i _ (getE_only.mp c1).2
    rw [c2] at q1; cases q1
    rw [q5] at h; cases h
/-- .. and come back -/
theorem StO.unhold {S0 H0 T1 : Hp} {e0 ew : SEnv} {σw : SS} {ids : List Nat} (I0 : StO K σ e0 S0 T H0) (g : Gr S0 S') (J : StO K σw ew S' T1 H') (ht : Gr (cov σ (onlyE e0 ids) T H0) T1) (hl : e'.length ≤ σ.length)
    (h : ∀ j y, getE e' j = some y → (j ∈ ids ∧ getE e0 j = some y) ∨ (getE ew j = some y ∧ σ[j]?.join = σw[j]?.join)) : StO K σ e' S' T H' := by
  have g2 := (holds_gr I0 ids).trans ht
  have own0 : ∀ {j l}, j ∈ ids → getE e0 j = some (.o l) → ∃ a ws, σ[j]?.join = some (.ref a) ∧ T1 a = some (.lst ws) ∧ DqAll K S0 ws l ∧ T a = none := fun {j l} hj q => by
    obtain ⟨a, ws, q1, q2, q3, q4, q5⟩ := I0.sl j _ q
    refine ⟨a, ws, q1, ht a _ ?_, q3, q5⟩
    rw [cov_own (getE_only.mpr ⟨hj, q⟩) q1]; exact q2
  refine ⟨hl, J.s, fun a o q => J.t a o (g2 a o q), fun a o q => g2.nn (J.dj a o q), fun j y q => ?_, fun i j l l' h1 h2 h3 => ?_⟩
  · rcases h j y q with ⟨h1, h2⟩ | ⟨h1, h2⟩
    · cases y with
      | d x => obtain ⟨v, r1, r2⟩ := I0.sl j _ h2; exact ⟨v, r1, g.dp r2⟩
      | o l =>
        obtain ⟨a, ws, q1, q2, q3, q4⟩ := own0 h1 h2
        refine ⟨a, ws, q1, J.t a _ q2, g.dps q3, ?_, q4⟩
        cases z : S' a with
        | none => rfl
        | some u => have := J.dj a u z; rw [q2] at this; cases this
    · have r := J.sl j y h1
      rw [h2]
      cases y with
      | d x => exact r
      | o l => obtain ⟨a, ws, q1, q2, q3, q4, q5⟩ := r; exact ⟨a, ws, q1, q2, q3, q4, g2.nn q5⟩
  · rcases h i _ h1 with ⟨a1, a2⟩ | ⟨a1, a2⟩
    · rcases h j _ h2 with ⟨b1, b2⟩ | ⟨b1, b2⟩
      · exact I0.inj i j l l' a2 b2 h3
      · obtain ⟨a, ws, q1, q2, _⟩ := own0 a1 a2
        obtain ⟨b, ws', r1, _, _, _, r5⟩ := J.sl j _ b1
        rw [q1, b2, r1] at h3; cases h3
        rw [q2] at r5; cases r5
    · rcases h j _ h2 with ⟨b1, b2⟩ | ⟨b1, b2⟩
      · obtain ⟨a, ws, q1, q2, _⟩ := own0 b1 b2
        obtain ⟨b, ws', r1, _, _, _, r5⟩ := J.sl i _ a1
        rw [q1, a2, r1] at h3; cases h3
        rw [q2] at r5; cases r5
      · exact J.inj i j l l' a1 b1 (by rw [← a2, ← b2]; exact h3)
end

/-! ### targets -/
/-- a value at a target -/
def gPat (K : Fr) (nk : Nat → Bool) (p : Pat) : TG := fun v σ H Q => ∃ e S T x e1, StO K σ e S T H ∧ Dq K S v x ∧ bindP nk p x e = .ok e1 ∧
  ∀ σ', StO K σ' e1 S T H → (∀ j, nk j = true → σ'[j]? = σ[j]?) → (∀ j, j ∉ slots p → σ'[j]? = σ[j]?) → σ'.length = σ.length → Q σ' H
def gPats (K : Fr) (nk : Nat → Bool) (ps : List Pat) : TGs := fun vs σ H Q => ∃ e S T xs e1, StO K σ e S T H ∧ DqAll K S vs xs ∧ bindPs nk ps xs e = .ok e1 ∧
  ∀ σ', StO K σ' e1 S T H → (∀ j, nk j = true → σ'[j]? = σ[j]?) → (∀ j, j ∉ slotsL ps → σ'[j]? = σ[j]?) → σ'.length = σ.length → Q σ' H
/-- a place for a name -/
structure Tgt (X : L2.Cx) (sc : Scope) (N : List Str) (fb : Str → Bool) : Prop where
  hsc : X.env.scope = sc
  hN : X.N = N
  nd : X.N.Nodup
  calm : X.calm = true
  fn : ∀ x, fb x = true → X.fn x = true
theorem Sur.tgt {C : Wx} {R : Ren} {xa : Nat → Addr} {N : List Str} {W : WX} {X : L2.Cx} {sc : Scope} {fb : Str → Bool} {lvl : Nat} (G : Sur C R xa N W X sc fb lvl) : Tgt X sc N fb := ⟨G.hsc, G.hN, G.nd, G.calm, G.fn⟩
theorem PG.weak {X : L2.Cx} {tg : Expr} {t t' : TG} (h : PG X tg t) (w : ∀ v σ H Q, t' v σ H Q → t v σ H Q) : PG X tg t' := ⟨fun pins s σ H v u Q I r q => h.run pins s σ H v u Q I r (w v σ H Q q)⟩
theorem PGs.weak {X : L2.Cx} {ts : List Expr} {t t' : TGs} (h : PGs X ts t) (w : ∀ v σ H Q, t' v σ H Q → t v σ H Q) : PGs X ts t' := ⟨fun pins s σ H v u Q I r q => h.run pins s σ H v u Q I r (w v σ H Q q)⟩
theorem PG.or {X : L2.Cx} {tg : Expr} {t t' : TG} (h : PG X tg t) (h' : PG X tg t') : PG X tg (fun v σ H Q => t v σ H Q ∨ t' v σ H Q) := ⟨fun pins s σ H v u Q I r q => q.elim (fun q => h.run pins s σ H v u Q I r q) fun q => h'.run pins s σ H v u Q I r q⟩
theorem asg_len {X : L2.Cx} : ∀ {es : List Expr}, nsts es = true → (assignEach es X.env).length = es.length ∧ (assignEach es X.env).findIdx? (·.1) = none
  | [], _ => ⟨rfl, rfl⟩
  | x :: xs, h => by
    obtain ⟨h1, h2⟩ := nsts_ok h
    obtain ⟨q1, q2⟩ := asg_len (X := X) h2
    have e : assignEach (x :: xs) X.env = (false, assign x X.env) :: assignEach xs X.env := by cases x <;> first | rfl | cases h1
    rw [e]
    exact ⟨by simp [q1], by simp [List.findIdx?_cons, q2]⟩
theorem asg_cons {X : L2.Cx} {x : Expr} {xs : List Expr} (h : nst x = true) : (assignEach (x :: xs) X.env).map (·.2) = assign x X.env :: (assignEach xs X.env).map (·.2) := by cases x <;> first | rfl | cases h
theorem chkPs_len {N : List Str} {sc : Scope} {fb : Str → Bool} : ∀ {ps : List Pat} {es : List Expr}, chkPs N sc fb ps es = true → ps.length = es.length ∧ nsts es = true
  | [], [], _ => ⟨rfl, rfl⟩
  | p :: ps, e :: es, h => by
    have h' : (nst e && (chkP N sc fb p e && chkPs N sc fb ps es)) = true := h
    simp only [Bool.and_eq_true] at h'
    obtain ⟨a, b⟩ := chkPs_len h'.2.2
    exact ⟨by simp [a], by show (nst e && nsts es) = true; simp [h'.1, b]⟩
  | [], _ :: _, h => by cases h
  | _ :: _, [], h => by cases h
theorem bindPs_len {nk : Nat → Bool} : ∀ {ps : List Pat} {xs : List D} {e e1 : SEnv}, bindPs nk ps xs e = .ok e1 → ps.length = xs.length
  | [], [], _, _, _ => rfl
  | p :: ps, x :: xs, e, e1, h => by
    obtain ⟨e2, _, h2⟩ := bindOk (show (bindP nk p x e).bind (fun e1 => bindPs nk ps xs e1) = .ok e1 from h)
    simp [bindPs_len h2]
  | [], _ :: _, _, _, h => by cases h
  | _ :: _, [], _, _, h => by cases h
section
variable {X : L2.Cx} {sc : Scope} {N : List Str} {fb : Str → Bool} {nk : Nat → Bool}
mutual
theorem pg_pat (G : Tgt X sc N fb) : ∀ (p : Pat) (tg : Expr), chkP N sc fb p tg = true → PG X tg (gPat X.K nk p)
  | .n i, .Name x pos, h => by
    have h' : (decide (N[i]? = some x) && match sc.names.lookup x with
      | some .local => true
      | some .cell => fb x
      | _ => false) = true := h
    simp only [Bool.and_eq_true, decide_eq_true_eq] at h'
    obtain ⟨h1, h2⟩ := h'
    have hl : L2.Loc X.env.scope x ∧ (X.fn x = true ∨ X.env.scope.names.lookup x = some .local) := by
      unfold L2.Loc
      rw [G.hsc]
      cases z : sc.names.lookup x with
      | none => rw [z] at h2; cases h2
      | some k =>
        rw [z] at h2
        cases k with
        | «local» => exact ⟨.inl rfl, .inr rfl⟩
        | cell => exact ⟨.inr rfl, .inl (G.fn x h2)⟩
        | _ => cases h2
    refine PG.weak (pg_name (i := i) G.nd (by rw [G.hN]; exact h1) hl.1 hl.2) fun v σ H Q ⟨e, S, T, d, e1, I, hd, hb, q⟩ => ?_
    have hb' : grd (!nk i) (Res.ok (setE e i (some (.d d)))) = .ok e1 := hb
    obtain ⟨hn, hb'⟩ := grdOk hb'
    cases hb'
    refine q _ (I.store (x := .d d) hd) (fun j hj => ?_) (fun j hj => ?_) (by simp)
    · rw [List.getElem?_set_ne]
      rintro rfl
      rw [hj] at hn; cases hn
    · rw [List.getElem?_set_ne]
      rintro rfl
      exact hj (by simp [slots])
  | .t ps, .Tuple es k pos, h => by
    have h' : chkPs N sc fb ps es = true := h
    obtain ⟨hl, hns⟩ := chkPs_len h'
    obtain ⟨a1, a2⟩ := asg_len (X := X) hns
    have hps := pgs_pat G ps es h'
    refine PG.weak (PG.or (pg_tup (n := es.length) G.calm hps a1 a2) (pg_lst (n := es.length) G.calm hps a1 a2)) fun v σ H Q ⟨e, S, T, d, e1, I, hd, hb, q⟩ => ?_
    have hb' : (match seqOf d with
      | some xs => bindPs nk ps xs e
      | none => .stuck) = .ok e1 := hb
    cases hd with
    | @lst a vs xs h1 h2 =>
      have hb2 : bindPs nk ps xs e = .ok e1 := hb'
      refine .inr ⟨a, vs, rfl, .inl (I.s.rd h1), ?_, e, S, T, xs, e1, I, h2, hb2, q⟩
      rw [dps_len h2, ← bindPs_len hb2, hl]
    | @tup a vs xs h1 h2 =>
      have hb2 : bindPs nk ps xs e = .ok e1 := hb'
      refine .inl ⟨a, vs, rfl, I.s.sqt h1, ?_, e, S, T, xs, e1, I, h2, hb2, q⟩
      rw [dps_len h2, ← bindPs_len hb2, hl]
    | _ => cases (show (Res.stuck : Res SEnv) = .ok e1 from hb')
  | .n i, .Tuple _ _ _, h => by cases h
  | .t _, .Name _ _, h => by cases h
  | p, .BoolOp _ _ _, h => by cases p <;> cases h
  | p, .NamedExpr _ _ _, h => by cases p <;> cases h
  | p, .BinOp _ _ _ _, h => by cases p <;> cases h
  | p, .UnaryOp _ _ _, h => by cases p <;> cases h
  | p, .Lambda _ _ _ _, h => by cases p <;> cases h
  | p, .IfExp _ _ _ _, h => by cases p <;> cases h
  | p, .Dict _ _ _, h => by cases p <;> cases h
  | p, .Set _ _ _, h => by cases p <;> cases h
  | p, .ListComp _ _ _ _, h => by cases p <;> cases h
  | p, .SetComp _ _ _ _, h => by cases p <;> cases h
  | p, .DictComp _ _ _ _ _, h => by cases p <;> cases h
  | p, .GeneratorExp _ _ _ _, h => by cases p <;> cases h
  | p, .Await _ _, h => by cases p <;> cases h
  | p, .Yield _ _, h => by cases p <;> cases h
  | p, .YieldFrom _ _, h => by cases p <;> cases h
  | p, .Compare _ _ _ _, h => by cases p <;> cases h
  | p, .Call _ _ _ _, h => by cases p <;> cases h
  | p, .FormattedValue _ _ _ _, h => by cases p <;> cases h
  | p, .JoinedStr _ _, h => by cases p <;> cases h
  | p, .Constant _ _ _, h => by cases p <;> cases h
  | p, .Attribute _ _ _, h => by cases p <;> cases h
  | p, .Subscript _ _ _, h => by cases p <;> cases h
  | p, .Starred _ _, h => by cases p <;> cases h
  | p, .List _ _, h => by cases p <;> cases h
  | p, .Slice _ _ _ _, h => by cases p <;> cases h
theorem pgs_pat (G : Tgt X sc N fb) : ∀ (ps : List Pat) (es : List Expr), chkPs N sc fb ps es = true → PGs X es (gPats X.K nk ps)
  | [], [], _ => PGs.weak pgs_nil fun vs σ H Q ⟨e, S, T, xs, e1, I, hd, hb, q⟩ => by
    cases hd with
    | nil =>
      have hb' : Res.ok e = Res.ok e1 := hb
      cases hb'
      exact ⟨rfl, q σ I (fun _ _ => rfl) (fun _ _ => rfl) rfl⟩
    | cons a b => cases hb
  | p :: ps, x :: es, h => by
    have h' : (nst x && (chkP N sc fb p x && chkPs N sc fb ps es)) = true := h
    simp only [Bool.and_eq_true] at h'
    refine PGs.weak (pgs_cons (pg_pat G p x h'.2.1) (pgs_pat G ps es h'.2.2) (asg_cons h'.1)) fun vs σ H Q ⟨e, S, T, xs, e1, I, hd, hb, q⟩ => ?_
    cases hd with
    | nil => cases hb
    | @cons v vr d ds h1 h2 =>
      have hb' : (bindP nk p d e).bind (fun e1 => bindPs nk ps ds e1) = .ok e1 := hb
      obtain ⟨e2, b1, b2⟩ := bindOk hb'
      refine ⟨v, vr, rfl, e, S, T, d, e2, I, h1, b1, fun σ1 I1 k1 k2 k3 => ?_⟩
      refine ⟨e2, S, T, ds, e1, I1, h2, b2, fun σ2 I2 m1 m2 m3 => q σ2 I2 (fun j hj => (m1 j hj).trans (k1 j hj)) (fun j hj => ?_) (m3.trans k3)⟩
      have hj' : j ∉ slots p ++ slotsL ps := hj
      rw [List.mem_append] at hj'
      exact (m2 j fun z => hj' (.inr z)).trans (k2 j fun z => hj' (.inl z))
  | [], _ :: _, h => by cases h
  | _ :: _, [], h => by cases h
end
end
end EvS

set_option Elab.async false
set_option linter.all false
set_option maxHeartbeats 4000000
/-! PyEvW: what is walked. -/
namespace EvS
open PySem PySem.Spec PyProof.Rows L2 Ev

/-- a walk over the data l; G: while it stands -/
def Wk (K : Fr) (S : Hp) (G : Hp → Prop) (l : List D) (J : It) : Prop := Walk J l.length G fun i H x H' => ∃ d, l[i]? = some d ∧ ResOk K S H x H' (.d d)
theorem Wk.mono {K : Fr} {S : Hp} {G G' : Hp → Prop} {l : List D} {J : It} (w : Wk K S G l J) (h : ∀ H, G' H → G H) : Wk K S G' l J := Walk.mono w h fun _ _ _ _ _ _ y => y
theorem ResOk.gr {K : Fr} {S S' H H' : Hp} {v : V} {r : Sl} (g : Gr S S') (h : ResOk K S H v H' r) : ResOk K S' H v H' r := by
  cases h with
  | same h => exact .same (g.dp h)
  | tup h d => exact .tup h (g.dps d)
  | lst h d => exact .lst h (g.dps d)
section
variable {K : Fr} {S : Hp}
theorem wk_list {G : Hp → Prop} {a : Addr} {vs : List V} {l : List D} (h : ∀ H, G H → SqL K H a vs) (hd : DqAll K S vs l) : Wk K S G l (Itl K a) := by
  have w := Walk.mono (walk_list (K := K) (a := a) (xs := vs)) (G' := G) (Y' := fun i H x H' => ∃ d, l[i]? = some d ∧ ResOk K S H x H' (.d d)) h fun i H x H' hi q y => by
    obtain ⟨rfl, y⟩ := y
    obtain ⟨d, e, q⟩ := dps_get hd y
    exact ⟨d, e, .same q⟩
  rw [dps_len hd] at w
  exact w
theorem wk_tup {G : Hp → Prop} {a : Addr} {vs : List V} {l : List D} (h : ∀ H, G H → SqT K H a vs) (hd : DqAll K S vs l) : Wk K S G l (Itt K a) := by
  have w := Walk.mono (walk_tup (K := K) (a := a) (xs := vs)) (G' := G) (Y' := fun i H x H' => ∃ d, l[i]? = some d ∧ ResOk K S H x H' (.d d)) h fun i H x H' hi q y => by
    obtain ⟨rfl, y⟩ := y
    obtain ⟨d, e, q⟩ := dps_get hd y
    exact ⟨d, e, .same q⟩
  rw [dps_len hd] at w
  exact w
theorem intR_len (lo : Int) (n : Nat) : (intR lo n).length = n := by simp [intR]
theorem intR_get {lo : Int} {n i : Nat} (h : i < n) : (intR lo n)[i]? = some (.int (lo + i)) := by simp [intR, h]
theorem wk_range {G : Hp → Prop} {lo : Int} {n : Nat} : Wk K S G (intR lo n) (Itr lo n) := by
  have w := Walk.mono (walk_range (lo := lo) (n := n)) (G' := G) (Y' := fun i H x H' => ∃ d, (intR lo n)[i]? = some d ∧ ResOk K S H x H' (.d d)) (fun _ _ => trivial) fun i H x H' hi q y => by
    obtain ⟨rfl, rfl⟩ := y
    exact ⟨_, intR_get hi, .same (.int _)⟩
  unfold Wk
  rw [intR_len]
  exact w
theorem zip_get : ∀ {xs ys : List D} {i : Nat} {x y : D}, xs[i]? = some x → ys[i]? = some y → (zipD xs ys)[i]? = some (.tuple [x, y])
  | a :: xs, b :: ys, 0, x, y, h1, h2 => by cases h1; cases h2; rfl
  | a :: xs, b :: ys, i + 1, x, y, h1, h2 => zip_get (xs := xs) (ys := ys) (by simpa using h1) (by simpa using h2)
  | [], _, i, x, y, h1, _ => by cases h1
  | a :: xs, [], i, x, y, _, h2 => by cases h2
theorem zip_len : ∀ (xs ys : List D), (zipD xs ys).length = min xs.length ys.length
  | a :: xs, b :: ys => by simp [zipD, zip_len xs ys]
  | [], ys => by simp [zipD]
  | a :: xs, [] => by simp [zipD]
theorem enum_get : ∀ {xs : List D} {i : Nat} {k : Int} {x : D}, xs[i]? = some x → (enumD k xs)[i]? = some (.tuple [.int (k + i), x])
  | a :: xs, 0, k, x, h => by cases h; simp [enumD]
  | a :: xs, i + 1, k, x, h => by
    have q := enum_get (xs := xs) (k := k + 1) (i := i) (by simpa using h)
    simp only [enumD, List.getElem?_cons_succ]
    rw [q]
    have : k + 1 + (i : Int) = k + ((i + 1 : Nat) : Int) := by push_cast; omega
    rw [this]
  | [], i, k, x, h => by cases h
theorem enum_len : ∀ (xs : List D) (k : Int), (enumD k xs).length = xs.length
  | [], _ => rfl
  | a :: xs, k => by simp [enumD, enum_len xs]
theorem pair_ok {Xs Ys : Nat → Option V} {l : List D} {i : Nat} {H H' : Hp} {v : V} (y : YPair Xs Ys i H v H') (h : ∀ a b, Xs i = some a → Ys i = some b → ∃ c d, DqAll K S [a, b] [c, d] ∧ l[i]? = some (.tuple [c, d])) :
    ∃ d, l[i]? = some d ∧ ResOk K S H v H' (.d d) := by
  obtain ⟨T, x, z, rfl, h2, rfl, h3, h4⟩ := y
  obtain ⟨c, d, q, e⟩ := h x z h3 h4
  exact ⟨_, e, .tup h2 q⟩
theorem wk_enum {G : Hp → Prop} {a : Addr} {vs : List V} {l : List D} (h : ∀ H, G H → SqL K H a vs) (hd : DqAll K S vs l) : Wk K S G (enumD 0 l) (Ite K a) := by
  have w := Walk.mono (walk_enum (K := K) (a := a) (xs := vs)) (G' := G) (Y' := fun i H x H' => ∃ d, (enumD 0 l)[i]? = some d ∧ ResOk K S H x H' (.d d)) h fun i H x H' hi q y =>
    pair_ok y fun a b e1 e2 => by
      cases e1
      obtain ⟨d, e, q⟩ := dps_get hd e2
      refine ⟨_, _, .cons (.int _) (.cons q .nil), ?_⟩
      rw [enum_get e]
      simp
  unfold Wk
  rw [enum_len, ← dps_len hd]
  exact w
theorem wk_zip {G : Hp → Prop} {a b : Addr} {vs ws : List V} {l r : List D} (h : ∀ H, G H → SqL K H a vs ∧ SqL K H b ws) (hd : DqAll K S vs l) (hr : DqAll K S ws r) : Wk K S G (zipD l r) (Itz K a b) := by
  have w := Walk.mono (walk_zip (K := K) (a := a) (b := b) (xs := vs) (ys := ws) rfl) (G' := G) (Y' := fun i H x H' => ∃ d, (zipD l r)[i]? = some d ∧ ResOk K S H x H' (.d d)) h fun i H x H' hi q y =>
    pair_ok y fun a b e1 e2 => by
      obtain ⟨d, e, q⟩ := dps_get hd e1
      obtain ⟨d', e', q'⟩ := dps_get hr e2
      exact ⟨_, _, .cons q (.cons q' .nil), zip_get e e'⟩
  unfold Wk
  rw [zip_len, ← dps_len hd, ← dps_len hr]
  exact w
theorem walk_zipT {a b : Addr} {xs ys : List V} {n : Nat} (hn : n = min xs.length ys.length) : Walk (RZ.ItzT K a b) n (fun H => SqT K H a xs ∧ SqT K H b ys) (YPair (fun i => xs[i]?) (fun i => ys[i]?)) := by
  subst hn
  refine ⟨fun i _ hi q => ?_, fun _ q => ⟨xs, ys, q.1, q.2, by omega⟩, fun i H v H' _ q y => ?_⟩
  · have h1 : i < xs.length := by omega
    have h2 : i < ys.length := by omega
    exact ⟨xs, ys, xs[i], ys[i], q.1, q.2, by simp [h1], by simp [h2]⟩
  · obtain ⟨T, x, z, h1, h2, h3, h4, h5⟩ := y
    exact ⟨T, x, z, h1, h2, h3, h4 xs q.1, h5 ys q.2⟩
theorem wk_zipT {G : Hp → Prop} {a b : Addr} {vs ws : List V} {l r : List D} (h : ∀ H, G H → SqT K H a vs ∧ SqT K H b ws) (hd : DqAll K S vs l) (hr : DqAll K S ws r) : Wk K S G (zipD l r) (RZ.ItzT K a b) := by
  have w := Walk.mono (walk_zipT (K := K) (a := a) (b := b) (xs := vs) (ys := ws) rfl) (G' := G) (Y' := fun i H x H' => ∃ d, (zipD l r)[i]? = some d ∧ ResOk K S H x H' (.d d)) h fun i H x H' hi q y =>
    pair_ok y fun a b e1 e2 => by
      obtain ⟨d, e, q⟩ := dps_get hd e1
      obtain ⟨d', e', q'⟩ := dps_get hr e2
      exact ⟨_, _, .cons q (.cons q' .nil), zip_get e e'⟩
  unfold Wk
  rw [zip_len, ← dps_len hd, ← dps_len hr]
  exact w
end

/-! ### an iterator's reading -/
def ItK (K : Fr) (S : Hp) (H : Hp) (R : It → Hp → Prop) (r : Sl) : Prop := match seqOf (frz r) with
  | some l => ∀ J, Wk K S (Gr S) l J → R J H
  | none => False
/-- a thing that is walked, its data shared -/
def rdI (K : Fr) (xa : Nat → Addr) (W : WX) (F : SEnv → Res (Sl × SEnv)) : TI := fun σ H R => ∃ e S T, StO K σ e S T H ∧ Post K xa W σ S T (F e) fun r e' S' H' => ItK K S' H' R r
/-- a name, as it stands -/
def bwI (K : Fr) (i : Nat) : TI := fun σ H R => ∃ v, σ[i]? = some (some v) ∧ ((∃ a xs, v = .ref a ∧ SqL K H a xs ∧ R (Itl K a) H) ∨ ∃ a xs, v = .ref a ∧ SqT K H a xs ∧ R (Itt K a) H)
def lcI (K : Fr) (xa : Nat → Addr) (W : WX) (a : E) (F : SEnv → Res (Sl × SEnv)) : TI := match a with
  | .v i => bwI K i
  | _ => rdI K xa W F
theorem PI.weak {X : L2.Cx} {tg e : Expr} {t t' : TI} (h : PI X tg e t) (w : ∀ σ H R, t' σ H R → t σ H R) : PI X tg e t' := ⟨fun pins s σ H R I q => h.run pins s σ H R I (w σ H R q)⟩
theorem PI.or {X : L2.Cx} {tg e : Expr} {t t' : TI} (h : PI X tg e t) (h' : PI X tg e t') : PI X tg e (fun σ H R => t σ H R ∨ t' σ H R) := ⟨fun pins s σ H R I q => q.elim (fun q => h.run pins s σ H R I q) fun q => h'.run pins s σ H R I q⟩
section
variable {K : Fr} {xa : Nat → Addr} {W : WX} {σ : SS} {e : SEnv} {S S' T T0 H : Hp}
theorem Post.monoS {α : Type} {r : Res (α × SEnv)} {k : α → SEnv → Hp → Hp → Prop} (h : Post K xa W σ S T r k) (g : Gr S S') : Post K xa W σ S' T r k := Post.imp h g (Gr.refl T) fun _ _ _ _ _ _ x => x
theorem Post.bindL0 {α : Type} {r : Res (List AV × SEnv)} {f : List AV × SEnv → Res (α × SEnv)} {k : α → SEnv → Hp → Hp → Prop} (h : Post K xa W σ S T0 (r.bind f) k) (t : Gr T0 T) :
    PostL K xa W σ S T r fun vs as e S' T' H' => Post K xa W σ S' T0 (f (as, e)) k := by
  cases r with
  | ok p => exact fun v S' T' H' g A I => Post.monoS h g
  | err x e => exact fun S' H' g I => h S' H' g (I.less t)
  | stuck => exact h
theorem Post.at {α β : Type} {r : Res α} {f : α → Res (β × SEnv)} {k : β → SEnv → Hp → Hp → Prop} (h : Post K xa W σ S T (r.bind f) k) (ne : ∀ x e, r ≠ .err x e) : ∃ a, r = .ok a ∧ Post K xa W σ S T (f a) k := by
  cases r with
  | ok a => exact ⟨a, rfl, h⟩
  | err x e => exact absurd rfl (ne x e)
  | stuck => exact h.elim
theorem noErr_ne {α : Type} {r : Res α} {x : Nat} {e : SEnv} : noErr r ≠ .err x e := by cases r <;> intro h <;> cases h
end
section
variable {C : Wx} {R : Ren} {xa : Nat → Addr} {N : List Str} {W : WX} {X : L2.Cx} {sc : Scope} {fb : Str → Bool} {lvl : Nat} {tg : Expr}
theorem i_val {x : Expr} {F : SEnv → Res (Sl × SEnv)} (h : PE X x (rdE X.K xa W F)) : PI X tg x (rdI X.K xa W F) := by
  refine PI.weak (PI.or (pi_list h) (pi_tup h)) fun σ H Rr ⟨e, S, T, I, P⟩ => ?_
  cases z : F e with
  | stuck => rw [z] at P; exact P.elim
  | err x e' =>
    refine .inl ⟨e, S, T, I, ?_⟩
    rw [z] at P ⊢
    exact P
  | ok p =>
    obtain ⟨r, e'⟩ := p
    rw [z] at P
    have P' : ∀ S' H', Gr S S' → StO X.K σ e' S' T H' → ItK X.K S' H' Rr r := P
    cases zr : frz r with
    | list l =>
      refine .inl ⟨e, S, T, I, ?_⟩
      rw [z]
      intro S' H' g I' v rv
      obtain ⟨S2, g2, I2, dq⟩ := I'.freezeRv rv
      have q := P' S2 H' (g.trans g2) I2
      rw [zr] at dq
      cases dq with
      | @lst a vs _ h1 h2 =>
        have q' : ∀ J, Wk X.K S2 (Gr S2) l J → Rr J H' := by unfold ItK at q; rw [zr] at q; exact q
        exact ⟨a, rfl, ⟨vs, .inl (I2.s.rd h1)⟩, q' _ (wk_list (fun H2 g2 => .inl (g2.rd h1)) h2)⟩
    | tuple l =>
      refine .inr ⟨e, S, T, I, ?_⟩
      rw [z]
      intro S' H' g I' v rv
      obtain ⟨S2, g2, I2, dq⟩ := I'.freezeRv rv
      have q := P' S2 H' (g.trans g2) I2
      rw [zr] at dq
      cases dq with
      | @tup a vs _ h1 h2 =>
        have q' : ∀ J, Wk X.K S2 (Gr S2) l J → Rr J H' := by unfold ItK at q; rw [zr] at q; exact q
        exact ⟨a, rfl, ⟨vs, I2.s.sqt h1⟩, q' _ (wk_tup (fun H2 g2 => g2.sqt h1) h2)⟩
    | _ =>
      refine .inl ⟨e, S, T, I, ?_⟩
      rw [z]
      intro S' H' g I' v rv
      have q := P' S' H' g I'
      unfold ItK at q
      rw [zr] at q
      exact q.elim
theorem i_name (G : Sur C R xa N W X sc fb lvl) {i : Nat} {x : Expr} (h : nameB N sc i x = true) : PI X tg x (bwI X.K i) := by
  refine PI.weak (PI.or (pi_list (name_pe G h)) (pi_tup (name_pe G h))) fun σ H Rr ⟨v, h1, q⟩ => ?_
  rcases q with ⟨a, xs, h2, h3, h4⟩ | ⟨a, xs, h2, h3, h4⟩
  · exact .inl ⟨v, h1, a, h2, ⟨xs, h3⟩, h4⟩
  · exact .inr ⟨v, h1, a, h2, ⟨xs, h3⟩, h4⟩
theorem evA_len : ∀ {l : List E} {e : SEnv} {p : List AV × SEnv}, evA C l e = .ok p → p.1.length = l.length
  | [], e, p, h => by
    have h' : Res.ok ([], e) = Res.ok p := h
    cases h'; rfl
  | a :: l, e, p, h => by
    have h' : ((ar a e (evE C false a e)).bind fun p => (evA C l p.2).bind fun q => Res.ok (p.1 :: q.1, q.2)) = .ok p := h
    obtain ⟨p1, _, h2⟩ := bindOk h'
    obtain ⟨q, h3, h4⟩ := bindOk h2
    cases h4
    simp [evA_len h3]
/-- behind the arguments of a walk -/
theorem walk_in {b : Blt} {l : List E} {σ : SS} {e : SEnv} {S T H : Hp} {Rr : It → Hp → Prop} {Z : List V → Hp → Prop} (hb : isWalk b = true) (I : StO X.K σ e S T H) (P : Post X.K xa W σ S T (evE C false (.blt b l) e) fun r e' S' H' => ItK X.K S' H' Rr r)
    (f : ∀ vs xs e' S' T' H' r, StO X.K σ e' S' T' H' → DqAll X.K S' vs xs → walkB b xs = .ok r → ItK X.K S' H' Rr r → xs.length = l.length → Z vs H') : argsT X.K xa W (evE C false) l σ H Z := by
  have P' : Post X.K xa W σ S T ((evA C l e).bind fun p => (rdX b p.2 p.1).bind fun xs => (noErr (walkB b xs.1)).bind fun r => .ok (r, xs.2)) fun r e' S' H' => ItK X.K S' H' Rr r := P
  have P2 : PostL X.K xa W σ S T (evA C l e) fun vs as e' S' T' H' => as.length = l.length ∧ Post X.K xa W σ S' T ((rdX b e' as).bind fun xs => (noErr (walkB b xs.1)).bind fun r => .ok (r, xs.2)) fun r e' S' H' => ItK X.K S' H' Rr r := by
    have P3 := Post.bindL0 P' (Gr.refl T)
    cases z : evA C l e with
    | stuck => rw [z] at P3; exact P3
    | err x e' => rw [z] at P3; exact P3
    | ok p =>
      rw [z] at P3
      exact fun vs S' T' H' g A I => ⟨evA_len z, P3 vs S' T' H' g A I⟩
  refine args_ok I P2 fun vs as e1 S1 T1 H1 g1 A1 I1 ⟨hln, h1⟩ => ?_
  have hx : rdX b e1 as = rdF e1 as := by unfold rdX; rw [hb]
  have h1' : Post X.K xa W σ S1 T ((rdX b e1 as).bind fun xs => (noErr (walkB b xs.1)).bind fun r => .ok (r, xs.2)) fun r e' S' H' => ItK X.K S' H' Rr r := h1
  rw [hx] at h1'
  obtain ⟨p, ep, h2⟩ := Post.at h1' fun x e' => rdF_ne x e'
  obtain ⟨S2, g2, I2, hd⟩ := rdF_ok A1 I1 ep
  have h3 := Post.monoS h2 g2
  obtain ⟨r, er, h4⟩ := Post.at h3 fun x e' => noErr_ne
  have er' : walkB b p.1 = .ok r := by
    cases z : walkB b p.1 with
    | ok r' => rw [z] at er; cases er; rfl
    | err x e' => rw [z] at er; cases er
    | stuck => rw [z] at er; cases er
  exact f vs p.1 p.2 S2 T H1 r I2 hd er' (h4 S2 H1 (Gr.refl _) I2) (by rw [← dps_len hd, A1.length, hln])
theorem rng_ok {i : Int} (h : rngOk i = true) : -(2 ^ 62) ≤ i ∧ i < 2 ^ 62 := by
  unfold rngOk at h
  simp only [Bool.and_eq_true, decide_eq_true_eq] at h
  constructor <;> omega
theorem w_range {xs : List D} {r : Sl} (h : walkB .range xs = .ok r) : (∃ j, xs = [.int j] ∧ rngOk j = true ∧ r = .o (intR 0 j.toNat)) ∨ ∃ i j, xs = [.int i, .int j] ∧ rngOk i = true ∧ rngOk j = true ∧ r = .o (intR i (j - i).toNat) := by
  unfold walkB at h
  split at h
  · rename_i j _
    cases z : rngOk j <;> rw [z] at h <;> cases h
    exact .inl ⟨j, rfl, z, rfl⟩
  · rename_i i j _
    cases z : (rngOk i && rngOk j) <;> rw [z] at h <;> cases h
    obtain ⟨z1, z2⟩ := Bool.and_eq_true_iff.mp z
    exact .inr ⟨i, j, rfl, z1, z2, rfl⟩
  · contradiction
  · contradiction
  · contradiction
  · unfold bltD at h
    split at h <;> first | contradiction | cases h
theorem w_zip {xs : List D} {r : Sl} (h : walkB .zip xs = .ok r) : (∃ a b, xs = [.list a, .list b] ∧ r = .o (zipD a b)) ∨ ∃ a b, xs = [.tuple a, .tuple b] ∧ r = .o (zipD a b) := by
  unfold walkB at h
  split at h
  · contradiction
  · contradiction
  · cases h; exact .inl ⟨_, _, rfl, rfl⟩
  · cases h; exact .inr ⟨_, _, rfl, rfl⟩
  · contradiction
  · unfold bltD at h
    split at h <;> first | contradiction | cases h
theorem w_enum {xs : List D} {r : Sl} (h : walkB .enumerate xs = .ok r) : ∃ a, xs = [.list a] ∧ r = .o (enumD 0 a) := by
  unfold walkB at h
  split at h
  · contradiction
  · contradiction
  · contradiction
  · contradiction
  · cases h; exact ⟨_, rfl, rfl⟩
  · unfold bltD at h
    split at h <;> first | contradiction | cases h
theorem arg_weak {K : Fr} {W : WX} {a : E} {F : SEnv → Res (Sl × SEnv)} {σ : SS} {H : Hp} {Q Q' : V → Hp → Prop} (h : argT K xa W a F σ H Q) (w : ∀ v H, Q v H → Q' v H) : argT K xa W a F σ H Q' := by
  have gen : rdE K xa W F σ H Q → rdE K xa W F σ H Q' := fun ⟨e, S, T, I, P⟩ => by
    refine ⟨e, S, T, I, ?_⟩
    cases z : F e with
    | stuck => rw [z] at P; exact P
    | err x e' => rw [z] at P; exact P
    | ok p => rw [z] at P; exact fun S' H' g I v rv => w _ _ (P S' H' g I v rv)
  cases a with
  | v i => obtain ⟨v, h1, h2⟩ := h; exact ⟨v, h1, w _ _ h2⟩
  | _ => exact gen h
theorem rg_vals {K : Fr} {S : Hp} {a b : Int} : DqAll K S (rgV a b) (intR a (b - a).toNat) := by
  unfold rgV intR
  generalize (b - a).toNat = n
  generalize List.range n = l
  induction l with
  | nil => exact .nil
  | cons x r ih => exact .cons (.int _) ih
theorem lrg_in {l : List E} {σ : SS} {e : SEnv} {S T H : Hp} {Q : VK} (I : StO X.K σ e S T H) (P : PQ X.K xa W σ S T (evE C false (.lrg l) e) Q) : argsT X.K xa W (evE C false) l σ H fun vs H1 =>
    (∃ j, vs = [.int j] ∧ RgOk 0 j ∧ ∀ q, H1 q = none → Q (.ref q) (upd H1 q (.lst (rgV 0 j)))) ∨ ∃ i j, vs = [.int i, .int j] ∧ RgOk i j ∧ ∀ q, H1 q = none → Q (.ref q) (upd H1 q (.lst (rgV i j))) := by
  have P' : PQ X.K xa W σ S T ((evA C l e).bind fun p => (rdF p.2 p.1).bind fun xs => (noErr (walkB .range xs.1)).bind fun r => match r with
    | .o ys => grd (decide (ys.length ≤ sizeMax)) (.ok (.o ys, xs.2))
    | _ => .stuck) Q := P
  refine args_ok I (PQ.bindL0 P' (Gr.refl T)) fun vs as e1 S1 T1 H1 g1 A1 I1 h1 => ?_
  obtain ⟨⟨xs, e2⟩, ep, h2⟩ := PQ.at h1 (rdF_ne (e := e1) (as := as))
  obtain ⟨S2, g2, I2, hd⟩ := rdF_ok A1 I1 ep
  have h3 := PQ.mono h2 g2 (Gr.refl T)
  obtain ⟨r, er, h4⟩ := PQ.at h3 fun x e' => noErr_ne
  have er' : walkB .range xs = .ok r := by
    cases z : walkB .range xs with
    | ok r' => rw [z] at er; cases er; rfl
    | err x e' => rw [z] at er; cases er
    | stuck => rw [z] at er; cases er
  have fin : ∀ {i j : Int}, RgOk i j ∨ True → rngOk i = true → rngOk j = true → PQ X.K xa W σ S2 T (grd (decide ((intR i (j - i).toNat).length ≤ sizeMax)) (.ok (.o (intR i (j - i).toNat), e2))) Q → RgOk i j ∧ ∀ q, H1 q = none → Q (.ref q) (upd H1 q (.lst (rgV i j))) := fun {i j} _ k1 k2 h => by
    obtain ⟨z1, z2⟩ := rng_ok k1
    obtain ⟨z3, z4⟩ := rng_ok k2
    cases z : decide ((intR i (j - i).toNat).length ≤ sizeMax) with
    | false => rw [z] at h; exact h.elim
    | true =>
      rw [z] at h
      have hz := of_decide_eq_true z
      rw [intR_len] at hz
      refine ⟨⟨z1, z2, z3, z4, by unfold sizeMax at hz; omega⟩, fun q hq => ?_⟩
      obtain ⟨I4, q1, q2, q3⟩ := I2.newO (o := .lst (rgV i j)) hq
      exact h S2 _ (Gr.refl _) I4 (.ref q) ⟨q, _, rfl, upd_same, rg_vals, q1, q2, q3⟩
  rcases w_range er' with ⟨j, rfl, k, rfl⟩ | ⟨i, j, rfl, k1, k2, rfl⟩
  · cases hd with
    | cons a b =>
      cases b
      cases a
      have h5 : PQ X.K xa W σ S2 T (grd (decide ((intR 0 (j - 0).toNat).length ≤ sizeMax)) (.ok (.o (intR 0 (j - 0).toNat), e2))) Q := by
        rw [Int.sub_zero]; exact h4
      exact .inl ⟨j, rfl, fin (.inr trivial) (by decide) k h5⟩
  · cases hd with
    | cons a b =>
      cases b with
      | cons a2 b =>
        cases b
        cases a
        cases a2
        exact .inr ⟨i, j, rfl, fin (.inr trivial) k1 k2 h4⟩
theorem s_lrg1 (G : Sur C R xa N W X sc fb lvl) {l : List E} {x : Expr} {p p2 pos pos2 : Pos} (h1 : glB sc "list" = true) (f1 : R.free.contains "list" = true) (h2 : glB sc "range" = true) (f2 : R.free.contains "range" = true) (hn : nst x = true) {a : E} (hl : l = [a]) (ha : PE X x (argT X.K xa W a (evE C false a))) :
    PE X (.Call (.Name "list" p) [.Call (.Name "range" p2) [x] [] pos2] [] pos) (rdE X.K xa W (evE C false (.lrg l))) := by
  subst hl
  obtain ⟨g1, _, _⟩ := gl_ok G h1
  obtain ⟨g2, _, _⟩ := gl_ok G h2
  refine PE.weak (pe_listRg G.calm g1 (G.fr _ f1) (prg_1 g2 (G.fr _ f2) ha (star_ok (xs := []) hn))) fun σ H Q ⟨e, S, T, I, P⟩ => ?_
  refine arg_weak (lrg_in I P) fun v H1 h => ?_
  rcases h with ⟨j, e1, q⟩ | ⟨i, j, e1, q⟩
  · cases e1; exact ⟨j, rfl, q⟩
  · cases e1
theorem s_lrg2 (G : Sur C R xa N W X sc fb lvl) {x y : Expr} {p p2 pos pos2 : Pos} (h1 : glB sc "list" = true) (f1 : R.free.contains "list" = true) (h2 : glB sc "range" = true) (f2 : R.free.contains "range" = true) (hn : nst x = true) (hn2 : nst y = true) {a b : E} (ha : PE X x (argT X.K xa W a (evE C false a))) (hb : PE X y (argT X.K xa W b (evE C false b))) :
    PE X (.Call (.Name "list" p) [.Call (.Name "range" p2) [x, y] [] pos2] [] pos) (rdE X.K xa W (evE C false (.lrg [a, b]))) := by
  obtain ⟨g1, _, _⟩ := gl_ok G h1
  obtain ⟨g2, _, _⟩ := gl_ok G h2
  refine PE.weak (pe_listRg G.calm g1 (G.fr _ f1) (prg_2 g2 (G.fr _ f2) ha hb (star_ok hn) (star_ok (xs := []) hn2) (plain_ok (by show (nst y && true) = true; rw [hn2]; rfl)))) fun σ H Q ⟨e, S, T, I, P⟩ => ?_
  refine arg_weak (lrg_in I P) fun v H1 h => arg_weak h fun w H2 h => ?_
  rcases h with ⟨j, e1, q⟩ | ⟨i, j, e1, q⟩
  · cases e1
  · cases e1; exact ⟨i, j, rfl, rfl, q⟩
theorem i_range1 (G : Sur C R xa N W X sc fb lvl) {l : List E} {x : Expr} {p pos : Pos} (hf : R.free.contains "range" = true) (hg : glB sc "range" = true) (hn : nst x = true) (ha : PA X [x] (argsT X.K xa W (evE C false) l)) (hl : l.length = 1) :
    PI X tg (.Call (.Name "range" p) [x] [] pos) (rdI X.K xa W (evE C false (.blt .range l))) := by
  obtain ⟨h1, h2, h3⟩ := gl_ok G hg
  refine PI.weak (pi_range1 h1 (G.fr _ hf) ha (star_ok (xs := []) hn)) fun σ H Rr ⟨e, S, T, I, P⟩ => walk_in rfl I P fun vs xs e' S' T' H' r I' hd hw q hlen => ?_
  rcases w_range hw with ⟨j, rfl, k, rfl⟩ | ⟨i, j, rfl, k1, k2, rfl⟩
  · cases hd with
    | cons a b =>
      cases b
      cases a
      obtain ⟨z1, z2⟩ := rng_ok k
      exact ⟨j, rfl, z1, z2, q _ wk_range⟩
  · rw [hl] at hlen; cases hlen
theorem i_range2 (G : Sur C R xa N W X sc fb lvl) {l : List E} {x y : Expr} {p pos : Pos} (hf : R.free.contains "range" = true) (hg : glB sc "range" = true) (hn : nst x = true) (hn2 : nst y = true) (ha : PA X [x, y] (argsT X.K xa W (evE C false) l)) (hl : l.length = 2) :
    PI X tg (.Call (.Name "range" p) [x, y] [] pos) (rdI X.K xa W (evE C false (.blt .range l))) := by
  obtain ⟨h1, h2, h3⟩ := gl_ok G hg
  have hs2 := star_ok (xs := []) (env := X.env) hn2
  refine PI.weak (pi_range2 h1 (G.fr _ hf) ha (by rw [star_ok hn, hs2]; rfl) hs2) fun σ H Rr ⟨e, S, T, I, P⟩ => walk_in rfl I P fun vs xs e' S' T' H' r I' hd hw q hlen => ?_
  rcases w_range hw with ⟨j, rfl, k, rfl⟩ | ⟨i, j, rfl, k1, k2, rfl⟩
  · rw [hl] at hlen; cases hlen
  · cases hd with
    | cons a b =>
      cases b with
      | cons a2 b =>
        cases b
        cases a
        cases a2
        obtain ⟨z1, z2⟩ := rng_ok k1
        obtain ⟨z3, z4⟩ := rng_ok k2
        exact ⟨i, j, rfl, ⟨z1, z2, z3, z4⟩, q _ wk_range⟩
theorem i_zip (G : Sur C R xa N W X sc fb lvl) {l : List E} {x y : Expr} {p pos : Pos} (ht : isTup tg = true) (hf : R.free.contains "zip" = true) (hg : glB sc "zip" = true) (hn : nst x = true) (hn2 : nst y = true) (ha : PA X [x, y] (argsT X.K xa W (evE C false) l)) :
    PI X tg (.Call (.Name "zip" p) [x, y] [] pos) (rdI X.K xa W (evE C false (.blt .zip l))) := by
  obtain ⟨h1, h2, h3⟩ := gl_ok G hg
  cases tg <;> first
    | (exact absurd ht Bool.false_ne_true)
    | skip
  refine PI.weak (RZ.pi_zipA h1 (G.fr _ hf) ha (star_ok hn) (plain_ok (by show (nst y && true) = true; rw [hn2]; rfl))) fun σ H Rr ⟨e, S, T, I, P⟩ => walk_in rfl I P fun vs xs e' S' T' H' r I' hd hw q hlen => ?_
  rcases w_zip hw with ⟨u, v, rfl, rfl⟩ | ⟨u, v, rfl, rfl⟩
  · cases hd with
    | cons a b =>
      cases b with
      | cons a2 b =>
        cases b
        cases a with
        | @lst a1 vs1 _ k1 k2 =>
          cases a2 with
          | @lst a2 vs2 _ m1 m2 =>
            exact ⟨a1, a2, vs1, vs2, rfl, .inl ⟨.inl (I'.s.rd k1), .inl (I'.s.rd m1), q _ (wk_zip (fun H g => ⟨.inl (g.rd k1), .inl (g.rd m1)⟩) k2 m2)⟩⟩
  · cases hd with
    | cons a b =>
      cases b with
      | cons a2 b =>
        cases b
        cases a with
        | @tup a1 vs1 _ k1 k2 =>
          cases a2 with
          | @tup a2 vs2 _ m1 m2 =>
            exact ⟨a1, a2, vs1, vs2, rfl, .inr ⟨I'.s.sqt k1, I'.s.sqt m1, q _ (wk_zipT (fun H g => ⟨g.sqt k1, g.sqt m1⟩) k2 m2)⟩⟩
theorem i_enum (G : Sur C R xa N W X sc fb lvl) {l : List E} {x : Expr} {p pos : Pos} (ht : isTup tg = true) (hf : R.free.contains "enumerate" = true) (hg : glB sc "enumerate" = true) (hn : nst x = true) (ha : PA X [x] (argsT X.K xa W (evE C false) l)) :
    PI X tg (.Call (.Name "enumerate" p) [x] [] pos) (rdI X.K xa W (evE C false (.blt .enumerate l))) := by
  obtain ⟨h1, h2, h3⟩ := gl_ok G hg
  cases tg <;> first
    | (exact absurd ht Bool.false_ne_true)
    | skip
  refine PI.weak (pi_enum h1 (G.fr _ hf) ha (star_ok (xs := []) hn)) fun σ H Rr ⟨e, S, T, I, P⟩ => walk_in rfl I P fun vs xs e' S' T' H' r I' hd hw q hlen => ?_
  obtain ⟨u, rfl, rfl⟩ := w_enum hw
  cases hd with
  | cons a b =>
    cases b
    cases a with
    | @lst a1 vs1 _ k1 k2 => exact ⟨a1, vs1, rfl, .inl (I'.s.rd k1), q _ (wk_enum (fun H g => .inl (g.rd k1)) k2)⟩
end
end EvS

set_option Elab.async false
set_option linter.all false
set_option maxHeartbeats 4000000
/-! PyEvB: comprehensions. -/
namespace EvS
open PySem PySem.Spec PyProof.Rows L2 Ev

/-- a comprehension's tests; nothing is raised -/
def rdTs (C : Wx) (K : Fr) (l : List E) : TT := fun σ H Q => ∃ e S T b e', StO K σ e S T H ∧ evTs C l e = .ok (b, e') ∧ ∀ S' H', Gr S S' → StO K σ e' S' T H' → Q b H'
def W0 : WX := fun _ _ _ _ => False
theorem PTs.weak {X : L2.Cx} {es : List Expr} {t t' : TT} (h : PTs X es t) (w : ∀ σ H Q, t' σ H Q → t σ H Q) : PTs X es t' := ⟨fun pins s σ H Q I q => h.run pins s σ H Q I (w σ H Q q)⟩
theorem ts_nil {C : Wx} {X : L2.Cx} : PTs X [] (rdTs C X.K []) := PTs.weak pts_nil fun σ H Q ⟨e, S, T, b, e', I, h, q⟩ => by
  have h' : Res.ok (true, e) = Res.ok (b, e') := h
  cases h'
  exact q S H (Gr.refl S) I
theorem ts_one {C : Wx} {xa : Nat → Addr} {X : L2.Cx} {a : E} {x : Expr} (h : PT X x (rdT X.K xa W0 (evE C true a))) : PTs X [x] (rdTs C X.K [a]) := PTs.weak (pts_one h) fun σ H Q ⟨e, S, T, b, e', I, h, q⟩ => by
  have h' : ((evE C true a e).bind fun p => match p.1 with
      | .d (.bool b) => Res.ok (b, p.2)
      | _ => .stuck) = .ok (b, e') := h
  refine ⟨e, S, T, I, ?_⟩
  obtain ⟨p, h1, h2⟩ := bindOk h'
  rw [h1]
  obtain ⟨r, e2⟩ := p
  cases r with
  | o l => cases h2
  | d y =>
    cases y <;> first
      | (cases h2; done)
      | skip
    cases h2
    exact fun S' H' g I' => ⟨b, rfl, q S' H' g I'⟩
theorem lcL_ne {f : D → SEnv → Res (Option D × SEnv)} : ∀ {l acc : List D} {e : SEnv} (x : Nat) (e' : SEnv), lcL f l acc e ≠ .err x e'
  | [], _, _, _, _ => fun h => nomatch h
  | d :: l, acc, e, x, e' => fun h => by
    unfold lcL at h
    split at h
    · rename_i y e1 _
      cases z : decide (acc.length < sizeMax) <;> rw [z] at h
      · cases h
      · exact lcL_ne x e' h
    · exact lcL_ne x e' h
    · cases h
theorem wipe_eq {σ σ' : SS} {vs : List Nat} (hl : σ'.length = σ.length) (h : ∀ j, j ∉ vs → σ'[j]? = (wipe σ vs)[j]?) : wipe σ' vs = wipe σ vs := by
  have inn : ∀ (τ : SS) (ws : List Nat) (j : Nat), j ∈ ws → j < τ.length → (wipe τ ws)[j]? = some none := fun τ ws => by
    induction ws with
    | nil => intro j hj; cases hj
    | cons w ws ih =>
      intro j hj hlt
      unfold wipe
      by_cases hw : w = j
      · subst hw
        rw [List.getElem?_set_self (by rw [wipe_length]; exact hlt)]
      · rw [List.getElem?_set_ne hw]
        rcases List.mem_cons.mp hj with z | z
        · exact absurd z.symm hw
        · exact ih j z hlt
  apply List.ext_getElem?
  intro j
  by_cases hj : j ∈ vs
  · by_cases hlt : j < σ.length
    · rw [inn σ' vs j hj (by omega), inn σ vs j hj hlt]
    · rw [List.getElem?_eq_none (by rw [wipe_length]; omega), List.getElem?_eq_none (by rw [wipe_length]; omega)]
  · rw [wipe_out hj, h j hj]
section
variable {K : Fr} {σ σ' : SS} {e e' : SEnv} {S T H : Hp} {D : Addr}
/-- a held list is changed -/
theorem StO.heldSet {o o' : HO} (I : StO K σ e S (upd T D o) H) : StO K σ e S (upd T D o') (upd H D o') := by
  have hS : S D = none := by
    cases q : S D with
    | none => rfl
    | some u => have := I.dj D u q; rw [upd_same] at this; cases this
  refine ⟨I.len, fun b u q => ?_, fun b u q => ?_, fun b u q => ?_, fun i x q => ?_, I.inj⟩
  · have hb : b ≠ D := fun z => by subst z; rw [hS] at q; cases q
    rw [upd_ne hb]; exact I.s b u q
  · by_cases hb : b = D
    · subst hb; rw [upd_same] at q ⊢; exact q
    · rw [upd_ne hb] at q ⊢
      exact I.t b u (by rw [upd_ne hb]; exact q)
  · have hb : b ≠ D := fun z => by subst z; rw [hS] at q; cases q
    have := I.dj b u q
    rw [upd_ne hb] at this ⊢; exact this
  · have := I.sl i x q
    cases x with
    | d y => exact this
    | o l =>
      obtain ⟨b, ws, r1, r2, r3, r4, r5⟩ := this
      have hb : b ≠ D := fun z => by subst z; rw [upd_same] at r5; cases r5
      rw [upd_ne hb] at r5
      exact ⟨b, ws, r1, by rw [upd_ne hb]; exact r2, r3, r4, by rw [upd_ne hb]; exact r5⟩
end
theorem own_eq {N : List Str} : ∀ {ps : List Nat}, (∀ i ∈ ps, ∃ x, N[i]? = some x) → (ps.filterMap fun i => N[i]?.map fun x => (x, i)).map (·.2) = ps
  | [], _ => rfl
  | i :: r, h => by
    obtain ⟨x, hx⟩ := h i List.mem_cons_self
    rw [List.filterMap_cons, hx]
    simp only [Option.map_some, List.map_cons]
    rw [own_eq fun j hj => h j (List.mem_cons_of_mem _ hj)]
mutual
theorem chkP_slots {N : List Str} {sc : Scope} {fb : Str → Bool} : ∀ (p : Pat) (tg : Expr), chkP N sc fb p tg = true → ∀ i ∈ slots p, ∃ x, N[i]? = some x
  | .n i, .Name x _, h, j, hj => by
    have e : j = i := by simpa [slots] using hj
    subst e
    have h' : (decide (N[j]? = some x) && _) = true := h
    obtain ⟨h1, _⟩ := Bool.and_eq_true_iff.mp h'
    exact ⟨x, of_decide_eq_true h1⟩
  | .t ps, .Tuple es _ _, h, j, hj => chkPs_slots ps es h j hj
  | .n i, e, h, j, hj => by
    cases e with
    | Name x p =>
      have e : j = i := by simpa [slots] using hj
      subst e
      have h' : (decide (N[j]? = some x) && _) = true := h
      obtain ⟨h1, _⟩ := Bool.and_eq_true_iff.mp h'
      exact ⟨x, of_decide_eq_true h1⟩
    | _ => cases h
  | .t ps, e, h, j, hj => by
    cases e with
    | Tuple es _ _ => exact chkPs_slots ps es h j hj
    | _ => cases h
theorem chkPs_slots {N : List Str} {sc : Scope} {fb : Str → Bool} : ∀ (ps : List Pat) (es : List Expr), chkPs N sc fb ps es = true → ∀ i ∈ slotsL ps, ∃ x, N[i]? = some x
  | [], _, _, j, hj => by cases hj
  | p :: ps, e :: es, h, j, hj => by
    have h' : (nst e && (chkP N sc fb p e && chkPs N sc fb ps es)) = true := h
    simp only [Bool.and_eq_true] at h'
    have hj' : j ∈ slots p ++ slotsL ps := hj
    rcases List.mem_append.mp hj' with z | z
    · exact chkP_slots p e h'.2.1 j z
    · exact chkPs_slots ps es h'.2.2 j z
  | _ :: _, [], h, _, _ => by cases h
end

section
variable {C : Wx} {R : Ren} {xa : Nat → Addr} {N : List Str} {W : WX} {X : L2.Cx} {sc : Scope} {fb : Str → Bool} {lvl : Nat}
/-- the surroundings within a comprehension's block -/
theorem Sur.blk (G : Sur C R xa N W X sc fb lvl) (s : Shared) (H : Hp) (scope : Scope) (A : Addr) (cl : List (Str × Addr)) (fp : List Addr) :
    Sur C R xa N W0 (X.blk s H scope (compEnvC scope cl A X.env) fp) (relS scope sc) (fun x => scope.names.lookup x == some .cell) lvl where
  hsc := by
    have := G.hsc
    show relS scope X.env.scope = relS scope sc
    rw [this]
  hN := G.hN
  nd := G.nd
  calm := G.calm
  tk := takes0
  po := PassesOwn.never
  fn := fun x h => h
  room := G.room
  gl := G.gl
  fr := G.fr
  gcd := G.gcd
  cl := G.cl
  ex := fun x h => G.ex x h
/-- one lap -/
def lap (C : Wx) (q : Pat) (ifs : List E) (elt : E) (x : D) (e1 : SEnv) : Res (Option D × SEnv) :=
  (bindP (fun _ => false) q x (wipeE e1 (slots q))).bind fun e2 => (evTs C ifs e2).bind fun t => match t.1 with
    | false => .ok (none, t.2)
    | true => (ar elt t.2 (evE C false elt t.2)).bind fun y => itemOf y.2 y.1
theorem lc_in {q : Pat} {ifs : List E} {elt : E} {J : It} {l : List D} {σ : SS} {e0 : SEnv} {S0 T H1 : Hp} {D : Addr} {hid : List Nat} {Q : VK} (I0 : StO X.K σ e0 S0 T H1) (hD : H1 D = none)
    (w : Wk X.K S0 (fun H => Gr S0 H ∧ Gr (cov σ (onlyE e0 (slots q ++ hid)) T H1) H) l J)
    (P : PQ X.K xa W σ S0 T ((lcL (lap C q ifs elt) l [] (wipeE e0 hid)).bind fun r => .ok (.o r.1, putBack r.2 e0 (slots q ++ hid))) Q) :
    ∃ Wn : Nat → Nat → Hp → Prop, (∃ m, Wn 0 m (upd H1 D (.lst []))) ∧ ∀ i m H, Wn i m H →
      (J.stop i H ∧ Q (.ref D) H) ∨ (J.go i H ∧ ∃ Nx : Hp → Prop, (∀ H', Nx H' → ∃ m', m' < m ∧ Wn (i + 1) m' H') ∧ ∀ x H', J.yld i H x H' → gPat X.K (fun _ => false) q x (wipe σ (slots q)) H' fun σ2 H2 => wipe σ2 (slots q) = wipe σ (slots q) ∧ rdTs C X.K ifs σ2 H2 fun b H3 =>
        if b = true then argT X.K xa W0 elt (evE C false elt) σ2 H3 fun y H4 => ∃ acc, H4 D = some (.lst acc) ∧ acc.length < sizeLine ∧ Nx (upd H4 D (.lst (acc ++ [y]))) else Nx H3) := by
  generalize hT1 : cov σ (onlyE e0 (slots q ++ hid)) T H1 = T1 at w
  generalize hids : slots q ++ hid = ids at *
  have mem : ∀ j, j ∉ ids ↔ j ∉ slots q ∧ j ∉ hid := fun j => by rw [← hids, List.mem_append]; simp
  have Ih : StO X.K σ (wipeE e0 ids) S0 T1 H1 := by rw [← hT1]; exact I0.holds ids
  have hTT : Gr T T1 := by rw [← hT1]; exact holds_gr I0 ids
  have hT1D : T1 D = none := by
    cases z : T1 D with
    | none => rfl
    | some u => have := Ih.t D u z; rw [hD] at this; cases this
  have gT1 : ∀ acc, Gr T1 (upd T1 D (.lst acc)) := fun acc => gr_upd hT1D
  obtain ⟨r, er, P1⟩ := PQ.at P lcL_ne
  refine lc_it w (fun i H => ∃ e S acc accd, Gr S0 S ∧ StO X.K (wipe σ (slots q)) (wipeE e (slots q)) S (upd T1 D (.lst acc)) H ∧ DqAll X.K S acc accd ∧ lcL (lap C q ifs elt) (l.drop i) accd e = .ok r) ?_ ?_ ?_ ?_
  · refine ⟨wipeE e0 hid, S0, [], [], Gr.refl _, ?_, .nil, er⟩
    obtain ⟨J1, k1, k2, k3⟩ := Ih.newO (o := .lst []) hD
    refine (J1.hold upd_same k1 k3).sub ?_ fun j y h => ?_
    · rw [wipeE_len, wipeE_len, wipe_length]; exact I0.len
    · obtain ⟨h1, h2⟩ := getE_wipe h
      obtain ⟨h3, h4⟩ := getE_wipe h2
      exact ⟨wipe_getE ((mem j).mpr ⟨h1, h3⟩) h4, by rw [wipe_out h1]⟩
  · rintro i H hi ⟨e, S, acc, accd, g, I, _⟩
    exact ⟨g.trans I.s, (gT1 acc).trans I.t⟩
  · rintro i x H H' hi ⟨e, S, acc, accd, g, I, hd, hl⟩ ⟨d, hg, ro⟩
    obtain ⟨S1, g1, I1, rv⟩ := (ro.gr g).fin I
    have ed : l.drop i = d :: l.drop (i + 1) := by
      have hlt : i < l.length := by
        by_cases hh : i < l.length
        · exact hh
        · rw [List.getElem?_eq_none (by omega)] at hg; cases hg
      rw [List.drop_eq_getElem_cons hlt]
      rw [List.getElem?_eq_getElem hlt] at hg
      cases hg; rfl
    rw [ed] at hl
    -- the lap's end
    have fin : ∃ o e2, lap C q ifs elt d e = .ok (o, e2) ∧ match o with
        | some y => accd.length < sizeMax ∧ lcL (lap C q ifs elt) (l.drop (i + 1)) (accd ++ [y]) e2 = .ok r
        | none => lcL (lap C q ifs elt) (l.drop (i + 1)) accd e2 = .ok r := by
      unfold lcL at hl
      split at hl
      · rename_i y e2 z
        refine ⟨some y, e2, z, ?_⟩
        cases zz : decide (accd.length < sizeMax) <;> rw [zz] at hl
        · cases hl
        · exact ⟨of_decide_eq_true zz, hl⟩
      · rename_i e2 z
        exact ⟨none, e2, z, hl⟩
      · cases hl
    obtain ⟨o, ee, elap, fin⟩ := fin
    unfold lap at elap
    obtain ⟨e2, b1, elap⟩ := bindOk elap
    obtain ⟨⟨bt, e3⟩, b2, elap⟩ := bindOk elap
    refine ⟨wipeE e (slots q), S1, upd T1 D (.lst acc), d, e2, I1, rv, b1, fun σ2 I2 _ keep hlen => ?_⟩
    have hw : wipe σ2 (slots q) = wipe σ (slots q) := wipe_eq (by rw [hlen, wipe_length]) keep
    refine ⟨hw, e2, S1, upd T1 D (.lst acc), bt, e3, I2, b2, fun S3 H3 g3 I3 => ?_⟩
    have sub : ∀ {e4 : SEnv} {S4 T4 H4 : Hp}, StO X.K σ2 e4 S4 T4 H4 → StO X.K (wipe σ (slots q)) (wipeE e4 (slots q)) S4 T4 H4 := fun {e4 S4 T4 H4} J => by
      rw [← hw]
      refine J.sub ?_ fun j y h => ?_
      · rw [wipeE_len, wipe_length]; exact J.len
      · obtain ⟨h1, h2⟩ := getE_wipe h
        exact ⟨h2, by rw [wipe_out h1]⟩
    cases bt with
    | false =>
      cases elap
      exact ⟨e3, S3, acc, accd, (g.trans g1).trans g3, sub I3, (g1.trans g3).dps hd, fin⟩
    | true =>
      have elap' : ((ar elt e3 (evE C false elt e3)).bind fun y => itemOf y.2 y.1) = .ok (o, ee) := elap
      obtain ⟨⟨av, e4⟩, b3, elap2⟩ := bindOk elap'
      have PA0 : PostA X.K xa W0 σ2 S3 (upd T1 D (.lst acc)) (ar elt e3 (evE C false elt e3)) fun v a e' S' T' H' => a = av ∧ e' = e4 := by
        rw [b3]
        exact fun v S' T' H' _ _ _ => ⟨rfl, rfl⟩
      show argT X.K xa W0 elt (evE C false elt) σ2 H3 _
      refine arg_in I3 PA0 fun v a e5 S4 T4 H4 g4 A4 I4 ⟨ha, he⟩ => ?_
      subst ha he
      unfold itemOf at elap2
      obtain ⟨⟨ys, e6⟩, b4, elap3⟩ := bindOk elap2
      obtain ⟨S5, g5, I5, hd5⟩ := rdF_ok A4 I4 b4
      cases hd5 with
      | cons hz hnil =>
        cases hnil
        cases elap3
        obtain ⟨f1, f2⟩ := fin
        have gg := (g1.trans g3).trans (g4.trans g5)
        refine ⟨acc, I5.t D _ upd_same, ?_, ee, S5, acc ++ [v], _, g.trans gg, sub (I5.heldSet (o' := .lst (acc ++ [v]))), dps_app (gg.dps hd) (dps_one hz), f2⟩
        rw [dps_len hd, sizeLine_eq]; exact f1
  · rintro H ⟨e, S, acc, accd, g, I, hd, hl⟩
    rw [List.drop_length] at hl
    have e1 : (accd, e) = r := by
      have h' : Res.ok (accd, e) = Res.ok r := hl
      cases h'; rfl
    subst e1
    have P2 : PQ X.K xa W σ S0 T (.ok (.o accd, putBack e e0 ids)) Q := P1
    have key : ∀ j y, getE (putBack e e0 ids) j = some y → (j ∈ ids ∧ getE e0 j = some y) ∨ (getE (wipeE e (slots q)) j = some y ∧ σ[j]?.join = (wipe σ (slots q))[j]?.join) := fun j y h => by
      rcases getE_put h with z | ⟨z1, z2⟩
      · exact .inl z
      · obtain ⟨m1, m2⟩ := (mem j).mp z1
        exact .inr ⟨wipe_getE m1 z2, by rw [wipe_out m1]⟩
    have ln : (putBack e e0 ids).length ≤ σ.length := by
      have := I.len
      rw [putBack_len]
      rw [wipeE_len, wipe_length] at this
      exact this
    have U : StO X.K σ (putBack e e0 ids) S T H := StO.unhold I0 g I (by rw [hT1]; exact gT1 acc) ln key
    have hHD : H D = some (.lst acc) := I.t D _ upd_same
    have hSD : S D = none := by
      cases z : S D with
      | none => rfl
      | some u => have := I.dj D u z; rw [upd_same] at this; cases this
    have hTD : T D = none := hTT.nn hT1D
    refine P2 S H g U (.ref D) ⟨D, acc, rfl, hHD, hd, hSD, hTD, fun j l' h hz => ?_⟩
    rcases key j _ h with ⟨z1, z2⟩ | ⟨z1, z2⟩
    · obtain ⟨a, ws, q1, q2, _⟩ := I0.sl j _ z2
      rw [hz] at q1; cases q1
      rw [hD] at q2; cases q2
    · obtain ⟨a, ws, q1, q2, q3, q4, q5⟩ := I.sl j _ z1
      rw [← z2, hz] at q1; cases q1
      rw [upd_same] at q5; cases q5
end
end EvS

set_option Elab.async false
set_option linter.all false
set_option maxHeartbeats 4000000
/-! PyEvT: tests; all expressions. -/
namespace EvS
open PySem PySem.Spec PyProof.Rows L2 Ev

section
variable {K : Fr} {xa : Nat → Addr} {W : WX} {σ : SS} {e : SEnv} {S T H : Hp}
theorem PB2.mono2 {r : Res (Sl × SEnv)} {S' : Hp} {Q : Bool → Hp → Prop} (h : PB2 K xa W σ S T r Q) (g : Gr S S') : PB2 K xa W σ S' T r Q := PB2.mono h g (Gr.refl T)
theorem pq_ofB {r : Res (Sl × SEnv)} {f : Sl × SEnv → Res (Sl × SEnv)} {Q : Bool → Hp → Prop} {Q' : VK} (h : PB2 K xa W σ S T (r.bind f) Q)
    (w : ∀ a e' S' H' v, Gr S S' → StO K σ e' S' T H' → RvOk K σ e' S' T H' v a → PB2 K xa W σ S' T (f (a, e')) Q → Q' v H') : PQ K xa W σ S T r Q' := by
  cases r with
  | ok p => exact fun S' H' g I v rv => w _ _ _ _ v g I rv (PB2.mono2 (S := S) (T := T) h g)
  | err x e => exact h
  | stuck => exact h
theorem pb_ofB {r : Res (Sl × SEnv)} {f : Sl × SEnv → Res (Sl × SEnv)} {Q Q' : Bool → Hp → Prop} (h : PB2 K xa W σ S T (r.bind f) Q)
    (w : ∀ a e' S' H', Gr S S' → StO K σ e' S' T H' → PB2 K xa W σ S' T (f (a, e')) Q → ∃ b, truth (frz a) = some b ∧ Q' b H') : PB2 K xa W σ S T r Q' := by
  cases r with
  | ok p => exact fun S' H' g I => w _ _ _ _ g I (PB2.mono2 (S := S) (T := T) h g)
  | err x e => exact h
  | stuck => exact h
/-- a result that is a bool -/
def IsB (r : Res (Sl × SEnv)) : Prop := ∀ p, r = .ok p → ∃ b, p.1 = .d (.bool b)
theorem pq_isB {r : Res (Sl × SEnv)} {Q : Bool → Hp → Prop} (hb : IsB r) (h : PB2 K xa W σ S T (post true r) Q) : PQ K xa W σ S T r fun v H => ∃ k, v = .bl k ∧ Q k H := by
  cases r with
  | stuck => exact h
  | err x e => exact h
  | ok p =>
    obtain ⟨r, e'⟩ := p
    obtain ⟨b, hb⟩ := hb _ rfl
    have hb' : r = .d (.bool b) := hb
    subst hb'
    intro S' H' g I v rv
    obtain ⟨k, hk, q⟩ := h S' H' g I
    cases hk
    cases rv
    exact ⟨b, rfl, q⟩
theorem isB_cmpS {o : COp} {x y : D} {e : SEnv} {p : Sl × SEnv} (h : ((noErr (cmpS o x y)).bind fun r => .ok (r, e)) = Res.ok p) : ∃ b, p.1 = .d (.bool b) := by
  unfold cmpS at h
  cases z : cmpD o x y with
  | ok b => rw [z] at h; cases h; exact ⟨b, rfl⟩
  | err a e => rw [z] at h; cases h
  | stuck => rw [z] at h; cases h
theorem isB_cmp {o : COp} {r1 : Res (AV × SEnv)} {r2 : SEnv → Res (AV × SEnv)} : IsB (app2 (cmpS o) r1 r2) := fun p h => by
  obtain ⟨p1, _, h⟩ := bindOk h
  obtain ⟨p2, _, h⟩ := bindOk h
  obtain ⟨x, _, h⟩ := bindOk h
  obtain ⟨y, _, h⟩ := bindOk h
  exact isB_cmpS h
theorem isB_chain {C : Wx} {o q : COp} {a b c : E} : IsB (evE C false (.chain o q a b c) e) := fun p h => by
  have h' : ((ar a e (evE C false a e)).bind fun p => (ar b p.2 (evE C false b p.2)).bind fun p1 => (rdF p1.2 [p.1, p1.1]).bind fun xs => match xs with
    | ([x, y], e1) => (noErr (cmpD o x y)).bind fun r => match r with
      | false => .ok (.d (.bool false), e1)
      | true => app1 (cmpS q y) (ar c e1 (evE C false c e1))
    | _ => .stuck) = Res.ok p := h
  obtain ⟨p1, _, h'⟩ := bindOk h'
  obtain ⟨p2, _, h'⟩ := bindOk h'
  obtain ⟨⟨xs, e1⟩, _, h'⟩ := bindOk h'
  match xs, h' with
  | [x, y], h' =>
    obtain ⟨k, _, h'⟩ := bindOk (show ((noErr (cmpD o x y)).bind fun r => match r with
      | false => .ok (.d (.bool false), e1)
      | true => app1 (cmpS q y) (ar c e1 (evE C false c e1))) = Res.ok p from h')
    cases k with
    | false => cases h'; exact ⟨false, rfl⟩
    | true =>
      obtain ⟨p3, _, h'⟩ := bindOk (show ((ar c e1 (evE C false c e1)).bind fun p => (rd1 p.2 p.1).bind fun x => (noErr (cmpS q y x)).bind fun r => .ok (r, p.2)) = Res.ok p from h')
      obtain ⟨z, _, h'⟩ := bindOk h'
      exact isB_cmpS h'
  | [], h' => cases h'
  | [_], h' => cases h'
  | _ :: _ :: _ :: _, h' => cases h'
end
section
variable {C : Wx} {R : Ren} {xa : Nat → Addr} {N : List Str} {W : WX} {X : L2.Cx} {sc : Scope} {fb : Str → Bool} {lvl : Nat}
theorem t_val {x : Expr} {F : SEnv → Res (Sl × SEnv)} (h : PE X x (rdE X.K xa W F)) (he : ∀ whole, isTrue x X.env whole = (do let v ← whole; standAt x.pos; holding [v] (truthy v))) : PT X x (rdT X.K xa W fun e => post true (F e)) :=
  PT.weak (pt_truth h he) fun σ H Q ⟨e, S, T, I, P⟩ => ⟨e, S, T, I, pq_ofB (f := fun p => (opt (truth (frz p.1))).bind fun b => .ok (.d (.bool b), p.2)) P fun a e' S' H' v g I' rv h => by
    cases z : truth (frz a) with
    | none =>
      have h' : PB2 X.K xa W σ S' T ((opt (truth (frz a))).bind fun b => .ok (.d (.bool b), e')) Q := h
      rw [z] at h'; exact h'.elim
    | some k =>
      have h' : PB2 X.K xa W σ S' T ((opt (truth (frz a))).bind fun b => .ok (.d (.bool b), e')) Q := h
      rw [z] at h'
      obtain ⟨k', hk, q⟩ := h' S' H' (Gr.refl _) I'
      cases hk
      exact ⟨k, rv_tru I' rv z, q⟩⟩
theorem t_v (G : Sur C R xa N W X sc fb lvl) {i : Nat} {x : Expr} (h : nameB N sc i x = true) : PT X x (rdT X.K xa W (evE C true (.v i))) := by
  have he : ∀ whole, isTrue x X.env whole = (do let v ← whole; standAt x.pos; holding [v] (truthy v)) := by
    cases x with
    | Name y p => exact fun _ => rfl
    | _ => cases h
  refine PT.weak (pt_truth (name_pe G h) he) fun σ H Q ⟨e, S, T, I, P⟩ => ?_
  have P' : PB2 X.K xa W σ S T (match getE e i with
      | some s => (opt (truth (frz s))).bind fun b => .ok (.d (.bool b), e)
      | none => .stuck) Q := P
  cases z : getE e i with
  | none => rw [z] at P'; exact P'.elim
  | some s =>
    rw [z] at P'
    have P2 : PB2 X.K xa W σ S T ((opt (truth (frz s))).bind fun b => .ok (.d (.bool b), e)) Q := P'
    cases zt : truth (frz s) with
    | none => rw [zt] at P2; exact P2.elim
    | some k =>
      rw [zt] at P2
      obtain ⟨k', hk, q⟩ := P2 S H (Gr.refl _) I
      cases hk
      cases s with
      | d y =>
        obtain ⟨v, q1, q2⟩ := I.data z
        exact ⟨v, q1, k, tru_of I.s (q2.b I.s) zt, q⟩
      | o l =>
        obtain ⟨a, vs, q1, q2, q3, _⟩ := I.own z
        exact ⟨_, q1, k, tru_of I.s (show BOk X.K S H (.ref a) (.list l) from ⟨a, vs, rfl, .inl q2, q3⟩) zt, q⟩
theorem t_cmp (G : Sur C R xa N W X sc fb lvl) {o : COp} {a b : E} {x y : Expr} {pos : Pos} (hy : noset y = true) (ha : PE X x (argT X.K xa W a (evE C false a))) (hb : PE X y (argT X.K xa W b (evE C false b))) :
    PT X (.Compare x [cop o] [y] pos) (rdT X.K xa W (evE C true (.cmp o a b))) :=
  PT.weak (pt_cmpR (op_cmpS G.room.units o) ha hb (mark_ok hy)) fun σ H Q ⟨e, S, T, I, P⟩ => two I (pq_isB isB_cmp P)
theorem t_chain (G : Sur C R xa N W X sc fb lvl) {o q : COp} {a b c : E} {x y z : Expr} {pos : Pos} (hz : noset z = true) (ha : PE X x (argT X.K xa W a (evE C false a))) (hb : PE X y (argT X.K xa W b (evE C false b))) (hc : PE X z (argT X.K xa W c (evE C false c))) :
    PT X (.Compare x [cop o, cop q] [y, z] pos) (rdT X.K xa W (evE C true (.chain o q a b c))) :=
  PT.weak (pt_chain (op_cmp G.room.units o) (op_cmpS G.room.units q) ha hb hc (by show behindInMarks (cop q) z = false; exact mark_ok hz)) fun σ H Q ⟨e, S, T, I, P⟩ => chain_in ⟨e, S, T, I, pq_isB isB_chain P⟩
theorem t_not {a : E} {x : Expr} {pos : Pos} (ha : PT X x (rdT X.K xa W (evE C true a))) : PT X (.UnaryOp .Not x pos) (rdT X.K xa W (evE C true (.not a))) :=
  PT.weak (pt_not ha) fun σ H Q ⟨e, S, T, I, P⟩ => ⟨e, S, T, I, pb_ofB (f := notS) P fun r e' S' H' g I' h => by
    have h' : PB2 X.K xa W σ S' T ((opt (truth (frz r))).bind fun b => .ok (.d (.bool (!b)), e')) Q := h
    cases z : truth (frz r) with
    | none => rw [z] at h'; exact h'.elim
    | some k =>
      rw [z] at h'
      obtain ⟨k', hk, q⟩ := h' S' H' (Gr.refl _) I'
      cases hk
      exact ⟨k, rfl, q⟩⟩
theorem PW.weak {e : Expr} {t t' : TT} (h : PW X e t) (w : ∀ σ H Q, t' σ H Q → t σ H Q) : PW X e t' := ⟨fun wh pins s σ H Q I q => h.run wh pins s σ H Q I (w σ H Q q)⟩
theorem one_in {F : Res (Sl × SEnv)} {K : Fr} {W : WX} {σ : SS} {S T : Hp} {Q : Bool → Hp → Prop} (h : PB2 K xa W σ S T (F.bind fun p => .ok p) Q) : PB2 K xa W σ S T F Q := by cases F <;> exact h
theorem t_and1 {a : E} {x : Expr} {pos : Pos} (ha : PT X x (rdT X.K xa W (evE C true a))) : PW X (.BoolOp .And [x] pos) (rdT X.K xa W (evAnd C true [a])) :=
  PW.weak (pw_and1 ha) fun σ H Q ⟨e, S, T, I, P⟩ => ⟨e, S, T, I, one_in P⟩
theorem t_or1 {a : E} {x : Expr} {pos : Pos} (ha : PT X x (rdT X.K xa W (evE C true a))) : PW X (.BoolOp .Or [x] pos) (rdT X.K xa W (evOr C true [a])) :=
  PW.weak (pw_or1 ha) fun σ H Q ⟨e, S, T, I, P⟩ => ⟨e, S, T, I, one_in P⟩
theorem t_andc {a b : E} {l : List E} {x y : Expr} {xs : List Expr} {pos : Pos} (ha : PT X x (rdT X.K xa W (evE C true a))) (hb : PW X (.BoolOp .And (y :: xs) pos) (rdT X.K xa W (evAnd C true (b :: l)))) :
    PW X (.BoolOp .And (x :: y :: xs) pos) (rdT X.K xa W (evAnd C true (a :: b :: l))) :=
  PW.weak (pw_and ha hb) fun σ H Q ⟨e, S, T, I, P⟩ => ⟨e, S, T, I, pb_ofB (f := fun p => match truth (frz p.1) with
      | some true => evAnd C true (b :: l) p.2
      | some false => .ok p
      | none => .stuck) P fun r e' S' H' g I' h => by
    have h' : PB2 X.K xa W σ S' T (match truth (frz r) with
      | some true => evAnd C true (b :: l) e'
      | some false => .ok (r, e')
      | none => .stuck) Q := h
    cases z : truth (frz r) with
    | none => rw [z] at h'; exact h'.elim
    | some k =>
      rw [z] at h'
      refine ⟨k, rfl, ?_⟩
      cases k with
      | true => rw [if_pos rfl]; exact ⟨e', S', T, I', h'⟩
      | false =>
        rw [if_neg Bool.false_ne_true]
        obtain ⟨k', hk, q⟩ := h' S' H' (Gr.refl _) I'
        have hk' : truth (frz r) = some k' := hk
        rw [z] at hk'
        cases hk'
        exact q⟩
theorem t_orc {a b : E} {l : List E} {x y : Expr} {xs : List Expr} {pos : Pos} (ha : PT X x (rdT X.K xa W (evE C true a))) (hb : PW X (.BoolOp .Or (y :: xs) pos) (rdT X.K xa W (evOr C true (b :: l)))) :
    PW X (.BoolOp .Or (x :: y :: xs) pos) (rdT X.K xa W (evOr C true (a :: b :: l))) :=
  PW.weak (pw_or ha hb) fun σ H Q ⟨e, S, T, I, P⟩ => ⟨e, S, T, I, pb_ofB (f := fun p => match truth (frz p.1) with
      | some true => .ok p
      | some false => evOr C true (b :: l) p.2
      | none => .stuck) P fun r e' S' H' g I' h => by
    have h' : PB2 X.K xa W σ S' T (match truth (frz r) with
      | some true => .ok (r, e')
      | some false => evOr C true (b :: l) e'
      | none => .stuck) Q := h
    cases z : truth (frz r) with
    | none => rw [z] at h'; exact h'.elim
    | some k =>
      rw [z] at h'
      refine ⟨k, rfl, ?_⟩
      cases k with
      | false => rw [if_neg Bool.false_ne_true]; exact ⟨e', S', T, I', h'⟩
      | true =>
        rw [if_pos rfl]
        obtain ⟨k', hk, q⟩ := h' S' H' (Gr.refl _) I'
        have hk' : truth (frz r) = some k' := hk
        rw [z] at hk'
        cases hk'
        exact q⟩
/-! ### comprehensions -/
theorem nocomp {iter : Expr} {env : Env} (h : noset iter = true) : ∀ x, foldedSetIterable iter env x = pure x := by cases iter <;> first | (intro x; rfl) | cases h
theorem lcI_other {K : Fr} {a : E} {F : SEnv → Res (Sl × SEnv)} (h : ∀ i, a ≠ .v i) : lcI K xa W a F = rdI K xa W F := by cases a <;> first | rfl | exact absurd rfl (h _)
theorem itr_other {a : E} {e : SEnv} {r : Res (Sl × SEnv)} (h : ∀ i, a ≠ .v i) : itr a e r = r.bind fun p => (opt (seqOf (frz p.1))).bind fun l => .ok (l, p.2) := by cases a <;> first | rfl | exact absurd rfl (h _)
theorem hid_other {a : E} (h : ∀ i, a ≠ .v i) : hidOf a = [] := by cases a <;> first | rfl | exact absurd rfl (h _)
theorem lc_rd {elt it : E} {p : Pat} {ifs : List E} {own : List (Str × Nat)} (hown : own.map (·.2) = slots p) {σ : SS} {H : Hp} {Q : VK} (hr : rdE X.K xa W (evE C false (.lc elt p it ifs)) σ H Q) :
    tLc (lcI X.K xa W it (evE C false it)) (gPat X.K (fun _ => false) p) (rdTs C X.K ifs) (argT X.K xa W0 elt (evE C false elt)) (own.map (·.2)) σ H Q := by
  obtain ⟨e, S, T, I, P⟩ := hr
  rw [hown]
  have P' : PQ X.K xa W σ S T ((itr it e (evE C false it e)).bind fun q => (lcL (lap C p ifs elt) q.1 [] (wipeE q.2 (hidOf it))).bind fun r => .ok (.o r.1, putBack r.2 q.2 (slots p ++ hidOf it))) Q := P
  by_cases hv : ∃ i, it = .v i
  · obtain ⟨i, rfl⟩ := hv
    have P2 : PQ X.K xa W σ S T ((match getE e i with
      | some s => (opt (seqOf (frz s))).bind fun l => .ok (l, e)
      | none => (.stuck : Res (List D × SEnv))).bind fun q => (lcL (lap C p ifs elt) q.1 [] (wipeE q.2 [i])).bind fun r => .ok (.o r.1, putBack r.2 q.2 (slots p ++ [i]))) Q := P'
    cases z : getE e i with
    | none => rw [z] at P2; exact P2.elim
    | some s =>
      rw [z] at P2
      have P3 : PQ X.K xa W σ S T (((opt (seqOf (frz s))).bind fun l => (.ok (l, e) : Res (List D × SEnv))).bind fun q => (lcL (lap C p ifs elt) q.1 [] (wipeE q.2 [i])).bind fun r => .ok (.o r.1, putBack r.2 q.2 (slots p ++ [i]))) Q := P2
      cases s with
      | o l =>
        obtain ⟨a, vs, q1, q2, q3, q4, q5⟩ := I.own z
        refine ⟨.ref a, q1, .inl ⟨a, vs, rfl, .inl (.inl q2), fun D hD => lc_in (hid := [i]) I hD (wk_list (fun H g => .inl (.inl (g.2 a _ ?_))) q3) P3⟩⟩
        rw [cov_own (getE_only.mpr ⟨by simp, z⟩) (join_of q1)]
        exact q2
      | d y =>
        obtain ⟨v, q1, q2⟩ := I.data z
        cases y with
        | list l =>
          cases q2 with
          | @lst a vs _ h1 h2 => exact ⟨.ref a, q1, .inl ⟨a, vs, rfl, .inl (I.s.rd h1), fun D hD => lc_in (hid := [i]) I hD (wk_list (fun H g => .inl (g.1.rd h1)) h2) P3⟩⟩
        | tuple l =>
          cases q2 with
          | @tup a vs _ h1 h2 => exact ⟨.ref a, q1, .inr ⟨a, vs, rfl, I.s.sqt h1, fun D hD => lc_in (hid := [i]) I hD (wk_tup (fun H g => g.1.sqt h1) h2) P3⟩⟩
        | _ => exact (show False from P3).elim
  · have hv' : ∀ i, it ≠ .v i := fun i z => hv ⟨i, z⟩
    rw [itr_other hv', hid_other hv'] at P'
    show lcI X.K xa W it (evE C false it) σ H _
    rw [lcI_other hv']
    refine ⟨e, S, T, I, ?_⟩
    cases z : evE C false it e with
    | stuck => rw [z] at P'; exact P'
    | err x e' => rw [z] at P'; exact P'
    | ok q =>
      obtain ⟨r, e'⟩ := q
      rw [z] at P'
      have P2 : PQ X.K xa W σ S T (((opt (seqOf (frz r))).bind fun l => (.ok (l, e') : Res (List D × SEnv))).bind fun q => (lcL (lap C p ifs elt) q.1 [] (wipeE q.2 [])).bind fun r => .ok (.o r.1, putBack r.2 q.2 (slots p ++ []))) Q := P'
      intro S' H' g I'
      unfold ItK
      show match seqOf (frz r) with
        | some l => _
        | none => False
      cases zs : seqOf (frz r) with
      | none => rw [zs] at P2; exact P2.elim
      | some l =>
        rw [zs] at P2
        exact fun J wk D hD => lc_in (hid := []) I' hD (wk.mono fun H q => q.1) (PQ.mono P2 g (Gr.refl T))
structure LcParts (C : Wx) (xa : Nat → Addr) (W : WX) (X : L2.Cx) (elt it : E) (p : Pat) (ifs : List E) (x tg iter : Expr) (is : List Expr) (scope : Scope) (own : List (Str × Nat)) : Prop where
  set : ∀ x, foldedSetIterable iter X.env x = pure x
  hi : PI X tg iter (lcI X.K xa W it (evE C false it))
  ok : BlkOk X.N X.env.scope scope own
  hown : own.map (·.2) = slots p
  hg : ∀ (s : Shared) (H : Hp) (A : Addr) (cl : List (Str × Addr)) (fp : List Addr), PG (X.blk s H scope (compEnvC scope cl A X.env) fp) tg (gPat X.K (fun _ => false) p)
  ht : ∀ (s : Shared) (H : Hp) (A : Addr) (cl : List (Str × Addr)) (fp : List Addr), PTs (X.blk s H scope (compEnvC scope cl A X.env) fp) is (rdTs C X.K ifs)
  he : ∀ (s : Shared) (H : Hp) (A : Addr) (cl : List (Str × Addr)) (fp : List Addr), PE (X.blk s H scope (compEnvC scope cl A X.env) fp) x (argT X.K xa W0 elt (evE C false elt))
theorem lc_parts (G : Sur C R xa N W X sc fb lvl) {elt it : E} {p : Pat} {ifs : List E} {x tg iter : Expr} {is : List Expr} {scope : Scope} (hset : noset iter = true) (hi : PI X tg iter (lcI X.K xa W it (evE C false it)))
    (hb : blkC N sc scope ((slots p).filterMap fun i => N[i]?.map fun x => (x, i)) = true) (hp : chkP N (relS scope sc) (fun x => scope.names.lookup x == some .cell) p tg = true)
    (ht : ∀ (s : Shared) (H : Hp) (A : Addr) (cl : List (Str × Addr)) (fp : List Addr), PTs (X.blk s H scope (compEnvC scope cl A X.env) fp) is (rdTs C X.K ifs))
    (he : ∀ (s : Shared) (H : Hp) (A : Addr) (cl : List (Str × Addr)) (fp : List Addr), PE (X.blk s H scope (compEnvC scope cl A X.env) fp) x (argT X.K xa W0 elt (evE C false elt))) :
    LcParts C xa W X elt it p ifs x tg iter is scope ((slots p).filterMap fun i => N[i]?.map fun x => (x, i)) where
  set := nocomp hset
  hi := hi
  ok := by rw [G.hN, G.hsc]; exact blkOk_by hb
  hown := own_eq (chkP_slots p tg hp)
  hg := fun s H A cl fp => pg_pat (X := X.blk s H scope (compEnvC scope cl A X.env) fp) (G.blk s H scope A cl fp).tgt p tg hp
  ht := ht
  he := he
theorem s_lc (G : Sur C R xa N W X sc fb lvl) {elt it : E} {p : Pat} {ifs : List E} {x tg iter : Expr} {is : List Expr} {scope : Scope} {own : List (Str × Nat)} {pos : Pos} (Z : LcParts C xa W X elt it p ifs x tg iter is scope own) :
    PE X (.ListComp x [⟨tg, iter, is, 0⟩] scope pos) (rdE X.K xa W (evE C false (.lc elt p it ifs))) :=
  PE.weak (pe_lc G.calm G.nd Z.hi Z.ok Z.hg Z.ht Z.he Z.set) fun σ H Q h => lc_rd Z.hown h
end
end EvS

set_option Elab.async false
set_option linter.all false
set_option maxHeartbeats 4000000
/-! PyEvX: every expression. -/
namespace EvS
open PySem PySem.Spec PyProof.Rows L2 Ev

section
variable {R : Ren} {N : List Str} {sc : Scope} {fb : Str → Bool}
theorem chkL_ns : ∀ {l : List E} {xs : List Expr}, chkL R N sc fb l xs = true → nsts xs = true ∧ l.length = xs.length
  | [], [], _ => ⟨rfl, rfl⟩
  | a :: l, x :: xs, h => by
    have h' : (nst x && (valB a && chkE R N sc fb a x) && chkL R N sc fb l xs) = true := h
    simp only [Bool.and_eq_true] at h'
    obtain ⟨h1, h2⟩ := chkL_ns h'.2
    exact ⟨by show (nst x && nsts xs) = true; rw [h'.1.1, h1]; rfl, by simp [h2]⟩
  | [], _ :: _, h => by cases h
  | _ :: _, [], h => by cases h
end
section
variable {C : Wx} {R : Ren} {xa : Nat → Addr} {N : List Str} {W : WX} {X : L2.Cx} {sc : Scope} {fb : Str → Bool} {lvl : Nat} {tg : Expr}
theorem len_two {α : Type} : ∀ {l : List α}, l.length = 2 → ∃ x y, l = [x, y]
  | [x, y], _ => ⟨x, y, rfl⟩
  | [], h => by cases h
  | [_], h => by cases h
  | _ :: _ :: _ :: _, h => by simp at h
theorem i_ofval (G : Sur C R xa N W X sc fb lvl) {it : E} {iter : Expr} (h : chkE R N sc fb it iter = true) (p : PE X iter (rdE X.K xa W (evE C false it))) : PI X tg iter (lcI X.K xa W it (evE C false it)) := by
  cases it with
  | v i => exact i_name G h
  | _ => exact i_val p
theorem i_walk (G : Sur C R xa N W X sc fb lvl) {b : Blt} {l : List E} {g : Expr} {xs : List Expr} {pos : Pos} (hv : ¬ valB (.blt b l) = true) (ht : itOk tg (.blt b l) = true) (hg : glNm sc (bltS b) g = true) (hb : (bltOk b || walkOk b l.length) = true) (hf : bltFree R b = true)
    (hn : nsts xs = true ∧ l.length = xs.length) (ha : PA X xs (argsT X.K xa W (evE C false) l)) : PI X tg (.Call g xs [] pos) (rdI X.K xa W (evE C false (.blt b l))) := by
  cases g with
  | Name y p =>
    have hg' : (decide (y = bltS b) && glB sc y) = true := hg
    simp only [Bool.and_eq_true, decide_eq_true_eq] at hg'
    obtain ⟨rfl, hg'⟩ := hg'
    obtain ⟨n1, n2⟩ := hn
    cases b with
    | range =>
      have hw : (decide (l.length = 1) || decide (l.length = 2)) = true := hb
      simp only [Bool.or_eq_true, decide_eq_true_eq] at hw
      rcases hw with hw | hw
      · obtain ⟨x, rfl⟩ : ∃ x, xs = [x] := List.length_eq_one_iff.mp (n2.symm.trans hw)
        exact i_range1 G hf hg' (nsts_ok n1).1 ha hw
      · obtain ⟨x, y, rfl⟩ : ∃ x y, xs = [x, y] := len_two (n2.symm.trans hw)
        exact i_range2 G hf hg' (nsts_ok n1).1 (nsts_ok (nsts_ok n1).2).1 ha hw
    | zip =>
      have hw : decide (l.length = 2) = true := hb
      obtain ⟨x, y, rfl⟩ : ∃ x y, xs = [x, y] := len_two (n2.symm.trans (of_decide_eq_true hw))
      exact i_zip G ht hf hg' (nsts_ok n1).1 (nsts_ok (nsts_ok n1).2).1 ha
    | enumerate =>
      have hw : decide (l.length = 1) = true := hb
      obtain ⟨x, rfl⟩ : ∃ x, xs = [x] := List.length_eq_one_iff.mp (n2.symm.trans (of_decide_eq_true hw))
      exact i_enum G ht hf hg' (nsts_ok n1).1 ha
    | _ => exact absurd rfl hv
  | _ => cases hg
end
/-- what an expression's rule says -/
def EOk (C : Wx) (xa : Nat → Addr) (W : WX) (X : L2.Cx) (a : E) (x : Expr) : Prop := PE X x (rdE X.K xa W (evE C false a)) ∧ (chkT a = true → PT X x (rdT X.K xa W (evE C true a)))
section
variable {C : Wx} {R : Ren} {xa : Nat → Addr} {N : List Str} {lvl : Nat}
mutual
theorem soundE : ∀ (a : E) (x : Expr) (W : WX) (X : L2.Cx) (sc : Scope) (fb : Str → Bool), Sur C R xa N W X sc fb lvl → chkE R N sc fb a x = true → valB a = true → EOk C xa W X a x
  | .v i, x, W, X, sc, fb, G, h, _ => ⟨s_v G h, fun _ => t_v G h⟩
  | .c d, x, W, X, sc, fb, G, h, _ => by
    cases x with
    | Constant k j pos =>
      have p := s_c (C := C) (xa := xa) (W := W) (X := X) (j := j) (pos := pos) (show constB d k = true from h)
      exact ⟨p, fun _ => t_val p fun _ => rfl⟩
    | _ => cases h
  | .g k, x, W, X, sc, fb, G, h, _ => by
    obtain ⟨hk, hg⟩ := Bool.and_eq_true_iff.mp (show (R.glOk k && glNm sc (R.gl k) x) = true from h)
    have p := s_g (C := C) G hk hg
    refine ⟨p, fun _ => ?_⟩
    cases x with
    | Name y pos => exact t_val p fun _ => rfl
    | _ => cases hg
  | .bin o a b, x, W, X, sc, fb, G, h, _ => by
    cases x with
    | BinOp x op y pos =>
      have h' : (decide (op = aop o) && (valB a && valB b && (chkE R N sc fb a x && chkE R N sc fb b y))) = true := h
      simp only [Bool.and_eq_true, decide_eq_true_eq] at h'
      obtain ⟨rfl, ⟨va, vb⟩, ha, hb⟩ := h'
      have p := s_bin (o := o) (pos := pos) (arg_pe G ha (soundE a x W X sc fb G ha va).1) (arg_pe G hb (soundE b y W X sc fb G hb vb).1)
      exact ⟨p, fun _ => t_val p fun _ => rfl⟩
    | _ => cases h
  | .neg a, x, W, X, sc, fb, G, h, _ => by
    cases x with
    | UnaryOp op x pos =>
      cases op with
      | USub =>
        have h' : (valB a && chkE R N sc fb a x) = true := h
        obtain ⟨va, ha⟩ := Bool.and_eq_true_iff.mp h'
        have p := s_neg (pos := pos) (arg_pe G ha (soundE a x W X sc fb G ha va).1)
        exact ⟨p, fun _ => t_val p fun _ => rfl⟩
      | _ => cases h
    | _ => cases h
  | .cmp o a b, x, W, X, sc, fb, G, h, _ => by
    cases x with
    | Compare x ops ys pos =>
      cases ops with
      | nil => cases h
      | cons op ops =>
        cases ops with
        | cons _ _ => cases h
        | nil =>
          cases ys with
          | nil => cases h
          | cons y ys =>
            cases ys with
            | cons _ _ => cases h
            | nil =>
              have h' : (decide (op = cop o) && (noset y && (valB a && valB b && (chkE R N sc fb a x && chkE R N sc fb b y)))) = true := h
              simp only [Bool.and_eq_true, decide_eq_true_eq] at h'
              obtain ⟨rfl, hn, ⟨va, vb⟩, ha, hb⟩ := h'
              have pa := arg_pe G ha (soundE a x W X sc fb G ha va).1
              have pb := arg_pe G hb (soundE b y W X sc fb G hb vb).1
              exact ⟨s_cmp G hn pa pb, fun _ => t_cmp G hn pa pb⟩
    | _ => cases h
  | .chain o q a b c, x, W, X, sc, fb, G, h, _ => by
    cases x with
    | Compare x ops ys pos =>
      cases ops with
      | nil => cases h
      | cons op ops =>
        cases ops with
        | nil => cases h
        | cons op' ops =>
          cases ops with
          | cons _ _ => cases h
          | nil =>
            cases ys with
            | nil => cases h
            | cons y ys =>
              cases ys with
              | nil => cases h
              | cons z ys =>
                cases ys with
                | cons _ _ => cases h
                | nil =>
                  have h' : (decide (op = cop o) && (decide (op' = cop q) && (noset z && (valB a && valB b && valB c && (chkE R N sc fb a x && (chkE R N sc fb b y && chkE R N sc fb c z)))))) = true := h
                  simp only [Bool.and_eq_true, decide_eq_true_eq] at h'
                  obtain ⟨rfl, rfl, hn, ⟨⟨va, vb⟩, vc⟩, ha, hb, hc⟩ := h'
                  have pa := arg_pe G ha (soundE a x W X sc fb G ha va).1
                  have pb := arg_pe G hb (soundE b y W X sc fb G hb vb).1
                  have pc := arg_pe G hc (soundE c z W X sc fb G hc vc).1
                  exact ⟨s_chain G hn pa pb pc, fun _ => t_chain G hn pa pb pc⟩
    | _ => cases h
  | .and l, x, W, X, sc, fb, G, h, _ => by
    cases x with
    | BoolOp op xs pos =>
      cases op with
      | And =>
        have h' : (chkL R N sc fb l xs && !l.isEmpty) = true := h
        obtain ⟨h1, h2⟩ := Bool.and_eq_true_iff.mp h'
        obtain ⟨p, q⟩ := soundAnd l xs W X sc fb pos G h1 (by simpa using h2)
        exact ⟨p, fun ht => (q ht).pt⟩
      | Or => cases h
    | _ => cases h
  | .or l, x, W, X, sc, fb, G, h, _ => by
    cases x with
    | BoolOp op xs pos =>
      cases op with
      | Or =>
        have h' : (chkL R N sc fb l xs && !l.isEmpty) = true := h
        obtain ⟨h1, h2⟩ := Bool.and_eq_true_iff.mp h'
        obtain ⟨p, q⟩ := soundOr l xs W X sc fb pos G h1 (by simpa using h2)
        exact ⟨p, fun ht => (q ht).pt⟩
      | And => cases h
    | _ => cases h
  | .not a, x, W, X, sc, fb, G, h, _ => by
    cases x with
    | UnaryOp op x pos =>
      cases op with
      | Not =>
        have h' : (valB a && chkE R N sc fb a x) = true := h
        obtain ⟨va, ha⟩ := Bool.and_eq_true_iff.mp h'
        obtain ⟨p, q⟩ := soundE a x W X sc fb G ha va
        exact ⟨s_not p, fun ht => t_not (q ht)⟩
      | _ => cases h
    | _ => cases h
  | .ife t a b, x, W, X, sc, fb, G, h, _ => by
    cases x with
    | IfExp c x y pos =>
      have h' : (valB t && valB a && valB b && (chkT t && (chkE R N sc fb t c && (chkE R N sc fb a x && chkE R N sc fb b y)))) = true := h
      simp only [Bool.and_eq_true] at h'
      obtain ⟨⟨⟨vt, va⟩, vb⟩, kt, hc, ha, hb⟩ := h'
      exact ⟨s_ife ((soundE t c W X sc fb G hc vt).2 kt) (soundE a x W X sc fb G ha va).1 (soundE b y W X sc fb G hb vb).1, fun ht => by cases ht⟩
    | _ => cases h
  | .tup l, x, W, X, sc, fb, G, h, _ => by
    cases x with
    | Tuple xs k pos =>
      have p := s_tup (k := k) (pos := pos) (soundL l xs W X sc fb G h)
      exact ⟨p, fun _ => t_val p fun _ => rfl⟩
    | _ => cases h
  | .lst l, x, W, X, sc, fb, G, h, _ => by
    cases x with
    | List xs pos =>
      have p := s_lst (pos := pos) (soundL l xs W X sc fb G h)
      exact ⟨p, fun _ => t_val p fun _ => rfl⟩
    | _ => cases h
  | .ix a i, x, W, X, sc, fb, G, h, _ => by
    cases x with
    | Subscript x y pos =>
      have h' : (nosl y && (valB a && valB i && (chkE R N sc fb a x && chkE R N sc fb i y))) = true := h
      simp only [Bool.and_eq_true] at h'
      obtain ⟨hn, ⟨va, vb⟩, ha, hb⟩ := h'
      have p := s_ix (pos := pos) hn (arg_pe G ha (soundE a x W X sc fb G ha va).1) (arg_pe G hb (soundE i y W X sc fb G hb vb).1)
      exact ⟨p, fun _ => t_val p fun _ => rfl⟩
    | _ => cases h
  | .sl a lo hi, x, W, X, sc, fb, G, h, _ => by
    cases x with
    | Subscript x y pos =>
      cases y with
      | Slice l hh st p2 =>
        cases st with
        | none =>
          have h' : (valB a && (chkE R N sc fb a x && (chkO R N sc fb lo l && chkO R N sc fb hi hh))) = true := h
          simp only [Bool.and_eq_true] at h'
          obtain ⟨va, ha, hl, hhi⟩ := h'
          have p := s_sl (p2 := p2) (pos := pos) (arg_pe G ha (soundE a x W X sc fb G ha va).1) (soundO lo l W X sc fb G hl) (soundO hi hh W X sc fb G hhi)
          exact ⟨p, fun _ => t_val p fun _ => rfl⟩
        | some _ => cases h
      | _ => cases h
    | _ => cases h
  | .rev a, x, W, X, sc, fb, G, h, _ => by
    cases x with
    | Subscript x y pos =>
      cases y with
      | Slice l hh st p3 =>
        cases l with
        | some _ => cases h
        | none =>
          cases hh with
          | some _ => cases h
          | none =>
            cases st with
            | none => cases h
            | some u =>
              cases u with
              | UnaryOp op u p2 =>
                cases op with
                | USub =>
                  cases u with
                  | Constant k j p1 =>
                    cases k with
                    | int n =>
                      by_cases hn : n = 1
                      · subst hn
                        have h' : (valB a && chkE R N sc fb a x) = true := h
                        obtain ⟨va, ha⟩ := Bool.and_eq_true_iff.mp h'
                        have p := s_rev (k := j) (p1 := p1) (p2 := p2) (p3 := p3) (pos := pos) (arg_pe G ha (soundE a x W X sc fb G ha va).1)
                        exact ⟨p, fun _ => t_val p fun _ => rfl⟩
                      · exfalso
                        unfold chkE at h
                        split at h <;> first
                          | (rename_i z; cases z <;> exact hn rfl)
                          | (cases h; done)
                          | simp_all
                    | _ => cases h
                  | _ => cases h
                | _ => cases h
              | _ => cases h
      | _ => cases h
    | _ => cases h
  | .call f l, x, W, X, sc, fb, G, h, _ => by
    cases x with
    | Call g xs ks pos =>
      cases ks with
      | cons _ _ => cases h
      | nil =>
        have h' : (glNm sc (R.fn f) g && (R.fnOk f && chkL R N sc fb l xs)) = true := h
        simp only [Bool.and_eq_true] at h'
        obtain ⟨hg, hf, hl⟩ := h'
        cases g with
        | Name y p =>
          have hg' : (decide (y = R.fn f) && glB sc y) = true := hg
          simp only [Bool.and_eq_true, decide_eq_true_eq] at hg'
          obtain ⟨rfl, hg'⟩ := hg'
          obtain ⟨n1, n2⟩ := chkL_ns hl
          have p : PE X (.Call (.Name (R.fn f) p) xs [] pos) (rdE X.K xa W (evE C false (.call f l))) := by
            cases xs with
            | nil =>
              cases l with
              | nil => exact s_call0 G hf hg'
              | cons _ _ => cases n2
            | cons x xs => exact s_call G hf hg' n1 (soundL l (x :: xs) W X sc fb G hl)
          exact ⟨p, fun _ => t_val p fun _ => rfl⟩
        | _ => cases hg
    | _ => cases h
  | .blt b l, x, W, X, sc, fb, G, h, hv => by
    cases x with
    | Call g xs ks pos =>
      cases ks with
      | cons _ _ => cases h
      | nil =>
        have h' : (glNm sc (bltS b) g && (((bltOk b || walkOk b l.length) && bltFree R b) && (!l.isEmpty && chkL R N sc fb l xs))) = true := h
        simp only [Bool.and_eq_true] at h'
        obtain ⟨hg, ⟨hb, hf⟩, he, hl⟩ := h'
        have hb' : bltOk b = true := by
          cases b <;> first
            | rfl
            | (exact absurd hv Bool.false_ne_true)
            | (exact absurd hb Bool.false_ne_true)
        cases g with
        | Name y p =>
          have hg' : (decide (y = bltS b) && glB sc y) = true := hg
          simp only [Bool.and_eq_true, decide_eq_true_eq] at hg'
          obtain ⟨rfl, hg'⟩ := hg'
          obtain ⟨n1, n2⟩ := chkL_ns hl
          have p : PE X (.Call (.Name (bltS b) p) xs [] pos) (rdE X.K xa W (evE C false (.blt b l))) := by
            cases xs with
            | nil =>
              cases l with
              | nil => cases he
              | cons _ _ => cases n2
            | cons x xs => exact s_blt G hb' hf hg' n1 (soundL l (x :: xs) W X sc fb G hl)
          exact ⟨p, fun _ => t_val p fun _ => rfl⟩
        | _ => cases hg
    | _ => cases h
  | .lrg l, x, W, X, sc, fb, G, h, _ => by
    cases x with
    | Call g xs ks pos =>
      cases xs with
      | nil => cases ks <;> cases h
      | cons y xs =>
        cases xs with
        | cons _ _ => cases y <;> first
          | (cases ks <;> cases h; done)
          | (rename_i k _; cases k <;> cases ks <;> cases h)
        | nil =>
          cases ks with
          | cons _ _ => cases y <;> first
            | (cases h; done)
            | (rename_i k _; cases k <;> cases h)
          | nil =>
            cases y with
            | Call hh zs ks2 pos2 =>
              cases ks2 with
              | cons _ _ => cases h
              | nil =>
                have h' : (glNm sc "list" g && (glNm sc "range" hh && (R.free.contains "list" && (R.free.contains "range" && ((decide (l.length = 1) || decide (l.length = 2)) && chkL R N sc fb l zs))))) = true := h
                simp only [Bool.and_eq_true, Bool.or_eq_true, decide_eq_true_eq] at h'
                obtain ⟨g1, g2, f1, f2, hln, hl⟩ := h'
                cases g with
                | Name u p =>
                  have hg1 : (decide (u = "list") && glB sc u) = true := g1
                  simp only [Bool.and_eq_true, decide_eq_true_eq] at hg1
                  obtain ⟨rfl, hg1⟩ := hg1
                  cases hh with
                  | Name v p2 =>
                    have hg2 : (decide (v = "range") && glB sc v) = true := g2
                    simp only [Bool.and_eq_true, decide_eq_true_eq] at hg2
                    obtain ⟨rfl, hg2⟩ := hg2
                    have p : PE X (.Call (.Name "list" p) [.Call (.Name "range" p2) zs [] pos2] [] pos) (rdE X.K xa W (evE C false (.lrg l))) := by
                      match l, zs, hl, hln with
                      | [a], [x], hl, _ =>
                        have h2 : (nst x && (valB a && chkE R N sc fb a x) && true) = true := hl
                        simp only [Bool.and_eq_true] at h2
                        exact s_lrg1 G hg1 f1 hg2 f2 h2.1.1 rfl (arg_pe G h2.1.2.2 (soundE a x W X sc fb G h2.1.2.2 h2.1.2.1).1)
                      | [a, b], [x, y], hl, _ =>
                        have h2 : (nst x && (valB a && chkE R N sc fb a x) && (nst y && (valB b && chkE R N sc fb b y) && true)) = true := hl
                        simp only [Bool.and_eq_true] at h2
                        exact s_lrg2 G hg1 f1 hg2 f2 h2.1.1 h2.2.1.1 (arg_pe G h2.1.2.2 (soundE a x W X sc fb G h2.1.2.2 h2.1.2.1).1) (arg_pe G h2.2.1.2.2 (soundE b y W X sc fb G h2.2.1.2.2 h2.2.1.2.1).1)
                      | [], _, _, hln => exact absurd hln (by simp)
                      | [_], [], hl, _ => cases hl
                      | [_], _ :: _ :: _, hl, _ =>
                        have h2 := (Bool.and_eq_true_iff.mp (show (nst _ && (valB _ && chkE R N sc fb _ _) && chkL R N sc fb [] (_ :: _)) = true from hl)).2
                        cases h2
                      | [_, _], [], hl, _ => cases hl
                      | [_, _], [_], hl, _ =>
                        have h2 := (Bool.and_eq_true_iff.mp (show (nst _ && (valB _ && chkE R N sc fb _ _) && chkL R N sc fb [_] []) = true from hl)).2
                        cases h2
                      | [_, _], _ :: _ :: _ :: _, hl, _ =>
                        have h2 := (Bool.and_eq_true_iff.mp (show (nst _ && (valB _ && chkE R N sc fb _ _) && chkL R N sc fb [_] (_ :: _ :: _)) = true from hl)).2
                        have h3 := (Bool.and_eq_true_iff.mp (show (nst _ && (valB _ && chkE R N sc fb _ _) && chkL R N sc fb [] (_ :: _)) = true from h2)).2
                        cases h3
                      | _ :: _ :: _ :: _, _, _, hln => exact absurd hln (by simp)
                    exact ⟨p, fun _ => t_val p fun _ => rfl⟩
                  | _ => cases g2
                | _ => cases g1
            | _ => cases h
    | _ => cases h
  | .isi a ts, x, W, X, sc, fb, G, h, _ => by
    cases x with
    | Call g xs ks pos =>
      cases ks with
      | cons _ _ => cases xs with
        | nil => cases h
        | cons x xs => cases xs with
          | nil => cases h
          | cons y xs => cases xs <;> cases h
      | nil =>
        cases xs with
        | nil => cases h
        | cons x xs =>
          cases xs with
          | nil => cases h
          | cons y xs =>
            cases xs with
            | cons _ _ => cases h
            | nil =>
              have h' : (glNm sc "isinstance" g && (R.free.contains "isinstance" && (nst x && nst y && (valB a && (chkE R N sc fb a x && tysB R sc ts y))))) = true := h
              simp only [Bool.and_eq_true] at h'
              obtain ⟨hg, hf, ⟨hx, hy⟩, va, ha, ht⟩ := h'
              cases g with
              | Name z p =>
                have hg' : (decide (z = "isinstance") && glB sc z) = true := hg
                simp only [Bool.and_eq_true, decide_eq_true_eq] at hg'
                obtain ⟨rfl, hg'⟩ := hg'
                have p := s_isi (p := p) (pos := pos) G hg' hf hx hy (arg_pe G ha (soundE a x W X sc fb G ha va).1) ht
                exact ⟨p, fun _ => t_val p fun _ => rfl⟩
              | _ => cases hg
    | _ => cases h
  | .lc elt p it ifs, x, W, X, sc, fb, G, h, _ => by
    cases x with
    | ListComp e gs scope pos =>
      cases gs with
      | nil => cases h
      | cons g gs =>
        cases gs with
        | cons _ _ =>
          exfalso
          unfold chkE at h
          split at h <;> first
            | (cases h; done)
            | (rename_i z; cases z; done)
            | simp_all
        | nil =>
          obtain ⟨tg, iter, is, k⟩ := g
          by_cases hk : k = 0
          case neg =>
            exfalso
            unfold chkE at h
            split at h <;> first
              | (rename_i z; cases z <;> exact hk rfl)
              | (cases h; done)
              | simp_all
          case pos =>
            subst hk
            have h' : ((noset iter && (itOk tg it && chkE R N sc fb it iter)) && (blkC N sc scope ((slots p).filterMap fun i => N[i]?.map fun x => (x, i)) && (chkP N (relS scope sc) (fun x => scope.names.lookup x == some .cell) p tg &&
              (chkTs R N (relS scope sc) (fun x => scope.names.lookup x == some .cell) ifs is && (valB elt && chkE R N (relS scope sc) (fun x => scope.names.lookup x == some .cell) elt e))))) = true := h
            simp only [Bool.and_eq_true] at h'
            obtain ⟨⟨hset, hio, hit⟩, hb, hp, ht, ve, he⟩ := h'
            have hi : PI X tg iter (lcI X.K xa W it (evE C false it)) := by
              by_cases hw : valB it = true
              · exact i_ofval G hit (soundE it iter W X sc fb G hit hw).1
              · cases it with
                | blt b l =>
                  cases iter with
                  | Call g xs ks cp =>
                    cases ks with
                    | cons _ _ => cases hit
                    | nil =>
                      have h2 : (glNm sc (bltS b) g && (((bltOk b || walkOk b l.length) && bltFree R b) && (!l.isEmpty && chkL R N sc fb l xs))) = true := hit
                      simp only [Bool.and_eq_true] at h2
                      exact i_walk G hw hio h2.1 h2.2.1.1 h2.2.1.2 (chkL_ns h2.2.2.2) (soundL l xs W X sc fb G h2.2.2.2)
                  | _ => cases hit
                | _ => exact absurd rfl hw
            have q := s_lc (pos := pos) G (lc_parts G hset hi hb hp
              (fun s H A cl fp => soundTs ifs is _ _ _ (G.blk s H scope A cl fp) ht)
              (fun s H A cl fp => arg_pe (G.blk s H scope A cl fp) he (soundE elt e W0 _ _ _ (G.blk s H scope A cl fp) he ve).1))
            exact ⟨q, fun _ => t_val q fun _ => rfl⟩
    | _ => cases h
  | .lc2 _ _ _ _ _ _ _, x, W, X, sc, fb, G, h, _ => by cases x <;> cases h
  | .pop i a, x, W, X, sc, fb, G, h, _ => by
    cases x with
    | Call g es ks cpos =>
      cases g with
      | Attribute x nm apos =>
        cases ks with
        | cons _ _ => cases h
        | nil =>
          have h' : (decide (nm = "pop") && (nameB N sc i x && (decide (apos.endLine = cpos.line) && (match (generalizing := false) es with
            | [] => a.isNone
            | [y] => nst y && chkO R N sc fb a (some y)
            | _ => false)))) = true := h
          simp only [Bool.and_eq_true, decide_eq_true_eq] at h'
          obtain ⟨rfl, hx, hl, he⟩ := h'
          cases es with
          | nil =>
            cases a with
            | none =>
              have p := s_pop0 (C := C) G hx hl
              exact ⟨p, fun _ => t_val p fun _ => rfl⟩
            | some _ => cases he
          | cons y es =>
            cases es with
            | cons _ _ => cases he
            | nil =>
              obtain ⟨hy, ho⟩ := Bool.and_eq_true_iff.mp he
              cases a with
              | none => cases ho
              | some a =>
                have ho' : (valB a && chkE R N sc fb a y) = true := ho
                obtain ⟨va, ha⟩ := Bool.and_eq_true_iff.mp ho'
                have p := s_pop1 G hx hy hl (arg_pe G ha (soundE a y W X sc fb G ha va).1)
                exact ⟨p, fun _ => t_val p fun _ => rfl⟩
      | _ => cases ks <;> cases h
    | _ => cases h
theorem soundL : ∀ (l : List E) (xs : List Expr) (W : WX) (X : L2.Cx) (sc : Scope) (fb : Str → Bool), Sur C R xa N W X sc fb lvl → chkL R N sc fb l xs = true → PA X xs (argsT X.K xa W (evE C false) l)
  | [], [], W, X, sc, fb, G, _ => pa_nil
  | a :: l, x :: xs, W, X, sc, fb, G, h => by
    have h' : (nst x && (valB a && chkE R N sc fb a x) && chkL R N sc fb l xs) = true := h
    simp only [Bool.and_eq_true] at h'
    obtain ⟨⟨hn, va, ha⟩, hl⟩ := h'
    exact pa_cons (arg_pe G ha (soundE a x W X sc fb G ha va).1) (soundL l xs W X sc fb G hl) (star_ok hn)
  | [], _ :: _, W, X, sc, fb, G, h => by cases h
  | _ :: _, [], W, X, sc, fb, G, h => by cases h
theorem soundO : ∀ (a : Option E) (x : Option Expr) (W : WX) (X : L2.Cx) (sc : Scope) (fb : Str → Bool), Sur C R xa N W X sc fb lvl → chkO R N sc fb a x = true → PO X x (optT X.K xa W (evE C false) a)
  | none, none, W, X, sc, fb, G, _ => po_none
  | some a, some x, W, X, sc, fb, G, h => by
    have h' : (valB a && chkE R N sc fb a x) = true := h
    obtain ⟨va, ha⟩ := Bool.and_eq_true_iff.mp h'
    exact po_some (arg_pe G ha (soundE a x W X sc fb G ha va).1)
  | none, some _, W, X, sc, fb, G, h => by cases h
  | some _, none, W, X, sc, fb, G, h => by cases h
theorem soundAnd : ∀ (l : List E) (xs : List Expr) (W : WX) (X : L2.Cx) (sc : Scope) (fb : Str → Bool) (pos : Pos), Sur C R xa N W X sc fb lvl → chkL R N sc fb l xs = true → l ≠ [] →
    PE X (.BoolOp .And xs pos) (rdE X.K xa W (evAnd C false l)) ∧ (chkTL l = true → PW X (.BoolOp .And xs pos) (rdT X.K xa W (evAnd C true l)))
  | [], _, _, _, _, _, _, _, _, h => absurd rfl h
  | _ :: _, [], _, _, _, _, _, _, h, _ => by cases h
  | a :: l, x :: xs, W, X, sc, fb, pos, G, h, _ => by
    have h' : (nst x && (valB a && chkE R N sc fb a x) && chkL R N sc fb l xs) = true := h
    simp only [Bool.and_eq_true] at h'
    obtain ⟨⟨hn, va, ha⟩, hl⟩ := h'
    obtain ⟨p, q⟩ := soundE a x W X sc fb G ha va
    cases l with
    | nil =>
      cases xs with
      | cons _ _ => cases hl
      | nil => exact ⟨s_and1 (m := false) p, fun ht => t_and1 (q (by simpa [chkTL] using ht))⟩
    | cons b l =>
      cases xs with
      | nil => cases hl
      | cons y xs =>
        obtain ⟨p2, q2⟩ := soundAnd (b :: l) (y :: xs) W X sc fb pos G hl (by simp)
        refine ⟨s_andc p p2, fun ht => ?_⟩
        obtain ⟨t1, t2⟩ := Bool.and_eq_true_iff.mp (show (chkT a && chkTL (b :: l)) = true from ht)
        exact t_andc (q t1) (q2 t2)
theorem soundOr : ∀ (l : List E) (xs : List Expr) (W : WX) (X : L2.Cx) (sc : Scope) (fb : Str → Bool) (pos : Pos), Sur C R xa N W X sc fb lvl → chkL R N sc fb l xs = true → l ≠ [] →
    PE X (.BoolOp .Or xs pos) (rdE X.K xa W (evOr C false l)) ∧ (chkTL l = true → PW X (.BoolOp .Or xs pos) (rdT X.K xa W (evOr C true l)))
  | [], _, _, _, _, _, _, _, _, h => absurd rfl h
  | _ :: _, [], _, _, _, _, _, _, h, _ => by cases h
  | a :: l, x :: xs, W, X, sc, fb, pos, G, h, _ => by
    have h' : (nst x && (valB a && chkE R N sc fb a x) && chkL R N sc fb l xs) = true := h
    simp only [Bool.and_eq_true] at h'
    obtain ⟨⟨hn, va, ha⟩, hl⟩ := h'
    obtain ⟨p, q⟩ := soundE a x W X sc fb G ha va
    cases l with
    | nil =>
      cases xs with
      | cons _ _ => cases hl
      | nil => exact ⟨s_or1 (m := false) p, fun ht => t_or1 (q (by simpa [chkTL] using ht))⟩
    | cons b l =>
      cases xs with
      | nil => cases hl
      | cons y xs =>
        obtain ⟨p2, q2⟩ := soundOr (b :: l) (y :: xs) W X sc fb pos G hl (by simp)
        refine ⟨s_orc p p2, fun ht => ?_⟩
        obtain ⟨t1, t2⟩ := Bool.and_eq_true_iff.mp (show (chkT a && chkTL (b :: l)) = true from ht)
        exact t_orc (q t1) (q2 t2)
theorem soundTs : ∀ (l : List E) (xs : List Expr) (X : L2.Cx) (sc : Scope) (fb : Str → Bool), Sur C R xa N W0 X sc fb lvl → chkTs R N sc fb l xs = true → PTs X xs (rdTs C X.K l)
  | [], [], X, sc, fb, G, _ => ts_nil
  | [a], [x], X, sc, fb, G, h => by
    have h' : (valB a && (chkT a && chkE R N sc fb a x)) = true := h
    simp only [Bool.and_eq_true] at h'
    exact ts_one ((soundE a x W0 X sc fb G h'.2.2 h'.1).2 h'.2.1)
  | [], _ :: _, X, sc, fb, G, h => by cases h
  | [_], [], X, sc, fb, G, h => by cases h
  | [_], _ :: _ :: _, X, sc, fb, G, h => by cases h
  | _ :: _ :: _, [], X, sc, fb, G, h => by cases h
  | _ :: _ :: _, [_], X, sc, fb, G, h => by cases h
  | _ :: _ :: _, _ :: _ :: _, X, sc, fb, G, h => by cases h
end
end
end EvS

set_option Elab.async false
set_option linter.all false
set_option maxHeartbeats 4000000
/-! PyEvD: statements: the check, what is wanted behind one. -/
namespace EvS
open PySem PySem.Spec PyProof.Rows L2 Ev

/-! ### the check -/
def isFun (sc : Scope) : Bool := match sc.kind with
  | .function => true
  | _ => false
/-- a comprehension that is stored at a local name -/
def lcSame (sc scope : Scope) (x : Str) (px pos : Pos) : Bool := px.line == pos.line && (!(scope.names.any fun (n, k) => n == x && (k == .local || k == .cell)))
def asgB (sc : Scope) (x : Str) (px : Pos) : Expr → Bool
  | .ListComp _ [⟨_, _, _, 0⟩] scope pos => isFun sc && decide (sc.names.lookup x = some .local)
  | e => nolc e
def locB (sc : Scope) (x : Str) : Bool := decide (sc.names.lookup x = some .local)
def foldB (vs : List Expr) : Bool := vs.all (foldedForSure 8)
def consB (vs : List Expr) : Bool := vs.all (constantsAlone 8)
/-- a value at a tuple of targets that is not swapped -/
def tupB (es : List Expr) : Expr → Bool
  | .Tuple vs _ _ => foldB vs || !(es.length == 2 || es.length == 3)
  | _ => true
def isAug : AOp → Bool
  | .add | .sub => true
  | _ => false
section
variable (R : Ren) (N : List Str) (sc : Scope) (fb : Str → Bool)
def chkPar (ps : List Pat) (l : List E) (x : Stmt) : Bool := match ps, x with
  | [.n i, .n j], .Assign [.Tuple [.Name x px, .Name y py] _ _] (.Tuple [ea, eb] _ _) _ =>
      (decide (N[i]? = some x) && decide (N[j]? = some y) && decide (i ≠ j) && decide (x ≠ y)) && ((locB sc x && locB sc y && isFun sc && py.line == px.line) && (!foldB [ea, eb] && !consB [ea, eb] && chkL R N sc fb l [ea, eb]))
  | [.n i, .n j, .n m], .Assign [.Tuple [.Name x px, .Name y py, .Name z pz] _ _] (.Tuple [ea, eb, ec] _ _) _ =>
      (decide (N[i]? = some x) && decide (N[j]? = some y) && decide (N[m]? = some z) && decide (i ≠ j) && decide (i ≠ m) && decide (j ≠ m) && decide (x ≠ y) && decide (x ≠ z) && decide (y ≠ z)) &&
      ((locB sc x && locB sc y && locB sc z && isFun sc && py.line == px.line && pz.line == px.line) && (!foldB [ea, eb, ec] && !consB [ea, eb, ec] && chkL R N sc fb l [ea, eb, ec]))
  | _, _ => false
mutual
def chkS : Sm → Stmt → Bool
  | .asg (.n i) a, .Assign [.Name x p] e pos => chkP N sc fb (.n i) (.Name x p) && (valB a && (chkE R N sc fb a e && asgB sc x p e))
  | .asg (.t ps) a, .Assign [.Tuple es k p] e pos => chkP N sc fb (.t ps) (.Tuple es k p) && (valB a && (chkE R N sc fb a e && tupB es e))
  | .par ps l, x => chkPar R N sc fb ps l x
  | .setix i k a, .Assign [.Subscript o ie _] e _ => nameB N sc i o && (nosl ie && (valB k && (chkE R N sc fb k ie && (valB a && chkE R N sc fb a e))))
  | .app i a, .Expr (.Call (.Attribute x nm apos) [y] [] cpos) _ => decide (nm = "append") && (nameB N sc i x && (decide (apos.endLine = cpos.line) && (nst y && (valB a && chkE R N sc fb a y))))
  | .aug i o a, .AugAssign (.Name x p) op e _ => decide (op = aop o) && (isAug o && (chkP N sc fb (.n i) (.Name x p) && (valB a && chkE R N sc fb a e)))
  | .ex a, .Expr e _ => nolc e && (valB a && chkE R N sc fb a e)
  | .ret a, .Return (some e) _ => valB a && chkE R N sc fb a e
  | .retn, .Return none _ => true
  | .iff t a b, .If c x y _ => (chkT t && (valB t && chkE R N sc fb t c)) && (chkSs a x && chkSs b y)
  | .whl t b, .While c x [] _ => (chkT t && (valB t && chkE R N sc fb t c)) && chkSs b x
  | .fr q it b, .For tg iter x [] _ => (noset iter && (itOk tg it && chkE R N sc fb it iter)) && (chkP N sc fb q tg && chkSs b x)
  | .brk, .Break _ => true
  | .cnt, .Continue _ => true
  | .pass, .Pass _ => true
  | .pass, .Expr (.Constant (.str _) _ _) _ => true
  | .never, _ => true
  | _, _ => false
def chkSs : List Sm → List Stmt → Bool
  | [], [] => true
  | s :: r, x :: xs => chkS s x && chkSs r xs
  | _, _ => false
end
end

/-! ### behind a statement -/
/-- the slots nk are as they were -/
def Kp (nk : Nat → Bool) (σ σ' : SS) : Prop := σ'.length = σ.length ∧ ∀ j, nk j = true → σ'[j]? = σ[j]?
theorem Kp.rfl {nk : Nat → Bool} {σ : SS} : Kp nk σ σ := ⟨Eq.refl _, fun _ _ => Eq.refl _⟩
theorem Kp.trans {nk : Nat → Bool} {σ σ' σ2 : SS} (h : Kp nk σ σ') (k : Kp nk σ' σ2) : Kp nk σ σ2 := ⟨k.1.trans h.1, fun j hj => (k.2 j hj).trans (h.2 j hj)⟩
theorem Kp.set {nk : Nat → Bool} {σ : SS} {i : Nat} {v : Option V} (h : (!nk i) = true) : Kp nk σ (σ.set i v) := ⟨by simp, fun j hj => by
  rw [List.getElem?_set_ne]
  rintro rfl
  rw [hj] at h; cases h⟩
section
variable (K : Fr) (xa : Nat → Addr) (W : WX) (nk : Nat → Bool)
def PostS (σ : SS) (S T : Hp) (r : Res Out) (D : Ends) : Prop := match r with
  | .ok (.nx e) => ∀ σ' S' H', Gr S S' → StO K σ' e S' T H' → Kp nk σ σ' → D.nx σ' H'
  | .ok (.ct e) => ∀ σ' S' H', Gr S S' → StO K σ' e S' T H' → Kp nk σ σ' → D.ct σ' H'
  | .ok (.bk e) => ∀ σ' S' H', Gr S S' → StO K σ' e S' T H' → Kp nk σ σ' → D.bk σ' H'
  | .ok (.rt r e) => ∀ σ' S' H' v, Gr S S' → StO K σ' e S' T H' → Kp nk σ σ' → RvOk K σ' e S' T H' v r → D.rt v H'
  | .err x e => ∀ σ' S' H', Gr S S' → StO K σ' e S' T H' → Kp nk σ σ' → W (.ref (xa x)) none σ' H'
  | .stuck => False
def tS (F : SEnv → Res Out) : TS := fun D σ H => ∃ e S T, StO K σ e S T H ∧ PostS K xa W nk σ S T (F e) D
end
section
variable {K : Fr} {xa : Nat → Addr} {W : WX} {nk : Nat → Bool} {σ σ1 : SS} {e : SEnv} {S S1 S' T T0 T' H H' : Hp} {D D' : Ends}
theorem PostS.step {r : Res Out} (h : PostS K xa W nk σ S T r D) (g : Gr S S1) (k : Kp nk σ σ1) : PostS K xa W nk σ1 S1 T r D := by
  cases r with
  | ok o => cases o with
    | nx e => exact fun σ' S' H' g' I k' => h σ' S' H' (g.trans g') I (k.trans k')
    | ct e => exact fun σ' S' H' g' I k' => h σ' S' H' (g.trans g') I (k.trans k')
    | bk e => exact fun σ' S' H' g' I k' => h σ' S' H' (g.trans g') I (k.trans k')
    | rt r e => exact fun σ' S' H' v g' I k' rv => h σ' S' H' v (g.trans g') I (k.trans k') rv
  | err x e => exact fun σ' S' H' g' I k' => h σ' S' H' (g.trans g') I (k.trans k')
  | stuck => exact h
theorem ps_in {r : Res (Sl × SEnv)} {f : Sl × SEnv → Res Out} {Q : VK} (h : PostS K xa W nk σ S T (r.bind f) D)
    (w : ∀ a e' S' H' v, Gr S S' → StO K σ e' S' T H' → RvOk K σ e' S' T H' v a → PostS K xa W nk σ S' T (f (a, e')) D → Q v H') : PQ K xa W σ S T r Q := by
  cases r with
  | ok p => exact fun S' H' g I v rv => w _ _ _ _ v g I rv (PostS.step (S := S) h g Kp.rfl)
  | err x e => exact fun S' H' g I => h σ S' H' g I Kp.rfl
  | stuck => exact h
theorem ps_inB {r : Res (Sl × SEnv)} {f : Sl × SEnv → Res Out} {Q : Bool → Hp → Prop} (h : PostS K xa W nk σ S T (r.bind f) D)
    (w : ∀ a e' S' H', Gr S S' → StO K σ e' S' T H' → PostS K xa W nk σ S' T (f (a, e')) D → ∃ b, truth (frz a) = some b ∧ Q b H') : PB2 K xa W σ S T r Q := by
  cases r with
  | ok p => exact fun S' H' g I => w _ _ _ _ g I (PostS.step (S := S) h g Kp.rfl)
  | err x e => exact fun S' H' g I => h σ S' H' g I Kp.rfl
  | stuck => exact h
theorem PostS.bindA0 {r : Res (AV × SEnv)} {f : AV × SEnv → Res Out} (h : PostS K xa W nk σ S T0 (r.bind f) D) (t : Gr T0 T) :
    PostA K xa W σ S T r fun v a e S' T' H' => PostS K xa W nk σ S' T0 (f (a, e)) D := by
  cases r with
  | ok p => exact fun v S' T' H' g A I => PostS.step (S := S) h g Kp.rfl
  | err x e => exact fun S' H' g I => h σ S' H' g (I.less t) Kp.rfl
  | stuck => exact h
theorem PostS.bindL0 {r : Res (List AV × SEnv)} {f : List AV × SEnv → Res Out} (h : PostS K xa W nk σ S T0 (r.bind f) D) (t : Gr T0 T) :
    PostL K xa W σ S T r fun vs as e S' T' H' => PostS K xa W nk σ S' T0 (f (as, e)) D := by
  cases r with
  | ok p => exact fun v S' T' H' g A I => PostS.step (S := S) h g Kp.rfl
  | err x e => exact fun S' H' g I => h σ S' H' g (I.less t) Kp.rfl
  | stuck => exact h
theorem PostS.at {α : Type} {r : Res α} {f : α → Res Out} (h : PostS K xa W nk σ S T (r.bind f) D) (ne : ∀ x e, r ≠ .err x e) : ∃ a, r = .ok a ∧ PostS K xa W nk σ S T (f a) D := by
  cases r with
  | ok a => exact ⟨a, rfl, h⟩
  | err x e => exact absurd rfl (ne x e)
  | stuck => exact h.elim
theorem PS.weak {X : L2.Cx} {st : Stmt} {t t' : TS} (h : PS X st t) (w : ∀ D σ H, t' D σ H → t D σ H) : PS X st t' := ⟨fun pins s σ H D I q => h.run pins s σ H D I (w D σ H q)⟩
theorem PSs.weak {X : L2.Cx} {st : List Stmt} {t t' : TS} (h : PSs X st t) (w : ∀ D σ H, t' D σ H → t D σ H) : PSs X st t' := ⟨fun pins s σ H D I q => h.run pins s σ H D I (w D σ H q)⟩
/-- what follows a statement -/
theorem PostS.bindO {r : Res Out} {f : Out → Res Out} (h : PostS K xa W nk σ S T (r.bind f) D)
    (hn : ∀ e σ' S' H', Gr S S' → StO K σ' e S' T H' → Kp nk σ σ' → PostS K xa W nk σ' S' T (f (.nx e)) D → D'.nx σ' H')
    (hc : ∀ e σ' S' H', Gr S S' → StO K σ' e S' T H' → Kp nk σ σ' → PostS K xa W nk σ' S' T (f (.ct e)) D → D'.ct σ' H')
    (hb : ∀ e σ' S' H', Gr S S' → StO K σ' e S' T H' → Kp nk σ σ' → PostS K xa W nk σ' S' T (f (.bk e)) D → D'.bk σ' H')
    (hr : ∀ r e σ' S' H' v, Gr S S' → StO K σ' e S' T H' → Kp nk σ σ' → RvOk K σ' e S' T H' v r → PostS K xa W nk σ' S' T (f (.rt r e)) D → D'.rt v H') : PostS K xa W nk σ S T r D' := by
  cases r with
  | ok o =>
    have h' : PostS K xa W nk σ S T (f o) D := h
    cases o with
    | nx e => exact fun σ' S' H' g I k => hn e σ' S' H' g I k (h'.step g k)
    | ct e => exact fun σ' S' H' g I k => hc e σ' S' H' g I k (h'.step g k)
    | bk e => exact fun σ' S' H' g I k => hb e σ' S' H' g I k (h'.step g k)
    | rt r e => exact fun σ' S' H' v g I k rv => hr r e σ' S' H' v g I k rv (h'.step g k)
  | err x e => exact h
  | stuck => exact h
/-- one of the values for `a, b = ..` -/
theorem take1 {s : Sl} {v : V} {vs : List V} {as : List AV} (I : StO K σ e S T' H) (A : AVs K σ S T T' (v :: vs) (avOf s :: as)) : ∃ T2, StO K σ e S T2 H ∧ RvOk K σ e S T2 H v s ∧ AVs K σ S T T2 vs as := by
  cases s with
  | d x =>
    cases A with
    | d k r => exact ⟨T', I, k, r⟩
  | o l =>
    cases A with
    | @o _ _ a ws _ _ _ h1 h2 r =>
      obtain ⟨T2, e1, e2, r2⟩ := r.pull h1
      subst e1
      have hH : H a = some (.lst ws) := I.t a _ upd_same
      have hS : S a = none := by
        cases q : S a with
        | none => rfl
        | some u => have := I.dj a u q; rw [upd_same] at this; cases this
      refine ⟨T2, I.less (gr_upd e2), ⟨a, ws, rfl, hH, h2, hS, e2, fun i l' q z => ?_⟩, r2⟩
      obtain ⟨b, us, q1, q2, q3, q4, q5⟩ := I.sl i _ q
      rw [z] at q1; cases q1
      rw [upd_same] at q5; cases q5
theorem avs_other {σ' : SS} : ∀ {T T' : Hp} {vs : List V} {sls : List Sl}, AVs K σ S T T' vs (sls.map avOf) → AVs K σ' S T T' vs (sls.map avOf)
  | _, _, _, [], A => by cases A; exact .nil
  | _, _, _, .d x :: r, A => by
    cases A with
    | d k q => exact .d k (avs_other q)
  | _, _, _, .o l :: r, A => by
    cases A with
    | o h1 h2 q => exact .o h1 h2 (avs_other q)
def setAll : SS → List Nat → List V → SS
  | σ, i :: is, v :: vs => setAll (σ.set i (some v)) is vs
  | σ, _, _ => σ
theorem stores_ok : ∀ (is : List Nat) (sls : List Sl) (vs : List V) (σ : SS) (e e1 : SEnv) (T' : Hp), StO K σ e S T' H → AVs K σ S T T' vs (sls.map avOf) → bindSs nk (is.map .n) sls e = .ok e1 →
    StO K (setAll σ is vs) e1 S T H ∧ Kp nk σ (setAll σ is vs) ∧ vs.length = is.length
  | [], [], vs, σ, e, e1, T', I, A, h => by
    cases A
    have h' : Res.ok e = Res.ok e1 := h
    cases h'
    exact ⟨I, Kp.rfl, rfl⟩
  | i :: is, s :: sls, vs, σ, e, e1, T', I, A, h => by
    have h' : (bindS nk (.n i) s e).bind (fun e1 => bindSs nk (is.map .n) sls e1) = .ok e1 := h
    obtain ⟨e2, h1, h2⟩ := bindOk h'
    have h1' : grd (!nk i) (.ok (setE e i (some s))) = .ok e2 := h1
    obtain ⟨hk, h1'⟩ := grdOk h1'
    cases h1'
    cases vs with
    | nil => cases s <;> cases A
    | cons v vs =>
      obtain ⟨T2, I2, rv, A2⟩ := take1 I A
      obtain ⟨J, k, hl⟩ := stores_ok is sls vs _ _ e1 T2 (I2.store rv) (avs_other A2) h2
      exact ⟨J, (Kp.set hk).trans k, by simp [hl]⟩
  | [], _ :: _, _, _, _, _, _, _, _, h => by cases h
  | _ :: _, [], _, _, _, _, _, _, _, h => by cases h
end
end EvS

set_option Elab.async false
set_option linter.all false
set_option maxHeartbeats 4000000
/-! PyEvY: statements: the rules. -/
namespace EvS
open PySem PySem.Spec PyProof.Rows L2 Ev

theorem sw_tup {e : Expr} {es : List Expr} {k : Nat} {p : Pos} {l : Nat} {env : Env} : swapsWith e (some (.Tuple es k p)) l env = pure false := by cases e <;> rfl
theorem sw_sub {e a b : Expr} {p : Pos} {l : Nat} {env : Env} : swapsWith e (some (.Subscript a b p)) l env = pure false := by cases e <;> rfl
theorem sw_nolc {e : Expr} {o : Option Expr} {l : Nat} {env : Env} (h : nolc e = true) : swapsWith e o l env = pure false := by cases e <;> first | rfl | cases h
theorem stores_none {es : List Expr} {k : Nat} {p : Pos} {e : Expr} {env : Env} (h : tupB es e = true) : swappedStores [.Tuple es k p] e env = pure none := by
  cases e with
  | Tuple vs k2 p2 =>
    have h' : (vs.all (foldedForSure 8) || !(es.length == 2 || es.length == 3)) = true := h
    cases hf : vs.all (foldedForSure 8) with
    | true =>
      unfold swappedStores
      simp only [hf]
      repeat' split
      all_goals first | rfl | simp_all
    | false =>
      rw [hf, Bool.false_or] at h'
      unfold swappedStores
      simp only [h', Bool.true_or, if_true]
  | _ => rfl
mutual
theorem bindP_ne {nk : Nat → Bool} : ∀ (p : Pat) (d : D) (e : SEnv) {x : Nat} {e' : SEnv}, bindP nk p d e = .err x e' → False
  | .n i, d, e, x, e', h => by
    have h' : grd (!nk i) (Res.ok (setE e i (some (.d d)))) = .err x e' := h
    cases z : (!nk i) <;> rw [z] at h' <;> cases h'
  | .t ps, d, e, x, e', h => by
    have h' : (match seqOf d with
      | some xs => bindPs nk ps xs e
      | none => .stuck) = .err x e' := h
    cases z : seqOf d with
    | none => rw [z] at h'; cases h'
    | some xs => rw [z] at h'; exact bindPs_ne ps xs e h'
theorem bindPs_ne {nk : Nat → Bool} : ∀ (ps : List Pat) (ds : List D) (e : SEnv) {x : Nat} {e' : SEnv}, bindPs nk ps ds e = .err x e' → False
  | [], [], e, x, e', h => by cases h
  | p :: ps, d :: ds, e, x, e', h => by
    have h' : (bindP nk p d e).bind (fun e1 => bindPs nk ps ds e1) = .err x e' := h
    cases z : bindP nk p d e with
    | ok e1 => rw [z] at h'; exact bindPs_ne ps ds e1 h'
    | err y e2 => exact bindP_ne p d e z
    | stuck => rw [z] at h'; cases h'
  | [], _ :: _, _, _, _, h => by cases h
  | _ :: _, [], _, _, _, h => by cases h
end
theorem rdP_ne : ∀ {as : List AV} {e : SEnv} (x : Nat) (e' : SEnv), rdP e as ≠ .err x e'
  | [], _, _, _ => fun h => nomatch h
  | .d _ :: r, e, x, e' => fun h => by
    have h' : ((rdP e r).bind fun p => Res.ok (_ :: p.1, p.2)) = .err x e' := h
    cases z : rdP e r with
    | ok p => rw [z] at h'; cases h'
    | err y e2 => exact rdP_ne y e2 z
    | stuck => rw [z] at h'; cases h'
  | .o _ :: r, e, x, e' => fun h => by
    have h' : ((rdP e r).bind fun p => Res.ok (_ :: p.1, p.2)) = .err x e' := h
    cases z : rdP e r with
    | ok p => rw [z] at h'; cases h'
    | err y e2 => exact rdP_ne y e2 z
    | stuck => rw [z] at h'; cases h'
  | .r i :: r, e, x, e' => fun h => by
    have h' : (match getE e i with
      | some (.d x) => (rdP e r).bind fun p => Res.ok (Sl.d x :: p.1, p.2)
      | some (.o l) => (rdP (setE e i (some (.d (.list l)))) r).bind fun p => .ok (Sl.d (.list l) :: p.1, p.2)
      | none => .stuck) = .err x e' := h
    cases q : getE e i with
    | none => rw [q] at h'; cases h'
    | some s =>
      rw [q] at h'
      cases s with
      | d y =>
        have h2 : ((rdP e r).bind fun p => Res.ok (Sl.d y :: p.1, p.2)) = .err x e' := h'
        cases z : rdP e r with
        | ok p => rw [z] at h2; cases h2
        | err y e2 => exact rdP_ne y e2 z
        | stuck => rw [z] at h2; cases h2
      | o l =>
        have h2 : ((rdP (setE e i (some (.d (.list l)))) r).bind fun p => Res.ok (Sl.d (.list l) :: p.1, p.2)) = .err x e' := h'
        cases z : rdP (setE e i (some (.d (.list l)))) r with
        | ok p => rw [z] at h2; cases h2
        | err y e2 => exact rdP_ne y e2 z
        | stuck => rw [z] at h2; cases h2
theorem bindSs_ne {nk : Nat → Bool} : ∀ {is : List Nat} {sls : List Sl} {e : SEnv} (x : Nat) (e' : SEnv), bindSs nk (is.map .n) sls e ≠ .err x e'
  | [], [], _, _, _ => fun h => nomatch h
  | i :: is, s :: sls, e, x, e' => fun h => by
    have h' : (grd (!nk i) (Res.ok (setE e i (some s)))).bind (fun e1 => bindSs nk (is.map .n) sls e1) = .err x e' := h
    cases z : (!nk i) with
    | false => rw [z] at h'; cases h'
    | true => rw [z] at h'; exact bindSs_ne x e' h'
  | [], _ :: _, _, _, _ => fun h => nomatch h
  | _ :: _, [], _, _, _ => fun h => nomatch h
section
variable {C : Wx} {R : Ren} {xa : Nat → Addr} {N : List Str} {W : WX} {X : L2.Cx} {sc : Scope} {fb : Str → Bool} {lvl : Nat} {np : Nat} {nk : Nat → Bool}
/-- what a statement's rule says -/
def SOk (C : Wx) (xa : Nat → Addr) (W : WX) (X : L2.Cx) (np : Nat) (nk : Nat → Bool) (s : Sm) (x : Stmt) : Prop := PS X x (tS X.K xa W nk (evS C np nk s))
theorem pname (G : Sur C R xa N W X sc fb lvl) {i : Nat} {x : Str} {p : Pos} (h : chkP N sc fb (.n i) (.Name x p) = true) : X.N[i]? = some x ∧ L2.Loc X.env.scope x ∧ (X.fn x = true ∨ X.env.scope.names.lookup x = some .local) := by
  have h' : (decide (N[i]? = some x) && match sc.names.lookup x with
    | some .local => true
    | some .cell => fb x
    | _ => false) = true := h
  simp only [Bool.and_eq_true, decide_eq_true_eq] at h'
  obtain ⟨h1, h2⟩ := h'
  refine ⟨by rw [G.hN]; exact h1, ?_⟩
  unfold L2.Loc
  rw [G.hsc]
  cases z : sc.names.lookup x with
  | none => rw [z] at h2; cases h2
  | some k =>
    rw [z] at h2
    cases k with
    | «local» => exact ⟨.inl rfl, .inr rfl⟩
    | cell => exact ⟨.inr rfl, .inl (G.fn x h2)⟩
    | _ => cases h2
theorem bind_name {i : Nat} {σ : SS} {e : SEnv} {S T H : Hp} {K : Fr} {a : Sl} {v : V} {D : Ends} (I : StO K σ e S T H) (rv : RvOk K σ e S T H v a) (P : PostS K xa W nk σ S T ((bindS nk (.n i) a e).bind fun e1 => .ok (.nx e1)) D) : D.nx (σ.set i (some v)) H := by
  have P' : PostS K xa W nk σ S T ((grd (!nk i) (.ok (setE e i (some a)))).bind fun e1 => .ok (.nx e1)) D := P
  cases z : (!nk i) with
  | false => rw [z] at P'; exact P'.elim
  | true => rw [z] at P'; exact P' _ S H (Gr.refl _) (I.store rv) (Kp.set z)
theorem y_asg (G : Sur C R xa N W X sc fb lvl) {i : Nat} {a : E} {x : Str} {p pos : Pos} {e : Expr} (hi : chkP N sc fb (.n i) (.Name x p) = true) (he : PE X e (rdE X.K xa W (evE C false a))) (hs : swapsWith e (some (.Name x p)) pos.line X.env = pure false) :
    SOk C xa W X np nk (.asg (.n i) a) (.Assign [.Name x p] e pos) := by
  obtain ⟨h1, h2, h3⟩ := pname G hi
  exact PS.weak (ps_set G.nd h1 h2 he hs h3) fun D σ H ⟨e, S, T, I, P⟩ => ⟨e, S, T, I, ps_in P fun a e' S' H' v g I' rv P' => bind_name I' rv P'⟩
theorem y_asgLc (G : Sur C R xa N W X sc fb lvl) {i : Nat} {elt it : E} {q : Pat} {ifs : List E} {y tg iter : Expr} {is : List Expr} {scope : Scope} {own : List (Str × Nat)} {x : Str} {p lp pos : Pos} (hi : chkP N sc fb (.n i) (.Name x p) = true)
    (hk : isFun sc = true) (hl : sc.names.lookup x = some .local) (hsame : lcSame sc scope x p lp = true) (Z : LcParts C xa W X elt it q ifs y tg iter is scope own) :
    SOk C xa W X np nk (.asg (.n i) (.lc elt q it ifs)) (.Assign [.Name x p] (.ListComp y [⟨tg, iter, is, 0⟩] scope lp) pos) := by
  obtain ⟨h1, h2, h3⟩ := pname G hi
  have hl' : X.env.scope.names.lookup x = some .local := by rw [G.hsc]; exact hl
  obtain ⟨z1, z2⟩ := Bool.and_eq_true_iff.mp hsame
  have hk' : X.env.scope.kind = .function := by
    rw [G.hsc]
    unfold isFun at hk
    split at hk
    · assumption
    · cases hk
  have hsw : swapsWith (.ListComp y [⟨tg, iter, is, 0⟩] scope lp) (some (.Name x p)) pos.line X.env = pure true := sw_true hk' hl' z1 (by simpa using z2)
  exact PS.weak (ps_setLc G.calm G.nd h1 hl' hsw Z.hi Z.ok Z.hg Z.ht Z.he Z.set) fun D σ H ⟨e, S, T, I, P⟩ =>
    lc_rd Z.hown (Q := fun v H1 => D.nx (σ.set i (some v)) H1) ⟨e, S, T, I, ps_in P fun a e' S' H' v g I' rv P' => bind_name I' rv P'⟩
theorem lc_noSwap {x : Str} {p lp : Pos} {y : Expr} {gs : List Comprehension} {scope : Scope} {l : Nat} {env : Env} (h : lcSame sc scope x p lp = false) : swapsWith (.ListComp y gs scope lp) (some (.Name x p)) l env = pure false := by
  unfold swapsWith
  simp only [Expr.pos]
  have : (env.blockKind == .function && env.kindOf x == some .local && p.line == lp.line && !(scope.names.any fun (n, k) => n == x && (k == .local || k == .cell))) = false := by
    unfold lcSame at h
    cases z1 : (p.line == lp.line)
    · simp
    · rw [z1] at h
      simp only [Bool.true_and] at h
      rw [h]; simp
  rw [this]
theorem frz_rv {K : Fr} {σ : SS} {e : SEnv} {S T H : Hp} {p : Pat} {ps : List Pat} {a : Sl} {v : V} {D : Ends} (I : StO K σ e S T H) (rv : RvOk K σ e S T H v a) (P : PostS K xa W nk σ S T ((bindP nk (.t ps) (frz a) e).bind fun e1 => .ok (.nx e1)) D) :
    gPat K nk (.t ps) v σ H D.nx := by
  obtain ⟨S2, g2, I2, dq⟩ := I.freezeRv rv
  cases z : bindP nk (.t ps) (frz a) e with
  | stuck => rw [z] at P; exact P.elim
  | err x e' => exact (bindP_ne _ _ _ z).elim
  | ok e1 =>
    rw [z] at P
    exact ⟨e, S2, T, _, e1, I2, dq, z, fun σ' I' k _ l => P σ' S2 H g2 I' ⟨l, k⟩⟩
theorem y_asgT (G : Sur C R xa N W X sc fb lvl) {ps : List Pat} {a : E} {es : List Expr} {k : Nat} {p pos : Pos} {e : Expr} (hp : chkP N sc fb (.t ps) (.Tuple es k p) = true) (he : PE X e (rdE X.K xa W (evE C false a))) (ht : tupB es e = true) :
    SOk C xa W X np nk (.asg (.t ps) a) (.Assign [.Tuple es k p] e pos) :=
  have hs : swapsWithSole [.Tuple es k p] e pos.line X.env = pure false := sw_tup (e := e) (es := es) (k := k) (p := p) (l := pos.line) (env := X.env)
  have hg : PG X (.Tuple es k p) (gPat X.K nk (.t ps)) := pg_pat (nk := nk) G.tgt (.t ps) (.Tuple es k p) hp
  PS.weak (ps_asg he hg hs (stores_none ht) rfl) fun D σ H ⟨e, S, T, I, P⟩ => ⟨e, S, T, I, ps_in P fun a e' S' H' v g I' rv P' => frz_rv (p := .t ps) I' rv P'⟩
theorem env_fun (G : Sur C R xa N W X sc fb lvl) (h : isFun sc = true) : X.env.blockKind = .function := by
  unfold Env.blockKind
  rw [G.hsc]
  unfold isFun at h
  split at h
  · rename_i q; rw [q]; rfl
  · cases h
theorem dups2 {x y : Str} (h : x ≠ y) : [x, y].eraseDups = [x, y] := by
  simp [List.eraseDups_cons, h, Ne.symm h]
theorem dups3 {x y z : Str} (h : x ≠ y) (h2 : x ≠ z) (h3 : y ≠ z) : [x, y, z].eraseDups = [x, y, z] := by
  simp [List.eraseDups_cons, h, h2, h3, Ne.symm h, Ne.symm h2, Ne.symm h3]
theorem swap2 {x y : Str} {px py pt pt2 : Pos} {kt k2 : Nat} {a b : Expr} {env : Env} (hk : env.blockKind = .function) (hx : env.kindOf x = some .local) (hy : env.kindOf y = some .local) (hl : (py.line == px.line) = true) (hne : x ≠ y)
    (ha : nst a = true) (hb : nst b = true) (hf : foldB [a, b] = false) (hc : consB [a, b] = false) : swappedStores [.Tuple [.Name x px, .Name y py] kt pt] (.Tuple [a, b] k2 pt2) env = pure (some [x, y]) := by
  have hf' : [a, b].all (foldedForSure 8) = false := hf
  have hc' : [a, b].all (constantsAlone 8) = false := hc
  have hl' : py.line = px.line := by simpa using hl
  unfold swappedStores
  simp [hk, hf', hc', hx, hy, hl', Expr.pos, dups2 hne]
  intro h
  exfalso
  rcases h with h | h
  · cases a <;> first | exact absurd h Bool.false_ne_true | exact absurd ha Bool.false_ne_true
  · cases b <;> first | exact absurd h Bool.false_ne_true | exact absurd hb Bool.false_ne_true
theorem swap3 {x y z : Str} {px py pz pt pt2 : Pos} {kt k2 : Nat} {a b c : Expr} {env : Env} (hk : env.blockKind = .function) (hx : env.kindOf x = some .local) (hy : env.kindOf y = some .local) (hz : env.kindOf z = some .local) (hl : (py.line == px.line) = true) (hl2 : (pz.line == px.line) = true)
    (hxy : x ≠ y) (hxz : x ≠ z) (hyz : y ≠ z) (ha : nst a = true) (hb : nst b = true) (hcc : nst c = true) (hf : foldB [a, b, c] = false) (hc : consB [a, b, c] = false) :
    swappedStores [.Tuple [.Name x px, .Name y py, .Name z pz] kt pt] (.Tuple [a, b, c] k2 pt2) env = pure (some [x, y, z]) := by
  have hf' : [a, b, c].all (foldedForSure 8) = false := hf
  have hc' : [a, b, c].all (constantsAlone 8) = false := hc
  have hl' : py.line = px.line := by simpa using hl
  have hl2' : pz.line = px.line := by simpa using hl2
  unfold swappedStores
  simp [hk, hf', hc', hx, hy, hz, hl', hl2', Expr.pos, dups3 hxy hxz hyz]
  intro h
  exfalso
  rcases h with h | h | h
  · cases a <;> first | exact absurd h Bool.false_ne_true | exact absurd ha Bool.false_ne_true
  · cases b <;> first | exact absurd h Bool.false_ne_true | exact absurd hb Bool.false_ne_true
  · cases c <;> first | exact absurd h Bool.false_ne_true | exact absurd hcc Bool.false_ne_true
theorem y_par (G : Sur C R xa N W X sc fb lvl) {i j : Nat} {l : List E} {x y : Str} {px py pt pt2 pos : Pos} {kt k2 : Nat} {a b : Expr} (hi : N[i]? = some x) (hj : N[j]? = some y) (hij : i ≠ j) (hxy : x ≠ y) (hx : sc.names.lookup x = some .local) (hy : sc.names.lookup y = some .local)
    (hk : isFun sc = true) (hl : (py.line == px.line) = true) (ha : nst a = true) (hb : nst b = true) (hf : foldB [a, b] = false) (hc : consB [a, b] = false) (hp : PA X [a, b] (argsT X.K xa W (evE C false) l)) :
    SOk C xa W X np nk (.par [.n i, .n j] l) (.Assign [.Tuple [.Name x px, .Name y py] kt pt] (.Tuple [a, b] k2 pt2) pos) := by
  have hx' : X.env.scope.names.lookup x = some .local := by rw [G.hsc]; exact hx
  have hy' : X.env.scope.names.lookup y = some .local := by rw [G.hsc]; exact hy
  refine PS.weak (ps_par G.calm G.nd (by rw [G.hN]; exact hi) (by rw [G.hN]; exact hj) hij hx' hy' hp (swap2 (env_fun G hk) hx' hy' hl hxy ha hb hf hc)) fun D σ H ⟨e, S, T, I, P⟩ => ?_
  have P' : PostS X.K xa W nk σ S T ((evA C l e).bind fun p => (rdP p.2 p.1).bind fun xs => (bindSs nk ([i, j].map .n) xs.1 xs.2).bind fun e1 => .ok (.nx e1)) D := P
  refine args_ok I (PostS.bindL0 P' (Gr.refl T)) fun vs as e1 S1 T1 H1 g1 A1 I1 h1 => ?_
  obtain ⟨⟨xs, e2⟩, z1, h2⟩ := PostS.at h1 rdP_ne
  obtain ⟨S2, g2, I2, A2⟩ := rdP_ok A1 I1 z1
  obtain ⟨e3, z2, h3⟩ := PostS.at h2 bindSs_ne
  obtain ⟨J, k, hlen⟩ := stores_ok [i, j] xs vs σ e2 e3 T1 I2 A2 z2
  obtain ⟨v, w, rfl⟩ := len_two hlen
  exact ⟨v, w, rfl, h3 _ S2 H1 g2 J k⟩
theorem len_three {α : Type} : ∀ {l : List α}, l.length = 3 → ∃ x y z, l = [x, y, z]
  | [x, y, z], _ => ⟨x, y, z, rfl⟩
  | [], h => by cases h
  | [_], h => by cases h
  | [_, _], h => by cases h
  | _ :: _ :: _ :: _ :: _, h => by simp at h
theorem y_par3 (G : Sur C R xa N W X sc fb lvl) {i j m : Nat} {l : List E} {x y z : Str} {px py pz pt pt2 pos : Pos} {kt k2 : Nat} {a b c : Expr} (hi : N[i]? = some x) (hj : N[j]? = some y) (hm : N[m]? = some z) (hij : i ≠ j) (him : i ≠ m) (hjm : j ≠ m) (hxy : x ≠ y) (hxz : x ≠ z) (hyz : y ≠ z)
    (hx : sc.names.lookup x = some .local) (hy : sc.names.lookup y = some .local) (hz : sc.names.lookup z = some .local) (hk : isFun sc = true) (hl : (py.line == px.line) = true) (hl2 : (pz.line == px.line) = true) (ha : nst a = true) (hb : nst b = true) (hcc : nst c = true)
    (hf : foldB [a, b, c] = false) (hc : consB [a, b, c] = false) (hp : PA X [a, b, c] (argsT X.K xa W (evE C false) l)) :
    SOk C xa W X np nk (.par [.n i, .n j, .n m] l) (.Assign [.Tuple [.Name x px, .Name y py, .Name z pz] kt pt] (.Tuple [a, b, c] k2 pt2) pos) := by
  have hx' : X.env.scope.names.lookup x = some .local := by rw [G.hsc]; exact hx
  have hy' : X.env.scope.names.lookup y = some .local := by rw [G.hsc]; exact hy
  have hz' : X.env.scope.names.lookup z = some .local := by rw [G.hsc]; exact hz
  refine PS.weak (ps_par3 G.calm G.nd (by rw [G.hN]; exact hi) (by rw [G.hN]; exact hj) (by rw [G.hN]; exact hm) hij him hjm hx' hy' hz' hp (swap3 (env_fun G hk) hx' hy' hz' hl hl2 hxy hxz hyz ha hb hcc hf hc)) fun D σ H ⟨e, S, T, I, P⟩ => ?_
  have P' : PostS X.K xa W nk σ S T ((evA C l e).bind fun p => (rdP p.2 p.1).bind fun xs => (bindSs nk ([i, j, m].map .n) xs.1 xs.2).bind fun e1 => .ok (.nx e1)) D := P
  refine args_ok I (PostS.bindL0 P' (Gr.refl T)) fun vs as e1 S1 T1 H1 g1 A1 I1 h1 => ?_
  obtain ⟨⟨xs, e2⟩, z1, h2⟩ := PostS.at h1 rdP_ne
  obtain ⟨S2, g2, I2, A2⟩ := rdP_ok A1 I1 z1
  obtain ⟨e3, z2, h3⟩ := PostS.at h2 bindSs_ne
  obtain ⟨J, k, hlen⟩ := stores_ok [i, j, m] xs vs σ e2 e3 T1 I2 A2 z2
  obtain ⟨u, v, w, rfl⟩ := len_three hlen
  exact ⟨u, v, w, rfl, h3 _ S2 H1 g2 J k⟩
theorem y_ret (G : Sur C R xa N W X sc fb lvl) {a : E} {e : Expr} {pos : Pos} (hc : chkE R N sc fb a e = true) (he : PE X e (rdE X.K xa W (evE C false a))) : SOk C xa W X np nk (.ret a) (.Return (some e) pos) := by
  by_cases hv : ∃ i, a = .v i
  · obtain ⟨i, rfl⟩ := hv
    refine PS.weak (ps_ret (name_pe G hc)) fun D σ H ⟨e, S, T, I, P⟩ => ?_
    have P' : PostS X.K xa W nk σ S T ((match getE e i with
      | some (.o l) => match decide (i < np) with
        | true => evE C false (.v i) e
        | false => .ok (.o l, setE e i none)
      | _ => evE C false (.v i) e).bind fun r => .ok (.rt r.1 r.2)) D := P
    have ev : evE C false (.v i) e = match getE e i with
      | some (.d x) => .ok (.d x, e)
      | some (.o l) => .ok (.d (.list l), setE e i (some (.d (.list l))))
      | none => .stuck := rfl
    rw [ev] at P'
    cases z : getE e i with
    | none => rw [z] at P'; exact P'.elim
    | some s =>
      rw [z] at P'
      cases s with
      | d y =>
        obtain ⟨v, q1, q2⟩ := I.data z
        exact ⟨v, q1, P' σ S H v (Gr.refl _) I Kp.rfl q2⟩
      | o l =>
        cases zn : decide (i < np) with
        | true =>
          simp only [zn] at P'
          obtain ⟨S', a, vs, g, J, q1, q2, q3⟩ := I.freeze z
          exact ⟨_, q1, P' σ S' H _ g J Kp.rfl (.lst q2 q3)⟩
        | false =>
          simp only [zn] at P'
          obtain ⟨a, vs, q1, q2, q3, q4, q5⟩ := I.own z
          refine ⟨_, q1, P' σ S H (.ref a) (Gr.refl _) (I.forget i) Kp.rfl ⟨a, vs, rfl, q2, q3, q4, q5, fun j l' h hz => ?_⟩⟩
          rcases getE_set_cases h with ⟨_, k⟩ | ⟨hj, k⟩
          · cases k
          · exact hj (I.inj j i l' l k z (by rw [hz, join_of q1]))
  · have hr : ∀ e r, retV np a e r = r := fun e r => by cases a <;> first | rfl | exact absurd ⟨_, rfl⟩ hv
    refine PS.weak (ps_ret he) fun D σ H ⟨e, S, T, I, P⟩ => ⟨e, S, T, I, ?_⟩
    have P' : PostS X.K xa W nk σ S T ((retV np a e (evE C false a e)).bind fun r => .ok (.rt r.1 r.2)) D := P
    rw [hr] at P'
    exact ps_in P' fun a e' S' H' v g I' rv P2 => P2 σ S' H' v (Gr.refl _) I' Kp.rfl rv
theorem y_ex (G : Sur C R xa N W X sc fb lvl) {a : E} {e : Expr} {pos : Pos} (hn : nolc e = true) (he : PE X e (rdE X.K xa W (evE C false a))) : SOk C xa W X np nk (.ex a) (.Expr e pos) :=
  PS.weak (ps_expr he (sw_nolc hn)) fun D σ H ⟨e, S, T, I, P⟩ => ⟨e, S, T, I, ps_in P fun a e' S' H' v g I' rv P2 => P2 σ S' H' (Gr.refl _) I' Kp.rfl⟩
theorem y_if {t : E} {a b : List Sm} {c : Expr} {x y : List Stmt} {pos : Pos} (hc : PT X c (rdT X.K xa W (evE C true t))) (ha : PSs X x (tS X.K xa W nk (evSs C np nk a))) (hb : PSs X y (tS X.K xa W nk (evSs C np nk b))) :
    SOk C xa W X np nk (.iff t a b) (.If c x y pos) := by
  refine PS.weak (ps_if hc ha hb) fun D σ H ⟨e, S, T, I, P⟩ => ⟨e, S, T, I, ?_⟩
  have P' : PostS X.K xa W nk σ S T ((evE C true t e).bind fun p => match p.1 with
    | .d (.bool true) => evSs C np nk a p.2
    | .d (.bool false) => evSs C np nk b p.2
    | _ => .stuck) D := P
  refine ps_inB P' fun r e' S' H' g I' h' => ?_
  cases r with
  | o l => exact h'.elim
  | d z =>
    cases z <;> first
      | exact (show False from h').elim
      | skip
    rename_i k
    refine ⟨k, rfl, ?_⟩
    cases k with
    | true => rw [if_pos rfl]; exact ⟨e', S', T, I', h'⟩
    | false => rw [if_neg Bool.false_ne_true]; exact ⟨e', S', T, I', h'⟩
theorem y_whl (G : Sur C R xa N W X sc fb lvl) {t : E} {b : List Sm} {c : Expr} {x : List Stmt} {pos : Pos} (hc : PT X c (rdT X.K xa W (evE C true t))) (hb : PSs X x (tS X.K xa W nk (evSs C np nk b))) : SOk C xa W X np nk (.whl t b) (.While c x [] pos) := by
  refine PS.weak (ps_while G.po hc hb) fun D σ H ⟨e, S, T, I, P⟩ => ?_
  have P' : PostS X.K xa W nk σ S T (whlL (evE C true t) (evSs C np nk b) C.laps e) D := P
  refine ⟨fun m σ1 H1 => ∃ e S1, StO X.K σ1 e S1 T H1 ∧ PostS X.K xa W nk σ1 S1 T (whlL (evE C true t) (evSs C np nk b) m e) D, ⟨C.laps, e, S, I, P'⟩, ?_⟩
  rintro m σ1 H1 ⟨e1, S1, I1, P1⟩
  cases m with
  | zero => exact P1.elim
  | succ m =>
    have P2 : PostS X.K xa W nk σ1 S1 T ((evE C true t e1).bind fun p => match p.1 with
      | .d (.bool true) => (evSs C np nk b p.2).bind fun o => match o with
        | .nx e1 => whlL (evE C true t) (evSs C np nk b) m e1
        | .ct e1 => whlL (evE C true t) (evSs C np nk b) m e1
        | .bk e1 => .ok (.nx e1)
        | .rt r e1 => .ok (.rt r e1)
      | .d (.bool false) => .ok (.nx p.2)
      | _ => .stuck) D := P1
    refine ⟨e1, S1, T, I1, ps_inB P2 fun r e' S' H' g I' h' => ?_⟩
    cases r with
    | o l => exact h'.elim
    | d z =>
      cases z <;> first
        | exact (show False from h').elim
        | skip
      rename_i k
      refine ⟨k, rfl, ?_⟩
      cases k with
      | false => rw [if_neg Bool.false_ne_true]; exact h' σ1 S' H' (Gr.refl _) I' Kp.rfl
      | true =>
        rw [if_pos rfl]
        refine ⟨fun σ2 H2 => ∃ e S2, StO X.K σ2 e S2 T H2 ∧ PostS X.K xa W nk σ2 S2 T (whlL (evE C true t) (evSs C np nk b) m e) D, fun σ2 H2 h => ⟨m, Nat.lt_succ_self m, h⟩, e', S', T, I', ?_⟩
        exact PostS.bindO h' (fun e σ' S' H' g I k P => ⟨e, S', I, P⟩) (fun e σ' S' H' g I k P => ⟨e, S', I, P⟩) (fun e σ' S' H' g I k P => P σ' S' H' (Gr.refl _) I Kp.rfl) (fun r e σ' S' H' v g I k rv P => P σ' S' H' v (Gr.refl _) I Kp.rfl rv)
theorem y_for (G : Sur C R xa N W X sc fb lvl) {q : Pat} {it : E} {b : List Sm} {tg iter : Expr} {x : List Stmt} {pos : Pos} (hset : noset iter = true) (hi : PI X tg iter (rdI X.K xa W (evE C false it))) (hp : chkP N sc fb q tg = true)
    (hb : PSs X x (tS X.K xa W nk (evSs C np nk b))) : SOk C xa W X np nk (.fr q it b) (.For tg iter x [] pos) := by
  refine PS.weak (ps_for G.po G.calm hi (pg_pat (nk := nk) G.tgt q tg hp) hb (nocomp hset)) fun D σ H ⟨e, S, T, I, P⟩ => ?_
  have P' : PostS X.K xa W nk σ S T ((evE C false it e).bind fun p => (opt (seqOf (frz p.1))).bind fun l => forL (fun x e1 => (bindP nk q x e1).bind fun e2 => evSs C np nk b e2) l p.2) D := P
  refine ⟨e, S, T, I, ?_⟩
  cases z : evE C false it e with
  | stuck => rw [z] at P'; exact P'
  | err y e' => rw [z] at P'; exact fun S' H' g I' => P' σ S' H' g I' Kp.rfl
  | ok p =>
    obtain ⟨r, e'⟩ := p
    rw [z] at P'
    have P2 : PostS X.K xa W nk σ S T ((opt (seqOf (frz r))).bind fun l => forL (fun x e1 => (bindP nk q x e1).bind fun e2 => evSs C np nk b e2) l e') D := P'
    intro S' H' g I'
    unfold ItK
    show match seqOf (frz r) with
      | some l => _
      | none => False
    cases zs : seqOf (frz r) with
    | none => rw [zs] at P2; exact P2.elim
    | some l =>
      rw [zs] at P2
      have P3 : PostS X.K xa W nk σ S T (forL (fun x e1 => (bindP nk q x e1).bind fun e2 => evSs C np nk b e2) l e') D := P2
      intro J wk
      refine for_it wk (fun i σ1 H1 => ∃ e S1, Gr S' S1 ∧ StO X.K σ1 e S1 T H1 ∧ PostS X.K xa W nk σ1 S1 T (forL (fun x e1 => (bindP nk q x e1).bind fun e2 => evSs C np nk b e2) (l.drop i) e) D) ?_ ?_ ?_ ?_
      · exact ⟨e', S', Gr.refl _, I', P3.step g Kp.rfl⟩
      · rintro i σ1 H1 hi ⟨e1, S1, g1, I1, _⟩
        exact g1.trans I1.s
      · rintro i v σ1 H1 H2 hlt ⟨e1, S1, g1, I1, P4⟩ ⟨d, hg, ro⟩
        obtain ⟨S2, g2, I2, rv⟩ := (ro.gr g1).fin I1
        have ed : l.drop i = d :: l.drop (i + 1) := by
          rw [List.drop_eq_getElem_cons hlt]
          rw [List.getElem?_eq_getElem hlt] at hg
          cases hg; rfl
        rw [ed] at P4
        have P5 : PostS X.K xa W nk σ1 S1 T (((bindP nk q d e1).bind fun e2 => evSs C np nk b e2).bind fun o => match o with
          | .nx e1 => forL (fun x e1 => (bindP nk q x e1).bind fun e2 => evSs C np nk b e2) (l.drop (i + 1)) e1
          | .ct e1 => forL (fun x e1 => (bindP nk q x e1).bind fun e2 => evSs C np nk b e2) (l.drop (i + 1)) e1
          | .bk e1 => .ok (.nx e1)
          | .rt r e1 => .ok (.rt r e1)) D := P4
        cases zb : bindP nk q d e1 with
        | stuck => rw [zb] at P5; exact P5.elim
        | err y e2 => exact absurd zb fun h => bindP_ne _ _ _ h
        | ok e2 =>
          rw [zb] at P5
          have P6 := P5.step g2 Kp.rfl
          refine ⟨e1, S2, T, d, e2, I2, rv, zb, fun σ2 I3 k _ ln => ⟨e2, S2, T, I3, ?_⟩⟩
          have P7 := P6.step (Gr.refl _) (⟨ln, k⟩ : Kp nk σ1 σ2)
          exact PostS.bindO P7 (fun e σ' S' H' g I k P => ⟨e, S', (g1.trans g2).trans g, I, P⟩) (fun e σ' S' H' g I k P => ⟨e, S', (g1.trans g2).trans g, I, P⟩)
            (fun e σ' S' H' g I k P => P σ' S' H' (Gr.refl _) I Kp.rfl) (fun r e σ' S' H' v g I k rv P => P σ' S' H' v (Gr.refl _) I Kp.rfl rv)
      · rintro σ1 H1 ⟨e1, S1, g1, I1, P4⟩
        rw [List.drop_length] at P4
        exact P4 σ1 S1 H1 (Gr.refl _) I1 Kp.rfl
theorem y_setix (G : Sur C R xa N W X sc fb lvl) {i : Nat} {k a : E} {o ie e : Expr} {p pos : Pos} (ho : nameB N sc i o = true) (hn : nosl ie = true) (hk : PE X ie (argT X.K xa W k (evE C false k))) (ha : PE X e (argT X.K xa W a (evE C false a))) :
    SOk C xa W X np nk (.setix i k a) (.Assign [.Subscript o ie p] e pos) := by
  have hg : PG X (.Subscript o ie p) (gSub (tVar i) (argT X.K xa W k (evE C false k)) rSetL) := pg_sub (name_pe G ho) hk set_list (by intro v; cases ie <;> first | rfl | cases hn)
  have hs : swapsWithSole [.Subscript o ie p] e pos.line X.env = pure false := sw_sub (e := e) (a := o) (b := ie) (p := p) (l := pos.line) (env := X.env)
  refine PS.weak (ps_asg ha hg hs (by cases e <;> rfl) rfl) fun D σ H ⟨e, S, T, I, P⟩ => ?_
  have P' : PostS X.K xa W nk σ S T ((ar a e (evE C false a e)).bind fun p => (rdF p.2 [p.1]).bind fun xs => match getE xs.2 i with
    | some (.o _) => (ar k xs.2 (evE C false k xs.2)).bind fun q => (rd1 q.2 q.1).bind fun ks => setAt i ks xs.1 q.2
    | _ => .stuck) D := P
  refine arg_in I (PostS.bindA0 P' (Gr.refl T)) fun v1 a1 e1 S1 T1 H1 g1 A1 I1 h1 => ?_
  obtain ⟨⟨xs, e2⟩, z1, h2⟩ := PostS.at h1 rdF_ne
  obtain ⟨S2, g2, I2, hd⟩ := rdF_ok A1 I1 z1
  have h3 : PostS X.K xa W nk σ S2 T (match getE e2 i with
    | some (.o _) => (ar k e2 (evE C false k e2)).bind fun q => (rd1 q.2 q.1).bind fun ks => setAt i ks xs q.2
    | _ => .stuck) D := PostS.step h2 g2 Kp.rfl
  cases z : getE e2 i with
  | none => rw [z] at h3; exact h3.elim
  | some s =>
    rw [z] at h3
    cases s with
    | d y => exact h3.elim
    | o l =>
      obtain ⟨b, vs, q1, _⟩ := I2.own z
      have h4 : PostS X.K xa W nk σ S2 T ((ar k e2 (evE C false k e2)).bind fun q => (rd1 q.2 q.1).bind fun ks => setAt i ks xs q.2) D := h3
      refine ⟨.ref b, q1, arg_in I2 (PostS.bindA0 h4 (Gr.refl T)) fun v2 a2 e3 S3 T3 H3 g3 A3 I3 h5 => ?_⟩
      obtain ⟨ks, z2, h6⟩ := PostS.at h5 (rd1_ne (e := e3) (a := a2))
      have bk := rd1_ok A3 (Gr.refl _) (Gr.refl _) I3 z2
      cases hd with
      | cons hx hnil =>
        cases hnil
        rename_i x
        cases ks <;> first
          | exact (show False from h6).elim
          | skip
        rename_i j
        cases bk
        have h7 : PostS X.K xa W nk σ S3 T (match getE e3 i with
          | some (.o l) => match Ev.ixN l.length j with
            | some j => .ok (.nx (setE e3 i (some (.o (l.set j x)))))
            | none => .stuck
          | _ => .stuck) D := h6
        cases zg : getE e3 i with
        | none => rw [zg] at h7; exact h7.elim
        | some s =>
          rw [zg] at h7
          cases s with
          | d y => exact h7.elim
          | o l3 =>
            have h8 : PostS X.K xa W nk σ S3 T (match Ev.ixN l3.length j with
              | some j => .ok (.nx (setE e3 i (some (.o (l3.set j x)))))
              | none => .stuck) D := h7
            obtain ⟨b3, vs3, r1, r2, r3, r4, r5⟩ := I3.own zg
            rw [q1] at r1; cases r1
            cases zn : Ev.ixN l3.length j with
            | none => rw [zn] at h8; exact h8.elim
            | some n =>
              rw [zn] at h8
              refine ⟨b, vs3, j, n, rfl, rfl, r2, by rw [dps_len r3]; exact zn, ?_⟩
              exact h8 σ S3 _ (Gr.refl _) ((I3.less A3.t).write zg q1 (dps_set n r3 (g3.dp hx))) Kp.rfl
theorem y_app (G : Sur C R xa N W X sc fb lvl) {i : Nat} {a : E} {x y : Expr} {apos cpos pos : Pos} (hx : nameB N sc i x = true) (hy : nst y = true) (hl : apos.endLine = cpos.line) (ha : PE X y (argT X.K xa W a (evE C false a))) :
    SOk C xa W X np nk (.app i a) (.Expr (.Call (.Attribute x "append" apos) [y] [] cpos) pos) := by
  have hb : attributeBase x "append" X.env (eval x X.env) = eval x X.env := by cases x <;> first | rfl | cases hx
  have hs := star_ok (xs := []) (env := X.env) hy
  refine PS.weak (ps_expr (pe_bm PySem.F.plainAttrs_list PySem.F.slot_list_append PySem.F.type_list_append mt_append (name_pe G hx) (pa_cons ha pa_nil hs) hb (by rw [hs]; rfl) (by rw [hl]; exact beq_self_eq_true _) hs rfl) rfl) fun D σ H ⟨e, S, T, I, P⟩ => ?_
  have P' : PostS X.K xa W nk σ S T (match getE e i with
    | some (.o _) => (ar a e (evE C false a e)).bind fun p => (rdF p.2 [p.1]).bind fun xs => appAt i xs.1 xs.2
    | _ => .stuck) D := P
  cases z : getE e i with
  | none => rw [z] at P'; exact P'.elim
  | some s =>
    rw [z] at P'
    cases s with
    | d y => exact P'.elim
    | o l =>
      obtain ⟨b, vs, q1, q2, q3, q4, q5⟩ := I.own z
      refine ⟨.ref b, q1, .inl ⟨rfl, vs, .inl (.inl q2)⟩, ?_⟩
      have P2 : PostS X.K xa W nk σ S T ((ar a e (evE C false a e)).bind fun p => (rdF p.2 [p.1]).bind fun xs => appAt i xs.1 xs.2) D := P'
      refine arg_in I (PostS.bindA0 P2 (Gr.refl T)) fun v1 a1 e1 S1 T1 H1 g1 A1 I1 h1 => ?_
      obtain ⟨⟨xs, e2⟩, z1, h2⟩ := PostS.at h1 rdF_ne
      obtain ⟨S2, g2, I2, hd⟩ := rdF_ok A1 I1 z1
      cases hd with
      | cons hx hnil =>
        cases hnil
        rename_i x
        have h3 : PostS X.K xa W nk σ S2 T (match getE e2 i with
          | some (.o l) => grd (decide (l.length < sizeMax)) (.ok (.nx (setE e2 i (some (.o (l ++ [x]))))))
          | _ => .stuck) D := PostS.step h2 g2 Kp.rfl
        cases zg : getE e2 i with
        | none => rw [zg] at h3; exact h3.elim
        | some s =>
          rw [zg] at h3
          cases s with
          | d y => exact h3.elim
          | o l3 =>
            have h4 : PostS X.K xa W nk σ S2 T (grd (decide (l3.length < sizeMax)) (.ok (.nx (setE e2 i (some (.o (l3 ++ [x]))))))) D := h3
            obtain ⟨b3, vs3, r1, r2, r3, r4, r5⟩ := I2.own zg
            rw [q1] at r1; cases r1
            cases zz : decide (l3.length < sizeMax) with
            | false => rw [zz] at h4; exact h4.elim
            | true =>
              rw [zz] at h4
              refine ⟨b, vs3, v1, rfl, rfl, r2, by rw [dps_len r3, sizeLine_eq]; exact of_decide_eq_true zz, ?_⟩
              exact h4 σ S2 _ (Gr.refl _) (I2.write zg q1 (dps_app r3 (dps_one hx))) Kp.rfl
theorem y_aug (G : Sur C R xa N W X sc fb lvl) {i : Nat} {o : AOp} {a : E} {x : Str} {e : Expr} {p pos : Pos} (hi : chkP N sc fb (.n i) (.Name x p) = true) (ho : isAug o = true) (ha : PE X e (argT X.K xa W a (evE C false a))) :
    SOk C xa W X np nk (.aug i o a) (.AugAssign (.Name x p) (aop o) e pos) := by
  obtain ⟨h1, h2, h3⟩ := pname G hi
  have fin : ∀ {f : Int → Int → Int} {D : Ends} {σ : SS} {e : SEnv} {S T H : Hp}, (∀ x y e, augAt i o x (.int y) e = .ok (.nx (setE e i (some (.d (.int (f x y))))))) → (∀ x d e, (∀ y, d ≠ .int y) → augAt i o x d e = .stuck) → StO X.K σ e S T H → PostS X.K xa W nk σ S T (evS C np nk (.aug i o a) e) D →
      tAug i (argT X.K xa W a (evE C false a)) (rI0 fun i j => .int (f i j)) D σ H := fun {f D σ e S T H} hf hn I P => by
    have P' : PostS X.K xa W nk σ S T (match getE e i with
      | some (.d (.int x)) => (ar a e (evE C false a e)).bind fun p => (rd1 p.2 p.1).bind fun y => grd (!nk i) (augAt i o x y p.2)
      | _ => .stuck) D := P
    cases z : getE e i with
    | none => rw [z] at P'; exact P'.elim
    | some s =>
      rw [z] at P'
      cases s with
      | o l => exact P'.elim
      | d y =>
        cases y <;> first
          | exact (show False from P').elim
          | skip
        rename_i n
        obtain ⟨v, q1, q2⟩ := I.data z
        cases q2
        have P2 : PostS X.K xa W nk σ S T ((ar a e (evE C false a e)).bind fun p => (rd1 p.2 p.1).bind fun y => grd (!nk i) (augAt i o n y p.2)) D := P'
        refine ⟨_, q1, arg_in I (PostS.bindA0 P2 (Gr.refl T)) fun v1 a1 e1 S1 T1 H1 g1 A1 I1 h1 => ?_⟩
        obtain ⟨y, z1, h2⟩ := PostS.at h1 (rd1_ne (e := e1) (a := a1))
        have bk := rd1_ok A1 (Gr.refl _) (Gr.refl _) I1 z1
        cases zk : (!nk i) with
        | false => rw [zk] at h2; exact h2.elim
        | true =>
          rw [zk] at h2
          have h3 : PostS X.K xa W nk σ S1 T (augAt i o n y e1) D := h2
          cases y with
          | int m =>
            cases bk
            rw [hf] at h3
            exact ⟨n, m, rfl, rfl, h3 _ S1 H1 (Gr.refl _) ((I1.less A1.t).store (x := .d (.int (f n m))) (.int _)) (Kp.set zk)⟩
          | _ => rw [hn _ _ _ (fun y h => by cases h)] at h3; exact h3.elim
  cases o with
  | add => exact PS.weak (ps_aug G.nd h1 h2 ha iop_add h3) fun D σ H ⟨e, S, T, I, P⟩ => fin (f := fun i j => i + j) (fun _ _ _ => rfl) (fun x d e h => by cases d <;> first | rfl | exact absurd rfl (h _)) I P
  | sub => exact PS.weak (ps_aug G.nd h1 h2 ha iop_sub h3) fun D σ H ⟨e, S, T, I, P⟩ => fin (f := fun i j => i - j) (fun _ _ _ => rfl) (fun x d e h => by cases d <;> first | rfl | exact absurd rfl (h _)) I P
  | _ => cases ho
end
end EvS

set_option Elab.async false
set_option linter.all false
set_option maxHeartbeats 4000000
/-! PyEvZ: every statement. -/
namespace EvS
open PySem PySem.Spec PyProof.Rows L2 Ev

section
variable {C : Wx} {R : Ren} {xa : Nat → Addr} {N : List Str} {lvl : Nat} {W : WX} {X : L2.Cx} {sc : Scope} {fb : Str → Bool} {np : Nat} {nk : Nat → Bool}
theorem i_any (G : Sur C R xa N W X sc fb lvl) {it : E} {iter tg : Expr} (ht : itOk tg it = true) (h : chkE R N sc fb it iter = true) : PI X tg iter (rdI X.K xa W (evE C false it)) := by
  by_cases hw : valB it = true
  · exact i_val (soundE it iter W X sc fb G h hw).1
  · cases it with
    | blt b l =>
      cases iter with
      | Call g xs ks cp =>
        cases ks with
        | cons _ _ => cases h
        | nil =>
          have h2 : (glNm sc (bltS b) g && (((bltOk b || walkOk b l.length) && bltFree R b) && (!l.isEmpty && chkL R N sc fb l xs))) = true := h
          simp only [Bool.and_eq_true] at h2
          exact i_walk G hw ht h2.1 h2.2.1.1 h2.2.1.2 (chkL_ns h2.2.2.2) (soundL l xs W X sc fb G h2.2.2.2)
      | _ => cases h
    | _ => exact absurd rfl hw
theorem lc_of (G : Sur C R xa N W X sc fb lvl) {elt it : E} {p : Pat} {ifs : List E} {x tg iter : Expr} {is : List Expr} {scope : Scope} {pos : Pos} (h : chkE R N sc fb (.lc elt p it ifs) (.ListComp x [⟨tg, iter, is, 0⟩] scope pos) = true) :
    LcParts C xa W X elt it p ifs x tg iter is scope ((slots p).filterMap fun i => N[i]?.map fun x => (x, i)) := by
  have h' : ((noset iter && (itOk tg it && chkE R N sc fb it iter)) && (blkC N sc scope ((slots p).filterMap fun i => N[i]?.map fun x => (x, i)) && (chkP N (relS scope sc) (fun x => scope.names.lookup x == some .cell) p tg &&
    (chkTs R N (relS scope sc) (fun x => scope.names.lookup x == some .cell) ifs is && (valB elt && chkE R N (relS scope sc) (fun x => scope.names.lookup x == some .cell) elt x))))) = true := h
  simp only [Bool.and_eq_true] at h'
  obtain ⟨⟨hset, hio, hit⟩, hb, hp, ht, ve, he⟩ := h'
  have hi : PI X tg iter (lcI X.K xa W it (evE C false it)) := by
    cases it with
    | v i => exact i_name G hit
    | _ => exact i_any G hio hit
  exact lc_parts G hset hi hb hp (fun s H A cl fp => soundTs ifs is _ _ _ (G.blk s H scope A cl fp) ht)
    (fun s H A cl fp => arg_pe (G.blk s H scope A cl fp) he (soundE elt x W0 _ _ _ (G.blk s H scope A cl fp) he ve).1)
theorem nolc_lc {a : E} {x : Expr} {gs : List Comprehension} {scope : Scope} {pos : Pos} (h : chkE R N sc fb a (.ListComp x gs scope pos) = true) : ∃ elt p it ifs, a = .lc elt p it ifs := by
  cases a <;> first
    | exact ⟨_, _, _, _, rfl⟩
    | (cases h; done)
    | (cases gs <;> cases h; done)
    | (exact absurd (Bool.and_eq_true_iff.mp (show (R.glOk _ && glNm sc (R.gl _) _) = true from h)).2 Bool.false_ne_true)
theorem z_asg (G : Sur C R xa N W X sc fb lvl) {i : Nat} {a : E} {x : Str} {p pos : Pos} {e : Expr} (hi : chkP N sc fb (.n i) (.Name x p) = true) (hv : valB a = true) (hc : chkE R N sc fb a e = true) (hb : asgB sc x p e = true) : SOk C xa W X np nk (.asg (.n i) a) (.Assign [.Name x p] e pos) := by
  have he := (soundE a e W X sc fb G hc hv).1
  cases e with
  | ListComp y gs scope lp =>
    cases gs with
    | nil => cases hb
    | cons g gs =>
      cases gs with
      | cons _ _ =>
        exfalso
        unfold asgB at hb
        split at hb <;> first
          | (rename_i z; cases z; done)
          | (cases hb; done)
          | simp_all
      | nil =>
        obtain ⟨tg, iter, is, k⟩ := g
        by_cases hk : k = 0
        · subst hk
          have hb' : (isFun sc && decide (sc.names.lookup x = some .local)) = true := hb
          simp only [Bool.and_eq_true, decide_eq_true_eq] at hb'
          obtain ⟨elt, q, it, ifs, rfl⟩ := nolc_lc hc
          cases hs : lcSame sc scope x p lp with
          | true => exact y_asgLc G hi hb'.1 hb'.2 hs (lc_of G hc)
          | false => exact y_asg G hi he (lc_noSwap hs)
        · exfalso
          unfold asgB at hb
          split at hb <;> first
            | (rename_i z; cases z <;> exact hk rfl)
            | (cases hb; done)
            | simp_all [nolc]
  | _ => exact y_asg G hi he (sw_nolc hb)
theorem z_par (G : Sur C R xa N W X sc fb lvl) (ps : List Pat) (l : List E) (x : Stmt) (h : chkPar R N sc fb ps l x = true) : SOk C xa W X np nk (.par ps l) x := by
  unfold chkPar at h
  split at h
  · simp only [Bool.and_eq_true, decide_eq_true_eq, Bool.not_eq_true', locB] at h
    obtain ⟨⟨⟨⟨h1, h2⟩, h3⟩, h4⟩, ⟨⟨⟨h5, h6⟩, h7⟩, h8⟩, ⟨h9, h10⟩, h11⟩ := h
    obtain ⟨n1, _⟩ := chkL_ns h11
    obtain ⟨m1, n2⟩ := nsts_ok n1
    obtain ⟨m2, _⟩ := nsts_ok n2
    exact y_par G h1 h2 h3 h4 h5 h6 h7 h8 m1 m2 h9 h10 (soundL _ _ W X sc fb G h11)
  · simp only [Bool.and_eq_true, decide_eq_true_eq, Bool.not_eq_true', locB] at h
    obtain ⟨⟨⟨⟨⟨⟨⟨⟨⟨h1, h2⟩, h3⟩, h4⟩, h5⟩, h6⟩, h7⟩, h8⟩, h9⟩, ⟨⟨⟨⟨⟨k1, k2⟩, k3⟩, k4⟩, k5⟩, k6⟩, ⟨k7, k8⟩, k9⟩ := h
    obtain ⟨n1, _⟩ := chkL_ns k9
    obtain ⟨m1, n2⟩ := nsts_ok n1
    obtain ⟨m2, n3⟩ := nsts_ok n2
    obtain ⟨m3, _⟩ := nsts_ok n3
    exact y_par3 G h1 h2 h3 h4 h5 h6 h7 h8 h9 k1 k2 k3 k4 k5 k6 m1 m2 m3 k7 k8 (soundL _ _ W X sc fb G k9)
  · cases h
mutual
theorem soundS (G : Sur C R xa N W X sc fb lvl) : ∀ (s : Sm) (x : Stmt), chkS R N sc fb s x = true → SOk C xa W X np nk s x
  | .asg p a, x, h => by
    cases x with
    | Assign tgs e pos =>
      cases tgs with
      | nil => cases p <;> cases h
      | cons tg tgs =>
        cases tgs with
        | cons _ _ => cases p <;> cases tg <;> cases h
        | nil =>
          cases p with
          | n i =>
            cases tg with
            | Name x px =>
              have h' : (chkP N sc fb (.n i) (.Name x px) && (valB a && (chkE R N sc fb a e && asgB sc x px e))) = true := h
              simp only [Bool.and_eq_true] at h'
              exact z_asg G h'.1 h'.2.1 h'.2.2.1 h'.2.2.2
            | _ => cases h
          | t ps =>
            cases tg with
            | Tuple es k px =>
              have h' : (chkP N sc fb (.t ps) (.Tuple es k px) && (valB a && (chkE R N sc fb a e && tupB es e))) = true := h
              simp only [Bool.and_eq_true] at h'
              exact y_asgT G h'.1 (soundE a e W X sc fb G h'.2.2.1 h'.2.1).1 h'.2.2.2
            | _ => cases h
    | _ => cases p <;> cases h
  | .par ps l, x, h => z_par G ps l x h
  | .setix i k a, x, h => by
    cases x with
    | Assign tgs e pos =>
      cases tgs with
      | nil => cases h
      | cons tg tgs =>
        cases tgs with
        | cons _ _ => cases tg <;> cases h
        | nil =>
          cases tg with
          | Subscript o ie p =>
            have h' : (nameB N sc i o && (nosl ie && (valB k && (chkE R N sc fb k ie && (valB a && chkE R N sc fb a e))))) = true := h
            simp only [Bool.and_eq_true] at h'
            obtain ⟨h1, h2, h3, h4, h5, h6⟩ := h'
            exact y_setix G h1 h2 (arg_pe G h4 (soundE k ie W X sc fb G h4 h3).1) (arg_pe G h6 (soundE a e W X sc fb G h6 h5).1)
          | _ => cases h
    | _ => cases h
  | .app i a, x, h => by
    cases x with
    | Expr e pos =>
      cases e with
      | Call g xs ks cpos =>
        cases g with
        | Attribute x nm apos =>
          cases xs with
          | nil => cases h
          | cons y xs =>
            cases xs with
            | cons _ _ => cases h
            | nil =>
              cases ks with
              | cons _ _ => cases h
              | nil =>
                have h' : (decide (nm = "append") && (nameB N sc i x && (decide (apos.endLine = cpos.line) && (nst y && (valB a && chkE R N sc fb a y))))) = true := h
                simp only [Bool.and_eq_true, decide_eq_true_eq] at h'
                obtain ⟨rfl, h1, h2, h3, h4, h5⟩ := h'
                exact y_app G h1 h3 h2 (arg_pe G h5 (soundE a y W X sc fb G h5 h4).1)
        | _ => cases h
      | _ => cases h
    | _ => cases h
  | .ext _ _, x, h => by cases x <;> cases h
  | .aug i o a, x, h => by
    cases x with
    | AugAssign tg op e pos =>
      cases tg with
      | Name x p =>
        have h' : (decide (op = aop o) && (isAug o && (chkP N sc fb (.n i) (.Name x p) && (valB a && chkE R N sc fb a e)))) = true := h
        simp only [Bool.and_eq_true, decide_eq_true_eq] at h'
        obtain ⟨rfl, h1, h2, h3, h4⟩ := h'
        exact y_aug G h2 h1 (arg_pe G h4 (soundE a e W X sc fb G h4 h3).1)
      | _ => cases h
    | _ => cases h
  | .ex a, x, h => by
    cases x with
    | Expr e pos =>
      have h' : (nolc e && (valB a && chkE R N sc fb a e)) = true := h
      simp only [Bool.and_eq_true] at h'
      exact y_ex G h'.1 (soundE a e W X sc fb G h'.2.2 h'.2.1).1
    | _ => cases h
  | .ret a, x, h => by
    cases x with
    | Return o pos =>
      cases o with
      | none => cases h
      | some e =>
        have h' : (valB a && chkE R N sc fb a e) = true := h
        simp only [Bool.and_eq_true] at h'
        exact y_ret G h'.2 (soundE a e W X sc fb G h'.2 h'.1).1
    | _ => cases h
  | .retn, x, h => by
    cases x with
    | Return o pos =>
      cases o with
      | none => exact PS.weak ps_retN fun D σ H ⟨e, S, T, I, P⟩ => P σ S H .non (Gr.refl _) I Kp.rfl .non
      | some e => cases h
    | _ => cases h
  | .iff t a b, x, h => by
    cases x with
    | If c x y pos =>
      have h' : ((chkT t && (valB t && chkE R N sc fb t c)) && (chkSs R N sc fb a x && chkSs R N sc fb b y)) = true := h
      simp only [Bool.and_eq_true] at h'
      obtain ⟨⟨h1, h2, h3⟩, h4, h5⟩ := h'
      exact y_if ((soundE t c W X sc fb G h3 h2).2 h1) (soundSs G a x h4) (soundSs G b y h5)
    | _ => cases h
  | .whl t b, x, h => by
    cases x with
    | While c x y pos =>
      cases y with
      | cons _ _ => cases h
      | nil =>
        have h' : ((chkT t && (valB t && chkE R N sc fb t c)) && chkSs R N sc fb b x) = true := h
        simp only [Bool.and_eq_true] at h'
        obtain ⟨⟨h1, h2, h3⟩, h4⟩ := h'
        exact y_whl G ((soundE t c W X sc fb G h3 h2).2 h1) (soundSs G b x h4)
    | _ => cases h
  | .fr q it b, x, h => by
    cases x with
    | For tg iter x y pos =>
      cases y with
      | cons _ _ => cases h
      | nil =>
        have h' : ((noset iter && (itOk tg it && chkE R N sc fb it iter)) && (chkP N sc fb q tg && chkSs R N sc fb b x)) = true := h
        simp only [Bool.and_eq_true] at h'
        obtain ⟨⟨h1, h2, h3⟩, h4, h5⟩ := h'
        exact y_for G h1 (i_any G h2 h3) h4 (soundSs G b x h5)
    | _ => cases h
  | .rais _, x, h => by cases x <;> cases h
  | .brk, x, h => by
    cases x with
    | Break pos => exact PS.weak ps_break fun D σ H ⟨e, S, T, I, P⟩ => P σ S H (Gr.refl _) I Kp.rfl
    | _ => cases h
  | .cnt, x, h => by
    cases x with
    | Continue pos => exact PS.weak ps_continue fun D σ H ⟨e, S, T, I, P⟩ => P σ S H (Gr.refl _) I Kp.rfl
    | _ => cases h
  | .pass, x, h => by
    cases x with
    | Pass pos => exact PS.weak ps_pass fun D σ H ⟨e, S, T, I, P⟩ => P σ S H (Gr.refl _) I Kp.rfl
    | Expr e pos =>
      cases e with
      | Constant k j p =>
        cases k with
        | str v => exact PS.weak ps_doc fun D σ H ⟨e, S, T, I, P⟩ => P σ S H (Gr.refl _) I Kp.rfl
        | _ => cases h
      | _ => cases h
    | _ => cases h
  | .try_ _ _, x, h => by cases x <;> cases h
  | .never, x, h => PS.weak ps_never fun D σ H ⟨e, S, T, I, P⟩ => P
theorem soundSs (G : Sur C R xa N W X sc fb lvl) : ∀ (s : List Sm) (x : List Stmt), chkSs R N sc fb s x = true → PSs X x (tS X.K xa W nk (evSs C np nk s))
  | [], [], _ => PSs.weak pss_nil fun D σ H ⟨e, S, T, I, P⟩ => P σ S H (Gr.refl _) I Kp.rfl
  | s :: r, x :: xs, h => by
    have h' : (chkS R N sc fb s x && chkSs R N sc fb r xs) = true := h
    obtain ⟨h1, h2⟩ := Bool.and_eq_true_iff.mp h'
    refine PSs.weak (pss_cons (soundS G s x h1) (soundSs G r xs h2)) fun D σ H ⟨e, S, T, I, P⟩ => ?_
    have P' : PostS X.K xa W nk σ S T ((evS C np nk s e).bind fun o => match o with
      | .nx e1 => evSs C np nk r e1
      | o => .ok o) D := P
    refine ⟨e, S, T, I, PostS.bindO P' (fun e σ' S' H' g I k P => ⟨e, S', T, I, P⟩) (fun e σ' S' H' g I k P => P σ' S' H' (Gr.refl _) I Kp.rfl) (fun e σ' S' H' g I k P => P σ' S' H' (Gr.refl _) I Kp.rfl)
      (fun r e σ' S' H' v g I k rv P => P σ' S' H' v (Gr.refl _) I Kp.rfl rv)⟩
  | [], _ :: _, h => by cases h
  | _ :: _, [], h => by cases h
end
end
end EvS

set_option Elab.async false
set_option linter.all false
set_option maxHeartbeats 4000000
/-! PyEvM: defs; the module's facts; a law over the evaluator. -/
namespace EvS
open PySem PySem.Spec PyProof.Rows L2 Ev

/-! ### a def -/
theorem getE_outs {e : SEnv} : ∀ {xs : List Sl} {i j : Nat} {y : Sl}, getE (outs e i xs) j = some y → (∃ l, xs[j]? = some (.o l)) ∧ getE e (i + j) = some y
  | [], i, j, y, h => by cases j <;> cases h
  | .o l :: r, i, 0, y, h => ⟨⟨l, rfl⟩, h⟩
  | .d x :: r, i, 0, y, h => by cases h
  | .o l :: r, i, j + 1, y, h => by
    obtain ⟨h1, h2⟩ := getE_outs (xs := r) (i := i + 1) (j := j) h
    exact ⟨h1, by rw [← h2]; congr 1; omega⟩
  | .d x :: r, i, j + 1, y, h => by
    obtain ⟨h1, h2⟩ := getE_outs (xs := r) (i := i + 1) (j := j) h
    exact ⟨h1, by rw [← h2]; congr 1; omega⟩
theorem outs_len {e : SEnv} : ∀ {xs : List Sl} {i : Nat}, (outs e i xs).length = xs.length
  | [], _ => rfl
  | .o _ :: r, i => by simp [outs, outs_len (xs := r)]
  | .d _ :: r, i => by simp [outs, outs_len (xs := r)]
theorem start_sto {K : Fr} {vs : List V} {xs : List Sl} {S T H : Hp} {k m : Nat} (I : StO K (vs.map some) (xs.map some) S T H) (hl : vs.length = xs.length) (hm : m ≤ k) : StO K (vs.map some ++ List.replicate k none) (xs.map some ++ List.replicate m none) S T H := by
  have look : ∀ j y, getE (xs.map some ++ List.replicate m none) j = some y → getE (xs.map some) j = some y ∧ (vs.map some ++ List.replicate k none)[j]?.join = (vs.map some)[j]?.join := fun j y h => by
    rw [getE_eq] at h ⊢
    by_cases hj : j < xs.length
    · rw [List.getElem?_append_left (by simpa using hj)] at h
      refine ⟨h, ?_⟩
      rw [List.getElem?_append_left (by simpa [hl] using hj)]
    · rw [List.getElem?_append_right (by simpa using hj), List.getElem?_replicate] at h
      split at h <;> cases h
  have hlen : (xs.map some ++ List.replicate m (none : Option Sl)).length ≤ (vs.map some ++ List.replicate k (none : Option V)).length := by simp; omega
  refine ⟨hlen, I.s, I.t, I.dj, fun i x q => ?_, fun i j l l' h1 h2 h3 => ?_⟩
  · obtain ⟨h1, h2⟩ := look i x q
    exact (I.sl i x h1).eqv h2
  · obtain ⟨a1, a2⟩ := look i _ h1
    obtain ⟨b1, b2⟩ := look j _ h2
    exact I.inj i j l l' a1 b1 (by rw [← a2, ← b2]; exact h3)

/-- a def's text: its number, where it stands, the names of its slots, of its parameters -/
structure Tx where
  f : Nat
  d : He.DefD
  N : List Str
  ps : List Str
def Tx.ok (P : Prg) (R : Ren) (t : Tx) : Bool := match P.fn t.f with
  | some fn => (C8.scC t.N t.ps t.d.scope && decide (t.N.length = fn.n)) && ((decide (t.ps.length = fn.np) && decide (fn.np ≤ fn.n)) && chkSs R t.N t.d.scope (fun _ => true) fn.body t.d.body)
  | none => false
/-- what the module gives -/
structure Mdl (w : World) (K : Fr) (mg : Str → Option Value) (P : Prg) (R : Ren) (xa : Nat → Addr) (ts : List Tx) : Prop where
  chk : ∀ t ∈ ts, t.ok P R = true
  cov : ∀ f, R.fnOk f = true → ∃ t ∈ ts, t.f = f ∧ R.fn f = t.d.name
  defs : ∀ t ∈ ts, ∃ a fd, mg t.d.name = some (.ref a) ∧ FunD K t.d.name t.d.qual t.d.params t.d.body t.d.scope [] [] a fd ∧ Binds K fd t.ps []
  gl : ∀ k d, R.glOk k = true → P.glob k = some d → ∃ v u, mg (R.gl k) = some u ∧ RelV v u ∧ Dq K (fun _ => none) v d
  fr : ∀ x, R.free.contains x = true → mg x = none
  gcd : R.gcd = true → mg "gcd" = some (.builtin "math.gcd")
  ex : ∀ x, R.exOk x = true → mg (R.ex x) = some (.ref (xa x)) ∧ PySem.W.excIn K (xa x) He.veBase "ValueError.__new__" = true ∧ PySem.W.keepIn K (.ref (xa x)) = true ∧ PySem.W.subIn K (.ref (xa x)) (.type "BaseException") = some true ∧ PySem.W.typeIn K (.ref (xa x)) = some (.type "type")
theorem fn_sound {Pr : Program} {w : World} {K : Fr} {mg : Str → Option Value} {base : Heap} {P : Prg} {R : Ren} {xa : Nat → Addr} {ts : List Tx} (M : Mdl w K mg P R xa ts) :
    ∀ (n : Nat) (t : Tx), t ∈ ts → ∀ (a : Addr) (fd : FuncData), FunD K t.d.name t.d.qual t.d.params t.d.body t.d.scope [] [] a fd → FnOk Pr w K mg base (L2.CX Pr w) n a fd t.ps (spF K xa (callN P n) t.f) := by
  intro n
  induction n with
  | zero =>
    intro t ht a fd F
    exact ⟨fun vs H Q E ⟨xs, S, T, _, _, h⟩ => h.elim, fun A outer s H args us vs Q E _ _ _ _ ⟨xs, S, T, _, _, h⟩ => h.elim⟩
  | succ n ih =>
    intro t ht a fd F
    have hc := M.chk t ht
    unfold Tx.ok at hc
    cases hfn : P.fn t.f with
    | none => rw [hfn] at hc; cases hc
    | some fn =>
      rw [hfn] at hc
      simp only [Bool.and_eq_true, decide_eq_true_eq] at hc
      obtain ⟨⟨hsc, hN⟩, ⟨hps, hnp⟩, hck⟩ := hc
      have S0 := C8.fnScope_by hsc
      have hcall : ∀ xs, callN P (n + 1) t.f xs = evF ⟨callN P n, P.glob, P.laps⟩ fn xs := fun xs => by
        show (match P.fn t.f with
          | some fn => evF ⟨callN P n, P.glob, P.laps⟩ fn xs
          | none => .stuck) = _
        rw [hfn]
      refine F.ok S0 (fun vs H Q E ⟨xs, S, T, I, hl, h⟩ => ?_) fun cdv A outer s H vs Q E hr ⟨xs, S, T, I, hl, h⟩ => ?_
      · rw [hcall] at h
        unfold evF at h
        cases z : decide (xs.length = fn.np) with
        | false => rw [z] at h; exact h.elim
        | true => rw [hl, of_decide_eq_true z, hps]
      · rw [hcall] at h
        unfold evF at h
        cases z : decide (xs.length = fn.np) with
        | false => rw [z] at h; exact h.elim
        | true =>
          rw [z] at h
          have hxl := of_decide_eq_true z
          let X := cxOf (L2.CX Pr w) Pr w K mg base t.N t.d.qual t.d.scope a cdv A outer s H E
          have G : Sur ⟨callN P n, P.glob, P.laps⟩ R xa t.N (fun cls d _ H => E cls d H) X t.d.scope (fun _ => true) n := {
            hsc := rfl
            hN := rfl
            nd := S0.nd
            calm := rfl
            tk := takes_of rfl rfl rfl rfl
            po := passes_of rfl
            fn := fun _ _ => rfl
            room := hr
            gl := M.gl
            fr := M.fr
            gcd := M.gcd
            cl := fun f hf => by
              obtain ⟨t', ht', e1, e2⟩ := M.cov f hf
              obtain ⟨a', fd', m', F', b'⟩ := M.defs t' ht'
              subst e1
              exact ⟨a', fd', t'.ps, by rw [e2]; exact m', ih t' ht' a' fd' F', F'.kp, b'⟩
            ex := fun x hx => by
              obtain ⟨h1, h2, h3, h4, h5⟩ := M.ex x hx
              exact ⟨h1, h2, h3, raises_own h4 h5⟩ }
          refine ⟨_, soundSs (np := fn.np) (nk := lent xs) G fn.body t.d.body hck, xs.map some ++ List.replicate (fn.n - fn.np) none, S, T, start_sto I hl (by omega), ?_⟩
          have keep : ∀ {σ' : SS} {e : SEnv} {S' H' : Hp}, StO K σ' e S' T H' → Kp (lent xs) (L2.start t.N vs) σ' → StO K (vs.map some) (outs e 0 xs) S' T H' ∧ ∀ j y, getE (outs e 0 xs) j = some y → getE e j = some y ∧ (vs.map some)[j]?.join = σ'[j]?.join := fun {σ' e S' H'} J k => by
            have look : ∀ j y, getE (outs e 0 xs) j = some y → getE e j = some y ∧ (vs.map some)[j]?.join = σ'[j]?.join := fun j y h => by
              obtain ⟨⟨l, h1⟩, h2⟩ := getE_outs h
              rw [Nat.zero_add] at h2
              have hj : j < xs.length := by
                by_cases hh : j < xs.length
                · exact hh
                · rw [List.getElem?_eq_none (by omega)] at h1; cases h1
              have hk : lent xs j = true := by unfold lent; rw [h1]
              refine ⟨h2, ?_⟩
              rw [k.2 j hk]
              unfold L2.start
              rw [List.getElem?_append_left (by simpa [hl] using hj)]
            exact ⟨J.sub (by rw [outs_len]; simp; omega) look, look⟩
          cases zr : evSs ⟨callN P n, P.glob, P.laps⟩ fn.np (lent xs) fn.body (xs.map some ++ List.replicate (fn.n - fn.np) none) with
          | stuck => rw [zr] at h; exact h.elim
          | err x e =>
            rw [zr] at h
            exact fun σ' S' H' g J k => h S' H' g (J.sub (Nat.zero_le _) fun j y q => by cases j <;> cases q)
          | ok o =>
            rw [zr] at h
            cases o with
            | bk e => exact h.elim
            | ct e => exact h.elim
            | nx e => exact fun σ' S' H' g J k => h .non S' H' g (keep J k).1 .non
            | rt r e =>
              intro σ' S' H' v g J k rv
              obtain ⟨J2, look⟩ := keep J k
              refine h v S' H' g J2 ?_
              cases r with
              | d x => exact rv
              | o l =>
                obtain ⟨b, ws, e1, e2, e3, e4, e5, e6⟩ := rv
                refine ⟨b, ws, e1, e2, e3, e4, e5, fun i l' q z => ?_⟩
                obtain ⟨q1, q2⟩ := look i _ q
                exact e6 i l' q1 (by rw [← q2]; exact z)

/-! ### the module's values -/
mutual
def isD (K : Fr) : D → Value → Bool
  | .none, .none => true
  | .bool b, .bool c => b == c
  | .int i, .int j _ => decide (i = j)
  | .str x, .str y _ => decide (x = y)
  | .tuple ds, .ref a => match K.lookup a with
    | some ⟨.type c, _, .seq its _, _⟩ => decide (c = "tuple") && (decide (its.size ≤ sizeLine) && isDs K ds its.toList)
    | _ => false
  | _, _ => false
def isDs (K : Fr) : List D → List Value → Bool
  | [], [] => true
  | d :: ds, u :: us => isD K d u && isDs K ds us
  | _, _ => false
end
mutual
theorem isD_ok {K : Fr} : ∀ (d : D) (u : Value), isD K d u = true → ∃ v, RelV v u ∧ Dq K (fun _ => none) v d
  | .none, u, h => by
    cases u with
    | none => exact ⟨.non, rfl, .non⟩
    | _ => cases h
  | .bool b, u, h => by
    cases u with
    | bool c =>
      have e : b = c := by
        have h1 : (b == c) = true := h
        exact eq_of_beq h1
      subst e
      exact ⟨.bl b, rfl, .bl b⟩
    | _ => cases h
  | .int i, u, h => by
    cases u with
    | int j t =>
      have e : i = j := of_decide_eq_true h
      subst e
      exact ⟨.int i, ⟨t, rfl⟩, .int i⟩
    | _ => cases h
  | .str x, u, h => by
    cases u with
    | str y t =>
      have e : x = y := of_decide_eq_true h
      subst e
      exact ⟨.str x, ⟨t, rfl⟩, .str x⟩
    | _ => cases h
  | .tuple ds, u, h => by
    cases u with
    | ref a =>
      have h1 : (match K.lookup a with
        | some ⟨.type c, _, .seq its _, _⟩ => decide (c = "tuple") && (decide (its.size ≤ sizeLine) && isDs K ds its.toList)
        | _ => false) = true := h
      cases q : K.lookup a with
      | none => rw [q] at h1; cases h1
      | some o =>
        obtain ⟨oc, od, dt, osl⟩ := o
        rw [q] at h1
        cases oc with
        | type c =>
          cases dt with
          | seq its n =>
            obtain ⟨g1, g2⟩ := Bool.and_eq_true_iff.mp (show (decide (c = "tuple") && (decide (its.size ≤ sizeLine) && isDs K ds its.toList)) = true from h1)
            obtain ⟨g3, g4⟩ := Bool.and_eq_true_iff.mp g2
            obtain ⟨vs, r1, r2⟩ := isDs_ok ds its.toList g4
            exact ⟨.ref a, rfl, .tup (.inr ⟨_, its, n, q, congrArg Value.type (of_decide_eq_true g1), rfl, of_decide_eq_true g3, r1⟩) r2⟩
          | _ => cases h1
        | _ => cases dt <;> cases h1
    | _ => cases h
  | .list _, u, h => by cases u <;> cases h
  | .dict _, u, h => by cases u <;> cases h
theorem isDs_ok {K : Fr} : ∀ (ds : List D) (us : List Value), isDs K ds us = true → ∃ vs, Vals vs us ∧ DqAll K (fun _ => none) vs ds
  | [], [], _ => ⟨[], .nil, .nil⟩
  | d :: ds, u :: us, h => by
    obtain ⟨h1, h2⟩ := Bool.and_eq_true_iff.mp (show (isD K d u && isDs K ds us) = true from h)
    obtain ⟨v, a1, a2⟩ := isD_ok d u h1
    obtain ⟨vs, b1, b2⟩ := isDs_ok ds us h2
    exact ⟨v :: vs, .cons a1 b1, .cons a2 b2⟩
  | [], _ :: _, h => by cases h
  | _ :: _, [], h => by cases h
end
def glIs (K : Fr) (x : Str) (d : D) : Bool := match PySem.W.nsIn K mainGlobals x with
  | some (some u) => isD K d u
  | _ => false
theorem glIs_ok {K : Fr} {h : Heap} {mg : Str → Option Value} (X : K.In h) (G : h.Ns mainGlobals mg) {x : Str} {d : D} (c : glIs K x d = true) : ∃ v u, mg x = some u ∧ RelV v u ∧ Dq K (fun _ => none) v d := by
  unfold glIs at c
  cases e : PySem.W.nsIn K mainGlobals x with
  | none => rw [e] at c; cases c
  | some o =>
    rw [e] at c
    cases o with
    | none => cases c
    | some u =>
      obtain ⟨v, r, q⟩ := isD_ok d u c
      exact ⟨v, u, PySem.W.mg_of X G e, r, q⟩
def gcdIs (K : Fr) : Bool := He.eqO (PySem.W.nsIn K mainGlobals "gcd") (some (some (.builtin "math.gcd")))
/-! ### the Hook: no list is told -/
def isLst (o : Obj) : Bool := match o.cls with
  | .type c => decide (c = "list")
  | _ => false
def frL (g : Addr → Option Obj) (as : List Addr) : Fr := (He.frG g as).filter fun q => !isLst q.2
def NoL (K : Fr) : Prop := ∀ a o, K.lookup a = some o → isLst o = false
theorem look_in {a : Addr} {o : Obj} : ∀ {l : Fr}, l.lookup a = some o → (a, o) ∈ l
  | (b, u) :: r, h => by
    rw [List.lookup_cons] at h
    cases q : (a == b) with
    | true =>
      rw [q] at h
      cases h
      rw [eq_of_beq q]
      exact List.mem_cons_self
    | false =>
      rw [q] at h
      exact List.mem_cons_of_mem _ (look_in h)
theorem frG_mem {g : Addr → Option Obj} {as : List Addr} {a : Addr} {o : Obj} (h : (a, o) ∈ He.frG g as) : g a = some o := by
  unfold He.frG at h
  obtain ⟨b, _, e⟩ := List.mem_filterMap.mp h
  cases hb : g b with
  | none => rw [hb] at e; cases e
  | some u =>
    rw [hb] at e
    have e2 : (b, u) = (a, o) := Option.some.inj e
    injection e2 with e3 e4
    rw [← e3, ← e4]
    exact hb
theorem frL_in {as : List Addr} {h : Heap} : (frL h.get? as).In h := fun _ _ e => frG_mem (List.mem_filter.mp (look_in e)).1
theorem frL_noL {g : Addr → Option Obj} {as : List Addr} : NoL (frL g as) := fun a o e => by
  have := (List.mem_filter.mp (look_in e)).2
  simpa using this
abbrev AlL : Type := He.AlD × Bool
def obsL (n : Nat) (fa : List He.Fa) (fn : List He.DefD) (ex : Fr → Bool) (g : Addr → Option Obj) : AlL := (He.obsD fa fn (frL g (He.asD g n)), ex (frL g (He.asD g n)))
def hookL (n : Nat) (fa : List He.Fa) (fn : List He.DefD) (ex : Fr → Bool) : PySem.W.Hook where
  α := AlL
  obs := fun s => obsL n fa fn ex s.heap.get?
  val := fun _ => (He.valD fn, true)
  says := fun _ h => ∃ K : Fr, K.In h ∧ He.SaysD fa fn K ∧ ex K = true ∧ NoL K
  of := fun _ _ e => ⟨_, frL_in, congrArg (fun z : AlL => z.1) e, congrArg (fun z : AlL => z.2) e, frL_noL⟩
  keeps := fun _ _ _ ⟨K, hK, c⟩ k => ⟨K, PySem.W.Frag.In.keeps hK k, c⟩
theorem obsL_eq {n : Nat} {fa : List He.Fa} {fn : List He.DefD} {ex : Fr → Bool} {g : Addr → Option Obj} {s : Shared} (h : ∀ a, g a = s.heap.get? a) : obsL n fa fn ex g = (hookL n fa fn ex).obs s := by
  have e : g = s.heap.get? := funext h
  rw [e] <;> rfl
/-! ### a law -/
theorem ints_dq {K : Fr} {S : Hp} : ∀ ns : List Int, DqAll K S (ns.map V.int) (ns.map PyData.int)
  | [] => .nil
  | n :: r => .cons (.int n) (ints_dq r)
/-- the law's def is called with the script -/
theorem law_sp {K : Fr} {xa : Nat → Addr} {P : Prg} {n f : Nat} {ns : List Int} {H : Hp} {a : Addr} {E : XK} (hK : NoL K) (hS : SqL K H a (ns.map V.int)) (h : ∃ o, callN P n f [.d (.list (ns.map .int))] = .ok (.d (.bool true), o)) :
    spF K xa (callN P n) f [.ref a] H (fun v _ => v = .bl true) E := by
  obtain ⟨o, h⟩ := h
  have hr : Rd H a (.lst (ns.map V.int)) := by
    rcases hS with q | ⟨ob, its, n, q1, q2, _⟩
    · exact q
    · have := hK a ob q1
      unfold isLst at this
      rw [q2] at this
      simp at this
  refine ⟨[.d (.list (ns.map .int))], H, fun _ => none, ⟨Nat.le_refl _, Gr.refl _, fun a o q => (nomatch q), fun a o q => rfl, fun i x q => ?_, fun i j l l' h1 h2 _ => ?_⟩, rfl, ?_⟩
  · cases i with
    | zero =>
      cases q
      exact ⟨.ref a, rfl, .lst hr (ints_dq ns)⟩
    | succ i => cases i <;> cases q
  · cases i with
    | zero => cases h1
    | succ i => cases i <;> cases h1
  · rw [h]
    intro v S' H' g I rv
    cases rv
    rfl
/-- L2.walk_ofE, the exceptions of defs by the world -/
theorem walk_ofV {l : PySem.W.OpenLaw} {n k : Nat} {q : Program} {loose : List Str} {XP : (Str → Option Value) → Heap → Prop} {YP : World → Heap → Prop} {d : DefRec} {x : Str}
    (hn : l.most = some n) (hn2 : n ≤ sizeLine) (hdf : d.params.defaults = []) (hr : Room k callerA)
    (F : ∀ (w : World) (mg : Str → Option Value) (fa : Addr) (h : Heap), YP w h → h.Ns mainGlobals mg → mg d.name = some (.ref fa) →
      ∃ (K : Fr) (fd : FuncData) (sp : Sp), K.In h ∧ (∀ (s : Shared) (u : Value), BindsTo s fd ⟨[u], []⟩ [(x, u)]) ∧
        (∀ (H : Hp) (a : Addr) (ns : List Int), ns.length ≤ n → SqL K H a (ns.map V.int) → sp [.ref a] H (fun v _ => v = .bl true) fun _ _ _ => False) ∧
        ∀ base : Heap, K.In base → base.Ns mainGlobals mg → FnOk l.prog w K mg base (L2.CX l.prog w) k fa fd [x] sp) :
    PySem.W.WalkO q loose XP YP l.row.toRowW d [] (fun f vs => PySem.call f vs) := by
  refine Att.attach_call hn hdf fun w s₀ s₁ mg mb fa o pm cd doc a vs ns G Y ho hd hcd hmg hobj hints hlen hg => ?_
  obtain ⟨K, fd, sp, KX, hb, hsp, hF⟩ := F w mg fa _ Y G.T.g hmg
  exact law_call KX G.T.g G.T.b G.T.builtins G.T.nolimit hg hobj hints (Nat.le_trans hlen hn2) hr hF hb (fun H hO hS => hsp H a ns hlen hS) fun H e s' ⟨_, _, _, _, _, _, _, _, _, _, _, _, z⟩ => z
end EvS

set_option Elab.async false
set_option linter.all false
set_option maxRecDepth 100000
/-! PyTr: the defs of the laws' texts as terms of the evaluator (printed by gen.py). -/
namespace Tr
open PySem Ev
/-- plain_is_number: 0 thing -/
def f0 : Fn := ⟨1, 1, [.ret (.and [(.isi (.v 0) [.int]), (.not (.isi (.v 0) [.bool]))])]⟩
/-- plain_is_within: 0 thing 1 least 2 most -/
def f1 : Fn := ⟨3, 3, [.ret (.and [(.call 0 [(.v 0)]), (.chain .le .le (.v 1) (.v 0) (.v 2))])]⟩
/-- plain_tupled: 0 value 1 own -/
def f2 : Fn := ⟨1, 2, [.ret (.ife (.isi (.v 0) [.list, .tuple]) (.blt .tuple [(.lc (.call 2 [(.v 1)]) (.n 1) (.v 0) [])]) (.v 0))]⟩
/-- shares_lowest: 0 above 1 below 2 shared -/
def f3 : Fn := ⟨2, 3, [.asg (.n 2) (.blt .gcd [(.v 0), (.v 1)]), .ret (.ife (.cmp .gt (.v 1) (.c (.int 0))) (.tup [(.bin .fdiv (.v 0) (.v 2)), (.bin .fdiv (.v 1) (.v 2))]) (.tup [(.bin .fdiv (.neg (.v 0)) (.v 2)), (.bin .fdiv (.neg (.v 1)) (.v 2))]))]⟩
/-- plain_is_long: 0 thing 1 length -/
def f4 : Fn := ⟨2, 2, [.ret (.and [(.isi (.v 0) [.tuple]), (.cmp .eq (.blt .len [(.v 0)]) (.v 1))])]⟩
/-- plain_is_sized: 0 thing 1 most -/
def f5 : Fn := ⟨2, 2, [.ret (.call 1 [(.v 0), (.neg (.v 1)), (.v 1)])]⟩
/-- books_is_tube: 0 thing -/
def f6 : Fn := ⟨1, 1, [.iff (.or [(.not (.call 4 [(.v 0), (.c (.int 2))])), (.not (.call 1 [(.ix (.v 0) (.c (.int 0))), (.c (.int 1)), (.g 0)])), (.not (.call 5 [(.ix (.v 0) (.c (.int 1))), (.g 0)]))]) [.ret (.c (.bool false))] [], .ret (.cmp .eq (.blt .gcd [(.ix (.v 0) (.c (.int 0))), (.ix (.v 0) (.c (.int 1)))]) (.c (.int 1)))]⟩
/-- shares_plus: 0 one 1 other -/
def f7 : Fn := ⟨2, 2, [.ret (.call 3 [(.bin .add (.bin .mul (.ix (.v 0) (.c (.int 0))) (.ix (.v 1) (.c (.int 1)))) (.bin .mul (.ix (.v 1) (.c (.int 0))) (.ix (.v 0) (.c (.int 1))))), (.bin .mul (.ix (.v 0) (.c (.int 1))) (.ix (.v 1) (.c (.int 1))))])]⟩
/-- books_is_book_of: 0 thing 1 own -/
def f8 : Fn := ⟨1, 2, [.iff (.or [(.not (.call 4 [(.v 0), (.c (.int 2))])), (.not (.call 1 [(.ix (.v 0) (.c (.int 0))), (.c (.int 0)), (.g 1)])), (.not (.isi (.ix (.v 0) (.c (.int 1))) [.tuple]))]) [.ret (.c (.bool false))] [], .ret (.and [(.cmp .le (.blt .len [(.ix (.v 0) (.c (.int 1)))]) (.g 2)), (.blt .all [(.lc (.call 6 [(.v 1)]) (.n 1) (.ix (.v 0) (.c (.int 1))) [])])])]⟩
/-- books_form_by: 0 book 1 whole 2 above 3 below -/
def f9 : Fn := ⟨1, 4, [.asg (.n 1) (.blt .sum [(.lc (.bin .fdiv (.v 3) (.v 2)) (.t [(.n 2), (.n 3)]) (.ix (.v 0) (.c (.int 1))) [])]), .ret (.tup [(.ix (.v 0) (.c (.int 0))), (.v 1), (.blt .tuple [(.blt .sorted [(.lc (.tup [(.v 2), (.bin .mod (.v 3) (.v 2))]) (.t [(.n 2), (.n 3)]) (.ix (.v 0) (.c (.int 1))) [(.cmp .gt (.v 2) (.c (.int 1)))])])])])]⟩
/-- books_sure_book: 0 thing 1 book -/
def f10 : Fn := ⟨1, 2, [.asg (.n 1) (.call 2 [(.v 0)]), .iff (.not (.call 8 [(.v 1)])) [.never] [], .ret (.v 1)]⟩
/-- books_lean_by: 0 book 1 found 2 above 3 below -/
def f11 : Fn := ⟨1, 4, [.asg (.n 1) (.g 3), .fr (.t [(.n 2), (.n 3)]) (.ix (.v 0) (.c (.int 1))) [.asg (.n 1) (.call 7 [(.v 1), (.call 3 [(.v 3), (.v 2)])])], .ret (.v 1)]⟩
/-- cuts_is_knot_of: 0 thing 1 own -/
def f12 : Fn := ⟨1, 2, [.iff (.or [(.not (.call 4 [(.v 0), (.c (.int 2))])), (.not (.blt .all [(.lc (.call 1 [(.v 1), (.c (.int 2)), (.g 4)]) (.n 1) (.v 0) [])]))]) [.ret (.c (.bool false))] [], .ret (.and [(.cmp .lt (.ix (.v 0) (.c (.int 0))) (.ix (.v 0) (.c (.int 1)))), (.cmp .eq (.blt .gcd [(.ix (.v 0) (.c (.int 0))), (.ix (.v 0) (.c (.int 1)))]) (.c (.int 1)))])]⟩
/-- matrices_corners_of: 0 rows 1 k -/
def f21 : Fn := ⟨1, 2, [.ret (.lc (.ix (.ix (.v 0) (.v 1)) (.v 1)) (.n 1) (.blt .range [(.blt .min [(.blt .len [(.v 0)]), (.blt .len [(.ix (.v 0) (.c (.int 0)))])])]) [])]⟩
/-- shares_times: 0 one 1 other -/
def f23 : Fn := ⟨2, 2, [.ret (.call 3 [(.bin .mul (.ix (.v 0) (.c (.int 0))) (.ix (.v 1) (.c (.int 0)))), (.bin .mul (.ix (.v 0) (.c (.int 1))) (.ix (.v 1) (.c (.int 1))))])]⟩
/-- shares_over: 0 one 1 other -/
def f24 : Fn := ⟨2, 2, [.ret (.call 3 [(.bin .mul (.ix (.v 0) (.c (.int 0))) (.ix (.v 1) (.c (.int 1)))), (.bin .mul (.ix (.v 0) (.c (.int 1))) (.ix (.v 1) (.c (.int 0))))])]⟩
/-- shares_minus_share: 0 one 1 other -/
def f25 : Fn := ⟨2, 2, [.ret (.call 3 [(.bin .sub (.bin .mul (.ix (.v 0) (.c (.int 0))) (.ix (.v 1) (.c (.int 1)))) (.bin .mul (.ix (.v 1) (.c (.int 0))) (.ix (.v 0) (.c (.int 1))))), (.bin .mul (.ix (.v 0) (.c (.int 1))) (.ix (.v 1) (.c (.int 1))))])]⟩
/-- wholes_back_by: 0 number 1 below 2 one 3 other 4 near 5 far 6 times -/
def f27 : Fn := ⟨2, 7, [.asg (.t [(.n 2), (.n 3), (.n 4), (.n 5)]) (.tup [(.bin .mod (.v 0) (.v 1)), (.v 1), (.c (.int 1)), (.c (.int 0))]), .whl (.cmp .gt (.v 3) (.c (.int 0))) [.asg (.n 6) (.bin .fdiv (.v 2) (.v 3)), .asg (.t [(.n 2), (.n 3), (.n 4), (.n 5)]) (.tup [(.v 3), (.bin .sub (.v 2) (.bin .mul (.v 6) (.v 3))), (.v 5), (.bin .sub (.v 4) (.bin .mul (.v 6) (.v 5)))])], .ret (.bin .mod (.v 4) (.v 1))]⟩
/-- plain_product: 0 numbers 1 found 2 own -/
def f28 : Fn := ⟨1, 3, [.asg (.n 1) (.c (.int 1)), .fr (.n 2) (.v 0) [.asg (.n 1) (.bin .mul (.v 1) (.v 2))], .ret (.v 1)]⟩
/-- plain_are_within: 0 thing 1 least 2 most 3 own -/
def f30 : Fn := ⟨3, 4, [.ret (.and [(.isi (.v 0) [.tuple]), (.blt .all [(.lc (.call 1 [(.v 3), (.v 1), (.v 2)]) (.n 3) (.v 0) [])])])]⟩
/-- powers_sure: 0 thing 1 powers -/
def f32 : Fn := ⟨1, 2, [.asg (.n 1) (.call 2 [(.v 0)]), .iff (.or [(.not (.call 30 [(.v 1), (.c (.int 2)), (.g 5)])), (.not (.chain .le .le (.c (.int 3)) (.blt .len [(.v 1)]) (.c (.int 5))))]) [.never] [], .ret (.v 1)]⟩
/-- cuts_sure_knot: 0 thing 1 knot -/
def f33 : Fn := ⟨1, 2, [.asg (.n 1) (.call 2 [(.v 0)]), .iff (.not (.call 12 [(.v 1)])) [.never] [], .ret (.v 1)]⟩
/-- powers_poly_by: 0 knot 1 most 2 made 3 own 4 one 5 other -/
def f34 : Fn := ⟨1, 6, [.asg (.t [(.n 4), (.n 5)]) (.v 0), .asg (.n 1) (.bin .mul (.bin .sub (.v 4) (.c (.int 1))) (.bin .sub (.v 5) (.c (.int 1)))), .asg (.n 2) (.bin .mul (.lst [(.c (.bool false))]) (.bin .add (.v 1) (.c (.int 2)))), .setix 2 (.c (.int 0)) (.c (.bool true)), .fr (.n 3) (.blt .range [(.c (.int 1)), (.bin .add (.v 1) (.c (.int 2)))]) [.setix 2 (.v 3) (.or [(.and [(.cmp .ge (.v 3) (.v 4)), (.ix (.v 2) (.bin .sub (.v 3) (.v 4)))]), (.and [(.cmp .ge (.v 3) (.v 5)), (.ix (.v 2) (.bin .sub (.v 3) (.v 5)))])])], .ret (.lc (.bin .sub (.blt .int [(.ix (.v 2) (.v 3))]) (.blt .int [(.and [(.cmp .gt (.v 3) (.c (.int 0))), (.ix (.v 2) (.bin .sub (.v 3) (.c (.int 1))))])])) (.n 3) (.blt .range [(.bin .add (.v 1) (.c (.int 1)))]) [])]⟩
/-- matrices_determinant_by: 0 matrix 1 k 2 rows 3 found 4 places 5 j 6 part 7 row 8 own 9 its -/
def f35 : Fn := ⟨1, 10, [.par [(.n 2), (.n 3)] [(.lc (.lc (.tup [(.v 8), (.c (.int 1))]) (.n 8) (.v 7) []) (.n 7) (.v 0) []), (.tup [(.c (.int 1)), (.c (.int 1))])], .fr (.n 1) (.blt .range [(.blt .len [(.v 2)])]) [.asg (.n 4) (.lc (.v 5) (.n 5) (.blt .range [(.v 1), (.blt .len [(.v 2)])]) [(.cmp .ne (.ix (.ix (.ix (.v 2) (.v 5)) (.v 1)) (.c (.int 0))) (.c (.int 0)))]), .iff (.cmp .eq (.v 4) (.lst [])) [.ret (.c (.int 0))] [], .iff (.cmp .ne (.ix (.v 4) (.c (.int 0))) (.v 1)) [.ex (.call 17 [(.v 2), (.v 1), (.ix (.v 4) (.c (.int 0)))]), .asg (.n 3) (.tup [(.neg (.ix (.v 3) (.c (.int 0)))), (.ix (.v 3) (.c (.int 1)))])] [], .asg (.n 3) (.call 23 [(.v 3), (.ix (.ix (.v 2) (.v 1)) (.v 1))]), .fr (.n 5) (.blt .range [(.bin .add (.v 1) (.c (.int 1))), (.blt .len [(.v 2)])]) [.asg (.n 6) (.call 24 [(.ix (.ix (.v 2) (.v 5)) (.v 1)), (.ix (.ix (.v 2) (.v 1)) (.v 1))]), .setix 2 (.v 5) (.lc (.call 25 [(.v 8), (.call 23 [(.v 6), (.v 9)])]) (.t [(.n 8), (.n 9)]) (.blt .zip [(.ix (.v 2) (.v 5)), (.ix (.v 2) (.v 1))]) [])]], .ret (.ix (.v 3) (.c (.int 0)))]⟩
/-- powers_circle_table: 0 numbers 1 many 2 k 3 j -/
def f36 : Fn := ⟨1, 4, [.asg (.n 1) (.blt .len [(.v 0)]), .ret (.blt .tuple [(.lc (.blt .tuple [(.lc (.ix (.v 0) (.bin .mod (.bin .sub (.v 3) (.v 2)) (.v 1))) (.n 3) (.blt .range [(.v 1)]) [])]) (.n 2) (.blt .range [(.v 1)]) [])])]⟩
/-- powers_around_by: 0 poly 1 many 2 found 3 place 4 own -/
def f37 : Fn := ⟨2, 5, [.asg (.n 2) (.bin .mul (.lst [(.c (.int 0))]) (.v 1)), .fr (.t [(.n 3), (.n 4)]) (.blt .enumerate [(.v 0)]) [.setix 2 (.bin .mod (.v 3) (.v 1)) (.bin .add (.ix (.v 2) (.bin .mod (.v 3) (.v 1))) (.v 4))], .ret (.v 2)]⟩
/-- powers_power_book: 0 powers 1 found -/
def f38 : Fn := ⟨1, 2, [.asg (.n 1) (.call 31 [(.call 32 [(.v 0)])]), .iff (.not (.call 8 [(.v 1)])) [.never] [], .ret (.v 1)]⟩
/-- matrices_lot_by: 0 matrix 1 corners 2 free 3 own -/
def f39 : Fn := ⟨1, 4, [.asg (.n 1) (.call 21 [(.ix (.call 22 [(.v 0)]) (.c (.int 1)))]), .asg (.n 2) (.bin .sub (.blt .len [(.ix (.v 0) (.c (.int 0)))]) (.blt .len [(.lc (.v 3) (.n 3) (.v 1) [(.cmp .ne (.v 3) (.c (.int 0)))])])), .ret (.tup [(.v 2), (.blt .tuple [(.lc (.v 3) (.n 3) (.v 1) [(.cmp .gt (.v 3) (.c (.int 1)))])])])]⟩
/-- turns_rows_by: 0 book 1 tubes 2 found 3 place 4 above 5 below 6 k -/
def f40 : Fn := ⟨1, 7, [.par [(.n 1), (.n 2)] [(.ix (.v 0) (.c (.int 1))), (.lst [])], .fr (.t [(.n 3), (.t [(.n 4), (.n 5)])]) (.blt .enumerate [(.v 1)]) [.app 2 (.blt .tuple [(.bin .add (.lc (.ife (.cmp .eq (.v 6) (.v 3)) (.v 4) (.c (.int 0))) (.n 6) (.blt .range [(.blt .len [(.v 1)])]) []) (.lst [(.v 5)]))])], .ret (.blt .tuple [(.bin .add (.v 2) (.lst [(.bin .add (.bin .mul (.tup [(.c (.int 1))]) (.blt .len [(.v 1)])) (.tup [(.c (.int 0))]))]))])]⟩
/-- turns_turns_by: 0 book 1 free 2 others -/
def f41 : Fn := ⟨1, 3, [.asg (.t [(.n 1), (.n 2)]) (.call 39 [(.call 40 [(.v 0)])]), .ret (.tup [(.bin .add (.v 1) (.bin .mul (.c (.int 2)) (.ix (.v 0) (.c (.int 0))))), (.v 2)])]⟩
/-- turns_order_by: 0 book 1 free 2 others -/
def f42 : Fn := ⟨1, 3, [.asg (.t [(.n 1), (.n 2)]) (.call 41 [(.v 0)]), .ret (.ife (.cmp .eq (.v 1) (.c (.int 0))) (.call 28 [(.v 2)]) (.c .none))]⟩
/-- law__law_take: 0 tin 1 below_so 2 once_so 3 wide_so 4 twice_so 5 drawn_so -/
def f43 : Fn := ⟨2, 6, [.iff (.cmp .gt (.ix (.v 0) (.c (.int 0))) (.c (.int 0))) [.asg (.n 5) (.bin .mod (.blt .int [(.ix (.v 0) (.c (.int 0)))]) (.v 1)), .setix 0 (.c (.int 0)) (.bin .fdiv (.ix (.v 0) (.c (.int 0))) (.v 1)), .ret (.v 5)] [], .setix 0 (.c (.int 2)) (.bin .add (.ix (.v 0) (.c (.int 2))) (.c (.int 1))), .asg (.n 2) (.bin .mod (.blt .int [(.bin .mul (.bin .add (.ix (.v 0) (.c (.int 1))) (.bin .mul (.c (.int 48271)) (.ix (.v 0) (.c (.int 2))))) (.bin .add (.c (.int 39373)) (.ix (.v 0) (.c (.int 2)))))]) (.c (.int 2147483647))), .asg (.n 3) (.bin .add (.bin .mod (.blt .int [(.v 2)]) (.c (.int 40009))) (.c (.int 7))), .asg (.n 4) (.bin .mod (.blt .int [(.bin .mul (.bin .add (.bin .add (.v 2) (.ix (.v 0) (.c (.int 2)))) (.bin .fdiv (.ix (.v 0) (.c (.int 1))) (.c (.int 1000003)))) (.v 3))]) (.c (.int 2147483629))), .ret (.bin .mod (.blt .int [(.bin .fdiv (.bin .mod (.blt .int [(.bin .add (.bin .mul (.v 4) (.c (.int 48271))) (.v 2))]) (.c (.int 2147483587))) (.c (.int 64)))]) (.v 1))]⟩
/-- law__law_same: 0 got 1 due 2 mine 3 its -/
def f44 : Fn := ⟨2, 4, [.iff (.isi (.v 1) [.list, .tuple]) [.iff (.or [(.cmp .ne (.isi (.v 0) [.list]) (.isi (.v 1) [.list])), (.cmp .ne (.isi (.v 0) [.tuple]) (.isi (.v 1) [.tuple]))]) [.ret (.c (.bool false))] [], .ret (.and [(.cmp .eq (.blt .len [(.v 0)]) (.blt .len [(.v 1)])), (.blt .all [(.lc (.call 44 [(.v 2), (.v 3)]) (.t [(.n 2), (.n 3)]) (.blt .zip [(.v 0), (.v 1)]) [])])])] [], .iff (.cmp .is (.v 1) (.c .none)) [.ret (.cmp .is (.v 0) (.c .none))] [], .iff (.isi (.v 1) [.bool, .str]) [.ret (.and [(.cmp .eq (.isi (.v 0) [.bool]) (.isi (.v 1) [.bool])), (.cmp .eq (.isi (.v 0) [.str]) (.isi (.v 1) [.str])), (.cmp .eq (.v 0) (.v 1))])] [], .ret (.and [(.isi (.v 0) [.int]), (.not (.isi (.v 0) [.bool])), (.cmp .eq (.v 0) (.v 1))])]⟩
/-- law__law_gcd: 0 one 1 two -/
def f45 : Fn := ⟨2, 2, [.whl (.cmp .ne (.v 1) (.c (.int 0))) [.par [(.n 0), (.n 1)] [(.v 1), (.bin .mod (.v 0) (.v 1))]], .ret (.blt .abs [(.v 0)])]⟩
/-- law__law_low: 0 above_so 1 below_so 2 both_so -/
def f46 : Fn := ⟨2, 3, [.asg (.n 2) (.call 45 [(.v 0), (.v 1)]), .ret (.tup [(.bin .fdiv (.v 0) (.v 2)), (.bin .fdiv (.v 1) (.v 2))])]⟩
/-- law__law_plus: 0 one 1 two -/
def f47 : Fn := ⟨2, 2, [.ret (.call 46 [(.bin .add (.bin .mul (.ix (.v 0) (.c (.int 0))) (.ix (.v 1) (.c (.int 1)))) (.bin .mul (.ix (.v 1) (.c (.int 0))) (.ix (.v 0) (.c (.int 1))))), (.bin .mul (.ix (.v 0) (.c (.int 1))) (.ix (.v 1) (.c (.int 1))))])]⟩
/-- law__law_total: 0 shares_so 1 found 2 own -/
def f48 : Fn := ⟨1, 3, [.asg (.n 1) (.tup [(.c (.int 0)), (.c (.int 1))]), .fr (.n 2) (.v 0) [.asg (.n 1) (.call 47 [(.v 1), (.v 2)])], .ret (.v 1)]⟩
/-- law__law_cells: 0 script 1 most_so 2 cells_so 3 k 4 bit_so 5 at_so -/
def f50 : Fn := ⟨2, 6, [.asg (.n 2) (.or [(.blt .list [(.sl (.v 0) none (some (.v 1)))]), (.lst [(.c (.int 0))])]), .fr (.t [(.n 3), (.n 4)]) (.blt .enumerate [(.sl (.v 0) (some (.v 1)) (some (.c (.int 63))))]) [.asg (.n 5) (.bin .mod (.blt .int [(.v 3)]) (.v 1)), .setix 2 (.v 5) (.bin .add (.ix (.v 2) (.v 5)) (.bin .mul (.v 4) (.bin .add (.v 3) (.c (.int 2)))))], .ret (.v 2)]⟩
/-- shares_total: 0 fractions 1 found 2 own -/
def f52 : Fn := ⟨1, 3, [.asg (.n 1) (.g 3), .fr (.n 2) (.v 0) [.asg (.n 1) (.call 7 [(.v 1), (.v 2)])], .ret (.v 1)]⟩
/-- floors_is_floor_of: 0 thing -/
def f54 : Fn := ⟨1, 1, [.iff (.or [(.not (.call 4 [(.v 0), (.c (.int 2))])), (.not (.call 1 [(.ix (.v 0) (.c (.int 0))), (.c (.int 0)), (.g 8)])), (.not (.call 30 [(.ix (.v 0) (.c (.int 1))), (.c (.int 2)), (.g 9)]))]) [.ret (.c (.bool false))] [], .ret (.and [(.cmp .le (.blt .len [(.ix (.v 0) (.c (.int 1)))]) (.g 10)), (.cmp .eq (.ix (.v 0) (.c (.int 1))) (.blt .tuple [(.blt .sorted [(.ix (.v 0) (.c (.int 1)))])]))])]⟩
/-- floors_round_of: 0 floor 1 own -/
def f55 : Fn := ⟨1, 2, [.ret (.call 25 [(.tup [(.bin .sub (.c (.int 2)) (.bin .mul (.c (.int 2)) (.ix (.v 0) (.c (.int 0))))), (.c (.int 1))]), (.call 52 [(.lc (.call 25 [(.g 11), (.tup [(.c (.int 1)), (.v 1)])]) (.n 1) (.ix (.v 0) (.c (.int 1))) [])])])]⟩
/-- floors_sure_floor: 0 thing 1 floor -/
def f56 : Fn := ⟨1, 2, [.asg (.n 1) (.call 2 [(.v 0)]), .iff (.not (.call 54 [(.v 1)])) [.never] [], .ret (.v 1)]⟩
/-- floors_is_bad_of: 0 floor -/
def f57 : Fn := ⟨1, 1, [.ret (.and [(.cmp .eq (.ix (.v 0) (.c (.int 0))) (.c (.int 0))), (.or [(.cmp .eq (.blt .len [(.ix (.v 0) (.c (.int 1)))]) (.c (.int 1))), (.and [(.cmp .eq (.blt .len [(.ix (.v 0) (.c (.int 1)))]) (.c (.int 2))), (.cmp .ne (.ix (.ix (.v 0) (.c (.int 1))) (.c (.int 0))) (.ix (.ix (.v 0) (.c (.int 1))) (.c (.int 1))))])])])]⟩
/-- shares_is_less: 0 one 1 other -/
def f59 : Fn := ⟨2, 2, [.ret (.cmp .lt (.bin .mul (.ix (.v 0) (.c (.int 0))) (.ix (.v 1) (.c (.int 1)))) (.bin .mul (.ix (.v 1) (.c (.int 0))) (.ix (.v 0) (.c (.int 1)))))]⟩
/-- law__law_less: 0 one 1 two -/
def f60 : Fn := ⟨2, 2, [.ret (.cmp .lt (.bin .mul (.ix (.v 0) (.c (.int 0))) (.ix (.v 1) (.c (.int 1)))) (.bin .mul (.ix (.v 1) (.c (.int 0))) (.ix (.v 0) (.c (.int 1)))))]⟩
/-- law__law_minus: 0 one 1 two -/
def f61 : Fn := ⟨2, 2, [.ret (.call 47 [(.v 0), (.tup [(.neg (.ix (.v 1) (.c (.int 0)))), (.ix (.v 1) (.c (.int 1)))])])]⟩
/-- law__law_box: 0 script 1 k 2 bit_so -/
def f63 : Fn := ⟨2, 3, [.asg (.n 2) (.ife (.cmp .lt (.v 1) (.blt .len [(.v 0)])) (.ix (.v 0) (.v 1)) (.c (.int 0))), .ret (.lst [(.bin .mul (.blt .abs [(.v 2)]) (.blt .int [(.cmp .ge (.blt .abs [(.v 2)]) (.bin .pow (.c (.int 10)) (.c (.int 18))))])), (.bin .add (.bin .add (.bin .mod (.blt .int [(.v 2)]) (.c (.int 2305843009213693951))) (.bin .mul (.c (.int 39373)) (.v 1))) (.c (.int 20953036))), (.c (.int 0))])]⟩
/-- law__law_rows: 0 many 1 least_so 2 most 3 found 4 turn 5 row_so 6 own -/
def f65 : Fn := ⟨3, 7, [.asg (.n 3) (.lst [(.tup [])]), .fr (.n 4) (.blt .range [(.v 0)]) [.asg (.n 3) (.call 62 [(.lc (.lc (.bin .add (.v 5) (.tup [(.v 6)])) (.n 6) (.blt .range [(.ife (.cmp .ne (.v 5) (.tup [])) (.ix (.v 5) (.neg (.c (.int 1)))) (.v 1)), (.bin .add (.v 2) (.c (.int 1)))]) []) (.n 5) (.v 3) [])])], .ret (.v 3)]⟩
/-- law__law_round: 0 book 1 taken_so 2 above 3 below -/
def f66 : Fn := ⟨1, 4, [.asg (.n 1) (.call 48 [(.lc (.call 46 [(.bin .sub (.v 2) (.c (.int 1))), (.v 2)]) (.t [(.n 2), (.n 3)]) (.ix (.v 0) (.c (.int 1))) [])]), .ret (.call 61 [(.tup [(.bin .sub (.c (.int 2)) (.bin .mul (.c (.int 2)) (.ix (.v 0) (.c (.int 0))))), (.c (.int 1))]), (.v 1)])]⟩
/-- floors_is_floor: 0 thing -/
def f67 : Fn := ⟨1, 1, [.ret (.call 54 [(.v 0)])]⟩
/-- floors_floor_round: 0 floor -/
def f68 : Fn := ⟨1, 1, [.ret (.call 55 [(.call 56 [(.v 0)])])]⟩
/-- floors_is_bad_floor: 0 floor -/
def f69 : Fn := ⟨1, 1, [.ret (.call 57 [(.call 56 [(.v 0)])])]⟩
/-- law__law_of: 0 tin 1 goods_so -/
def f71 : Fn := ⟨2, 2, [.ret (.ix (.v 1) (.call 43 [(.v 0), (.blt .len [(.v 1)])]))]⟩
/-- law__law_times: 0 one 1 two -/
def f72 : Fn := ⟨2, 2, [.ret (.call 46 [(.bin .mul (.ix (.v 0) (.c (.int 0))) (.ix (.v 1) (.c (.int 0)))), (.bin .mul (.ix (.v 0) (.c (.int 1))) (.ix (.v 1) (.c (.int 1))))])]⟩
/-- law__law_by_worth: 0 shares_so 1 found 2 own 3 place 4 its -/
def f73 : Fn := ⟨1, 5, [.asg (.n 1) (.lst []), .fr (.n 2) (.v 0) [.asg (.n 3) (.blt .len [(.lc (.v 4) (.n 4) (.v 1) [(.not (.call 60 [(.v 2), (.v 4)]))])]), .asg (.n 1) (.bin .add (.bin .add (.sl (.v 1) none (some (.v 3))) (.lst [(.v 2)])) (.sl (.v 1) (some (.v 3)) none))], .ret (.blt .tuple [(.v 1)])]⟩
/-- gluings_times_two: 0 one 1 other 2 a 3 b 4 c 5 d 6 e 7 f 8 g 9 h -/
def f74 : Fn := ⟨2, 10, [.asg (.t [(.t [(.n 2), (.n 3)]), (.t [(.n 4), (.n 5)])]) (.v 0), .asg (.t [(.t [(.n 6), (.n 7)]), (.t [(.n 8), (.n 9)])]) (.v 1), .ret (.tup [(.tup [(.bin .add (.bin .mul (.v 2) (.v 6)) (.bin .mul (.v 3) (.v 8))), (.bin .add (.bin .mul (.v 2) (.v 7)) (.bin .mul (.v 3) (.v 9)))]), (.tup [(.bin .add (.bin .mul (.v 4) (.v 6)) (.bin .mul (.v 5) (.v 8))), (.bin .add (.bin .mul (.v 4) (.v 7)) (.bin .mul (.v 5) (.v 9)))])])]⟩
/-- gluings_twist_by: 0 word 1 often -/
def f75 : Fn := ⟨2, 2, [.ret (.ife (.cmp .eq (.v 0) (.g 13)) (.tup [(.tup [(.c (.int 1)), (.v 1)]), (.tup [(.c (.int 0)), (.c (.int 1))])]) (.tup [(.tup [(.c (.int 1)), (.c (.int 0))]), (.tup [(.v 1), (.c (.int 1))])]))]⟩
/-- lenses_lens_by: 0 above 1 below 2 sign -/
def f76 : Fn := ⟨2, 3, [.iff (.cmp .eq (.v 0) (.c (.int 0))) [.ret (.tup [(.c (.int 0)), (.c (.int 1))])] [], .asg (.n 2) (.ife (.cmp .gt (.v 0) (.c (.int 0))) (.c (.int 1)) (.neg (.c (.int 1)))), .ret (.tup [(.blt .abs [(.v 0)]), (.bin .mod (.bin .mul (.v 2) (.v 1)) (.blt .abs [(.v 0)]))])]⟩
/-- gluings_is_twists_of: 0 thing 1 own -/
def f78 : Fn := ⟨1, 2, [.iff (.or [(.not (.isi (.v 0) [.tuple])), (.cmp .gt (.blt .len [(.v 0)]) (.g 14)), (.not (.blt .all [(.lc (.call 4 [(.v 1), (.c (.int 2))]) (.n 1) (.v 0) [])]))]) [.ret (.c (.bool false))] [], .iff (.not (.blt .all [(.lc (.and [(.isi (.ix (.v 1) (.c (.int 0))) [.str]), (.cmp .inn (.ix (.v 1) (.c (.int 0))) (.tup [(.g 13), (.g 15)]))]) (.n 1) (.v 0) [])])) [.ret (.c (.bool false))] [], .ret (.blt .all [(.lc (.call 1 [(.ix (.v 1) (.c (.int 1))), (.bin .mul (.neg (.c (.int 10))) (.bin .pow (.g 16) (.c (.int 2)))), (.bin .mul (.c (.int 10)) (.bin .pow (.g 16) (.c (.int 2))))]) (.n 1) (.v 0) [])])]⟩
/-- gluings_sure_glue: 0 thing 1 glue -/
def f79 : Fn := ⟨1, 2, [.asg (.n 1) (.call 2 [(.v 0)]), .iff (.not (.call 77 [(.v 1)])) [.never] [], .ret (.v 1)]⟩
/-- gluings_back_two: 0 glue 1 a 2 b 3 c 4 d -/
def f80 : Fn := ⟨1, 5, [.asg (.t [(.t [(.n 1), (.n 2)]), (.t [(.n 3), (.n 4)])]) (.v 0), .ret (.tup [(.tup [(.v 4), (.neg (.v 2))]), (.tup [(.neg (.v 3)), (.v 1)])])]⟩
/-- gluings_glue_by: 0 twists 1 found 2 word 3 often -/
def f81 : Fn := ⟨1, 4, [.asg (.n 1) (.tup [(.tup [(.c (.int 1)), (.c (.int 0))]), (.tup [(.c (.int 0)), (.c (.int 1))])]), .fr (.t [(.n 2), (.n 3)]) (.v 0) [.asg (.n 1) (.call 74 [(.v 1), (.call 75 [(.v 2), (.v 3)])])], .ret (.v 1)]⟩
/-- gluings_sure_twists: 0 thing 1 twists -/
def f82 : Fn := ⟨1, 2, [.asg (.n 1) (.call 2 [(.v 0)]), .iff (.not (.call 78 [(.v 1)])) [.never] [], .ret (.v 1)]⟩
/-- gluings_lens_glued: 0 glue 1 a 2 b 3 c 4 d -/
def f84 : Fn := ⟨1, 5, [.asg (.t [(.t [(.n 1), (.n 2)]), (.t [(.n 3), (.n 4)])]) (.v 0), .ret (.ife (.cmp .ne (.v 3) (.c (.int 0))) (.call 76 [(.v 3), (.v 1)]) (.tup [(.c (.int 0)), (.c (.int 1))]))]⟩
/-- lenses_least_lens: 0 lens -/
def f85 : Fn := ⟨1, 1, [.ret (.tup [(.ix (.v 0) (.c (.int 0))), (.ife (.cmp .gt (.ix (.v 0) (.c (.int 0))) (.c (.int 1))) (.blt .min [(.ix (.v 0) (.c (.int 1))), (.call 27 [(.ix (.v 0) (.c (.int 1))), (.ix (.v 0) (.c (.int 0)))])]) (.ix (.v 0) (.c (.int 1))))])]⟩
/-- law__law_back: 0 number 1 below 2 one 3 two 4 near 5 far 6 often -/
def f86 : Fn := ⟨2, 7, [.asg (.t [(.n 2), (.n 3), (.n 4), (.n 5)]) (.tup [(.bin .mod (.v 0) (.v 1)), (.v 1), (.c (.int 1)), (.c (.int 0))]), .whl (.cmp .ne (.v 3) (.c (.int 0))) [.asg (.n 6) (.bin .fdiv (.v 2) (.v 3)), .asg (.t [(.n 2), (.n 3), (.n 4), (.n 5)]) (.tup [(.v 3), (.bin .mod (.v 2) (.v 3)), (.v 5), (.bin .sub (.v 4) (.bin .mul (.v 6) (.v 5)))])], .ret (.bin .mod (.v 4) (.v 1))]⟩
/-- law__law_times_two: 0 one 1 two 2 row_so 3 j 4 k -/
def f87 : Fn := ⟨2, 5, [.ret (.blt .tuple [(.lc (.blt .tuple [(.lc (.blt .sum [(.lc (.bin .mul (.ix (.v 2) (.v 4)) (.ix (.ix (.v 1) (.v 4)) (.v 3))) (.n 4) (.tup [(.c (.int 0)), (.c (.int 1))]) [])]) (.n 3) (.tup [(.c (.int 0)), (.c (.int 1))]) [])]) (.n 2) (.v 0) [])])]⟩
/-- law__law_box: 0 script 1 k 2 bit_so -/
def f88 : Fn := ⟨2, 3, [.asg (.n 2) (.ife (.cmp .lt (.v 1) (.blt .len [(.v 0)])) (.ix (.v 0) (.v 1)) (.c (.int 0))), .ret (.lst [(.bin .mul (.blt .abs [(.v 2)]) (.blt .int [(.cmp .ge (.blt .abs [(.v 2)]) (.bin .pow (.c (.int 10)) (.c (.int 18))))])), (.bin .add (.bin .add (.bin .mod (.blt .int [(.v 2)]) (.c (.int 2305843009213693951))) (.bin .mul (.c (.int 39373)) (.v 1))) (.c (.int 20953037))), (.c (.int 0))])]⟩
/-- law__law_glue: 0 twists_so 1 found 2 word 3 times -/
def f89 : Fn := ⟨1, 4, [.asg (.n 1) (.tup [(.tup [(.c (.int 1)), (.c (.int 0))]), (.tup [(.c (.int 0)), (.c (.int 1))])]), .fr (.t [(.n 2), (.n 3)]) (.v 0) [.asg (.n 1) (.call 87 [(.v 1), (.ife (.cmp .eq (.v 2) (.c (.str "r"))) (.tup [(.tup [(.c (.int 1)), (.v 3)]), (.tup [(.c (.int 0)), (.c (.int 1))])]) (.tup [(.tup [(.c (.int 1)), (.c (.int 0))]), (.tup [(.v 3), (.c (.int 1))])]))])], .ret (.v 1)]⟩
/-- gluings_twists_of: 0 glue 1 found -/
def f90 : Fn := ⟨1, 2, [.asg (.n 1) (.blt .tuple [(.call 83 [(.call 79 [(.v 0)])])]), .iff (.not (.call 78 [(.v 1)])) [.never] [], .ret (.v 1)]⟩
/-- gluings_is_twists: 0 thing -/
def f91 : Fn := ⟨1, 1, [.ret (.call 78 [(.v 0)])]⟩
/-- gluings_glue_of: 0 twists 1 found -/
def f92 : Fn := ⟨1, 2, [.asg (.n 1) (.call 81 [(.call 82 [(.v 0)])]), .iff (.not (.call 77 [(.v 1)])) [.never] [], .ret (.v 1)]⟩
/-- gluings_is_glue: 0 thing -/
def f93 : Fn := ⟨1, 1, [.ret (.call 77 [(.v 0)])]⟩
/-- gluings_are_twists_of: 0 glue 1 thing 2 own -/
def f94 : Fn := ⟨2, 3, [.asg (.n 2) (.call 79 [(.v 0)]), .ret (.and [(.call 78 [(.v 1)]), (.cmp .eq (.call 81 [(.v 1)]) (.v 2))])]⟩
/-- law__law_least: 0 lens -/
def f95 : Fn := ⟨1, 1, [.ret (.ife (.cmp .gt (.ix (.v 0) (.c (.int 0))) (.c (.int 1))) (.tup [(.ix (.v 0) (.c (.int 0))), (.blt .min [(.ix (.v 0) (.c (.int 1))), (.call 86 [(.ix (.v 0) (.c (.int 1))), (.ix (.v 0) (.c (.int 0)))])])]) (.v 0))]⟩
/-- law__law_lens: 0 above 1 below -/
def f96 : Fn := ⟨2, 2, [.iff (.cmp .eq (.v 0) (.c (.int 0))) [.ret (.tup [(.c (.int 0)), (.c (.int 1))])] [], .ret (.tup [(.blt .abs [(.v 0)]), (.bin .mod (.ife (.cmp .gt (.v 0) (.c (.int 0))) (.v 1) (.neg (.v 1))) (.blt .abs [(.v 0)]))])]⟩
/-- gluings_glued_lens: 0 glue 1 found -/
def f97 : Fn := ⟨1, 2, [.asg (.n 1) (.call 84 [(.call 79 [(.v 0)])]), .iff (.cmp .gt (.ix (.v 1) (.c (.int 0))) (.g 16)) [.never] [], .ret (.call 85 [(.v 1)])]⟩
/-- gluings_glue_back: 0 glue -/
def f98 : Fn := ⟨1, 1, [.ret (.call 80 [(.call 79 [(.v 0)])])]⟩
/-- gluings_glue_turn: 0 glue 1 own -/
def f99 : Fn := ⟨1, 2, [.asg (.n 1) (.call 79 [(.v 0)]), .ret (.bin .add (.ix (.ix (.v 1) (.c (.int 0))) (.c (.int 0))) (.ix (.ix (.v 1) (.c (.int 1))) (.c (.int 1))))]⟩
/-- gluings_glue_times: 0 one 1 other 2 found -/
def f100 : Fn := ⟨2, 3, [.asg (.n 2) (.call 74 [(.call 79 [(.v 0)]), (.call 79 [(.v 1)])]), .iff (.not (.call 77 [(.v 2)])) [.never] [], .ret (.v 2)]⟩
/-- law__law_units: 0 below 1 own -/
def f101 : Fn := ⟨1, 2, [.ret (.ife (.cmp .gt (.v 0) (.c (.int 1))) (.lc (.v 1) (.n 1) (.blt .range [(.c (.int 1)), (.v 0)]) [(.cmp .eq (.call 45 [(.v 1), (.v 0)]) (.c (.int 1)))]) (.lst [(.c (.int 0))]))]⟩
/-- gluings_glue_of_lens: 0 above 1 below 2 back -/
def f102 : Fn := ⟨2, 3, [.iff (.or [(.not (.call 30 [(.tup [(.v 0), (.v 1)]), (.c (.int 0)), (.g 16)])), (.cmp .ne (.blt .gcd [(.v 0), (.v 1)]) (.c (.int 1)))]) [.never] [], .iff (.cmp .eq (.v 0) (.c (.int 0))) [.ret (.tup [(.tup [(.c (.int 1)), (.c (.int 0))]), (.tup [(.c (.int 0)), (.c (.int 1))])])] [], .asg (.n 2) (.call 27 [(.v 1), (.v 0)]), .ret (.tup [(.tup [(.v 1), (.bin .fdiv (.bin .sub (.bin .mul (.v 1) (.v 2)) (.c (.int 1))) (.v 0))]), (.tup [(.v 0), (.v 2)])])]⟩
/-- wholes_pair_for: 0 one 1 other 2 d -/
def f104 : Fn := ⟨2, 3, [.iff (.cmp .eq (.v 1) (.c (.int 0))) [.ret (.tup [(.c (.int 0)), (.v 0)])] [], .asg (.n 2) (.call 27 [(.v 0), (.blt .abs [(.v 1)])]), .ret (.tup [(.bin .fdiv (.bin .sub (.bin .mul (.v 0) (.v 2)) (.c (.int 1))) (.v 1)), (.v 2)])]⟩
/-- roads_told_once: 0 one 1 other -/
def f105 : Fn := ⟨2, 2, [.ret (.ife (.or [(.cmp .gt (.v 0) (.c (.int 0))), (.and [(.cmp .eq (.v 0) (.c (.int 0))), (.cmp .gt (.v 1) (.c (.int 0)))])]) (.tup [(.v 0), (.v 1)]) (.tup [(.neg (.v 0)), (.neg (.v 1))]))]⟩
/-- roads_nearest_by: 0 above 1 below 2 found 3 own -/
def f106 : Fn := ⟨2, 4, [.asg (.n 2) (.lst []), .whl (.cmp .ne (.v 1) (.c (.int 0))) [.asg (.n 3) (.bin .mul (.bin .fdiv (.bin .add (.bin .mul (.c (.int 2)) (.v 0)) (.blt .abs [(.v 1)])) (.bin .mul (.c (.int 2)) (.blt .abs [(.v 1)]))) (.ife (.cmp .gt (.v 1) (.c (.int 0))) (.c (.int 1)) (.neg (.c (.int 1))))), .app 2 (.v 3), .par [(.n 0), (.n 1)] [(.v 1), (.bin .sub (.bin .mul (.v 3) (.v 1)) (.v 0))]], .ret (.v 2)]⟩
/-- roads_is_rim_of: 0 thing 1 own -/
def f107 : Fn := ⟨1, 2, [.iff (.or [(.not (.call 4 [(.v 0), (.c (.int 2))])), (.not (.blt .all [(.lc (.call 5 [(.v 1), (.g 17)]) (.n 1) (.v 0) [])])), (.cmp .ne (.blt .gcd [(.ix (.v 0) (.c (.int 0))), (.ix (.v 0) (.c (.int 1)))]) (.c (.int 1)))]) [.ret (.c (.bool false))] [], .ret (.or [(.cmp .gt (.ix (.v 0) (.c (.int 0))) (.c (.int 0))), (.cmp .eq (.v 0) (.tup [(.c (.int 0)), (.c (.int 1))]))])]⟩
/-- roads_crossing: 0 one 1 other -/
def f108 : Fn := ⟨2, 2, [.ret (.bin .sub (.bin .mul (.ix (.v 0) (.c (.int 0))) (.ix (.v 1) (.c (.int 1)))) (.bin .mul (.ix (.v 0) (.c (.int 1))) (.ix (.v 1) (.c (.int 0)))))]⟩
/-- roads_sure_rim: 0 thing 1 rim -/
def f109 : Fn := ⟨1, 2, [.asg (.n 1) (.call 2 [(.v 0)]), .iff (.not (.call 107 [(.v 1)])) [.never] [], .ret (.v 1)]⟩
/-- roads_led_by: 0 rows 1 rim 2 a 3 b 4 c 5 d -/
def f110 : Fn := ⟨2, 6, [.asg (.t [(.t [(.n 2), (.n 3)]), (.t [(.n 4), (.n 5)])]) (.v 0), .ret (.tup [(.bin .add (.bin .mul (.v 2) (.ix (.v 1) (.c (.int 0)))) (.bin .mul (.v 3) (.ix (.v 1) (.c (.int 1))))), (.bin .add (.bin .mul (.v 4) (.ix (.v 1) (.c (.int 0)))) (.bin .mul (.v 5) (.ix (.v 1) (.c (.int 1)))))])]⟩
/-- roads_led_first: 0 rim 1 near 2 far -/
def f111 : Fn := ⟨1, 3, [.asg (.t [(.n 1), (.n 2)]) (.call 104 [(.ix (.v 0) (.c (.int 0))), (.ix (.v 0) (.c (.int 1)))]), .ret (.tup [(.tup [(.v 2), (.neg (.v 1))]), (.tup [(.neg (.ix (.v 0) (.c (.int 1)))), (.ix (.v 0) (.c (.int 0)))])])]⟩
/-- roads_back_rows: 0 rows 1 a 2 b 3 c 4 d -/
def f112 : Fn := ⟨1, 5, [.asg (.t [(.t [(.n 1), (.n 2)]), (.t [(.n 3), (.n 4)])]) (.v 0), .ret (.tup [(.tup [(.v 4), (.neg (.v 2))]), (.tup [(.neg (.v 3)), (.v 1)])])]⟩
/-- roads_road_from_first: 0 goal 1 numbers 2 own 3 one 4 other 5 found 6 ahead 7 at -/
def f113 : Fn := ⟨1, 8, [.asg (.t [(.n 3), (.n 4)]) (.call 105 [(.ix (.v 0) (.c (.int 0))), (.ix (.v 0) (.c (.int 1)))]), .iff (.cmp .eq (.tup [(.v 3), (.v 4)]) (.tup [(.c (.int 1)), (.c (.int 0))])) [.ret (.lst [(.tup [(.c (.int 1)), (.c (.int 0))])])] [], .iff (.cmp .eq (.blt .abs [(.v 4)]) (.c (.int 1))) [.ret (.lst [(.tup [(.c (.int 1)), (.c (.int 0))]), (.tup [(.v 3), (.v 4)])])] [], .asg (.n 1) (.call 106 [(.ife (.cmp .gt (.v 4) (.c (.int 0))) (.v 3) (.neg (.v 3))), (.blt .abs [(.v 4)])]), .par [(.n 5), (.n 6), (.n 7)] [(.lst [(.tup [(.c (.int 1)), (.c (.int 0))]), (.tup [(.ix (.v 1) (.c (.int 0))), (.c (.int 1))])]), (.tup [(.c (.int 1)), (.c (.int 0))]), (.tup [(.ix (.v 1) (.c (.int 0))), (.c (.int 1))])], .fr (.n 2) (.sl (.v 1) (some (.c (.int 1))) none) [.par [(.n 6), (.n 7)] [(.v 7), (.tup [(.bin .sub (.bin .mul (.v 2) (.ix (.v 7) (.c (.int 0)))) (.ix (.v 6) (.c (.int 0)))), (.bin .sub (.bin .mul (.v 2) (.ix (.v 7) (.c (.int 1)))) (.ix (.v 6) (.c (.int 1))))])], .app 5 (.v 7)], .ret (.lc (.call 105 [(.ix (.v 2) (.c (.int 0))), (.ix (.v 2) (.c (.int 1)))]) (.n 2) (.v 5) [])]⟩
/-- lenses_lens_of_rims: 0 one 1 other 2 near 3 far -/
def f115 : Fn := ⟨2, 4, [.asg (.t [(.n 2), (.n 3)]) (.call 104 [(.ix (.v 0) (.c (.int 0))), (.ix (.v 0) (.c (.int 1)))]), .ret (.call 76 [(.bin .add (.bin .mul (.ix (.v 0) (.c (.int 0))) (.ix (.v 1) (.c (.int 1)))) (.bin .mul (.ix (.v 1) (.c (.int 0))) (.ix (.v 0) (.c (.int 1))))), (.bin .add (.bin .mul (.ix (.v 1) (.c (.int 0))) (.v 3)) (.bin .mul (.ix (.v 1) (.c (.int 1))) (.v 2)))])]⟩
/-- rooms_is_lens_form: 0 form -/
def f116 : Fn := ⟨1, 1, [.ret (.and [(.cmp .eq (.ix (.v 0) (.c (.int 0))) (.c (.int 0))), (.cmp .lt (.blt .len [(.ix (.v 0) (.c (.int 2)))]) (.c (.int 3)))])]⟩
/-- rooms_lens_by_form: 0 form 1 tubes 2 one 3 other -/
def f117 : Fn := ⟨1, 4, [.asg (.n 1) (.bin .add (.ix (.v 0) (.c (.int 2))) (.bin .mul (.tup [(.tup [(.c (.int 1)), (.c (.int 0))])]) (.bin .sub (.c (.int 2)) (.blt .len [(.ix (.v 0) (.c (.int 2)))])))), .par [(.n 2), (.n 3)] [(.ix (.v 1) (.c (.int 0))), (.ix (.v 1) (.c (.int 1)))], .ret (.call 115 [(.tup [(.ix (.v 2) (.c (.int 0))), (.bin .add (.ix (.v 2) (.c (.int 1))) (.bin .mul (.ix (.v 0) (.c (.int 1))) (.ix (.v 2) (.c (.int 0)))))]), (.v 3)])]⟩
/-- rooms_room_by: 0 book 1 form -/
def f118 : Fn := ⟨1, 2, [.asg (.n 1) (.call 9 [(.v 0)]), .ret (.ife (.call 116 [(.v 1)]) (.bin .add (.tup [(.g 19)]) (.call 85 [(.call 117 [(.v 1)])])) (.tup [(.g 20), (.v 1)]))]⟩
/-- law__law_form: 0 book 1 above 2 below -/
def f119 : Fn := ⟨1, 3, [.ret (.tup [(.ix (.v 0) (.c (.int 0))), (.blt .sum [(.lc (.bin .fdiv (.v 2) (.v 1)) (.t [(.n 1), (.n 2)]) (.ix (.v 0) (.c (.int 1))) [])]), (.blt .tuple [(.blt .sorted [(.lc (.tup [(.v 1), (.bin .mod (.v 2) (.v 1))]) (.t [(.n 1), (.n 2)]) (.ix (.v 0) (.c (.int 1))) [(.cmp .gt (.v 1) (.c (.int 1)))])])])])]⟩
/-- law__law_lens_of_two: 0 one 1 two 2 d 3 c -/
def f120 : Fn := ⟨2, 4, [.asg (.n 2) (.ife (.and [(.cmp .ne (.ix (.v 0) (.c (.int 1))) (.c (.int 0))), (.cmp .gt (.blt .abs [(.ix (.v 0) (.c (.int 1)))]) (.c (.int 1)))]) (.call 86 [(.ix (.v 0) (.c (.int 0))), (.blt .abs [(.ix (.v 0) (.c (.int 1)))])]) (.ife (.cmp .ne (.ix (.v 0) (.c (.int 1))) (.c (.int 0))) (.c (.int 0)) (.c (.int 1)))), .asg (.n 3) (.ife (.cmp .ne (.ix (.v 0) (.c (.int 1))) (.c (.int 0))) (.bin .fdiv (.bin .sub (.bin .mul (.ix (.v 0) (.c (.int 0))) (.v 2)) (.c (.int 1))) (.ix (.v 0) (.c (.int 1)))) (.c (.int 0))), .ret (.call 96 [(.bin .add (.bin .mul (.ix (.v 0) (.c (.int 0))) (.ix (.v 1) (.c (.int 1)))) (.bin .mul (.ix (.v 1) (.c (.int 0))) (.ix (.v 0) (.c (.int 1))))), (.bin .add (.bin .mul (.ix (.v 1) (.c (.int 0))) (.v 2)) (.bin .mul (.ix (.v 1) (.c (.int 1))) (.v 3)))])]⟩
/-- law__law_box: 0 script 1 k 2 bit_so -/
def f122 : Fn := ⟨2, 3, [.asg (.n 2) (.ife (.cmp .lt (.v 1) (.blt .len [(.v 0)])) (.ix (.v 0) (.v 1)) (.c (.int 0))), .ret (.lst [(.bin .mul (.blt .abs [(.v 2)]) (.blt .int [(.cmp .ge (.blt .abs [(.v 2)]) (.bin .pow (.c (.int 10)) (.c (.int 18))))])), (.bin .add (.bin .add (.bin .mod (.blt .int [(.v 2)]) (.c (.int 2305843009213693951))) (.bin .mul (.c (.int 39373)) (.v 1))) (.c (.int 20953038))), (.c (.int 0))])]⟩
/-- law__law_rims: 0 most 1 pairs_so 2 own -/
def f123 : Fn := ⟨1, 3, [.asg (.n 1) (.call 121 [(.lrg [(.bin .add (.v 0) (.c (.int 1)))]), (.lrg [(.neg (.v 0)), (.bin .add (.v 0) (.c (.int 1)))])]), .ret (.lc (.v 2) (.n 2) (.v 1) [(.and [(.cmp .eq (.call 45 [(.ix (.v 2) (.c (.int 0))), (.ix (.v 2) (.c (.int 1)))]) (.c (.int 1))), (.or [(.cmp .gt (.ix (.v 2) (.c (.int 0))) (.c (.int 0))), (.cmp .eq (.v 2) (.tup [(.c (.int 0)), (.c (.int 1))]))])])])]⟩
/-- law__law_cross: 0 one 1 two -/
def f124 : Fn := ⟨2, 2, [.ret (.blt .abs [(.bin .sub (.bin .mul (.ix (.v 0) (.c (.int 0))) (.ix (.v 1) (.c (.int 1)))) (.bin .mul (.ix (.v 0) (.c (.int 1))) (.ix (.v 1) (.c (.int 0)))))])]⟩
/-- roads_rim_road: 0 one 1 other 2 rows 3 led 4 back 5 found 6 road 7 near 8 far 9 own -/
def f125 : Fn := ⟨2, 10, [.par [(.n 7), (.n 8)] [(.call 109 [(.v 0)]), (.call 109 [(.v 1)])], .asg (.n 2) (.call 111 [(.v 7)]), .asg (.n 3) (.call 110 [(.v 2), (.v 8)]), .asg (.n 4) (.call 112 [(.v 2)]), .asg (.n 5) (.lc (.call 110 [(.v 4), (.v 9)]) (.n 9) (.call 113 [(.v 3)]) []), .asg (.n 6) (.blt .tuple [(.lc (.call 105 [(.ix (.v 9) (.c (.int 0))), (.ix (.v 9) (.c (.int 1)))]) (.n 9) (.v 5) [])]), .iff (.or [(.not (.blt .all [(.lc (.call 107 [(.v 9)]) (.n 9) (.v 6) [])])), (.cmp .gt (.blt .len [(.v 6)]) (.g 18))]) [.never] [], .ret (.v 6)]⟩
/-- roads_road_steps: 0 one 1 other 2 near 3 far -/
def f126 : Fn := ⟨2, 4, [.par [(.n 2), (.n 3)] [(.call 109 [(.v 0)]), (.call 109 [(.v 1)])], .ret (.bin .sub (.blt .len [(.call 113 [(.call 110 [(.call 111 [(.v 2)]), (.v 3)])])]) (.c (.int 1)))]⟩
/-- roads_how_often_cross: 0 one 1 other -/
def f127 : Fn := ⟨2, 2, [.ret (.blt .abs [(.call 108 [(.call 109 [(.v 0)]), (.call 109 [(.v 1)])])])]⟩
/-- roads_are_neighbours: 0 one 1 other -/
def f128 : Fn := ⟨2, 2, [.ret (.cmp .eq (.blt .abs [(.call 108 [(.call 109 [(.v 0)]), (.call 109 [(.v 1)])])]) (.c (.int 1)))]⟩
/-- roads_is_rim_road: 0 one 1 other 2 thing 3 near 4 far 5 k 6 own -/
def f129 : Fn := ⟨3, 7, [.par [(.n 3), (.n 4)] [(.call 109 [(.v 0)]), (.call 109 [(.v 1)])], .iff (.or [(.not (.isi (.v 2) [.tuple])), (.cmp .eq (.v 2) (.tup [])), (.not (.blt .all [(.lc (.call 107 [(.v 6)]) (.n 6) (.v 2) [])]))]) [.ret (.c (.bool false))] [], .iff (.or [(.cmp .ne (.ix (.v 2) (.c (.int 0))) (.v 3)), (.cmp .ne (.ix (.v 2) (.neg (.c (.int 1)))) (.v 4))]) [.ret (.c (.bool false))] [], .ret (.blt .all [(.lc (.cmp .eq (.blt .abs [(.call 108 [(.ix (.v 2) (.v 5)), (.ix (.v 2) (.bin .add (.v 5) (.c (.int 1))))])]) (.c (.int 1))) (.n 5) (.blt .range [(.bin .sub (.blt .len [(.v 2)]) (.c (.int 1)))]) [])])]⟩
/-- roads_is_rim: 0 thing -/
def f130 : Fn := ⟨1, 1, [.ret (.call 107 [(.v 0)])]⟩
/-- law__law_room: 0 book 1 two_so 2 one 3 handles 4 whole_so 5 turned_so -/
def f133 : Fn := ⟨1, 6, [.asg (.t [(.n 3), (.n 4), (.n 5)]) (.call 119 [(.v 0)]), .iff (.or [(.cmp .gt (.v 3) (.c (.int 0))), (.cmp .gt (.blt .len [(.v 5)]) (.c (.int 2)))]) [.ret (.tup [(.c (.str "book")), (.tup [(.v 3), (.v 4), (.v 5)])])] [], .asg (.n 1) (.bin .add (.v 5) (.bin .mul (.tup [(.tup [(.c (.int 1)), (.c (.int 0))])]) (.bin .sub (.c (.int 2)) (.blt .len [(.v 5)])))), .asg (.n 2) (.tup [(.ix (.ix (.v 1) (.c (.int 0))) (.c (.int 0))), (.bin .add (.ix (.ix (.v 1) (.c (.int 0))) (.c (.int 1))) (.bin .mul (.v 4) (.ix (.ix (.v 1) (.c (.int 0))) (.c (.int 0)))))]), .ret (.bin .add (.tup [(.c (.str "lens"))]) (.call 95 [(.call 120 [(.v 2), (.ix (.v 1) (.c (.int 1)))])]))]⟩
/-- roads_rims_lens: 0 one 1 other 2 led 3 near 4 far -/
def f134 : Fn := ⟨2, 5, [.par [(.n 3), (.n 4)] [(.call 109 [(.v 0)]), (.call 109 [(.v 1)])], .asg (.n 2) (.call 110 [(.call 111 [(.v 3)]), (.v 4)]), .iff (.cmp .gt (.blt .abs [(.ix (.v 2) (.c (.int 1)))]) (.g 17)) [.never] [], .ret (.call 85 [(.call 76 [(.ix (.v 2) (.c (.int 1))), (.neg (.ix (.v 2) (.c (.int 0))))])])]⟩
/-- rooms_room: 0 book -/
def f135 : Fn := ⟨1, 1, [.ret (.call 118 [(.call 10 [(.v 0)])])]⟩
/-- roads_rim_of: 0 one 1 other -/
def f136 : Fn := ⟨2, 2, [.iff (.or [(.not (.call 5 [(.v 0), (.g 17)])), (.not (.call 5 [(.v 1), (.g 17)])), (.cmp .ne (.blt .gcd [(.v 0), (.v 1)]) (.c (.int 1)))]) [.never] [], .ret (.call 105 [(.v 0), (.v 1)])]⟩
/-- roads_neighbours_of: 0 rim 1 most 2 own 3 its -/
def f137 : Fn := ⟨2, 4, [.asg (.n 2) (.call 109 [(.v 0)]), .ret (.lc (.v 3) (.n 3) (.call 114 [(.v 1)]) [(.cmp .eq (.blt .abs [(.call 108 [(.v 2), (.v 3)])]) (.c (.int 1)))])]⟩
/-- books_is_form_of: 0 thing 1 own -/
def f138 : Fn := ⟨1, 2, [.iff (.or [(.not (.call 4 [(.v 0), (.c (.int 3))])), (.not (.call 1 [(.ix (.v 0) (.c (.int 0))), (.c (.int 0)), (.g 1)])), (.not (.call 5 [(.ix (.v 0) (.c (.int 1))), (.bin .mul (.g 2) (.g 0))]))]) [.ret (.c (.bool false))] [], .iff (.or [(.not (.isi (.ix (.v 0) (.c (.int 2))) [.tuple])), (.cmp .gt (.blt .len [(.ix (.v 0) (.c (.int 2)))]) (.g 2)), (.not (.blt .all [(.lc (.call 6 [(.v 1)]) (.n 1) (.ix (.v 0) (.c (.int 2))) [])]))]) [.ret (.c (.bool false))] [], .ret (.and [(.blt .all [(.lc (.chain .lt .lt (.c (.int 0)) (.ix (.v 1) (.c (.int 1))) (.ix (.v 1) (.c (.int 0)))) (.n 1) (.ix (.v 0) (.c (.int 2))) [])]), (.cmp .eq (.ix (.v 0) (.c (.int 2))) (.blt .tuple [(.blt .sorted [(.ix (.v 0) (.c (.int 2)))])]))])]⟩
/-- books_sure_form: 0 thing 1 form -/
def f139 : Fn := ⟨1, 2, [.asg (.n 1) (.call 2 [(.v 0)]), .iff (.not (.call 138 [(.v 1)])) [.never] [], .ret (.v 1)]⟩
/-- books_sure_fit: 0 book -/
def f140 : Fn := ⟨1, 1, [.iff (.not (.call 8 [(.v 0)])) [.never] [], .ret (.v 0)]⟩
/-- plain_are_sized: 0 thing 1 most 2 own -/
def f141 : Fn := ⟨2, 3, [.ret (.and [(.isi (.v 0) [.tuple]), (.blt .all [(.lc (.call 5 [(.v 2), (.v 1)]) (.n 2) (.v 0) [])])])]⟩
/-- rows_least_by: 0 above 1 below 2 found 3 own -/
def f143 : Fn := ⟨2, 4, [.asg (.n 2) (.lst []), .whl (.and [(.cmp .gt (.v 1) (.c (.int 0))), (.cmp .le (.blt .len [(.v 2)]) (.g 21))]) [.asg (.n 3) (.neg (.bin .fdiv (.neg (.v 0)) (.v 1))), .app 2 (.v 3), .par [(.n 0), (.n 1)] [(.v 1), (.bin .sub (.bin .mul (.v 3) (.v 1)) (.v 0))]], .ret (.blt .tuple [(.v 2)])]⟩
/-- links_part_of: 0 fraction -/
def f144 : Fn := ⟨1, 1, [.ret (.call 3 [(.bin .mod (.ix (.v 0) (.c (.int 0))) (.ix (.v 0) (.c (.int 1)))), (.ix (.v 0) (.c (.int 1)))])]⟩
/-- matrices_backward_by: 0 matrix 1 many 2 rows 3 k 4 place 5 j 6 row 7 own 8 part 9 its -/
def f145 : Fn := ⟨1, 10, [.asg (.n 1) (.blt .len [(.v 0)]), .asg (.n 2) (.lc (.bin .add (.lc (.tup [(.v 7), (.c (.int 1))]) (.n 7) (.v 6) []) (.lc (.tup [(.blt .int [(.cmp .eq (.v 3) (.v 5))]), (.c (.int 1))]) (.n 5) (.blt .range [(.v 1)]) [])) (.t [(.n 3), (.n 6)]) (.blt .enumerate [(.v 0)]) []), .fr (.n 3) (.blt .range [(.v 1)]) [.asg (.n 4) (.ix (.lc (.v 5) (.n 5) (.blt .range [(.v 3), (.v 1)]) [(.cmp .ne (.ix (.ix (.ix (.v 2) (.v 5)) (.v 3)) (.c (.int 0))) (.c (.int 0)))]) (.c (.int 0))), .ex (.call 17 [(.v 2), (.v 3), (.v 4)]), .setix 2 (.v 3) (.lc (.call 24 [(.v 7), (.ix (.ix (.v 2) (.v 3)) (.v 3))]) (.n 7) (.ix (.v 2) (.v 3)) []), .fr (.n 5) (.blt .range [(.v 1)]) [.iff (.and [(.cmp .ne (.v 5) (.v 3)), (.cmp .ne (.ix (.ix (.ix (.v 2) (.v 5)) (.v 3)) (.c (.int 0))) (.c (.int 0)))]) [.asg (.n 8) (.ix (.ix (.v 2) (.v 5)) (.v 3)), .setix 2 (.v 5) (.lc (.call 25 [(.v 7), (.call 23 [(.v 8), (.v 9)])]) (.t [(.n 7), (.n 9)]) (.blt .zip [(.ix (.v 2) (.v 5)), (.ix (.v 2) (.v 3))]) [])] []]], .ret (.lc (.sl (.v 6) (some (.v 1)) none) (.n 6) (.v 2) [])]⟩
/-- wholes_units_below: 0 number 1 own -/
def f146 : Fn := ⟨1, 2, [.ret (.ife (.cmp .gt (.v 0) (.c (.int 1))) (.lc (.v 1) (.n 1) (.blt .range [(.c (.int 1)), (.v 0)]) [(.cmp .eq (.blt .gcd [(.v 1), (.v 0)]) (.c (.int 1)))]) (.lst [(.c (.int 0))]))]⟩
/-- links_least_class: 0 above 1 below 2 own -/
def f149 : Fn := ⟨2, 3, [.ret (.ife (.cmp .gt (.v 1) (.c (.int 1))) (.blt .min [(.lc (.bin .mod (.bin .mul (.bin .mul (.v 0) (.v 2)) (.v 2)) (.v 1)) (.n 2) (.call 146 [(.v 1)]) [])]) (.c (.int 0)))]⟩
/-- links_link_by: 0 back 1 one 2 other 3 found 4 near 5 row 6 far 7 own -/
def f150 : Fn := ⟨3, 8, [.asg (.n 3) (.g 3), .fr (.t [(.n 4), (.n 5)]) (.blt .zip [(.v 1), (.v 0)]) [.fr (.t [(.n 6), (.n 7)]) (.blt .zip [(.v 2), (.v 5)]) [.iff (.and [(.cmp .ne (.v 4) (.c (.int 0))), (.cmp .ne (.v 6) (.c (.int 0)))]) [.asg (.n 3) (.call 7 [(.v 3), (.call 23 [(.tup [(.bin .mul (.v 4) (.v 6)), (.c (.int 1))]), (.v 7)])])] []]], .ret (.call 144 [(.v 3)])]⟩
/-- trees_sure_tree: 0 thing 1 tree -/
def f151 : Fn := ⟨1, 2, [.asg (.n 1) (.call 2 [(.v 0)]), .iff (.not (.call 142 [(.v 1)])) [.never] [], .ret (.v 1)]⟩
/-- links_sure_table: 0 tree 1 own -/
def f152 : Fn := ⟨1, 2, [.asg (.n 1) (.call 151 [(.v 0)]), .iff (.cmp .eq (.call 35 [(.call 147 [(.v 1)])]) (.c (.int 0))) [.never] [], .ret (.v 1)]⟩
/-- links_class_by: 0 tree 1 table 2 many 3 row -/
def f153 : Fn := ⟨1, 4, [.asg (.n 1) (.call 147 [(.v 0)]), .par [(.n 2), (.n 3)] [(.blt .abs [(.call 35 [(.v 1)])]), (.call 148 [(.v 1)])], .ret (.tup [(.v 2), (.call 149 [(.ix (.call 150 [(.call 145 [(.v 1)]), (.v 3), (.v 3)]) (.c (.int 0))), (.v 2)])])]⟩
/-- stars_star_by: 0 form 1 worths 2 ties 3 above 4 below 5 ahead 6 own -/
def f154 : Fn := ⟨1, 7, [.par [(.n 1), (.n 2)] [(.lst [(.bin .add (.ix (.v 0) (.c (.int 1))) (.blt .len [(.ix (.v 0) (.c (.int 2)))]))]), (.lst [])], .fr (.t [(.n 3), (.n 4)]) (.ix (.v 0) (.c (.int 2))) [.asg (.n 5) (.c (.int 0)), .fr (.n 6) (.call 143 [(.v 3), (.bin .sub (.v 3) (.v 4))]) [.app 1 (.v 6), .app 2 (.tup [(.v 5), (.bin .sub (.blt .len [(.v 1)]) (.c (.int 1)))]), .asg (.n 5) (.bin .sub (.blt .len [(.v 1)]) (.c (.int 1)))]], .ret (.tup [(.blt .tuple [(.v 1)]), (.blt .tuple [(.v 2)])])]⟩
/-- links_link_class: 0 tree 1 own 2 many -/
def f155 : Fn := ⟨1, 3, [.asg (.n 1) (.call 152 [(.v 0)]), .asg (.n 2) (.blt .abs [(.call 35 [(.call 147 [(.v 1)])])]), .iff (.cmp .gt (.v 2) (.g 24)) [.never] [], .iff (.cmp .gt (.blt .len [(.ix (.call 39 [(.call 147 [(.v 1)])]) (.c (.int 1)))]) (.c (.int 1))) [.never] [], .ret (.call 153 [(.v 1)])]⟩
/-- manners_lean_of_form: 0 form 1 above 2 below -/
def f156 : Fn := ⟨1, 3, [.ret (.call 52 [(.bin .add (.lst [(.tup [(.ix (.v 0) (.c (.int 1))), (.c (.int 1))])]) (.lc (.call 3 [(.v 2), (.v 1)]) (.t [(.n 1), (.n 2)]) (.ix (.v 0) (.c (.int 2))) []))])]⟩
/-- plain_sign_of: 0 number -/
def f157 : Fn := ⟨1, 1, [.ret (.bin .sub (.cmp .gt (.v 0) (.c (.int 0))) (.cmp .lt (.v 0) (.c (.int 0))))]⟩
/-- manners_round_by: 0 form 1 taken 2 above 3 below -/
def f158 : Fn := ⟨1, 4, [.asg (.n 1) (.lc (.call 25 [(.g 11), (.tup [(.c (.int 1)), (.v 2)])]) (.t [(.n 2), (.n 3)]) (.ix (.v 0) (.c (.int 2))) []), .ret (.call 25 [(.tup [(.bin .sub (.c (.int 2)) (.bin .mul (.c (.int 2)) (.ix (.v 0) (.c (.int 0))))), (.c (.int 1))]), (.call 52 [(.v 1)])])]⟩
/-- manners_manner_by: 0 form 1 leaned -/
def f159 : Fn := ⟨1, 2, [.iff (.call 116 [(.v 0)]) [.ret (.ix (.ix (.g 25) (.blt .int [(.cmp .ne (.ix (.call 117 [(.v 0)]) (.c (.int 0))) (.c (.int 0)))])) (.c (.int 2)))] [], .asg (.n 1) (.cmp .ne (.ix (.call 156 [(.v 0)]) (.c (.int 0))) (.c (.int 0))), .ret (.ix (.ix (.g 25) (.blt .int [(.v 1)])) (.bin .add (.c (.int 1)) (.call 157 [(.ix (.call 158 [(.v 0)]) (.c (.int 0)))])))]⟩
/-- saws_sum_by: 0 number 1 below 2 found 3 sign 4 one 5 other 6 part -/
def f160 : Fn := ⟨2, 7, [.asg (.t [(.n 2), (.n 3), (.n 4), (.n 5)]) (.tup [(.g 3), (.c (.int 1)), (.bin .mod (.v 0) (.v 1)), (.v 1)]), .whl (.cmp .gt (.v 4) (.c (.int 0))) [.asg (.n 6) (.call 3 [(.bin .sub (.bin .add (.bin .add (.bin .mul (.v 4) (.v 4)) (.bin .mul (.v 5) (.v 5))) (.c (.int 1))) (.bin .mul (.bin .mul (.c (.int 3)) (.v 4)) (.v 5))), (.bin .mul (.bin .mul (.c (.int 12)) (.v 4)) (.v 5))]), .asg (.n 2) (.call 7 [(.v 2), (.call 23 [(.tup [(.v 3), (.c (.int 1))]), (.v 6)])]), .par [(.n 3), (.n 4), (.n 5)] [(.neg (.v 3)), (.bin .mod (.v 5) (.v 4)), (.v 4)]], .ret (.v 2)]⟩
/-- worths_worth_by: 0 book 1 squares 2 first 3 second 4 teeth 5 third 6 tubes 7 size 8 sign 9 length 10 above 11 below -/
def f161 : Fn := ⟨1, 12, [.par [(.n 6), (.n 7)] [(.ix (.v 0) (.c (.int 1))), (.call 11 [(.v 0)])], .par [(.n 8), (.n 9)] [(.call 157 [(.ix (.v 7) (.c (.int 0)))]), (.tup [(.blt .abs [(.ix (.v 7) (.c (.int 0)))]), (.ix (.v 7) (.c (.int 1)))])], .asg (.n 1) (.call 52 [(.lc (.call 23 [(.tup [(.c (.int 1)), (.v 10)]), (.tup [(.c (.int 1)), (.v 10)])]) (.t [(.n 10), (.n 11)]) (.v 6) [])]), .asg (.n 2) (.call 23 [(.tup [(.v 8), (.c (.int 24))]), (.call 7 [(.tup [(.bin .sub (.c (.int 2)) (.blt .len [(.v 6)])), (.c (.int 1))]), (.v 1)])]), .asg (.n 3) (.call 25 [(.call 23 [(.tup [(.c (.int 1)), (.c (.int 24))]), (.call 23 [(.v 7), (.v 9)])]), (.call 23 [(.tup [(.c (.int 1)), (.c (.int 8))]), (.v 7)])]), .asg (.n 4) (.call 52 [(.lc (.call 160 [(.v 11), (.v 10)]) (.t [(.n 10), (.n 11)]) (.v 6) [])]), .asg (.n 5) (.call 23 [(.call 23 [(.tup [(.c (.int 1)), (.c (.int 2))]), (.v 9)]), (.v 4)]), .ret (.call 23 [(.tup [(.call 28 [(.lc (.v 10) (.t [(.n 10), (.n 11)]) (.v 6) [])]), (.c (.int 1))]), (.call 25 [(.call 7 [(.v 2), (.v 3)]), (.v 5)])])]⟩
/-- books_book_of_form: 0 form 1 own -/
def f163 : Fn := ⟨1, 2, [.asg (.n 1) (.call 139 [(.v 0)]), .ret (.call 140 [(.tup [(.ix (.v 1) (.c (.int 0))), (.bin .add (.tup [(.tup [(.c (.int 1)), (.ix (.v 1) (.c (.int 1)))])]) (.ix (.v 1) (.c (.int 2))))])])]⟩
/-- links_book_class: 0 book 1 form 2 star -/
def f169 : Fn := ⟨1, 3, [.asg (.n 1) (.call 9 [(.call 10 [(.v 0)])]), .iff (.cmp .gt (.ix (.v 1) (.c (.int 0))) (.c (.int 0))) [.never] [], .asg (.n 2) (.call 154 [(.v 1)]), .iff (.not (.call 142 [(.v 2)])) [.never] [], .ret (.call 155 [(.v 2)])]⟩
/-- law__law_lean: 0 book 1 above 2 below -/
def f170 : Fn := ⟨1, 3, [.ret (.call 48 [(.lc (.call 46 [(.v 2), (.v 1)]) (.t [(.n 1), (.n 2)]) (.ix (.v 0) (.c (.int 1))) [])])]⟩
/-- turns_turns: 0 book -/
def f175 : Fn := ⟨1, 1, [.ret (.call 41 [(.call 10 [(.v 0)])])]⟩
/-- worths_worth: 0 book 1 own -/
def f176 : Fn := ⟨1, 2, [.asg (.n 1) (.call 10 [(.v 0)]), .iff (.or [(.cmp .gt (.ix (.v 1) (.c (.int 0))) (.c (.int 0))), (.cmp .eq (.ix (.call 11 [(.v 1)]) (.c (.int 0))) (.c (.int 0)))]) [.never] [], .ret (.call 161 [(.v 1)])]⟩
/-- manners_manner: 0 book -/
def f178 : Fn := ⟨1, 1, [.ret (.call 159 [(.call 9 [(.call 10 [(.v 0)])])])]⟩
/-- plain_without: 0 row 1 place -/
def f180 : Fn := ⟨2, 2, [.ret (.bin .add (.sl (.v 0) none (some (.v 1))) (.sl (.v 0) (some (.bin .add (.v 1) (.c (.int 1)))) none))]⟩
/-- plain_replaced: 0 row 1 place 2 worth -/
def f181 : Fn := ⟨3, 3, [.ret (.bin .add (.bin .add (.sl (.v 0) none (some (.v 1))) (.tup [(.v 2)])) (.sl (.v 0) (some (.bin .add (.v 1) (.c (.int 1)))) none))]⟩
/-- books_moved: 0 book 1 move 2 tubes 3 many 4 found 5 own 6 one 7 other -/
def f182 : Fn := ⟨2, 8, [.par [(.n 2), (.n 3)] [(.ix (.v 0) (.c (.int 1))), (.blt .len [(.ix (.v 0) (.c (.int 1)))])], .iff (.cmp .eq (.ix (.v 1) (.c (.int 0))) (.g 31)) [.asg (.n 4) (.ife (.cmp .le (.ix (.v 1) (.c (.int 1))) (.v 3)) (.bin .add (.bin .add (.sl (.v 2) none (some (.ix (.v 1) (.c (.int 1))))) (.tup [(.tup [(.c (.int 1)), (.c (.int 0))])])) (.sl (.v 2) (some (.ix (.v 1) (.c (.int 1)))) none)) (.c .none))] [.iff (.blt .any [(.lc (.cmp .ge (.v 5) (.v 3)) (.n 5) (.sl (.v 1) (some (.c (.int 1))) (some (.c (.int 3)))) [])]) [.asg (.n 4) (.c .none)] [.iff (.cmp .eq (.ix (.v 1) (.c (.int 0))) (.g 32)) [.asg (.n 4) (.ife (.cmp .eq (.ix (.v 2) (.ix (.v 1) (.c (.int 1)))) (.tup [(.c (.int 1)), (.c (.int 0))])) (.call 180 [(.v 2), (.ix (.v 1) (.c (.int 1)))]) (.c .none))] [.iff (.cmp .eq (.ix (.v 1) (.c (.int 0))) (.g 33)) [.asg (.n 4) (.call 181 [(.call 181 [(.v 2), (.ix (.v 1) (.c (.int 1))), (.ix (.v 2) (.ix (.v 1) (.c (.int 2))))]), (.ix (.v 1) (.c (.int 2))), (.ix (.v 2) (.ix (.v 1) (.c (.int 1))))])] [.par [(.n 6), (.n 7)] [(.ix (.v 2) (.ix (.v 1) (.c (.int 1)))), (.ix (.v 2) (.ix (.v 1) (.c (.int 2))))], .asg (.n 4) (.call 181 [(.v 2), (.ix (.v 1) (.c (.int 1))), (.tup [(.ix (.v 6) (.c (.int 0))), (.bin .add (.ix (.v 6) (.c (.int 1))) (.bin .mul (.ix (.v 1) (.c (.int 3))) (.ix (.v 6) (.c (.int 0)))))])]), .asg (.n 4) (.call 181 [(.v 4), (.ix (.v 1) (.c (.int 2))), (.tup [(.ix (.v 7) (.c (.int 0))), (.bin .sub (.ix (.v 7) (.c (.int 1))) (.bin .mul (.ix (.v 1) (.c (.int 3))) (.ix (.v 7) (.c (.int 0)))))])])]]]], .ret (.ife (.and [(.cmp .isn (.v 4) (.c .none)), (.call 8 [(.tup [(.ix (.v 0) (.c (.int 0))), (.v 4)])])]) (.tup [(.ix (.v 0) (.c (.int 0))), (.v 4)]) (.c .none))]⟩
/-- books_is_move_of: 0 thing 1 own -/
def f183 : Fn := ⟨1, 2, [.iff (.or [(.not (.isi (.v 0) [.tuple])), (.cmp .eq (.v 0) (.tup [])), (.not (.isi (.ix (.v 0) (.c (.int 0))) [.str]))]) [.ret (.c (.bool false))] [], .iff (.cmp .inn (.ix (.v 0) (.c (.int 0))) (.tup [(.g 31), (.g 32)])) [.ret (.and [(.cmp .eq (.blt .len [(.v 0)]) (.c (.int 2))), (.call 1 [(.ix (.v 0) (.c (.int 1))), (.c (.int 0)), (.g 2)])])] [], .iff (.cmp .eq (.ix (.v 0) (.c (.int 0))) (.g 33)) [.ret (.and [(.cmp .eq (.blt .len [(.v 0)]) (.c (.int 3))), (.blt .all [(.lc (.call 1 [(.v 1), (.c (.int 0)), (.g 2)]) (.n 1) (.sl (.v 0) (some (.c (.int 1))) none) [])])])] [], .iff (.or [(.cmp .ne (.ix (.v 0) (.c (.int 0))) (.g 34)), (.cmp .ne (.blt .len [(.v 0)]) (.c (.int 4))), (.not (.call 5 [(.ix (.v 0) (.c (.int 3))), (.bin .mul (.g 2) (.g 0))]))]) [.ret (.c (.bool false))] [], .ret (.and [(.blt .all [(.lc (.call 1 [(.v 1), (.c (.int 0)), (.g 2)]) (.n 1) (.sl (.v 0) (some (.c (.int 1))) (some (.c (.int 3)))) [])]), (.cmp .ne (.ix (.v 0) (.c (.int 1))) (.ix (.v 0) (.c (.int 2))))])]⟩
/-- books_sure_moves: 0 thing 1 moves 2 own -/
def f184 : Fn := ⟨1, 3, [.asg (.n 1) (.call 2 [(.v 0)]), .iff (.or [(.not (.isi (.v 1) [.tuple])), (.not (.blt .all [(.lc (.call 183 [(.v 2)]) (.n 2) (.v 1) [])]))]) [.never] [], .ret (.v 1)]⟩
/-- books_to_form: 0 book 1 place 2 found 3 held 4 least 5 above 6 below 7 k -/
def f185 : Fn := ⟨1, 8, [.par [(.n 2), (.n 3)] [(.lst [(.tup [(.g 31), (.c (.int 0))])]), (.tup [(.ix (.v 0) (.c (.int 0))), (.bin .add (.tup [(.tup [(.c (.int 1)), (.c (.int 0))])]) (.ix (.v 0) (.c (.int 1))))])], .fr (.n 1) (.blt .range [(.c (.int 1)), (.blt .len [(.ix (.v 3) (.c (.int 1)))])]) [.asg (.t [(.n 5), (.n 6)]) (.ix (.ix (.v 3) (.c (.int 1))) (.v 1)), .iff (.cmp .ne (.bin .fdiv (.v 6) (.v 5)) (.c (.int 0))) [.app 2 (.tup [(.g 34), (.c (.int 0)), (.v 1), (.bin .fdiv (.v 6) (.v 5))]), .asg (.n 3) (.call 182 [(.v 3), (.ix (.v 2) (.neg (.c (.int 1))))]), .iff (.cmp .is (.v 3) (.c .none)) [.never] []] []], .fr (.n 1) (.blt .range [(.bin .sub (.blt .len [(.ix (.v 3) (.c (.int 1)))]) (.c (.int 1))), (.c (.int 0)), (.neg (.c (.int 1)))]) [.iff (.cmp .eq (.ix (.ix (.v 3) (.c (.int 1))) (.v 1)) (.tup [(.c (.int 1)), (.c (.int 0))])) [.app 2 (.tup [(.g 32), (.v 1)]), .asg (.n 3) (.call 182 [(.v 3), (.ix (.v 2) (.neg (.c (.int 1))))])] []], .fr (.n 1) (.blt .range [(.c (.int 1)), (.blt .len [(.ix (.v 3) (.c (.int 1)))])]) [.asg (.n 4) (.ix (.blt .min [(.lc (.tup [(.ix (.ix (.v 3) (.c (.int 1))) (.v 7)), (.v 7)]) (.n 7) (.blt .range [(.v 1), (.blt .len [(.ix (.v 3) (.c (.int 1)))])]) [])]) (.c (.int 1))), .iff (.cmp .ne (.v 4) (.v 1)) [.app 2 (.tup [(.g 33), (.v 1), (.v 4)]), .asg (.n 3) (.call 182 [(.v 3), (.ix (.v 2) (.neg (.c (.int 1))))])] []], .ret (.v 2)]⟩
/-- books_back_of: 0 move -/
def f186 : Fn := ⟨1, 1, [.iff (.cmp .eq (.ix (.v 0) (.c (.int 0))) (.g 34)) [.ret (.tup [(.g 34), (.ix (.v 0) (.c (.int 1))), (.ix (.v 0) (.c (.int 2))), (.neg (.ix (.v 0) (.c (.int 3))))])] [], .ret (.bin .add (.tup [(.ife (.cmp .eq (.ix (.v 0) (.c (.int 0))) (.g 31)) (.g 32) (.ife (.cmp .eq (.ix (.v 0) (.c (.int 0))) (.g 32)) (.g 31) (.g 33)))]) (.sl (.v 0) (some (.c (.int 1))) none))]⟩
/-- wholes_primes_of: 0 number 1 found 2 left 3 own -/
def f187 : Fn := ⟨1, 4, [.par [(.n 1), (.n 2), (.n 3)] [(.lst []), (.v 0), (.c (.int 2))], .whl (.cmp .le (.bin .mul (.v 3) (.v 3)) (.v 2)) [.iff (.cmp .eq (.bin .mod (.v 2) (.v 3)) (.c (.int 0))) [.app 1 (.v 3), .whl (.cmp .eq (.bin .mod (.v 2) (.v 3)) (.c (.int 0))) [.asg (.n 2) (.bin .fdiv (.v 2) (.v 3))]] [], .aug 3 .add (.c (.int 1))], .ret (.ife (.cmp .gt (.v 2) (.c (.int 1))) (.bin .add (.v 1) (.lst [(.v 2)])) (.v 1))]⟩
/-- wholes_is_square_by: 0 number 1 prime 2 found 3 own 4 left -/
def f188 : Fn := ⟨2, 5, [.par [(.n 2), (.n 3), (.n 4)] [(.c (.int 1)), (.bin .mod (.v 0) (.v 1)), (.bin .fdiv (.bin .sub (.v 1) (.c (.int 1))) (.c (.int 2)))], .whl (.cmp .gt (.v 4) (.c (.int 0))) [.iff (.cmp .eq (.bin .mod (.v 4) (.c (.int 2))) (.c (.int 1))) [.asg (.n 2) (.bin .mod (.bin .mul (.v 2) (.v 3)) (.v 1))] [], .par [(.n 3), (.n 4)] [(.bin .mod (.bin .mul (.v 3) (.v 3)) (.v 1)), (.bin .fdiv (.v 4) (.c (.int 2)))]], .ret (.cmp .eq (.v 2) (.c (.int 1)))]⟩
/-- folds_is_free_by: 0 book 1 often 2 above 3 below -/
def f189 : Fn := ⟨2, 4, [.ret (.blt .all [(.lc (.cmp .eq (.blt .gcd [(.v 2), (.v 1)]) (.c (.int 1))) (.t [(.n 2), (.n 3)]) (.ix (.v 0) (.c (.int 1))) [])])]⟩
/-- folds_shifts_by: 0 book 1 often 2 above 3 below -/
def f190 : Fn := ⟨2, 4, [.ret (.lc (.bin .mod (.bin .mul (.neg (.v 3)) (.call 27 [(.v 2), (.v 1)])) (.v 1)) (.t [(.n 2), (.n 3)]) (.ix (.v 0) (.c (.int 1))) [])]⟩
/-- folds_sure_often: 0 thing -/
def f191 : Fn := ⟨1, 1, [.iff (.not (.call 1 [(.v 0), (.c (.int 1)), (.g 35)])) [.never] [], .ret (.v 0)]⟩
/-- folds_unfolded_by: 0 book 1 often 2 shifts 3 order 4 tubes 5 own 6 place 7 above 8 below -/
def f192 : Fn := ⟨2, 9, [.iff (.not (.call 189 [(.v 0), (.v 1)])) [.ret (.c .none)] [], .asg (.n 2) (.call 190 [(.v 0), (.v 1)]), .iff (.cmp .ne (.bin .mod (.blt .sum [(.v 2)]) (.v 1)) (.c (.int 0))) [.ret (.c .none)] [], .iff (.cmp .eq (.v 2) (.lst [])) [.ret (.v 0)] [], .asg (.n 3) (.blt .sorted [(.lc (.tup [(.neg (.v 5)), (.v 6)]) (.t [(.n 6), (.n 5)]) (.blt .enumerate [(.v 2)]) [])]), .fr (.t [(.n 5), (.n 6)]) (.sl (.v 3) none (some (.bin .fdiv (.blt .sum [(.v 2)]) (.v 1)))) [.setix 2 (.v 6) (.bin .sub (.ix (.v 2) (.v 6)) (.v 1))], .asg (.n 4) (.lc (.tup [(.v 7), (.bin .fdiv (.bin .add (.v 8) (.bin .mul (.v 5) (.v 7))) (.v 1))]) (.t [(.n 5), (.t [(.n 7), (.n 8)])]) (.blt .zip [(.v 2), (.ix (.v 0) (.c (.int 1)))]) []), .ret (.tup [(.ix (.v 0) (.c (.int 0))), (.blt .tuple [(.v 4)])])]⟩
/-- folds_folded_by: 0 book 1 often 2 above 3 below -/
def f193 : Fn := ⟨2, 4, [.ret (.tup [(.ix (.v 0) (.c (.int 0))), (.blt .tuple [(.lc (.tup [(.v 2), (.bin .mul (.v 3) (.v 1))]) (.t [(.n 2), (.n 3)]) (.ix (.v 0) (.c (.int 1))) [])])])]⟩
/-- lenses_is_lens_of: 0 thing 1 own -/
def f194 : Fn := ⟨1, 2, [.iff (.or [(.not (.call 4 [(.v 0), (.c (.int 2))])), (.not (.blt .all [(.lc (.call 0 [(.v 1)]) (.n 1) (.v 0) [])])), (.not (.chain .le .le (.c (.int 0)) (.ix (.v 0) (.c (.int 0))) (.g 36)))]) [.ret (.c (.bool false))] [], .iff (.cmp .lt (.ix (.v 0) (.c (.int 0))) (.c (.int 2))) [.ret (.cmp .eq (.ix (.v 0) (.c (.int 1))) (.bin .sub (.c (.int 1)) (.ix (.v 0) (.c (.int 0)))))] [], .ret (.and [(.chain .le .lt (.c (.int 1)) (.ix (.v 0) (.c (.int 1))) (.ix (.v 0) (.c (.int 0)))), (.cmp .eq (.blt .gcd [(.ix (.v 0) (.c (.int 0))), (.ix (.v 0) (.c (.int 1)))]) (.c (.int 1)))])]⟩
/-- lenses_sure_lens: 0 thing 1 lens -/
def f195 : Fn := ⟨1, 2, [.asg (.n 1) (.call 2 [(.v 0)]), .iff (.not (.call 194 [(.v 1)])) [.never] [], .ret (.v 1)]⟩
/-- lenses_sure_two: 0 one 1 other -/
def f196 : Fn := ⟨2, 2, [.ret (.tup [(.call 195 [(.v 0)]), (.call 195 [(.v 1)])])]⟩
/-- lenses_ratio_of: 0 one 1 other -/
def f197 : Fn := ⟨2, 2, [.ret (.bin .mod (.bin .mul (.ix (.v 1) (.c (.int 1))) (.call 27 [(.ix (.v 0) (.c (.int 1))), (.ix (.v 0) (.c (.int 0)))])) (.ix (.v 0) (.c (.int 0))))]⟩
/-- wholes_least_root: 0 number 1 below 2 own -/
def f198 : Fn := ⟨2, 3, [.fr (.n 2) (.blt .range [(.c (.int 1)), (.bin .add (.v 1) (.c (.int 1)))]) [.iff (.cmp .eq (.bin .mod (.bin .sub (.bin .mul (.v 2) (.v 2)) (.v 0)) (.v 1)) (.c (.int 0))) [.ret (.v 2)] []], .ret (.c .none)]⟩
/-- lenses_sure_alike: 0 one 1 other 2 first 3 second -/
def f199 : Fn := ⟨2, 4, [.asg (.t [(.n 2), (.n 3)]) (.call 196 [(.v 0), (.v 1)]), .iff (.or [(.cmp .ne (.ix (.v 2) (.c (.int 0))) (.ix (.v 3) (.c (.int 0)))), (.cmp .lt (.ix (.v 2) (.c (.int 0))) (.c (.int 2)))]) [.never] [], .ret (.tup [(.v 2), (.v 3)])]⟩
/-- wholes_square_bars: 0 number 1 below 2 found 3 own -/
def f200 : Fn := ⟨2, 4, [.asg (.n 2) (.lst []), .iff (.cmp .eq (.bin .mod (.v 1) (.c (.int 8))) (.c (.int 0))) [.asg (.n 2) (.ife (.cmp .ne (.bin .mod (.v 0) (.c (.int 8))) (.c (.int 1))) (.lst [(.c (.int 8))]) (.lst []))] [.iff (.cmp .eq (.bin .mod (.v 1) (.c (.int 4))) (.c (.int 0))) [.asg (.n 2) (.ife (.cmp .ne (.bin .mod (.v 0) (.c (.int 4))) (.c (.int 1))) (.lst [(.c (.int 4))]) (.lst []))] []], .ret (.bin .add (.v 2) (.lc (.v 3) (.n 3) (.call 187 [(.v 1)]) [(.and [(.cmp .gt (.v 3) (.c (.int 2))), (.not (.call 188 [(.v 0), (.v 3)]))])]))]⟩
/-- lenses_are_twins: 0 one 1 other 2 first 3 second -/
def f201 : Fn := ⟨2, 4, [.asg (.t [(.n 2), (.n 3)]) (.call 199 [(.v 0), (.v 1)]), .ret (.or [(.cmp .eq (.call 200 [(.call 197 [(.v 2), (.v 3)]), (.ix (.v 2) (.c (.int 0)))]) (.lst [])), (.cmp .eq (.call 200 [(.neg (.call 197 [(.v 2), (.v 3)])), (.ix (.v 2) (.c (.int 0)))]) (.lst []))])]⟩
/-- lenses_twin_in: 0 one 1 other 2 ratio 3 sign 4 root -/
def f202 : Fn := ⟨2, 5, [.asg (.n 2) (.call 197 [(.v 0), (.v 1)]), .fr (.n 3) (.tup [(.c (.int 1)), (.neg (.c (.int 1)))]) [.asg (.n 4) (.call 198 [(.bin .mul (.v 3) (.v 2)), (.ix (.v 0) (.c (.int 0)))]), .iff (.cmp .isn (.v 4) (.c .none)) [.ret (.tup [(.v 4), (.v 3)])] []], .ret (.c .none)]⟩
/-- manners_loops_by: 0 form 1 size 2 worth 3 found -/
def f203 : Fn := ⟨1, 4, [.iff (.cmp .ne (.call 159 [(.v 0)]) (.c (.str "ball"))) [.ret (.c .none)] [], .iff (.call 116 [(.v 0)]) [.ret (.ix (.call 117 [(.v 0)]) (.c (.int 0)))] [], .asg (.n 1) (.call 156 [(.v 0)]), .asg (.n 2) (.call 158 [(.v 0)]), .asg (.n 3) (.call 24 [(.call 23 [(.tup [(.c (.int 4)), (.c (.int 1))]), (.tup [(.blt .abs [(.ix (.v 1) (.c (.int 0)))]), (.ix (.v 1) (.c (.int 1)))])]), (.call 23 [(.v 2), (.v 2)])]), .ret (.ix (.v 3) (.c (.int 0)))]⟩
/-- matrices_is_matrix_of: 0 thing 1 row -/
def f204 : Fn := ⟨1, 2, [.iff (.or [(.not (.isi (.v 0) [.tuple])), (.not (.chain .le .le (.c (.int 1)) (.blt .len [(.v 0)]) (.g 37))), (.not (.isi (.ix (.v 0) (.c (.int 0))) [.tuple]))]) [.ret (.c (.bool false))] [], .iff (.not (.chain .le .le (.c (.int 1)) (.blt .len [(.ix (.v 0) (.c (.int 0)))]) (.g 37))) [.ret (.c (.bool false))] [], .ret (.blt .all [(.lc (.and [(.call 141 [(.v 1), (.g 38)]), (.cmp .eq (.blt .len [(.v 1)]) (.blt .len [(.ix (.v 0) (.c (.int 0)))]))]) (.n 1) (.v 0) [])])]⟩
/-- turns_are_weights_of: 0 book 1 below 2 thing 3 own 4 above 5 low -/
def f207 : Fn := ⟨3, 6, [.iff (.or [(.not (.call 4 [(.v 2), (.c (.int 3))])), (.not (.call 1 [(.ix (.v 2) (.c (.int 0))), (.c (.int 0)), (.bin .sub (.v 1) (.c (.int 1)))]))]) [.ret (.c (.bool false))] [], .iff (.or [(.not (.call 30 [(.ix (.v 2) (.c (.int 1))), (.c (.int 0)), (.bin .sub (.v 1) (.c (.int 1)))])), (.not (.call 30 [(.ix (.v 2) (.c (.int 2))), (.c (.int 0)), (.bin .sub (.v 1) (.c (.int 1)))]))]) [.ret (.c (.bool false))] [], .iff (.or [(.cmp .ne (.blt .len [(.ix (.v 2) (.c (.int 1)))]) (.blt .len [(.ix (.v 0) (.c (.int 1)))])), (.cmp .ne (.blt .len [(.ix (.v 2) (.c (.int 2)))]) (.bin .mul (.c (.int 2)) (.ix (.v 0) (.c (.int 0))))), (.cmp .ne (.bin .mod (.blt .sum [(.ix (.v 2) (.c (.int 1)))]) (.v 1)) (.c (.int 0)))]) [.ret (.c (.bool false))] [], .ret (.blt .all [(.lc (.cmp .eq (.bin .mod (.bin .add (.bin .mul (.v 4) (.v 3)) (.bin .mul (.v 5) (.ix (.v 2) (.c (.int 0))))) (.v 1)) (.c (.int 0))) (.t [(.n 3), (.t [(.n 4), (.n 5)])]) (.blt .zip [(.ix (.v 2) (.c (.int 1))), (.ix (.v 0) (.c (.int 1)))]) [])])]⟩
/-- books_mirror_by: 0 book 1 above 2 below -/
def f208 : Fn := ⟨1, 3, [.ret (.tup [(.ix (.v 0) (.c (.int 0))), (.blt .tuple [(.lc (.tup [(.v 1), (.neg (.v 2))]) (.t [(.n 1), (.n 2)]) (.ix (.v 0) (.c (.int 1))) [])])])]⟩
/-- bookclaims_first_unlike: 0 one 1 other 2 k -/
def f209 : Fn := ⟨2, 3, [.ret (.ix (.lc (.v 2) (.n 2) (.blt .range [(.c (.int 3))]) [(.cmp .ne (.ix (.v 0) (.v 2)) (.ix (.v 1) (.v 2)))]) (.c (.int 0)))]⟩
/-- lenses_why_no_twins: 0 one 1 other 2 bars 3 first 4 second 5 sign -/
def f210 : Fn := ⟨2, 6, [.asg (.t [(.n 3), (.n 4)]) (.call 199 [(.v 0), (.v 1)]), .asg (.n 2) (.lc (.call 200 [(.bin .mul (.v 5) (.call 197 [(.v 3), (.v 4)])), (.ix (.v 3) (.c (.int 0)))]) (.n 5) (.tup [(.c (.int 1)), (.neg (.c (.int 1)))]) []), .iff (.cmp .inn (.lst []) (.v 2)) [.never] [], .ret (.tup [(.ix (.ix (.v 2) (.c (.int 0))) (.c (.int 0))), (.ix (.ix (.v 2) (.c (.int 1))) (.c (.int 0)))])]⟩
/-- folds_why_not_unfolded: 0 book 1 often 2 bad 3 rest 4 own 5 many 6 place 7 tube -/
def f212 : Fn := ⟨2, 8, [.par [(.n 4), (.n 5)] [(.call 10 [(.v 0)]), (.call 191 [(.v 1)])], .asg (.n 2) (.lc (.v 6) (.t [(.n 6), (.n 7)]) (.blt .enumerate [(.ix (.v 4) (.c (.int 1)))]) [(.cmp .ne (.blt .gcd [(.ix (.v 7) (.c (.int 0))), (.v 5)]) (.c (.int 1)))]), .iff (.cmp .ne (.v 2) (.lst [])) [.ret (.tup [(.c (.str "tube")), (.ix (.v 2) (.c (.int 0)))])] [], .asg (.n 3) (.bin .mod (.blt .sum [(.call 190 [(.v 4), (.v 5)])]) (.v 5)), .iff (.cmp .eq (.v 3) (.c (.int 0))) [.never] [], .ret (.tup [(.c (.str "rest")), (.v 3)])]⟩
/-- books_move_row: 0 book 1 other 2 one 3 two 4 near 5 far 6 move -/
def f213 : Fn := ⟨2, 7, [.par [(.n 2), (.n 3)] [(.call 10 [(.v 0)]), (.call 10 [(.v 1)])], .iff (.or [(.cmp .ne (.call 9 [(.v 2)]) (.call 9 [(.v 3)])), (.cmp .eq (.blt .len [(.ix (.v 2) (.c (.int 1)))]) (.g 2)), (.cmp .eq (.blt .len [(.ix (.v 3) (.c (.int 1)))]) (.g 2))]) [.never] [], .par [(.n 4), (.n 5)] [(.call 185 [(.v 2)]), (.call 185 [(.v 3)])], .ret (.blt .tuple [(.bin .add (.v 4) (.lc (.call 186 [(.v 6)]) (.n 6) (.rev (.v 5)) []))])]⟩
/-- lenses_twin_number: 0 one 1 other 2 first 3 second -/
def f214 : Fn := ⟨2, 4, [.asg (.t [(.n 2), (.n 3)]) (.call 199 [(.v 0), (.v 1)]), .iff (.not (.call 201 [(.v 2), (.v 3)])) [.never] [], .ret (.call 202 [(.v 2), (.v 3)])]⟩
/-- folds_unfolded: 0 book 1 often 2 found 3 own 4 many -/
def f215 : Fn := ⟨2, 5, [.par [(.n 3), (.n 4)] [(.call 10 [(.v 0)]), (.call 191 [(.v 1)])], .asg (.n 2) (.call 192 [(.v 3), (.v 4)]), .iff (.or [(.cmp .is (.v 2) (.c .none)), (.not (.call 8 [(.v 2)]))]) [.never] [], .ret (.v 2)]⟩
/-- bookclaims_book_claim_holds: 0 claim -/
def f216 : Fn := ⟨1, 1, [.iff (.cmp .eq (.ix (.v 0) (.c (.int 0))) (.c (.str "tubes"))) [.ret (.cmp .eq (.call 9 [(.ix (.v 0) (.c (.int 1)))]) (.call 9 [(.ix (.v 0) (.c (.int 2)))]))] [], .iff (.cmp .eq (.ix (.v 0) (.c (.int 0))) (.c (.str "room"))) [.ret (.cmp .eq (.call 118 [(.ix (.v 0) (.c (.int 1)))]) (.call 118 [(.ix (.v 0) (.c (.int 2)))]))] [], .iff (.cmp .eq (.ix (.v 0) (.c (.int 0))) (.c (.str "lens"))) [.ret (.cmp .eq (.call 85 [(.ix (.v 0) (.c (.int 1)))]) (.call 85 [(.ix (.v 0) (.c (.int 2)))]))] [], .iff (.cmp .eq (.ix (.v 0) (.c (.int 0))) (.c (.str "twins"))) [.ret (.call 201 [(.ix (.v 0) (.c (.int 1))), (.ix (.v 0) (.c (.int 2)))])] [], .iff (.cmp .eq (.ix (.v 0) (.c (.int 0))) (.c (.str "sphere"))) [.ret (.cmp .eq (.call 41 [(.ix (.v 0) (.c (.int 1)))]) (.tup [(.c (.int 0)), (.tup [])]))] [], .iff (.cmp .eq (.ix (.v 0) (.c (.int 0))) (.c (.str "unfolds"))) [.ret (.cmp .isn (.call 192 [(.ix (.v 0) (.c (.int 1))), (.ix (.v 0) (.c (.int 2)))]) (.c .none))] [], .iff (.cmp .eq (.ix (.v 0) (.c (.int 0))) (.c (.str "mirror"))) [.ret (.cmp .eq (.call 118 [(.ix (.v 0) (.c (.int 1)))]) (.call 118 [(.call 208 [(.ix (.v 0) (.c (.int 1)))])]))] [], .ret (.cmp .eq (.call 159 [(.call 9 [(.ix (.v 0) (.c (.int 1)))])]) (.c (.str "ball")))]⟩
/-- bookclaims_is_deep_alike: 0 thing 1 goal 2 own 3 its -/
def f217 : Fn := ⟨2, 4, [.iff (.isi (.v 1) [.tuple]) [.ret (.and [(.call 4 [(.v 0), (.blt .len [(.v 1)])]), (.blt .all [(.lc (.call 217 [(.v 2), (.v 3)]) (.t [(.n 2), (.n 3)]) (.blt .zip [(.v 0), (.v 1)]) [])])])] [], .iff (.isi (.v 1) [.str]) [.ret (.and [(.isi (.v 0) [.str]), (.cmp .eq (.v 0) (.v 1))])] [], .ret (.and [(.call 0 [(.v 0)]), (.cmp .eq (.v 0) (.v 1))])]⟩
/-- lenses_is_why_no_twins: 0 one 1 other 2 thing 3 first 4 second 5 own 6 sign -/
def f218 : Fn := ⟨3, 7, [.asg (.t [(.n 3), (.n 4)]) (.call 199 [(.v 0), (.v 1)]), .iff (.or [(.not (.call 4 [(.v 2), (.c (.int 2))])), (.not (.blt .all [(.lc (.call 0 [(.v 5)]) (.n 5) (.v 2) [])]))]) [.ret (.c (.bool false))] [], .ret (.blt .all [(.lc (.cmp .inn (.v 5) (.call 200 [(.bin .mul (.v 6) (.call 197 [(.v 3), (.v 4)])), (.ix (.v 3) (.c (.int 0)))])) (.t [(.n 5), (.n 6)]) (.blt .zip [(.v 2), (.tup [(.c (.int 1)), (.neg (.c (.int 1)))])]) [])])]⟩
/-- turns_is_sphere_paper: 0 book 1 thing 2 own 3 its -/
def f219 : Fn := ⟨2, 4, [.asg (.n 2) (.call 10 [(.v 0)]), .iff (.or [(.not (.call 4 [(.v 1), (.c (.int 2))])), (.not (.call 1 [(.ix (.v 1) (.c (.int 0))), (.c (.int 2)), (.g 39)])), (.cmp .ne (.call 187 [(.ix (.v 1) (.c (.int 0)))]) (.lst [(.ix (.v 1) (.c (.int 0)))]))]) [.ret (.c (.bool false))] [], .iff (.not (.call 207 [(.v 2), (.ix (.v 1) (.c (.int 0))), (.ix (.v 1) (.c (.int 1)))])) [.ret (.c (.bool false))] [], .ret (.or [(.cmp .ne (.ix (.ix (.v 1) (.c (.int 1))) (.c (.int 0))) (.c (.int 0))), (.blt .any [(.lc (.cmp .ne (.v 3) (.c (.int 0))) (.n 3) (.bin .add (.ix (.ix (.v 1) (.c (.int 1))) (.c (.int 1))) (.ix (.ix (.v 1) (.c (.int 1))) (.c (.int 2)))) [])])])]⟩
/-- folds_is_why_not_unfolded: 0 book 1 often 2 thing 3 own 4 many -/
def f220 : Fn := ⟨3, 5, [.par [(.n 3), (.n 4)] [(.call 10 [(.v 0)]), (.call 191 [(.v 1)])], .iff (.or [(.not (.call 4 [(.v 2), (.c (.int 2))])), (.not (.isi (.ix (.v 2) (.c (.int 0))) [.str])), (.not (.call 0 [(.ix (.v 2) (.c (.int 1)))]))]) [.ret (.c (.bool false))] [], .iff (.cmp .eq (.ix (.v 2) (.c (.int 0))) (.c (.str "tube"))) [.ret (.and [(.chain .le .lt (.c (.int 0)) (.ix (.v 2) (.c (.int 1))) (.blt .len [(.ix (.v 3) (.c (.int 1)))])), (.cmp .ne (.blt .gcd [(.ix (.ix (.ix (.v 3) (.c (.int 1))) (.ix (.v 2) (.c (.int 1)))) (.c (.int 0))), (.v 4)]) (.c (.int 1)))])] [], .iff (.or [(.cmp .ne (.ix (.v 2) (.c (.int 0))) (.c (.str "rest"))), (.not (.call 189 [(.v 3), (.v 4)]))]) [.ret (.c (.bool false))] [], .ret (.and [(.cmp .ne (.ix (.v 2) (.c (.int 1))) (.c (.int 0))), (.cmp .eq (.ix (.v 2) (.c (.int 1))) (.bin .mod (.blt .sum [(.call 190 [(.v 3), (.v 4)])]) (.v 4)))])]⟩
/-- books_is_move_row: 0 book 1 other 2 thing 3 move 4 found 5 goal 6 own -/
def f221 : Fn := ⟨3, 7, [.par [(.n 4), (.n 5)] [(.call 10 [(.v 0)]), (.call 10 [(.v 1)])], .iff (.or [(.not (.isi (.v 2) [.tuple])), (.not (.blt .all [(.lc (.call 183 [(.v 6)]) (.n 6) (.v 2) [])]))]) [.ret (.c (.bool false))] [], .fr (.n 3) (.v 2) [.asg (.n 4) (.call 182 [(.v 4), (.v 3)]), .iff (.cmp .is (.v 4) (.c .none)) [.ret (.c (.bool false))] []], .ret (.cmp .eq (.v 4) (.v 5))]⟩
/-- bookclaims_is_lens_reason: 0 claim 1 thing 2 own -/
def f222 : Fn := ⟨2, 3, [.iff (.or [(.not (.call 1 [(.v 1), (.neg (.c (.int 1))), (.c (.int 1))])), (.cmp .eq (.v 1) (.c (.int 0)))]) [.ret (.c (.bool false))] [], .asg (.n 2) (.ife (.cmp .eq (.v 1) (.c (.int 1))) (.ix (.ix (.v 0) (.c (.int 1))) (.c (.int 1))) (.call 27 [(.ix (.ix (.v 0) (.c (.int 1))) (.c (.int 1))), (.ix (.ix (.v 0) (.c (.int 1))) (.c (.int 0)))])), .ret (.cmp .eq (.v 2) (.ix (.ix (.v 0) (.c (.int 2))) (.c (.int 1))))]⟩
/-- lenses_is_twin_number: 0 one 1 other 2 thing 3 first 4 second -/
def f223 : Fn := ⟨3, 5, [.asg (.t [(.n 3), (.n 4)]) (.call 199 [(.v 0), (.v 1)]), .iff (.or [(.not (.call 4 [(.v 2), (.c (.int 2))])), (.not (.call 0 [(.ix (.v 2) (.c (.int 0)))])), (.not (.call 1 [(.ix (.v 2) (.c (.int 1))), (.neg (.c (.int 1))), (.c (.int 1))])), (.cmp .eq (.ix (.v 2) (.c (.int 1))) (.c (.int 0)))]) [.ret (.c (.bool false))] [], .ret (.cmp .eq (.bin .mod (.bin .sub (.bin .mul (.bin .mul (.bin .mul (.ix (.v 2) (.c (.int 1))) (.ix (.v 2) (.c (.int 0)))) (.ix (.v 2) (.c (.int 0)))) (.ix (.v 3) (.c (.int 1)))) (.ix (.v 4) (.c (.int 1)))) (.ix (.v 3) (.c (.int 0)))) (.c (.int 0)))]⟩
/-- folds_is_unfolded: 0 book 1 often 2 thing 3 own 4 many -/
def f224 : Fn := ⟨3, 5, [.par [(.n 3), (.n 4)] [(.call 10 [(.v 0)]), (.call 191 [(.v 1)])], .ret (.and [(.call 8 [(.v 2)]), (.call 189 [(.v 2), (.v 4)]), (.cmp .eq (.call 9 [(.call 193 [(.v 2), (.v 4)])]) (.call 9 [(.v 3)]))])]⟩
/-- cuts_tubes_by: 0 knot 1 near 2 one 3 other -/
def f225 : Fn := ⟨1, 4, [.asg (.t [(.n 2), (.n 3)]) (.v 0), .asg (.n 1) (.call 27 [(.v 3), (.v 2)]), .ret (.tup [(.tup [(.v 2), (.v 1)]), (.tup [(.v 3), (.bin .fdiv (.bin .sub (.c (.int 1)) (.bin .mul (.v 3) (.v 1))) (.v 2))])])]⟩
/-- cuts_rest_by: 0 knot 1 slope 2 above 3 below -/
def f226 : Fn := ⟨2, 4, [.par [(.n 2), (.n 3)] [(.bin .sub (.ix (.v 1) (.c (.int 0))) (.bin .mul (.bin .mul (.ix (.v 0) (.c (.int 0))) (.ix (.v 0) (.c (.int 1)))) (.ix (.v 1) (.c (.int 1))))), (.ix (.v 1) (.c (.int 1)))], .ret (.ife (.or [(.cmp .gt (.v 2) (.c (.int 0))), (.and [(.cmp .eq (.v 2) (.c (.int 0))), (.cmp .gt (.v 3) (.c (.int 0)))])]) (.tup [(.v 2), (.v 3)]) (.tup [(.neg (.v 2)), (.neg (.v 3))]))]⟩
/-- trees_row_below: 0 tree 1 order 2 left 3 place 4 shares 5 below 6 own 7 ahead -/
def f230 : Fn := ⟨4, 8, [.asg (.n 4) (.bin .mul (.lst [(.g 3)]) (.blt .len [(.ix (.v 0) (.c (.int 0)))])), .setix 4 (.v 3) (.tup [(.c (.int 1)), (.c (.int 1))]), .asg (.n 5) (.c (.int 1)), .fr (.t [(.n 6), (.n 7)]) (.v 1) [.iff (.and [(.cmp .isn (.v 7) (.c .none)), (.cmp .ne (.ix (.v 4) (.v 7)) (.g 3)), (.cmp .ne (.v 6) (.v 3))]) [.setix 4 (.v 6) (.call 24 [(.ix (.v 4) (.v 7)), (.ix (.v 2) (.v 6))])] []], .fr (.n 6) (.v 4) [.asg (.n 5) (.bin .mul (.v 5) (.ix (.v 6) (.c (.int 1))))], .ret (.blt .tuple [(.lc (.bin .mul (.ix (.v 6) (.c (.int 0))) (.bin .fdiv (.v 5) (.ix (.v 6) (.c (.int 1))))) (.n 6) (.v 4) [])])]⟩
/-- trees_form_at: 0 tree 1 row 2 found 3 worth 4 own 5 one 6 other -/
def f231 : Fn := ⟨2, 7, [.asg (.n 2) (.blt .sum [(.lc (.bin .mul (.bin .mul (.v 3) (.v 4)) (.v 4)) (.t [(.n 3), (.n 4)]) (.blt .zip [(.ix (.v 0) (.c (.int 0))), (.v 1)]) [])]), .ret (.bin .sub (.v 2) (.bin .mul (.c (.int 2)) (.blt .sum [(.lc (.bin .mul (.ix (.v 1) (.v 5)) (.ix (.v 1) (.v 6))) (.t [(.n 5), (.n 6)]) (.ix (.v 0) (.c (.int 1))) [])])))]⟩
/-- trees_near_to: 0 tree 1 place 2 tie -/
def f232 : Fn := ⟨2, 3, [.ret (.lc (.bin .sub (.blt .sum [(.v 2)]) (.v 1)) (.n 2) (.ix (.v 0) (.c (.int 1))) [(.cmp .inn (.v 1) (.v 2))])]⟩
/-- matrices_is_even_sided: 0 matrix -/
def f234 : Fn := ⟨1, 1, [.ret (.cmp .eq (.blt .len [(.v 0)]) (.blt .len [(.ix (.v 0) (.c (.int 0)))]))]⟩
/-- cuts_is_slope_of: 0 thing -/
def f235 : Fn := ⟨1, 1, [.iff (.or [(.not (.call 4 [(.v 0), (.c (.int 2))])), (.not (.call 1 [(.ix (.v 0) (.c (.int 0))), (.bin .mul (.neg (.g 41)) (.g 41)), (.bin .mul (.g 41) (.g 41))])), (.not (.call 1 [(.ix (.v 0) (.c (.int 1))), (.c (.int 0)), (.g 41)]))]) [.ret (.c (.bool false))] [], .ret (.and [(.cmp .eq (.blt .gcd [(.ix (.v 0) (.c (.int 0))), (.ix (.v 0) (.c (.int 1)))]) (.c (.int 1))), (.or [(.cmp .gt (.ix (.v 0) (.c (.int 1))) (.c (.int 0))), (.cmp .eq (.ix (.v 0) (.c (.int 0))) (.c (.int 1)))])])]⟩
/-- trees_is_above: 0 tree -/
def f236 : Fn := ⟨1, 1, [.ret (.cmp .eq (.ix (.call 229 [(.v 0)]) (.c (.int 0))) (.blt .len [(.ix (.v 0) (.c (.int 0)))]))]⟩
/-- stars_middles_in: 0 tree 1 place -/
def f237 : Fn := ⟨1, 2, [.ret (.lc (.v 1) (.n 1) (.blt .range [(.blt .len [(.ix (.v 0) (.c (.int 0)))])]) [(.cmp .gt (.blt .len [(.call 232 [(.v 0), (.v 1)])]) (.c (.int 2)))])]⟩
/-- cuts_put_by: 0 knot 1 slope 2 tubes 3 rest 4 above 5 below -/
def f238 : Fn := ⟨2, 6, [.par [(.n 2), (.n 3)] [(.call 225 [(.v 0)]), (.call 226 [(.v 0), (.v 1)])], .iff (.cmp .eq (.ix (.v 3) (.c (.int 0))) (.c (.int 0))) [.ret (.tup [(.g 42), (.blt .tuple [(.blt .sorted [(.lc (.call 85 [(.call 76 [(.v 4), (.neg (.v 5))])]) (.t [(.n 4), (.n 5)]) (.v 2) [])])])])] [], .iff (.cmp .eq (.ix (.v 3) (.c (.int 0))) (.c (.int 1))) [.ret (.bin .add (.tup [(.g 43)]) (.call 85 [(.call 115 [(.ix (.v 2) (.c (.int 0))), (.tup [(.ix (.ix (.v 2) (.c (.int 1))) (.c (.int 0))), (.bin .add (.ix (.ix (.v 2) (.c (.int 1))) (.c (.int 1))) (.bin .mul (.ix (.v 3) (.c (.int 1))) (.ix (.ix (.v 2) (.c (.int 1))) (.c (.int 0)))))])])]))] [], .ret (.tup [(.g 44), (.call 9 [(.tup [(.c (.int 0)), (.bin .add (.v 2) (.tup [(.v 3)]))])])])]⟩
/-- trees_not_above: 0 tree 1 order 2 left 3 own 4 ahead -/
def f239 : Fn := ⟨1, 5, [.asg (.n 1) (.call 227 [(.v 0), (.c (.int 0))]), .asg (.n 2) (.lc (.tup [(.v 3), (.c (.int 1))]) (.n 3) (.ix (.v 0) (.c (.int 0))) []), .fr (.t [(.n 3), (.n 4)]) (.rev (.v 1)) [.iff (.cmp .le (.ix (.ix (.v 2) (.v 3)) (.c (.int 0))) (.c (.int 0))) [.ret (.call 230 [(.v 0), (.v 1), (.v 2), (.v 3)])] [], .iff (.cmp .isn (.v 4) (.c .none)) [.setix 2 (.v 4) (.call 25 [(.ix (.v 2) (.v 4)), (.call 24 [(.tup [(.c (.int 1)), (.c (.int 1))]), (.ix (.v 2) (.v 3))])])] []], .ret (.c .none)]⟩
/-- treeclaims_tree_claim_holds: 0 claim -/
def f242 : Fn := ⟨1, 1, [.iff (.cmp .eq (.ix (.v 0) (.c (.int 0))) (.c (.str "above"))) [.ret (.call 236 [(.ix (.v 0) (.c (.int 1)))])] [], .iff (.cmp .eq (.ix (.v 0) (.c (.int 0))) (.c (.str "odd"))) [.ret (.cmp .eq (.bin .mod (.call 35 [(.call 147 [(.ix (.v 0) (.c (.int 1)))])]) (.c (.int 2))) (.c (.int 1)))] [], .iff (.cmp .eq (.ix (.v 0) (.c (.int 0))) (.c (.str "star"))) [.ret (.cmp .lt (.blt .len [(.call 237 [(.ix (.v 0) (.c (.int 1)))])]) (.c (.int 2)))] [], .iff (.cmp .eq (.ix (.v 0) (.c (.int 0))) (.c (.str "whole"))) [.ret (.cmp .eq (.blt .abs [(.call 35 [(.ix (.v 0) (.c (.int 1)))])]) (.c (.int 1)))] [], .iff (.cmp .eq (.ix (.v 0) (.c (.int 0))) (.c (.str "smooth"))) [.ret (.not (.call 57 [(.ix (.v 0) (.c (.int 1)))]))] [], .iff (.cmp .eq (.ix (.v 0) (.c (.int 0))) (.c (.str "road"))) [.ret (.cmp .lt (.blt .abs [(.call 108 [(.ix (.v 0) (.c (.int 1))), (.ix (.v 0) (.c (.int 2)))])]) (.c (.int 2)))] [], .ret (.cmp .eq (.ix (.call 238 [(.ix (.v 0) (.c (.int 1))), (.ix (.v 0) (.c (.int 2)))]) (.c (.int 0))) (.ix (.v 0) (.c (.int 3))))]⟩
/-- trees_is_why_not_above: 0 tree 1 thing 2 own 3 its -/
def f243 : Fn := ⟨2, 4, [.asg (.n 2) (.call 151 [(.v 0)]), .iff (.or [(.not (.call 4 [(.v 1), (.blt .len [(.ix (.v 2) (.c (.int 0)))])])), (.not (.blt .all [(.lc (.call 0 [(.v 3)]) (.n 3) (.v 1) [])]))]) [.ret (.c (.bool false))] [], .ret (.and [(.blt .any [(.lc (.cmp .ne (.v 3) (.c (.int 0))) (.n 3) (.v 1) [])]), (.cmp .le (.call 231 [(.v 2), (.v 1)]) (.c (.int 0)))])]⟩
/-- treeclaims_is_even_row: 0 tree 1 thing 2 many 3 table 4 row 5 k 6 own -/
def f244 : Fn := ⟨2, 7, [.asg (.n 2) (.blt .len [(.ix (.v 0) (.c (.int 0)))]), .iff (.or [(.not (.isi (.v 1) [.tuple])), (.cmp .eq (.v 1) (.tup [])), (.not (.blt .all [(.lc (.call 1 [(.v 6), (.c (.int 0)), (.bin .sub (.v 2) (.c (.int 1)))]) (.n 6) (.v 1) [])]))]) [.ret (.c (.bool false))] [], .iff (.not (.blt .all [(.lc (.cmp .lt (.ix (.v 1) (.v 5)) (.ix (.v 1) (.bin .add (.v 5) (.c (.int 1))))) (.n 5) (.blt .range [(.bin .sub (.blt .len [(.v 1)]) (.c (.int 1)))]) [])])) [.ret (.c (.bool false))] [], .asg (.n 3) (.call 147 [(.v 0)]), .ret (.blt .all [(.lc (.cmp .eq (.bin .mod (.blt .sum [(.lc (.ix (.v 4) (.v 5)) (.n 5) (.v 1) [])]) (.c (.int 2))) (.c (.int 0))) (.n 4) (.v 3) [])])]⟩
/-- treeclaims_is_two_of: 0 middles 1 thing 2 own -/
def f245 : Fn := ⟨2, 3, [.ret (.and [(.blt .all [(.lc (.and [(.call 0 [(.v 2)]), (.cmp .inn (.v 2) (.v 0))]) (.n 2) (.v 1) [])]), (.cmp .lt (.ix (.v 1) (.c (.int 0))) (.ix (.v 1) (.c (.int 1))))])]⟩
/-- treeclaims_tree_paper: 0 claim -/
def f246 : Fn := ⟨1, 1, [.iff (.cmp .eq (.ix (.v 0) (.c (.int 0))) (.c (.str "above"))) [.ret (.call 239 [(.ix (.v 0) (.c (.int 1)))])] [], .iff (.cmp .eq (.ix (.v 0) (.c (.int 0))) (.c (.str "odd"))) [.ret (.call 240 [(.ix (.v 0) (.c (.int 1)))])] [], .iff (.cmp .eq (.ix (.v 0) (.c (.int 0))) (.c (.str "star"))) [.ret (.blt .tuple [(.sl (.call 237 [(.ix (.v 0) (.c (.int 1)))]) none (some (.c (.int 2))))])] [], .iff (.cmp .eq (.ix (.v 0) (.c (.int 0))) (.c (.str "whole"))) [.ret (.call 35 [(.ix (.v 0) (.c (.int 1)))])] [], .iff (.cmp .eq (.ix (.v 0) (.c (.int 0))) (.c (.str "smooth"))) [.ret (.ix (.ix (.v 0) (.c (.int 1))) (.c (.int 1)))] [], .iff (.cmp .eq (.ix (.v 0) (.c (.int 0))) (.c (.str "road"))) [.ret (.blt .abs [(.call 108 [(.ix (.v 0) (.c (.int 1))), (.ix (.v 0) (.c (.int 2)))])])] [], .ret (.ix (.call 238 [(.ix (.v 0) (.c (.int 1))), (.ix (.v 0) (.c (.int 2)))]) (.c (.int 0)))]⟩
/-- wus_is_odd_set: 0 tree 1 thing 2 own 3 place 4 worth 5 meets 6 k 7 its -/
def f247 : Fn := ⟨2, 8, [.asg (.n 2) (.call 151 [(.v 0)]), .iff (.or [(.not (.isi (.v 1) [.tuple])), (.not (.blt .all [(.lc (.call 1 [(.v 7), (.c (.int 0)), (.bin .sub (.blt .len [(.ix (.v 2) (.c (.int 0)))]) (.c (.int 1)))]) (.n 7) (.v 1) [])]))]) [.ret (.c (.bool false))] [], .iff (.not (.blt .all [(.lc (.cmp .lt (.ix (.v 1) (.v 6)) (.ix (.v 1) (.bin .add (.v 6) (.c (.int 1))))) (.n 6) (.blt .range [(.bin .sub (.blt .len [(.v 1)]) (.c (.int 1)))]) [])])) [.ret (.c (.bool false))] [], .fr (.t [(.n 3), (.n 4)]) (.blt .enumerate [(.ix (.v 2) (.c (.int 0)))]) [.asg (.n 5) (.bin .add (.blt .len [(.lc (.v 7) (.n 7) (.call 232 [(.v 2), (.v 3)]) [(.cmp .inn (.v 7) (.v 1))])]) (.ife (.cmp .inn (.v 3) (.v 1)) (.v 4) (.c (.int 0)))), .iff (.cmp .ne (.bin .mod (.bin .sub (.v 5) (.v 4)) (.c (.int 2))) (.c (.int 0))) [.ret (.c (.bool false))] []], .ret (.c (.bool true))]⟩
/-- judge_is_claim: 0 thing -/
def f250 : Fn := ⟨1, 1, [.ret (.or [(.call 252 [(.v 0)]), (.call 253 [(.v 0)])])]⟩
/-- judge_is_of_book: 0 claim 1 word 2 long -/
def f251 : Fn := ⟨1, 3, [.ret (.cmp .inn (.ix (.v 0) (.c (.int 0))) (.lc (.v 1) (.t [(.n 1), (.n 2)]) (.g 40) []))]⟩
/-- bookclaims_is_book_claim: 0 thing -/
def f252 : Fn := ⟨1, 1, [.iff (.or [(.not (.isi (.v 0) [.tuple])), (.cmp .lt (.blt .len [(.v 0)]) (.c (.int 2))), (.not (.isi (.ix (.v 0) (.c (.int 0))) [.str]))]) [.ret (.c (.bool false))] [], .iff (.cmp .nin (.tup [(.ix (.v 0) (.c (.int 0))), (.blt .len [(.v 0)])]) (.g 40)) [.ret (.c (.bool false))] [], .iff (.cmp .inn (.ix (.v 0) (.c (.int 0))) (.tup [(.c (.str "lens")), (.c (.str "twins"))])) [.iff (.or [(.not (.call 194 [(.ix (.v 0) (.c (.int 1)))])), (.not (.call 194 [(.ix (.v 0) (.c (.int 2)))])), (.cmp .ne (.ix (.ix (.v 0) (.c (.int 1))) (.c (.int 0))) (.ix (.ix (.v 0) (.c (.int 2))) (.c (.int 0))))]) [.ret (.c (.bool false))] [], .ret (.cmp .gt (.ix (.ix (.v 0) (.c (.int 1))) (.c (.int 0))) (.c (.int 1)))] [], .iff (.not (.call 8 [(.ix (.v 0) (.c (.int 1)))])) [.ret (.c (.bool false))] [], .iff (.cmp .eq (.ix (.v 0) (.c (.int 0))) (.c (.str "unfolds"))) [.ret (.call 1 [(.ix (.v 0) (.c (.int 2))), (.c (.int 1)), (.bin .pow (.c (.int 10)) (.c (.int 6)))])] [], .ret (.or [(.cmp .eq (.blt .len [(.v 0)]) (.c (.int 2))), (.call 8 [(.ix (.v 0) (.c (.int 2)))])])]⟩
/-- treeclaims_is_tree_claim: 0 thing -/
def f253 : Fn := ⟨1, 1, [.iff (.or [(.not (.isi (.v 0) [.tuple])), (.cmp .lt (.blt .len [(.v 0)]) (.c (.int 2))), (.not (.isi (.ix (.v 0) (.c (.int 0))) [.str]))]) [.ret (.c (.bool false))] [], .iff (.cmp .nin (.tup [(.ix (.v 0) (.c (.int 0))), (.blt .len [(.v 0)])]) (.g 45)) [.ret (.c (.bool false))] [], .iff (.cmp .inn (.ix (.v 0) (.c (.int 0))) (.tup [(.c (.str "above")), (.c (.str "odd")), (.c (.str "star"))])) [.ret (.call 142 [(.ix (.v 0) (.c (.int 1)))])] [], .iff (.cmp .eq (.ix (.v 0) (.c (.int 0))) (.c (.str "whole"))) [.ret (.and [(.call 204 [(.ix (.v 0) (.c (.int 1)))]), (.call 234 [(.ix (.v 0) (.c (.int 1)))])])] [], .iff (.cmp .eq (.ix (.v 0) (.c (.int 0))) (.c (.str "smooth"))) [.ret (.call 54 [(.ix (.v 0) (.c (.int 1)))])] [], .iff (.cmp .eq (.ix (.v 0) (.c (.int 0))) (.c (.str "road"))) [.ret (.and [(.call 107 [(.ix (.v 0) (.c (.int 1)))]), (.call 107 [(.ix (.v 0) (.c (.int 2)))])])] [], .iff (.or [(.not (.call 12 [(.ix (.v 0) (.c (.int 1)))])), (.not (.call 235 [(.ix (.v 0) (.c (.int 2)))])), (.cmp .gt (.ix (.call 226 [(.ix (.v 0) (.c (.int 1))), (.ix (.v 0) (.c (.int 2)))]) (.c (.int 0))) (.bin .pow (.c (.int 10)) (.c (.int 6))))]) [.ret (.c (.bool false))] [], .ret (.and [(.isi (.ix (.v 0) (.c (.int 3))) [.str]), (.cmp .inn (.ix (.v 0) (.c (.int 3))) (.g 46))])]⟩
/-- judge_holds: 0 claim -/
def f254 : Fn := ⟨1, 1, [.ret (.ife (.call 251 [(.v 0)]) (.call 216 [(.v 0)]) (.call 242 [(.v 0)]))]⟩
/-- judge_sure_claim: 0 thing 1 claim -/
def f255 : Fn := ⟨1, 2, [.asg (.n 1) (.call 2 [(.v 0)]), .iff (.not (.call 250 [(.v 1)])) [.never] [], .ret (.v 1)]⟩
/-- bookclaims_book_paper: 0 claim -/
def f256 : Fn := ⟨1, 1, [.iff (.cmp .eq (.ix (.v 0) (.c (.int 0))) (.c (.str "tubes"))) [.ret (.call 209 [(.call 9 [(.ix (.v 0) (.c (.int 1)))]), (.call 9 [(.ix (.v 0) (.c (.int 2)))])])] [], .iff (.cmp .eq (.ix (.v 0) (.c (.int 0))) (.c (.str "room"))) [.ret (.tup [(.call 118 [(.ix (.v 0) (.c (.int 1)))]), (.call 118 [(.ix (.v 0) (.c (.int 2)))])])] [], .iff (.cmp .eq (.ix (.v 0) (.c (.int 0))) (.c (.str "lens"))) [.ret (.bin .mod (.bin .mul (.ix (.ix (.v 0) (.c (.int 1))) (.c (.int 1))) (.ix (.ix (.v 0) (.c (.int 2))) (.c (.int 1)))) (.ix (.ix (.v 0) (.c (.int 1))) (.c (.int 0))))] [], .iff (.cmp .eq (.ix (.v 0) (.c (.int 0))) (.c (.str "twins"))) [.ret (.call 210 [(.ix (.v 0) (.c (.int 1))), (.ix (.v 0) (.c (.int 2)))])] [], .iff (.cmp .eq (.ix (.v 0) (.c (.int 0))) (.c (.str "sphere"))) [.ret (.call 211 [(.ix (.v 0) (.c (.int 1)))])] [], .iff (.cmp .eq (.ix (.v 0) (.c (.int 0))) (.c (.str "unfolds"))) [.ret (.call 212 [(.ix (.v 0) (.c (.int 1))), (.ix (.v 0) (.c (.int 2)))])] [], .iff (.cmp .eq (.ix (.v 0) (.c (.int 0))) (.c (.str "mirror"))) [.ret (.tup [(.call 118 [(.ix (.v 0) (.c (.int 1)))]), (.call 118 [(.call 208 [(.ix (.v 0) (.c (.int 1)))])])])] [], .ret (.call 159 [(.call 9 [(.ix (.v 0) (.c (.int 1)))])])]⟩
/-- bookclaims_book_reason: 0 claim -/
def f257 : Fn := ⟨1, 1, [.iff (.cmp .eq (.ix (.v 0) (.c (.int 0))) (.c (.str "tubes"))) [.ret (.call 213 [(.ix (.v 0) (.c (.int 1))), (.ix (.v 0) (.c (.int 2)))])] [], .iff (.cmp .eq (.ix (.v 0) (.c (.int 0))) (.c (.str "room"))) [.ret (.call 118 [(.ix (.v 0) (.c (.int 1)))])] [], .iff (.cmp .eq (.ix (.v 0) (.c (.int 0))) (.c (.str "lens"))) [.ret (.ife (.cmp .eq (.ix (.ix (.v 0) (.c (.int 1))) (.c (.int 1))) (.ix (.ix (.v 0) (.c (.int 2))) (.c (.int 1)))) (.c (.int 1)) (.neg (.c (.int 1))))] [], .iff (.cmp .eq (.ix (.v 0) (.c (.int 0))) (.c (.str "twins"))) [.ret (.call 214 [(.ix (.v 0) (.c (.int 1))), (.ix (.v 0) (.c (.int 2)))])] [], .iff (.cmp .eq (.ix (.v 0) (.c (.int 0))) (.c (.str "sphere"))) [.ret (.call 41 [(.ix (.v 0) (.c (.int 1)))])] [], .iff (.cmp .eq (.ix (.v 0) (.c (.int 0))) (.c (.str "unfolds"))) [.ret (.call 215 [(.ix (.v 0) (.c (.int 1))), (.ix (.v 0) (.c (.int 2)))])] [], .iff (.cmp .eq (.ix (.v 0) (.c (.int 0))) (.c (.str "mirror"))) [.ret (.call 118 [(.ix (.v 0) (.c (.int 1)))])] [], .ret (.call 203 [(.call 9 [(.ix (.v 0) (.c (.int 1)))])])]⟩
/-- bookclaims_is_book_paper: 0 claim 1 thing -/
def f258 : Fn := ⟨2, 2, [.iff (.call 216 [(.v 0)]) [.ret (.c (.bool false))] [], .iff (.cmp .eq (.ix (.v 0) (.c (.int 0))) (.c (.str "tubes"))) [.ret (.and [(.call 1 [(.v 1), (.c (.int 0)), (.c (.int 2))]), (.cmp .ne (.ix (.call 9 [(.ix (.v 0) (.c (.int 1)))]) (.v 1)) (.ix (.call 9 [(.ix (.v 0) (.c (.int 2)))]) (.v 1)))])] [], .iff (.cmp .eq (.ix (.v 0) (.c (.int 0))) (.c (.str "room"))) [.ret (.call 217 [(.v 1), (.tup [(.call 118 [(.ix (.v 0) (.c (.int 1)))]), (.call 118 [(.ix (.v 0) (.c (.int 2)))])])])] [], .iff (.cmp .eq (.ix (.v 0) (.c (.int 0))) (.c (.str "lens"))) [.ret (.and [(.call 0 [(.v 1)]), (.cmp .eq (.v 1) (.bin .mod (.bin .mul (.ix (.ix (.v 0) (.c (.int 1))) (.c (.int 1))) (.ix (.ix (.v 0) (.c (.int 2))) (.c (.int 1)))) (.ix (.ix (.v 0) (.c (.int 1))) (.c (.int 0)))))])] [], .iff (.cmp .eq (.ix (.v 0) (.c (.int 0))) (.c (.str "twins"))) [.ret (.call 218 [(.ix (.v 0) (.c (.int 1))), (.ix (.v 0) (.c (.int 2))), (.v 1)])] [], .iff (.cmp .eq (.ix (.v 0) (.c (.int 0))) (.c (.str "sphere"))) [.ret (.call 219 [(.ix (.v 0) (.c (.int 1))), (.v 1)])] [], .iff (.cmp .eq (.ix (.v 0) (.c (.int 0))) (.c (.str "unfolds"))) [.ret (.call 220 [(.ix (.v 0) (.c (.int 1))), (.ix (.v 0) (.c (.int 2))), (.v 1)])] [], .iff (.cmp .eq (.ix (.v 0) (.c (.int 0))) (.c (.str "mirror"))) [.ret (.call 217 [(.v 1), (.tup [(.call 118 [(.ix (.v 0) (.c (.int 1)))]), (.call 118 [(.call 208 [(.ix (.v 0) (.c (.int 1)))])])])])] [], .ret (.and [(.isi (.v 1) [.str]), (.cmp .eq (.v 1) (.call 159 [(.call 9 [(.ix (.v 0) (.c (.int 1)))])]))])]⟩
/-- treeclaims_is_tree_paper: 0 claim 1 thing -/
def f259 : Fn := ⟨2, 2, [.iff (.call 242 [(.v 0)]) [.ret (.c (.bool false))] [], .iff (.cmp .eq (.ix (.v 0) (.c (.int 0))) (.c (.str "above"))) [.ret (.call 243 [(.ix (.v 0) (.c (.int 1))), (.v 1)])] [], .iff (.cmp .eq (.ix (.v 0) (.c (.int 0))) (.c (.str "odd"))) [.ret (.call 244 [(.ix (.v 0) (.c (.int 1))), (.v 1)])] [], .iff (.cmp .eq (.ix (.v 0) (.c (.int 0))) (.c (.str "star"))) [.ret (.and [(.isi (.v 1) [.tuple]), (.cmp .eq (.blt .len [(.v 1)]) (.c (.int 2))), (.call 245 [(.call 237 [(.ix (.v 0) (.c (.int 1)))]), (.v 1)])])] [], .ret (.call 217 [(.v 1), (.call 246 [(.v 0)])])]⟩
/-- bookclaims_is_book_reason: 0 claim 1 thing -/
def f260 : Fn := ⟨2, 2, [.iff (.not (.call 216 [(.v 0)])) [.ret (.c (.bool false))] [], .iff (.cmp .eq (.ix (.v 0) (.c (.int 0))) (.c (.str "tubes"))) [.ret (.call 221 [(.ix (.v 0) (.c (.int 1))), (.ix (.v 0) (.c (.int 2))), (.v 1)])] [], .iff (.cmp .inn (.ix (.v 0) (.c (.int 0))) (.tup [(.c (.str "room")), (.c (.str "mirror"))])) [.ret (.call 217 [(.v 1), (.call 118 [(.ix (.v 0) (.c (.int 1)))])])] [], .iff (.cmp .eq (.ix (.v 0) (.c (.int 0))) (.c (.str "lens"))) [.ret (.call 222 [(.v 0), (.v 1)])] [], .iff (.cmp .eq (.ix (.v 0) (.c (.int 0))) (.c (.str "twins"))) [.ret (.call 223 [(.ix (.v 0) (.c (.int 1))), (.ix (.v 0) (.c (.int 2))), (.v 1)])] [], .iff (.cmp .eq (.ix (.v 0) (.c (.int 0))) (.c (.str "sphere"))) [.ret (.call 217 [(.v 1), (.tup [(.c (.int 0)), (.tup [])])])] [], .iff (.cmp .eq (.ix (.v 0) (.c (.int 0))) (.c (.str "unfolds"))) [.ret (.and [(.call 189 [(.ix (.v 0) (.c (.int 1))), (.ix (.v 0) (.c (.int 2)))]), (.call 224 [(.ix (.v 0) (.c (.int 1))), (.ix (.v 0) (.c (.int 2))), (.v 1)])])] [], .ret (.and [(.call 0 [(.v 1)]), (.cmp .eq (.v 1) (.call 203 [(.call 9 [(.ix (.v 0) (.c (.int 1)))])]))])]⟩
/-- treeclaims_is_tree_reason: 0 claim 1 thing -/
def f261 : Fn := ⟨2, 2, [.iff (.not (.call 242 [(.v 0)])) [.ret (.c (.bool false))] [], .iff (.cmp .eq (.ix (.v 0) (.c (.int 0))) (.c (.str "odd"))) [.ret (.call 247 [(.ix (.v 0) (.c (.int 1))), (.v 1)])] [], .iff (.cmp .eq (.ix (.v 0) (.c (.int 0))) (.c (.str "whole"))) [.ret (.call 248 [(.ix (.v 0) (.c (.int 1))), (.v 1)])] [], .iff (.cmp .eq (.ix (.v 0) (.c (.int 0))) (.c (.str "road"))) [.ret (.call 129 [(.ix (.v 0) (.c (.int 1))), (.ix (.v 0) (.c (.int 2))), (.v 1)])] [], .ret (.call 217 [(.v 1), (.call 249 [(.v 0)])])]⟩
/-- law__law_tube: 0 tin 1 most 2 reach 3 above 4 fits_so 5 own -/
def f262 : Fn := ⟨3, 6, [.asg (.n 3) (.bin .add (.c (.int 1)) (.call 43 [(.v 0), (.v 1)])), .asg (.n 4) (.lc (.v 5) (.n 5) (.blt .range [(.neg (.v 2)), (.bin .add (.v 2) (.c (.int 1)))]) [(.cmp .eq (.call 45 [(.v 5), (.v 3)]) (.c (.int 1)))]), .ret (.tup [(.v 3), (.call 71 [(.v 0), (.v 4)])])]⟩
/-- law__law_pick: 0 tin 1 goods_so 2 count_so 3 lap 4 pool_so 5 found -/
def f263 : Fn := ⟨3, 6, [.par [(.n 4), (.n 5)] [(.blt .list [(.v 1)]), (.lst [])], .fr (.n 3) (.blt .range [(.blt .min [(.blt .int [(.v 2)]), (.blt .len [(.v 4)])])]) [.app 5 (.pop 4 (some (.call 43 [(.v 0), (.blt .len [(.v 4)])])))], .ret (.v 5)]⟩
/-- books_after_moves: 0 book 1 moves 2 found 3 number 4 move -/
def f264 : Fn := ⟨2, 5, [.asg (.n 2) (.call 10 [(.v 0)]), .fr (.t [(.n 3), (.n 4)]) (.blt .enumerate [(.call 184 [(.v 1)])]) [.asg (.n 2) (.call 182 [(.v 2), (.v 4)]), .iff (.cmp .is (.v 2) (.c .none)) [.never] []], .ret (.v 2)]⟩
/-- law__law_mirror: 0 book 1 above 2 below -/
def f265 : Fn := ⟨1, 3, [.ret (.tup [(.ix (.v 0) (.c (.int 0))), (.blt .tuple [(.lc (.tup [(.v 1), (.neg (.v 2))]) (.t [(.n 1), (.n 2)]) (.ix (.v 0) (.c (.int 1))) [])])])]⟩
/-- manners_how_many_loops: 0 book -/
def f266 : Fn := ⟨1, 1, [.ret (.call 203 [(.call 9 [(.call 10 [(.v 0)])])])]⟩
/-- law__law_book: 0 tin 1 handles 2 many 3 most 4 lap -/
def f268 : Fn := ⟨4, 5, [.ret (.tup [(.call 43 [(.v 0), (.bin .add (.v 1) (.c (.int 1)))]), (.blt .tuple [(.lc (.call 262 [(.v 0), (.v 3), (.c (.int 9))]) (.n 4) (.blt .range [(.call 43 [(.v 0), (.bin .add (.v 2) (.c (.int 1)))])]) [])])])]⟩
/-- law__law_mixed: 0 tin 1 book 2 tubes_so 3 lap 4 often 5 own 6 one 7 two -/
def f269 : Fn := ⟨2, 8, [.asg (.n 2) (.bin .add (.lc (.v 5) (.n 5) (.ix (.v 1) (.c (.int 1))) []) (.bin .mul (.lst [(.tup [(.c (.int 1)), (.c (.int 0))])]) (.call 43 [(.v 0), (.c (.int 3))]))), .fr (.n 3) (.blt .range [(.c (.int 3))]) [.iff (.cmp .gt (.blt .len [(.v 2)]) (.c (.int 1))) [.asg (.t [(.n 6), (.n 7)]) (.call 263 [(.v 0), (.lrg [(.blt .len [(.v 2)])]), (.c (.int 2))]), .asg (.n 4) (.bin .sub (.call 43 [(.v 0), (.c (.int 7))]) (.c (.int 3))), .setix 2 (.v 6) (.tup [(.ix (.ix (.v 2) (.v 6)) (.c (.int 0))), (.bin .add (.ix (.ix (.v 2) (.v 6)) (.c (.int 1))) (.bin .mul (.v 4) (.ix (.ix (.v 2) (.v 6)) (.c (.int 0)))))]), .setix 2 (.v 7) (.tup [(.ix (.ix (.v 2) (.v 7)) (.c (.int 0))), (.bin .sub (.ix (.ix (.v 2) (.v 7)) (.c (.int 1))) (.bin .mul (.v 4) (.ix (.ix (.v 2) (.v 7)) (.c (.int 0)))))])] []], .ret (.tup [(.ix (.v 1) (.c (.int 0))), (.blt .tuple [(.call 263 [(.v 0), (.v 2), (.blt .len [(.v 2)])])])])]⟩
/-- judge_claim_holds: 0 claim -/
def f270 : Fn := ⟨1, 1, [.ret (.call 254 [(.call 255 [(.v 0)])])]⟩
/-- judge_claim_reason: 0 claim 1 own -/
def f271 : Fn := ⟨1, 2, [.asg (.n 1) (.call 255 [(.v 0)]), .iff (.not (.call 254 [(.v 1)])) [.ret (.c .none)] [], .ret (.ife (.call 251 [(.v 1)]) (.call 257 [(.v 1)]) (.call 249 [(.v 1)]))]⟩
/-- judge_claim_paper: 0 claim 1 own -/
def f272 : Fn := ⟨1, 2, [.asg (.n 1) (.call 255 [(.v 0)]), .iff (.call 254 [(.v 1)]) [.ret (.c .none)] [], .ret (.ife (.call 251 [(.v 1)]) (.call 256 [(.v 1)]) (.call 246 [(.v 1)]))]⟩
/-- judge_is_claim_reason: 0 claim 1 thing 2 own -/
def f274 : Fn := ⟨2, 3, [.asg (.n 2) (.call 255 [(.v 0)]), .ret (.ife (.call 251 [(.v 2)]) (.call 260 [(.v 2), (.v 1)]) (.call 261 [(.v 2), (.v 1)]))]⟩
/-- judge_is_claim_paper: 0 claim 1 thing 2 own -/
def f275 : Fn := ⟨2, 3, [.asg (.n 2) (.call 255 [(.v 0)]), .ret (.ife (.call 251 [(.v 2)]) (.call 258 [(.v 2), (.v 1)]) (.call 259 [(.v 2), (.v 1)]))]⟩
/-- judge_first_to_fall: 0 claims 1 found 2 number 3 own -/
def f276 : Fn := ⟨1, 4, [.asg (.n 1) (.call 2 [(.v 0)]), .iff (.or [(.not (.isi (.v 1) [.tuple])), (.not (.blt .all [(.lc (.call 250 [(.v 3)]) (.n 3) (.v 1) [])]))]) [.never] [], .fr (.t [(.n 2), (.n 3)]) (.blt .enumerate [(.v 1)]) [.iff (.not (.call 254 [(.v 3)])) [.ret (.v 2)] []], .ret (.c .none)]⟩
/-- cuts_sure_slope: 0 thing 1 slope -/
def f277 : Fn := ⟨1, 2, [.asg (.n 1) (.call 2 [(.v 0)]), .iff (.not (.call 235 [(.v 1)])) [.never] [], .ret (.v 1)]⟩
/-- law__law_even: 0 tree 1 some_so 2 rows_so 3 row_so 4 k -/
def f280 : Fn := ⟨2, 5, [.asg (.n 2) (.call 278 [(.v 0)]), .ret (.and [(.cmp .ne (.v 1) (.tup [])), (.blt .all [(.lc (.cmp .eq (.bin .mod (.blt .sum [(.lc (.ix (.v 3) (.v 4)) (.n 4) (.v 1) [])]) (.c (.int 2))) (.c (.int 0))) (.n 3) (.v 2) [])])])]⟩
/-- law__law_middles: 0 tree 1 k 2 tie -/
def f281 : Fn := ⟨1, 3, [.ret (.lc (.v 1) (.n 1) (.blt .range [(.blt .len [(.ix (.v 0) (.c (.int 0)))])]) [(.cmp .gt (.blt .len [(.lc (.v 2) (.n 2) (.ix (.v 0) (.c (.int 1))) [(.cmp .inn (.v 1) (.v 2))])]) (.c (.int 2)))])]⟩
/-- floors_least_sheets: 0 floor 1 own 2 found 3 number 4 worth 5 step -/
def f283 : Fn := ⟨1, 6, [.asg (.n 1) (.call 56 [(.v 0)]), .iff (.call 57 [(.v 1)]) [.never] [], .asg (.n 2) (.c (.int 1)), .fr (.n 3) (.ix (.v 1) (.c (.int 1))) [.asg (.n 2) (.bin .fdiv (.bin .mul (.v 2) (.v 3)) (.blt .gcd [(.v 2), (.v 3)]))], .asg (.n 4) (.call 55 [(.v 1)]), .asg (.n 5) (.ife (.cmp .eq (.bin .mod (.ix (.v 4) (.c (.int 0))) (.c (.int 2))) (.c (.int 0))) (.ix (.v 4) (.c (.int 1))) (.bin .mul (.c (.int 2)) (.ix (.v 4) (.c (.int 1))))), .ret (.bin .fdiv (.bin .mul (.v 2) (.v 5)) (.blt .gcd [(.v 2), (.v 5)]))]⟩
/-- cuts_put_back: 0 knot 1 slope 2 own 3 told -/
def f284 : Fn := ⟨2, 4, [.par [(.n 2), (.n 3)] [(.call 33 [(.v 0)]), (.call 277 [(.v 1)])], .iff (.cmp .gt (.ix (.call 226 [(.v 2), (.v 3)]) (.c (.int 0))) (.g 47)) [.never] [], .ret (.call 238 [(.v 2), (.v 3)])]⟩
/-- law__law_box: 0 script 1 k 2 bit_so -/
def f285 : Fn := ⟨2, 3, [.asg (.n 2) (.ife (.cmp .lt (.v 1) (.blt .len [(.v 0)])) (.ix (.v 0) (.v 1)) (.c (.int 0))), .ret (.lst [(.bin .mul (.blt .abs [(.v 2)]) (.blt .int [(.cmp .ge (.blt .abs [(.v 2)]) (.bin .pow (.c (.int 10)) (.c (.int 18))))])), (.bin .add (.bin .add (.bin .mod (.blt .int [(.v 2)]) (.c (.int 2305843009213693951))) (.bin .mul (.c (.int 39373)) (.v 1))) (.c (.int 20953041))), (.c (.int 0))])]⟩
/-- law__law_tree: 0 tin 1 most 2 reach 3 many 4 ties_so 5 own -/
def f286 : Fn := ⟨3, 6, [.asg (.n 3) (.bin .add (.c (.int 1)) (.call 43 [(.v 0), (.v 1)])), .asg (.n 4) (.lc (.blt .tuple [(.blt .sorted [(.lst [(.v 5), (.call 43 [(.v 0), (.v 5)])])])]) (.n 5) (.blt .range [(.c (.int 1)), (.v 3)]) []), .ret (.tup [(.blt .tuple [(.lc (.bin .sub (.call 43 [(.v 0), (.bin .add (.bin .mul (.c (.int 2)) (.v 2)) (.c (.int 1)))]) (.v 2)) (.n 5) (.blt .range [(.v 3)]) [])]), (.blt .tuple [(.call 263 [(.v 0), (.v 4), (.bin .sub (.v 3) (.c (.int 1)))])])])]⟩
/-- law__law_right: 0 claim 1 holds_so 2 thing 3 word 4 one 5 middles_so 6 own -/
def f287 : Fn := ⟨3, 7, [.par [(.n 3), (.n 4)] [(.ix (.v 0) (.c (.int 0))), (.ix (.v 0) (.c (.int 1)))], .iff (.cmp .eq (.v 3) (.c (.str "above"))) [.ret (.ife (.v 1) (.and [(.cmp .eq (.v 2) (.call 279 [(.v 4), (.c (.int 0))])), (.blt .all [(.lc (.cmp .gt (.ix (.v 6) (.c (.int 0))) (.c (.int 0))) (.n 6) (.v 2) [])])]) (.call 243 [(.v 4), (.v 2)]))] [], .iff (.cmp .eq (.v 3) (.c (.str "odd"))) [.ret (.ife (.v 1) (.call 247 [(.v 4), (.v 2)]) (.call 280 [(.v 4), (.v 2)]))] [], .iff (.cmp .eq (.v 3) (.c (.str "star"))) [.asg (.n 5) (.call 281 [(.v 4)]), .ret (.ife (.v 1) (.cmp .eq (.v 2) (.blt .len [(.v 5)])) (.and [(.cmp .lt (.ix (.v 2) (.c (.int 0))) (.ix (.v 2) (.c (.int 1)))), (.cmp .inn (.ix (.v 2) (.c (.int 0))) (.v 5)), (.cmp .inn (.ix (.v 2) (.c (.int 1))) (.v 5))]))] [], .iff (.cmp .eq (.v 3) (.c (.str "whole"))) [.ret (.ife (.v 1) (.call 248 [(.v 4), (.v 2)]) (.cmp .eq (.v 2) (.call 282 [(.v 4)])))] [], .iff (.cmp .eq (.v 3) (.c (.str "smooth"))) [.ret (.cmp .eq (.v 2) (.ife (.v 1) (.call 283 [(.v 4)]) (.ix (.v 4) (.c (.int 1)))))] [], .iff (.cmp .eq (.v 3) (.c (.str "cut"))) [.ret (.cmp .eq (.v 2) (.ife (.v 1) (.call 284 [(.v 4), (.ix (.v 0) (.c (.int 2)))]) (.ix (.call 284 [(.v 4), (.ix (.v 0) (.c (.int 2)))]) (.c (.int 0)))))] [], .ret (.ife (.v 1) (.call 129 [(.v 4), (.ix (.v 0) (.c (.int 2))), (.v 2)]) (.cmp .eq (.v 2) (.blt .abs [(.bin .sub (.bin .mul (.ix (.v 4) (.c (.int 0))) (.ix (.ix (.v 0) (.c (.int 2))) (.c (.int 1)))) (.bin .mul (.ix (.v 4) (.c (.int 1))) (.ix (.ix (.v 0) (.c (.int 2))) (.c (.int 0)))))])))]⟩
/-- rows_is_row_of: 0 thing -/
def f288 : Fn := ⟨1, 1, [.ret (.and [(.call 141 [(.v 0), (.g 48)]), (.chain .le .le (.c (.int 1)) (.blt .len [(.v 0)]) (.g 21))])]⟩
/-- rows_sure_row: 0 thing 1 row -/
def f304 : Fn := ⟨1, 2, [.asg (.n 1) (.call 2 [(.v 0)]), .iff (.not (.call 288 [(.v 1)])) [.never] [], .ret (.v 1)]⟩
/-- rows_worth_by: 0 row 1 own 2 above 3 below -/
def f307 : Fn := ⟨1, 4, [.asg (.t [(.n 2), (.n 3)]) (.tup [(.c (.int 1)), (.c (.int 0))]), .fr (.n 1) (.rev (.v 0)) [.par [(.n 2), (.n 3)] [(.bin .sub (.bin .mul (.v 1) (.v 2)) (.v 3)), (.v 2)]], .ret (.tup [(.v 2), (.v 3)])]⟩
/-- rows_sure_place: 0 thing 1 least 2 most -/
def f308 : Fn := ⟨3, 3, [.iff (.not (.call 1 [(.v 0), (.v 1), (.v 2)])) [.never] [], .ret (.v 0)]⟩
/-- rows_sure_side: 0 thing -/
def f309 : Fn := ⟨1, 1, [.iff (.or [(.not (.call 1 [(.v 0), (.neg (.c (.int 1))), (.c (.int 1))])), (.cmp .eq (.v 0) (.c (.int 0)))]) [.never] [], .ret (.v 0)]⟩
/-- rows_fitting: 0 row -/
def f310 : Fn := ⟨1, 1, [.iff (.not (.call 288 [(.v 0)])) [.never] [], .ret (.v 0)]⟩
/-- rows_next_deed: 0 row 1 at 2 own -/
def f311 : Fn := ⟨1, 3, [.fr (.t [(.n 1), (.n 2)]) (.blt .enumerate [(.v 0)]) [.iff (.and [(.cmp .inn (.v 2) (.tup [(.c (.int 1)), (.neg (.c (.int 1)))])), (.cmp .gt (.blt .len [(.v 0)]) (.c (.int 1)))]) [.ret (.tup [(.c (.str "down")), (.v 1)])] [], .iff (.and [(.cmp .eq (.v 2) (.c (.int 0))), (.chain .lt .lt (.c (.int 0)) (.v 1) (.bin .sub (.blt .len [(.v 0)]) (.c (.int 1))))]) [.ret (.tup [(.c (.str "join")), (.v 1)])] []], .ret (.c .none)]⟩
/-- rows_row_joined: 0 row 1 place 2 own 3 at -/
def f312 : Fn := ⟨2, 4, [.asg (.n 2) (.call 304 [(.v 0)]), .asg (.n 3) (.call 308 [(.v 1), (.c (.int 0)), (.bin .sub (.blt .len [(.v 2)]) (.c (.int 1)))]), .iff (.or [(.cmp .ne (.ix (.v 2) (.v 3)) (.c (.int 0))), (.cmp .eq (.v 3) (.c (.int 0))), (.cmp .eq (.v 3) (.bin .sub (.blt .len [(.v 2)]) (.c (.int 1))))]) [.never] [], .ret (.call 310 [(.bin .add (.bin .add (.sl (.v 2) none (some (.bin .sub (.v 3) (.c (.int 1))))) (.tup [(.bin .add (.ix (.v 2) (.bin .sub (.v 3) (.c (.int 1)))) (.ix (.v 2) (.bin .add (.v 3) (.c (.int 1)))))])) (.sl (.v 2) (some (.bin .add (.v 3) (.c (.int 2)))) none))])]⟩
/-- rows_row_down: 0 row 1 place 2 own 3 at 4 sign 5 found -/
def f313 : Fn := ⟨2, 6, [.asg (.n 2) (.call 304 [(.v 0)]), .asg (.n 3) (.call 308 [(.v 1), (.c (.int 0)), (.bin .sub (.blt .len [(.v 2)]) (.c (.int 1)))]), .asg (.n 4) (.ix (.v 2) (.v 3)), .iff (.or [(.cmp .nin (.v 4) (.tup [(.c (.int 1)), (.neg (.c (.int 1)))])), (.cmp .eq (.blt .len [(.v 2)]) (.c (.int 1)))]) [.never] [], .asg (.n 5) (.v 2), .iff (.cmp .gt (.v 3) (.c (.int 0))) [.asg (.n 5) (.call 181 [(.v 5), (.bin .sub (.v 3) (.c (.int 1))), (.bin .sub (.ix (.v 2) (.bin .sub (.v 3) (.c (.int 1)))) (.v 4))])] [], .iff (.cmp .lt (.v 3) (.bin .sub (.blt .len [(.v 2)]) (.c (.int 1)))) [.asg (.n 5) (.call 181 [(.v 5), (.bin .add (.v 3) (.c (.int 1))), (.bin .sub (.ix (.v 2) (.bin .add (.v 3) (.c (.int 1)))) (.v 4))])] [], .ret (.call 310 [(.bin .add (.sl (.v 5) none (some (.v 3))) (.sl (.v 5) (some (.bin .add (.v 3) (.c (.int 1)))) none))])]⟩
/-- rows_settled_by: 0 row 1 held 2 deeds 3 deed -/
def f314 : Fn := ⟨1, 4, [.par [(.n 1), (.n 2)] [(.v 0), (.lst [])], .whl (.c (.bool true)) [.asg (.n 3) (.call 311 [(.v 1)]), .iff (.cmp .is (.v 3) (.c .none)) [.ret (.tup [(.v 1), (.blt .tuple [(.v 2)])])] [], .app 2 (.v 3), .asg (.n 1) (.ife (.cmp .eq (.ix (.v 3) (.c (.int 0))) (.c (.str "join"))) (.call 312 [(.v 1), (.ix (.v 3) (.c (.int 1)))]) (.call 313 [(.v 1), (.ix (.v 3) (.c (.int 1)))]))]]⟩
/-- naming_letters_of: 0 book -/
def f318 : Fn := ⟨1, 1, [.ret (.bin .add (.bin .add (.blt .len [(.ix (.v 0) (.c (.int 1)))]) (.bin .mul (.c (.int 2)) (.ix (.v 0) (.c (.int 0))))) (.c (.int 1)))]⟩
/-- naming_sure_short: 0 thing 1 book 2 above 3 below -/
def f321 : Fn := ⟨1, 4, [.asg (.n 1) (.call 10 [(.v 0)]), .iff (.blt .any [(.lc (.or [(.cmp .gt (.v 2) (.g 58)), (.cmp .gt (.blt .abs [(.v 3)]) (.g 58))]) (.t [(.n 2), (.n 3)]) (.ix (.v 1) (.c (.int 1))) [])]) [.never] [], .ret (.v 1)]⟩
/-- spreads_floors_with: 0 book 1 often 2 count 3 above 4 below -/
def f325 : Fn := ⟨2, 5, [.asg (.n 2) (.c (.int 1)), .fr (.t [(.n 3), (.n 4)]) (.ix (.v 0) (.c (.int 1))) [.asg (.n 2) (.bin .mul (.v 2) (.blt .gcd [(.v 3), (.v 1)]))], .iff (.cmp .gt (.v 2) (.bin .mul (.c (.int 20)) (.g 59))) [.never] [], .ret (.call 327 [(.v 0), (.v 1)])]⟩
/-- turns_sure_below: 0 thing -/
def f329 : Fn := ⟨1, 1, [.iff (.not (.call 1 [(.v 0), (.c (.int 2)), (.g 60)])) [.never] [], .ret (.v 0)]⟩
/-- turns_how_many_weights: 0 book 1 below 2 own 3 many 4 free 5 others 6 its -/
def f330 : Fn := ⟨2, 7, [.par [(.n 2), (.n 3)] [(.call 10 [(.v 0)]), (.call 329 [(.v 1)])], .asg (.t [(.n 4), (.n 5)]) (.call 41 [(.v 2)]), .ret (.bin .mul (.call 28 [(.bin .mul (.lst [(.v 3)]) (.v 4))]) (.call 28 [(.lc (.blt .gcd [(.v 6), (.v 3)]) (.n 6) (.v 5) [])]))]⟩
/-- ways_behind: 0 one 1 other 2 own -/
def f331 : Fn := ⟨2, 3, [.ret (.blt .tuple [(.lc (.ix (.v 1) (.v 2)) (.n 2) (.v 0) [])])]⟩
/-- ways_often: 0 order 1 times 2 lap 3 found 4 own -/
def f337 : Fn := ⟨2, 5, [.par [(.n 3), (.n 4)] [(.blt .tuple [(.blt .range [(.blt .len [(.v 0)])])]), (.ife (.cmp .ge (.v 1) (.c (.int 0))) (.v 0) (.call 386 [(.v 0)]))], .fr (.n 2) (.blt .range [(.bin .mod (.blt .abs [(.v 1)]) (.c (.int 60)))]) [.asg (.n 3) (.call 331 [(.v 3), (.v 4)])], .ret (.v 3)]⟩
/-- trees_is_deed_of: 0 thing -/
def f351 : Fn := ⟨1, 1, [.iff (.or [(.not (.isi (.v 0) [.tuple])), (.cmp .lt (.blt .len [(.v 0)]) (.c (.int 2))), (.not (.isi (.ix (.v 0) (.c (.int 0))) [.str]))]) [.ret (.c (.bool false))] [], .iff (.cmp .eq (.ix (.v 0) (.c (.int 0))) (.g 64)) [.ret (.and [(.cmp .eq (.blt .len [(.v 0)]) (.c (.int 2))), (.call 1 [(.ix (.v 0) (.c (.int 1))), (.c (.int 0)), (.bin .sub (.g 23) (.c (.int 1)))])])] [], .iff (.or [(.cmp .nin (.ix (.v 0) (.c (.int 0))) (.tup [(.g 65), (.g 66)])), (.cmp .ne (.blt .len [(.v 0)]) (.c (.int 3)))]) [.ret (.c (.bool false))] [], .ret (.and [(.call 1 [(.ix (.v 0) (.c (.int 1))), (.c (.int 0)), (.bin .sub (.g 23) (.c (.int 1)))]), (.call 1 [(.ix (.v 0) (.c (.int 2))), (.neg (.c (.int 1))), (.c (.int 1))]), (.cmp .ne (.ix (.v 0) (.c (.int 2))) (.c (.int 0)))])]⟩
/-- trees_sure_deeds: 0 thing 1 deeds 2 own -/
def f352 : Fn := ⟨1, 3, [.asg (.n 1) (.call 2 [(.v 0)]), .iff (.or [(.not (.isi (.v 1) [.tuple])), (.not (.blt .all [(.lc (.call 351 [(.v 2)]) (.n 2) (.v 1) [])]))]) [.never] [], .ret (.v 1)]⟩
/-- cuts_put_book: 0 knot 1 slope 2 rest 3 own 4 told -/
def f361 : Fn := ⟨2, 5, [.par [(.n 3), (.n 4)] [(.call 33 [(.v 0)]), (.call 277 [(.v 1)])], .asg (.n 2) (.call 226 [(.v 3), (.v 4)]), .iff (.or [(.cmp .eq (.ix (.v 2) (.c (.int 0))) (.c (.int 0))), (.cmp .gt (.ix (.v 2) (.c (.int 0))) (.g 47))]) [.never] [], .ret (.tup [(.c (.int 0)), (.bin .add (.call 225 [(.v 3)]) (.tup [(.v 2)]))])]⟩
/-- stars_arm_from: 0 tree 1 middle 2 first 3 on 4 found 5 ahead 6 at 7 own -/
def f365 : Fn := ⟨3, 8, [.par [(.n 4), (.n 5), (.n 6)] [(.lst [(.ix (.ix (.v 0) (.c (.int 0))) (.v 2))]), (.v 1), (.v 2)], .asg (.n 3) (.lc (.v 7) (.n 7) (.call 232 [(.v 0), (.v 6)]) [(.cmp .ne (.v 7) (.v 5))]), .whl (.cmp .ne (.v 3) (.lst [])) [.par [(.n 5), (.n 6)] [(.v 6), (.ix (.v 3) (.c (.int 0)))], .app 4 (.ix (.ix (.v 0) (.c (.int 0))) (.v 6)), .asg (.n 3) (.lc (.v 7) (.n 7) (.call 232 [(.v 0), (.v 6)]) [(.cmp .ne (.v 7) (.v 5))])], .ret (.blt .tuple [(.v 4)])]⟩
/-- wus_eighth_by: 0 tree 1 bits 2 above 3 none 4 below -/
def f366 : Fn := ⟨2, 5, [.asg (.t [(.n 2), (.n 3), (.n 4)]) (.call 229 [(.v 0)]), .ret (.call 3 [(.bin .sub (.bin .sub (.v 2) (.v 4)) (.call 231 [(.v 0), (.v 1)])), (.c (.int 8))])]⟩
/-- saws_sure_number: 0 thing -/
def f368 : Fn := ⟨1, 1, [.iff (.not (.call 1 [(.v 0), (.neg (.g 68)), (.g 68)])) [.never] [], .ret (.v 0)]⟩
/-- saws_sure_below: 0 thing -/
def f369 : Fn := ⟨1, 1, [.iff (.not (.call 1 [(.v 0), (.c (.int 1)), (.g 68)])) [.never] [], .ret (.v 0)]⟩
/-- saws_sum_added: 0 number 1 below 2 found 3 own 4 far -/
def f370 : Fn := ⟨2, 5, [.asg (.n 2) (.c (.int 0)), .fr (.n 3) (.blt .range [(.c (.int 1)), (.v 1)]) [.asg (.n 4) (.bin .mod (.bin .mul (.v 0) (.v 3)) (.v 1)), .iff (.cmp .ne (.v 4) (.c (.int 0))) [.asg (.n 2) (.bin .add (.v 2) (.bin .mul (.bin .sub (.bin .mul (.c (.int 2)) (.v 3)) (.v 1)) (.bin .sub (.bin .mul (.c (.int 2)) (.v 4)) (.v 1))))] []], .ret (.call 3 [(.v 2), (.bin .mul (.bin .mul (.c (.int 4)) (.v 1)) (.v 1))])]⟩
/-- saws_saw: 0 number 1 below 2 own 3 most -/
def f371 : Fn := ⟨2, 4, [.par [(.n 2), (.n 3)] [(.call 368 [(.v 0)]), (.call 369 [(.v 1)])], .iff (.cmp .ne (.blt .gcd [(.v 2), (.v 3)]) (.c (.int 1))) [.never] [], .ret (.call 160 [(.v 2), (.v 3)])]⟩
/-- steps_step_by: 0 lens 1 number 2 found 3 sign 4 above 5 below 6 at 7 own -/
def f372 : Fn := ⟨2, 8, [.par [(.n 2), (.n 3)] [(.g 3), (.c (.int 1))], .par [(.n 4), (.n 5), (.n 6)] [(.ix (.v 0) (.c (.int 0))), (.ix (.v 0) (.c (.int 1))), (.v 1)], .whl (.cmp .gt (.v 4) (.c (.int 1))) [.asg (.n 7) (.call 3 [(.bin .sub (.bin .pow (.bin .sub (.bin .sub (.bin .add (.bin .mul (.c (.int 2)) (.v 6)) (.c (.int 1))) (.v 4)) (.v 5)) (.c (.int 2))) (.bin .mul (.v 4) (.v 5))), (.bin .mul (.bin .mul (.c (.int 4)) (.v 4)) (.v 5))]), .asg (.n 2) (.call 25 [(.v 2), (.tup [(.bin .mul (.neg (.v 3)) (.ix (.v 7) (.c (.int 0)))), (.ix (.v 7) (.c (.int 1)))])]), .asg (.t [(.n 3), (.n 4), (.n 5), (.n 6)]) (.tup [(.neg (.v 3)), (.v 5), (.bin .mod (.v 4) (.v 5)), (.bin .mod (.v 6) (.v 5))])], .ret (.v 2)]⟩
/-- steps_steps_by: 0 lens 1 number -/
def f373 : Fn := ⟨1, 2, [.ret (.lc (.call 372 [(.v 0), (.v 1)]) (.n 1) (.blt .range [(.ix (.v 0) (.c (.int 0)))]) [])]⟩
/-- steps_sure_short: 0 thing 1 lens -/
def f374 : Fn := ⟨1, 2, [.asg (.n 1) (.call 195 [(.v 0)]), .iff (.cmp .eq (.ix (.v 1) (.c (.int 0))) (.c (.int 0))) [.never] [], .iff (.cmp .gt (.ix (.v 1) (.c (.int 0))) (.g 70)) [.never] [], .ret (.v 1)]⟩
/-- worths_lens_by_saw: 0 lens -/
def f380 : Fn := ⟨1, 1, [.ret (.ife (.cmp .gt (.ix (.v 0) (.c (.int 0))) (.c (.int 1))) (.call 23 [(.tup [(.ix (.v 0) (.c (.int 0))), (.c (.int 2))]), (.call 160 [(.ix (.v 0) (.c (.int 1))), (.ix (.v 0) (.c (.int 0)))])]) (.tup [(.c (.int 0)), (.c (.int 1))]))]⟩
/-- steps_in_order: 0 shares 1 found 2 own 3 place 4 its -/
def f385 : Fn := ⟨1, 5, [.asg (.n 1) (.lst []), .fr (.n 2) (.v 0) [.asg (.n 3) (.blt .len [(.lc (.v 4) (.n 4) (.v 1) [(.not (.call 59 [(.v 2), (.v 4)]))])]), .asg (.n 1) (.bin .add (.bin .add (.sl (.v 1) none (some (.v 3))) (.lst [(.v 2)])) (.sl (.v 1) (some (.v 3)) none))], .ret (.blt .tuple [(.v 1)])]⟩
/-- ways_back_of: 0 order 1 found 2 place 3 own -/
def f386 : Fn := ⟨1, 4, [.asg (.n 1) (.bin .mul (.lst [(.c (.int 0))]) (.blt .len [(.v 0)])), .fr (.t [(.n 2), (.n 3)]) (.blt .enumerate [(.v 0)]) [.setix 1 (.v 3) (.v 2)], .ret (.blt .tuple [(.v 1)])]⟩
/-- ways_sure_few: 0 thing 1 most -/
def f387 : Fn := ⟨2, 2, [.iff (.not (.call 1 [(.v 0), (.c (.int 1)), (.v 1)])) [.never] [], .ret (.v 0)]⟩
/-- ways_ways_by: 0 book 1 many 2 group 3 fibre -/
def f388 : Fn := ⟨2, 4, [.asg (.n 2) (.call 333 [(.v 1)]), .ret (.blt .sum [(.lc (.call 334 [(.v 0), (.v 2), (.v 3)]) (.n 3) (.v 2) [])])]⟩
/-- law__law_back: 0 number 1 below 2 one 3 two 4 near 5 far 6 often_v -/
def f389 : Fn := ⟨2, 7, [.asg (.t [(.n 2), (.n 3), (.n 4), (.n 5)]) (.tup [(.bin .mod (.v 0) (.v 1)), (.v 1), (.c (.int 1)), (.c (.int 0))]), .whl (.cmp .ne (.v 3) (.c (.int 0))) [.asg (.n 6) (.bin .fdiv (.v 2) (.v 3)), .asg (.t [(.n 2), (.n 3), (.n 4), (.n 5)]) (.tup [(.v 3), (.bin .mod (.v 2) (.v 3)), (.v 5), (.bin .sub (.v 4) (.bin .mul (.v 6) (.v 5)))])], .ret (.bin .mod (.v 4) (.v 1))]⟩
/-- law__law_box: 0 script 1 k 2 bit_so -/
def f390 : Fn := ⟨2, 3, [.asg (.n 2) (.ife (.cmp .lt (.v 1) (.blt .len [(.v 0)])) (.ix (.v 0) (.v 1)) (.c (.int 0))), .ret (.lst [(.bin .mul (.blt .abs [(.v 2)]) (.blt .int [(.cmp .ge (.blt .abs [(.v 2)]) (.bin .pow (.c (.int 10)) (.c (.int 18))))])), (.bin .add (.bin .add (.bin .mod (.blt .int [(.v 2)]) (.c (.int 2305843009213693951))) (.bin .mul (.c (.int 39373)) (.v 1))) (.c (.int 20953050))), (.c (.int 0))])]⟩
/-- law__law_least: 0 lens -/
def f391 : Fn := ⟨1, 1, [.ret (.ife (.cmp .gt (.ix (.v 0) (.c (.int 0))) (.c (.int 1))) (.tup [(.ix (.v 0) (.c (.int 0))), (.blt .min [(.ix (.v 0) (.c (.int 1))), (.call 389 [(.ix (.v 0) (.c (.int 1))), (.ix (.v 0) (.c (.int 0)))])])]) (.v 0))]⟩
/-- law__law_least_row: 0 above 1 below 2 found 3 own -/
def f392 : Fn := ⟨2, 4, [.asg (.n 2) (.lst []), .whl (.cmp .gt (.v 1) (.c (.int 0))) [.asg (.n 3) (.neg (.bin .fdiv (.neg (.v 0)) (.v 1))), .app 2 (.v 3), .par [(.n 0), (.n 1)] [(.v 1), (.bin .sub (.bin .mul (.v 3) (.v 1)) (.v 0))]], .ret (.blt .tuple [(.v 2)])]⟩
/-- rows_row_up: 0 row 1 place 2 side 3 own 4 near 5 far 6 at 7 sign -/
def f393 : Fn := ⟨3, 8, [.asg (.n 3) (.call 304 [(.v 0)]), .par [(.n 6), (.n 7)] [(.call 308 [(.v 1), (.c (.int 0)), (.blt .len [(.v 3)])]), (.call 309 [(.v 2)])], .asg (.n 4) (.ife (.cmp .gt (.v 6) (.c (.int 0))) (.bin .add (.sl (.sl (.v 3) none (some (.v 6))) none (some (.neg (.c (.int 1))))) (.tup [(.bin .add (.ix (.v 3) (.bin .sub (.v 6) (.c (.int 1)))) (.v 7))])) (.tup [])), .asg (.n 5) (.ife (.cmp .lt (.v 6) (.blt .len [(.v 3)])) (.bin .add (.tup [(.bin .add (.ix (.v 3) (.v 6)) (.v 7))]) (.sl (.v 3) (some (.bin .add (.v 6) (.c (.int 1)))) none)) (.tup [])), .ret (.call 310 [(.bin .add (.bin .add (.v 4) (.tup [(.v 7)])) (.v 5))])]⟩
/-- law__law_mixed: 0 tin 1 book 2 tubes_so 3 lap 4 often_v 5 own 6 one 7 two -/
def f395 : Fn := ⟨2, 8, [.asg (.n 2) (.bin .add (.lc (.v 5) (.n 5) (.ix (.v 1) (.c (.int 1))) []) (.bin .mul (.lst [(.tup [(.c (.int 1)), (.c (.int 0))])]) (.call 43 [(.v 0), (.c (.int 3))]))), .fr (.n 3) (.blt .range [(.c (.int 3))]) [.iff (.cmp .gt (.blt .len [(.v 2)]) (.c (.int 1))) [.asg (.t [(.n 6), (.n 7)]) (.call 263 [(.v 0), (.lrg [(.blt .len [(.v 2)])]), (.c (.int 2))]), .asg (.n 4) (.bin .sub (.call 43 [(.v 0), (.c (.int 7))]) (.c (.int 3))), .setix 2 (.v 6) (.tup [(.ix (.ix (.v 2) (.v 6)) (.c (.int 0))), (.bin .add (.ix (.ix (.v 2) (.v 6)) (.c (.int 1))) (.bin .mul (.v 4) (.ix (.ix (.v 2) (.v 6)) (.c (.int 0)))))]), .setix 2 (.v 7) (.tup [(.ix (.ix (.v 2) (.v 7)) (.c (.int 0))), (.bin .sub (.ix (.ix (.v 2) (.v 7)) (.c (.int 1))) (.bin .mul (.v 4) (.ix (.ix (.v 2) (.v 7)) (.c (.int 0)))))])] []], .ret (.tup [(.ix (.v 1) (.c (.int 0))), (.blt .tuple [(.call 263 [(.v 0), (.v 2), (.blt .len [(.v 2)])])])])]⟩
/-- rooms_book_of_lens: 0 lens 1 own -/
def f396 : Fn := ⟨1, 2, [.asg (.n 1) (.call 195 [(.v 0)]), .ret (.tup [(.c (.int 0)), (.ife (.cmp .gt (.ix (.v 1) (.c (.int 0))) (.c (.int 1))) (.tup [(.tup [(.ix (.v 1) (.c (.int 1))), (.ix (.v 1) (.c (.int 0)))])]) (.tup [(.tup [(.c (.int 1)), (.ix (.v 1) (.c (.int 0)))])]))])]⟩
/-- lenses_lens_form: 0 lens -/
def f397 : Fn := ⟨1, 1, [.ret (.call 85 [(.call 195 [(.v 0)])])]⟩
/-- lenses_lens_of_row: 0 row 1 above 2 below -/
def f398 : Fn := ⟨1, 3, [.asg (.t [(.n 1), (.n 2)]) (.call 307 [(.call 304 [(.v 0)])]), .ret (.call 76 [(.v 1), (.v 2)])]⟩
/-- rows_row_settled: 0 row -/
def f399 : Fn := ⟨1, 1, [.ret (.call 314 [(.call 304 [(.v 0)])])]⟩
/-- law__law_saw: 0 number 1 below 2 found 3 own 4 far_so -/
def f400 : Fn := ⟨2, 5, [.asg (.n 2) (.c (.int 0)), .fr (.n 3) (.blt .range [(.c (.int 1)), (.v 1)]) [.asg (.n 4) (.bin .mod (.bin .mul (.v 0) (.v 3)) (.v 1)), .iff (.cmp .ne (.v 4) (.c (.int 0))) [.asg (.n 2) (.bin .add (.v 2) (.bin .mul (.bin .sub (.bin .mul (.c (.int 2)) (.v 3)) (.v 1)) (.bin .sub (.bin .mul (.c (.int 2)) (.v 4)) (.v 1))))] []], .ret (.call 46 [(.v 2), (.bin .mul (.bin .mul (.c (.int 4)) (.v 1)) (.v 1))])]⟩
/-- worths_lens_worth: 0 lens 1 own -/
def f401 : Fn := ⟨1, 2, [.asg (.n 1) (.call 195 [(.v 0)]), .iff (.cmp .eq (.ix (.v 1) (.c (.int 0))) (.c (.int 0))) [.never] [], .ret (.call 380 [(.v 1)])]⟩
/-- links_lens_class: 0 lens 1 own -/
def f402 : Fn := ⟨1, 2, [.asg (.n 1) (.call 195 [(.v 0)]), .iff (.cmp .eq (.ix (.v 1) (.c (.int 0))) (.c (.int 0))) [.never] [], .iff (.cmp .gt (.ix (.v 1) (.c (.int 0))) (.g 24)) [.never] [], .ret (.tup [(.ix (.v 1) (.c (.int 0))), (.call 149 [(.ix (.v 1) (.c (.int 1))), (.ix (.v 1) (.c (.int 0)))])])]⟩
/-- steps_steps_in_order: 0 lens -/
def f403 : Fn := ⟨1, 1, [.ret (.call 385 [(.call 373 [(.call 374 [(.v 0)])])])]⟩
/-- ways_how_many: 0 book 1 things 2 own 3 many -/
def f404 : Fn := ⟨2, 4, [.par [(.n 2), (.n 3)] [(.call 10 [(.v 0)]), (.call 387 [(.v 1), (.g 71)])], .iff (.and [(.cmp .gt (.ix (.v 2) (.c (.int 0))) (.c (.int 0))), (.cmp .eq (.v 3) (.g 71))]) [.never] [], .ret (.call 388 [(.v 2), (.v 3)])]⟩
/-- ways_lens: 0 lens 1 things 2 still 3 own 4 many 5 order -/
def f405 : Fn := ⟨2, 6, [.par [(.n 3), (.n 4)] [(.call 195 [(.v 0)]), (.call 387 [(.v 1), (.g 71)])], .asg (.n 2) (.blt .tuple [(.blt .range [(.v 4)])]), .ret (.blt .len [(.lc (.v 5) (.n 5) (.call 333 [(.v 4)]) [(.cmp .eq (.call 337 [(.v 5), (.ix (.v 3) (.c (.int 0)))]) (.v 2))])])]⟩
/-- rooms_room_mirrored: 0 book -/
def f406 : Fn := ⟨1, 1, [.ret (.call 317 [(.call 118 [(.call 10 [(.v 0)])])])]⟩
/-- rooms_sure_two: 0 book 1 other -/
def f408 : Fn := ⟨2, 2, [.ret (.tup [(.call 10 [(.v 0)]), (.call 10 [(.v 1)])])]⟩
/-- law__law_lens_of_two: 0 one 1 two 2 d 3 c -/
def f409 : Fn := ⟨2, 4, [.asg (.n 2) (.ife (.and [(.cmp .ne (.ix (.v 0) (.c (.int 1))) (.c (.int 0))), (.cmp .gt (.blt .abs [(.ix (.v 0) (.c (.int 1)))]) (.c (.int 1)))]) (.call 389 [(.ix (.v 0) (.c (.int 0))), (.blt .abs [(.ix (.v 0) (.c (.int 1)))])]) (.ife (.cmp .ne (.ix (.v 0) (.c (.int 1))) (.c (.int 0))) (.c (.int 0)) (.c (.int 1)))), .asg (.n 3) (.ife (.cmp .ne (.ix (.v 0) (.c (.int 1))) (.c (.int 0))) (.bin .fdiv (.bin .sub (.bin .mul (.ix (.v 0) (.c (.int 0))) (.v 2)) (.c (.int 1))) (.ix (.v 0) (.c (.int 1)))) (.c (.int 0))), .ret (.call 96 [(.bin .add (.bin .mul (.ix (.v 0) (.c (.int 0))) (.ix (.v 1) (.c (.int 1)))) (.bin .mul (.ix (.v 1) (.c (.int 0))) (.ix (.v 0) (.c (.int 1))))), (.bin .add (.bin .mul (.ix (.v 1) (.c (.int 0))) (.v 2)) (.bin .mul (.ix (.v 1) (.c (.int 1))) (.v 3)))])]⟩
/-- law__law_box: 0 script 1 k 2 bit_so -/
def f410 : Fn := ⟨2, 3, [.asg (.n 2) (.ife (.cmp .lt (.v 1) (.blt .len [(.v 0)])) (.ix (.v 0) (.v 1)) (.c (.int 0))), .ret (.lst [(.bin .mul (.blt .abs [(.v 2)]) (.blt .int [(.cmp .ge (.blt .abs [(.v 2)]) (.bin .pow (.c (.int 10)) (.c (.int 18))))])), (.bin .add (.bin .add (.bin .mod (.blt .int [(.v 2)]) (.c (.int 2305843009213693951))) (.bin .mul (.c (.int 39373)) (.v 1))) (.c (.int 20953051))), (.c (.int 0))])]⟩
/-- books_same_tubes: 0 book 1 other -/
def f411 : Fn := ⟨2, 2, [.ret (.cmp .eq (.call 9 [(.call 10 [(.v 0)])]) (.call 9 [(.call 10 [(.v 1)])]))]⟩
/-- folds_fold_numbers: 0 book 1 most 2 own 3 many -/
def f413 : Fn := ⟨2, 4, [.asg (.n 2) (.call 10 [(.v 0)]), .iff (.not (.call 1 [(.v 1), (.c (.int 1)), (.c (.int 2000))])) [.never] [], .ret (.blt .tuple [(.lc (.v 3) (.n 3) (.blt .range [(.c (.int 1)), (.bin .add (.v 1) (.c (.int 1)))]) [(.cmp .isn (.call 192 [(.v 2), (.v 3)]) (.c .none))])])]⟩
/-- law__law_room: 0 book 1 two_so 2 one 3 handles 4 whole_so 5 turned_so -/
def f414 : Fn := ⟨1, 6, [.asg (.t [(.n 3), (.n 4), (.n 5)]) (.call 119 [(.v 0)]), .iff (.or [(.cmp .gt (.v 3) (.c (.int 0))), (.cmp .gt (.blt .len [(.v 5)]) (.c (.int 2)))]) [.ret (.tup [(.c (.str "book")), (.tup [(.v 3), (.v 4), (.v 5)])])] [], .asg (.n 1) (.bin .add (.v 5) (.bin .mul (.tup [(.tup [(.c (.int 1)), (.c (.int 0))])]) (.bin .sub (.c (.int 2)) (.blt .len [(.v 5)])))), .asg (.n 2) (.tup [(.ix (.ix (.v 1) (.c (.int 0))) (.c (.int 0))), (.bin .add (.ix (.ix (.v 1) (.c (.int 0))) (.c (.int 1))) (.bin .mul (.v 4) (.ix (.ix (.v 1) (.c (.int 0))) (.c (.int 0)))))]), .ret (.bin .add (.tup [(.c (.str "lens"))]) (.call 391 [(.call 409 [(.v 2), (.ix (.v 1) (.c (.int 1)))])]))]⟩
/-- books_lean: 0 book -/
def f415 : Fn := ⟨1, 1, [.ret (.call 11 [(.call 10 [(.v 0)])])]⟩
/-- rooms_same_or_mirror: 0 book 1 other 2 one 3 two -/
def f416 : Fn := ⟨2, 4, [.asg (.t [(.n 2), (.n 3)]) (.call 408 [(.v 0), (.v 1)]), .ret (.cmp .inn (.call 118 [(.v 3)]) (.tup [(.call 118 [(.v 2)]), (.call 118 [(.call 208 [(.v 2)])])]))]⟩
/-- books_turned_more: 0 book 1 times 2 own -/
def f417 : Fn := ⟨2, 3, [.asg (.n 2) (.call 10 [(.v 0)]), .iff (.not (.call 5 [(.v 1), (.g 0)])) [.never] [], .ret (.call 140 [(.tup [(.ix (.v 2) (.c (.int 0))), (.bin .add (.ix (.v 2) (.c (.int 1))) (.tup [(.tup [(.c (.int 1)), (.v 1)])]))])])]⟩
/-- law__law_box: 0 script 1 k 2 bit_so -/
def f418 : Fn := ⟨2, 3, [.asg (.n 2) (.ife (.cmp .lt (.v 1) (.blt .len [(.v 0)])) (.ix (.v 0) (.v 1)) (.c (.int 0))), .ret (.lst [(.bin .mul (.blt .abs [(.v 2)]) (.blt .int [(.cmp .ge (.blt .abs [(.v 2)]) (.bin .pow (.c (.int 10)) (.c (.int 18))))])), (.bin .add (.bin .add (.bin .mod (.blt .int [(.v 2)]) (.c (.int 2305843009213693951))) (.bin .mul (.c (.int 39373)) (.v 1))) (.c (.int 20953052))), (.c (.int 0))])]⟩
/-- books_mirrored: 0 book -/
def f420 : Fn := ⟨1, 1, [.ret (.call 208 [(.call 10 [(.v 0)])])]⟩
/-- law__law_starred: 0 form_so 1 numbers_so 2 ties_so 3 above 4 below 5 ahead 6 own -/
def f421 : Fn := ⟨1, 7, [.par [(.n 1), (.n 2)] [(.lst [(.bin .add (.ix (.v 0) (.c (.int 1))) (.blt .len [(.ix (.v 0) (.c (.int 2)))]))]), (.lst [])], .fr (.t [(.n 3), (.n 4)]) (.ix (.v 0) (.c (.int 2))) [.asg (.n 5) (.c (.int 0)), .fr (.n 6) (.call 392 [(.v 3), (.bin .sub (.v 3) (.v 4))]) [.app 1 (.v 6), .app 2 (.tup [(.v 5), (.bin .sub (.blt .len [(.v 1)]) (.c (.int 1)))]), .asg (.n 5) (.bin .sub (.blt .len [(.v 1)]) (.c (.int 1)))]], .ret (.tup [(.blt .tuple [(.v 1)]), (.blt .tuple [(.v 2)])])]⟩
/-- stars_star_of: 0 book 1 form 2 found -/
def f422 : Fn := ⟨1, 3, [.asg (.n 1) (.call 9 [(.call 10 [(.v 0)])]), .asg (.n 2) (.ife (.cmp .eq (.ix (.v 1) (.c (.int 0))) (.c (.int 0))) (.call 154 [(.v 1)]) (.c .none)), .iff (.or [(.cmp .is (.v 2) (.c .none)), (.not (.call 142 [(.v 2)]))]) [.never] [], .ret (.v 2)]⟩
/-- wus_eighth: 0 tree 1 own 2 found -/
def f423 : Fn := ⟨1, 3, [.asg (.n 1) (.call 151 [(.v 0)]), .asg (.n 2) (.call 241 [(.v 1)]), .iff (.cmp .is (.v 2) (.c .none)) [.never] [], .ret (.call 366 [(.v 1), (.v 2)])]⟩
/-- worths_sphere_worth: 0 book 1 own -/
def f424 : Fn := ⟨1, 2, [.asg (.n 1) (.call 10 [(.v 0)]), .iff (.cmp .ne (.call 41 [(.v 1)]) (.tup [(.c (.int 0)), (.tup [])])) [.never] [], .ret (.ix (.call 161 [(.v 1)]) (.c (.int 0)))]⟩
/-- trees_tree_number: 0 tree -/
def f425 : Fn := ⟨1, 1, [.ret (.call 35 [(.call 147 [(.call 151 [(.v 0)])])])]⟩
/-- wus_is_even_tree: 0 tree 1 own -/
def f426 : Fn := ⟨1, 2, [.ret (.not (.blt .any [(.lc (.cmp .ne (.bin .mod (.v 1) (.c (.int 2))) (.c (.int 0))) (.n 1) (.ix (.call 151 [(.v 0)]) (.c (.int 0))) [])]))]⟩
/-- wus_odd_set: 0 tree 1 own 2 found 3 place 4 bit -/
def f427 : Fn := ⟨1, 5, [.asg (.n 1) (.call 151 [(.v 0)]), .asg (.n 2) (.call 241 [(.v 1)]), .iff (.cmp .is (.v 2) (.c .none)) [.never] [], .ret (.blt .tuple [(.lc (.v 3) (.t [(.n 3), (.n 4)]) (.blt .enumerate [(.v 2)]) [(.cmp .eq (.v 4) (.c (.int 1)))])])]⟩
/-- trees_is_all_above: 0 tree -/
def f428 : Fn := ⟨1, 1, [.ret (.call 236 [(.call 151 [(.v 0)])])]⟩
/-- law__law_box: 0 script 1 k 2 bit_so -/
def f430 : Fn := ⟨2, 3, [.asg (.n 2) (.ife (.cmp .lt (.v 1) (.blt .len [(.v 0)])) (.ix (.v 0) (.v 1)) (.c (.int 0))), .ret (.lst [(.bin .mul (.blt .abs [(.v 2)]) (.blt .int [(.cmp .ge (.blt .abs [(.v 2)]) (.bin .pow (.c (.int 10)) (.c (.int 18))))])), (.bin .add (.bin .add (.bin .mod (.blt .int [(.v 2)]) (.c (.int 2305843009213693951))) (.bin .mul (.c (.int 39373)) (.v 1))) (.c (.int 20953053))), (.c (.int 0))])]⟩
/-- worths_knot_worth: 0 one 1 other -/
def f431 : Fn := ⟨2, 2, [.iff (.or [(.not (.call 1 [(.v 0), (.c (.int 2)), (.c (.int 1000))])), (.not (.call 1 [(.v 1), (.c (.int 2)), (.c (.int 1000))]))]) [.never] [], .ret (.bin .fdiv (.bin .mul (.bin .sub (.bin .mul (.v 0) (.v 0)) (.c (.int 1))) (.bin .sub (.bin .mul (.v 1) (.v 1)) (.c (.int 1)))) (.c (.int 24)))]⟩
/-- powers_poly_bend: 0 poly 1 told 2 middle 3 place 4 own -/
def f432 : Fn := ⟨1, 5, [.asg (.n 1) (.call 2 [(.v 0)]), .iff (.or [(.not (.call 30 [(.v 1), (.neg (.bin .pow (.c (.int 10)) (.c (.int 6)))), (.bin .pow (.c (.int 10)) (.c (.int 6)))])), (.not (.chain .le .le (.c (.int 1)) (.blt .len [(.v 1)]) (.bin .add (.g 6) (.c (.int 1)))))]) [.never] [], .iff (.or [(.cmp .eq (.bin .mod (.blt .len [(.v 1)]) (.c (.int 2))) (.c (.int 0))), (.cmp .ne (.v 1) (.rev (.v 1)))]) [.never] [], .asg (.n 2) (.bin .fdiv (.blt .len [(.v 1)]) (.c (.int 2))), .ret (.bin .fdiv (.blt .sum [(.lc (.bin .mul (.bin .mul (.v 4) (.bin .sub (.v 3) (.v 2))) (.bin .sub (.v 3) (.v 2))) (.t [(.n 3), (.n 4)]) (.blt .enumerate [(.v 1)]) [])]) (.c (.int 2)))]⟩
/-- powers_knot_poly: 0 knot 1 own -/
def f433 : Fn := ⟨1, 2, [.asg (.n 1) (.call 33 [(.v 0)]), .iff (.cmp .gt (.bin .mul (.bin .sub (.ix (.v 1) (.c (.int 0))) (.c (.int 1))) (.bin .sub (.ix (.v 1) (.c (.int 1))) (.c (.int 1)))) (.g 6)) [.never] [], .ret (.blt .tuple [(.call 34 [(.v 1)])])]⟩
/-- turns_is_sphere_like: 0 book -/
def f434 : Fn := ⟨1, 1, [.ret (.cmp .eq (.call 41 [(.call 10 [(.v 0)])]) (.tup [(.c (.int 0)), (.tup [])]))]⟩
/-- turns_how_many: 0 book -/
def f435 : Fn := ⟨1, 1, [.ret (.call 42 [(.call 10 [(.v 0)])])]⟩
/-- lenses_lens_of: 0 above 1 below -/
def f436 : Fn := ⟨2, 2, [.iff (.or [(.not (.call 1 [(.v 0), (.neg (.g 36)), (.g 36)])), (.not (.call 1 [(.v 1), (.neg (.g 36)), (.g 36)])), (.cmp .ne (.blt .gcd [(.v 0), (.v 1)]) (.c (.int 1)))]) [.never] [], .ret (.call 76 [(.v 0), (.v 1)])]⟩
/-- worths_mean_worth: 0 book 1 own 2 size 3 many 4 above 5 below -/
def f437 : Fn := ⟨1, 6, [.asg (.n 1) (.call 10 [(.v 0)]), .iff (.or [(.cmp .gt (.ix (.v 1) (.c (.int 0))) (.c (.int 0))), (.cmp .eq (.ix (.call 11 [(.v 1)]) (.c (.int 0))) (.c (.int 0)))]) [.never] [], .asg (.n 2) (.call 11 [(.v 1)]), .asg (.n 3) (.bin .fdiv (.bin .mul (.blt .abs [(.ix (.v 2) (.c (.int 0)))]) (.call 28 [(.lc (.v 4) (.t [(.n 4), (.n 5)]) (.ix (.v 1) (.c (.int 1))) [])])) (.ix (.v 2) (.c (.int 1)))), .ret (.call 23 [(.call 161 [(.v 1)]), (.tup [(.c (.int 2)), (.v 3)])])]⟩
/-- law__law_box: 0 script 1 k 2 bit_so -/
def f438 : Fn := ⟨2, 3, [.asg (.n 2) (.ife (.cmp .lt (.v 1) (.blt .len [(.v 0)])) (.ix (.v 0) (.v 1)) (.c (.int 0))), .ret (.lst [(.bin .mul (.blt .abs [(.v 2)]) (.blt .int [(.cmp .ge (.blt .abs [(.v 2)]) (.bin .pow (.c (.int 10)) (.c (.int 18))))])), (.bin .add (.bin .add (.bin .mod (.blt .int [(.v 2)]) (.c (.int 2305843009213693951))) (.bin .mul (.c (.int 39373)) (.v 1))) (.c (.int 20953054))), (.c (.int 0))])]⟩
/-- spreads_all_floors: 0 book 1 often 2 own 3 many -/
def f439 : Fn := ⟨2, 4, [.par [(.n 2), (.n 3)] [(.call 10 [(.v 0)]), (.call 446 [(.v 1)])], .iff (.cmp .gt (.ix (.v 2) (.c (.int 0))) (.c (.int 0))) [.never] [], .ret (.call 325 [(.v 2), (.v 3)])]⟩
/-- manners_lean_and_round: 0 book 1 own -/
def f441 : Fn := ⟨1, 2, [.asg (.n 1) (.call 10 [(.v 0)]), .ret (.tup [(.call 11 [(.v 1)]), (.call 158 [(.call 9 [(.v 1)])])])]⟩
/-- books_form: 0 book -/
def f444 : Fn := ⟨1, 1, [.ret (.call 9 [(.call 10 [(.v 0)])])]⟩
/-- turns_turn_number: 0 book 1 own 2 above 3 below 4 tube -/
def f445 : Fn := ⟨1, 5, [.asg (.n 1) (.call 10 [(.v 0)]), .asg (.t [(.n 2), (.n 3)]) (.call 11 [(.v 1)]), .ret (.bin .fdiv (.bin .mul (.blt .abs [(.v 2)]) (.call 28 [(.lc (.ix (.v 4) (.c (.int 0))) (.n 4) (.ix (.v 1) (.c (.int 1))) [])])) (.v 3))]⟩
/-- spreads_sure_often: 0 thing -/
def f446 : Fn := ⟨1, 1, [.iff (.not (.call 1 [(.v 0), (.c (.int 1)), (.g 55)])) [.never] [], .ret (.v 0)]⟩
/-- law__law_box: 0 script 1 k 2 bit_so -/
def f447 : Fn := ⟨2, 3, [.asg (.n 2) (.ife (.cmp .lt (.v 1) (.blt .len [(.v 0)])) (.ix (.v 0) (.v 1)) (.c (.int 0))), .ret (.lst [(.bin .mul (.blt .abs [(.v 2)]) (.blt .int [(.cmp .ge (.blt .abs [(.v 2)]) (.bin .pow (.c (.int 10)) (.c (.int 18))))])), (.bin .add (.bin .add (.bin .mod (.blt .int [(.v 2)]) (.c (.int 2305843009213693951))) (.bin .mul (.c (.int 39373)) (.v 1))) (.c (.int 20953055))), (.c (.int 0))])]⟩
/-- ways_how_many_coverings: 0 book 1 sheets 2 own 3 many 4 few -/
def f449 : Fn := ⟨2, 5, [.par [(.n 2), (.n 3)] [(.call 10 [(.v 0)]), (.call 387 [(.v 1), (.g 71)])], .iff (.and [(.cmp .gt (.ix (.v 2) (.c (.int 0))) (.c (.int 0))), (.cmp .eq (.v 3) (.g 71))]) [.never] [], .ret (.blt .tuple [(.call 459 [(.bin .add (.lst [(.c (.int 1))]) (.lc (.call 388 [(.v 2), (.v 4)]) (.n 4) (.blt .range [(.c (.int 1)), (.bin .add (.v 3) (.c (.int 1)))]) []))])])]⟩
/-- lenses_mirror_by: 0 lens -/
def f451 : Fn := ⟨1, 1, [.ret (.call 76 [(.ix (.v 0) (.c (.int 0))), (.neg (.ix (.v 0) (.c (.int 1))))])]⟩
/-- lenses_lens_mirrored: 0 lens -/
def f453 : Fn := ⟨1, 1, [.ret (.call 451 [(.call 195 [(.v 0)])])]⟩
/-- law__law_box: 0 script 1 k 2 bit_so -/
def f455 : Fn := ⟨2, 3, [.asg (.n 2) (.ife (.cmp .lt (.v 1) (.blt .len [(.v 0)])) (.ix (.v 0) (.v 1)) (.c (.int 0))), .ret (.lst [(.bin .mul (.blt .abs [(.v 2)]) (.blt .int [(.cmp .ge (.blt .abs [(.v 2)]) (.bin .pow (.c (.int 10)) (.c (.int 18))))])), (.bin .add (.bin .add (.bin .mod (.blt .int [(.v 2)]) (.c (.int 2305843009213693951))) (.bin .mul (.c (.int 39373)) (.v 1))) (.c (.int 20953057))), (.c (.int 0))])]⟩
/-- powers_branched_book: 0 knot 1 sheets 2 own -/
def f456 : Fn := ⟨2, 3, [.asg (.n 2) (.call 33 [(.v 0)]), .iff (.not (.call 1 [(.v 1), (.c (.int 2)), (.g 5)])) [.never] [], .iff (.cmp .gt (.ix (.v 2) (.c (.int 1))) (.g 5)) [.never] [], .ret (.call 38 [(.bin .add (.v 2) (.tup [(.v 1)]))])]⟩
/-- powers_branched_turns: 0 knot 1 sheets 2 own -/
def f457 : Fn := ⟨2, 3, [.asg (.n 2) (.call 33 [(.v 0)]), .iff (.not (.call 1 [(.v 1), (.c (.int 2)), (.g 5)])) [.never] [], .iff (.or [(.cmp .gt (.v 1) (.g 7)), (.cmp .gt (.bin .mul (.bin .sub (.ix (.v 2) (.c (.int 0))) (.c (.int 1))) (.bin .sub (.ix (.v 2) (.c (.int 1))) (.c (.int 1)))) (.g 6))]) [.never] [], .ret (.blt .abs [(.call 35 [(.call 36 [(.call 37 [(.call 34 [(.v 2)]), (.v 1)])])])])]⟩
/-- ways_whole_coverings: 0 counts 1 many 2 found 3 named 4 rest 5 own -/
def f459 : Fn := ⟨1, 6, [.par [(.n 2), (.n 3)] [(.lst []), (.lst [(.c (.int 1))])], .fr (.n 1) (.blt .range [(.c (.int 1)), (.blt .len [(.v 0)])]) [.app 3 (.bin .mul (.ix (.v 3) (.neg (.c (.int 1)))) (.v 1))], .fr (.n 1) (.blt .range [(.c (.int 1)), (.blt .len [(.v 0)])]) [.asg (.n 4) (.blt .sum [(.lc (.bin .fdiv (.bin .mul (.bin .mul (.ix (.v 0) (.bin .sub (.v 1) (.v 5))) (.ix (.v 2) (.bin .sub (.v 5) (.c (.int 1))))) (.ix (.v 3) (.v 1))) (.ix (.v 3) (.bin .sub (.v 1) (.v 5)))) (.n 5) (.blt .range [(.c (.int 1)), (.v 1)]) [])]), .app 2 (.bin .fdiv (.bin .sub (.bin .mul (.ix (.v 0) (.v 1)) (.v 1)) (.v 4)) (.ix (.v 3) (.v 1)))], .ret (.v 2)]⟩
/-- law__law_box: 0 script 1 k 2 bit_so -/
def f460 : Fn := ⟨2, 3, [.asg (.n 2) (.ife (.cmp .lt (.v 1) (.blt .len [(.v 0)])) (.ix (.v 0) (.v 1)) (.c (.int 0))), .ret (.lst [(.bin .mul (.blt .abs [(.v 2)]) (.blt .int [(.cmp .ge (.blt .abs [(.v 2)]) (.bin .pow (.c (.int 10)) (.c (.int 18))))])), (.bin .add (.bin .add (.bin .mod (.blt .int [(.v 2)]) (.c (.int 2305843009213693951))) (.bin .mul (.c (.int 39373)) (.v 1))) (.c (.int 20953058))), (.c (.int 0))])]⟩
/-- naming_loops_named: 0 book -/
def f462 : Fn := ⟨1, 1, [.ret (.call 320 [(.call 321 [(.v 0)]), (.lst [])])]⟩
/-- naming_loops_beside_fibre: 0 book 1 own -/
def f463 : Fn := ⟨1, 2, [.asg (.n 1) (.call 321 [(.v 0)]), .ret (.call 320 [(.v 1), (.lst [(.lst [(.bin .mul (.c (.int 2)) (.bin .sub (.call 318 [(.v 1)]) (.c (.int 1))))])])])]⟩
/-- stars_row_of_line: 0 tree 1 own 2 ends 3 place -/
def f465 : Fn := ⟨1, 4, [.asg (.n 1) (.call 151 [(.v 0)]), .iff (.cmp .ne (.call 237 [(.v 1)]) (.lst [])) [.never] [], .asg (.n 2) (.lc (.v 3) (.n 3) (.blt .range [(.blt .len [(.ix (.v 1) (.c (.int 0)))])]) [(.cmp .lt (.blt .len [(.call 232 [(.v 1), (.v 3)])]) (.c (.int 2)))]), .iff (.cmp .eq (.blt .len [(.ix (.v 1) (.c (.int 0)))]) (.c (.int 1))) [.ret (.ix (.v 1) (.c (.int 0)))] [], .ret (.bin .add (.tup [(.ix (.ix (.v 1) (.c (.int 0))) (.ix (.v 2) (.c (.int 0))))]) (.call 365 [(.v 1), (.ix (.v 2) (.c (.int 0))), (.ix (.call 232 [(.v 1), (.ix (.v 2) (.c (.int 0)))]) (.c (.int 0)))]))]⟩
/-- law__law_box: 0 script 1 k 2 bit_so -/
def f466 : Fn := ⟨2, 3, [.asg (.n 2) (.ife (.cmp .lt (.v 1) (.blt .len [(.v 0)])) (.ix (.v 0) (.v 1)) (.c (.int 0))), .ret (.lst [(.bin .mul (.blt .abs [(.v 2)]) (.blt .int [(.cmp .ge (.blt .abs [(.v 2)]) (.bin .pow (.c (.int 10)) (.c (.int 18))))])), (.bin .add (.bin .add (.bin .mod (.blt .int [(.v 2)]) (.c (.int 2305843009213693951))) (.bin .mul (.c (.int 39373)) (.v 1))) (.c (.int 20953059))), (.c (.int 0))])]⟩
/-- stars_line_of_row: 0 numbers 1 worths 2 k -/
def f467 : Fn := ⟨1, 3, [.asg (.n 1) (.call 2 [(.v 0)]), .iff (.or [(.not (.isi (.v 1) [.tuple])), (.not (.call 142 [(.tup [(.v 1), (.blt .tuple [(.lc (.tup [(.v 2), (.bin .add (.v 2) (.c (.int 1)))]) (.n 2) (.blt .range [(.bin .sub (.blt .len [(.v 1)]) (.c (.int 1)))]) [])])])]))]) [.never] [], .ret (.tup [(.v 1), (.blt .tuple [(.lc (.tup [(.v 2), (.bin .add (.v 2) (.c (.int 1)))]) (.n 2) (.blt .range [(.bin .sub (.blt .len [(.v 1)]) (.c (.int 1)))]) [])])])]⟩
/-- law__law_made: 0 row_so 1 found 2 own -/
def f468 : Fn := ⟨1, 3, [.asg (.n 1) (.tup [(.c (.int 1)), (.c (.int 0))]), .fr (.n 2) (.rev (.v 0)) [.asg (.n 1) (.tup [(.bin .sub (.bin .mul (.v 2) (.ix (.v 1) (.c (.int 0)))) (.ix (.v 1) (.c (.int 1)))), (.ix (.v 1) (.c (.int 0)))])], .ret (.v 1)]⟩
/-- stars_is_line: 0 tree -/
def f469 : Fn := ⟨1, 1, [.ret (.cmp .eq (.call 237 [(.call 151 [(.v 0)])]) (.lst []))]⟩
/-- rows_row_worth: 0 row -/
def f470 : Fn := ⟨1, 1, [.ret (.call 307 [(.call 304 [(.v 0)])])]⟩
/-- stars_line_lens: 0 tree 1 above 2 below -/
def f471 : Fn := ⟨1, 3, [.asg (.t [(.n 1), (.n 2)]) (.call 307 [(.call 465 [(.v 0)])]), .ret (.call 76 [(.v 1), (.v 2)])]⟩
/-- trees_tree_turns: 0 tree -/
def f472 : Fn := ⟨1, 1, [.ret (.call 39 [(.call 147 [(.call 151 [(.v 0)])])])]⟩
/-- trees_after_deeds: 0 tree 1 deeds 2 found 3 number 4 deed -/
def f474 : Fn := ⟨2, 5, [.asg (.n 2) (.call 151 [(.v 0)]), .fr (.t [(.n 3), (.n 4)]) (.blt .enumerate [(.call 352 [(.v 1)])]) [.asg (.n 2) (.call 353 [(.v 2), (.v 4)]), .iff (.cmp .is (.v 2) (.c .none)) [.never] []], .ret (.v 2)]⟩
/-- law__law_box: 0 script 1 k 2 bit_so -/
def f475 : Fn := ⟨2, 3, [.asg (.n 2) (.ife (.cmp .lt (.v 1) (.blt .len [(.v 0)])) (.ix (.v 0) (.v 1)) (.c (.int 0))), .ret (.lst [(.bin .mul (.blt .abs [(.v 2)]) (.blt .int [(.cmp .ge (.blt .abs [(.v 2)]) (.bin .pow (.c (.int 10)) (.c (.int 18))))])), (.bin .add (.bin .add (.bin .mod (.blt .int [(.v 2)]) (.c (.int 2305843009213693951))) (.bin .mul (.c (.int 39373)) (.v 1))) (.c (.int 20953060))), (.c (.int 0))])]⟩
/-- law__law_led: 0 glue 1 rim -/
def f476 : Fn := ⟨2, 2, [.ret (.call 136 [(.bin .add (.bin .mul (.ix (.ix (.v 0) (.c (.int 0))) (.c (.int 0))) (.ix (.v 1) (.c (.int 0)))) (.bin .mul (.ix (.ix (.v 0) (.c (.int 0))) (.c (.int 1))) (.ix (.v 1) (.c (.int 1))))), (.bin .add (.bin .mul (.ix (.ix (.v 0) (.c (.int 1))) (.c (.int 0))) (.ix (.v 1) (.c (.int 0)))) (.bin .mul (.ix (.ix (.v 0) (.c (.int 1))) (.c (.int 1))) (.ix (.v 1) (.c (.int 1)))))])]⟩
/-- law__law_box: 0 script 1 k 2 bit_so -/
def f477 : Fn := ⟨2, 3, [.asg (.n 2) (.ife (.cmp .lt (.v 1) (.blt .len [(.v 0)])) (.ix (.v 0) (.v 1)) (.c (.int 0))), .ret (.lst [(.bin .mul (.blt .abs [(.v 2)]) (.blt .int [(.cmp .ge (.blt .abs [(.v 2)]) (.bin .pow (.c (.int 10)) (.c (.int 18))))])), (.bin .add (.bin .add (.bin .mod (.blt .int [(.v 2)]) (.c (.int 2305843009213693951))) (.bin .mul (.c (.int 39373)) (.v 1))) (.c (.int 20953061))), (.c (.int 0))])]⟩
/-- saws_saw_added: 0 number 1 below 2 own 3 most -/
def f478 : Fn := ⟨2, 4, [.par [(.n 2), (.n 3)] [(.call 368 [(.v 0)]), (.call 369 [(.v 1)])], .iff (.cmp .gt (.v 3) (.g 69)) [.never] [], .ret (.call 370 [(.bin .mod (.v 2) (.v 3)), (.v 3)])]⟩
/-- steps_step_sum: 0 lens -/
def f479 : Fn := ⟨1, 1, [.ret (.call 52 [(.call 373 [(.call 374 [(.v 0)])])])]⟩
/-- steps_lens: 0 lens -/
def f480 : Fn := ⟨1, 1, [.ret (.blt .tuple [(.call 373 [(.call 374 [(.v 0)])])])]⟩
/-- saws_saw_exchange: 0 one 1 other 2 near 3 far -/
def f481 : Fn := ⟨2, 4, [.par [(.n 2), (.n 3)] [(.call 369 [(.v 0)]), (.call 369 [(.v 1)])], .iff (.cmp .ne (.blt .gcd [(.v 2), (.v 3)]) (.c (.int 1))) [.never] [], .ret (.call 3 [(.bin .sub (.bin .add (.bin .add (.bin .mul (.v 2) (.v 2)) (.bin .mul (.v 3) (.v 3))) (.c (.int 1))) (.bin .mul (.bin .mul (.c (.int 3)) (.v 2)) (.v 3))), (.bin .mul (.bin .mul (.c (.int 12)) (.v 2)) (.v 3))])]⟩
/-- lenses_is_own_mirror: 0 lens 1 own -/
def f482 : Fn := ⟨1, 2, [.asg (.n 1) (.call 195 [(.v 0)]), .ret (.cmp .eq (.call 85 [(.v 1)]) (.call 85 [(.call 451 [(.v 1)])]))]⟩
/-- law__law_box: 0 script 1 k 2 bit_so -/
def f483 : Fn := ⟨2, 3, [.asg (.n 2) (.ife (.cmp .lt (.v 1) (.blt .len [(.v 0)])) (.ix (.v 0) (.v 1)) (.c (.int 0))), .ret (.lst [(.bin .mul (.blt .abs [(.v 2)]) (.blt .int [(.cmp .ge (.blt .abs [(.v 2)]) (.bin .pow (.c (.int 10)) (.c (.int 18))))])), (.bin .add (.bin .add (.bin .mod (.blt .int [(.v 2)]) (.c (.int 2305843009213693951))) (.bin .mul (.c (.int 39373)) (.v 1))) (.c (.int 20953062))), (.c (.int 0))])]⟩
/-- rows_least_row: 0 above 1 below 2 one 3 other -/
def f484 : Fn := ⟨2, 4, [.iff (.or [(.not (.call 1 [(.v 0), (.c (.int 2)), (.g 48)])), (.not (.call 1 [(.v 1), (.c (.int 1)), (.bin .sub (.v 0) (.c (.int 1)))]))]) [.never] [], .par [(.n 2), (.n 3)] [(.v 0), (.v 1)], .whl (.cmp .gt (.v 3) (.c (.int 0))) [.par [(.n 2), (.n 3)] [(.v 3), (.bin .mod (.v 2) (.v 3))]], .iff (.cmp .ne (.v 2) (.c (.int 1))) [.never] [], .ret (.call 310 [(.call 143 [(.v 0), (.v 1)])])]⟩
/-- rows_row_dual: 0 row 1 own 2 above 3 below 4 number -/
def f485 : Fn := ⟨1, 5, [.asg (.n 1) (.call 304 [(.v 0)]), .iff (.not (.blt .all [(.lc (.cmp .ge (.v 4) (.c (.int 2))) (.n 4) (.v 1) [])])) [.never] [], .asg (.t [(.n 2), (.n 3)]) (.call 307 [(.v 1)]), .ret (.call 310 [(.call 143 [(.v 2), (.bin .sub (.v 2) (.v 3))])])]⟩
/-- hulls_how_many_marks: 0 row 1 own 2 found 3 its -/
def f487 : Fn := ⟨1, 4, [.asg (.n 1) (.call 304 [(.v 0)]), .iff (.not (.blt .all [(.lc (.call 1 [(.v 3), (.c (.int 2)), (.bin .pow (.c (.int 10)) (.c (.int 6)))]) (.n 3) (.v 1) [])])) [.never] [], .asg (.n 2) (.c (.int 1)), .fr (.n 3) (.v 1) [.asg (.n 2) (.bin .mul (.v 2) (.bin .add (.v 3) (.c (.int 1))))], .ret (.v 2)]⟩
/-- rows_row_mirrored: 0 row 1 own -/
def f488 : Fn := ⟨1, 2, [.ret (.blt .tuple [(.lc (.neg (.v 1)) (.n 1) (.call 304 [(.v 0)]) [])])]⟩
/-- trees_tree_signs: 0 tree -/
def f489 : Fn := ⟨1, 1, [.ret (.call 229 [(.call 151 [(.v 0)])])]⟩
/-- law__law_box: 0 script 1 k 2 bit_so -/
def f491 : Fn := ⟨2, 3, [.asg (.n 2) (.ife (.cmp .lt (.v 1) (.blt .len [(.v 0)])) (.ix (.v 0) (.v 1)) (.c (.int 0))), .ret (.lst [(.bin .mul (.blt .abs [(.v 2)]) (.blt .int [(.cmp .ge (.blt .abs [(.v 2)]) (.bin .pow (.c (.int 10)) (.c (.int 18))))])), (.bin .add (.bin .add (.bin .mod (.blt .int [(.v 2)]) (.c (.int 2305843009213693951))) (.bin .mul (.c (.int 39373)) (.v 1))) (.c (.int 20953065))), (.c (.int 0))])]⟩
/-- k36_law: 0 script 1 tin 2 lap 3 things_so 4 got 5 due 6 points_so 7 floor_so 8 worth_so 9 bad_so 10 told_so 11 rounds_so 12 below_so 13 best_so 14 handles 15 many 16 small_so 17 fits_so 18 sheets 19 left_so 20 good_so 21 rows_so 22 few_so 23 own 24 turn 25 k 26 its -/
def f492 : Fn := ⟨1, 27, [.asg (.n 1) (.call 63 [(.call 50 [(.v 0), (.c (.int 1))]), (.c (.int 0))]), .iff (.not (.call 44 [(.call 64 []), (.blt .sorted [(.bin .add (.lst [(.tup [(.c (.int 1)), (.tup [])])]) (.lc (.tup [(.c (.int 0)), (.v 23)]) (.n 23) (.bin .add (.call 65 [(.c (.int 3)), (.c (.int 2)), (.c (.int 6))]) (.call 65 [(.c (.int 4)), (.c (.int 2)), (.c (.int 4))])) [(.cmp .eq (.call 66 [(.tup [(.c (.int 0)), (.blt .tuple [(.lc (.tup [(.v 26), (.c (.int 1))]) (.n 26) (.v 23) [])])])]) (.tup [(.c (.int 0)), (.c (.int 1))]))]))])])) [.ret (.c (.bool false))] [], .fr (.n 2) (.blt .range [(.c (.int 4))]) [.par [(.n 14), (.n 15)] [(.call 43 [(.v 1), (.c (.int 3))]), (.call 43 [(.v 1), (.c (.int 4))])], .asg (.n 6) (.blt .tuple [(.blt .sorted [(.lc (.bin .add (.c (.int 2)) (.call 43 [(.v 1), (.c (.int 7))])) (.n 24) (.blt .range [(.v 15)]) [])])]), .asg (.n 7) (.tup [(.v 14), (.v 6)]), .asg (.n 8) (.call 66 [(.tup [(.v 14), (.blt .tuple [(.lc (.tup [(.v 23), (.c (.int 1))]) (.n 23) (.v 6) [])])])]), .asg (.n 9) (.and [(.cmp .eq (.v 14) (.c (.int 0))), (.or [(.cmp .eq (.v 15) (.c (.int 1))), (.and [(.cmp .eq (.v 15) (.c (.int 2))), (.cmp .ne (.ix (.v 6) (.c (.int 0))) (.ix (.v 6) (.c (.int 1))))])])]), .iff (.not (.call 44 [(.lst [(.call 67 [(.v 7)]), (.call 68 [(.v 7)]), (.call 69 [(.v 7)])]), (.lst [(.c (.bool true)), (.v 8), (.v 9)])])) [.ret (.c (.bool false))] [], .asg (.n 10) (.call 70 [(.c (.int 0)), (.v 14), (.v 15), (.v 8)]), .iff (.cmp .ne (.v 10) (.c (.str "many"))) [.asg (.n 16) (.lc (.v 23) (.n 23) (.v 10) [(.or [(.cmp .eq (.ix (.v 23) (.c (.int 1))) (.tup [])), (.cmp .lt (.ix (.ix (.v 23) (.c (.int 1))) (.neg (.c (.int 1)))) (.c (.int 13)))])]), .asg (.n 5) (.blt .sorted [(.lc (.tup [(.v 14), (.v 23)]) (.n 23) (.call 65 [(.v 15), (.c (.int 2)), (.c (.int 12))]) [(.cmp .eq (.call 66 [(.tup [(.v 14), (.blt .tuple [(.lc (.tup [(.v 26), (.c (.int 1))]) (.n 26) (.v 23) [])])])]) (.v 8))])]), .iff (.not (.call 44 [(.lst [(.v 16), (.lc (.call 68 [(.v 23)]) (.n 23) (.v 10) []), (.cmp .eq (.v 10) (.blt .sorted [(.v 10)]))]), (.lst [(.v 5), (.bin .mul (.lst [(.v 8)]) (.blt .len [(.v 10)])), (.c (.bool true))])])) [.ret (.c (.bool false))] []] [], .iff (.v 9) [.iff (.not (.call 44 [(.lst [(.call 70 [(.c (.int 1)), (.v 7), (.c .none), (.c .none)]), (.call 70 [(.c (.int 2)), (.v 7), (.c (.int 6)), (.c .none)])]), (.lst [(.c (.str "none")), (.c (.str "none"))])])) [.ret (.c (.bool false))] []] [.asg (.n 17) (.lc (.v 23) (.n 23) (.blt .range [(.c (.int 1)), (.c (.int 1700))]) [(.and [(.blt .all [(.lc (.cmp .eq (.bin .mod (.v 23) (.v 26)) (.c (.int 0))) (.n 26) (.v 6) [])]), (.cmp .eq (.bin .mod (.bin .mul (.v 23) (.ix (.v 8) (.c (.int 0)))) (.bin .mul (.c (.int 2)) (.ix (.v 8) (.c (.int 1))))) (.c (.int 0)))])]), .asg (.n 18) (.ife (.and [(.cmp .ne (.v 17) (.lst [])), (.cmp .gt (.call 43 [(.v 1), (.c (.int 3))]) (.c (.int 0)))]) (.call 71 [(.v 1), (.sl (.v 17) none (some (.c (.int 3))))]) (.bin .add (.c (.int 1)) (.call 43 [(.v 1), (.c (.int 60))]))), .asg (.n 19) (.call 72 [(.tup [(.v 18), (.c (.int 1))]), (.v 8)]), .asg (.n 20) (.and [(.blt .all [(.lc (.cmp .eq (.bin .mod (.v 18) (.v 23)) (.c (.int 0))) (.n 23) (.v 6) [])]), (.cmp .eq (.ix (.v 19) (.c (.int 1))) (.c (.int 1))), (.cmp .eq (.bin .mod (.ix (.v 19) (.c (.int 0))) (.c (.int 2))) (.c (.int 0))), (.cmp .lt (.ix (.v 19) (.c (.int 0))) (.c (.int 3)))]), .asg (.n 4) (.lst [(.ife (.cmp .ne (.v 17) (.lst [])) (.call 70 [(.c (.int 1)), (.v 7), (.c .none), (.c .none)]) (.c .none)), (.call 70 [(.c (.int 2)), (.v 7), (.v 18), (.c .none)])]), .iff (.not (.call 44 [(.v 4), (.lst [(.ife (.cmp .ne (.v 17) (.lst [])) (.ix (.v 17) (.c (.int 0))) (.c .none)), (.ife (.v 20) (.bin .fdiv (.bin .sub (.c (.int 2)) (.ix (.v 19) (.c (.int 0)))) (.c (.int 2))) (.c (.str "none")))])])) [.ret (.c (.bool false))] []], .asg (.n 11) (.lc (.tup [(.call 66 [(.tup [(.v 14), (.blt .tuple [(.lc (.tup [(.v 26), (.c (.int 1))]) (.n 26) (.v 23) [])])])]), (.v 23)]) (.n 23) (.call 62 [(.lc (.call 65 [(.v 25), (.c (.int 2)), (.c (.int 8))]) (.n 25) (.blt .range [(.bin .add (.blt .min [(.v 15), (.c (.int 3))]) (.c (.int 1)))]) [])]) []), .asg (.n 12) (.lc (.v 23) (.n 23) (.v 11) [(.cmp .lt (.ix (.ix (.v 23) (.c (.int 0))) (.c (.int 0))) (.c (.int 0)))]), .asg (.n 13) (.c (.str "none")), .iff (.cmp .ne (.v 12) (.lst [])) [.asg (.n 13) (.ix (.call 73 [(.lc (.ix (.v 23) (.c (.int 0))) (.n 23) (.v 12) [])]) (.neg (.c (.int 1)))), .asg (.n 21) (.lc (.ix (.v 23) (.c (.int 1))) (.n 23) (.v 12) [(.cmp .eq (.ix (.v 23) (.c (.int 0))) (.v 13))]), .asg (.n 22) (.blt .min [(.lc (.blt .len [(.v 23)]) (.n 23) (.v 21) [])]), .asg (.n 13) (.tup [(.v 14), (.blt .min [(.lc (.v 23) (.n 23) (.v 21) [(.cmp .eq (.blt .len [(.v 23)]) (.v 22))])])])] [], .iff (.not (.call 44 [(.call 70 [(.c (.int 3)), (.v 14), (.blt .min [(.v 15), (.c (.int 3))]), (.c .none)]), (.v 13)])) [.ret (.c (.bool false))] []], .asg (.n 3) (.lst [(.tup [(.c (.int 0)), (.tup [])]), (.tup [(.c (.int 60)), (.bin .mul (.tup [(.c (.int 2))]) (.c (.int 20)))]), (.tup [(.c (.int 0)), (.tup [(.c (.int 2)), (.bin .pow (.c (.int 10)) (.c (.int 6)))])]), (.tup [(.c (.int 61)), (.tup [])]), (.tup [(.c (.int 0)), (.tup [(.c (.int 1))])]), (.tup [(.c (.int 0)), (.tup [(.c (.int 3)), (.c (.int 2))])]), (.tup [(.c (.int 0)), (.bin .mul (.tup [(.c (.int 2))]) (.c (.int 21)))]), (.tup [(.c (.int 0)), (.lst [(.c (.int 2))])]), (.tup [(.c (.bool true)), (.tup [])]), (.tup [(.c (.int 0)), (.tup [(.c (.int 2)), (.bin .add (.bin .pow (.c (.int 10)) (.c (.int 6))) (.c (.int 1)))])]), (.c .none), (.tup [(.c (.int 0))])]), .asg (.n 4) (.lst [(.call 70 [(.c (.int 0)), (.c (.int 0)), (.c (.int 5)), (.tup [(.c (.int 1)), (.c (.int 1))])]), (.call 70 [(.c (.int 0)), (.c (.int 0)), (.c (.int 3)), (.tup [(.c (.int 2)), (.c (.int 4))])]), (.call 70 [(.c (.int 0)), (.c (.int 0)), (.c (.int 3)), (.tup [(.c (.int 1)), (.c (.int 201))])]), (.call 70 [(.c (.int 0)), (.c (.int 0)), (.c (.int 1)), (.tup [(.c (.int 101)), (.c (.int 100))])]), (.call 70 [(.c (.int 0)), (.c (.int 1)), (.c (.int 0)), (.tup [(.c (.int 1)), (.c (.int 1))])])]), .asg (.n 4) (.bin .add (.v 4) (.lst [(.call 70 [(.c (.int 0)), (.c (.int 0)), (.c (.int 4)), (.tup [(.neg (.c (.int 199))), (.c (.int 100))])]), (.cmp .ne (.call 70 [(.c (.int 0)), (.c (.int 0)), (.c (.int 3)), (.tup [(.neg (.c (.int 59))), (.c (.int 60))])]) (.c (.str "many"))), (.call 70 [(.c (.int 2)), (.tup [(.c (.int 0)), (.tup [])]), (.c (.int 0)), (.c .none)]), (.call 70 [(.c (.int 3)), (.c (.int 0)), (.c (.int 5)), (.c .none)]), (.call 70 [(.c (.int 0)), (.c (.int 1)), (.c (.int 0)), (.tup [(.c (.int 0)), (.c (.int 1))])])])), .asg (.n 5) (.lst [(.c (.str "unfit")), (.c (.str "unfit")), (.c (.str "many")), (.lst [(.tup [(.c (.int 0)), (.tup [(.c (.int 100))])])]), (.lst []), (.c (.str "many")), (.c (.bool true)), (.c (.str "unfit")), (.c (.str "unfit")), (.lst [(.tup [(.c (.int 1)), (.tup [])])])]), .ret (.call 44 [(.bin .add (.lc (.call 67 [(.v 23)]) (.n 23) (.v 3) []) (.v 4)), (.bin .add (.bin .add (.bin .mul (.lst [(.c (.bool true))]) (.c (.int 3))) (.bin .mul (.lst [(.c (.bool false))]) (.c (.int 9)))) (.v 5))])]⟩
/-- k37_law: 0 script 1 tin 2 lap 3 things_so 4 rows_so 5 got 6 due 7 drawn_so 8 glue 9 told_so 10 other_so 11 above 12 below 13 lens_so 14 ahead_so 15 behind_so 16 a 17 b 18 c 19 d 20 turn 21 own -/
def f493 : Fn := ⟨1, 22, [.asg (.n 1) (.call 88 [(.call 50 [(.v 0), (.c (.int 1))]), (.c (.int 0))]), .fr (.n 2) (.blt .range [(.c (.int 6))]) [.asg (.n 7) (.blt .tuple [(.lc (.tup [(.call 71 [(.v 1), (.lst [(.c (.str "r")), (.c (.str "l"))])]), (.bin .sub (.call 43 [(.v 1), (.c (.int 9))]) (.c (.int 4)))]) (.n 20) (.blt .range [(.call 43 [(.v 1), (.c (.int 9))])]) [])]), .asg (.n 8) (.call 89 [(.v 7)]), .asg (.n 9) (.call 90 [(.v 8)]), .asg (.n 5) (.lst [(.call 91 [(.v 7)]), (.call 92 [(.v 7)]), (.call 93 [(.v 8)]), (.call 91 [(.v 9)]), (.call 94 [(.v 8), (.v 9)]), (.call 94 [(.v 8), (.v 7)]), (.call 94 [(.v 8), (.blt .list [(.v 7)])])]), .iff (.or [(.cmp .ne (.call 89 [(.v 9)]) (.v 8)), (.not (.call 44 [(.v 5), (.lst [(.c (.bool true)), (.v 8), (.c (.bool true)), (.c (.bool true)), (.c (.bool true)), (.c (.bool true)), (.c (.bool false))])]))]) [.ret (.c (.bool false))] [], .asg (.t [(.t [(.n 16), (.n 17)]), (.t [(.n 18), (.n 19)])]) (.v 8), .asg (.n 6) (.call 95 [(.call 96 [(.v 18), (.v 16)])]), .par [(.n 14), (.n 15)] [(.tup [(.tup [(.c (.str "r")), (.bin .sub (.call 43 [(.v 1), (.c (.int 9))]) (.c (.int 4)))])]), (.tup [(.tup [(.c (.str "r")), (.bin .sub (.call 43 [(.v 1), (.c (.int 9))]) (.c (.int 4)))])])], .asg (.n 5) (.lst [(.call 97 [(.v 8)]), (.call 97 [(.call 92 [(.bin .add (.bin .add (.v 14) (.v 7)) (.v 15))])]), (.call 98 [(.v 8)]), (.call 99 [(.v 8)]), (.call 97 [(.call 98 [(.v 8)])])]), .iff (.not (.call 44 [(.v 5), (.lst [(.v 6), (.v 6), (.tup [(.tup [(.v 19), (.neg (.v 17))]), (.tup [(.neg (.v 18)), (.v 16)])]), (.bin .add (.v 16) (.v 19)), (.call 95 [(.call 96 [(.neg (.v 18)), (.v 19)])])])])) [.ret (.c (.bool false))] [], .iff (.cmp .ne (.call 95 [(.call 96 [(.neg (.v 18)), (.v 19)])]) (.call 95 [(.call 96 [(.v 18), (.neg (.v 16))])])) [.ret (.c (.bool false))] [], .asg (.n 10) (.call 89 [(.blt .tuple [(.lc (.tup [(.call 71 [(.v 1), (.lst [(.c (.str "r")), (.c (.str "l"))])]), (.bin .sub (.call 43 [(.v 1), (.c (.int 9))]) (.c (.int 4)))]) (.n 20) (.blt .range [(.c (.int 4))]) [])])]), .asg (.n 5) (.lst [(.call 100 [(.v 8), (.v 10)]), (.call 100 [(.v 8), (.call 98 [(.v 8)])]), (.call 91 [(.bin .add (.v 9) (.tup [(.tup [(.c (.str "x")), (.c (.int 1))])]))]), (.call 94 [(.v 10), (.v 9)])]), .iff (.not (.call 44 [(.v 5), (.lst [(.call 87 [(.v 8), (.v 10)]), (.tup [(.tup [(.c (.int 1)), (.c (.int 0))]), (.tup [(.c (.int 0)), (.c (.int 1))])]), (.c (.bool false)), (.cmp .eq (.v 10) (.v 8))])])) [.ret (.c (.bool false))] [], .asg (.n 11) (.call 43 [(.v 1), (.c (.int 500))]), .asg (.n 12) (.ife (.cmp .gt (.v 11) (.c (.int 1))) (.call 71 [(.v 1), (.call 101 [(.v 11)])]) (.c (.int 1))), .asg (.n 13) (.call 102 [(.v 11), (.v 12)]), .iff (.or [(.cmp .ne (.ix (.ix (.v 13) (.c (.int 1))) (.c (.int 0))) (.v 11)), (.and [(.cmp .gt (.v 11) (.c (.int 0))), (.cmp .ne (.ix (.ix (.v 13) (.c (.int 0))) (.c (.int 0))) (.v 12))]), (.not (.call 44 [(.lst [(.call 93 [(.v 13)]), (.call 97 [(.v 13)])]), (.lst [(.c (.bool true)), (.call 95 [(.call 96 [(.v 11), (.v 12)])])])]))]) [.ret (.c (.bool false))] []], .asg (.n 3) (.lst [(.tup [(.tup [(.c (.int 1)), (.c (.int 0))]), (.tup [(.c (.int 0)), (.c (.int 1))])]), (.tup [(.tup [(.c (.int 1)), (.bin .pow (.c (.int 10)) (.c (.int 12)))]), (.tup [(.c (.int 0)), (.c (.int 1))])]), (.tup [(.tup [(.c (.int 1)), (.c (.int 0))]), (.tup [(.c (.int 0)), (.neg (.c (.int 1)))])]), (.tup [(.tup [(.c (.int 1)), (.c (.int 0))])]), (.tup [(.tup [(.c (.int 1)), (.c (.int 0))]), (.tup [(.c (.int 0)), (.c (.bool true))])]), (.tup [(.tup [(.c (.int 1)), (.bin .add (.bin .pow (.c (.int 10)) (.c (.int 12))) (.c (.int 1)))]), (.tup [(.c (.int 0)), (.c (.int 1))])]), (.lst [(.tup [(.c (.int 1)), (.c (.int 0))]), (.tup [(.c (.int 0)), (.c (.int 1))])]), (.c .none), (.tup [(.tup [(.c (.int 1)), (.c (.int 0)), (.c (.int 0))]), (.tup [(.c (.int 0)), (.c (.int 1)), (.c (.int 0))])])]), .asg (.n 4) (.lst [(.tup []), (.tup [(.tup [(.c (.str "r")), (.bin .pow (.c (.int 10)) (.c (.int 13)))])]), (.tup [(.tup [(.c (.str "r")), (.bin .add (.bin .pow (.c (.int 10)) (.c (.int 13))) (.c (.int 1)))])]), (.tup [(.tup [(.c (.str "s")), (.c (.int 1))])]), (.tup [(.tup [(.c (.str "r"))])]), (.tup [(.tup [(.c (.str "r")), (.c (.bool true))])]), (.lst [(.tup [(.c (.str "r")), (.c (.int 1))])]), (.bin .mul (.tup [(.tup [(.c (.str "r")), (.c (.int 1))])]) (.c (.int 201))), (.c .none)]), .asg (.n 5) (.lst [(.call 103 [(.c (.int 0)), (.tup [(.tup [(.c (.str "r")), (.bin .pow (.c (.int 10)) (.c (.int 13)))])]), (.c .none)]), (.call 103 [(.c (.int 1)), (.tup [(.tup [(.c (.int 1)), (.c (.int 0))]), (.tup [(.bin .add (.bin .pow (.c (.int 10)) (.c (.int 6))) (.c (.int 1))), (.c (.int 1))])]), (.c .none)]), (.call 103 [(.c (.int 2)), (.tup [(.tup [(.c (.int 1)), (.bin .pow (.c (.int 10)) (.c (.int 12)))]), (.tup [(.c (.int 0)), (.c (.int 1))])]), (.tup [(.tup [(.c (.int 1)), (.c (.int 1))]), (.tup [(.c (.int 0)), (.c (.int 1))])])])]), .asg (.n 5) (.bin .add (.v 5) (.lst [(.call 103 [(.c (.int 3)), (.c (.int 4)), (.c (.int 2))]), (.call 103 [(.c (.int 3)), (.neg (.c (.int 1))), (.c (.int 1))]), (.call 103 [(.c (.int 3)), (.c (.int 0)), (.c (.int 2))])])), .asg (.n 6) (.bin .add (.bin .add (.bin .add (.bin .add (.bin .mul (.lst [(.c (.bool true))]) (.c (.int 2))) (.bin .mul (.lst [(.c (.bool false))]) (.c (.int 7)))) (.bin .mul (.lst [(.c (.bool true))]) (.c (.int 2)))) (.bin .mul (.lst [(.c (.bool false))]) (.c (.int 7)))) (.lst [(.c (.str "none")), (.c (.str "none")), (.c (.str "none")), (.c (.str "unfit")), (.c (.str "unfit")), (.c (.str "unfit"))])), .ret (.call 44 [(.bin .add (.bin .add (.lc (.call 93 [(.v 21)]) (.n 21) (.v 3) []) (.lc (.call 91 [(.v 21)]) (.n 21) (.v 4) [])) (.v 5)), (.v 6)])]⟩
/-- k38_law: 0 script 1 tin 2 lap 3 things_so 4 got 5 all_so 6 near_so 7 crosses_so 8 road_so 9 steps_so 10 good_so 11 thirds_so 12 k 13 led_so 14 most 15 few_so 16 one 17 two 18 sums_so 19 due 20 own -/
def f494 : Fn := ⟨1, 21, [.asg (.n 1) (.call 122 [(.call 50 [(.v 0), (.c (.int 1))]), (.c (.int 0))]), .par [(.n 5), (.n 6)] [(.call 123 [(.c (.int 16))]), (.call 123 [(.c (.int 9))])], .fr (.n 2) (.blt .range [(.c (.int 4))]) [.par [(.n 16), (.n 17)] [(.call 71 [(.v 1), (.lst [(.tup [(.c (.int 1)), (.c (.int 0))]), (.tup [(.c (.int 0)), (.c (.int 1))]), (.call 71 [(.v 1), (.v 6)])])]), (.call 71 [(.v 1), (.v 6)])], .asg (.n 7) (.call 124 [(.v 16), (.v 17)]), .asg (.n 8) (.call 125 [(.v 16), (.v 17)]), .asg (.n 9) (.call 126 [(.v 16), (.v 17)]), .asg (.n 10) (.and [(.cmp .eq (.ix (.v 8) (.c (.int 0))) (.v 16)), (.cmp .eq (.ix (.v 8) (.neg (.c (.int 1)))) (.v 17)), (.blt .all [(.lc (.cmp .eq (.call 124 [(.ix (.v 8) (.v 12)), (.ix (.v 8) (.bin .add (.v 12) (.c (.int 1))))]) (.c (.int 1))) (.n 12) (.blt .range [(.bin .sub (.blt .len [(.v 8)]) (.c (.int 1)))]) [])])]), .asg (.n 4) (.lst [(.call 127 [(.v 16), (.v 17)]), (.call 128 [(.v 16), (.v 17)]), (.bin .sub (.blt .len [(.v 8)]) (.c (.int 1))), (.call 129 [(.v 16), (.v 17), (.v 8)]), (.call 129 [(.v 16), (.v 17), (.blt .list [(.v 8)])]), (.call 130 [(.v 16)])]), .iff (.or [(.not (.v 10)), (.not (.call 44 [(.v 4), (.lst [(.v 7), (.cmp .eq (.v 7) (.c (.int 1))), (.v 9), (.c (.bool true)), (.c (.bool false)), (.c (.bool true))])]))]) [.ret (.c (.bool false))] [], .iff (.cmp .inn (.v 16) (.tup [(.tup [(.c (.int 1)), (.c (.int 0))]), (.tup [(.c (.int 0)), (.c (.int 1))])])) [.iff (.cmp .ne (.call 131 [(.v 16), (.v 17), (.v 5)]) (.v 9)) [.ret (.c (.bool false))] []] [.iff (.cmp .lt (.call 131 [(.v 16), (.v 17), (.v 5)]) (.v 9)) [.ret (.c (.bool false))] []], .asg (.n 11) (.c (.str "none")), .iff (.cmp .eq (.v 7) (.c (.int 1))) [.asg (.n 18) (.lst [(.tup [(.bin .add (.ix (.v 16) (.c (.int 0))) (.ix (.v 17) (.c (.int 0)))), (.bin .add (.ix (.v 16) (.c (.int 1))) (.ix (.v 17) (.c (.int 1))))]), (.tup [(.bin .sub (.ix (.v 16) (.c (.int 0))) (.ix (.v 17) (.c (.int 0)))), (.bin .sub (.ix (.v 16) (.c (.int 1))) (.ix (.v 17) (.c (.int 1))))])]), .asg (.n 11) (.blt .tuple [(.blt .sorted [(.lc (.ife (.or [(.cmp .gt (.ix (.v 20) (.c (.int 0))) (.c (.int 0))), (.cmp .eq (.v 20) (.tup [(.c (.int 0)), (.c (.int 1))]))]) (.v 20) (.tup [(.neg (.ix (.v 20) (.c (.int 0)))), (.neg (.ix (.v 20) (.c (.int 1))))])) (.n 20) (.v 18) [])])])] [], .iff (.not (.call 44 [(.call 132 [(.c (.int 0)), (.v 16), (.v 17)]), (.v 11)])) [.ret (.c (.bool false))] [], .iff (.and [(.cmp .gt (.ix (.v 16) (.c (.int 0))) (.c (.int 0))), (.cmp .gt (.ix (.v 17) (.c (.int 0))) (.c (.int 0)))]) [.asg (.n 19) (.call 133 [(.tup [(.c (.int 0)), (.tup [(.v 16), (.tup [(.ix (.v 17) (.c (.int 0))), (.neg (.ix (.v 17) (.c (.int 1))))])])])]), .iff (.not (.call 44 [(.lst [(.bin .add (.tup [(.c (.str "lens"))]) (.call 134 [(.v 16), (.v 17)])), (.call 135 [(.tup [(.c (.int 0)), (.tup [(.v 16), (.tup [(.ix (.v 17) (.c (.int 0))), (.neg (.ix (.v 17) (.c (.int 1))))])])])]), (.ix (.call 134 [(.v 16), (.v 17)]) (.c (.int 0)))]), (.lst [(.v 19), (.v 19), (.v 7)])])) [.ret (.c (.bool false))] []] [], .asg (.n 12) (.bin .sub (.call 43 [(.v 1), (.c (.int 5))]) (.c (.int 2))), .asg (.n 13) (.lc (.call 136 [(.bin .add (.ix (.v 20) (.c (.int 0))) (.bin .mul (.v 12) (.ix (.v 20) (.c (.int 1))))), (.ix (.v 20) (.c (.int 1)))]) (.n 20) (.tup [(.v 16), (.v 17)]) []), .iff (.not (.call 44 [(.lst [(.call 127 [(.ix (.v 13) (.c (.int 0))), (.ix (.v 13) (.c (.int 1)))]), (.call 126 [(.ix (.v 13) (.c (.int 0))), (.ix (.v 13) (.c (.int 1)))]), (.call 134 [(.ix (.v 13) (.c (.int 0))), (.ix (.v 13) (.c (.int 1)))])]), (.lst [(.v 7), (.v 9), (.call 134 [(.v 16), (.v 17)])])])) [.ret (.c (.bool false))] [], .asg (.n 14) (.bin .add (.c (.int 1)) (.call 43 [(.v 1), (.c (.int 6))])), .asg (.n 15) (.call 123 [(.v 14)]), .iff (.not (.call 44 [(.lst [(.call 114 [(.v 14)]), (.call 137 [(.v 16), (.v 14)])]), (.lst [(.v 15), (.lc (.v 20) (.n 20) (.v 15) [(.cmp .eq (.call 124 [(.v 20), (.v 16)]) (.c (.int 1)))])])])) [.ret (.c (.bool false))] [], .asg (.n 4) (.lst [(.call 129 [(.v 16), (.v 17), (.tup [(.v 16), (.v 17)])]), (.call 129 [(.v 16), (.v 16), (.tup [(.v 16)])]), (.call 129 [(.v 16), (.v 17), (.tup [])]), (.call 132 [(.c (.int 1)), (.neg (.ix (.v 16) (.c (.int 0)))), (.neg (.ix (.v 16) (.c (.int 1))))])]), .iff (.not (.call 44 [(.v 4), (.lst [(.cmp .eq (.v 7) (.c (.int 1))), (.c (.bool true)), (.c (.bool false)), (.v 16)])])) [.ret (.c (.bool false))] []], .asg (.n 3) (.lst [(.tup [(.c (.int 1)), (.c (.int 0))]), (.tup [(.c (.int 0)), (.c (.int 1))]), (.tup [(.c (.int 3)), (.neg (.c (.int 2)))]), (.tup [(.bin .pow (.c (.int 10)) (.c (.int 6))), (.c (.int 1))]), (.tup [(.c (.int 0)), (.neg (.c (.int 1)))]), (.tup [(.neg (.c (.int 1))), (.c (.int 0))]), (.tup [(.c (.int 2)), (.c (.int 4))]), (.tup [(.c (.int 0)), (.c (.int 0))]), (.tup [(.c (.int 1)), (.c (.bool true))]), (.lst [(.c (.int 1)), (.c (.int 0))]), (.c .none), (.tup [(.c (.int 1)), (.bin .add (.bin .pow (.c (.int 10)) (.c (.int 6))) (.c (.int 1)))])]), .asg (.n 4) (.lst [(.call 132 [(.c (.int 1)), (.c (.int 2)), (.c (.int 4))]), (.call 132 [(.c (.int 1)), (.c (.int 0)), (.neg (.c (.int 1)))]), (.call 132 [(.c (.int 3)), (.c (.int 0)), (.c .none)]), (.call 132 [(.c (.int 3)), (.c (.int 101)), (.c .none)])]), .asg (.n 4) (.bin .add (.v 4) (.lst [(.call 132 [(.c (.int 0)), (.tup [(.c (.int 1)), (.c (.int 0))]), (.tup [(.c (.int 1)), (.c (.int 2))])]), (.call 132 [(.c (.int 2)), (.tup [(.bin .pow (.c (.int 10)) (.c (.int 6))), (.c (.int 1))]), (.tup [(.c (.int 1)), (.bin .pow (.c (.int 10)) (.c (.int 6)))])]), (.call 132 [(.c (.int 2)), (.tup [(.c (.int 1)), (.c (.int 0))]), (.tup [(.c (.int 0)), (.c (.int 1))])])])), .ret (.call 44 [(.bin .add (.lc (.call 130 [(.v 20)]) (.n 20) (.v 3) []) (.v 4)), (.bin .add (.bin .add (.bin .mul (.lst [(.c (.bool true))]) (.c (.int 4))) (.bin .mul (.lst [(.c (.bool false))]) (.c (.int 8)))) (.lst [(.c (.str "unfit")), (.tup [(.c (.int 0)), (.c (.int 1))]), (.c (.str "unfit")), (.c (.str "unfit")), (.c (.str "none")), (.c (.str "none")), (.tup [(.c (.int 1)), (.c (.int 0))])]))])]⟩
/-- k41_law: 0 script 1 tin 2 lap 3 things_so 4 two_so 5 got 6 tree 7 many 8 matrix 9 floor_so 10 kind_so 11 claims_so 12 bad_so 13 dues_so 14 falls_so 15 some_so 16 middles_so 17 pair_so 18 knot 19 slope 20 one 21 two 22 number_so 23 far_so 24 k 25 claim 26 thing 27 holds_so 28 reason_so 29 paper_so 30 own 31 j 32 turn -/
def f495 : Fn := ⟨1, 33, [.asg (.n 1) (.call 285 [(.call 50 [(.v 0), (.c (.int 1))]), (.c (.int 0))]), .fr (.n 2) (.blt .range [(.c (.int 4))]) [.asg (.n 6) (.call 286 [(.v 1), (.c (.int 6)), (.c (.int 3))]), .iff (.cmp .eq (.call 43 [(.v 1), (.c (.int 2))]) (.c (.int 0))) [.asg (.n 6) (.tup [(.blt .tuple [(.lc (.bin .add (.blt .abs [(.v 30)]) (.c (.int 1))) (.n 30) (.ix (.v 6) (.c (.int 0))) [])]), (.ix (.v 6) (.c (.int 1)))])] [], .asg (.n 7) (.bin .add (.c (.int 1)) (.call 43 [(.v 1), (.c (.int 3))])), .asg (.n 8) (.blt .tuple [(.lc (.blt .tuple [(.lc (.bin .sub (.call 43 [(.v 1), (.c (.int 5))]) (.c (.int 2))) (.n 31) (.blt .range [(.v 7)]) [])]) (.n 24) (.blt .range [(.v 7)]) [])]), .iff (.cmp .eq (.call 43 [(.v 1), (.c (.int 2))]) (.c (.int 0))) [.asg (.n 8) (.blt .tuple [(.lc (.blt .tuple [(.lc (.ife (.cmp .eq (.v 31) (.v 24)) (.c (.int 1)) (.ife (.cmp .gt (.v 31) (.v 24)) (.bin .sub (.call 43 [(.v 1), (.c (.int 5))]) (.c (.int 2))) (.c (.int 0)))) (.n 31) (.blt .range [(.v 7)]) [])]) (.n 24) (.blt .range [(.v 7)]) [])])] [], .asg (.n 9) (.tup [(.call 43 [(.v 1), (.c (.int 2))]), (.blt .tuple [(.blt .sorted [(.lc (.bin .add (.c (.int 2)) (.call 43 [(.v 1), (.c (.int 5))])) (.n 32) (.blt .range [(.call 43 [(.v 1), (.c (.int 4))])]) [])])])]), .par [(.n 18), (.n 19)] [(.call 71 [(.v 1), (.lst [(.tup [(.c (.int 2)), (.c (.int 3))]), (.tup [(.c (.int 3)), (.c (.int 4))]), (.tup [(.c (.int 2)), (.c (.int 5))])])]), (.tup [(.call 71 [(.v 1), (.lst [(.c (.int 5)), (.c (.int 6)), (.c (.int 7)), (.c (.int 11)), (.c (.int 12)), (.c (.int 13)), (.c (.int 1)), (.c (.int 2)), (.neg (.c (.int 3)))])]), (.c (.int 1))])], .par [(.n 20), (.n 21)] [(.call 71 [(.v 1), (.lst [(.tup [(.c (.int 1)), (.c (.int 0))]), (.tup [(.c (.int 2)), (.c (.int 1))]), (.tup [(.c (.int 3)), (.c (.int 2))])])]), (.call 71 [(.v 1), (.lst [(.tup [(.c (.int 1)), (.c (.int 0))]), (.tup [(.c (.int 0)), (.c (.int 1))]), (.tup [(.c (.int 1)), (.c (.int 1))]), (.tup [(.c (.int 5)), (.c (.int 2))]), (.tup [(.c (.int 4)), (.c (.int 3))])])])], .asg (.n 10) (.call 71 [(.v 1), (.lst [(.c (.str "sum")), (.c (.str "lens")), (.c (.str "book"))])]), .asg (.n 11) (.lst [(.tup [(.c (.str "above")), (.v 6)]), (.tup [(.c (.str "odd")), (.v 6)]), (.tup [(.c (.str "star")), (.v 6)]), (.tup [(.c (.str "whole")), (.v 8)]), (.tup [(.c (.str "smooth")), (.v 9)]), (.tup [(.c (.str "cut")), (.v 18), (.v 19), (.v 10)]), (.tup [(.c (.str "road")), (.v 20), (.v 21)])]), .par [(.n 22), (.n 23)] [(.call 282 [(.call 278 [(.v 6)])]), (.blt .abs [(.bin .sub (.ix (.v 19) (.c (.int 0))) (.bin .mul (.ix (.v 18) (.c (.int 0))) (.ix (.v 18) (.c (.int 1)))))])], .asg (.n 12) (.and [(.cmp .eq (.ix (.v 9) (.c (.int 0))) (.c (.int 0))), (.or [(.cmp .eq (.blt .len [(.ix (.v 9) (.c (.int 1)))]) (.c (.int 1))), (.and [(.cmp .eq (.blt .len [(.ix (.v 9) (.c (.int 1)))]) (.c (.int 2))), (.cmp .ne (.ix (.ix (.v 9) (.c (.int 1))) (.c (.int 0))) (.ix (.ix (.v 9) (.c (.int 1))) (.c (.int 1))))])])]), .asg (.n 13) (.lst [(.c .none), (.cmp .eq (.bin .mod (.v 22) (.c (.int 2))) (.c (.int 1))), (.cmp .lt (.blt .len [(.call 281 [(.v 6)])]) (.c (.int 2))), (.cmp .eq (.blt .abs [(.call 282 [(.v 8)])]) (.c (.int 1)))]), .asg (.n 13) (.bin .add (.v 13) (.lst [(.not (.v 12)), (.ife (.cmp .lt (.v 23) (.c (.int 2))) (.cmp .eq (.v 10) (.ix (.tup [(.c (.str "sum")), (.c (.str "lens"))]) (.v 23))) (.cmp .eq (.v 10) (.c (.str "book")))), (.cmp .lt (.blt .abs [(.bin .sub (.bin .mul (.ix (.v 20) (.c (.int 0))) (.ix (.v 21) (.c (.int 1)))) (.bin .mul (.ix (.v 20) (.c (.int 1))) (.ix (.v 21) (.c (.int 0)))))]) (.c (.int 2)))])), .asg (.n 14) (.lst []), .fr (.t [(.n 24), (.n 25)]) (.blt .enumerate [(.v 11)]) [.par [(.n 27), (.n 28), (.n 29)] [(.call 270 [(.v 25)]), (.call 271 [(.v 25)]), (.call 272 [(.v 25)])], .iff (.and [(.cmp .isn (.ix (.v 13) (.v 24)) (.c .none)), (.cmp .ne (.v 27) (.ix (.v 13) (.v 24)))]) [.ret (.c (.bool false))] [], .iff (.not (.call 44 [(.lst [(.call 250 [(.v 25)]), (.cmp .isn (.v 28) (.c .none)), (.cmp .is (.v 29) (.c .none))]), (.lst [(.c (.bool true)), (.v 27), (.v 27)])])) [.ret (.c (.bool false))] [], .asg (.n 26) (.ife (.v 27) (.v 28) (.v 29)), .iff (.not (.call 287 [(.v 25), (.v 27), (.v 26)])) [.ret (.c (.bool false))] [], .asg (.n 5) (.lst [(.call 274 [(.v 25), (.v 26)]), (.call 275 [(.v 25), (.v 26)]), (.call 274 [(.v 25), (.c .none)])]), .asg (.n 5) (.bin .add (.v 5) (.lst [(.call 275 [(.v 25), (.c .none)]), (.call 274 [(.v 25), (.lst [(.v 26)])]), (.call 275 [(.v 25), (.lst [(.v 26)])])])), .iff (.not (.call 44 [(.v 5), (.lst [(.v 27), (.not (.v 27)), (.c (.bool false)), (.c (.bool false)), (.c (.bool false)), (.c (.bool false))])])) [.ret (.c (.bool false))] [], .iff (.not (.v 27)) [.app 14 (.v 24)] []], .iff (.not (.call 44 [(.call 276 [(.blt .tuple [(.v 11)])]), (.ife (.cmp .ne (.v 14) (.lst [])) (.ix (.v 14) (.c (.int 0))) (.c .none))])) [.ret (.c (.bool false))] [], .asg (.n 15) (.blt .tuple [(.blt .sorted [(.call 263 [(.v 1), (.lrg [(.blt .len [(.ix (.v 6) (.c (.int 0)))])]), (.bin .add (.c (.int 1)) (.call 43 [(.v 1), (.c (.int 3))]))])])]), .asg (.n 16) (.call 281 [(.v 6)]), .asg (.n 17) (.tup [(.call 43 [(.v 1), (.c (.int 6))]), (.call 43 [(.v 1), (.c (.int 6))])]), .asg (.n 5) (.lst [(.call 275 [(.tup [(.c (.str "odd")), (.v 6)]), (.v 15)]), (.call 275 [(.tup [(.c (.str "star")), (.v 6)]), (.v 17)]), (.call 275 [(.tup [(.c (.str "odd")), (.v 6)]), (.tup [])])]), .iff (.not (.call 44 [(.v 5), (.lst [(.and [(.cmp .eq (.bin .mod (.v 22) (.c (.int 2))) (.c (.int 0))), (.call 280 [(.v 6), (.v 15)])]), (.and [(.cmp .gt (.blt .len [(.v 16)]) (.c (.int 1))), (.cmp .lt (.ix (.v 17) (.c (.int 0))) (.ix (.v 17) (.c (.int 1)))), (.cmp .inn (.ix (.v 17) (.c (.int 0))) (.v 16)), (.cmp .inn (.ix (.v 17) (.c (.int 1))) (.v 16))]), (.c (.bool false))])])) [.ret (.c (.bool false))] []], .asg (.n 3) (.lst [(.tup [(.c (.str "above")), (.tup [(.c (.int 1)), (.tup [])])]), (.tup [(.c (.str "whole")), (.tup [(.tup [(.c (.int 1)), (.c (.int 2))])])]), (.tup [(.c (.str "smooth")), (.tup [(.c (.int 0)), (.tup [(.c (.int 1))])])]), (.tup [(.c (.str "cut")), (.tup [(.c (.int 2)), (.c (.int 3))]), (.tup [(.c (.int 1)), (.c (.int 0))])]), (.tup [(.c (.str "cut")), (.tup [(.c (.int 2)), (.c (.int 3))]), (.tup [(.c (.int 1)), (.c (.int 0))]), (.c (.str "ball"))])]), .asg (.n 3) (.bin .add (.v 3) (.lst [(.tup [(.c (.str "cut")), (.tup [(.c (.int 2)), (.c (.int 3))]), (.tup [(.neg (.bin .pow (.c (.int 10)) (.c (.int 6)))), (.c (.int 1))]), (.c (.str "book"))]), (.tup [(.c (.str "road")), (.tup [(.c (.int 1)), (.c (.int 0))])]), (.tup [(.c (.str "road")), (.tup [(.c (.int 1)), (.c (.int 0))]), (.tup [(.c (.int 2)), (.c (.int 4))])]), (.tup [(.c (.str "odd")), (.tup [(.tup [(.c (.int 1))]), (.tup [])]), (.c (.int 1))]), (.tup [(.c (.str "cut")), (.tup [(.c (.int 3)), (.c (.int 2))]), (.tup [(.c (.int 1)), (.c (.int 0))]), (.c (.str "lens"))])])), .asg (.n 4) (.tup [(.c (.str "star")), (.tup [(.bin .mul (.tup [(.c (.int 2))]) (.c (.int 6))), (.tup [(.tup [(.c (.int 0)), (.c (.int 1))]), (.tup [(.c (.int 0)), (.c (.int 2))]), (.tup [(.c (.int 0)), (.c (.int 3))]), (.tup [(.c (.int 3)), (.c (.int 4))]), (.tup [(.c (.int 3)), (.c (.int 5))])])])]), .asg (.n 5) (.lst [(.call 250 [(.tup [(.c (.str "cut")), (.tup [(.c (.int 2)), (.c (.int 3))]), (.tup [(.c (.int 1)), (.c (.int 0))]), (.c (.str "lens"))])]), (.call 275 [(.v 4), (.tup [(.c (.int 0)), (.c (.int 3))])]), (.call 275 [(.v 4), (.tup [(.c (.int 3)), (.c (.int 0))])]), (.call 275 [(.v 4), (.tup [(.c (.int 0)), (.c (.int 0))])]), (.call 272 [(.v 4)])]), .ret (.call 44 [(.bin .add (.lc (.call 250 [(.v 30)]) (.n 30) (.v 3) []) (.v 5)), (.bin .add (.bin .mul (.lst [(.c (.bool false))]) (.c (.int 10))) (.lst [(.c (.bool true)), (.c (.bool true)), (.c (.bool false)), (.c (.bool false)), (.tup [(.c (.int 0)), (.c (.int 3))])]))])]⟩
/-- k50_law: 0 script 1 tin 2 lap 3 first_so 4 lens_so 5 least_so 6 row_so 7 turn 8 books_so 9 glue 10 got 11 back_so 12 worth_so 13 small_so 14 things 15 mirror_so 16 own 17 above 18 below -/
def f496 : Fn := ⟨1, 19, [.asg (.n 1) (.call 390 [(.call 50 [(.v 0), (.c (.int 1))]), (.c (.int 0))]), .fr (.n 2) (.blt .range [(.c (.int 4))]) [.asg (.n 3) (.bin .add (.c (.int 2)) (.call 43 [(.v 1), (.c (.int 39))])), .asg (.n 4) (.tup [(.v 3), (.call 71 [(.v 1), (.call 101 [(.v 3)])])]), .asg (.n 5) (.call 391 [(.v 4)]), .asg (.n 6) (.call 392 [(.ix (.v 4) (.c (.int 0))), (.ix (.v 4) (.c (.int 1)))]), .fr (.n 7) (.blt .range [(.c (.int 3))]) [.asg (.n 6) (.ife (.cmp .lt (.blt .len [(.v 6)]) (.c (.int 45))) (.call 393 [(.v 6), (.call 43 [(.v 1), (.bin .add (.blt .len [(.v 6)]) (.c (.int 1)))]), (.call 71 [(.v 1), (.lst [(.c (.int 1)), (.neg (.c (.int 1)))])])]) (.v 6))], .asg (.n 8) (.bin .add (.lc (.call 163 [(.v 16)]) (.n 16) (.call 263 [(.v 1), (.call 394 [(.v 4), (.c (.int 4))]), (.c (.int 4))]) []) (.lst [(.call 395 [(.v 1), (.call 396 [(.v 4)])])])), .asg (.n 9) (.call 102 [(.ix (.v 4) (.c (.int 0))), (.ix (.v 4) (.c (.int 1)))]), .asg (.n 10) (.lst [(.call 397 [(.call 398 [(.v 6)])]), (.call 397 [(.call 398 [(.ix (.call 399 [(.v 6)]) (.c (.int 0)))])]), (.call 97 [(.v 9)]), (.call 134 [(.tup [(.c (.int 1)), (.c (.int 0))]), (.tup [(.ix (.v 4) (.c (.int 1))), (.neg (.ix (.v 4) (.c (.int 0))))])]), (.lc (.call 135 [(.v 16)]) (.n 16) (.v 8) [])]), .iff (.not (.call 44 [(.v 10), (.lst [(.v 5), (.v 5), (.v 5), (.v 5), (.bin .mul (.lst [(.bin .add (.tup [(.c (.str "lens"))]) (.v 5))]) (.blt .len [(.v 8)]))])])) [.ret (.c (.bool false))] [], .asg (.n 11) (.tup [(.v 3), (.call 389 [(.ix (.v 4) (.c (.int 1))), (.v 3)])]), .asg (.n 12) (.call 72 [(.call 46 [(.v 3), (.c (.int 2))]), (.call 400 [(.ix (.v 4) (.c (.int 1))), (.v 3)])]), .asg (.n 10) (.lst [(.call 401 [(.v 4)]), (.call 401 [(.v 11)]), (.lc (.call 176 [(.v 16)]) (.n 16) (.v 8) []), (.call 402 [(.v 11)]), (.call 403 [(.v 11)])]), .iff (.not (.call 44 [(.v 10), (.lst [(.v 12), (.v 12), (.bin .mul (.lst [(.v 12)]) (.blt .len [(.v 8)])), (.call 402 [(.v 4)]), (.call 403 [(.v 4)])])])) [.ret (.c (.bool false))] [], .asg (.n 13) (.lc (.v 16) (.n 16) (.v 8) [(.cmp .lt (.blt .sum [(.lc (.v 17) (.t [(.n 17), (.n 18)]) (.ix (.v 16) (.c (.int 1))) [])]) (.c (.int 20)))]), .iff (.not (.call 44 [(.lc (.call 169 [(.v 16)]) (.n 16) (.v 13) []), (.bin .mul (.lst [(.call 402 [(.v 4)])]) (.blt .len [(.v 13)]))])) [.ret (.c (.bool false))] [], .asg (.n 14) (.bin .add (.c (.int 2)) (.call 43 [(.v 1), (.c (.int 2))])), .iff (.not (.call 44 [(.lc (.call 404 [(.v 16), (.v 14)]) (.n 16) (.v 8) []), (.bin .mul (.lst [(.call 405 [(.v 4), (.v 14)])]) (.blt .len [(.v 8)]))])) [.ret (.c (.bool false))] [], .asg (.n 15) (.tup [(.v 3), (.bin .sub (.v 3) (.ix (.v 4) (.c (.int 1))))]), .asg (.n 10) (.lst [(.lc (.call 406 [(.v 16)]) (.n 16) (.v 8) []), (.call 401 [(.v 15)]), (.call 405 [(.v 15), (.v 14)])]), .iff (.not (.call 44 [(.v 10), (.lst [(.bin .mul (.lst [(.bin .add (.tup [(.c (.str "lens"))]) (.call 391 [(.v 15)]))]) (.blt .len [(.v 8)])), (.tup [(.neg (.ix (.v 12) (.c (.int 0)))), (.ix (.v 12) (.c (.int 1)))]), (.call 405 [(.v 4), (.v 14)])])])) [.ret (.c (.bool false))] []], .ret (.c (.bool true))]⟩
/-- k51_law: 0 script 1 tin 2 lap 3 book 4 got 5 due 6 worth_so 7 lean_so 8 star_so 9 times_v 10 more_so 11 other_so 12 mirror_so 13 above 14 below -/
def f497 : Fn := ⟨1, 15, [.asg (.n 1) (.call 410 [(.call 50 [(.v 0), (.c (.int 1))]), (.c (.int 0))]), .fr (.n 2) (.blt .range [(.c (.int 4))]) [.asg (.n 3) (.tup [(.c (.int 0)), (.ix (.call 268 [(.v 1), (.c (.int 0)), (.c (.int 4)), (.c (.int 5))]) (.c (.int 1)))]), .par [(.n 11), (.n 12)] [(.call 395 [(.v 1), (.v 3)]), (.call 265 [(.v 3)])], .asg (.n 4) (.lst [(.call 411 [(.v 3), (.v 11)]), (.call 135 [(.v 11)]), (.call 175 [(.v 11)]), (.call 178 [(.v 11)])]), .asg (.n 4) (.bin .add (.v 4) (.lst [(.call 266 [(.v 11)]), (.call 412 [(.c (.int 0)), (.v 11)]), (.call 413 [(.v 11), (.c (.int 8))]), (.call 404 [(.v 11), (.c (.int 3))])])), .asg (.n 5) (.lst [(.c (.bool true)), (.call 135 [(.v 3)]), (.call 175 [(.v 3)]), (.call 178 [(.v 3)]), (.call 266 [(.v 3)]), (.call 412 [(.c (.int 0)), (.v 3)]), (.call 413 [(.v 3), (.c (.int 8))]), (.call 404 [(.v 3), (.c (.int 3))])]), .iff (.or [(.not (.call 44 [(.v 4), (.v 5)])), (.cmp .ne (.call 135 [(.v 3)]) (.call 414 [(.v 3)]))]) [.ret (.c (.bool false))] [], .asg (.n 6) (.call 412 [(.c (.int 0)), (.v 3)]), .asg (.n 4) (.lst [(.call 415 [(.v 12)]), (.call 175 [(.v 12)]), (.call 178 [(.v 12)]), (.call 266 [(.v 12)])]), .asg (.n 4) (.bin .add (.v 4) (.lst [(.call 412 [(.c (.int 0)), (.v 12)]), (.call 413 [(.v 12), (.c (.int 8))]), (.call 404 [(.v 12), (.c (.int 3))]), (.call 416 [(.v 3), (.v 12)])])), .asg (.n 7) (.call 170 [(.v 3)]), .asg (.n 5) (.lst [(.tup [(.neg (.ix (.v 7) (.c (.int 0)))), (.ix (.v 7) (.c (.int 1)))]), (.call 175 [(.v 3)]), (.call 178 [(.v 3)]), (.call 266 [(.v 3)])]), .asg (.n 5) (.bin .add (.v 5) (.lst [(.ife (.cmp .eq (.v 6) (.c (.str "none"))) (.c (.str "none")) (.tup [(.neg (.ix (.v 6) (.c (.int 0)))), (.ix (.v 6) (.c (.int 1)))])), (.call 413 [(.v 3), (.c (.int 8))]), (.call 404 [(.v 3), (.c (.int 3))]), (.c (.bool true))])), .iff (.not (.call 44 [(.v 4), (.v 5)])) [.ret (.c (.bool false))] [], .asg (.n 8) (.call 412 [(.c (.int 2)), (.v 11)]), .iff (.and [(.cmp .ne (.v 8) (.c (.str "none"))), (.not (.call 44 [(.lst [(.call 411 [(.v 8), (.v 3)]), (.call 135 [(.v 8)])]), (.lst [(.c (.bool true)), (.call 135 [(.v 3)])])]))]) [.ret (.c (.bool false))] [], .iff (.and [(.cmp .lt (.blt .sum [(.lc (.v 13) (.t [(.n 13), (.n 14)]) (.ix (.v 3) (.c (.int 1))) [])]) (.c (.int 16))), (.not (.call 44 [(.call 412 [(.c (.int 1)), (.v 11)]), (.call 412 [(.c (.int 1)), (.v 3)])]))]) [.ret (.c (.bool false))] [], .asg (.n 9) (.bin .sub (.call 43 [(.v 1), (.c (.int 5))]) (.c (.int 2))), .asg (.n 10) (.call 417 [(.v 3), (.v 9)]), .iff (.not (.call 44 [(.lst [(.call 415 [(.v 10)]), (.call 411 [(.v 10), (.v 3)]), (.call 411 [(.call 417 [(.v 10), (.neg (.v 9))]), (.v 3)])]), (.lst [(.call 47 [(.v 7), (.tup [(.v 9), (.c (.int 1))])]), (.cmp .eq (.v 9) (.c (.int 0))), (.c (.bool true))])])) [.ret (.c (.bool false))] []], .ret (.c (.bool true))]⟩
/-- k52_law: 0 script 1 tin 2 lap 3 numbers_so 4 turn 5 book 6 form_so 7 due_so 8 one 9 two 10 own 11 tree 12 mirror_so 13 eighth_so 14 worth_so 15 next_so 16 its -/
def f498 : Fn := ⟨1, 17, [.asg (.n 1) (.call 418 [(.call 50 [(.v 0), (.c (.int 1))]), (.c (.int 0))]), .fr (.n 2) (.blt .range [(.c (.int 5))]) [.asg (.n 3) (.lst []), .fr (.n 4) (.blt .range [(.bin .add (.c (.int 3)) (.call 43 [(.v 1), (.c (.int 2))]))]) [.asg (.n 10) (.bin .add (.c (.int 2)) (.call 43 [(.v 1), (.c (.int 12))])), .iff (.blt .all [(.lc (.cmp .eq (.call 45 [(.v 10), (.v 16)]) (.c (.int 1))) (.n 16) (.v 3) [])]) [.app 3 (.v 10)] []], .asg (.n 5) (.call 419 [(.blt .tuple [(.v 3)])]), .iff (.cmp .eq (.call 43 [(.v 1), (.c (.int 2))]) (.c (.int 0))) [.asg (.n 5) (.call 420 [(.v 5)])] [], .asg (.n 6) (.call 119 [(.v 5)]), .asg (.n 7) (.call 421 [(.v 6)]), .iff (.cmp .lt (.blt .len [(.ix (.v 7) (.c (.int 0)))]) (.c (.int 25))) [.asg (.n 11) (.call 422 [(.v 5)]), .par [(.n 13), (.n 14)] [(.call 423 [(.v 11)]), (.call 424 [(.v 5)])], .iff (.or [(.cmp .ne (.v 11) (.v 7)), (.cmp .ne (.ix (.v 13) (.c (.int 1))) (.c (.int 1))), (.cmp .ne (.bin .mod (.bin .sub (.ix (.v 13) (.c (.int 0))) (.v 14)) (.c (.int 2))) (.c (.int 0))), (.cmp .ne (.blt .abs [(.call 425 [(.v 11)])]) (.c (.int 1)))]) [.ret (.c (.bool false))] [], .iff (.and [(.call 426 [(.v 11)]), (.not (.call 44 [(.call 427 [(.v 11)]), (.tup [])]))]) [.ret (.c (.bool false))] [], .iff (.and [(.call 428 [(.v 11)]), (.cmp .lt (.ix (.call 170 [(.v 5)]) (.c (.int 0))) (.c (.int 0)))]) [.ret (.c (.bool false))] [], .fr (.n 4) (.blt .range [(.c (.int 3))]) [.asg (.n 15) (.call 429 [(.v 11), (.call 71 [(.v 1), (.lst [(.tup [(.c (.str "up")), (.call 43 [(.v 1), (.c (.int 6))]), (.call 71 [(.v 1), (.lst [(.c (.int 1)), (.neg (.c (.int 1)))])])]), (.tup [(.c (.str "between")), (.call 43 [(.v 1), (.c (.int 5))]), (.call 71 [(.v 1), (.lst [(.c (.int 1)), (.neg (.c (.int 1)))])])])])])]), .asg (.n 11) (.ife (.cmp .eq (.v 15) (.c (.str "broken"))) (.v 11) (.v 15)), .iff (.not (.call 44 [(.call 423 [(.v 11)]), (.v 13)])) [.ret (.c (.bool false))] []], .asg (.n 12) (.call 421 [(.call 119 [(.call 265 [(.v 5)])])]), .iff (.and [(.cmp .lt (.blt .len [(.ix (.v 12) (.c (.int 0)))]) (.c (.int 25))), (.not (.call 44 [(.lst [(.call 423 [(.call 422 [(.call 265 [(.v 5)])])]), (.call 424 [(.call 265 [(.v 5)])])]), (.lst [(.tup [(.neg (.ix (.v 13) (.c (.int 0)))), (.c (.int 1))]), (.neg (.v 14))])]))]) [.ret (.c (.bool false))] []] []], .par [(.n 8), (.n 9)] [(.call 419 [(.tup [(.c (.int 2)), (.c (.int 3)), (.c (.int 5))])]), (.call 419 [(.tup [(.c (.int 2)), (.c (.int 3)), (.c (.int 7))])])], .ret (.call 44 [(.lst [(.call 423 [(.call 422 [(.v 8)])]), (.call 424 [(.v 8)]), (.call 423 [(.call 422 [(.v 9)])]), (.call 424 [(.v 9)])]), (.lst [(.tup [(.c (.int 1)), (.c (.int 1))]), (.neg (.c (.int 1))), (.tup [(.neg (.c (.int 1))), (.c (.int 1))]), (.neg (.c (.int 1)))])])]⟩
/-- k53_law: 0 script 1 tin 2 lap 3 r 4 s 5 bend_so 6 p 7 book 8 lens_so 9 lens_share 10 sign 11 bend_share 12 mean_so 13 knot 14 q 15 near_so 16 far_so 17 one 18 two 19 own -/
def f499 : Fn := ⟨1, 20, [.asg (.n 1) (.call 430 [(.call 50 [(.v 0), (.c (.int 1))]), (.c (.int 0))]), .fr (.n 2) (.blt .range [(.c (.int 6))]) [.asg (.n 3) (.bin .add (.c (.int 2)) (.call 43 [(.v 1), (.c (.int 5))])), .asg (.n 4) (.call 71 [(.v 1), (.lc (.v 19) (.n 19) (.blt .range [(.bin .add (.v 3) (.c (.int 1))), (.bin .add (.v 3) (.c (.int 5)))]) [(.cmp .eq (.call 45 [(.v 19), (.v 3)]) (.c (.int 1)))])]), .par [(.n 13), (.n 14)] [(.tup [(.v 3), (.v 4)]), (.bin .add (.c (.int 1)) (.call 43 [(.v 1), (.c (.int 6))]))], .asg (.n 5) (.bin .fdiv (.bin .mul (.bin .sub (.bin .mul (.v 3) (.v 3)) (.c (.int 1))) (.bin .sub (.bin .mul (.v 4) (.v 4)) (.c (.int 1)))) (.c (.int 24))), .iff (.not (.call 44 [(.lst [(.call 431 [(.v 3), (.v 4)]), (.call 432 [(.call 433 [(.v 13)])])]), (.lst [(.v 5), (.v 5)])])) [.ret (.c (.bool false))] [], .par [(.n 15), (.n 16)] [(.call 361 [(.v 13), (.tup [(.c (.int 1)), (.v 14)])]), (.call 361 [(.v 13), (.tup [(.neg (.c (.int 1))), (.v 14)])])], .par [(.n 17), (.n 18)] [(.call 424 [(.v 15)]), (.call 424 [(.v 16)])], .iff (.or [(.cmp .ne (.blt .abs [(.v 17)]) (.bin .mul (.v 14) (.v 5))), (.cmp .ne (.v 18) (.neg (.v 17))), (.not (.call 44 [(.lst [(.call 434 [(.v 15)]), (.call 434 [(.v 16)])]), (.lst [(.c (.bool true)), (.c (.bool true))])]))]) [.ret (.c (.bool false))] [], .asg (.n 6) (.call 71 [(.v 1), (.lc (.v 19) (.n 19) (.blt .range [(.neg (.c (.int 40))), (.c (.int 41))]) [(.and [(.cmp .ne (.v 19) (.c (.int 0))), (.cmp .eq (.call 45 [(.v 19), (.v 14)]) (.c (.int 1))), (.cmp .ne (.v 19) (.bin .mul (.bin .mul (.v 3) (.v 4)) (.v 14)))])])]), .asg (.n 7) (.call 361 [(.v 13), (.tup [(.v 6), (.v 14)])]), .iff (.not (.call 44 [(.lst [(.call 435 [(.v 7)]), (.call 176 [(.v 7)])]), (.lst [(.blt .abs [(.v 6)]), (.call 176 [(.call 269 [(.v 1), (.v 7)])])])])) [.ret (.c (.bool false))] [], .asg (.n 8) (.call 436 [(.v 6), (.v 14)]), .asg (.n 9) (.call 72 [(.call 401 [(.v 8)]), (.call 46 [(.c (.int 2)), (.blt .abs [(.v 6)])])]), .asg (.n 10) (.ife (.cmp .gt (.v 17) (.c (.int 0))) (.c (.int 1)) (.neg (.c (.int 1)))), .asg (.n 11) (.call 46 [(.bin .mul (.bin .mul (.bin .mul (.bin .mul (.c (.int 2)) (.v 10)) (.v 5)) (.v 14)) (.ife (.cmp .gt (.v 6) (.c (.int 0))) (.c (.int 1)) (.neg (.c (.int 1))))), (.blt .abs [(.v 6)])]), .asg (.n 12) (.call 72 [(.call 176 [(.v 7)]), (.call 46 [(.c (.int 2)), (.blt .abs [(.v 6)])])]), .iff (.or [(.cmp .ne (.v 12) (.call 61 [(.v 11), (.v 9)])), (.not (.call 44 [(.call 437 [(.v 7)]), (.v 12)]))]) [.ret (.c (.bool false))] []], .ret (.call 44 [(.lst [(.call 424 [(.call 361 [(.tup [(.c (.int 2)), (.c (.int 3))]), (.tup [(.c (.int 1)), (.c (.int 1))])])]), (.call 424 [(.call 361 [(.tup [(.c (.int 2)), (.c (.int 3))]), (.tup [(.neg (.c (.int 1))), (.c (.int 1))])])])]), (.lst [(.c (.int 1)), (.neg (.c (.int 1)))])])]⟩
/-- k54_law: 0 script 1 tin 2 lap 3 tubes_so 4 book 5 floors_so 6 floor_so 7 wide_so 8 loops_so 9 got 10 sheets 11 often 12 lean_so 13 round_so 14 small_so 15 every_so 16 number_so 17 back_so 18 firsts_so 19 above 20 below 21 turn -/
def f500 : Fn := ⟨1, 22, [.asg (.n 1) (.call 438 [(.call 50 [(.v 0), (.c (.int 1))]), (.c (.int 0))]), .fr (.n 2) (.blt .range [(.c (.int 6))]) [.par [(.n 10), (.n 11)] [(.bin .add (.c (.int 2)) (.call 43 [(.v 1), (.c (.int 4))])), (.bin .add (.c (.int 1)) (.call 43 [(.v 1), (.c (.int 7))]))], .asg (.n 3) (.bin .add (.lst [(.tup [(.v 10), (.call 71 [(.v 1), (.call 101 [(.v 10)])])]), (.tup [(.v 10), (.call 71 [(.v 1), (.call 101 [(.v 10)])])])]) (.lc (.call 262 [(.v 1), (.c (.int 5)), (.c (.int 4))]) (.n 21) (.blt .range [(.call 43 [(.v 1), (.c (.int 3))])]) [])), .asg (.n 4) (.tup [(.c (.int 0)), (.blt .tuple [(.call 263 [(.v 1), (.v 3), (.blt .len [(.v 3)])])])]), .asg (.n 5) (.call 439 [(.v 4), (.v 10)]), .asg (.n 6) (.ife (.cmp .ne (.v 5) (.lst [])) (.call 71 [(.v 1), (.v 5)]) (.c .none)), .iff (.cmp .is (.v 6) (.c .none)) [.ret (.c (.bool false))] [], .asg (.n 7) (.call 440 [(.v 4), (.v 10), (.v 6)]), .par [(.n 12), (.n 13)] [(.call 170 [(.v 4)]), (.call 66 [(.v 4)])], .asg (.n 8) (.call 266 [(.v 4)]), .asg (.n 9) (.lst [(.call 441 [(.v 7)]), (.call 178 [(.v 7)]), (.call 266 [(.v 7)])]), .iff (.not (.call 44 [(.v 9), (.lst [(.tup [(.call 72 [(.tup [(.v 10), (.c (.int 1))]), (.v 12)]), (.call 72 [(.tup [(.v 10), (.c (.int 1))]), (.v 13)])]), (.call 178 [(.v 4)]), (.ife (.cmp .is (.v 8) (.c .none)) (.c .none) (.bin .fdiv (.v 8) (.v 10)))])])) [.ret (.c (.bool false))] [], .iff (.call 442 [(.v 4), (.v 11)]) [.asg (.n 14) (.call 443 [(.v 4), (.v 11)]), .asg (.n 9) (.lst [(.call 444 [(.call 440 [(.v 14), (.v 10), (.v 6)])]), (.call 415 [(.v 14)]), (.call 178 [(.v 14)]), (.call 266 [(.v 14)]), (.call 445 [(.v 14)])]), .asg (.n 15) (.c (.int 1)), .fr (.t [(.n 19), (.n 20)]) (.ix (.v 4) (.c (.int 1))) [.asg (.n 15) (.bin .mul (.v 15) (.v 19))], .asg (.n 16) (.ix (.call 72 [(.tup [(.bin .mul (.v 15) (.v 11)), (.c (.int 1))]), (.tup [(.blt .abs [(.ix (.v 12) (.c (.int 0)))]), (.ix (.v 12) (.c (.int 1)))])]) (.c (.int 0))), .iff (.not (.call 44 [(.v 9), (.lst [(.call 119 [(.call 443 [(.v 7), (.v 11)])]), (.call 72 [(.tup [(.v 11), (.c (.int 1))]), (.v 12)]), (.call 178 [(.v 4)]), (.ife (.cmp .is (.v 8) (.c .none)) (.c .none) (.bin .mul (.v 8) (.v 11))), (.v 16)])])) [.ret (.c (.bool false))] [], .asg (.n 17) (.call 215 [(.v 14), (.v 11)]), .asg (.n 18) (.blt .sorted [(.lc (.v 19) (.t [(.n 19), (.n 20)]) (.ix (.v 4) (.c (.int 1))) [(.cmp .gt (.v 19) (.c (.int 1)))])]), .iff (.not (.call 44 [(.lst [(.call 415 [(.v 17)]), (.call 178 [(.v 17)]), (.blt .sorted [(.lc (.v 19) (.t [(.n 19), (.n 20)]) (.ix (.call 444 [(.v 17)]) (.c (.int 2))) [])])]), (.lst [(.v 12), (.call 178 [(.v 4)]), (.v 18)])])) [.ret (.c (.bool false))] []] []], .ret (.c (.bool true))]⟩
/-- k55_law: 0 script 1 tin 2 lap 3 book 4 orders_so 5 named_so 6 counts_so 7 floors_so 8 threes_so 9 wide_so 10 weights_so 11 ways_so 12 whole_so 13 fibre 14 some_so 15 handles_so 16 own 17 turn -/
def f501 : Fn := ⟨1, 18, [.asg (.n 1) (.call 447 [(.call 50 [(.v 0), (.c (.int 1))]), (.c (.int 0))]), .fr (.n 2) (.blt .range [(.c (.int 5))]) [.asg (.n 3) (.tup [(.c (.int 0)), (.blt .tuple [(.lc (.call 262 [(.v 1), (.c (.int 4)), (.c (.int 4))]) (.n 17) (.blt .range [(.call 43 [(.v 1), (.c (.int 5))])]) [])])]), .par [(.n 10), (.n 11)] [(.call 448 [(.v 3), (.c (.int 2))]), (.call 340 [(.v 3), (.c (.int 2))])], .asg (.n 4) (.lst [(.tup [(.c (.int 0)), (.c (.int 1))]), (.tup [(.c (.int 1)), (.c (.int 0))])]), .asg (.n 5) (.blt .sorted [(.lc (.tup [(.ix (.v 4) (.v 13)), (.blt .tuple [(.lc (.ix (.v 4) (.v 16)) (.n 16) (.v 14) [])]), (.tup [])]) (.t [(.n 13), (.n 14), (.n 15)]) (.v 10) [])]), .asg (.n 6) (.call 449 [(.v 3), (.c (.int 3))]), .iff (.not (.call 44 [(.lst [(.v 11), (.call 330 [(.v 3), (.c (.int 2))]), (.call 404 [(.v 3), (.c (.int 2))]), (.sl (.v 6) none (some (.c (.int 2))))]), (.lst [(.v 5), (.blt .len [(.v 10)]), (.blt .len [(.v 10)]), (.tup [(.c (.int 1)), (.bin .sub (.blt .len [(.v 10)]) (.c (.int 1)))])])])) [.ret (.c (.bool false))] [], .asg (.n 7) (.lc (.tup [(.v 14), (.tup [])]) (.t [(.n 13), (.n 14), (.n 15)]) (.v 10) [(.and [(.cmp .eq (.v 13) (.c (.int 0))), (.blt .any [(.v 14)])])]), .iff (.not (.call 44 [(.call 439 [(.v 3), (.c (.int 2))]), (.v 7)])) [.ret (.c (.bool false))] [], .asg (.n 8) (.lc (.tup [(.v 14), (.tup [])]) (.t [(.n 13), (.n 14), (.n 15)]) (.call 448 [(.v 3), (.c (.int 3))]) [(.and [(.cmp .eq (.v 13) (.c (.int 0))), (.blt .any [(.v 14)])])]), .iff (.not (.call 44 [(.call 439 [(.v 3), (.c (.int 3))]), (.v 8)])) [.ret (.c (.bool false))] [], .iff (.cmp .lt (.call 404 [(.v 3), (.c (.int 3))]) (.c (.int 300))) [.asg (.n 12) (.lc (.v 16) (.n 16) (.call 340 [(.v 3), (.c (.int 3))]) [(.call 450 [(.v 3), (.c (.int 3)), (.v 16)])]), .iff (.cmp .ne (.blt .len [(.v 12)]) (.bin .mul (.c (.int 2)) (.ix (.v 6) (.c (.int 2))))) [.ret (.c (.bool false))] []] [], .asg (.n 9) (.tup [(.c (.int 1)), (.ix (.v 3) (.c (.int 1)))]), .iff (.not (.call 44 [(.lst [(.call 330 [(.v 9), (.c (.int 2))]), (.call 404 [(.v 9), (.c (.int 2))]), (.ix (.call 449 [(.v 9), (.c (.int 2))]) (.c (.int 1)))]), (.lst [(.bin .mul (.c (.int 4)) (.blt .len [(.v 10)])), (.bin .mul (.c (.int 4)) (.blt .len [(.v 10)])), (.bin .sub (.bin .mul (.c (.int 4)) (.blt .len [(.v 10)])) (.c (.int 1)))])])) [.ret (.c (.bool false))] []], .ret (.c (.bool true))]⟩
/-- k57_law: 0 script 1 tin 2 lap 3 r 4 s 5 sheets 6 book 7 orders_so 8 apart_so 9 share_so 10 due 11 q 12 side 13 one 14 two 15 many 16 near_so 17 far_so 18 own -/
def f502 : Fn := ⟨1, 19, [.asg (.n 1) (.call 455 [(.call 50 [(.v 0), (.c (.int 1))]), (.c (.int 0))]), .fr (.n 2) (.blt .range [(.c (.int 5))]) [.asg (.n 3) (.bin .add (.c (.int 2)) (.call 43 [(.v 1), (.c (.int 4))])), .asg (.n 4) (.call 71 [(.v 1), (.lc (.v 18) (.n 18) (.blt .range [(.bin .add (.v 3) (.c (.int 1))), (.bin .add (.v 3) (.c (.int 4)))]) [(.cmp .eq (.call 45 [(.v 18), (.v 3)]) (.c (.int 1)))])]), .asg (.n 5) (.bin .add (.c (.int 2)) (.call 43 [(.v 1), (.c (.int 8))])), .asg (.n 6) (.call 456 [(.tup [(.v 3), (.v 4)]), (.v 5)]), .asg (.n 7) (.lst [(.tup [(.v 5), (.v 3), (.v 4)]), (.tup [(.v 4), (.v 5), (.v 3)]), (.tup [(.v 3), (.v 4), (.v 5)])]), .iff (.or [(.not (.call 44 [(.lc (.call 444 [(.call 38 [(.v 18)])]) (.n 18) (.v 7) []), (.bin .mul (.lst [(.call 444 [(.v 6)])]) (.c (.int 3)))])), (.cmp .le (.ix (.call 170 [(.v 6)]) (.c (.int 0))) (.c (.int 0)))]) [.ret (.c (.bool false))] [], .asg (.n 8) (.and [(.cmp .eq (.call 45 [(.v 3), (.v 5)]) (.c (.int 1))), (.cmp .eq (.call 45 [(.v 4), (.v 5)]) (.c (.int 1)))]), .iff (.not (.call 44 [(.lst [(.call 434 [(.v 6)]), (.cmp .eq (.call 457 [(.tup [(.v 3), (.v 4)]), (.v 5)]) (.c (.int 1)))]), (.lst [(.v 8), (.v 8)])])) [.ret (.c (.bool false))] [], .iff (.v 8) [.iff (.not (.call 44 [(.lst [(.call 444 [(.v 6)]), (.call 415 [(.v 6)])]), (.lst [(.call 444 [(.call 419 [(.tup [(.v 3), (.v 4), (.v 5)])])]), (.tup [(.c (.int 1)), (.bin .mul (.bin .mul (.v 3) (.v 4)) (.v 5))])])])) [.ret (.c (.bool false))] []] [], .asg (.n 9) (.call 48 [(.lst [(.tup [(.c (.int 1)), (.v 3)]), (.tup [(.c (.int 1)), (.v 4)]), (.tup [(.c (.int 1)), (.v 5)])])]), .asg (.n 10) (.ife (.cmp .gt (.ix (.v 9) (.c (.int 0))) (.ix (.v 9) (.c (.int 1)))) (.c (.str "ball")) (.ife (.cmp .eq (.v 9) (.tup [(.c (.int 1)), (.c (.int 1))])) (.c (.str "leaned flat")) (.c (.str "leaned wide")))), .iff (.not (.call 44 [(.call 178 [(.v 6)]), (.v 10)])) [.ret (.c (.bool false))] [], .iff (.and [(.cmp .eq (.v 10) (.c (.str "ball"))), (.cmp .is (.call 266 [(.v 6)]) (.c .none))]) [.ret (.c (.bool false))] [], .asg (.n 11) (.bin .add (.c (.int 1)) (.call 43 [(.v 1), (.c (.int 3))])), .fr (.n 12) (.tup [(.c (.int 1)), (.neg (.c (.int 1)))]) [.asg (.n 15) (.bin .add (.bin .mul (.bin .mul (.v 3) (.v 4)) (.v 11)) (.v 12)), .iff (.cmp .lt (.v 15) (.c (.int 200))) [.asg (.n 16) (.call 444 [(.call 456 [(.tup [(.v 3), (.v 4)]), (.v 15)])]), .asg (.n 17) (.call 361 [(.tup [(.v 3), (.v 4)]), (.tup [(.neg (.v 12)), (.v 11)])]), .iff (.cmp .nin (.v 16) (.tup [(.call 119 [(.v 17)]), (.call 119 [(.call 265 [(.v 17)])])])) [.ret (.c (.bool false))] []] []], .iff (.not (.call 44 [(.ife (.cmp .lt (.ix (.v 6) (.c (.int 0))) (.c (.int 3))) (.lst [(.call 404 [(.v 6), (.c (.int 2))]), (.call 404 [(.call 420 [(.v 6)]), (.c (.int 2))])]) (.lst [(.c (.int 0)), (.c (.int 0))])), (.ife (.cmp .lt (.ix (.v 6) (.c (.int 0))) (.c (.int 3))) (.bin .mul (.lst [(.call 404 [(.call 38 [(.ix (.v 7) (.c (.int 0)))]), (.c (.int 2))])]) (.c (.int 2))) (.lst [(.c (.int 0)), (.c (.int 0))]))])) [.ret (.c (.bool false))] []], .par [(.n 13), (.n 14)] [(.call 456 [(.tup [(.c (.int 2)), (.c (.int 3))]), (.c (.int 5))]), (.call 456 [(.tup [(.c (.int 2)), (.c (.int 3))]), (.c (.int 7))])], .ret (.call 44 [(.lst [(.call 444 [(.v 13)]), (.call 266 [(.v 13)]), (.call 444 [(.v 14)])]), (.lst [(.tup [(.c (.int 0)), (.neg (.c (.int 1))), (.tup [(.tup [(.c (.int 2)), (.c (.int 1))]), (.tup [(.c (.int 3)), (.c (.int 1))]), (.tup [(.c (.int 5)), (.c (.int 1))])])]), (.c (.int 120)), (.tup [(.c (.int 0)), (.neg (.c (.int 2))), (.tup [(.tup [(.c (.int 2)), (.c (.int 1))]), (.tup [(.c (.int 3)), (.c (.int 2))]), (.tup [(.c (.int 7)), (.c (.int 6))])])])])])]⟩
/-- k58_law: 0 script 1 tin 2 lap 3 ball_so 4 loops_so 5 forms_so 6 form_so 7 book 8 round_so 9 got 10 often_v 11 own 12 turns_so 13 coverings_so 14 far_so 15 k 16 many 17 above 18 below -/
def f503 : Fn := ⟨1, 19, [.asg (.n 1) (.call 460 [(.call 50 [(.v 0), (.c (.int 1))]), (.c (.int 0))]), .fr (.n 2) (.blt .range [(.c (.int 3))]) [.asg (.n 4) (.call 71 [(.v 1), (.lst [(.c (.int 8)), (.c (.int 12)), (.c (.int 16)), (.c (.int 20)), (.c (.int 24)), (.c (.int 32)), (.c (.int 40)), (.c (.int 48)), (.c (.int 60))])]), .asg (.n 5) (.lc (.v 11) (.n 11) (.call 461 [(.v 4)]) [(.and [(.cmp .lt (.blt .max [(.lc (.v 17) (.t [(.n 17), (.n 18)]) (.ix (.v 11) (.c (.int 2))) [])]) (.c (.int 6))), (.cmp .lt (.blt .abs [(.ix (.v 11) (.c (.int 1)))]) (.c (.int 6)))])]), .fr (.n 6) (.call 263 [(.v 1), (.v 5), (.c (.int 2))]) [.asg (.n 7) (.call 163 [(.v 6)]), .asg (.n 8) (.call 66 [(.v 7)]), .par [(.n 12), (.n 13)] [(.call 435 [(.v 7)]), (.call 449 [(.v 7), (.c (.int 4))])], .asg (.n 9) (.lst [(.call 462 [(.v 7)]), (.call 266 [(.v 7)]), (.call 463 [(.v 7)]), (.bin .mod (.v 4) (.v 12))]), .iff (.not (.call 44 [(.v 9), (.lst [(.v 4), (.v 4), (.bin .fdiv (.bin .mul (.c (.int 2)) (.ix (.v 8) (.c (.int 1)))) (.ix (.v 8) (.c (.int 0)))), (.c (.int 0))])])) [.ret (.c (.bool false))] [], .iff (.blt .any [(.lc (.and [(.cmp .gt (.v 16) (.c (.int 0))), (.cmp .ne (.bin .mod (.v 4) (.bin .add (.v 15) (.c (.int 1)))) (.c (.int 0)))]) (.t [(.n 15), (.n 16)]) (.blt .enumerate [(.v 13)]) [])]) [.ret (.c (.bool false))] [], .fr (.n 10) (.tup [(.c (.int 2)), (.c (.int 3)), (.c (.int 5)), (.c (.int 7))]) [.asg (.n 14) (.call 464 [(.v 7), (.v 10)]), .iff (.cmp .ne (.v 14) (.c (.str "none"))) [.iff (.or [(.cmp .ne (.bin .mod (.v 4) (.v 10)) (.c (.int 0))), (.not (.call 44 [(.call 266 [(.v 14)]), (.bin .fdiv (.v 4) (.v 10))]))]) [.ret (.c (.bool false))] [], .iff (.cmp .eq (.ix (.call 449 [(.v 7), (.ife (.cmp .lt (.v 10) (.c (.int 5))) (.v 10) (.c (.int 1)))]) (.neg (.c (.int 1)))) (.c (.int 0))) [.ret (.c (.bool false))] []] []]]], .asg (.n 3) (.tup [(.c (.int 0)), (.tup [(.tup [(.c (.int 2)), (.c (.int 1))]), (.tup [(.c (.int 3)), (.c (.int 1))]), (.tup [(.c (.int 5)), (.c (.int 1))]), (.tup [(.c (.int 1)), (.neg (.c (.int 1)))])])]), .ret (.call 44 [(.lst [(.call 449 [(.v 3), (.c (.int 5))]), (.call 266 [(.v 3)]), (.call 435 [(.v 3)])]), (.lst [(.tup [(.c (.int 1)), (.c (.int 0)), (.c (.int 0)), (.c (.int 0)), (.c (.int 5))]), (.c (.int 120)), (.c (.int 1))])])]⟩
/-- k59_law: 0 script 1 tin 2 lap 3 row_so 4 lens_so 5 got 6 due 7 class_so 8 eighth_so 9 up_so 10 deed 11 far_so 12 line_so 13 about_so 14 above 15 below 16 side 17 place 18 own -/
def f504 : Fn := ⟨1, 19, [.asg (.n 1) (.call 466 [(.call 50 [(.v 0), (.c (.int 1))]), (.c (.int 0))]), .fr (.n 2) (.blt .range [(.c (.int 6))]) [.asg (.n 3) (.blt .tuple [(.lc (.bin .sub (.call 43 [(.v 1), (.c (.int 9))]) (.c (.int 4))) (.n 18) (.blt .range [(.bin .add (.c (.int 1)) (.call 43 [(.v 1), (.c (.int 6))]))]) [])]), .par [(.n 12), (.n 13)] [(.call 467 [(.v 3)]), (.call 467 [(.rev (.v 3))])], .asg (.t [(.n 14), (.n 15)]) (.call 468 [(.v 3)]), .asg (.n 4) (.call 96 [(.v 14), (.v 15)]), .asg (.n 5) (.lst [(.call 469 [(.v 12)]), (.call 465 [(.v 12)]), (.call 470 [(.v 3)]), (.call 425 [(.v 12)]), (.call 471 [(.v 12)]), (.call 398 [(.v 3)]), (.call 397 [(.call 471 [(.v 13)])])]), .iff (.not (.call 44 [(.v 5), (.lst [(.c (.bool true)), (.v 3), (.tup [(.v 14), (.v 15)]), (.v 14), (.v 4), (.v 4), (.call 95 [(.v 4)])])])) [.ret (.c (.bool false))] [], .asg (.n 6) (.ife (.cmp .eq (.v 14) (.c (.int 0))) (.tup [(.c (.int 1)), (.tup [])]) (.tup [(.c (.int 0)), (.ife (.cmp .gt (.blt .abs [(.v 14)]) (.c (.int 1))) (.tup [(.blt .abs [(.v 14)])]) (.tup []))])), .iff (.not (.call 44 [(.lst [(.call 472 [(.v 12)]), (.call 472 [(.v 13)])]), (.lst [(.v 6), (.v 6)])])) [.ret (.c (.bool false))] [], .asg (.n 7) (.call 473 [(.c (.int 1)), (.v 4)]), .iff (.not (.call 44 [(.lst [(.call 473 [(.c (.int 0)), (.v 12)]), (.call 473 [(.c (.int 0)), (.v 13)])]), (.lst [(.v 7), (.v 7)])])) [.ret (.c (.bool false))] [], .asg (.n 8) (.call 473 [(.c (.int 2)), (.v 12)]), .iff (.or [(.cmp .ne (.cmp .eq (.v 8) (.c (.str "none"))) (.cmp .eq (.bin .mod (.v 14) (.c (.int 2))) (.c (.int 0)))), (.not (.call 44 [(.call 473 [(.c (.int 2)), (.v 13)]), (.v 8)]))]) [.ret (.c (.bool false))] [], .par [(.n 16), (.n 17)] [(.call 71 [(.v 1), (.lst [(.c (.int 1)), (.neg (.c (.int 1)))])]), (.call 43 [(.v 1), (.bin .add (.blt .len [(.v 3)]) (.c (.int 1)))])], .asg (.n 9) (.call 467 [(.call 393 [(.v 3), (.v 17), (.v 16)])]), .asg (.n 10) (.ife (.cmp .eq (.v 17) (.c (.int 0))) (.tup [(.c (.str "up")), (.c (.int 0)), (.v 16)]) (.ife (.cmp .eq (.v 17) (.blt .len [(.v 3)])) (.tup [(.c (.str "up")), (.bin .sub (.blt .len [(.v 3)]) (.c (.int 1))), (.v 16)]) (.tup [(.c (.str "between")), (.bin .sub (.v 17) (.c (.int 1))), (.v 16)]))), .asg (.n 11) (.call 474 [(.v 12), (.tup [(.v 10)])]), .asg (.n 5) (.lst [(.cmp .eq (.blt .sorted [(.ix (.v 9) (.c (.int 0)))]) (.blt .sorted [(.ix (.v 11) (.c (.int 0)))])), (.cmp .eq (.call 425 [(.v 9)]) (.call 425 [(.v 11)])), (.cmp .inn (.call 465 [(.v 11)]) (.tup [(.call 465 [(.v 9)]), (.rev (.call 465 [(.v 9)]))]))]), .asg (.n 5) (.bin .add (.v 5) (.lst [(.cmp .eq (.call 473 [(.c (.int 2)), (.v 9)]) (.v 8)), (.call 397 [(.call 471 [(.v 11)])])])), .iff (.not (.call 44 [(.v 5), (.lst [(.c (.bool true)), (.c (.bool true)), (.c (.bool true)), (.c (.bool true)), (.call 95 [(.v 4)])])])) [.ret (.c (.bool false))] []], .ret (.c (.bool true))]⟩
/-- k60_law: 0 script 1 tin 2 rims_so 3 lap 4 glue 5 crosses_so 6 got 7 road_so 8 first_so 9 lens_so 10 mirror_so 11 back_so 12 own 13 one 14 two 15 near_so 16 far_so 17 turn -/
def f505 : Fn := ⟨1, 18, [.asg (.n 1) (.call 475 [(.call 50 [(.v 0), (.c (.int 1))]), (.c (.int 0))]), .asg (.n 2) (.lc (.v 12) (.n 12) (.call 121 [(.lrg [(.c (.int 10))]), (.lrg [(.neg (.c (.int 9))), (.c (.int 10))])]) [(.and [(.cmp .eq (.call 45 [(.ix (.v 12) (.c (.int 0))), (.ix (.v 12) (.c (.int 1)))]) (.c (.int 1))), (.or [(.cmp .gt (.ix (.v 12) (.c (.int 0))) (.c (.int 0))), (.cmp .eq (.v 12) (.tup [(.c (.int 0)), (.c (.int 1))]))])])]), .fr (.n 3) (.blt .range [(.c (.int 6))]) [.asg (.n 4) (.call 92 [(.blt .tuple [(.lc (.tup [(.call 71 [(.v 1), (.lst [(.c (.str "r")), (.c (.str "l"))])]), (.bin .sub (.call 43 [(.v 1), (.c (.int 7))]) (.c (.int 3)))]) (.n 17) (.blt .range [(.call 43 [(.v 1), (.c (.int 6))])]) [])])]), .par [(.n 13), (.n 14)] [(.call 71 [(.v 1), (.v 2)]), (.call 71 [(.v 1), (.v 2)])], .par [(.n 15), (.n 16)] [(.call 476 [(.v 4), (.v 13)]), (.call 476 [(.v 4), (.v 14)])], .asg (.n 5) (.blt .abs [(.bin .sub (.bin .mul (.ix (.v 13) (.c (.int 0))) (.ix (.v 14) (.c (.int 1)))) (.bin .mul (.ix (.v 13) (.c (.int 1))) (.ix (.v 14) (.c (.int 0)))))]), .asg (.n 6) (.lst [(.call 127 [(.v 15), (.v 16)]), (.call 128 [(.v 15), (.v 16)]), (.call 126 [(.v 15), (.v 16)]), (.call 134 [(.v 15), (.v 16)]), (.call 476 [(.call 98 [(.v 4)]), (.v 15)])]), .iff (.not (.call 44 [(.v 6), (.lst [(.v 5), (.cmp .eq (.v 5) (.c (.int 1))), (.call 126 [(.v 13), (.v 14)]), (.call 134 [(.v 13), (.v 14)]), (.v 13)])])) [.ret (.c (.bool false))] [], .asg (.n 7) (.blt .tuple [(.lc (.call 476 [(.v 4), (.v 12)]) (.n 12) (.call 125 [(.v 13), (.v 14)]) [])]), .iff (.not (.call 44 [(.lst [(.call 129 [(.v 15), (.v 16), (.v 7)]), (.cmp .eq (.blt .len [(.call 125 [(.v 15), (.v 16)])]) (.blt .len [(.v 7)]))]), (.lst [(.c (.bool true)), (.c (.bool true))])])) [.ret (.c (.bool false))] [], .asg (.n 8) (.call 476 [(.v 4), (.tup [(.c (.int 1)), (.c (.int 0))])]), .asg (.n 9) (.call 95 [(.call 96 [(.ix (.ix (.v 4) (.c (.int 1))) (.c (.int 0))), (.ix (.ix (.v 4) (.c (.int 0))) (.c (.int 0)))])]), .asg (.n 10) (.call 95 [(.call 96 [(.ix (.ix (.v 4) (.c (.int 1))) (.c (.int 0))), (.neg (.ix (.ix (.v 4) (.c (.int 0))) (.c (.int 0))))])]), .iff (.not (.call 44 [(.lst [(.call 97 [(.v 4)]), (.call 134 [(.tup [(.c (.int 1)), (.c (.int 0))]), (.v 8)])]), (.lst [(.v 9), (.v 10)])])) [.ret (.c (.bool false))] [], .asg (.n 11) (.call 134 [(.v 14), (.v 13)]), .iff (.or [(.cmp .ne (.ix (.v 11) (.c (.int 0))) (.ix (.call 134 [(.v 13), (.v 14)]) (.c (.int 0)))), (.cmp .ne (.v 11) (.call 95 [(.ife (.cmp .gt (.ix (.v 11) (.c (.int 0))) (.c (.int 1))) (.call 96 [(.ix (.v 11) (.c (.int 0))), (.neg (.ix (.call 134 [(.v 13), (.v 14)]) (.c (.int 1))))]) (.v 11))]))]) [.ret (.c (.bool false))] []], .ret (.c (.bool true))]⟩
/-- k61_law: 0 script 1 tin 2 lap 3 first_so 4 lens_so 5 saw_so 6 sum_so 7 got 8 steps_so 9 back_so 10 far_so 11 rise_so 12 mirror_so 13 small_so 14 i 15 square_so 16 due -/
def f506 : Fn := ⟨1, 17, [.asg (.n 1) (.call 477 [(.call 50 [(.v 0), (.c (.int 1))]), (.c (.int 0))]), .fr (.n 2) (.blt .range [(.c (.int 6))]) [.asg (.n 3) (.bin .add (.c (.int 2)) (.call 43 [(.v 1), (.c (.int 79))])), .asg (.n 4) (.tup [(.v 3), (.call 71 [(.v 1), (.call 101 [(.v 3)])])]), .asg (.n 5) (.call 400 [(.ix (.v 4) (.c (.int 1))), (.v 3)]), .asg (.n 6) (.call 72 [(.tup [(.v 3), (.c (.int 1))]), (.v 5)]), .asg (.n 7) (.lst [(.call 371 [(.ix (.v 4) (.c (.int 1))), (.v 3)]), (.call 478 [(.ix (.v 4) (.c (.int 1))), (.v 3)]), (.call 479 [(.v 4)])]), .asg (.n 7) (.bin .add (.v 7) (.lst [(.call 401 [(.v 4)]), (.call 176 [(.tup [(.c (.int 0)), (.tup [(.tup [(.ix (.v 4) (.c (.int 1))), (.v 3)])])])]), (.call 437 [(.tup [(.c (.int 0)), (.tup [(.tup [(.ix (.v 4) (.c (.int 1))), (.v 3)])])])])])), .iff (.not (.call 44 [(.v 7), (.lst [(.v 5), (.v 5), (.v 6), (.call 72 [(.tup [(.c (.int 1)), (.c (.int 2))]), (.v 6)]), (.call 72 [(.tup [(.c (.int 1)), (.c (.int 2))]), (.v 6)]), (.v 5)])])) [.ret (.c (.bool false))] [], .asg (.n 8) (.call 480 [(.v 4)]), .iff (.cmp .ne (.call 48 [(.v 8)]) (.v 6)) [.ret (.c (.bool false))] [], .asg (.n 9) (.call 400 [(.bin .mod (.v 3) (.ix (.v 4) (.c (.int 1)))), (.ix (.v 4) (.c (.int 1)))]), .iff (.not (.call 44 [(.lst [(.call 47 [(.v 5), (.v 9)]), (.call 371 [(.v 3), (.ix (.v 4) (.c (.int 1)))])]), (.lst [(.call 481 [(.ix (.v 4) (.c (.int 1))), (.v 3)]), (.v 9)])])) [.ret (.c (.bool false))] [], .par [(.n 11), (.n 12)] [(.call 403 [(.v 4)]), (.call 453 [(.v 4)])], .asg (.n 10) (.call 403 [(.v 12)]), .iff (.not (.call 44 [(.lst [(.ix (.v 10) (.c (.int 0))), (.ix (.v 10) (.neg (.c (.int 1)))), (.call 401 [(.v 12)])]), (.lst [(.tup [(.neg (.ix (.ix (.v 11) (.neg (.c (.int 1)))) (.c (.int 0)))), (.ix (.ix (.v 11) (.neg (.c (.int 1)))) (.c (.int 1)))]), (.tup [(.neg (.ix (.ix (.v 11) (.c (.int 0))) (.c (.int 0)))), (.ix (.ix (.v 11) (.c (.int 0))) (.c (.int 1)))]), (.call 72 [(.tup [(.neg (.c (.int 1))), (.c (.int 2))]), (.v 6)])])])) [.ret (.c (.bool false))] [], .iff (.and [(.call 482 [(.v 4)]), (.not (.call 44 [(.lst [(.call 401 [(.v 4)]), (.call 479 [(.v 4)]), (.v 10)]), (.lst [(.tup [(.c (.int 0)), (.c (.int 1))]), (.tup [(.c (.int 0)), (.c (.int 1))]), (.v 11)])]))]) [.ret (.c (.bool false))] [], .iff (.not (.call 44 [(.call 371 [(.c (.int 1)), (.v 3)]), (.call 46 [(.bin .mul (.bin .sub (.v 3) (.c (.int 1))) (.bin .sub (.v 3) (.c (.int 2)))), (.bin .mul (.c (.int 12)) (.v 3))])])) [.ret (.c (.bool false))] [], .iff (.cmp .gt (.ix (.v 4) (.c (.int 1))) (.c (.int 1))) [.asg (.n 13) (.call 480 [(.tup [(.ix (.v 4) (.c (.int 1))), (.bin .mod (.v 3) (.ix (.v 4) (.c (.int 1))))])]), .fr (.n 14) (.call 263 [(.v 1), (.lrg [(.v 3)]), (.c (.int 5))]) [.asg (.n 15) (.bin .sub (.bin .sub (.bin .add (.bin .mul (.c (.int 2)) (.v 14)) (.c (.int 1))) (.v 3)) (.ix (.v 4) (.c (.int 1)))), .asg (.n 16) (.call 46 [(.bin .sub (.bin .mul (.v 15) (.v 15)) (.bin .mul (.v 3) (.ix (.v 4) (.c (.int 1))))), (.bin .mul (.bin .mul (.c (.int 4)) (.v 3)) (.ix (.v 4) (.c (.int 1))))]), .iff (.cmp .ne (.call 61 [(.v 16), (.ix (.v 13) (.bin .mod (.v 14) (.ix (.v 4) (.c (.int 1)))))]) (.ix (.v 8) (.v 14))) [.ret (.c (.bool false))] []]] []], .ret (.c (.bool true))]⟩
/-- k62_law: 0 script 1 tin 2 lap 3 above 4 below 5 row_so 6 dual_so 7 lens_so 8 turned_so 9 count_so 10 own 11 near_so 12 far_so 13 got 14 line_so 15 other_so 16 mirror_so -/
def f507 : Fn := ⟨1, 17, [.asg (.n 1) (.call 483 [(.call 50 [(.v 0), (.c (.int 1))]), (.c (.int 0))]), .fr (.n 2) (.blt .range [(.c (.int 4))]) [.asg (.n 3) (.bin .add (.c (.int 2)) (.call 43 [(.v 1), (.c (.int 22))])), .asg (.n 4) (.call 71 [(.v 1), (.call 101 [(.v 3)])]), .asg (.n 5) (.ife (.cmp .gt (.v 3) (.c (.int 1))) (.call 484 [(.v 3), (.v 4)]) (.tup [(.c (.int 2))])), .asg (.n 6) (.call 485 [(.v 5)]), .asg (.n 7) (.call 398 [(.v 5)]), .iff (.not (.call 44 [(.lst [(.call 398 [(.v 6)]), (.v 7), (.call 453 [(.call 398 [(.v 6)])])]), (.lst [(.tup [(.v 3), (.bin .sub (.v 3) (.v 4))]), (.tup [(.v 3), (.v 4)]), (.tup [(.v 3), (.v 4)])])])) [.ret (.c (.bool false))] [], .asg (.n 8) (.blt .tuple [(.rev (.lc (.tup [(.neg (.ix (.v 10) (.c (.int 0)))), (.ix (.v 10) (.c (.int 1)))]) (.n 10) (.call 403 [(.v 7)]) []))]), .par [(.n 11), (.n 12)] [(.call 486 [(.v 5)]), (.call 486 [(.v 6)])], .iff (.and [(.cmp .ne (.v 11) (.c (.str "many"))), (.cmp .ne (.v 11) (.v 8))]) [.ret (.c (.bool false))] [], .iff (.and [(.cmp .ne (.v 12) (.c (.str "many"))), (.cmp .ne (.v 12) (.call 403 [(.v 7)]))]) [.ret (.c (.bool false))] [], .asg (.n 9) (.c (.int 1)), .fr (.n 10) (.v 5) [.asg (.n 9) (.bin .mul (.v 9) (.bin .add (.v 10) (.c (.int 1))))], .iff (.or [(.not (.call 44 [(.call 487 [(.v 5)]), (.v 9)])), (.cmp .ne (.cmp .eq (.v 11) (.c (.str "many"))) (.or [(.cmp .gt (.blt .len [(.v 5)]) (.c (.int 6))), (.cmp .gt (.v 9) (.c (.int 20000)))]))]) [.ret (.c (.bool false))] [], .iff (.and [(.cmp .lt (.blt .len [(.v 5)]) (.c (.int 25))), (.cmp .lt (.blt .len [(.v 6)]) (.c (.int 25)))]) [.par [(.n 14), (.n 15), (.n 16)] [(.call 467 [(.v 5)]), (.call 467 [(.v 6)]), (.call 467 [(.call 488 [(.v 5)])])], .asg (.n 13) (.lst [(.call 425 [(.v 14)]), (.call 425 [(.v 15)]), (.call 428 [(.v 14)]), (.call 428 [(.v 15)]), (.call 489 [(.v 16)]), (.call 398 [(.call 488 [(.v 5)])])]), .iff (.not (.call 44 [(.v 13), (.lst [(.v 3), (.v 3), (.c (.bool true)), (.c (.bool true)), (.tup [(.c (.int 0)), (.c (.int 0)), (.blt .len [(.v 5)])]), (.tup [(.v 3), (.bin .sub (.v 3) (.v 4))])])])) [.ret (.c (.bool false))] []] []], .ret (.c (.bool true))]⟩
/-- k65_law: 0 script 1 tin 2 lap 3 book 4 reason_so 5 pairs_so 6 often 7 word 8 own_so 9 other_so 10 mirror_so 11 far_so 12 one 13 two -/
def f508 : Fn := ⟨1, 14, [.asg (.n 1) (.call 491 [(.call 50 [(.v 0), (.c (.int 1))]), (.c (.int 0))]), .fr (.n 2) (.blt .range [(.c (.int 4))]) [.asg (.n 3) (.ife (.cmp .gt (.call 43 [(.v 1), (.c (.int 3))]) (.c (.int 0))) (.tup [(.c (.int 0)), (.ix (.call 268 [(.v 1), (.c (.int 0)), (.c (.int 4)), (.c (.int 4))]) (.c (.int 1)))]) (.call 268 [(.v 1), (.c (.int 2)), (.c (.int 3)), (.c (.int 4))])), .par [(.n 9), (.n 10), (.n 11)] [(.call 269 [(.v 1), (.v 3)]), (.call 265 [(.v 3)]), (.call 268 [(.v 1), (.c (.int 0)), (.c (.int 3)), (.c (.int 3))])], .asg (.n 4) (.call 271 [(.tup [(.c (.str "tubes")), (.v 3), (.v 9)])]), .iff (.or [(.cmp .ne (.call 264 [(.v 3), (.v 4)]) (.v 9)), (.not (.call 44 [(.call 276 [(.tup [(.tup [(.c (.str "tubes")), (.v 3), (.v 9)]), (.tup [(.c (.str "room")), (.v 3), (.v 9)]), (.tup [(.c (.str "tubes")), (.v 9), (.v 3)])])]), (.c .none)]))]) [.ret (.c (.bool false))] [], .asg (.n 5) (.lc (.tup [(.tup [(.v 7), (.v 3)]), (.tup [(.v 7), (.v 9)])]) (.n 7) (.tup [(.c (.str "mirror")), (.c (.str "finite")), (.c (.str "sphere"))]) []), .fr (.t [(.n 12), (.n 13)]) (.bin .add (.v 5) (.lst [(.tup [(.tup [(.c (.str "room")), (.v 3), (.v 11)]), (.tup [(.c (.str "room")), (.v 9), (.v 11)])])])) [.iff (.not (.call 44 [(.call 270 [(.v 13)]), (.call 270 [(.v 12)])])) [.ret (.c (.bool false))] [], .iff (.call 270 [(.v 12)]) [.iff (.not (.call 44 [(.lst [(.call 271 [(.v 13)]), (.call 274 [(.v 13), (.call 271 [(.v 12)])])]), (.lst [(.call 271 [(.v 12)]), (.c (.bool true))])])) [.ret (.c (.bool false))] []] [.iff (.and [(.cmp .ne (.ix (.v 12) (.c (.int 0))) (.c (.str "sphere"))), (.not (.call 44 [(.lst [(.call 272 [(.v 13)]), (.call 275 [(.v 13), (.call 272 [(.v 12)])])]), (.lst [(.call 272 [(.v 12)]), (.c (.bool true))])]))]) [.ret (.c (.bool false))] [.iff (.and [(.cmp .eq (.ix (.v 12) (.c (.int 0))) (.c (.str "sphere"))), (.cmp .ne (.ix (.call 272 [(.v 13)]) (.c (.int 0))) (.ix (.call 272 [(.v 12)]) (.c (.int 0))))]) [.ret (.c (.bool false))] []]]], .asg (.n 6) (.bin .add (.c (.int 1)) (.call 43 [(.v 1), (.c (.int 9))])), .iff (.not (.call 44 [(.lst [(.call 270 [(.tup [(.c (.str "unfolds")), (.v 9), (.v 6)])]), (.call 270 [(.tup [(.c (.str "unfolds")), (.v 10), (.v 6)])])]), (.bin .mul (.lst [(.call 270 [(.tup [(.c (.str "unfolds")), (.v 3), (.v 6)])])]) (.c (.int 2)))])) [.ret (.c (.bool false))] [], .fr (.n 7) (.tup [(.c (.str "finite")), (.c (.str "sphere")), (.c (.str "mirror"))]) [.iff (.not (.call 44 [(.call 270 [(.tup [(.v 7), (.v 10)])]), (.call 270 [(.tup [(.v 7), (.v 3)])])])) [.ret (.c (.bool false))] []], .asg (.n 8) (.call 270 [(.tup [(.c (.str "mirror")), (.v 3)])]), .iff (.not (.call 44 [(.lst [(.v 8), (.cmp .eq (.call 406 [(.v 3)]) (.call 133 [(.v 3)]))]), (.bin .mul (.lst [(.cmp .eq (.call 133 [(.v 3)]) (.call 133 [(.v 10)]))]) (.c (.int 2)))])) [.ret (.c (.bool false))] [], .iff (.and [(.not (.v 8)), (.not (.call 44 [(.call 272 [(.tup [(.c (.str "mirror")), (.v 10)])]), (.rev (.call 272 [(.tup [(.c (.str "mirror")), (.v 3)])]))]))]) [.ret (.c (.bool false))] []], .ret (.c (.bool true))]⟩
def tbl (k : Nat) : Option Fn := (match Nat.blt k 230 with | true => (match Nat.blt k 113 with | true => (match Nat.blt k 61 with | true => (match Nat.blt k 34 with | true => (match Nat.blt k 11 with | true => (match Nat.blt k 5 with | true => (match Nat.blt k 2 with | true => (match Nat.blt k 1 with | true => (match Nat.beq k 0 with | true => some f0 | false => none) | false => (match Nat.beq k 1 with | true => some f1 | false => none)) | false => (match Nat.blt k 3 with | true => (match Nat.beq k 2 with | true => some f2 | false => none) | false => (match Nat.blt k 4 with | true => (match Nat.beq k 3 with | true => some f3 | false => none) | false => (match Nat.beq k 4 with | true => some f4 | false => none)))) | false => (match Nat.blt k 8 with | true => (match Nat.blt k 6 with | true => (match Nat.beq k 5 with | true => some f5 | false => none) | false => (match Nat.blt k 7 with | true => (match Nat.beq k 6 with | true => some f6 | false => none) | false => (match Nat.beq k 7 with | true => some f7 | false => none))) | false => (match Nat.blt k 9 with | true => (match Nat.beq k 8 with | true => some f8 | false => none) | false => (match Nat.blt k 10 with | true => (match Nat.beq k 9 with | true => some f9 | false => none) | false => (match Nat.beq k 10 with | true => some f10 | false => none))))) | false => (match Nat.blt k 25 with | true => (match Nat.blt k 21 with | true => (match Nat.blt k 12 with | true => (match Nat.beq k 11 with | true => some f11 | false => none) | false => (match Nat.beq k 12 with | true => some f12 | false => none)) | false => (match Nat.blt k 23 with | true => (match Nat.beq k 21 with | true => some f21 | false => none) | false => (match Nat.blt k 24 with | true => (match Nat.beq k 23 with | true => some f23 | false => none) | false => (match Nat.beq k 24 with | true => some f24 | false => none)))) | false => (match Nat.blt k 30 with | true => (match Nat.blt k 27 with | true => (match Nat.beq k 25 with | true => some f25 | false => none) | false => (match Nat.blt k 28 with | true => (match Nat.beq k 27 with | true => some f27 | false => none) | false => (match Nat.beq k 28 with | true => some f28 | false => none))) | false => (match Nat.blt k 32 with | true => (match Nat.beq k 30 with | true => some f30 | false => none) | false => (match Nat.blt k 33 with | true => (match Nat.beq k 32 with | true => some f32 | false => none) | false => (match Nat.beq k 33 with | true => some f33 | false => none)))))) | false => (match Nat.blt k 45 with | true => (match Nat.blt k 39 with | true => (match Nat.blt k 36 with | true => (match Nat.blt k 35 with | true => (match Nat.beq k 34 with | true => some f34 | false => none) | false => (match Nat.beq k 35 with | true => some f35 | false => none)) | false => (match Nat.blt k 37 with | true => (match Nat.beq k 36 with | true => some f36 | false => none) | false => (match Nat.blt k 38 with | true => (match Nat.beq k 37 with | true => some f37 | false => none) | false => (match Nat.beq k 38 with | true => some f38 | false => none)))) | false => (match Nat.blt k 42 with | true => (match Nat.blt k 40 with | true => (match Nat.beq k 39 with | true => some f39 | false => none) | false => (match Nat.blt k 41 with | true => (match Nat.beq k 40 with | true => some f40 | false => none) | false => (match Nat.beq k 41 with | true => some f41 | false => none))) | false => (match Nat.blt k 43 with | true => (match Nat.beq k 42 with | true => some f42 | false => none) | false => (match Nat.blt k 44 with | true => (match Nat.beq k 43 with | true => some f43 | false => none) | false => (match Nat.beq k 44 with | true => some f44 | false => none))))) | false => (match Nat.blt k 54 with | true => (match Nat.blt k 48 with | true => (match Nat.blt k 46 with | true => (match Nat.beq k 45 with | true => some f45 | false => none) | false => (match Nat.blt k 47 with | true => (match Nat.beq k 46 with | true => some f46 | false => none) | false => (match Nat.beq k 47 with | true => some f47 | false => none))) | false => (match Nat.blt k 50 with | true => (match Nat.beq k 48 with | true => some f48 | false => none) | false => (match Nat.blt k 52 with | true => (match Nat.beq k 50 with | true => some f50 | false => none) | false => (match Nat.beq k 52 with | true => some f52 | false => none)))) | false => (match Nat.blt k 57 with | true => (match Nat.blt k 55 with | true => (match Nat.beq k 54 with | true => some f54 | false => none) | false => (match Nat.blt k 56 with | true => (match Nat.beq k 55 with | true => some f55 | false => none) | false => (match Nat.beq k 56 with | true => some f56 | false => none))) | false => (match Nat.blt k 59 with | true => (match Nat.beq k 57 with | true => some f57 | false => none) | false => (match Nat.blt k 60 with | true => (match Nat.beq k 59 with | true => some f59 | false => none) | false => (match Nat.beq k 60 with | true => some f60 | false => none))))))) | false => (match Nat.blt k 89 with | true => (match Nat.blt k 75 with | true => (match Nat.blt k 68 with | true => (match Nat.blt k 65 with | true => (match Nat.blt k 63 with | true => (match Nat.beq k 61 with | true => some f61 | false => none) | false => (match Nat.beq k 63 with | true => some f63 | false => none)) | false => (match Nat.blt k 66 with | true => (match Nat.beq k 65 with | true => some f65 | false => none) | false => (match Nat.blt k 67 with | true => (match Nat.beq k 66 with | true => some f66 | false => none) | false => (match Nat.beq k 67 with | true => some f67 | false => none)))) | false => (match Nat.blt k 72 with | true => (match Nat.blt k 69 with | true => (match Nat.beq k 68 with | true => some f68 | false => none) | false => (match Nat.blt k 71 with | true => (match Nat.beq k 69 with | true => some f69 | false => none) | false => (match Nat.beq k 71 with | true => some f71 | false => none))) | false => (match Nat.blt k 73 with | true => (match Nat.beq k 72 with | true => some f72 | false => none) | false => (match Nat.blt k 74 with | true => (match Nat.beq k 73 with | true => some f73 | false => none) | false => (match Nat.beq k 74 with | true => some f74 | false => none))))) | false => (match Nat.blt k 82 with | true => (match Nat.blt k 79 with | true => (match Nat.blt k 76 with | true => (match Nat.beq k 75 with | true => some f75 | false => none) | false => (match Nat.blt k 78 with | true => (match Nat.beq k 76 with | true => some f76 | false => none) | false => (match Nat.beq k 78 with | true => some f78 | false => none))) | false => (match Nat.blt k 80 with | true => (match Nat.beq k 79 with | true => some f79 | false => none) | false => (match Nat.blt k 81 with | true => (match Nat.beq k 80 with | true => some f80 | false => none) | false => (match Nat.beq k 81 with | true => some f81 | false => none)))) | false => (match Nat.blt k 86 with | true => (match Nat.blt k 84 with | true => (match Nat.beq k 82 with | true => some f82 | false => none) | false => (match Nat.blt k 85 with | true => (match Nat.beq k 84 with | true => some f84 | false => none) | false => (match Nat.beq k 85 with | true => some f85 | false => none))) | false => (match Nat.blt k 87 with | true => (match Nat.beq k 86 with | true => some f86 | false => none) | false => (match Nat.blt k 88 with | true => (match Nat.beq k 87 with | true => some f87 | false => none) | false => (match Nat.beq k 88 with | true => some f88 | false => none)))))) | false => (match Nat.blt k 100 with | true => (match Nat.blt k 94 with | true => (match Nat.blt k 91 with | true => (match Nat.blt k 90 with | true => (match Nat.beq k 89 with | true => some f89 | false => none) | false => (match Nat.beq k 90 with | true => some f90 | false => none)) | false => (match Nat.blt k 92 with | true => (match Nat.beq k 91 with | true => some f91 | false => none) | false => (match Nat.blt k 93 with | true => (match Nat.beq k 92 with | true => some f92 | false => none) | false => (match Nat.beq k 93 with | true => some f93 | false => none)))) | false => (match Nat.blt k 97 with | true => (match Nat.blt k 95 with | true => (match Nat.beq k 94 with | true => some f94 | false => none) | false => (match Nat.blt k 96 with | true => (match Nat.beq k 95 with | true => some f95 | false => none) | false => (match Nat.beq k 96 with | true => some f96 | false => none))) | false => (match Nat.blt k 98 with | true => (match Nat.beq k 97 with | true => some f97 | false => none) | false => (match Nat.blt k 99 with | true => (match Nat.beq k 98 with | true => some f98 | false => none) | false => (match Nat.beq k 99 with | true => some f99 | false => none))))) | false => (match Nat.blt k 107 with | true => (match Nat.blt k 104 with | true => (match Nat.blt k 101 with | true => (match Nat.beq k 100 with | true => some f100 | false => none) | false => (match Nat.blt k 102 with | true => (match Nat.beq k 101 with | true => some f101 | false => none) | false => (match Nat.beq k 102 with | true => some f102 | false => none))) | false => (match Nat.blt k 105 with | true => (match Nat.beq k 104 with | true => some f104 | false => none) | false => (match Nat.blt k 106 with | true => (match Nat.beq k 105 with | true => some f105 | false => none) | false => (match Nat.beq k 106 with | true => some f106 | false => none)))) | false => (match Nat.blt k 110 with | true => (match Nat.blt k 108 with | true => (match Nat.beq k 107 with | true => some f107 | false => none) | false => (match Nat.blt k 109 with | true => (match Nat.beq k 108 with | true => some f108 | false => none) | false => (match Nat.beq k 109 with | true => some f109 | false => none))) | false => (match Nat.blt k 111 with | true => (match Nat.beq k 110 with | true => some f110 | false => none) | false => (match Nat.blt k 112 with | true => (match Nat.beq k 111 with | true => some f111 | false => none) | false => (match Nat.beq k 112 with | true => some f112 | false => none)))))))) | false => (match Nat.blt k 176 with | true => (match Nat.blt k 140 with | true => (match Nat.blt k 126 with | true => (match Nat.blt k 119 with | true => (match Nat.blt k 116 with | true => (match Nat.blt k 115 with | true => (match Nat.beq k 113 with | true => some f113 | false => none) | false => (match Nat.beq k 115 with | true => some f115 | false => none)) | false => (match Nat.blt k 117 with | true => (match Nat.beq k 116 with | true => some f116 | false => none) | false => (match Nat.blt k 118 with | true => (match Nat.beq k 117 with | true => some f117 | false => none) | false => (match Nat.beq k 118 with | true => some f118 | false => none)))) | false => (match Nat.blt k 123 with | true => (match Nat.blt k 120 with | true => (match Nat.beq k 119 with | true => some f119 | false => none) | false => (match Nat.blt k 122 with | true => (match Nat.beq k 120 with | true => some f120 | false => none) | false => (match Nat.beq k 122 with | true => some f122 | false => none))) | false => (match Nat.blt k 124 with | true => (match Nat.beq k 123 with | true => some f123 | false => none) | false => (match Nat.blt k 125 with | true => (match Nat.beq k 124 with | true => some f124 | false => none) | false => (match Nat.beq k 125 with | true => some f125 | false => none))))) | false => (match Nat.blt k 134 with | true => (match Nat.blt k 129 with | true => (match Nat.blt k 127 with | true => (match Nat.beq k 126 with | true => some f126 | false => none) | false => (match Nat.blt k 128 with | true => (match Nat.beq k 127 with | true => some f127 | false => none) | false => (match Nat.beq k 128 with | true => some f128 | false => none))) | false => (match Nat.blt k 130 with | true => (match Nat.beq k 129 with | true => some f129 | false => none) | false => (match Nat.blt k 133 with | true => (match Nat.beq k 130 with | true => some f130 | false => none) | false => (match Nat.beq k 133 with | true => some f133 | false => none)))) | false => (match Nat.blt k 137 with | true => (match Nat.blt k 135 with | true => (match Nat.beq k 134 with | true => some f134 | false => none) | false => (match Nat.blt k 136 with | true => (match Nat.beq k 135 with | true => some f135 | false => none) | false => (match Nat.beq k 136 with | true => some f136 | false => none))) | false => (match Nat.blt k 138 with | true => (match Nat.beq k 137 with | true => some f137 | false => none) | false => (match Nat.blt k 139 with | true => (match Nat.beq k 138 with | true => some f138 | false => none) | false => (match Nat.beq k 139 with | true => some f139 | false => none)))))) | false => (match Nat.blt k 154 with | true => (match Nat.blt k 146 with | true => (match Nat.blt k 143 with | true => (match Nat.blt k 141 with | true => (match Nat.beq k 140 with | true => some f140 | false => none) | false => (match Nat.beq k 141 with | true => some f141 | false => none)) | false => (match Nat.blt k 144 with | true => (match Nat.beq k 143 with | true => some f143 | false => none) | false => (match Nat.blt k 145 with | true => (match Nat.beq k 144 with | true => some f144 | false => none) | false => (match Nat.beq k 145 with | true => some f145 | false => none)))) | false => (match Nat.blt k 151 with | true => (match Nat.blt k 149 with | true => (match Nat.beq k 146 with | true => some f146 | false => none) | false => (match Nat.blt k 150 with | true => (match Nat.beq k 149 with | true => some f149 | false => none) | false => (match Nat.beq k 150 with | true => some f150 | false => none))) | false => (match Nat.blt k 152 with | true => (match Nat.beq k 151 with | true => some f151 | false => none) | false => (match Nat.blt k 153 with | true => (match Nat.beq k 152 with | true => some f152 | false => none) | false => (match Nat.beq k 153 with | true => some f153 | false => none))))) | false => (match Nat.blt k 160 with | true => (match Nat.blt k 157 with | true => (match Nat.blt k 155 with | true => (match Nat.beq k 154 with | true => some f154 | false => none) | false => (match Nat.blt k 156 with | true => (match Nat.beq k 155 with | true => some f155 | false => none) | false => (match Nat.beq k 156 with | true => some f156 | false => none))) | false => (match Nat.blt k 158 with | true => (match Nat.beq k 157 with | true => some f157 | false => none) | false => (match Nat.blt k 159 with | true => (match Nat.beq k 158 with | true => some f158 | false => none) | false => (match Nat.beq k 159 with | true => some f159 | false => none)))) | false => (match Nat.blt k 169 with | true => (match Nat.blt k 161 with | true => (match Nat.beq k 160 with | true => some f160 | false => none) | false => (match Nat.blt k 163 with | true => (match Nat.beq k 161 with | true => some f161 | false => none) | false => (match Nat.beq k 163 with | true => some f163 | false => none))) | false => (match Nat.blt k 170 with | true => (match Nat.beq k 169 with | true => some f169 | false => none) | false => (match Nat.blt k 175 with | true => (match Nat.beq k 170 with | true => some f170 | false => none) | false => (match Nat.beq k 175 with | true => some f175 | false => none))))))) | false => (match Nat.blt k 201 with | true => (match Nat.blt k 189 with | true => (match Nat.blt k 183 with | true => (match Nat.blt k 180 with | true => (match Nat.blt k 178 with | true => (match Nat.beq k 176 with | true => some f176 | false => none) | false => (match Nat.beq k 178 with | true => some f178 | false => none)) | false => (match Nat.blt k 181 with | true => (match Nat.beq k 180 with | true => some f180 | false => none) | false => (match Nat.blt k 182 with | true => (match Nat.beq k 181 with | true => some f181 | false => none) | false => (match Nat.beq k 182 with | true => some f182 | false => none)))) | false => (match Nat.blt k 186 with | true => (match Nat.blt k 184 with | true => (match Nat.beq k 183 with | true => some f183 | false => none) | false => (match Nat.blt k 185 with | true => (match Nat.beq k 184 with | true => some f184 | false => none) | false => (match Nat.beq k 185 with | true => some f185 | false => none))) | false => (match Nat.blt k 187 with | true => (match Nat.beq k 186 with | true => some f186 | false => none) | false => (match Nat.blt k 188 with | true => (match Nat.beq k 187 with | true => some f187 | false => none) | false => (match Nat.beq k 188 with | true => some f188 | false => none))))) | false => (match Nat.blt k 195 with | true => (match Nat.blt k 192 with | true => (match Nat.blt k 190 with | true => (match Nat.beq k 189 with | true => some f189 | false => none) | false => (match Nat.blt k 191 with | true => (match Nat.beq k 190 with | true => some f190 | false => none) | false => (match Nat.beq k 191 with | true => some f191 | false => none))) | false => (match Nat.blt k 193 with | true => (match Nat.beq k 192 with | true => some f192 | false => none) | false => (match Nat.blt k 194 with | true => (match Nat.beq k 193 with | true => some f193 | false => none) | false => (match Nat.beq k 194 with | true => some f194 | false => none)))) | false => (match Nat.blt k 198 with | true => (match Nat.blt k 196 with | true => (match Nat.beq k 195 with | true => some f195 | false => none) | false => (match Nat.blt k 197 with | true => (match Nat.beq k 196 with | true => some f196 | false => none) | false => (match Nat.beq k 197 with | true => some f197 | false => none))) | false => (match Nat.blt k 199 with | true => (match Nat.beq k 198 with | true => some f198 | false => none) | false => (match Nat.blt k 200 with | true => (match Nat.beq k 199 with | true => some f199 | false => none) | false => (match Nat.beq k 200 with | true => some f200 | false => none)))))) | false => (match Nat.blt k 215 with | true => (match Nat.blt k 208 with | true => (match Nat.blt k 203 with | true => (match Nat.blt k 202 with | true => (match Nat.beq k 201 with | true => some f201 | false => none) | false => (match Nat.beq k 202 with | true => some f202 | false => none)) | false => (match Nat.blt k 204 with | true => (match Nat.beq k 203 with | true => some f203 | false => none) | false => (match Nat.blt k 207 with | true => (match Nat.beq k 204 with | true => some f204 | false => none) | false => (match Nat.beq k 207 with | true => some f207 | false => none)))) | false => (match Nat.blt k 212 with | true => (match Nat.blt k 209 with | true => (match Nat.beq k 208 with | true => some f208 | false => none) | false => (match Nat.blt k 210 with | true => (match Nat.beq k 209 with | true => some f209 | false => none) | false => (match Nat.beq k 210 with | true => some f210 | false => none))) | false => (match Nat.blt k 213 with | true => (match Nat.beq k 212 with | true => some f212 | false => none) | false => (match Nat.blt k 214 with | true => (match Nat.beq k 213 with | true => some f213 | false => none) | false => (match Nat.beq k 214 with | true => some f214 | false => none))))) | false => (match Nat.blt k 221 with | true => (match Nat.blt k 218 with | true => (match Nat.blt k 216 with | true => (match Nat.beq k 215 with | true => some f215 | false => none) | false => (match Nat.blt k 217 with | true => (match Nat.beq k 216 with | true => some f216 | false => none) | false => (match Nat.beq k 217 with | true => some f217 | false => none))) | false => (match Nat.blt k 219 with | true => (match Nat.beq k 218 with | true => some f218 | false => none) | false => (match Nat.blt k 220 with | true => (match Nat.beq k 219 with | true => some f219 | false => none) | false => (match Nat.beq k 220 with | true => some f220 | false => none)))) | false => (match Nat.blt k 224 with | true => (match Nat.blt k 222 with | true => (match Nat.beq k 221 with | true => some f221 | false => none) | false => (match Nat.blt k 223 with | true => (match Nat.beq k 222 with | true => some f222 | false => none) | false => (match Nat.beq k 223 with | true => some f223 | false => none))) | false => (match Nat.blt k 225 with | true => (match Nat.beq k 224 with | true => some f224 | false => none) | false => (match Nat.blt k 226 with | true => (match Nat.beq k 225 with | true => some f225 | false => none) | false => (match Nat.beq k 226 with | true => some f226 | false => none))))))))) | false => (match Nat.blt k 400 with | true => (match Nat.blt k 286 with | true => (match Nat.blt k 258 with | true => (match Nat.blt k 244 with | true => (match Nat.blt k 236 with | true => (match Nat.blt k 232 with | true => (match Nat.blt k 231 with | true => (match Nat.beq k 230 with | true => some f230 | false => none) | false => (match Nat.beq k 231 with | true => some f231 | false => none)) | false => (match Nat.blt k 234 with | true => (match Nat.beq k 232 with | true => some f232 | false => none) | false => (match Nat.blt k 235 with | true => (match Nat.beq k 234 with | true => some f234 | false => none) | false => (match Nat.beq k 235 with | true => some f235 | false => none)))) | false => (match Nat.blt k 239 with | true => (match Nat.blt k 237 with | true => (match Nat.beq k 236 with | true => some f236 | false => none) | false => (match Nat.blt k 238 with | true => (match Nat.beq k 237 with | true => some f237 | false => none) | false => (match Nat.beq k 238 with | true => some f238 | false => none))) | false => (match Nat.blt k 242 with | true => (match Nat.beq k 239 with | true => some f239 | false => none) | false => (match Nat.blt k 243 with | true => (match Nat.beq k 242 with | true => some f242 | false => none) | false => (match Nat.beq k 243 with | true => some f243 | false => none))))) | false => (match Nat.blt k 252 with | true => (match Nat.blt k 247 with | true => (match Nat.blt k 245 with | true => (match Nat.beq k 244 with | true => some f244 | false => none) | false => (match Nat.blt k 246 with | true => (match Nat.beq k 245 with | true => some f245 | false => none) | false => (match Nat.beq k 246 with | true => some f246 | false => none))) | false => (match Nat.blt k 250 with | true => (match Nat.beq k 247 with | true => some f247 | false => none) | false => (match Nat.blt k 251 with | true => (match Nat.beq k 250 with | true => some f250 | false => none) | false => (match Nat.beq k 251 with | true => some f251 | false => none)))) | false => (match Nat.blt k 255 with | true => (match Nat.blt k 253 with | true => (match Nat.beq k 252 with | true => some f252 | false => none) | false => (match Nat.blt k 254 with | true => (match Nat.beq k 253 with | true => some f253 | false => none) | false => (match Nat.beq k 254 with | true => some f254 | false => none))) | false => (match Nat.blt k 256 with | true => (match Nat.beq k 255 with | true => some f255 | false => none) | false => (match Nat.blt k 257 with | true => (match Nat.beq k 256 with | true => some f256 | false => none) | false => (match Nat.beq k 257 with | true => some f257 | false => none)))))) | false => (match Nat.blt k 270 with | true => (match Nat.blt k 263 with | true => (match Nat.blt k 260 with | true => (match Nat.blt k 259 with | true => (match Nat.beq k 258 with | true => some f258 | false => none) | false => (match Nat.beq k 259 with | true => some f259 | false => none)) | false => (match Nat.blt k 261 with | true => (match Nat.beq k 260 with | true => some f260 | false => none) | false => (match Nat.blt k 262 with | true => (match Nat.beq k 261 with | true => some f261 | false => none) | false => (match Nat.beq k 262 with | true => some f262 | false => none)))) | false => (match Nat.blt k 266 with | true => (match Nat.blt k 264 with | true => (match Nat.beq k 263 with | true => some f263 | false => none) | false => (match Nat.blt k 265 with | true => (match Nat.beq k 264 with | true => some f264 | false => none) | false => (match Nat.beq k 265 with | true => some f265 | false => none))) | false => (match Nat.blt k 268 with | true => (match Nat.beq k 266 with | true => some f266 | false => none) | false => (match Nat.blt k 269 with | true => (match Nat.beq k 268 with | true => some f268 | false => none) | false => (match Nat.beq k 269 with | true => some f269 | false => none))))) | false => (match Nat.blt k 277 with | true => (match Nat.blt k 274 with | true => (match Nat.blt k 271 with | true => (match Nat.beq k 270 with | true => some f270 | false => none) | false => (match Nat.blt k 272 with | true => (match Nat.beq k 271 with | true => some f271 | false => none) | false => (match Nat.beq k 272 with | true => some f272 | false => none))) | false => (match Nat.blt k 275 with | true => (match Nat.beq k 274 with | true => some f274 | false => none) | false => (match Nat.blt k 276 with | true => (match Nat.beq k 275 with | true => some f275 | false => none) | false => (match Nat.beq k 276 with | true => some f276 | false => none)))) | false => (match Nat.blt k 283 with | true => (match Nat.blt k 280 with | true => (match Nat.beq k 277 with | true => some f277 | false => none) | false => (match Nat.blt k 281 with | true => (match Nat.beq k 280 with | true => some f280 | false => none) | false => (match Nat.beq k 281 with | true => some f281 | false => none))) | false => (match Nat.blt k 284 with | true => (match Nat.beq k 283 with | true => some f283 | false => none) | false => (match Nat.blt k 285 with | true => (match Nat.beq k 284 with | true => some f284 | false => none) | false => (match Nat.beq k 285 with | true => some f285 | false => none))))))) | false => (match Nat.blt k 366 with | true => (match Nat.blt k 314 with | true => (match Nat.blt k 308 with | true => (match Nat.blt k 288 with | true => (match Nat.blt k 287 with | true => (match Nat.beq k 286 with | true => some f286 | false => none) | false => (match Nat.beq k 287 with | true => some f287 | false => none)) | false => (match Nat.blt k 304 with | true => (match Nat.beq k 288 with | true => some f288 | false => none) | false => (match Nat.blt k 307 with | true => (match Nat.beq k 304 with | true => some f304 | false => none) | false => (match Nat.beq k 307 with | true => some f307 | false => none)))) | false => (match Nat.blt k 311 with | true => (match Nat.blt k 309 with | true => (match Nat.beq k 308 with | true => some f308 | false => none) | false => (match Nat.blt k 310 with | true => (match Nat.beq k 309 with | true => some f309 | false => none) | false => (match Nat.beq k 310 with | true => some f310 | false => none))) | false => (match Nat.blt k 312 with | true => (match Nat.beq k 311 with | true => some f311 | false => none) | false => (match Nat.blt k 313 with | true => (match Nat.beq k 312 with | true => some f312 | false => none) | false => (match Nat.beq k 313 with | true => some f313 | false => none))))) | false => (match Nat.blt k 331 with | true => (match Nat.blt k 325 with | true => (match Nat.blt k 318 with | true => (match Nat.beq k 314 with | true => some f314 | false => none) | false => (match Nat.blt k 321 with | true => (match Nat.beq k 318 with | true => some f318 | false => none) | false => (match Nat.beq k 321 with | true => some f321 | false => none))) | false => (match Nat.blt k 329 with | true => (match Nat.beq k 325 with | true => some f325 | false => none) | false => (match Nat.blt k 330 with | true => (match Nat.beq k 329 with | true => some f329 | false => none) | false => (match Nat.beq k 330 with | true => some f330 | false => none)))) | false => (match Nat.blt k 352 with | true => (match Nat.blt k 337 with | true => (match Nat.beq k 331 with | true => some f331 | false => none) | false => (match Nat.blt k 351 with | true => (match Nat.beq k 337 with | true => some f337 | false => none) | false => (match Nat.beq k 351 with | true => some f351 | false => none))) | false => (match Nat.blt k 361 with | true => (match Nat.beq k 352 with | true => some f352 | false => none) | false => (match Nat.blt k 365 with | true => (match Nat.beq k 361 with | true => some f361 | false => none) | false => (match Nat.beq k 365 with | true => some f365 | false => none)))))) | false => (match Nat.blt k 387 with | true => (match Nat.blt k 372 with | true => (match Nat.blt k 369 with | true => (match Nat.blt k 368 with | true => (match Nat.beq k 366 with | true => some f366 | false => none) | false => (match Nat.beq k 368 with | true => some f368 | false => none)) | false => (match Nat.blt k 370 with | true => (match Nat.beq k 369 with | true => some f369 | false => none) | false => (match Nat.blt k 371 with | true => (match Nat.beq k 370 with | true => some f370 | false => none) | false => (match Nat.beq k 371 with | true => some f371 | false => none)))) | false => (match Nat.blt k 380 with | true => (match Nat.blt k 373 with | true => (match Nat.beq k 372 with | true => some f372 | false => none) | false => (match Nat.blt k 374 with | true => (match Nat.beq k 373 with | true => some f373 | false => none) | false => (match Nat.beq k 374 with | true => some f374 | false => none))) | false => (match Nat.blt k 385 with | true => (match Nat.beq k 380 with | true => some f380 | false => none) | false => (match Nat.blt k 386 with | true => (match Nat.beq k 385 with | true => some f385 | false => none) | false => (match Nat.beq k 386 with | true => some f386 | false => none))))) | false => (match Nat.blt k 393 with | true => (match Nat.blt k 390 with | true => (match Nat.blt k 388 with | true => (match Nat.beq k 387 with | true => some f387 | false => none) | false => (match Nat.blt k 389 with | true => (match Nat.beq k 388 with | true => some f388 | false => none) | false => (match Nat.beq k 389 with | true => some f389 | false => none))) | false => (match Nat.blt k 391 with | true => (match Nat.beq k 390 with | true => some f390 | false => none) | false => (match Nat.blt k 392 with | true => (match Nat.beq k 391 with | true => some f391 | false => none) | false => (match Nat.beq k 392 with | true => some f392 | false => none)))) | false => (match Nat.blt k 397 with | true => (match Nat.blt k 395 with | true => (match Nat.beq k 393 with | true => some f393 | false => none) | false => (match Nat.blt k 396 with | true => (match Nat.beq k 395 with | true => some f395 | false => none) | false => (match Nat.beq k 396 with | true => some f396 | false => none))) | false => (match Nat.blt k 398 with | true => (match Nat.beq k 397 with | true => some f397 | false => none) | false => (match Nat.blt k 399 with | true => (match Nat.beq k 398 with | true => some f398 | false => none) | false => (match Nat.beq k 399 with | true => some f399 | false => none)))))))) | false => (match Nat.blt k 457 with | true => (match Nat.blt k 426 with | true => (match Nat.blt k 413 with | true => (match Nat.blt k 405 with | true => (match Nat.blt k 402 with | true => (match Nat.blt k 401 with | true => (match Nat.beq k 400 with | true => some f400 | false => none) | false => (match Nat.beq k 401 with | true => some f401 | false => none)) | false => (match Nat.blt k 403 with | true => (match Nat.beq k 402 with | true => some f402 | false => none) | false => (match Nat.blt k 404 with | true => (match Nat.beq k 403 with | true => some f403 | false => none) | false => (match Nat.beq k 404 with | true => some f404 | false => none)))) | false => (match Nat.blt k 409 with | true => (match Nat.blt k 406 with | true => (match Nat.beq k 405 with | true => some f405 | false => none) | false => (match Nat.blt k 408 with | true => (match Nat.beq k 406 with | true => some f406 | false => none) | false => (match Nat.beq k 408 with | true => some f408 | false => none))) | false => (match Nat.blt k 410 with | true => (match Nat.beq k 409 with | true => some f409 | false => none) | false => (match Nat.blt k 411 with | true => (match Nat.beq k 410 with | true => some f410 | false => none) | false => (match Nat.beq k 411 with | true => some f411 | false => none))))) | false => (match Nat.blt k 420 with | true => (match Nat.blt k 416 with | true => (match Nat.blt k 414 with | true => (match Nat.beq k 413 with | true => some f413 | false => none) | false => (match Nat.blt k 415 with | true => (match Nat.beq k 414 with | true => some f414 | false => none) | false => (match Nat.beq k 415 with | true => some f415 | false => none))) | false => (match Nat.blt k 417 with | true => (match Nat.beq k 416 with | true => some f416 | false => none) | false => (match Nat.blt k 418 with | true => (match Nat.beq k 417 with | true => some f417 | false => none) | false => (match Nat.beq k 418 with | true => some f418 | false => none)))) | false => (match Nat.blt k 423 with | true => (match Nat.blt k 421 with | true => (match Nat.beq k 420 with | true => some f420 | false => none) | false => (match Nat.blt k 422 with | true => (match Nat.beq k 421 with | true => some f421 | false => none) | false => (match Nat.beq k 422 with | true => some f422 | false => none))) | false => (match Nat.blt k 424 with | true => (match Nat.beq k 423 with | true => some f423 | false => none) | false => (match Nat.blt k 425 with | true => (match Nat.beq k 424 with | true => some f424 | false => none) | false => (match Nat.beq k 425 with | true => some f425 | false => none)))))) | false => (match Nat.blt k 438 with | true => (match Nat.blt k 432 with | true => (match Nat.blt k 428 with | true => (match Nat.blt k 427 with | true => (match Nat.beq k 426 with | true => some f426 | false => none) | false => (match Nat.beq k 427 with | true => some f427 | false => none)) | false => (match Nat.blt k 430 with | true => (match Nat.beq k 428 with | true => some f428 | false => none) | false => (match Nat.blt k 431 with | true => (match Nat.beq k 430 with | true => some f430 | false => none) | false => (match Nat.beq k 431 with | true => some f431 | false => none)))) | false => (match Nat.blt k 435 with | true => (match Nat.blt k 433 with | true => (match Nat.beq k 432 with | true => some f432 | false => none) | false => (match Nat.blt k 434 with | true => (match Nat.beq k 433 with | true => some f433 | false => none) | false => (match Nat.beq k 434 with | true => some f434 | false => none))) | false => (match Nat.blt k 436 with | true => (match Nat.beq k 435 with | true => some f435 | false => none) | false => (match Nat.blt k 437 with | true => (match Nat.beq k 436 with | true => some f436 | false => none) | false => (match Nat.beq k 437 with | true => some f437 | false => none))))) | false => (match Nat.blt k 447 with | true => (match Nat.blt k 444 with | true => (match Nat.blt k 439 with | true => (match Nat.beq k 438 with | true => some f438 | false => none) | false => (match Nat.blt k 441 with | true => (match Nat.beq k 439 with | true => some f439 | false => none) | false => (match Nat.beq k 441 with | true => some f441 | false => none))) | false => (match Nat.blt k 445 with | true => (match Nat.beq k 444 with | true => some f444 | false => none) | false => (match Nat.blt k 446 with | true => (match Nat.beq k 445 with | true => some f445 | false => none) | false => (match Nat.beq k 446 with | true => some f446 | false => none)))) | false => (match Nat.blt k 453 with | true => (match Nat.blt k 449 with | true => (match Nat.beq k 447 with | true => some f447 | false => none) | false => (match Nat.blt k 451 with | true => (match Nat.beq k 449 with | true => some f449 | false => none) | false => (match Nat.beq k 451 with | true => some f451 | false => none))) | false => (match Nat.blt k 455 with | true => (match Nat.beq k 453 with | true => some f453 | false => none) | false => (match Nat.blt k 456 with | true => (match Nat.beq k 455 with | true => some f455 | false => none) | false => (match Nat.beq k 456 with | true => some f456 | false => none))))))) | false => (match Nat.blt k 484 with | true => (match Nat.blt k 471 with | true => (match Nat.blt k 465 with | true => (match Nat.blt k 460 with | true => (match Nat.blt k 459 with | true => (match Nat.beq k 457 with | true => some f457 | false => none) | false => (match Nat.beq k 459 with | true => some f459 | false => none)) | false => (match Nat.blt k 462 with | true => (match Nat.beq k 460 with | true => some f460 | false => none) | false => (match Nat.blt k 463 with | true => (match Nat.beq k 462 with | true => some f462 | false => none) | false => (match Nat.beq k 463 with | true => some f463 | false => none)))) | false => (match Nat.blt k 468 with | true => (match Nat.blt k 466 with | true => (match Nat.beq k 465 with | true => some f465 | false => none) | false => (match Nat.blt k 467 with | true => (match Nat.beq k 466 with | true => some f466 | false => none) | false => (match Nat.beq k 467 with | true => some f467 | false => none))) | false => (match Nat.blt k 469 with | true => (match Nat.beq k 468 with | true => some f468 | false => none) | false => (match Nat.blt k 470 with | true => (match Nat.beq k 469 with | true => some f469 | false => none) | false => (match Nat.beq k 470 with | true => some f470 | false => none))))) | false => (match Nat.blt k 478 with | true => (match Nat.blt k 475 with | true => (match Nat.blt k 472 with | true => (match Nat.beq k 471 with | true => some f471 | false => none) | false => (match Nat.blt k 474 with | true => (match Nat.beq k 472 with | true => some f472 | false => none) | false => (match Nat.beq k 474 with | true => some f474 | false => none))) | false => (match Nat.blt k 476 with | true => (match Nat.beq k 475 with | true => some f475 | false => none) | false => (match Nat.blt k 477 with | true => (match Nat.beq k 476 with | true => some f476 | false => none) | false => (match Nat.beq k 477 with | true => some f477 | false => none)))) | false => (match Nat.blt k 481 with | true => (match Nat.blt k 479 with | true => (match Nat.beq k 478 with | true => some f478 | false => none) | false => (match Nat.blt k 480 with | true => (match Nat.beq k 479 with | true => some f479 | false => none) | false => (match Nat.beq k 480 with | true => some f480 | false => none))) | false => (match Nat.blt k 482 with | true => (match Nat.beq k 481 with | true => some f481 | false => none) | false => (match Nat.blt k 483 with | true => (match Nat.beq k 482 with | true => some f482 | false => none) | false => (match Nat.beq k 483 with | true => some f483 | false => none)))))) | false => (match Nat.blt k 497 with | true => (match Nat.blt k 491 with | true => (match Nat.blt k 487 with | true => (match Nat.blt k 485 with | true => (match Nat.beq k 484 with | true => some f484 | false => none) | false => (match Nat.beq k 485 with | true => some f485 | false => none)) | false => (match Nat.blt k 488 with | true => (match Nat.beq k 487 with | true => some f487 | false => none) | false => (match Nat.blt k 489 with | true => (match Nat.beq k 488 with | true => some f488 | false => none) | false => (match Nat.beq k 489 with | true => some f489 | false => none)))) | false => (match Nat.blt k 494 with | true => (match Nat.blt k 492 with | true => (match Nat.beq k 491 with | true => some f491 | false => none) | false => (match Nat.blt k 493 with | true => (match Nat.beq k 492 with | true => some f492 | false => none) | false => (match Nat.beq k 493 with | true => some f493 | false => none))) | false => (match Nat.blt k 495 with | true => (match Nat.beq k 494 with | true => some f494 | false => none) | false => (match Nat.blt k 496 with | true => (match Nat.beq k 495 with | true => some f495 | false => none) | false => (match Nat.beq k 496 with | true => some f496 | false => none))))) | false => (match Nat.blt k 503 with | true => (match Nat.blt k 500 with | true => (match Nat.blt k 498 with | true => (match Nat.beq k 497 with | true => some f497 | false => none) | false => (match Nat.blt k 499 with | true => (match Nat.beq k 498 with | true => some f498 | false => none) | false => (match Nat.beq k 499 with | true => some f499 | false => none))) | false => (match Nat.blt k 501 with | true => (match Nat.beq k 500 with | true => some f500 | false => none) | false => (match Nat.blt k 502 with | true => (match Nat.beq k 501 with | true => some f501 | false => none) | false => (match Nat.beq k 502 with | true => some f502 | false => none)))) | false => (match Nat.blt k 506 with | true => (match Nat.blt k 504 with | true => (match Nat.beq k 503 with | true => some f503 | false => none) | false => (match Nat.blt k 505 with | true => (match Nat.beq k 504 with | true => some f504 | false => none) | false => (match Nat.beq k 505 with | true => some f505 | false => none))) | false => (match Nat.blt k 507 with | true => (match Nat.beq k 506 with | true => some f506 | false => none) | false => (match Nat.blt k 508 with | true => (match Nat.beq k 507 with | true => some f507 | false => none) | false => (match Nat.beq k 508 with | true => some f508 | false => none))))))))))
def glob (k : Nat) : Option D := (match Nat.blt k 38 with | true => (match Nat.blt k 19 with | true => (match Nat.blt k 9 with | true => (match Nat.blt k 4 with | true => (match Nat.blt k 2 with | true => (match Nat.blt k 1 with | true => (match Nat.beq k 0 with | true => some (.int 1000000) | false => none) | false => (match Nat.beq k 1 with | true => some (.int 60) | false => none)) | false => (match Nat.blt k 3 with | true => (match Nat.beq k 2 with | true => some (.int 20) | false => none) | false => (match Nat.beq k 3 with | true => some (.tuple [(.int 0), (.int 1)]) | false => none))) | false => (match Nat.blt k 6 with | true => (match Nat.blt k 5 with | true => (match Nat.beq k 4 with | true => some (.int 1000) | false => none) | false => (match Nat.beq k 5 with | true => some (.int 200) | false => none)) | false => (match Nat.blt k 7 with | true => (match Nat.beq k 6 with | true => some (.int 2000) | false => none) | false => (match Nat.blt k 8 with | true => (match Nat.beq k 7 with | true => some (.int 24) | false => none) | false => (match Nat.beq k 8 with | true => some (.int 60) | false => none))))) | false => (match Nat.blt k 14 with | true => (match Nat.blt k 11 with | true => (match Nat.blt k 10 with | true => (match Nat.beq k 9 with | true => some (.int 1000000) | false => none) | false => (match Nat.beq k 10 with | true => some (.int 20) | false => none)) | false => (match Nat.blt k 12 with | true => (match Nat.beq k 11 with | true => some (.tuple [(.int 1), (.int 1)]) | false => none) | false => (match Nat.blt k 13 with | true => (match Nat.beq k 12 with | true => some (.int 200) | false => none) | false => (match Nat.beq k 13 with | true => some (.str "r") | false => none)))) | false => (match Nat.blt k 16 with | true => (match Nat.blt k 15 with | true => (match Nat.beq k 14 with | true => some (.int 200) | false => none) | false => (match Nat.beq k 15 with | true => some (.str "l") | false => none)) | false => (match Nat.blt k 17 with | true => (match Nat.beq k 16 with | true => some (.int 1000000) | false => none) | false => (match Nat.blt k 18 with | true => (match Nat.beq k 17 with | true => some (.int 1000000) | false => none) | false => (match Nat.beq k 18 with | true => some (.int 200) | false => none)))))) | false => (match Nat.blt k 28 with | true => (match Nat.blt k 23 with | true => (match Nat.blt k 21 with | true => (match Nat.blt k 20 with | true => (match Nat.beq k 19 with | true => some (.str "lens") | false => none) | false => (match Nat.beq k 20 with | true => some (.str "book") | false => none)) | false => (match Nat.blt k 22 with | true => (match Nat.beq k 21 with | true => some (.int 60) | false => none) | false => (match Nat.beq k 22 with | true => some (.int 1000000) | false => none))) | false => (match Nat.blt k 25 with | true => (match Nat.blt k 24 with | true => (match Nat.beq k 23 with | true => some (.int 24) | false => none) | false => (match Nat.beq k 24 with | true => some (.int 5000) | false => none)) | false => (match Nat.blt k 26 with | true => (match Nat.beq k 25 with | true => some (.tuple [(.tuple [(.str "wide"), (.str "flat"), (.str "tube")]), (.tuple [(.str "leaned wide"), (.str "leaned flat"), (.str "ball")])]) | false => none) | false => (match Nat.blt k 27 with | true => (match Nat.beq k 26 with | true => some (.int 1000000) | false => none) | false => (match Nat.beq k 27 with | true => some (.int 2000) | false => none))))) | false => (match Nat.blt k 33 with | true => (match Nat.blt k 30 with | true => (match Nat.blt k 29 with | true => (match Nat.beq k 28 with | true => some (.int 30) | false => none) | false => (match Nat.beq k 29 with | true => some (.int 2000) | false => none)) | false => (match Nat.blt k 31 with | true => (match Nat.beq k 30 with | true => some (.int 8000) | false => none) | false => (match Nat.blt k 32 with | true => (match Nat.beq k 31 with | true => some (.str "put") | false => none) | false => (match Nat.beq k 32 with | true => some (.str "drop") | false => none)))) | false => (match Nat.blt k 35 with | true => (match Nat.blt k 34 with | true => (match Nat.beq k 33 with | true => some (.str "swap") | false => none) | false => (match Nat.beq k 34 with | true => some (.str "shift") | false => none)) | false => (match Nat.blt k 36 with | true => (match Nat.beq k 35 with | true => some (.int 1000000) | false => none) | false => (match Nat.blt k 37 with | true => (match Nat.beq k 36 with | true => some (.int 1000000) | false => none) | false => (match Nat.beq k 37 with | true => some (.int 24) | false => none))))))) | false => (match Nat.blt k 57 with | true => (match Nat.blt k 47 with | true => (match Nat.blt k 42 with | true => (match Nat.blt k 40 with | true => (match Nat.blt k 39 with | true => (match Nat.beq k 38 with | true => some (.int 1000000) | false => none) | false => (match Nat.beq k 39 with | true => some (.int 1000000000000) | false => none)) | false => (match Nat.blt k 41 with | true => (match Nat.beq k 40 with | true => some (.tuple [(.tuple [(.str "tubes"), (.int 3)]), (.tuple [(.str "room"), (.int 3)]), (.tuple [(.str "lens"), (.int 3)]), (.tuple [(.str "twins"), (.int 3)]), (.tuple [(.str "sphere"), (.int 2)]), (.tuple [(.str "unfolds"), (.int 3)]), (.tuple [(.str "mirror"), (.int 2)]), (.tuple [(.str "finite"), (.int 2)])]) | false => none) | false => (match Nat.beq k 41 with | true => some (.int 1000) | false => none))) | false => (match Nat.blt k 44 with | true => (match Nat.blt k 43 with | true => (match Nat.beq k 42 with | true => some (.str "sum") | false => none) | false => (match Nat.beq k 43 with | true => some (.str "lens") | false => none)) | false => (match Nat.blt k 45 with | true => (match Nat.beq k 44 with | true => some (.str "book") | false => none) | false => (match Nat.blt k 46 with | true => (match Nat.beq k 45 with | true => some (.tuple [(.tuple [(.str "above"), (.int 2)]), (.tuple [(.str "odd"), (.int 2)]), (.tuple [(.str "star"), (.int 2)]), (.tuple [(.str "whole"), (.int 2)]), (.tuple [(.str "smooth"), (.int 2)]), (.tuple [(.str "cut"), (.int 4)]), (.tuple [(.str "road"), (.int 3)])]) | false => none) | false => (match Nat.beq k 46 with | true => some (.tuple [(.str "book"), (.str "lens"), (.str "sum")]) | false => none))))) | false => (match Nat.blt k 52 with | true => (match Nat.blt k 49 with | true => (match Nat.blt k 48 with | true => (match Nat.beq k 47 with | true => some (.int 1000000) | false => none) | false => (match Nat.beq k 48 with | true => some (.int 1000000) | false => none)) | false => (match Nat.blt k 50 with | true => (match Nat.beq k 49 with | true => some (.str "abcdefghijklmnopqrstuvwxyz0123456789-") | false => none) | false => (match Nat.blt k 51 with | true => (match Nat.beq k 50 with | true => some (.str "#") | false => none) | false => (match Nat.beq k 51 with | true => some (.int 31) | false => none)))) | false => (match Nat.blt k 54 with | true => (match Nat.blt k 53 with | true => (match Nat.beq k 52 with | true => some (.str "0123456789") | false => none) | false => (match Nat.beq k 53 with | true => some (.str "-") | false => none)) | false => (match Nat.blt k 55 with | true => (match Nat.beq k 54 with | true => some (.int 20) | false => none) | false => (match Nat.blt k 56 with | true => (match Nat.beq k 55 with | true => some (.int 2000) | false => none) | false => (match Nat.beq k 56 with | true => some (.int 1000000) | false => none)))))) | false => (match Nat.blt k 66 with | true => (match Nat.blt k 61 with | true => (match Nat.blt k 59 with | true => (match Nat.blt k 58 with | true => (match Nat.beq k 57 with | true => some (.int 60) | false => none) | false => (match Nat.beq k 58 with | true => some (.int 200) | false => none)) | false => (match Nat.blt k 60 with | true => (match Nat.beq k 59 with | true => some (.int 2000) | false => none) | false => (match Nat.beq k 60 with | true => some (.int 1000000) | false => none))) | false => (match Nat.blt k 63 with | true => (match Nat.blt k 62 with | true => (match Nat.beq k 61 with | true => some (.int 2000) | false => none) | false => (match Nat.beq k 62 with | true => some (.int 4) | false => none)) | false => (match Nat.blt k 64 with | true => (match Nat.beq k 63 with | true => some (.int 2000) | false => none) | false => (match Nat.blt k 65 with | true => (match Nat.beq k 64 with | true => some (.str "down") | false => none) | false => (match Nat.beq k 65 with | true => some (.str "up") | false => none))))) | false => (match Nat.blt k 71 with | true => (match Nat.blt k 68 with | true => (match Nat.blt k 67 with | true => (match Nat.beq k 66 with | true => some (.str "between") | false => none) | false => (match Nat.beq k 67 with | true => some (.int 2000) | false => none)) | false => (match Nat.blt k 69 with | true => (match Nat.beq k 68 with | true => some (.int 1000000) | false => none) | false => (match Nat.blt k 70 with | true => (match Nat.beq k 69 with | true => some (.int 5000) | false => none) | false => (match Nat.beq k 70 with | true => some (.int 2000) | false => none)))) | false => (match Nat.blt k 73 with | true => (match Nat.blt k 72 with | true => (match Nat.beq k 71 with | true => some (.int 5) | false => none) | false => (match Nat.beq k 72 with | true => some (.int 5000) | false => none)) | false => (match Nat.blt k 74 with | true => (match Nat.beq k 73 with | true => some (.int 6) | false => none) | false => (match Nat.blt k 75 with | true => (match Nat.beq k 74 with | true => some (.int 20000) | false => none) | false => (match Nat.beq k 75 with | true => some (.int 60) | false => none))))))))
def P : Prg := ⟨tbl, glob, 1000000⟩
end Tr

set_option Elab.async false
set_option linter.all false
set_option maxRecDepth 100000
set_option maxHeartbeats 0
/-! PyK61: the head of law_k61_main_saws_steps_and_worths (printed by gen.py). -/
namespace K61
open PySem PySem.Spec PyProof.Rows L2 Ev EvS
def top (i : Nat) : Stmt := PySem.Challenge.pw_tubedrooms_k61_main_saws_steps_and_worth.main.body.getD i (.Pass ⟨0, 0, 0, 0⟩)
def names0 : List (Nat × Str) := [(0, "is_number"), (1, "is_within"), (5, "is_sized"), (4, "is_long"), (2, "tupled"), (28, "product"), (157, "sign_of"), (3, "lowest"), (7, "plus"), (25, "minus_share"), (23, "times"), (52, "total"), (59, "is_less"), (6, "is_tube"), (8, "is_book_of"), (11, "lean_by"), (10, "sure_book"), (27, "back_by"), (194, "is_lens_of"), (76, "lens_by"), (85, "least_lens"), (451, "mirror_by"), (195, "sure_lens"), (453, "lens_mirrored"), (482, "is_own_mirror"), (370, "sum_added"), (160, "sum_by"), (369, "sure_below"), (368, "sure_number"), (371, "saw")]
def names1 : List (Nat × Str) := [(478, "saw_added"), (481, "saw_exchange"), (380, "lens_by_saw"), (161, "worth_by"), (401, "lens_worth"), (176, "worth"), (437, "mean_worth"), (372, "step_by"), (373, "steps_by"), (385, "in_order"), (374, "sure_short"), (480, "lens_steps"), (403, "steps_in_order"), (479, "step_sum"), (477, "_law_box"), (43, "_law_take"), (50, "_law_cells"), (71, "_law_of"), (263, "_law_pick"), (44, "_law_same"), (45, "_law_gcd"), (46, "_law_low"), (47, "_law_plus"), (72, "_law_times"), (61, "_law_minus"), (48, "_law_total"), (101, "_law_units"), (400, "_law_saw"), (506, "law")]
def names : List (Nat × Str) := names0 ++ names1
def consts : List (Nat × Str) := [(0, "GREATEST_books"), (1, "HANDLES"), (2, "MANY"), (3, "NONE"), (36, "GREATEST_lenses"), (68, "GREATEST_saws"), (69, "ADDED"), (70, "MOST")]
def free : List Str := ["abs", "all", "bool", "enumerate", "int", "isinstance", "len", "list", "min", "range", "str", "tuple", "zip"]
def R : Ren := ⟨fun k => (names.lookup k).getD "", fun k => (names.lookup k).isSome, fun k => (consts.lookup k).getD "", fun k => (consts.lookup k).isSome, fun _ => "", fun _ => false, free, true⟩
def d0 : He.DefD := ⟨("is_number", none), "is_number", "is_number", defArgs (top 6), defBody (top 6), defScope (top 6), [], []⟩
def t0 : Tx := ⟨0, d0, ["thing"], ["thing"]⟩
def d1 : He.DefD := ⟨("is_within", none), "is_within", "is_within", defArgs (top 7), defBody (top 7), defScope (top 7), [], []⟩
def t1 : Tx := ⟨1, d1, ["thing", "least", "most"], ["thing", "least", "most"]⟩
def d5 : He.DefD := ⟨("is_sized", none), "is_sized", "is_sized", defArgs (top 8), defBody (top 8), defScope (top 8), [], []⟩
def t5 : Tx := ⟨5, d5, ["thing", "most"], ["thing", "most"]⟩
def d4 : He.DefD := ⟨("is_long", none), "is_long", "is_long", defArgs (top 9), defBody (top 9), defScope (top 9), [], []⟩
def t4 : Tx := ⟨4, d4, ["thing", "length"], ["thing", "length"]⟩
def d2 : He.DefD := ⟨("tupled", none), "tupled", "tupled", defArgs (top 10), defBody (top 10), defScope (top 10), [], []⟩
def t2 : Tx := ⟨2, d2, ["value", "own"], ["value"]⟩
def d28 : He.DefD := ⟨("product", none), "product", "product", defArgs (top 11), defBody (top 11), defScope (top 11), [], []⟩
def t28 : Tx := ⟨28, d28, ["numbers", "found", "own"], ["numbers"]⟩
def d157 : He.DefD := ⟨("sign_of", none), "sign_of", "sign_of", defArgs (top 12), defBody (top 12), defScope (top 12), [], []⟩
def t157 : Tx := ⟨157, d157, ["number"], ["number"]⟩
def d3 : He.DefD := ⟨("lowest", none), "lowest", "lowest", defArgs (top 15), defBody (top 15), defScope (top 15), [], []⟩
def t3 : Tx := ⟨3, d3, ["above", "below", "shared"], ["above", "below"]⟩
def d7 : He.DefD := ⟨("plus", none), "plus", "plus", defArgs (top 16), defBody (top 16), defScope (top 16), [], []⟩
def t7 : Tx := ⟨7, d7, ["one", "other"], ["one", "other"]⟩
def d25 : He.DefD := ⟨("minus_share", none), "minus_share", "minus_share", defArgs (top 17), defBody (top 17), defScope (top 17), [], []⟩
def t25 : Tx := ⟨25, d25, ["one", "other"], ["one", "other"]⟩
def d23 : He.DefD := ⟨("times", none), "times", "times", defArgs (top 18), defBody (top 18), defScope (top 18), [], []⟩
def t23 : Tx := ⟨23, d23, ["one", "other"], ["one", "other"]⟩
def d52 : He.DefD := ⟨("total", none), "total", "total", defArgs (top 19), defBody (top 19), defScope (top 19), [], []⟩
def t52 : Tx := ⟨52, d52, ["fractions", "found", "own"], ["fractions"]⟩
def d59 : He.DefD := ⟨("is_less", none), "is_less", "is_less", defArgs (top 20), defBody (top 20), defScope (top 20), [], []⟩
def t59 : Tx := ⟨59, d59, ["one", "other"], ["one", "other"]⟩
def d6 : He.DefD := ⟨("is_tube", none), "is_tube", "is_tube", defArgs (top 25), defBody (top 25), defScope (top 25), [], []⟩
def t6 : Tx := ⟨6, d6, ["thing"], ["thing"]⟩
def d8 : He.DefD := ⟨("is_book_of", none), "is_book_of", "is_book_of", defArgs (top 26), defBody (top 26), defScope (top 26), [], []⟩
def t8 : Tx := ⟨8, d8, ["thing", "own"], ["thing"]⟩
def d11 : He.DefD := ⟨("lean_by", none), "lean_by", "lean_by", defArgs (top 27), defBody (top 27), defScope (top 27), [], []⟩
def t11 : Tx := ⟨11, d11, ["book", "found", "above", "below"], ["book"]⟩
def d10 : He.DefD := ⟨("sure_book", none), "sure_book", "sure_book", defArgs (top 28), defBody (top 28), defScope (top 28), [], []⟩
def t10 : Tx := ⟨10, d10, ["thing", "book"], ["thing"]⟩
def d27 : He.DefD := ⟨("back_by", none), "back_by", "back_by", defArgs (top 30), defBody (top 30), defScope (top 30), [], []⟩
def t27 : Tx := ⟨27, d27, ["number", "below", "one", "other", "near", "far", "times"], ["number", "below"]⟩
def d194 : He.DefD := ⟨("is_lens_of", none), "is_lens_of", "is_lens_of", defArgs (top 33), defBody (top 33), defScope (top 33), [], []⟩
def t194 : Tx := ⟨194, d194, ["thing", "own"], ["thing"]⟩
def d76 : He.DefD := ⟨("lens_by", none), "lens_by", "lens_by", defArgs (top 34), defBody (top 34), defScope (top 34), [], []⟩
def t76 : Tx := ⟨76, d76, ["above", "below", "sign"], ["above", "below"]⟩
def d85 : He.DefD := ⟨("least_lens", none), "least_lens", "least_lens", defArgs (top 35), defBody (top 35), defScope (top 35), [], []⟩
def t85 : Tx := ⟨85, d85, ["lens"], ["lens"]⟩
def d451 : He.DefD := ⟨("mirror_by", none), "mirror_by", "mirror_by", defArgs (top 36), defBody (top 36), defScope (top 36), [], []⟩
def t451 : Tx := ⟨451, d451, ["lens"], ["lens"]⟩
def d195 : He.DefD := ⟨("sure_lens", none), "sure_lens", "sure_lens", defArgs (top 37), defBody (top 37), defScope (top 37), [], []⟩
def t195 : Tx := ⟨195, d195, ["thing", "lens"], ["thing"]⟩
def d453 : He.DefD := ⟨("lens_mirrored", none), "lens_mirrored", "lens_mirrored", defArgs (top 38), defBody (top 38), defScope (top 38), [], []⟩
def t453 : Tx := ⟨453, d453, ["lens"], ["lens"]⟩
def d482 : He.DefD := ⟨("is_own_mirror", none), "is_own_mirror", "is_own_mirror", defArgs (top 39), defBody (top 39), defScope (top 39), [], []⟩
def t482 : Tx := ⟨482, d482, ["lens", "own"], ["lens"]⟩
def d370 : He.DefD := ⟨("sum_added", none), "sum_added", "sum_added", defArgs (top 43), defBody (top 43), defScope (top 43), [], []⟩
def t370 : Tx := ⟨370, d370, ["number", "below", "found", "own", "far"], ["number", "below"]⟩
def d160 : He.DefD := ⟨("sum_by", none), "sum_by", "sum_by", defArgs (top 44), defBody (top 44), defScope (top 44), [], []⟩
def t160 : Tx := ⟨160, d160, ["number", "below", "found", "sign", "one", "other", "part"], ["number", "below"]⟩
def d369 : He.DefD := ⟨("sure_below", none), "sure_below", "sure_below", defArgs (top 45), defBody (top 45), defScope (top 45), [], []⟩
def t369 : Tx := ⟨369, d369, ["thing"], ["thing"]⟩
def d368 : He.DefD := ⟨("sure_number", none), "sure_number", "sure_number", defArgs (top 46), defBody (top 46), defScope (top 46), [], []⟩
def t368 : Tx := ⟨368, d368, ["thing"], ["thing"]⟩
def d371 : He.DefD := ⟨("saw", none), "saw", "saw", defArgs (top 47), defBody (top 47), defScope (top 47), [], []⟩
def t371 : Tx := ⟨371, d371, ["number", "below", "own", "most"], ["number", "below"]⟩
def d478 : He.DefD := ⟨("saw_added", none), "saw_added", "saw_added", defArgs (top 48), defBody (top 48), defScope (top 48), [], []⟩
def t478 : Tx := ⟨478, d478, ["number", "below", "own", "most"], ["number", "below"]⟩
def d481 : He.DefD := ⟨("saw_exchange", none), "saw_exchange", "saw_exchange", defArgs (top 49), defBody (top 49), defScope (top 49), [], []⟩
def t481 : Tx := ⟨481, d481, ["one", "other", "near", "far"], ["one", "other"]⟩
def d380 : He.DefD := ⟨("lens_by_saw", none), "lens_by_saw", "lens_by_saw", defArgs (top 51), defBody (top 51), defScope (top 51), [], []⟩
def t380 : Tx := ⟨380, d380, ["lens"], ["lens"]⟩
def d161 : He.DefD := ⟨("worth_by", none), "worth_by", "worth_by", defArgs (top 52), defBody (top 52), defScope (top 52), [], []⟩
def t161 : Tx := ⟨161, d161, ["book", "squares", "first", "second", "teeth", "third", "tubes", "size", "sign", "length", "above", "below"], ["book"]⟩
def d401 : He.DefD := ⟨("lens_worth", none), "lens_worth", "lens_worth", defArgs (top 53), defBody (top 53), defScope (top 53), [], []⟩
def t401 : Tx := ⟨401, d401, ["lens", "own"], ["lens"]⟩
def d176 : He.DefD := ⟨("worth", none), "worth", "worth", defArgs (top 54), defBody (top 54), defScope (top 54), [], []⟩
def t176 : Tx := ⟨176, d176, ["book", "own"], ["book"]⟩
def d437 : He.DefD := ⟨("mean_worth", none), "mean_worth", "mean_worth", defArgs (top 55), defBody (top 55), defScope (top 55), [], []⟩
def t437 : Tx := ⟨437, d437, ["book", "own", "size", "many", "above", "below"], ["book"]⟩
def d372 : He.DefD := ⟨("step_by", none), "step_by", "step_by", defArgs (top 58), defBody (top 58), defScope (top 58), [], []⟩
def t372 : Tx := ⟨372, d372, ["lens", "number", "found", "sign", "above", "below", "at", "own"], ["lens", "number"]⟩
def d373 : He.DefD := ⟨("steps_by", none), "steps_by", "steps_by", defArgs (top 59), defBody (top 59), defScope (top 59), [], []⟩
def t373 : Tx := ⟨373, d373, ["lens", "number"], ["lens"]⟩
def d385 : He.DefD := ⟨("in_order", none), "in_order", "in_order", defArgs (top 60), defBody (top 60), defScope (top 60), [], []⟩
def t385 : Tx := ⟨385, d385, ["shares", "found", "own", "place", "its"], ["shares"]⟩
def d374 : He.DefD := ⟨("sure_short", none), "sure_short", "sure_short", defArgs (top 61), defBody (top 61), defScope (top 61), [], []⟩
def t374 : Tx := ⟨374, d374, ["thing", "lens"], ["thing"]⟩
def d480 : He.DefD := ⟨("lens_steps", none), "lens_steps", "lens_steps", defArgs (top 62), defBody (top 62), defScope (top 62), [], []⟩
def t480 : Tx := ⟨480, d480, ["lens"], ["lens"]⟩
def d403 : He.DefD := ⟨("steps_in_order", none), "steps_in_order", "steps_in_order", defArgs (top 63), defBody (top 63), defScope (top 63), [], []⟩
def t403 : Tx := ⟨403, d403, ["lens"], ["lens"]⟩
def d479 : He.DefD := ⟨("step_sum", none), "step_sum", "step_sum", defArgs (top 64), defBody (top 64), defScope (top 64), [], []⟩
def t479 : Tx := ⟨479, d479, ["lens"], ["lens"]⟩
def d477 : He.DefD := ⟨("_law_box", none), "_law_box", "_law_box", defArgs (top 66), defBody (top 66), defScope (top 66), [], []⟩
def t477 : Tx := ⟨477, d477, ["script", "k", "bit_so"], ["script", "k"]⟩
def d43 : He.DefD := ⟨("_law_take", none), "_law_take", "_law_take", defArgs (top 67), defBody (top 67), defScope (top 67), [], []⟩
def t43 : Tx := ⟨43, d43, ["tin", "below_so", "once_so", "wide_so", "twice_so", "drawn_so"], ["tin", "below_so"]⟩
def d50 : He.DefD := ⟨("_law_cells", none), "_law_cells", "_law_cells", defArgs (top 68), defBody (top 68), defScope (top 68), [], []⟩
def t50 : Tx := ⟨50, d50, ["script", "most_so", "cells_so", "k", "bit_so", "at_so"], ["script", "most_so"]⟩
def d71 : He.DefD := ⟨("_law_of", none), "_law_of", "_law_of", defArgs (top 69), defBody (top 69), defScope (top 69), [], []⟩
def t71 : Tx := ⟨71, d71, ["tin", "goods_so"], ["tin", "goods_so"]⟩
def d263 : He.DefD := ⟨("_law_pick", none), "_law_pick", "_law_pick", defArgs (top 70), defBody (top 70), defScope (top 70), [], []⟩
def t263 : Tx := ⟨263, d263, ["tin", "goods_so", "count_so", "lap", "pool_so", "found"], ["tin", "goods_so", "count_so"]⟩
def d44 : He.DefD := ⟨("_law_same", none), "_law_same", "_law_same", defArgs (top 71), defBody (top 71), defScope (top 71), [], []⟩
def t44 : Tx := ⟨44, d44, ["got", "due", "mine", "its"], ["got", "due"]⟩
def d45 : He.DefD := ⟨("_law_gcd", none), "_law_gcd", "_law_gcd", defArgs (top 72), defBody (top 72), defScope (top 72), [], []⟩
def t45 : Tx := ⟨45, d45, ["one", "two"], ["one", "two"]⟩
def d46 : He.DefD := ⟨("_law_low", none), "_law_low", "_law_low", defArgs (top 73), defBody (top 73), defScope (top 73), [], []⟩
def t46 : Tx := ⟨46, d46, ["above_so", "below_so", "both_so"], ["above_so", "below_so"]⟩
def d47 : He.DefD := ⟨("_law_plus", none), "_law_plus", "_law_plus", defArgs (top 74), defBody (top 74), defScope (top 74), [], []⟩
def t47 : Tx := ⟨47, d47, ["one", "two"], ["one", "two"]⟩
def d72 : He.DefD := ⟨("_law_times", none), "_law_times", "_law_times", defArgs (top 75), defBody (top 75), defScope (top 75), [], []⟩
def t72 : Tx := ⟨72, d72, ["one", "two"], ["one", "two"]⟩
def d61 : He.DefD := ⟨("_law_minus", none), "_law_minus", "_law_minus", defArgs (top 76), defBody (top 76), defScope (top 76), [], []⟩
def t61 : Tx := ⟨61, d61, ["one", "two"], ["one", "two"]⟩
def d48 : He.DefD := ⟨("_law_total", none), "_law_total", "_law_total", defArgs (top 77), defBody (top 77), defScope (top 77), [], []⟩
def t48 : Tx := ⟨48, d48, ["shares_so", "found", "own"], ["shares_so"]⟩
def d101 : He.DefD := ⟨("_law_units", none), "_law_units", "_law_units", defArgs (top 78), defBody (top 78), defScope (top 78), [], []⟩
def t101 : Tx := ⟨101, d101, ["below", "own"], ["below"]⟩
def d400 : He.DefD := ⟨("_law_saw", none), "_law_saw", "_law_saw", defArgs (top 79), defBody (top 79), defScope (top 79), [], []⟩
def t400 : Tx := ⟨400, d400, ["number", "below", "found", "own", "far_so"], ["number", "below"]⟩
def d506 : He.DefD := ⟨("law", none), "law", "law", defArgs (top 80), defBody (top 80), defScope (top 80), [], []⟩
def t506 : Tx := ⟨506, d506, ["script", "tin", "lap", "first_so", "lens_so", "saw_so", "sum_so", "got", "steps_so", "back_so", "far_so", "rise_so", "mirror_so", "small_so", "i", "square_so", "due"], ["script"]⟩
theorem c0 : t0.ok Tr.P R = true := by kernel_rfl
theorem c1 : t1.ok Tr.P R = true := by kernel_rfl
theorem c5 : t5.ok Tr.P R = true := by kernel_rfl
theorem c4 : t4.ok Tr.P R = true := by kernel_rfl
theorem c2 : t2.ok Tr.P R = true := by kernel_rfl
theorem c28 : t28.ok Tr.P R = true := by kernel_rfl
theorem c157 : t157.ok Tr.P R = true := by kernel_rfl
theorem c3 : t3.ok Tr.P R = true := by kernel_rfl
theorem c7 : t7.ok Tr.P R = true := by kernel_rfl
theorem c25 : t25.ok Tr.P R = true := by kernel_rfl
theorem c23 : t23.ok Tr.P R = true := by kernel_rfl
theorem c52 : t52.ok Tr.P R = true := by kernel_rfl
theorem c59 : t59.ok Tr.P R = true := by kernel_rfl
theorem c6 : t6.ok Tr.P R = true := by kernel_rfl
theorem c8 : t8.ok Tr.P R = true := by kernel_rfl
theorem c11 : t11.ok Tr.P R = true := by kernel_rfl
theorem c10 : t10.ok Tr.P R = true := by kernel_rfl
theorem c27 : t27.ok Tr.P R = true := by kernel_rfl
theorem c194 : t194.ok Tr.P R = true := by kernel_rfl
theorem c76 : t76.ok Tr.P R = true := by kernel_rfl
theorem c85 : t85.ok Tr.P R = true := by kernel_rfl
theorem c451 : t451.ok Tr.P R = true := by kernel_rfl
theorem c195 : t195.ok Tr.P R = true := by kernel_rfl
theorem c453 : t453.ok Tr.P R = true := by kernel_rfl
theorem c482 : t482.ok Tr.P R = true := by kernel_rfl
theorem c370 : t370.ok Tr.P R = true := by kernel_rfl
theorem c160 : t160.ok Tr.P R = true := by kernel_rfl
theorem c369 : t369.ok Tr.P R = true := by kernel_rfl
theorem c368 : t368.ok Tr.P R = true := by kernel_rfl
theorem c371 : t371.ok Tr.P R = true := by kernel_rfl
theorem c478 : t478.ok Tr.P R = true := by kernel_rfl
theorem c481 : t481.ok Tr.P R = true := by kernel_rfl
theorem c380 : t380.ok Tr.P R = true := by kernel_rfl
theorem c161 : t161.ok Tr.P R = true := by kernel_rfl
theorem c401 : t401.ok Tr.P R = true := by kernel_rfl
theorem c176 : t176.ok Tr.P R = true := by kernel_rfl
theorem c437 : t437.ok Tr.P R = true := by kernel_rfl
theorem c372 : t372.ok Tr.P R = true := by kernel_rfl
theorem c373 : t373.ok Tr.P R = true := by kernel_rfl
theorem c385 : t385.ok Tr.P R = true := by kernel_rfl
theorem c374 : t374.ok Tr.P R = true := by kernel_rfl
theorem c480 : t480.ok Tr.P R = true := by kernel_rfl
theorem c403 : t403.ok Tr.P R = true := by kernel_rfl
theorem c479 : t479.ok Tr.P R = true := by kernel_rfl
theorem c477 : t477.ok Tr.P R = true := by kernel_rfl
theorem c43 : t43.ok Tr.P R = true := by kernel_rfl
theorem c50 : t50.ok Tr.P R = true := by kernel_rfl
theorem c71 : t71.ok Tr.P R = true := by kernel_rfl
theorem c263 : t263.ok Tr.P R = true := by kernel_rfl
theorem c44 : t44.ok Tr.P R = true := by kernel_rfl
theorem c45 : t45.ok Tr.P R = true := by kernel_rfl
theorem c46 : t46.ok Tr.P R = true := by kernel_rfl
theorem c47 : t47.ok Tr.P R = true := by kernel_rfl
theorem c72 : t72.ok Tr.P R = true := by kernel_rfl
theorem c61 : t61.ok Tr.P R = true := by kernel_rfl
theorem c48 : t48.ok Tr.P R = true := by kernel_rfl
theorem c101 : t101.ok Tr.P R = true := by kernel_rfl
theorem c400 : t400.ok Tr.P R = true := by kernel_rfl
theorem c506 : t506.ok Tr.P R = true := by kernel_rfl
def ts0 : List Tx := [t0, t1, t5, t4, t2, t28, t157, t3, t7, t25, t23, t52, t59, t6, t8, t11, t10, t27, t194, t76, t85, t451, t195, t453, t482, t370, t160, t369, t368, t371]
def ts1 : List Tx := [t478, t481, t380, t161, t401, t176, t437, t372, t373, t385, t374, t480, t403, t479, t477, t43, t50, t71, t263, t44, t45, t46, t47, t72, t61, t48, t101, t400, t506]
def ts : List Tx := ts0 ++ ts1
def fn0 : List He.DefD := [d0, d1, d5, d4, d2, d28, d157, d3, d7, d25, d23, d52, d59, d6, d8, d11, d10, d27, d194, d76, d85, d451, d195, d453, d482, d370, d160, d369, d368, d371]
def fn1 : List He.DefD := [d478, d481, d380, d161, d401, d176, d437, d372, d373, d385, d374, d480, d403, d479, d477, d43, d50, d71, d263, d44, d45, d46, d47, d72, d61, d48, d101, d400, d506]
def fn : List He.DefD := fn0 ++ fn1
def fa0 : List He.Fa := [.glo "is_number", .glo "is_within", .glo "is_sized", .glo "is_long", .glo "tupled", .glo "product", .glo "sign_of", .glo "lowest", .glo "plus", .glo "minus_share", .glo "times", .glo "total", .glo "is_less", .glo "is_tube", .glo "is_book_of", .glo "lean_by", .glo "sure_book", .glo "back_by", .glo "is_lens_of", .glo "lens_by", .glo "least_lens", .glo "mirror_by", .glo "sure_lens", .glo "lens_mirrored", .glo "is_own_mirror", .glo "sum_added", .glo "sum_by", .glo "sure_below", .glo "sure_number", .glo "saw"]
def fa1 : List He.Fa := [.glo "saw_added", .glo "saw_exchange", .glo "lens_by_saw", .glo "worth_by", .glo "lens_worth", .glo "worth", .glo "mean_worth", .glo "step_by", .glo "steps_by", .glo "in_order", .glo "sure_short", .glo "lens_steps", .glo "steps_in_order", .glo "step_sum", .glo "_law_box", .glo "_law_take", .glo "_law_cells", .glo "_law_of", .glo "_law_pick", .glo "_law_same", .glo "_law_gcd", .glo "_law_low", .glo "_law_plus", .glo "_law_times", .glo "_law_minus", .glo "_law_total", .glo "_law_units", .glo "_law_saw", .glo "law", .free "abs"]
def fa2 : List He.Fa := [.free "all", .free "bool", .free "enumerate", .free "int", .free "isinstance", .free "len", .free "list", .free "min", .free "range", .free "str", .free "tuple", .free "zip"]
def fa : List He.Fa := fa0 ++ fa1 ++ fa2
def loose0 : List Str := ["CanNot", "TooMany", "Unfit", "is_number", "is_within", "is_sized", "is_long", "tupled", "product", "sign_of", "NONE", "lowest", "plus", "minus_share", "times", "total", "is_less", "MANY", "HANDLES", "GREATEST_books", "is_tube", "is_book_of", "lean_by", "sure_book", "back_by", "GREATEST_lenses", "is_lens_of", "lens_by", "least_lens", "mirror_by"]
def loose1 : List Str := ["sure_lens", "lens_mirrored", "is_own_mirror", "GREATEST_saws", "ADDED", "sum_added", "sum_by", "sure_below", "sure_number", "saw", "saw_added", "saw_exchange", "lens_by_saw", "worth_by", "lens_worth", "worth", "mean_worth", "MOST", "step_by", "steps_by", "in_order", "sure_short", "lens_steps", "steps_in_order", "step_sum", "_law_box", "_law_take", "_law_cells", "_law_of", "_law_pick"]
def loose2 : List Str := ["_law_same", "_law_gcd", "_law_low", "_law_plus", "_law_times", "_law_minus", "_law_total", "_law_units", "_law_saw"]
def loose : List Str := loose0 ++ loose1 ++ loose2
def ex (K : Fr) : Bool := (consts.all fun c => match Tr.glob c.1 with
  | some d => glIs K c.2 d
  | none => true) && gcdIs K
abbrev Ro : PySem.W.OpenRow := PySem.W.OpenLaw.row PySem.Challenge.rw_tubedrooms_k61_main_saws_steps_and_worth
abbrev hk : PySem.W.Hook := hookL 4 fa fn ex
def ob (s : PySem.W.SharedT) : AlL := obsL 4 fa fn ex (HandSHeadRun.getT s)
theorem ob_eq (s : PySem.W.SharedT) : ob s = hk.obs s.abs := obsL_eq (HandSHeadRun.getT_eq s)
theorem run (w : World) : HandSHeadRun.RunEqI Ro (PySem.W.view Ro.prog [0, 80]) hk ob 4600 loose w := by
  unfold HandSHeadRun.RunEqI
  kernel_rfl
theorem look_c {k : Nat} {x : Str} : ∀ {l : List (Nat × Str)}, l.lookup k = some x → (k, x) ∈ l
  | (b, u) :: r, h => by
    rw [List.lookup_cons] at h
    cases q : (k == b) with
    | true => rw [q] at h; cases h; rw [eq_of_beq q]; exact List.mem_cons_self
    | false => rw [q] at h; exact List.mem_cons_of_mem _ (look_c h)
theorem mdl {w : World} {K : Fr} {h : Heap} {mg : Str → Option Value} (X : K.In h) (G : h.Ns mainGlobals mg) (c : He.SaysD fa fn K) (e : ex K = true) : Mdl w K mg Tr.P R (fun _ => 0) ts where
  chk := fun t ht => by
    simp only [ts, ts0, ts1, List.mem_append, List.mem_cons, List.not_mem_nil, or_false, or_assoc] at ht
    rcases ht with rfl | rfl | rfl | rfl | rfl | rfl | rfl | rfl | rfl | rfl | rfl | rfl | rfl | rfl | rfl | rfl | rfl | rfl | rfl | rfl | rfl | rfl | rfl | rfl | rfl | rfl | rfl | rfl | rfl | rfl | rfl | rfl | rfl | rfl | rfl | rfl | rfl | rfl | rfl | rfl | rfl | rfl | rfl | rfl | rfl | rfl | rfl | rfl | rfl | rfl | rfl | rfl | rfl | rfl | rfl | rfl | rfl | rfl | rfl
    · exact c0
    · exact c1
    · exact c5
    · exact c4
    · exact c2
    · exact c28
    · exact c157
    · exact c3
    · exact c7
    · exact c25
    · exact c23
    · exact c52
    · exact c59
    · exact c6
    · exact c8
    · exact c11
    · exact c10
    · exact c27
    · exact c194
    · exact c76
    · exact c85
    · exact c451
    · exact c195
    · exact c453
    · exact c482
    · exact c370
    · exact c160
    · exact c369
    · exact c368
    · exact c371
    · exact c478
    · exact c481
    · exact c380
    · exact c161
    · exact c401
    · exact c176
    · exact c437
    · exact c372
    · exact c373
    · exact c385
    · exact c374
    · exact c480
    · exact c403
    · exact c479
    · exact c477
    · exact c43
    · exact c50
    · exact c71
    · exact c263
    · exact c44
    · exact c45
    · exact c46
    · exact c47
    · exact c72
    · exact c61
    · exact c48
    · exact c101
    · exact c400
    · exact c506
  cov := fun f hf => by
    have hf' : (names.lookup f).isSome = true := hf
    obtain ⟨x, hx⟩ := Option.isSome_iff_exists.mp hf'
    have hm := look_c hx
    have en : R.fn f = x := by show (names.lookup f).getD "" = x; rw [hx]; rfl
    rw [en]
    simp only [names, names0, names1, List.mem_append, List.mem_cons, List.not_mem_nil, or_false, or_assoc, Prod.mk.injEq] at hm
    rcases hm with ⟨rfl, rfl⟩ | ⟨rfl, rfl⟩ | ⟨rfl, rfl⟩ | ⟨rfl, rfl⟩ | ⟨rfl, rfl⟩ | ⟨rfl, rfl⟩ | ⟨rfl, rfl⟩ | ⟨rfl, rfl⟩ | ⟨rfl, rfl⟩ | ⟨rfl, rfl⟩ | ⟨rfl, rfl⟩ | ⟨rfl, rfl⟩ | ⟨rfl, rfl⟩ | ⟨rfl, rfl⟩ | ⟨rfl, rfl⟩ | ⟨rfl, rfl⟩ | ⟨rfl, rfl⟩ | ⟨rfl, rfl⟩ | ⟨rfl, rfl⟩ | ⟨rfl, rfl⟩ | ⟨rfl, rfl⟩ | ⟨rfl, rfl⟩ | ⟨rfl, rfl⟩ | ⟨rfl, rfl⟩ | ⟨rfl, rfl⟩ | ⟨rfl, rfl⟩ | ⟨rfl, rfl⟩ | ⟨rfl, rfl⟩ | ⟨rfl, rfl⟩ | ⟨rfl, rfl⟩ | ⟨rfl, rfl⟩ | ⟨rfl, rfl⟩ | ⟨rfl, rfl⟩ | ⟨rfl, rfl⟩ | ⟨rfl, rfl⟩ | ⟨rfl, rfl⟩ | ⟨rfl, rfl⟩ | ⟨rfl, rfl⟩ | ⟨rfl, rfl⟩ | ⟨rfl, rfl⟩ | ⟨rfl, rfl⟩ | ⟨rfl, rfl⟩ | ⟨rfl, rfl⟩ | ⟨rfl, rfl⟩ | ⟨rfl, rfl⟩ | ⟨rfl, rfl⟩ | ⟨rfl, rfl⟩ | ⟨rfl, rfl⟩ | ⟨rfl, rfl⟩ | ⟨rfl, rfl⟩ | ⟨rfl, rfl⟩ | ⟨rfl, rfl⟩ | ⟨rfl, rfl⟩ | ⟨rfl, rfl⟩ | ⟨rfl, rfl⟩ | ⟨rfl, rfl⟩ | ⟨rfl, rfl⟩ | ⟨rfl, rfl⟩ | ⟨rfl, rfl⟩
    · exact ⟨t0, by simp [ts, ts0, ts1, List.mem_append], rfl, rfl⟩
    · exact ⟨t1, by simp [ts, ts0, ts1, List.mem_append], rfl, rfl⟩
    · exact ⟨t5, by simp [ts, ts0, ts1, List.mem_append], rfl, rfl⟩
    · exact ⟨t4, by simp [ts, ts0, ts1, List.mem_append], rfl, rfl⟩
    · exact ⟨t2, by simp [ts, ts0, ts1, List.mem_append], rfl, rfl⟩
    · exact ⟨t28, by simp [ts, ts0, ts1, List.mem_append], rfl, rfl⟩
    · exact ⟨t157, by simp [ts, ts0, ts1, List.mem_append], rfl, rfl⟩
    · exact ⟨t3, by simp [ts, ts0, ts1, List.mem_append], rfl, rfl⟩
    · exact ⟨t7, by simp [ts, ts0, ts1, List.mem_append], rfl, rfl⟩
    · exact ⟨t25, by simp [ts, ts0, ts1, List.mem_append], rfl, rfl⟩
    · exact ⟨t23, by simp [ts, ts0, ts1, List.mem_append], rfl, rfl⟩
    · exact ⟨t52, by simp [ts, ts0, ts1, List.mem_append], rfl, rfl⟩
    · exact ⟨t59, by simp [ts, ts0, ts1, List.mem_append], rfl, rfl⟩
    · exact ⟨t6, by simp [ts, ts0, ts1, List.mem_append], rfl, rfl⟩
    · exact ⟨t8, by simp [ts, ts0, ts1, List.mem_append], rfl, rfl⟩
    · exact ⟨t11, by simp [ts, ts0, ts1, List.mem_append], rfl, rfl⟩
    · exact ⟨t10, by simp [ts, ts0, ts1, List.mem_append], rfl, rfl⟩
    · exact ⟨t27, by simp [ts, ts0, ts1, List.mem_append], rfl, rfl⟩
    · exact ⟨t194, by simp [ts, ts0, ts1, List.mem_append], rfl, rfl⟩
    · exact ⟨t76, by simp [ts, ts0, ts1, List.mem_append], rfl, rfl⟩
    · exact ⟨t85, by simp [ts, ts0, ts1, List.mem_append], rfl, rfl⟩
    · exact ⟨t451, by simp [ts, ts0, ts1, List.mem_append], rfl, rfl⟩
    · exact ⟨t195, by simp [ts, ts0, ts1, List.mem_append], rfl, rfl⟩
    · exact ⟨t453, by simp [ts, ts0, ts1, List.mem_append], rfl, rfl⟩
    · exact ⟨t482, by simp [ts, ts0, ts1, List.mem_append], rfl, rfl⟩
    · exact ⟨t370, by simp [ts, ts0, ts1, List.mem_append], rfl, rfl⟩
    · exact ⟨t160, by simp [ts, ts0, ts1, List.mem_append], rfl, rfl⟩
    · exact ⟨t369, by simp [ts, ts0, ts1, List.mem_append], rfl, rfl⟩
    · exact ⟨t368, by simp [ts, ts0, ts1, List.mem_append], rfl, rfl⟩
    · exact ⟨t371, by simp [ts, ts0, ts1, List.mem_append], rfl, rfl⟩
    · exact ⟨t478, by simp [ts, ts0, ts1, List.mem_append], rfl, rfl⟩
    · exact ⟨t481, by simp [ts, ts0, ts1, List.mem_append], rfl, rfl⟩
    · exact ⟨t380, by simp [ts, ts0, ts1, List.mem_append], rfl, rfl⟩
    · exact ⟨t161, by simp [ts, ts0, ts1, List.mem_append], rfl, rfl⟩
    · exact ⟨t401, by simp [ts, ts0, ts1, List.mem_append], rfl, rfl⟩
    · exact ⟨t176, by simp [ts, ts0, ts1, List.mem_append], rfl, rfl⟩
    · exact ⟨t437, by simp [ts, ts0, ts1, List.mem_append], rfl, rfl⟩
    · exact ⟨t372, by simp [ts, ts0, ts1, List.mem_append], rfl, rfl⟩
    · exact ⟨t373, by simp [ts, ts0, ts1, List.mem_append], rfl, rfl⟩
    · exact ⟨t385, by simp [ts, ts0, ts1, List.mem_append], rfl, rfl⟩
    · exact ⟨t374, by simp [ts, ts0, ts1, List.mem_append], rfl, rfl⟩
    · exact ⟨t480, by simp [ts, ts0, ts1, List.mem_append], rfl, rfl⟩
    · exact ⟨t403, by simp [ts, ts0, ts1, List.mem_append], rfl, rfl⟩
    · exact ⟨t479, by simp [ts, ts0, ts1, List.mem_append], rfl, rfl⟩
    · exact ⟨t477, by simp [ts, ts0, ts1, List.mem_append], rfl, rfl⟩
    · exact ⟨t43, by simp [ts, ts0, ts1, List.mem_append], rfl, rfl⟩
    · exact ⟨t50, by simp [ts, ts0, ts1, List.mem_append], rfl, rfl⟩
    · exact ⟨t71, by simp [ts, ts0, ts1, List.mem_append], rfl, rfl⟩
    · exact ⟨t263, by simp [ts, ts0, ts1, List.mem_append], rfl, rfl⟩
    · exact ⟨t44, by simp [ts, ts0, ts1, List.mem_append], rfl, rfl⟩
    · exact ⟨t45, by simp [ts, ts0, ts1, List.mem_append], rfl, rfl⟩
    · exact ⟨t46, by simp [ts, ts0, ts1, List.mem_append], rfl, rfl⟩
    · exact ⟨t47, by simp [ts, ts0, ts1, List.mem_append], rfl, rfl⟩
    · exact ⟨t72, by simp [ts, ts0, ts1, List.mem_append], rfl, rfl⟩
    · exact ⟨t61, by simp [ts, ts0, ts1, List.mem_append], rfl, rfl⟩
    · exact ⟨t48, by simp [ts, ts0, ts1, List.mem_append], rfl, rfl⟩
    · exact ⟨t101, by simp [ts, ts0, ts1, List.mem_append], rfl, rfl⟩
    · exact ⟨t400, by simp [ts, ts0, ts1, List.mem_append], rfl, rfl⟩
    · exact ⟨t506, by simp [ts, ts0, ts1, List.mem_append], rfl, rfl⟩
  defs := fun t ht => by
    simp only [ts, ts0, ts1, List.mem_append, List.mem_cons, List.not_mem_nil, or_false, or_assoc] at ht
    rcases ht with rfl | rfl | rfl | rfl | rfl | rfl | rfl | rfl | rfl | rfl | rfl | rfl | rfl | rfl | rfl | rfl | rfl | rfl | rfl | rfl | rfl | rfl | rfl | rfl | rfl | rfl | rfl | rfl | rfl | rfl | rfl | rfl | rfl | rfl | rfl | rfl | rfl | rfl | rfl | rfl | rfl | rfl | rfl | rfl | rfl | rfl | rfl | rfl | rfl | rfl | rfl | rfl | rfl | rfl | rfl | rfl | rfl | rfl | rfl
    · obtain ⟨fd, F⟩ := c.def_ 0 (d := d0) rfl
      exact ⟨_, fd, He.glo_ok X G (c.fact 0 (f := .glo "is_number") rfl), F, F.bindsN fun _ _ _ _ _ _ us hl => match us, hl with | [_], _ => rfl⟩
    · obtain ⟨fd, F⟩ := c.def_ 1 (d := d1) rfl
      exact ⟨_, fd, He.glo_ok X G (c.fact 1 (f := .glo "is_within") rfl), F, F.bindsN fun _ _ _ _ _ _ us hl => match us, hl with | [_, _, _], _ => rfl⟩
    · obtain ⟨fd, F⟩ := c.def_ 2 (d := d5) rfl
      exact ⟨_, fd, He.glo_ok X G (c.fact 2 (f := .glo "is_sized") rfl), F, F.bindsN fun _ _ _ _ _ _ us hl => match us, hl with | [_, _], _ => rfl⟩
    · obtain ⟨fd, F⟩ := c.def_ 3 (d := d4) rfl
      exact ⟨_, fd, He.glo_ok X G (c.fact 3 (f := .glo "is_long") rfl), F, F.bindsN fun _ _ _ _ _ _ us hl => match us, hl with | [_, _], _ => rfl⟩
    · obtain ⟨fd, F⟩ := c.def_ 4 (d := d2) rfl
      exact ⟨_, fd, He.glo_ok X G (c.fact 4 (f := .glo "tupled") rfl), F, F.bindsN fun _ _ _ _ _ _ us hl => match us, hl with | [_], _ => rfl⟩
    · obtain ⟨fd, F⟩ := c.def_ 5 (d := d28) rfl
      exact ⟨_, fd, He.glo_ok X G (c.fact 5 (f := .glo "product") rfl), F, F.bindsN fun _ _ _ _ _ _ us hl => match us, hl with | [_], _ => rfl⟩
    · obtain ⟨fd, F⟩ := c.def_ 6 (d := d157) rfl
      exact ⟨_, fd, He.glo_ok X G (c.fact 6 (f := .glo "sign_of") rfl), F, F.bindsN fun _ _ _ _ _ _ us hl => match us, hl with | [_], _ => rfl⟩
    · obtain ⟨fd, F⟩ := c.def_ 7 (d := d3) rfl
      exact ⟨_, fd, He.glo_ok X G (c.fact 7 (f := .glo "lowest") rfl), F, F.bindsN fun _ _ _ _ _ _ us hl => match us, hl with | [_, _], _ => rfl⟩
    · obtain ⟨fd, F⟩ := c.def_ 8 (d := d7) rfl
      exact ⟨_, fd, He.glo_ok X G (c.fact 8 (f := .glo "plus") rfl), F, F.bindsN fun _ _ _ _ _ _ us hl => match us, hl with | [_, _], _ => rfl⟩
    · obtain ⟨fd, F⟩ := c.def_ 9 (d := d25) rfl
      exact ⟨_, fd, He.glo_ok X G (c.fact 9 (f := .glo "minus_share") rfl), F, F.bindsN fun _ _ _ _ _ _ us hl => match us, hl with | [_, _], _ => rfl⟩
    · obtain ⟨fd, F⟩ := c.def_ 10 (d := d23) rfl
      exact ⟨_, fd, He.glo_ok X G (c.fact 10 (f := .glo "times") rfl), F, F.bindsN fun _ _ _ _ _ _ us hl => match us, hl with | [_, _], _ => rfl⟩
    · obtain ⟨fd, F⟩ := c.def_ 11 (d := d52) rfl
      exact ⟨_, fd, He.glo_ok X G (c.fact 11 (f := .glo "total") rfl), F, F.bindsN fun _ _ _ _ _ _ us hl => match us, hl with | [_], _ => rfl⟩
    · obtain ⟨fd, F⟩ := c.def_ 12 (d := d59) rfl
      exact ⟨_, fd, He.glo_ok X G (c.fact 12 (f := .glo "is_less") rfl), F, F.bindsN fun _ _ _ _ _ _ us hl => match us, hl with | [_, _], _ => rfl⟩
    · obtain ⟨fd, F⟩ := c.def_ 13 (d := d6) rfl
      exact ⟨_, fd, He.glo_ok X G (c.fact 13 (f := .glo "is_tube") rfl), F, F.bindsN fun _ _ _ _ _ _ us hl => match us, hl with | [_], _ => rfl⟩
    · obtain ⟨fd, F⟩ := c.def_ 14 (d := d8) rfl
      exact ⟨_, fd, He.glo_ok X G (c.fact 14 (f := .glo "is_book_of") rfl), F, F.bindsN fun _ _ _ _ _ _ us hl => match us, hl with | [_], _ => rfl⟩
    · obtain ⟨fd, F⟩ := c.def_ 15 (d := d11) rfl
      exact ⟨_, fd, He.glo_ok X G (c.fact 15 (f := .glo "lean_by") rfl), F, F.bindsN fun _ _ _ _ _ _ us hl => match us, hl with | [_], _ => rfl⟩
    · obtain ⟨fd, F⟩ := c.def_ 16 (d := d10) rfl
      exact ⟨_, fd, He.glo_ok X G (c.fact 16 (f := .glo "sure_book") rfl), F, F.bindsN fun _ _ _ _ _ _ us hl => match us, hl with | [_], _ => rfl⟩
    · obtain ⟨fd, F⟩ := c.def_ 17 (d := d27) rfl
      exact ⟨_, fd, He.glo_ok X G (c.fact 17 (f := .glo "back_by") rfl), F, F.bindsN fun _ _ _ _ _ _ us hl => match us, hl with | [_, _], _ => rfl⟩
    · obtain ⟨fd, F⟩ := c.def_ 18 (d := d194) rfl
      exact ⟨_, fd, He.glo_ok X G (c.fact 18 (f := .glo "is_lens_of") rfl), F, F.bindsN fun _ _ _ _ _ _ us hl => match us, hl with | [_], _ => rfl⟩
    · obtain ⟨fd, F⟩ := c.def_ 19 (d := d76) rfl
      exact ⟨_, fd, He.glo_ok X G (c.fact 19 (f := .glo "lens_by") rfl), F, F.bindsN fun _ _ _ _ _ _ us hl => match us, hl with | [_, _], _ => rfl⟩
    · obtain ⟨fd, F⟩ := c.def_ 20 (d := d85) rfl
      exact ⟨_, fd, He.glo_ok X G (c.fact 20 (f := .glo "least_lens") rfl), F, F.bindsN fun _ _ _ _ _ _ us hl => match us, hl with | [_], _ => rfl⟩
    · obtain ⟨fd, F⟩ := c.def_ 21 (d := d451) rfl
      exact ⟨_, fd, He.glo_ok X G (c.fact 21 (f := .glo "mirror_by") rfl), F, F.bindsN fun _ _ _ _ _ _ us hl => match us, hl with | [_], _ => rfl⟩
    · obtain ⟨fd, F⟩ := c.def_ 22 (d := d195) rfl
      exact ⟨_, fd, He.glo_ok X G (c.fact 22 (f := .glo "sure_lens") rfl), F, F.bindsN fun _ _ _ _ _ _ us hl => match us, hl with | [_], _ => rfl⟩
    · obtain ⟨fd, F⟩ := c.def_ 23 (d := d453) rfl
      exact ⟨_, fd, He.glo_ok X G (c.fact 23 (f := .glo "lens_mirrored") rfl), F, F.bindsN fun _ _ _ _ _ _ us hl => match us, hl with | [_], _ => rfl⟩
    · obtain ⟨fd, F⟩ := c.def_ 24 (d := d482) rfl
      exact ⟨_, fd, He.glo_ok X G (c.fact 24 (f := .glo "is_own_mirror") rfl), F, F.bindsN fun _ _ _ _ _ _ us hl => match us, hl with | [_], _ => rfl⟩
    · obtain ⟨fd, F⟩ := c.def_ 25 (d := d370) rfl
      exact ⟨_, fd, He.glo_ok X G (c.fact 25 (f := .glo "sum_added") rfl), F, F.bindsN fun _ _ _ _ _ _ us hl => match us, hl with | [_, _], _ => rfl⟩
    · obtain ⟨fd, F⟩ := c.def_ 26 (d := d160) rfl
      exact ⟨_, fd, He.glo_ok X G (c.fact 26 (f := .glo "sum_by") rfl), F, F.bindsN fun _ _ _ _ _ _ us hl => match us, hl with | [_, _], _ => rfl⟩
    · obtain ⟨fd, F⟩ := c.def_ 27 (d := d369) rfl
      exact ⟨_, fd, He.glo_ok X G (c.fact 27 (f := .glo "sure_below") rfl), F, F.bindsN fun _ _ _ _ _ _ us hl => match us, hl with | [_], _ => rfl⟩
    · obtain ⟨fd, F⟩ := c.def_ 28 (d := d368) rfl
      exact ⟨_, fd, He.glo_ok X G (c.fact 28 (f := .glo "sure_number") rfl), F, F.bindsN fun _ _ _ _ _ _ us hl => match us, hl with | [_], _ => rfl⟩
    · obtain ⟨fd, F⟩ := c.def_ 29 (d := d371) rfl
      exact ⟨_, fd, He.glo_ok X G (c.fact 29 (f := .glo "saw") rfl), F, F.bindsN fun _ _ _ _ _ _ us hl => match us, hl with | [_, _], _ => rfl⟩
    · obtain ⟨fd, F⟩ := c.def_ 30 (d := d478) rfl
      exact ⟨_, fd, He.glo_ok X G (c.fact 30 (f := .glo "saw_added") rfl), F, F.bindsN fun _ _ _ _ _ _ us hl => match us, hl with | [_, _], _ => rfl⟩
    · obtain ⟨fd, F⟩ := c.def_ 31 (d := d481) rfl
      exact ⟨_, fd, He.glo_ok X G (c.fact 31 (f := .glo "saw_exchange") rfl), F, F.bindsN fun _ _ _ _ _ _ us hl => match us, hl with | [_, _], _ => rfl⟩
    · obtain ⟨fd, F⟩ := c.def_ 32 (d := d380) rfl
      exact ⟨_, fd, He.glo_ok X G (c.fact 32 (f := .glo "lens_by_saw") rfl), F, F.bindsN fun _ _ _ _ _ _ us hl => match us, hl with | [_], _ => rfl⟩
    · obtain ⟨fd, F⟩ := c.def_ 33 (d := d161) rfl
      exact ⟨_, fd, He.glo_ok X G (c.fact 33 (f := .glo "worth_by") rfl), F, F.bindsN fun _ _ _ _ _ _ us hl => match us, hl with | [_], _ => rfl⟩
    · obtain ⟨fd, F⟩ := c.def_ 34 (d := d401) rfl
      exact ⟨_, fd, He.glo_ok X G (c.fact 34 (f := .glo "lens_worth") rfl), F, F.bindsN fun _ _ _ _ _ _ us hl => match us, hl with | [_], _ => rfl⟩
    · obtain ⟨fd, F⟩ := c.def_ 35 (d := d176) rfl
      exact ⟨_, fd, He.glo_ok X G (c.fact 35 (f := .glo "worth") rfl), F, F.bindsN fun _ _ _ _ _ _ us hl => match us, hl with | [_], _ => rfl⟩
    · obtain ⟨fd, F⟩ := c.def_ 36 (d := d437) rfl
      exact ⟨_, fd, He.glo_ok X G (c.fact 36 (f := .glo "mean_worth") rfl), F, F.bindsN fun _ _ _ _ _ _ us hl => match us, hl with | [_], _ => rfl⟩
    · obtain ⟨fd, F⟩ := c.def_ 37 (d := d372) rfl
      exact ⟨_, fd, He.glo_ok X G (c.fact 37 (f := .glo "step_by") rfl), F, F.bindsN fun _ _ _ _ _ _ us hl => match us, hl with | [_, _], _ => rfl⟩
    · obtain ⟨fd, F⟩ := c.def_ 38 (d := d373) rfl
      exact ⟨_, fd, He.glo_ok X G (c.fact 38 (f := .glo "steps_by") rfl), F, F.bindsN fun _ _ _ _ _ _ us hl => match us, hl with | [_], _ => rfl⟩
    · obtain ⟨fd, F⟩ := c.def_ 39 (d := d385) rfl
      exact ⟨_, fd, He.glo_ok X G (c.fact 39 (f := .glo "in_order") rfl), F, F.bindsN fun _ _ _ _ _ _ us hl => match us, hl with | [_], _ => rfl⟩
    · obtain ⟨fd, F⟩ := c.def_ 40 (d := d374) rfl
      exact ⟨_, fd, He.glo_ok X G (c.fact 40 (f := .glo "sure_short") rfl), F, F.bindsN fun _ _ _ _ _ _ us hl => match us, hl with | [_], _ => rfl⟩
    · obtain ⟨fd, F⟩ := c.def_ 41 (d := d480) rfl
      exact ⟨_, fd, He.glo_ok X G (c.fact 41 (f := .glo "lens_steps") rfl), F, F.bindsN fun _ _ _ _ _ _ us hl => match us, hl with | [_], _ => rfl⟩
    · obtain ⟨fd, F⟩ := c.def_ 42 (d := d403) rfl
      exact ⟨_, fd, He.glo_ok X G (c.fact 42 (f := .glo "steps_in_order") rfl), F, F.bindsN fun _ _ _ _ _ _ us hl => match us, hl with | [_], _ => rfl⟩
    · obtain ⟨fd, F⟩ := c.def_ 43 (d := d479) rfl
      exact ⟨_, fd, He.glo_ok X G (c.fact 43 (f := .glo "step_sum") rfl), F, F.bindsN fun _ _ _ _ _ _ us hl => match us, hl with | [_], _ => rfl⟩
    · obtain ⟨fd, F⟩ := c.def_ 44 (d := d477) rfl
      exact ⟨_, fd, He.glo_ok X G (c.fact 44 (f := .glo "_law_box") rfl), F, F.bindsN fun _ _ _ _ _ _ us hl => match us, hl with | [_, _], _ => rfl⟩
    · obtain ⟨fd, F⟩ := c.def_ 45 (d := d43) rfl
      exact ⟨_, fd, He.glo_ok X G (c.fact 45 (f := .glo "_law_take") rfl), F, F.bindsN fun _ _ _ _ _ _ us hl => match us, hl with | [_, _], _ => rfl⟩
    · obtain ⟨fd, F⟩ := c.def_ 46 (d := d50) rfl
      exact ⟨_, fd, He.glo_ok X G (c.fact 46 (f := .glo "_law_cells") rfl), F, F.bindsN fun _ _ _ _ _ _ us hl => match us, hl with | [_, _], _ => rfl⟩
    · obtain ⟨fd, F⟩ := c.def_ 47 (d := d71) rfl
      exact ⟨_, fd, He.glo_ok X G (c.fact 47 (f := .glo "_law_of") rfl), F, F.bindsN fun _ _ _ _ _ _ us hl => match us, hl with | [_, _], _ => rfl⟩
    · obtain ⟨fd, F⟩ := c.def_ 48 (d := d263) rfl
      exact ⟨_, fd, He.glo_ok X G (c.fact 48 (f := .glo "_law_pick") rfl), F, F.bindsN fun _ _ _ _ _ _ us hl => match us, hl with | [_, _, _], _ => rfl⟩
    · obtain ⟨fd, F⟩ := c.def_ 49 (d := d44) rfl
      exact ⟨_, fd, He.glo_ok X G (c.fact 49 (f := .glo "_law_same") rfl), F, F.bindsN fun _ _ _ _ _ _ us hl => match us, hl with | [_, _], _ => rfl⟩
    · obtain ⟨fd, F⟩ := c.def_ 50 (d := d45) rfl
      exact ⟨_, fd, He.glo_ok X G (c.fact 50 (f := .glo "_law_gcd") rfl), F, F.bindsN fun _ _ _ _ _ _ us hl => match us, hl with | [_, _], _ => rfl⟩
    · obtain ⟨fd, F⟩ := c.def_ 51 (d := d46) rfl
      exact ⟨_, fd, He.glo_ok X G (c.fact 51 (f := .glo "_law_low") rfl), F, F.bindsN fun _ _ _ _ _ _ us hl => match us, hl with | [_, _], _ => rfl⟩
    · obtain ⟨fd, F⟩ := c.def_ 52 (d := d47) rfl
      exact ⟨_, fd, He.glo_ok X G (c.fact 52 (f := .glo "_law_plus") rfl), F, F.bindsN fun _ _ _ _ _ _ us hl => match us, hl with | [_, _], _ => rfl⟩
    · obtain ⟨fd, F⟩ := c.def_ 53 (d := d72) rfl
      exact ⟨_, fd, He.glo_ok X G (c.fact 53 (f := .glo "_law_times") rfl), F, F.bindsN fun _ _ _ _ _ _ us hl => match us, hl with | [_, _], _ => rfl⟩
    · obtain ⟨fd, F⟩ := c.def_ 54 (d := d61) rfl
      exact ⟨_, fd, He.glo_ok X G (c.fact 54 (f := .glo "_law_minus") rfl), F, F.bindsN fun _ _ _ _ _ _ us hl => match us, hl with | [_, _], _ => rfl⟩
    · obtain ⟨fd, F⟩ := c.def_ 55 (d := d48) rfl
      exact ⟨_, fd, He.glo_ok X G (c.fact 55 (f := .glo "_law_total") rfl), F, F.bindsN fun _ _ _ _ _ _ us hl => match us, hl with | [_], _ => rfl⟩
    · obtain ⟨fd, F⟩ := c.def_ 56 (d := d101) rfl
      exact ⟨_, fd, He.glo_ok X G (c.fact 56 (f := .glo "_law_units") rfl), F, F.bindsN fun _ _ _ _ _ _ us hl => match us, hl with | [_], _ => rfl⟩
    · obtain ⟨fd, F⟩ := c.def_ 57 (d := d400) rfl
      exact ⟨_, fd, He.glo_ok X G (c.fact 57 (f := .glo "_law_saw") rfl), F, F.bindsN fun _ _ _ _ _ _ us hl => match us, hl with | [_, _], _ => rfl⟩
    · obtain ⟨fd, F⟩ := c.def_ 58 (d := d506) rfl
      exact ⟨_, fd, He.glo_ok X G (c.fact 58 (f := .glo "law") rfl), F, F.bindsN fun _ _ _ _ _ _ us hl => match us, hl with | [_], _ => rfl⟩
  gl := fun k d hk hd => by
    have hk' : (consts.lookup k).isSome = true := hk
    obtain ⟨x, hx⟩ := Option.isSome_iff_exists.mp hk'
    have en : R.gl k = x := by show (consts.lookup k).getD "" = x; rw [hx]; rfl
    have hd' : Tr.glob k = some d := hd
    have q := List.all_eq_true.mp (Bool.and_eq_true_iff.mp e).1 _ (look_c hx)
    rw [en]
    simp only [hd'] at q
    exact glIs_ok X G q
  fr := fun x hx => by
    have hm : x ∈ free := List.contains_iff_mem.mp hx
    simp only [free, List.mem_cons, List.not_mem_nil, or_false] at hm
    rcases hm with rfl | rfl | rfl | rfl | rfl | rfl | rfl | rfl | rfl | rfl | rfl | rfl | rfl
    · exact He.free_ok X G (c.fact 59 (f := .free "abs") rfl)
    · exact He.free_ok X G (c.fact 60 (f := .free "all") rfl)
    · exact He.free_ok X G (c.fact 61 (f := .free "bool") rfl)
    · exact He.free_ok X G (c.fact 62 (f := .free "enumerate") rfl)
    · exact He.free_ok X G (c.fact 63 (f := .free "int") rfl)
    · exact He.free_ok X G (c.fact 64 (f := .free "isinstance") rfl)
    · exact He.free_ok X G (c.fact 65 (f := .free "len") rfl)
    · exact He.free_ok X G (c.fact 66 (f := .free "list") rfl)
    · exact He.free_ok X G (c.fact 67 (f := .free "min") rfl)
    · exact He.free_ok X G (c.fact 68 (f := .free "range") rfl)
    · exact He.free_ok X G (c.fact 69 (f := .free "str") rfl)
    · exact He.free_ok X G (c.fact 70 (f := .free "tuple") rfl)
    · exact He.free_ok X G (c.fact 71 (f := .free "zip") rfl)
  gcd := fun _ => PySem.W.mg_of X G (He.eqO_ok (Bool.and_eq_true_iff.mp e).2)
  ex := fun x hx => by cases hx
theorem law_in : t506 ∈ ts := by simp [ts, ts0, ts1, List.mem_append]
end K61
open PySem PySem.W PySem.Calls PyProof.Rows
theorem K61.holds (law : ∀ ns : List Int, ns.length ≤ 63 → ∃ o, Ev.callN Tr.P 40 506 [.d (.list (ns.map .int))] = .ok (.d (.bool true), o)) : PySem.Challenge.rw_tubedrooms_k61_main_saws_steps_and_worth.Holds := by
  w_on; o_law
  refine HandSHeadRun.head_imp (r := OpenLaw.row PySem.Challenge.rw_tubedrooms_k61_main_saws_steps_and_worth) (q := view (OpenLaw.row PySem.Challenge.rw_tubedrooms_k61_main_saws_steps_and_worth).prog [0, 80]) (H := K61.hk) (ob := K61.ob) (M := 4600) (loose := K61.loose) (d := HandSHeadRun.topDef (OpenLaw.row PySem.Challenge.rw_tubedrooms_k61_main_saws_steps_and_worth).prog 80) (kwd := []) K61.ob_eq
    K61.run (by kernel_rfl) (by kernel_rfl) (by kernel_rfl) (by rfl) (by first | assumption | decide +kernel) (by decide +kernel) ⟨rfl, rfl, rfl, rfl, rfl, by decide +kernel⟩ ?hw ?hc
  case hw => w_witness2
  case hc =>
    refine EvS.walk_ofV (l := PySem.Challenge.rw_tubedrooms_k61_main_saws_steps_and_worth) (n := 63) (k := 40) (x := "script") rfl (by decide) (by kernel_rfl) ⟨rfl, by decide, by decide⟩ ?F
    intro w mg fa h Y G hmg0
    obtain ⟨K, KX, c, e, nl⟩ := Y
    have hmg : mg ("law" : PySem.Str) = some (.ref fa) := by
      have e : (HandSHeadRun.topDef (OpenLaw.row PySem.Challenge.rw_tubedrooms_k61_main_saws_steps_and_worth).prog 80).name = ("law" : PySem.Str) := by kernel_rfl
      rw [← e]
      exact hmg0
    obtain ⟨fd, F⟩ := c.def_ 58 (d := K61.d506) rfl
    have ea := hmg.symm.trans (He.glo_ok KX G (c.fact 58 (f := .glo "law") rfl))
    cases ea
    have b := L2.FunD.bindsA (ps := ["script"]) F fun _ _ _ _ _ _ us hl => match us, hl with | [_], _ => rfl
    exact ⟨K, fd, EvS.spF K (fun _ => 0) (Ev.callN Tr.P 40) 506, KX, fun s v => b s [v] rfl, fun H a ns hl hS => EvS.law_sp nl hS (law ns hl),
      fun base _ _ => EvS.fn_sound (K61.mdl KX G c e) 40 K61.t506 K61.law_in _ fd F⟩

set_option Elab.async false
set_option linter.all false
set_option maxRecDepth 100000
set_option maxHeartbeats 1000000
/-! PyL61: the defs of law k61 as typed functions. -/
namespace M
open PySem Ev
theorem call_eq (n f : Nat) (xs : List Sl) (fn : Fn) (h : Tr.tbl f = some fn) : callN Tr.P (n + 1) f xs = evF ⟨callN Tr.P n, Tr.glob, 1000000⟩ fn xs := by
  show (match Tr.tbl f with | some fn => evF ⟨callN Tr.P n, Tr.P.glob, Tr.P.laps⟩ fn xs | none => .stuck) = _
  rw [h]; rfl
abbrev Fq := Int × Int
def enc (f : Fq) : D := .tuple [.int f.1, .int f.2]
def ofO {α : Type} (g : α → D) (o : List (Option Sl)) : Option α → Res (Sl × List (Option Sl))
  | some a => .ok (.d (g a), o)
  | none => .stuck
@[simp] theorem ofO_some {α : Type} (g : α → D) (o : List (Option Sl)) (a : α) : ofO g o (some a) = .ok (.d (g a), o) := rfl
@[simp] theorem ofO_none {α : Type} (g : α → D) (o : List (Option Sl)) : ofO g o (none : Option α) = .stuck := rfl
def mul? (a b : Int) : Option Int := if mulOk a b then some (a * b) else none
/-! ### plain -/
theorem is_number_int (n : Nat) (i : Int) : callN Tr.P (n + 1) 0 [.d (.int i)] = .ok (.d (.bool true), [none]) := by
  rw [call_eq n 0 _ Tr.f0 rfl]
  simp [evF, evSs, evS, evE, evA, evO, evAnd, evOr, evTs, ar, itr, getE, setE, rd1, rdB, rdF, rdC, rdP, rdX, app1, app2, post, binD, cmpS, cmpD, bltD, ixD, slD, revD, isiD, isTys, isTy, negD, walkB, isWalk, bindS, bindP, bindPs, bindSs, retV, avOf, noErr, grd, opt, frz, truth, outs, lent, Res.bind, sizeMax, seqOf, notS, fin, back, backL, lost, setAt, appAt, augAt, popAt, Ev.itemOf, slots, slotsL, wipeE, putBack, hidOf, Tr.f0]
theorem is_within (n : Nat) (i a b : Int) : callN Tr.P (n + 2) 1 [.d (.int i), .d (.int a), .d (.int b)] = .ok (.d (.bool (decide (a ≤ i) && decide (i ≤ b))), [none, none, none]) := by
  rw [call_eq (n + 1) 1 _ Tr.f1 rfl]
  by_cases h : a ≤ i <;> simp [evF, evSs, evS, evE, evA, evO, evAnd, evOr, evTs, ar, itr, getE, setE, rd1, rdB, rdF, rdC, rdP, rdX, app1, app2, post, binD, cmpS, cmpD, bltD, ixD, slD, revD, isiD, isTys, isTy, negD, walkB, isWalk, bindS, bindP, bindPs, bindSs, retV, avOf, noErr, grd, opt, frz, truth, outs, lent, Res.bind, sizeMax, seqOf, notS, fin, back, backL, lost, setAt, appAt, augAt, popAt, Ev.itemOf, slots, slotsL, wipeE, putBack, hidOf, Tr.f1, is_number_int, h]
theorem is_sized (n : Nat) (i a : Int) : callN Tr.P (n + 3) 5 [.d (.int i), .d (.int a)] = .ok (.d (.bool (decide (-a ≤ i) && decide (i ≤ a))), [none, none]) := by
  rw [call_eq (n + 2) 5 _ Tr.f5 rfl]
  simp [evF, evSs, evS, evE, evA, evO, evAnd, evOr, evTs, ar, itr, getE, setE, rd1, rdB, rdF, rdC, rdP, rdX, app1, app2, post, binD, cmpS, cmpD, bltD, ixD, slD, revD, isiD, isTys, isTy, negD, walkB, isWalk, bindS, bindP, bindPs, bindSs, retV, avOf, noErr, grd, opt, frz, truth, outs, lent, Res.bind, sizeMax, seqOf, notS, fin, back, backL, lost, setAt, appAt, augAt, popAt, Ev.itemOf, slots, slotsL, wipeE, putBack, hidOf, Tr.f5, is_within]
theorem is_long (n : Nat) (l : List D) (k : Int) : callN Tr.P (n + 1) 4 [.d (.tuple l), .d (.int k)] = .ok (.d (.bool (decide ((l.length : Int) = k))), [none, none]) := by
  rw [call_eq n 4 _ Tr.f4 rfl]
  simp [evF, evSs, evS, evE, evA, evO, evAnd, evOr, evTs, ar, itr, getE, setE, rd1, rdB, rdF, rdC, rdP, rdX, app1, app2, post, binD, cmpS, cmpD, bltD, ixD, slD, revD, isiD, isTys, isTy, negD, walkB, isWalk, bindS, bindP, bindPs, bindSs, retV, avOf, noErr, grd, opt, frz, truth, outs, lent, Res.bind, sizeMax, seqOf, notS, fin, back, backL, lost, setAt, appAt, augAt, popAt, Ev.itemOf, slots, slotsL, wipeE, putBack, hidOf, Tr.f4]
theorem sign_of (n : Nat) (i : Int) : callN Tr.P (n + 1) 157 [.d (.int i)] = .ok (.d (.int (bI (decide (0 < i)) - bI (decide (i < 0)))), [none]) := by
  rw [call_eq n 157 _ Tr.f157 rfl]
  simp [evF, evSs, evS, evE, evA, evO, evAnd, evOr, evTs, ar, itr, getE, setE, rd1, rdB, rdF, rdC, rdP, rdX, app1, app2, post, binD, cmpS, cmpD, bltD, ixD, slD, revD, isiD, isTys, isTy, negD, walkB, isWalk, bindS, bindP, bindPs, bindSs, retV, avOf, noErr, grd, opt, frz, truth, outs, lent, Res.bind, sizeMax, seqOf, notS, fin, back, backL, lost, setAt, appAt, augAt, popAt, Ev.itemOf, slots, slotsL, wipeE, putBack, hidOf, Tr.f157]
/-! ### shares -/
def mLowest (a b : Int) : Option Fq :=
  if divOk ((Nat.gcd a.natAbs b.natAbs : Nat) : Int) then
    (if 0 < b then some (a.fdiv ((Nat.gcd a.natAbs b.natAbs : Nat) : Int), b.fdiv ((Nat.gcd a.natAbs b.natAbs : Nat) : Int)) else some ((-a).fdiv ((Nat.gcd a.natAbs b.natAbs : Nat) : Int), (-b).fdiv ((Nat.gcd a.natAbs b.natAbs : Nat) : Int)))
  else none
theorem lowest (n : Nat) (a b : Int) : callN Tr.P (n + 1) 3 [.d (.int a), .d (.int b)] = ofO enc [none, none] (mLowest a b) := by
  rw [call_eq n 3 _ Tr.f3 rfl]
  unfold mLowest
  cases h : divOk ((Nat.gcd a.natAbs b.natAbs : Nat) : Int) <;> by_cases h2 : 0 < b <;>
    simp [evF, evSs, evS, evE, evA, evO, evAnd, evOr, evTs, ar, itr, getE, setE, rd1, rdB, rdF, rdC, rdP, rdX, app1, app2, post, binD, cmpS, cmpD, bltD, ixD, slD, revD, isiD, isTys, isTy, negD, walkB, isWalk, bindS, bindP, bindPs, bindSs, retV, avOf, noErr, grd, opt, frz, truth, outs, lent, Res.bind, sizeMax, seqOf, notS, fin, back, backL, lost, setAt, appAt, augAt, popAt, Ev.itemOf, slots, slotsL, wipeE, putBack, hidOf, Tr.f3, h, h2, enc]
theorem lowest_ok {n : Nat} {a b : Int} {r : Fq} (h : mLowest a b = some r) : callN Tr.P (n + 1) 3 [.d (.int a), .d (.int b)] = .ok (.d (enc r), [none, none]) := by
  rw [lowest, h]; rfl
def mPlus (x y : Fq) : Option Fq := if mulOk x.1 y.2 && mulOk y.1 x.2 && mulOk x.2 y.2 then mLowest (x.1 * y.2 + y.1 * x.2) (x.2 * y.2) else none
def mMinus (x y : Fq) : Option Fq := if mulOk x.1 y.2 && mulOk y.1 x.2 && mulOk x.2 y.2 then mLowest (x.1 * y.2 - y.1 * x.2) (x.2 * y.2) else none
def mTimes (x y : Fq) : Option Fq := if mulOk x.1 y.1 && mulOk x.2 y.2 then mLowest (x.1 * y.1) (x.2 * y.2) else none
theorem plus {n : Nat} {x y r : Fq} (h : mPlus x y = some r) : callN Tr.P (n + 2) 7 [.d (enc x), .d (enc y)] = .ok (.d (enc r), [none, none]) := by
  unfold mPlus at h
  split at h
  · rename_i g
    simp only [Bool.and_eq_true] at g
    rw [call_eq (n + 1) 7 _ Tr.f7 rfl]
    simp [evF, evSs, evS, evE, evA, evO, evAnd, evOr, evTs, ar, itr, getE, setE, rd1, rdB, rdF, rdC, rdP, rdX, app1, app2, post, binD, cmpS, cmpD, bltD, ixD, slD, revD, isiD, isTys, isTy, negD, walkB, isWalk, bindS, bindP, bindPs, bindSs, retV, avOf, noErr, grd, opt, frz, truth, outs, lent, Res.bind, sizeMax, seqOf, notS, fin, back, backL, lost, setAt, appAt, augAt, popAt, Ev.itemOf, slots, slotsL, wipeE, putBack, hidOf, Tr.f7, ixN, enc, g, lowest_ok h]
  · cases h
theorem minus {n : Nat} {x y r : Fq} (h : mMinus x y = some r) : callN Tr.P (n + 2) 25 [.d (enc x), .d (enc y)] = .ok (.d (enc r), [none, none]) := by
  unfold mMinus at h
  split at h
  · rename_i g
    simp only [Bool.and_eq_true] at g
    rw [call_eq (n + 1) 25 _ Tr.f25 rfl]
    simp [evF, evSs, evS, evE, evA, evO, evAnd, evOr, evTs, ar, itr, getE, setE, rd1, rdB, rdF, rdC, rdP, rdX, app1, app2, post, binD, cmpS, cmpD, bltD, ixD, slD, revD, isiD, isTys, isTy, negD, walkB, isWalk, bindS, bindP, bindPs, bindSs, retV, avOf, noErr, grd, opt, frz, truth, outs, lent, Res.bind, sizeMax, seqOf, notS, fin, back, backL, lost, setAt, appAt, augAt, popAt, Ev.itemOf, slots, slotsL, wipeE, putBack, hidOf, Tr.f25, ixN, enc, g, lowest_ok h]
  · cases h
theorem times {n : Nat} {x y r : Fq} (h : mTimes x y = some r) : callN Tr.P (n + 2) 23 [.d (enc x), .d (enc y)] = .ok (.d (enc r), [none, none]) := by
  unfold mTimes at h
  split at h
  · rename_i g
    simp only [Bool.and_eq_true] at g
    rw [call_eq (n + 1) 23 _ Tr.f23 rfl]
    simp [evF, evSs, evS, evE, evA, evO, evAnd, evOr, evTs, ar, itr, getE, setE, rd1, rdB, rdF, rdC, rdP, rdX, app1, app2, post, binD, cmpS, cmpD, bltD, ixD, slD, revD, isiD, isTys, isTy, negD, walkB, isWalk, bindS, bindP, bindPs, bindSs, retV, avOf, noErr, grd, opt, frz, truth, outs, lent, Res.bind, sizeMax, seqOf, notS, fin, back, backL, lost, setAt, appAt, augAt, popAt, Ev.itemOf, slots, slotsL, wipeE, putBack, hidOf, Tr.f23, ixN, enc, g, lowest_ok h]
  · cases h
def mLess (x y : Fq) : Option Bool := if mulOk x.1 y.2 && mulOk y.1 x.2 then some (decide (x.1 * y.2 < y.1 * x.2)) else none
theorem is_less {n : Nat} {x y : Fq} {b : Bool} (h : mLess x y = some b) : callN Tr.P (n + 1) 59 [.d (enc x), .d (enc y)] = .ok (.d (.bool b), [none, none]) := by
  unfold mLess at h
  split at h
  · rename_i g
    simp only [Bool.and_eq_true] at g
    cases h
    rw [call_eq n 59 _ Tr.f59 rfl]
    simp [evF, evSs, evS, evE, evA, evO, evAnd, evOr, evTs, ar, itr, getE, setE, rd1, rdB, rdF, rdC, rdP, rdX, app1, app2, post, binD, cmpS, cmpD, bltD, ixD, slD, revD, isiD, isTys, isTy, negD, walkB, isWalk, bindS, bindP, bindPs, bindSs, retV, avOf, noErr, grd, opt, frz, truth, outs, lent, Res.bind, sizeMax, seqOf, notS, fin, back, backL, lost, setAt, appAt, augAt, popAt, Ev.itemOf, slots, slotsL, wipeE, putBack, hidOf, Tr.f59, ixN, enc, g]
  · cases h
def mTotal : Fq → List Fq → Option Fq
  | acc, [] => some acc
  | acc, x :: r => match mPlus acc x with
    | some a => mTotal a r
    | none => none
abbrev Cn (n : Nat) : Wx := ⟨callN Tr.P n, Tr.glob, 1000000⟩
abbrev lp (n : Nat) (np : Nat) (nk : Nat → Bool) (p : Pat) (b : List Sm) : D → SEnv → Res Out := fun x e1 => (bindP nk p x e1).bind fun e2 => evSs (Cn n) np nk b e2
abbrev aft (n : Nat) (np : Nat) (nk : Nat → Bool) (b : List Sm) : Out → Res Out := fun o => match o with
  | .nx e1 => evSs (Cn n) np nk b e1
  | o => .ok o
theorem forL_nx {f : D → SEnv → Res Out} {x : D} {xs : List D} {e e1 : SEnv} (h : f x e = .ok (.nx e1)) : forL f (x :: xs) e = forL f xs e1 := by
  show (f x e).bind _ = _
  rw [h]; rfl
/-- what a def's body gives -/
theorem evF_rt {C : Wx} {f : Fn} {xs : List Sl} {r : Sl} {e : SEnv} (hl : xs.length = f.np) (h : evSs C f.np (lent xs) f.body (xs.map some ++ List.replicate (f.n - f.np) none) = .ok (.rt r e)) : evF C f xs = .ok (r, outs e 0 xs) := by
  unfold evF
  rw [h, hl]
  simp [grd, Res.bind]
theorem evSs_for {C : Wx} {np : Nat} {nk : Nat → Bool} {q : Pat} {it : E} {b rest : List Sm} {e e1 e2 : SEnv} {r : Sl} {l : List D} (h1 : evE C false it e = .ok (r, e1)) (h2 : seqOf (frz r) = some l)
    (h3 : forL (fun x e1 => (bindP nk q x e1).bind fun e2 => evSs C np nk b e2) l e1 = .ok (.nx e2)) : evSs C np nk (.fr q it b :: rest) e = evSs C np nk rest e2 := by
  show ((evE C false it e).bind fun p => (opt (seqOf (frz p.1))).bind fun l => forL (fun x e1 => (bindP nk q x e1).bind fun e2 => evSs C np nk b e2) l p.2).bind _ = _
  rw [h1]
  show ((opt (seqOf (frz r))).bind fun l => forL (fun x e1 => (bindP nk q x e1).bind fun e2 => evSs C np nk b e2) l e1).bind _ = _
  rw [h2]
  show (forL (fun x e1 => (bindP nk q x e1).bind fun e2 => evSs C np nk b e2) l e1).bind _ = _
  rw [h3]; rfl
theorem evSs_nx {C : Wx} {np : Nat} {nk : Nat → Bool} {s : Sm} {rest : List Sm} {e e1 : SEnv} (h : evS C np nk s e = .ok (.nx e1)) : evSs C np nk (s :: rest) e = evSs C np nk rest e1 := by
  show (evS C np nk s e).bind _ = _
  rw [h]; rfl
theorem evSs_rt {C : Wx} {np : Nat} {nk : Nat → Bool} {s : Sm} {rest : List Sm} {e e1 : SEnv} {r : Sl} (h : evS C np nk s e = .ok (.rt r e1)) : evSs C np nk (s :: rest) e = .ok (.rt r e1) := by
  show (evS C np nk s e).bind _ = _
  rw [h]; rfl
theorem total_loop {n : Nat} {nk : Nat → Bool} (h1 : nk 1 = false) (h2 : nk 2 = false) (L : Option Sl) : ∀ (xs : List Fq) (acc r : Fq) (s : Option Sl), mTotal acc xs = some r →
    ∃ s', forL (lp (n + 2) 1 nk (.n 2) [.asg (.n 1) (.call 7 [(.v 1), (.v 2)])]) (xs.map enc) [L, some (.d (enc acc)), s] = .ok (.nx [L, some (.d (enc r)), s'])
  | [], acc, r, s, h => by cases h; exact ⟨s, rfl⟩
  | x :: xs, acc, r, s, h => by
    unfold mTotal at h
    split at h
    · rename_i a ha
      have step : lp (n + 2) 1 nk (.n 2) [.asg (.n 1) (.call 7 [(.v 1), (.v 2)])] (enc x) [L, some (.d (enc acc)), s] = .ok (.nx [L, some (.d (enc a)), some (.d (enc x))]) := by
        simp [evF, evSs, evS, evE, evA, evO, evAnd, evOr, evTs, ar, itr, getE, setE, rd1, rdB, rdF, rdC, rdP, rdX, app1, app2, post, binD, cmpS, cmpD, bltD, ixD, slD, revD, isiD, isTys, isTy, negD, walkB, isWalk, bindS, bindP, bindPs, bindSs, retV, avOf, noErr, grd, opt, frz, truth, outs, lent, Res.bind, sizeMax, seqOf, notS, fin, back, backL, lost, setAt, appAt, augAt, popAt, Ev.itemOf, slots, slotsL, wipeE, putBack, hidOf, lp, Cn, plus ha, h1, h2]
      obtain ⟨s', q⟩ := total_loop h1 h2 L xs a r _ h
      exact ⟨s', (forL_nx step).trans q⟩
    · cases h
theorem total {n : Nat} {xs : List Fq} {L : D} {r : Fq} (hL : seqOf L = some (xs.map enc)) (h : mTotal (0, 1) xs = some r) : callN Tr.P (n + 3) 52 [.d L] = .ok (.d (enc r), [none]) := by
  rw [call_eq (n + 2) 52 _ Tr.f52 rfl]
  obtain ⟨s', q⟩ := total_loop (n := n) (nk := lent [.d L]) rfl rfl (some (.d L)) xs (0, 1) r none h
  refine evF_rt rfl (e := [some (.d L), some (.d (enc r)), s']) ?_
  refine (evSs_nx (e1 := [some (.d L), some (.d (enc (0, 1))), none]) rfl).trans ?_
  refine (evSs_for (r := .d L) rfl hL q).trans ?_
  rfl
end M

set_option Elab.async false
set_option linter.all false
set_option maxRecDepth 100000
set_option maxHeartbeats 1000000
/-! PyL61b: on. -/
namespace M
open PySem Ev
theorem evSs_whl {C : Wx} {np : Nat} {nk : Nat → Bool} {t : E} {b rest : List Sm} {e e1 : SEnv} (h : whlL (evE C true t) (evSs C np nk b) C.laps e = .ok (.nx e1)) : evSs C np nk (.whl t b :: rest) e = evSs C np nk rest e1 := evSs_nx h
theorem mul_l {i j : Int} (h1 : -18446744073709551616 < i) (h2 : i < 18446744073709551616) : mulOk i j = true := by simp [mulOk, h1, h2]
theorem mul_r {i j : Int} (h1 : -18446744073709551616 < j) (h2 : j < 18446744073709551616) : mulOk i j = true := by simp [mulOk, h1, h2]
/-! ### sums of teeth -/
def teeth (q p : Int) : List Int → Int → Int
  | [], acc => acc
  | own :: r, acc => teeth q p r (if (q * own).fmod p ≠ 0 then acc + (2 * own - p) * (2 * (q * own).fmod p - p) else acc)
def teethB : List Sm := [.asg (.n 4) (.bin .mod (.bin .mul (.v 0) (.v 3)) (.v 1)), .iff (.cmp .ne (.v 4) (.c (.int 0))) [.asg (.n 2) (.bin .add (.v 2) (.bin .mul (.bin .sub (.bin .mul (.c (.int 2)) (.v 3)) (.v 1)) (.bin .sub (.bin .mul (.c (.int 2)) (.v 4)) (.v 1))))] []]
theorem teeth_loop {n : Nat} {nk : Nat → Bool} (h2 : nk 2 = false) (h3 : nk 3 = false) (h4 : nk 4 = false) {q p : Int} (hq1 : -18446744073709551616 < q) (hq2 : q < 18446744073709551616) (hp1 : 0 < p) (hp2 : p < 1000000000) :
    ∀ (xs : List Int) (acc : Int) (s3 s4 : Option Sl), ∃ s3' s4', forL (lp n 2 nk (.n 3) teethB) (xs.map .int) [some (.d (.int q)), some (.d (.int p)), some (.d (.int acc)), s3, s4] =
      .ok (.nx [some (.d (.int q)), some (.d (.int p)), some (.d (.int (teeth q p xs acc))), s3', s4'])
  | [], acc, s3, s4 => ⟨s3, s4, rfl⟩
  | own :: r, acc, s3, s4 => by
    have g1 : mulOk q own = true := mul_l hq1 hq2
    have b1 := Int.fmod_nonneg_of_pos (q * own) hp1
    have b2 := Int.fmod_lt_of_pos (q * own) hp1
    have g2 : mulOk (2 * own - p) (2 * (q * own).fmod p - p) = true := mul_r (by omega) (by omega)
    have g3 : mulOk 2 own = true := mul_l (by decide) (by decide)
    have g4 : mulOk 2 ((q * own).fmod p) = true := mul_l (by decide) (by decide)
    have hp0 : p ≠ 0 := by omega
    have step : lp n 2 nk (.n 3) teethB (.int own) [some (.d (.int q)), some (.d (.int p)), some (.d (.int acc)), s3, s4] =
        .ok (.nx [some (.d (.int q)), some (.d (.int p)), some (.d (.int (if (q * own).fmod p ≠ 0 then acc + (2 * own - p) * (2 * (q * own).fmod p - p) else acc))), some (.d (.int own)), some (.d (.int ((q * own).fmod p)))]) := by
      by_cases h : (q * own).fmod p = 0 <;> simp [evF, evSs, evS, evE, evA, evO, evAnd, evOr, evTs, ar, itr, getE, setE, rd1, rdB, rdF, rdC, rdP, rdX, app1, app2, post, binD, cmpS, cmpD, bltD, ixD, slD, revD, isiD, isTys, isTy, negD, walkB, isWalk, bindS, bindP, bindPs, bindSs, retV, avOf, noErr, grd, opt, frz, truth, outs, lent, Res.bind, sizeMax, seqOf, notS, fin, back, backL, lost, setAt, appAt, augAt, popAt, Ev.itemOf, slots, slotsL, wipeE, putBack, hidOf, teethB, lp, Cn, h2, h3, h4, g1, g2, g3, g4, hp0, h]
    obtain ⟨s3', s4', e⟩ := teeth_loop h2 h3 h4 hq1 hq2 hp1 hp2 r _ _ _
    exact ⟨s3', s4', (forL_nx step).trans e⟩
theorem intR_map (a : Int) (n : Nat) : intR a n = ((List.range n).map fun k => a + (k : Nat)).map .int := by simp [intR]
def upto (p : Int) : List Int := (List.range (p - 1).toNat).map fun k => 1 + ((k : Nat) : Int)
def mAdded (q p : Int) : Option Fq := mLowest (teeth q p (upto p) 0) (4 * p * p)
theorem sum_added {n : Nat} {q p : Int} {r : Fq} (hq1 : -18446744073709551616 < q) (hq2 : q < 18446744073709551616) (hp1 : 0 < p) (hp2 : p < 1000000000) (h : mAdded q p = some r) :
    callN Tr.P (n + 2) 370 [.d (.int q), .d (.int p)] = .ok (.d (enc r), [none, none]) := by
  rw [call_eq (n + 1) 370 _ Tr.f370 rfl]
  have hr : rngOk p = true := by simp [rngOk]; omega
  obtain ⟨s3, s4, e⟩ := teeth_loop (n := n + 1) (nk := lent [.d (.int q), .d (.int p)]) rfl rfl rfl hq1 hq2 hp1 hp2 (upto p) 0 none none
  refine evF_rt rfl (e := [some (.d (.int q)), some (.d (.int p)), some (.d (.int (teeth q p (upto p) 0))), s3, s4]) ?_
  refine (evSs_nx (e1 := [some (.d (.int q)), some (.d (.int p)), some (.d (.int 0)), none, none]) rfl).trans ?_
  refine (evSs_for (r := .o (intR 1 (p - 1).toNat)) (l := intR 1 (p - 1).toNat) ?_ rfl (by rw [intR_map]; exact e)).trans ?_
  · simp [evF, evSs, evS, evE, evA, evO, evAnd, evOr, evTs, ar, itr, getE, setE, rd1, rdB, rdF, rdC, rdP, rdX, app1, app2, post, binD, cmpS, cmpD, bltD, ixD, slD, revD, isiD, isTys, isTy, negD, walkB, isWalk, bindS, bindP, bindPs, bindSs, retV, avOf, noErr, grd, opt, frz, truth, outs, lent, Res.bind, sizeMax, seqOf, notS, fin, back, backL, lost, setAt, appAt, augAt, popAt, Ev.itemOf, slots, slotsL, wipeE, putBack, hidOf, hr, show rngOk 1 = true from rfl]
  · have g1 : mulOk (4 * p) p = true := mul_l (by omega) (by omega)
    have g0 : mulOk 4 p = true := mul_l (by decide) (by decide)
    refine evSs_rt ?_
    simp [evF, evSs, evS, evE, evA, evO, evAnd, evOr, evTs, ar, itr, getE, setE, rd1, rdB, rdF, rdC, rdP, rdX, app1, app2, post, binD, cmpS, cmpD, bltD, ixD, slD, revD, isiD, isTys, isTy, negD, walkB, isWalk, bindS, bindP, bindPs, bindSs, retV, avOf, noErr, grd, opt, frz, truth, outs, lent, Res.bind, sizeMax, seqOf, notS, fin, back, backL, lost, setAt, appAt, augAt, popAt, Ev.itemOf, slots, slotsL, wipeE, putBack, hidOf, g0, g1, lowest_ok (n := n) h]
/-! ### the law's own fractions -/
def mGcd : Nat → Int → Int → Option Int
  | 0, _, _ => none
  | m + 1, a, b => if b ≠ 0 then mGcd m b (a.fmod b) else some (if a < 0 then -a else a)
theorem gcd_loop {n : Nat} {nk : Nat → Bool} (h0 : nk 0 = false) (h1 : nk 1 = false) : ∀ (m F : Nat) (a b r : Int), m ≤ F → mGcd m a b = some r →
    ∃ a', (if a' < 0 then -a' else a') = r ∧ whlL (evE (Cn n) true (.cmp .ne (.v 1) (.c (.int 0)))) (evSs (Cn n) 2 nk [.par [(.n 0), (.n 1)] [(.v 1), (.bin .mod (.v 0) (.v 1))]]) F [some (.d (.int a)), some (.d (.int b))] = .ok (.nx [some (.d (.int a')), some (.d (.int 0))])
  | 0, _, _, _, _, _, h => by cases h
  | m + 1, 0, _, _, _, hF, _ => absurd hF (by omega)
  | m + 1, F + 1, a, b, r, hF, h => by
    unfold mGcd at h
    split at h
    · rename_i hb
      obtain ⟨a', e1, e2⟩ := gcd_loop (n := n) h0 h1 m F b (a.fmod b) r (by omega) h
      refine ⟨a', e1, ?_⟩
      rw [← e2]
      simp [whlL, evF, evSs, evS, evE, evA, evO, evAnd, evOr, evTs, ar, itr, getE, setE, rd1, rdB, rdF, rdC, rdP, rdX, app1, app2, post, binD, cmpS, cmpD, bltD, ixD, slD, revD, isiD, isTys, isTy, negD, walkB, isWalk, bindS, bindP, bindPs, bindSs, retV, avOf, noErr, grd, opt, frz, truth, outs, lent, Res.bind, sizeMax, seqOf, notS, fin, back, backL, lost, setAt, appAt, augAt, popAt, Ev.itemOf, slots, slotsL, wipeE, putBack, hidOf, hb, h0, h1]
    · rename_i hb
      have hb' : b = 0 := by simpa using hb
      subst hb'
      cases h
      refine ⟨a, rfl, ?_⟩
      simp [whlL, evF, evSs, evS, evE, evA, evO, evAnd, evOr, evTs, ar, itr, getE, setE, rd1, rdB, rdF, rdC, rdP, rdX, app1, app2, post, binD, cmpS, cmpD, bltD, ixD, slD, revD, isiD, isTys, isTy, negD, walkB, isWalk, bindS, bindP, bindPs, bindSs, retV, avOf, noErr, grd, opt, frz, truth, outs, lent, Res.bind, sizeMax, seqOf, notS, fin, back, backL, lost, setAt, appAt, augAt, popAt, Ev.itemOf, slots, slotsL, wipeE, putBack, hidOf]
theorem law_gcd {n : Nat} {a b r : Int} (h : mGcd 200 a b = some r) : callN Tr.P (n + 1) 45 [.d (.int a), .d (.int b)] = .ok (.d (.int r), [none, none]) := by
  rw [call_eq n 45 _ Tr.f45 rfl]
  obtain ⟨a', e1, e2⟩ := gcd_loop (n := n) (nk := lent [.d (.int a), .d (.int b)]) rfl rfl 200 1000000 a b r (by decide) h
  refine evF_rt rfl (e := [some (.d (.int a')), some (.d (.int 0))]) ?_
  refine (evSs_whl e2).trans ?_
  refine evSs_rt ?_
  subst e1
  simp [evF, evSs, evS, evE, evA, evO, evAnd, evOr, evTs, ar, itr, getE, setE, rd1, rdB, rdF, rdC, rdP, rdX, app1, app2, post, binD, cmpS, cmpD, bltD, ixD, slD, revD, isiD, isTys, isTy, negD, walkB, isWalk, bindS, bindP, bindPs, bindSs, retV, avOf, noErr, grd, opt, frz, truth, outs, lent, Res.bind, sizeMax, seqOf, notS, fin, back, backL, lost, setAt, appAt, augAt, popAt, Ev.itemOf, slots, slotsL, wipeE, putBack, hidOf]
def mLow (a b : Int) : Option Fq := match mGcd 200 a b with
  | some g => if divOk g then some (a.fdiv g, b.fdiv g) else none
  | none => none
theorem law_low {n : Nat} {a b : Int} {r : Fq} (h : mLow a b = some r) : callN Tr.P (n + 2) 46 [.d (.int a), .d (.int b)] = .ok (.d (enc r), [none, none]) := by
  unfold mLow at h
  split at h
  · rename_i g hg
    split at h
    · rename_i hd
      cases h
      rw [call_eq (n + 1) 46 _ Tr.f46 rfl]
      simp [evF, evSs, evS, evE, evA, evO, evAnd, evOr, evTs, ar, itr, getE, setE, rd1, rdB, rdF, rdC, rdP, rdX, app1, app2, post, binD, cmpS, cmpD, bltD, ixD, slD, revD, isiD, isTys, isTy, negD, walkB, isWalk, bindS, bindP, bindPs, bindSs, retV, avOf, noErr, grd, opt, frz, truth, outs, lent, Res.bind, sizeMax, seqOf, notS, fin, back, backL, lost, setAt, appAt, augAt, popAt, Ev.itemOf, slots, slotsL, wipeE, putBack, hidOf, Tr.f46, law_gcd hg, hd, enc]
    · cases h
  · cases h
def lPlus (x y : Fq) : Option Fq := if mulOk x.1 y.2 && mulOk y.1 x.2 && mulOk x.2 y.2 then mLow (x.1 * y.2 + y.1 * x.2) (x.2 * y.2) else none
def lTimes (x y : Fq) : Option Fq := if mulOk x.1 y.1 && mulOk x.2 y.2 then mLow (x.1 * y.1) (x.2 * y.2) else none
theorem law_plus {n : Nat} {x y r : Fq} (h : lPlus x y = some r) : callN Tr.P (n + 3) 47 [.d (enc x), .d (enc y)] = .ok (.d (enc r), [none, none]) := by
  unfold lPlus at h
  split at h
  · rename_i g
    simp only [Bool.and_eq_true] at g
    rw [call_eq (n + 2) 47 _ Tr.f47 rfl]
    simp [evF, evSs, evS, evE, evA, evO, evAnd, evOr, evTs, ar, itr, getE, setE, rd1, rdB, rdF, rdC, rdP, rdX, app1, app2, post, binD, cmpS, cmpD, bltD, ixD, slD, revD, isiD, isTys, isTy, negD, walkB, isWalk, bindS, bindP, bindPs, bindSs, retV, avOf, noErr, grd, opt, frz, truth, outs, lent, Res.bind, sizeMax, seqOf, notS, fin, back, backL, lost, setAt, appAt, augAt, popAt, Ev.itemOf, slots, slotsL, wipeE, putBack, hidOf, Tr.f47, ixN, enc, g, law_low h]
  · cases h
theorem law_times {n : Nat} {x y r : Fq} (h : lTimes x y = some r) : callN Tr.P (n + 3) 72 [.d (enc x), .d (enc y)] = .ok (.d (enc r), [none, none]) := by
  unfold lTimes at h
  split at h
  · rename_i g
    simp only [Bool.and_eq_true] at g
    rw [call_eq (n + 2) 72 _ Tr.f72 rfl]
    simp [evF, evSs, evS, evE, evA, evO, evAnd, evOr, evTs, ar, itr, getE, setE, rd1, rdB, rdF, rdC, rdP, rdX, app1, app2, post, binD, cmpS, cmpD, bltD, ixD, slD, revD, isiD, isTys, isTy, negD, walkB, isWalk, bindS, bindP, bindPs, bindSs, retV, avOf, noErr, grd, opt, frz, truth, outs, lent, Res.bind, sizeMax, seqOf, notS, fin, back, backL, lost, setAt, appAt, augAt, popAt, Ev.itemOf, slots, slotsL, wipeE, putBack, hidOf, Tr.f72, ixN, enc, g, law_low h]
  · cases h
theorem law_minus {n : Nat} {x y r : Fq} (h : lPlus x (-y.1, y.2) = some r) : callN Tr.P (n + 4) 61 [.d (enc x), .d (enc y)] = .ok (.d (enc r), [none, none]) := by
  rw [call_eq (n + 3) 61 _ Tr.f61 rfl]
  have q := law_plus (n := n) h
  unfold enc at q ⊢
  simp [evF, evSs, evS, evE, evA, evO, evAnd, evOr, evTs, ar, itr, getE, setE, rd1, rdB, rdF, rdC, rdP, rdX, app1, app2, post, binD, cmpS, cmpD, bltD, ixD, slD, revD, isiD, isTys, isTy, negD, walkB, isWalk, bindS, bindP, bindPs, bindSs, retV, avOf, noErr, grd, opt, frz, truth, outs, lent, Res.bind, sizeMax, seqOf, notS, fin, back, backL, lost, setAt, appAt, augAt, popAt, Ev.itemOf, slots, slotsL, wipeE, putBack, hidOf, Tr.f61, ixN, q]
end M

set_option Elab.async false
set_option linter.all false
set_option maxRecDepth 100000
set_option maxHeartbeats 1000000
/-! PyL61c: on. -/
namespace M
open PySem Ev
theorem law_saw {n : Nat} {q p : Int} {r : Fq} (hq1 : -18446744073709551616 < q) (hq2 : q < 18446744073709551616) (hp1 : 0 < p) (hp2 : p < 1000000000) (h : mLow (teeth q p (upto p) 0) (4 * p * p) = some r) :
    callN Tr.P (n + 3) 400 [.d (.int q), .d (.int p)] = .ok (.d (enc r), [none, none]) := by
  rw [call_eq (n + 2) 400 _ Tr.f400 rfl]
  have hr : rngOk p = true := by simp [rngOk]; omega
  obtain ⟨s3, s4, e⟩ := teeth_loop (n := n + 2) (nk := lent [.d (.int q), .d (.int p)]) rfl rfl rfl hq1 hq2 hp1 hp2 (upto p) 0 none none
  refine evF_rt rfl (e := [some (.d (.int q)), some (.d (.int p)), some (.d (.int (teeth q p (upto p) 0))), s3, s4]) ?_
  refine (evSs_nx (e1 := [some (.d (.int q)), some (.d (.int p)), some (.d (.int 0)), none, none]) rfl).trans ?_
  refine (evSs_for (r := .o (intR 1 (p - 1).toNat)) (l := intR 1 (p - 1).toNat) ?_ rfl (by rw [intR_map]; exact e)).trans ?_
  · simp [evF, evSs, evS, evE, evA, evO, evAnd, evOr, evTs, ar, itr, getE, setE, rd1, rdB, rdF, rdC, rdP, rdX, app1, app2, post, binD, cmpS, cmpD, bltD, ixD, slD, revD, isiD, isTys, isTy, negD, walkB, isWalk, bindS, bindP, bindPs, bindSs, retV, avOf, noErr, grd, opt, frz, truth, outs, lent, Res.bind, sizeMax, seqOf, notS, fin, back, backL, lost, setAt, appAt, augAt, popAt, Ev.itemOf, slots, slotsL, wipeE, putBack, hidOf, hr, show rngOk 1 = true from rfl]
  · have g1 : mulOk (4 * p) p = true := mul_l (by omega) (by omega)
    have g0 : mulOk 4 p = true := mul_l (by decide) (by decide)
    refine evSs_rt ?_
    simp [evF, evSs, evS, evE, evA, evO, evAnd, evOr, evTs, ar, itr, getE, setE, rd1, rdB, rdF, rdC, rdP, rdX, app1, app2, post, binD, cmpS, cmpD, bltD, ixD, slD, revD, isiD, isTys, isTy, negD, walkB, isWalk, bindS, bindP, bindPs, bindSs, retV, avOf, noErr, grd, opt, frz, truth, outs, lent, Res.bind, sizeMax, seqOf, notS, fin, back, backL, lost, setAt, appAt, augAt, popAt, Ev.itemOf, slots, slotsL, wipeE, putBack, hidOf, g0, g1, law_low (n := n) h]
def lTotal : Fq → List Fq → Option Fq
  | acc, [] => some acc
  | acc, x :: r => match lPlus acc x with
    | some a => lTotal a r
    | none => none
theorem law_total_loop {n : Nat} {nk : Nat → Bool} (h1 : nk 1 = false) (h2 : nk 2 = false) (L : Option Sl) : ∀ (xs : List Fq) (acc r : Fq) (s : Option Sl), lTotal acc xs = some r →
    ∃ s', forL (lp (n + 3) 1 nk (.n 2) [.asg (.n 1) (.call 47 [(.v 1), (.v 2)])]) (xs.map enc) [L, some (.d (enc acc)), s] = .ok (.nx [L, some (.d (enc r)), s'])
  | [], acc, r, s, h => by cases h; exact ⟨s, rfl⟩
  | x :: xs, acc, r, s, h => by
    unfold lTotal at h
    split at h
    · rename_i a ha
      have step : lp (n + 3) 1 nk (.n 2) [.asg (.n 1) (.call 47 [(.v 1), (.v 2)])] (enc x) [L, some (.d (enc acc)), s] = .ok (.nx [L, some (.d (enc a)), some (.d (enc x))]) := by
        simp [evF, evSs, evS, evE, evA, evO, evAnd, evOr, evTs, ar, itr, getE, setE, rd1, rdB, rdF, rdC, rdP, rdX, app1, app2, post, binD, cmpS, cmpD, bltD, ixD, slD, revD, isiD, isTys, isTy, negD, walkB, isWalk, bindS, bindP, bindPs, bindSs, retV, avOf, noErr, grd, opt, frz, truth, outs, lent, Res.bind, sizeMax, seqOf, notS, fin, back, backL, lost, setAt, appAt, augAt, popAt, Ev.itemOf, slots, slotsL, wipeE, putBack, hidOf, lp, Cn, law_plus ha, h1, h2]
      obtain ⟨s', q⟩ := law_total_loop h1 h2 L xs a r _ h
      exact ⟨s', (forL_nx step).trans q⟩
    · cases h
theorem law_total {n : Nat} {xs : List Fq} {L : D} {r : Fq} (hL : seqOf L = some (xs.map enc)) (h : lTotal (0, 1) xs = some r) : callN Tr.P (n + 4) 48 [.d L] = .ok (.d (enc r), [none]) := by
  rw [call_eq (n + 3) 48 _ Tr.f48 rfl]
  obtain ⟨s', q⟩ := law_total_loop (n := n) (nk := lent [.d L]) rfl rfl (some (.d L)) xs (0, 1) r none h
  refine evF_rt rfl (e := [some (.d L), some (.d (enc r)), s']) ?_
  refine (evSs_nx (e1 := [some (.d L), some (.d (enc (0, 1))), none]) rfl).trans ?_
  refine (evSs_for (r := .d L) rfl hL q).trans ?_
  rfl
/-! ### comprehensions -/
theorem evE_lc {C : Wx} {elt it : E} {q : Pat} {ifs : List E} {e e1 e2 : SEnv} {l ys : List D} (h1 : itr it e (evE C false it e) = .ok (l, e1)) (h2 : lcL (EvS.lap C q ifs elt) l [] (wipeE e1 (hidOf it)) = .ok (ys, e2)) :
    evE C false (.lc elt q it ifs) e = .ok (.o ys, putBack e2 e1 (slots q ++ hidOf it)) := by
  show ((itr it e (evE C false it e)).bind fun p => (lcL (EvS.lap C q ifs elt) p.1 [] (wipeE p.2 (hidOf it))).bind fun r => (Res.ok (Sl.o r.1, putBack r.2 p.2 (slots q ++ hidOf it)) : Res (Sl × SEnv))) = _
  rw [h1]
  show ((lcL (EvS.lap C q ifs elt) l [] (wipeE e1 (hidOf it))).bind fun r => (Res.ok (Sl.o r.1, putBack r.2 e1 (slots q ++ hidOf it)) : Res (Sl × SEnv))) = _
  rw [h2]; rfl
/-- a comprehension's laps: I what the slots are -/
theorem lcL_all {α : Type} {f : D → SEnv → Res (Option D × SEnv)} {ι : α → D} {g : α → Option D} {I : SEnv → Prop} (hf : ∀ x e, I e → ∃ e', I e' ∧ f (ι x) e = .ok (g x, e')) :
    ∀ (xs : List α) (acc : List D) (e : SEnv), I e → acc.length + xs.length ≤ sizeMax → ∃ e', I e' ∧ lcL f (xs.map ι) acc e = .ok (acc ++ xs.filterMap g, e')
  | [], acc, e, hI, _ => ⟨e, hI, by simp [lcL]⟩
  | x :: xs, acc, e, hI, hl => by
    obtain ⟨e1, hI1, h1⟩ := hf x e hI
    simp only [List.length_cons] at hl
    cases hg : g x with
    | none =>
      rw [hg] at h1
      obtain ⟨e', q1, q2⟩ := lcL_all hf xs acc e1 hI1 (by omega)
      refine ⟨e', q1, ?_⟩
      show lcL f (ι x :: xs.map ι) acc e = _
      rw [lcL, h1]
      simp only [q2, List.filterMap_cons, hg]
    | some y =>
      rw [hg] at h1
      obtain ⟨e', q1, q2⟩ := lcL_all hf xs (acc ++ [y]) e1 hI1 (by simp; omega)
      refine ⟨e', q1, ?_⟩
      show lcL f (ι x :: xs.map ι) acc e = _
      rw [lcL, h1]
      have : decide (acc.length < sizeMax) = true := decide_eq_true (by omega)
      simp only [this, grd, q2, List.filterMap_cons, hg, List.append_assoc, List.singleton_append]
/-! ### steps -/
def mStep : Nat → Fq → Int → Int → Int → Int → Option Fq
  | 0, _, _, _, _, _ => none
  | m + 1, found, sign, above, below, at_ => if 1 < above then
      (if powOk (2 * at_ + 1 - above - below) 2 && mulOk above below && mulOk (4 * above) below && decide (below ≠ 0) then match mLowest ((2 * at_ + 1 - above - below) ^ 2 - above * below) (4 * above * below) with
        | some own => if mulOk (-sign) own.1 then match mMinus found (-sign * own.1, own.2) with
          | some f => mStep m f (-sign) below (above.fmod below) (at_.fmod below)
          | none => none
          else none
        | none => none
        else none)
    else some found
def stepT : E := .cmp .gt (.v 4) (.c (.int 1))
def stepB : List Sm := [.asg (.n 7) (.call 3 [(.bin .sub (.bin .pow (.bin .sub (.bin .sub (.bin .add (.bin .mul (.c (.int 2)) (.v 6)) (.c (.int 1))) (.v 4)) (.v 5)) (.c (.int 2))) (.bin .mul (.v 4) (.v 5))), (.bin .mul (.bin .mul (.c (.int 4)) (.v 4)) (.v 5))]), .asg (.n 2) (.call 25 [(.v 2), (.tup [(.bin .mul (.neg (.v 3)) (.ix (.v 7) (.c (.int 0)))), (.ix (.v 7) (.c (.int 1)))])]), .asg (.t [(.n 3), (.n 4), (.n 5), (.n 6)]) (.tup [(.neg (.v 3)), (.v 5), (.bin .mod (.v 4) (.v 5)), (.bin .mod (.v 6) (.v 5))])]
theorem step_loop {n : Nat} {nk : Nat → Bool} (h2 : nk 2 = false) (h3 : nk 3 = false) (h4 : nk 4 = false) (h5 : nk 5 = false) (h6 : nk 6 = false) (h7 : nk 7 = false) (a0 a1 : Option Sl) : ∀ (m F : Nat) (found r : Fq) (sign above below at_ : Int) (s7 : Option Sl), m ≤ F → mStep m found sign above below at_ = some r →
    ∃ e', getE e' 2 = some (.d (enc r)) ∧ whlL (evE (Cn (n + 2)) true stepT) (evSs (Cn (n + 2)) 2 nk stepB) F [a0, a1, some (.d (enc found)), some (.d (.int sign)), some (.d (.int above)), some (.d (.int below)), some (.d (.int at_)), s7] = .ok (.nx e')
  | 0, _, _, _, _, _, _, _, _, _, h => by cases h
  | m + 1, 0, _, _, _, _, _, _, _, hF, _ => absurd hF (by omega)
  | m + 1, F + 1, found, r, sign, above, below, at_, s7, hF, h => by
    unfold mStep at h
    split at h
    · rename_i ha
      split at h
      · rename_i g
        simp only [Bool.and_eq_true, decide_eq_true_eq] at g
        obtain ⟨⟨⟨g1, g2⟩, g3⟩, g4⟩ := g
        split at h
        · rename_i own ho
          split at h
          · rename_i g5
            split at h
            · rename_i f hf
              obtain ⟨e', q1, q2⟩ := step_loop h2 h3 h4 h5 h6 h7 a0 a1 m F f r (-sign) below (above.fmod below) (at_.fmod below) (some (.d (enc own))) (by omega) h
              refine ⟨e', q1, ?_⟩
              rw [← q2]
              have g0 : mulOk 2 at_ = true := mul_l (by decide) (by decide)
              have g6 : mulOk 4 above = true := mul_l (by decide) (by decide)
              have ho' := lowest_ok (n := n + 1) ho
              have hf' := minus (n := n) hf
              have lap : evSs (Cn (n + 2)) 2 nk stepB [a0, a1, some (.d (enc found)), some (.d (.int sign)), some (.d (.int above)), some (.d (.int below)), some (.d (.int at_)), s7] =
                  .ok (.nx [a0, a1, some (.d (enc f)), some (.d (.int (-sign))), some (.d (.int below)), some (.d (.int (above.fmod below))), some (.d (.int (at_.fmod below))), some (.d (enc own))]) := by
                refine (evSs_nx (e1 := [a0, a1, some (.d (enc found)), some (.d (.int sign)), some (.d (.int above)), some (.d (.int below)), some (.d (.int at_)), some (.d (enc own))]) ?_).trans ?_
                · simp [evF, evSs, evS, evE, evA, evO, evAnd, evOr, evTs, ar, itr, getE, setE, rd1, rdB, rdF, rdC, rdP, rdX, app1, app2, post, binD, cmpS, cmpD, bltD, ixD, slD, revD, isiD, isTys, isTy, negD, walkB, isWalk, bindS, bindP, bindPs, bindSs, retV, avOf, noErr, grd, opt, frz, truth, outs, lent, Res.bind, sizeMax, seqOf, notS, fin, back, backL, lost, setAt, appAt, augAt, popAt, Ev.itemOf, slots, slotsL, wipeE, putBack, hidOf, g0, g1, g2, g3, g6, h7, ho']
                refine (evSs_nx (e1 := [a0, a1, some (.d (enc f)), some (.d (.int sign)), some (.d (.int above)), some (.d (.int below)), some (.d (.int at_)), some (.d (enc own))]) ?_).trans ?_
                · unfold enc at hf' ⊢
                  simp [evF, evSs, evS, evE, evA, evO, evAnd, evOr, evTs, ar, itr, getE, setE, rd1, rdB, rdF, rdC, rdP, rdX, app1, app2, post, binD, cmpS, cmpD, bltD, ixD, slD, revD, isiD, isTys, isTy, negD, walkB, isWalk, bindS, bindP, bindPs, bindSs, retV, avOf, noErr, grd, opt, frz, truth, outs, lent, Res.bind, sizeMax, seqOf, notS, fin, back, backL, lost, setAt, appAt, augAt, popAt, Ev.itemOf, slots, slotsL, wipeE, putBack, hidOf, ixN, g5, h2, hf']
                · simp [evF, evSs, evS, evE, evA, evO, evAnd, evOr, evTs, ar, itr, getE, setE, rd1, rdB, rdF, rdC, rdP, rdX, app1, app2, post, binD, cmpS, cmpD, bltD, ixD, slD, revD, isiD, isTys, isTy, negD, walkB, isWalk, bindS, bindP, bindPs, bindSs, retV, avOf, noErr, grd, opt, frz, truth, outs, lent, Res.bind, sizeMax, seqOf, notS, fin, back, backL, lost, setAt, appAt, augAt, popAt, Ev.itemOf, slots, slotsL, wipeE, putBack, hidOf, g4, h3, h4, h5, h6]
              show ((evE (Cn (n + 2)) true stepT [a0, a1, some (.d (enc found)), some (.d (.int sign)), some (.d (.int above)), some (.d (.int below)), some (.d (.int at_)), s7]).bind _) = _
              have ht : evE (Cn (n + 2)) true stepT [a0, a1, some (.d (enc found)), some (.d (.int sign)), some (.d (.int above)), some (.d (.int below)), some (.d (.int at_)), s7] = .ok (.d (.bool true), [a0, a1, some (.d (enc found)), some (.d (.int sign)), some (.d (.int above)), some (.d (.int below)), some (.d (.int at_)), s7]) := by
                simp [evF, evSs, evS, evE, evA, evO, evAnd, evOr, evTs, ar, itr, getE, setE, rd1, rdB, rdF, rdC, rdP, rdX, app1, app2, post, binD, cmpS, cmpD, bltD, ixD, slD, revD, isiD, isTys, isTy, negD, walkB, isWalk, bindS, bindP, bindPs, bindSs, retV, avOf, noErr, grd, opt, frz, truth, outs, lent, Res.bind, sizeMax, seqOf, notS, fin, back, backL, lost, setAt, appAt, augAt, popAt, Ev.itemOf, slots, slotsL, wipeE, putBack, hidOf, stepT, ha]
              rw [ht]
              show (evSs (Cn (n + 2)) 2 nk stepB _).bind _ = _
              rw [lap]; rfl
            · cases h
          · cases h
        · cases h
      · cases h
    · rename_i ha
      cases h
      refine ⟨[a0, a1, some (.d (enc found)), some (.d (.int sign)), some (.d (.int above)), some (.d (.int below)), some (.d (.int at_)), s7], rfl, ?_⟩
      show ((evE (Cn (n + 2)) true stepT [a0, a1, some (.d (enc found)), some (.d (.int sign)), some (.d (.int above)), some (.d (.int below)), some (.d (.int at_)), s7]).bind _) = _
      have ht : evE (Cn (n + 2)) true stepT [a0, a1, some (.d (enc found)), some (.d (.int sign)), some (.d (.int above)), some (.d (.int below)), some (.d (.int at_)), s7] = .ok (.d (.bool false), [a0, a1, some (.d (enc found)), some (.d (.int sign)), some (.d (.int above)), some (.d (.int below)), some (.d (.int at_)), s7]) := by
        simp [evF, evSs, evS, evE, evA, evO, evAnd, evOr, evTs, ar, itr, getE, setE, rd1, rdB, rdF, rdC, rdP, rdX, app1, app2, post, binD, cmpS, cmpD, bltD, ixD, slD, revD, isiD, isTys, isTy, negD, walkB, isWalk, bindS, bindP, bindPs, bindSs, retV, avOf, noErr, grd, opt, frz, truth, outs, lent, Res.bind, sizeMax, seqOf, notS, fin, back, backL, lost, setAt, appAt, augAt, popAt, Ev.itemOf, slots, slotsL, wipeE, putBack, hidOf, stepT, ha]
      rw [ht]; rfl
theorem step_by {n : Nat} {p q i : Int} {r : Fq} (h : mStep 100 (0, 1) 1 p q i = some r) : callN Tr.P (n + 3) 372 [.d (enc (p, q)), .d (.int i)] = .ok (.d (enc r), [none, none]) := by
  rw [call_eq (n + 2) 372 _ Tr.f372 rfl]
  obtain ⟨e', q1, q2⟩ := step_loop (n := n) (nk := lent [.d (enc (p, q)), .d (.int i)]) rfl rfl rfl rfl rfl rfl (some (.d (enc (p, q)))) (some (.d (.int i))) 100 1000000 (0, 1) r 1 p q i none (by decide) h
  refine evF_rt rfl (e := e') ?_
  refine (evSs_nx (e1 := [some (.d (enc (p, q))), some (.d (.int i)), some (.d (enc (0, 1))), some (.d (.int 1)), none, none, none, none]) rfl).trans ?_
  refine (evSs_nx (e1 := [some (.d (enc (p, q))), some (.d (.int i)), some (.d (enc (0, 1))), some (.d (.int 1)), some (.d (.int p)), some (.d (.int q)), some (.d (.int i)), none]) rfl).trans ?_
  refine (evSs_whl q2).trans ?_
  refine evSs_rt ?_
  simp [evF, evSs, evS, evE, evA, evO, evAnd, evOr, evTs, ar, itr, getE, setE, rd1, rdB, rdF, rdC, rdP, rdX, app1, app2, post, binD, cmpS, cmpD, bltD, ixD, slD, revD, isiD, isTys, isTy, negD, walkB, isWalk, bindS, bindP, bindPs, bindSs, retV, avOf, noErr, grd, opt, frz, truth, outs, lent, Res.bind, sizeMax, seqOf, notS, fin, back, backL, lost, setAt, appAt, augAt, popAt, Ev.itemOf, slots, slotsL, wipeE, putBack, hidOf, q1]
end M

set_option Elab.async false
set_option linter.all false
set_option maxRecDepth 100000
set_option maxHeartbeats 1000000
/-! PyL61d: on. -/
namespace M
open PySem Ev
/-! ### saws by the exchange -/
def mSum : Nat → Fq → Int → Int → Int → Option Fq
  | 0, _, _, _, _ => none
  | m + 1, found, sign, one, other => if 0 < one then
      (if mulOk one one && mulOk other other && mulOk (3 * one) other && mulOk (12 * one) other then match mLowest (one * one + other * other + 1 - 3 * one * other) (12 * one * other) with
        | some part => match mTimes (sign, 1) part with
          | some t => match mPlus found t with
            | some f => mSum m f (-sign) (other.fmod one) one
            | none => none
          | none => none
        | none => none
        else none)
    else some found
def sumT : E := .cmp .gt (.v 4) (.c (.int 0))
def sumB : List Sm := [.asg (.n 6) (.call 3 [(.bin .sub (.bin .add (.bin .add (.bin .mul (.v 4) (.v 4)) (.bin .mul (.v 5) (.v 5))) (.c (.int 1))) (.bin .mul (.bin .mul (.c (.int 3)) (.v 4)) (.v 5))), (.bin .mul (.bin .mul (.c (.int 12)) (.v 4)) (.v 5))]), .asg (.n 2) (.call 7 [(.v 2), (.call 23 [(.tup [(.v 3), (.c (.int 1))]), (.v 6)])]), .par [(.n 3), (.n 4), (.n 5)] [(.neg (.v 3)), (.bin .mod (.v 5) (.v 4)), (.v 4)]]
theorem sum_loop {n : Nat} {nk : Nat → Bool} (h2 : nk 2 = false) (h3 : nk 3 = false) (h4 : nk 4 = false) (h5 : nk 5 = false) (h6 : nk 6 = false) (a0 a1 : Option Sl) : ∀ (m F : Nat) (found r : Fq) (sign one other : Int) (s6 : Option Sl), m ≤ F → mSum m found sign one other = some r →
    ∃ e', getE e' 2 = some (.d (enc r)) ∧ whlL (evE (Cn (n + 2)) true sumT) (evSs (Cn (n + 2)) 2 nk sumB) F [a0, a1, some (.d (enc found)), some (.d (.int sign)), some (.d (.int one)), some (.d (.int other)), s6] = .ok (.nx e')
  | 0, _, _, _, _, _, _, _, _, h => by cases h
  | m + 1, 0, _, _, _, _, _, _, hF, _ => absurd hF (by omega)
  | m + 1, F + 1, found, r, sign, one, other, s6, hF, h => by
    unfold mSum at h
    split at h
    · rename_i ha
      split at h
      · rename_i g
        simp only [Bool.and_eq_true] at g
        obtain ⟨⟨⟨g1, g2⟩, g3⟩, g4⟩ := g
        split at h
        · rename_i part hp
          split at h
          · rename_i t ht
            split at h
            · rename_i f hf
              obtain ⟨e', q1, q2⟩ := sum_loop h2 h3 h4 h5 h6 a0 a1 m F f r (-sign) (other.fmod one) one (some (.d (enc part))) (by omega) h
              refine ⟨e', q1, ?_⟩
              rw [← q2]
              have g5 : mulOk 3 one = true := mul_l (by decide) (by decide)
              have g6 : mulOk 12 one = true := mul_l (by decide) (by decide)
              have k1 := lowest_ok (n := n + 1) hp
              have k2 := times (n := n) ht
              have k3 := plus (n := n) hf
              have lap : evSs (Cn (n + 2)) 2 nk sumB [a0, a1, some (.d (enc found)), some (.d (.int sign)), some (.d (.int one)), some (.d (.int other)), s6] =
                  .ok (.nx [a0, a1, some (.d (enc f)), some (.d (.int (-sign))), some (.d (.int (other.fmod one))), some (.d (.int one)), some (.d (enc part))]) := by
                refine (evSs_nx (e1 := [a0, a1, some (.d (enc found)), some (.d (.int sign)), some (.d (.int one)), some (.d (.int other)), some (.d (enc part))]) ?_).trans ?_
                · simp [evF, evSs, evS, evE, evA, evO, evAnd, evOr, evTs, ar, itr, getE, setE, rd1, rdB, rdF, rdC, rdP, rdX, app1, app2, post, binD, cmpS, cmpD, bltD, ixD, slD, revD, isiD, isTys, isTy, negD, walkB, isWalk, bindS, bindP, bindPs, bindSs, retV, avOf, noErr, grd, opt, frz, truth, outs, lent, Res.bind, sizeMax, seqOf, notS, fin, back, backL, lost, setAt, appAt, augAt, popAt, Ev.itemOf, slots, slotsL, wipeE, putBack, hidOf, g1, g2, g3, g4, g5, g6, h6, k1]
                refine (evSs_nx (e1 := [a0, a1, some (.d (enc f)), some (.d (.int sign)), some (.d (.int one)), some (.d (.int other)), some (.d (enc part))]) ?_).trans ?_
                · unfold enc at k2 k3 ⊢
                  simp [evF, evSs, evS, evE, evA, evO, evAnd, evOr, evTs, ar, itr, getE, setE, rd1, rdB, rdF, rdC, rdP, rdX, app1, app2, post, binD, cmpS, cmpD, bltD, ixD, slD, revD, isiD, isTys, isTy, negD, walkB, isWalk, bindS, bindP, bindPs, bindSs, retV, avOf, noErr, grd, opt, frz, truth, outs, lent, Res.bind, sizeMax, seqOf, notS, fin, back, backL, lost, setAt, appAt, augAt, popAt, Ev.itemOf, slots, slotsL, wipeE, putBack, hidOf, h2, k2, k3]
                · simp [evF, evSs, evS, evE, evA, evO, evAnd, evOr, evTs, ar, itr, getE, setE, rd1, rdB, rdF, rdC, rdP, rdX, app1, app2, post, binD, cmpS, cmpD, bltD, ixD, slD, revD, isiD, isTys, isTy, negD, walkB, isWalk, bindS, bindP, bindPs, bindSs, retV, avOf, noErr, grd, opt, frz, truth, outs, lent, Res.bind, sizeMax, seqOf, notS, fin, back, backL, lost, setAt, appAt, augAt, popAt, Ev.itemOf, slots, slotsL, wipeE, putBack, hidOf, show one ≠ 0 by omega, h3, h4, h5]
              have tt : evE (Cn (n + 2)) true sumT [a0, a1, some (.d (enc found)), some (.d (.int sign)), some (.d (.int one)), some (.d (.int other)), s6] = .ok (.d (.bool true), [a0, a1, some (.d (enc found)), some (.d (.int sign)), some (.d (.int one)), some (.d (.int other)), s6]) := by
                simp [evF, evSs, evS, evE, evA, evO, evAnd, evOr, evTs, ar, itr, getE, setE, rd1, rdB, rdF, rdC, rdP, rdX, app1, app2, post, binD, cmpS, cmpD, bltD, ixD, slD, revD, isiD, isTys, isTy, negD, walkB, isWalk, bindS, bindP, bindPs, bindSs, retV, avOf, noErr, grd, opt, frz, truth, outs, lent, Res.bind, sizeMax, seqOf, notS, fin, back, backL, lost, setAt, appAt, augAt, popAt, Ev.itemOf, slots, slotsL, wipeE, putBack, hidOf, sumT, ha]
              show ((evE (Cn (n + 2)) true sumT [a0, a1, some (.d (enc found)), some (.d (.int sign)), some (.d (.int one)), some (.d (.int other)), s6]).bind _) = _
              rw [tt]
              show (evSs (Cn (n + 2)) 2 nk sumB _).bind _ = _
              rw [lap]; rfl
            · cases h
          · cases h
        · cases h
      · cases h
    · rename_i ha
      cases h
      refine ⟨[a0, a1, some (.d (enc found)), some (.d (.int sign)), some (.d (.int one)), some (.d (.int other)), s6], rfl, ?_⟩
      have tt : evE (Cn (n + 2)) true sumT [a0, a1, some (.d (enc found)), some (.d (.int sign)), some (.d (.int one)), some (.d (.int other)), s6] = .ok (.d (.bool false), [a0, a1, some (.d (enc found)), some (.d (.int sign)), some (.d (.int one)), some (.d (.int other)), s6]) := by
        simp [evF, evSs, evS, evE, evA, evO, evAnd, evOr, evTs, ar, itr, getE, setE, rd1, rdB, rdF, rdC, rdP, rdX, app1, app2, post, binD, cmpS, cmpD, bltD, ixD, slD, revD, isiD, isTys, isTy, negD, walkB, isWalk, bindS, bindP, bindPs, bindSs, retV, avOf, noErr, grd, opt, frz, truth, outs, lent, Res.bind, sizeMax, seqOf, notS, fin, back, backL, lost, setAt, appAt, augAt, popAt, Ev.itemOf, slots, slotsL, wipeE, putBack, hidOf, sumT, ha]
      show ((evE (Cn (n + 2)) true sumT [a0, a1, some (.d (enc found)), some (.d (.int sign)), some (.d (.int one)), some (.d (.int other)), s6]).bind _) = _
      rw [tt]; rfl
def mSumBy (q p : Int) : Option Fq := if p ≠ 0 then mSum 100 (0, 1) 1 (q.fmod p) p else none
theorem sum_by {n : Nat} {q p : Int} {r : Fq} (h : mSumBy q p = some r) : callN Tr.P (n + 3) 160 [.d (.int q), .d (.int p)] = .ok (.d (enc r), [none, none]) := by
  unfold mSumBy at h
  split at h
  · rename_i hp
    rw [call_eq (n + 2) 160 _ Tr.f160 rfl]
    obtain ⟨e', q1, q2⟩ := sum_loop (n := n) (nk := lent [.d (.int q), .d (.int p)]) rfl rfl rfl rfl rfl (some (.d (.int q))) (some (.d (.int p))) 100 1000000 (0, 1) r 1 (q.fmod p) p none (by decide) h
    have g : Tr.glob 3 = some (enc (0, 1)) := rfl
    refine evF_rt rfl (e := e') ?_
    refine (evSs_nx (e1 := [some (.d (.int q)), some (.d (.int p)), some (.d (enc (0, 1))), some (.d (.int 1)), some (.d (.int (q.fmod p))), some (.d (.int p)), none]) ?_).trans ?_
    · simp [evF, evSs, evS, evE, evA, evO, evAnd, evOr, evTs, ar, itr, getE, setE, rd1, rdB, rdF, rdC, rdP, rdX, app1, app2, post, binD, cmpS, cmpD, bltD, ixD, slD, revD, isiD, isTys, isTy, negD, walkB, isWalk, bindS, bindP, bindPs, bindSs, retV, avOf, noErr, grd, opt, frz, truth, outs, lent, Res.bind, sizeMax, seqOf, notS, fin, back, backL, lost, setAt, appAt, augAt, popAt, Ev.itemOf, slots, slotsL, wipeE, putBack, hidOf, Tr.f160, g, hp, List.replicate]
    refine (evSs_whl q2).trans ?_
    refine evSs_rt ?_
    simp [evF, evSs, evS, evE, evA, evO, evAnd, evOr, evTs, ar, itr, getE, setE, rd1, rdB, rdF, rdC, rdP, rdX, app1, app2, post, binD, cmpS, cmpD, bltD, ixD, slD, revD, isiD, isTys, isTy, negD, walkB, isWalk, bindS, bindP, bindPs, bindSs, retV, avOf, noErr, grd, opt, frz, truth, outs, lent, Res.bind, sizeMax, seqOf, notS, fin, back, backL, lost, setAt, appAt, augAt, popAt, Ev.itemOf, slots, slotsL, wipeE, putBack, hidOf, q1]
  · cases h
theorem g68 : Tr.glob 68 = some (.int 1000000) := rfl
theorem sure_number {n : Nat} {q : Int} (h1 : -1000000 ≤ q) (h2 : q ≤ 1000000) : callN Tr.P (n + 3) 368 [.d (.int q)] = .ok (.d (.int q), [none]) := by
  rw [call_eq (n + 2) 368 _ Tr.f368 rfl]
  simp [evF, evSs, evS, evE, evA, evO, evAnd, evOr, evTs, ar, itr, getE, setE, rd1, rdB, rdF, rdC, rdP, rdX, app1, app2, post, binD, cmpS, cmpD, bltD, ixD, slD, revD, isiD, isTys, isTy, negD, walkB, isWalk, bindS, bindP, bindPs, bindSs, retV, avOf, noErr, grd, opt, frz, truth, outs, lent, Res.bind, sizeMax, seqOf, notS, fin, back, backL, lost, setAt, appAt, augAt, popAt, Ev.itemOf, slots, slotsL, wipeE, putBack, hidOf, Tr.f368, g68, is_within, h1, h2]
theorem sure_below {n : Nat} {q : Int} (h1 : 1 ≤ q) (h2 : q ≤ 1000000) : callN Tr.P (n + 3) 369 [.d (.int q)] = .ok (.d (.int q), [none]) := by
  rw [call_eq (n + 2) 369 _ Tr.f369 rfl]
  simp [evF, evSs, evS, evE, evA, evO, evAnd, evOr, evTs, ar, itr, getE, setE, rd1, rdB, rdF, rdC, rdP, rdX, app1, app2, post, binD, cmpS, cmpD, bltD, ixD, slD, revD, isiD, isTys, isTy, negD, walkB, isWalk, bindS, bindP, bindPs, bindSs, retV, avOf, noErr, grd, opt, frz, truth, outs, lent, Res.bind, sizeMax, seqOf, notS, fin, back, backL, lost, setAt, appAt, augAt, popAt, Ev.itemOf, slots, slotsL, wipeE, putBack, hidOf, Tr.f369, g68, is_within, h1, h2]
theorem saw {n : Nat} {q p : Int} {r : Fq} (h1 : -1000000 ≤ q) (h2 : q ≤ 1000000) (h3 : 1 ≤ p) (h4 : p ≤ 1000000) (hg : Nat.gcd q.natAbs p.natAbs = 1) (h : mSumBy q p = some r) : callN Tr.P (n + 4) 371 [.d (.int q), .d (.int p)] = .ok (.d (enc r), [none, none]) := by
  rw [call_eq (n + 3) 371 _ Tr.f371 rfl]
  simp [evF, evSs, evS, evE, evA, evO, evAnd, evOr, evTs, ar, itr, getE, setE, rd1, rdB, rdF, rdC, rdP, rdX, app1, app2, post, binD, cmpS, cmpD, bltD, ixD, slD, revD, isiD, isTys, isTy, negD, walkB, isWalk, bindS, bindP, bindPs, bindSs, retV, avOf, noErr, grd, opt, frz, truth, outs, lent, Res.bind, sizeMax, seqOf, notS, fin, back, backL, lost, setAt, appAt, augAt, popAt, Ev.itemOf, slots, slotsL, wipeE, putBack, hidOf, Tr.f371, sure_number h1 h2, sure_below h3 h4, hg, sum_by h]
theorem g69 : Tr.glob 69 = some (.int 5000) := rfl
theorem saw_added {n : Nat} {q p : Int} {r : Fq} (h1 : -1000000 ≤ q) (h2 : q ≤ 1000000) (h3 : 1 ≤ p) (h4 : p ≤ 5000) (h : mAdded (q.fmod p) p = some r) : callN Tr.P (n + 4) 478 [.d (.int q), .d (.int p)] = .ok (.d (enc r), [none, none]) := by
  rw [call_eq (n + 3) 478 _ Tr.f478 rfl]
  have b1 := Int.fmod_nonneg_of_pos q (show 0 < p by omega)
  have b2 := Int.fmod_lt_of_pos q (show 0 < p by omega)
  have e := sum_added (n := n + 1) (q := q.fmod p) (p := p) (by omega) (by omega) (by omega) (by omega) h
  have z : ¬ (5000 < p) := by omega
  simp [evF, evSs, evS, evE, evA, evO, evAnd, evOr, evTs, ar, itr, getE, setE, rd1, rdB, rdF, rdC, rdP, rdX, app1, app2, post, binD, cmpS, cmpD, bltD, ixD, slD, revD, isiD, isTys, isTy, negD, walkB, isWalk, bindS, bindP, bindPs, bindSs, retV, avOf, noErr, grd, opt, frz, truth, outs, lent, Res.bind, sizeMax, seqOf, notS, fin, back, backL, lost, setAt, appAt, augAt, popAt, Ev.itemOf, slots, slotsL, wipeE, putBack, hidOf, Tr.f478, g69, sure_number h1 h2, sure_below h3 (show p ≤ 1000000 by omega), z, show p ≠ 0 by omega, e]
theorem saw_exchange {n : Nat} {a b : Int} {r : Fq} (h1 : 1 ≤ a) (h2 : a ≤ 1000000) (h3 : 1 ≤ b) (h4 : b ≤ 1000000) (hg : Nat.gcd a.natAbs b.natAbs = 1) (h : mLowest (a * a + b * b + 1 - 3 * a * b) (12 * a * b) = some r) :
    callN Tr.P (n + 4) 481 [.d (.int a), .d (.int b)] = .ok (.d (enc r), [none, none]) := by
  rw [call_eq (n + 3) 481 _ Tr.f481 rfl]
  have g1 : mulOk a a = true := mul_l (by omega) (by omega)
  have g2 : mulOk b b = true := mul_l (by omega) (by omega)
  have g3 : mulOk 3 a = true := mul_l (by decide) (by decide)
  have g4 : mulOk 12 a = true := mul_l (by decide) (by decide)
  have g5 : mulOk (3 * a) b = true := mul_l (by omega) (by omega)
  have g6 : mulOk (12 * a) b = true := mul_l (by omega) (by omega)
  simp [evF, evSs, evS, evE, evA, evO, evAnd, evOr, evTs, ar, itr, getE, setE, rd1, rdB, rdF, rdC, rdP, rdX, app1, app2, post, binD, cmpS, cmpD, bltD, ixD, slD, revD, isiD, isTys, isTy, negD, walkB, isWalk, bindS, bindP, bindPs, bindSs, retV, avOf, noErr, grd, opt, frz, truth, outs, lent, Res.bind, sizeMax, seqOf, notS, fin, back, backL, lost, setAt, appAt, augAt, popAt, Ev.itemOf, slots, slotsL, wipeE, putBack, hidOf, Tr.f481, sure_below h1 h2, sure_below h3 h4, hg, g1, g2, g3, g4, g5, g6, lowest_ok h]
end M

set_option Elab.async false
set_option linter.all false
set_option maxRecDepth 100000
set_option maxHeartbeats 1000000
/-! PyL61e: lenses. -/
namespace M
open PySem Ev
theorem evE_blt_lc {C : Wx} {b : Blt} {x it : E} {p : Pat} {ifs : List E} {e e1 : SEnv} {l : List D} (h : evE C false (.lc x p it ifs) e = .ok (.o l, e1)) :
    evE C false (.blt b [.lc x p it ifs]) e = ((rdX b e1 [.o l]).bind fun xs => (noErr (walkB b xs.1)).bind fun r => .ok (r, xs.2)) := by
  have q : evE C false (.blt b [.lc x p it ifs]) e = ((((evE C false (.lc x p it ifs) e).bind fun p => (Res.ok (avOf p.1, p.2) : Res (AV × SEnv))).bind fun p => (Res.ok (([] : List AV), p.2)).bind fun q => (Res.ok (p.1 :: q.1, q.2) : Res (List AV × SEnv))).bind fun p => (rdX b p.2 p.1).bind fun xs => (noErr (walkB b xs.1)).bind fun r => .ok (r, xs.2)) := rfl
  rw [q, h]; rfl
theorem evE_ife_t {C : Wx} {t a b : E} {e e1 : SEnv} (h : evE C true t e = .ok (.d (.bool true), e1)) : evE C false (.ife t a b) e = evE C false a e1 := by
  show ((evE C true t e).bind _) = _
  rw [h]; rfl
theorem evE_ife_f {C : Wx} {t a b : E} {e e1 : SEnv} (h : evE C true t e = .ok (.d (.bool false), e1)) : evE C false (.ife t a b) e = evE C false b e1 := by
  show ((evE C true t e).bind _) = _
  rw [h]; rfl
theorem evS_ret {C : Wx} {np : Nat} {nk : Nat → Bool} {a : E} {e e1 : SEnv} {r : Sl} (ha : ∀ i, a ≠ .v i) (h : evE C false a e = .ok (r, e1)) : evS C np nk (.ret a) e = .ok (.rt r e1) := by
  have q : retV np a e (evE C false a e) = evE C false a e := by cases a <;> first | rfl | exact absurd rfl (ha _)
  show ((retV np a e (evE C false a e)).bind fun r => (Res.ok (Out.rt r.1 r.2) : Res Out)) = _
  rw [q, h]; rfl
theorem tupled_int (n : Nat) (i : Int) : callN Tr.P (n + 1) 2 [.d (.int i)] = .ok (.d (.int i), [none]) := by
  rw [call_eq n 2 _ Tr.f2 rfl]
  simp [evF, evSs, evS, evE, evA, evO, evAnd, evOr, evTs, ar, itr, getE, setE, rd1, rdB, rdF, rdC, rdP, rdX, app1, app2, post, binD, cmpS, cmpD, bltD, ixD, slD, revD, isiD, isTys, isTy, negD, walkB, isWalk, bindS, bindP, bindPs, bindSs, retV, avOf, noErr, grd, opt, frz, truth, outs, lent, Res.bind, sizeMax, seqOf, notS, fin, back, backL, lost, setAt, appAt, augAt, popAt, Ev.itemOf, slots, slotsL, wipeE, putBack, hidOf, Tr.f2]
theorem tupled_tup {n : Nat} {l : List D} (hl : l.length ≤ sizeMax) (h : ∀ x ∈ l, callN Tr.P (n + 1) 2 [.d x] = .ok (.d x, [none])) : callN Tr.P (n + 2) 2 [.d (.tuple l)] = .ok (.d (.tuple l), [none]) := by
  rw [call_eq (n + 1) 2 _ Tr.f2 rfl]
  have lap : ∀ (x : { x : D // x ∈ l }) (e : SEnv), (∃ s, e = [none, s]) → ∃ e', (∃ s, e' = [none, s]) ∧ EvS.lap (Cn (n + 1)) (.n 1) [] (.call 2 [(.v 1)]) x.1 e = .ok (some x.1, e') := fun x e ⟨s, hs⟩ => by
    subst hs
    refine ⟨[none, some (.d x.1)], ⟨_, rfl⟩, ?_⟩
    have := h x.1 x.2
    simp [evF, evSs, evS, evE, evA, evO, evAnd, evOr, evTs, ar, itr, getE, setE, rd1, rdB, rdF, rdC, rdP, rdX, app1, app2, post, binD, cmpS, cmpD, bltD, ixD, slD, revD, isiD, isTys, isTy, negD, walkB, isWalk, bindS, bindP, bindPs, bindSs, retV, avOf, noErr, grd, opt, frz, truth, outs, lent, Res.bind, sizeMax, seqOf, notS, fin, back, backL, lost, setAt, appAt, augAt, popAt, Ev.itemOf, slots, slotsL, wipeE, putBack, hidOf, EvS.lap, Cn, this]
  obtain ⟨e', ⟨s, hs⟩, q⟩ := lcL_all (f := EvS.lap (Cn (n + 1)) (.n 1) [] (.call 2 [(.v 1)])) (ι := fun x : { x : D // x ∈ l } => x.1) (g := fun x => some x.1) (I := fun e => ∃ s, e = [none, s]) lap l.attach [] [none, none] ⟨none, rfl⟩ (by simpa using hl)
  subst hs
  have e1 : (l.attach.map fun x : { x : D // x ∈ l } => x.1) = l := by simp
  have e2 : (l.attach.filterMap fun x => some x.1) = l := by
    rw [show (l.attach.filterMap fun x => some x.1) = l.attach.map fun x => x.1 from by rw [← List.filterMap_eq_map]; rfl]
    simp
  rw [e1, e2, List.nil_append] at q
  have c : evE (Cn (n + 1)) false (.lc (.call 2 [(.v 1)]) (.n 1) (.v 0) []) [some (.d (.tuple l)), none] = .ok (.o l, [some (.d (.tuple l)), none]) := by
    have := evE_lc (C := Cn (n + 1)) (elt := .call 2 [(.v 1)]) (it := .v 0) (q := .n 1) (ifs := []) (e := [some (.d (.tuple l)), none]) (e1 := [some (.d (.tuple l)), none]) (l := l) rfl q
    rw [this]; rfl
  refine evF_rt rfl (e := [some (.d (.tuple l)), none]) ?_
  have t : evE (Cn (n + 1)) true (.isi (.v 0) [.list, .tuple]) [some (.d (.tuple l)), none] = .ok (.d (.bool true), [some (.d (.tuple l)), none]) := rfl
  refine evSs_rt (evS_ret (fun i h => by cases h) ((evE_ife_t t).trans ((evE_blt_lc c).trans ?_)))
  rfl
theorem tupled_enc (n : Nat) (x : Fq) : callN Tr.P (n + 2) 2 [.d (enc x)] = .ok (.d (enc x), [none]) := by
  refine tupled_tup (by simp [sizeMax]) fun y hy => ?_
  simp only [List.mem_cons, List.not_mem_nil, or_false] at hy
  rcases hy with rfl | rfl <;> exact tupled_int n _
/-- a lens -/
structure Lens (p q : Int) : Prop where
  p2 : 2 ≤ p
  pm : p ≤ 2000
  q1 : 1 ≤ q
  qp : q < p
  g : Nat.gcd p.natAbs q.natAbs = 1
theorem g36 : Tr.glob 36 = some (.int 1000000) := rfl
theorem is_lens {n : Nat} {p q : Int} (L : Lens p q) : callN Tr.P (n + 2) 194 [.d (enc (p, q))] = .ok (.d (.bool true), [none]) := by
  rw [call_eq (n + 1) 194 _ Tr.f194 rfl]
  obtain ⟨h1, h2, h3, h4, h5⟩ := L
  simp [evF, evSs, evS, evE, evA, evO, evAnd, evOr, evTs, ar, itr, getE, setE, rd1, rdB, rdF, rdC, rdP, rdX, app1, app2, post, binD, cmpS, cmpD, bltD, ixD, slD, revD, isiD, isTys, isTy, negD, walkB, isWalk, bindS, bindP, bindPs, bindSs, retV, avOf, noErr, grd, opt, frz, truth, outs, lent, Res.bind, sizeMax, seqOf, notS, fin, back, backL, lost, setAt, appAt, augAt, popAt, Ev.itemOf, slots, slotsL, wipeE, putBack, hidOf, Tr.f194, EvS.lap, lcL, g36, is_long, is_number_int, ixN, enc, bools, show (0 : Int) ≤ p by omega, show p ≤ 1000000 by omega, show ¬ p < 2 by omega, h3, h4, h5]
theorem sure_lens {n : Nat} {p q : Int} (L : Lens p q) : callN Tr.P (n + 3) 195 [.d (enc (p, q))] = .ok (.d (enc (p, q)), [none]) := by
  rw [call_eq (n + 2) 195 _ Tr.f195 rfl]
  simp [evF, evSs, evS, evE, evA, evO, evAnd, evOr, evTs, ar, itr, getE, setE, rd1, rdB, rdF, rdC, rdP, rdX, app1, app2, post, binD, cmpS, cmpD, bltD, ixD, slD, revD, isiD, isTys, isTy, negD, walkB, isWalk, bindS, bindP, bindPs, bindSs, retV, avOf, noErr, grd, opt, frz, truth, outs, lent, Res.bind, sizeMax, seqOf, notS, fin, back, backL, lost, setAt, appAt, augAt, popAt, Ev.itemOf, slots, slotsL, wipeE, putBack, hidOf, Tr.f195, tupled_enc, is_lens L]
theorem g70 : Tr.glob 70 = some (.int 2000) := rfl
theorem sure_short {n : Nat} {p q : Int} (L : Lens p q) : callN Tr.P (n + 4) 374 [.d (enc (p, q))] = .ok (.d (enc (p, q)), [none]) := by
  rw [call_eq (n + 3) 374 _ Tr.f374 rfl]
  have h := sure_lens (n := n) L
  obtain ⟨h1, h2, h3, h4, h5⟩ := L
  unfold enc at h ⊢
  simp [evF, evSs, evS, evE, evA, evO, evAnd, evOr, evTs, ar, itr, getE, setE, rd1, rdB, rdF, rdC, rdP, rdX, app1, app2, post, binD, cmpS, cmpD, bltD, ixD, slD, revD, isiD, isTys, isTy, negD, walkB, isWalk, bindS, bindP, bindPs, bindSs, retV, avOf, noErr, grd, opt, frz, truth, outs, lent, Res.bind, sizeMax, seqOf, notS, fin, back, backL, lost, setAt, appAt, augAt, popAt, Ev.itemOf, slots, slotsL, wipeE, putBack, hidOf, Tr.f374, g70, h, ixN, show p ≠ 0 by omega, show ¬ 2000 < p by omega]
theorem mirror_by {n : Nat} {p q : Int} (L : Lens p q) : callN Tr.P (n + 2) 451 [.d (enc (p, q))] = .ok (.d (enc (p, (-q).fmod p)), [none]) := by
  have h : callN Tr.P (n + 1) 76 [.d (.int p), .d (.int (-q))] = .ok (.d (enc (p, (-q).fmod p)), [none, none]) := by
    rw [call_eq n 76 _ Tr.f76 rfl]
    obtain ⟨h1, h2, h3, h4, h5⟩ := L
    have g : mulOk 1 (-q) = true := mul_l (by decide) (by decide)
    simp [evF, evSs, evS, evE, evA, evO, evAnd, evOr, evTs, ar, itr, getE, setE, rd1, rdB, rdF, rdC, rdP, rdX, app1, app2, post, binD, cmpS, cmpD, bltD, ixD, slD, revD, isiD, isTys, isTy, negD, walkB, isWalk, bindS, bindP, bindPs, bindSs, retV, avOf, noErr, grd, opt, frz, truth, outs, lent, Res.bind, sizeMax, seqOf, notS, fin, back, backL, lost, setAt, appAt, augAt, popAt, Ev.itemOf, slots, slotsL, wipeE, putBack, hidOf, Tr.f76, show p ≠ 0 by omega, show 0 < p by omega, show ¬ p < 0 by omega, g, enc]
  rw [call_eq (n + 1) 451 _ Tr.f451 rfl]
  unfold enc at h ⊢
  simp [evF, evSs, evS, evE, evA, evO, evAnd, evOr, evTs, ar, itr, getE, setE, rd1, rdB, rdF, rdC, rdP, rdX, app1, app2, post, binD, cmpS, cmpD, bltD, ixD, slD, revD, isiD, isTys, isTy, negD, walkB, isWalk, bindS, bindP, bindPs, bindSs, retV, avOf, noErr, grd, opt, frz, truth, outs, lent, Res.bind, sizeMax, seqOf, notS, fin, back, backL, lost, setAt, appAt, augAt, popAt, Ev.itemOf, slots, slotsL, wipeE, putBack, hidOf, Tr.f451, ixN, h]
theorem lens_mirrored {n : Nat} {p q : Int} (L : Lens p q) : callN Tr.P (n + 4) 453 [.d (enc (p, q))] = .ok (.d (enc (p, (-q).fmod p)), [none]) := by
  rw [call_eq (n + 3) 453 _ Tr.f453 rfl]
  simp [evF, evSs, evS, evE, evA, evO, evAnd, evOr, evTs, ar, itr, getE, setE, rd1, rdB, rdF, rdC, rdP, rdX, app1, app2, post, binD, cmpS, cmpD, bltD, ixD, slD, revD, isiD, isTys, isTy, negD, walkB, isWalk, bindS, bindP, bindPs, bindSs, retV, avOf, noErr, grd, opt, frz, truth, outs, lent, Res.bind, sizeMax, seqOf, notS, fin, back, backL, lost, setAt, appAt, augAt, popAt, Ev.itemOf, slots, slotsL, wipeE, putBack, hidOf, Tr.f453, sure_lens L, mirror_by L]
def mBack : Nat → Int → Int → Int → Int → Option Int
  | 0, _, _, _, _ => none
  | m + 1, one, other, near, far => if 0 < other then
      (if divOk other && mulOk (one.fdiv other) other && mulOk (one.fdiv other) far then mBack m other (one - one.fdiv other * other) far (near - one.fdiv other * far) else none)
    else some near
def backT : E := .cmp .gt (.v 3) (.c (.int 0))
def backB : List Sm := [.asg (.n 6) (.bin .fdiv (.v 2) (.v 3)), .asg (.t [(.n 2), (.n 3), (.n 4), (.n 5)]) (.tup [(.v 3), (.bin .sub (.v 2) (.bin .mul (.v 6) (.v 3))), (.v 5), (.bin .sub (.v 4) (.bin .mul (.v 6) (.v 5)))])]
theorem back_loop {n : Nat} {nk : Nat → Bool} (h2 : nk 2 = false) (h3 : nk 3 = false) (h4 : nk 4 = false) (h5 : nk 5 = false) (h6 : nk 6 = false) (a0 a1 : Option Sl) : ∀ (m F : Nat) (one other near far r : Int) (s6 : Option Sl), m ≤ F → mBack m one other near far = some r →
    ∃ one' other' far' s6', whlL (evE (Cn n) true backT) (evSs (Cn n) 2 nk backB) F [a0, a1, some (.d (.int one)), some (.d (.int other)), some (.d (.int near)), some (.d (.int far)), s6] = .ok (.nx [a0, a1, some (.d (.int one')), some (.d (.int other')), some (.d (.int r)), some (.d (.int far')), s6'])
  | 0, _, _, _, _, _, _, _, _, h => by cases h
  | m + 1, 0, _, _, _, _, _, _, hF, _ => absurd hF (by omega)
  | m + 1, F + 1, one, other, near, far, r, s6, hF, h => by
    unfold mBack at h
    split at h
    · rename_i ha
      split at h
      · rename_i g
        simp only [Bool.and_eq_true] at g
        obtain ⟨⟨g1, g2⟩, g3⟩ := g
        obtain ⟨o', t', f', s', q⟩ := back_loop (n := n) h2 h3 h4 h5 h6 a0 a1 m F _ _ _ _ r (some (.d (.int (one.fdiv other)))) (by omega) h
        refine ⟨o', t', f', s', ?_⟩
        rw [← q]
        simp [whlL, evF, evSs, evS, evE, evA, evO, evAnd, evOr, evTs, ar, itr, getE, setE, rd1, rdB, rdF, rdC, rdP, rdX, app1, app2, post, binD, cmpS, cmpD, bltD, ixD, slD, revD, isiD, isTys, isTy, negD, walkB, isWalk, bindS, bindP, bindPs, bindSs, retV, avOf, noErr, grd, opt, frz, truth, outs, lent, Res.bind, sizeMax, seqOf, notS, fin, back, backL, lost, setAt, appAt, augAt, popAt, Ev.itemOf, slots, slotsL, wipeE, putBack, hidOf, backT, backB, ha, g1, g2, g3, h2, h3, h4, h5, h6]
      · cases h
    · rename_i ha
      cases h
      refine ⟨one, other, far, s6, ?_⟩
      simp [whlL, evF, evSs, evS, evE, evA, evO, evAnd, evOr, evTs, ar, itr, getE, setE, rd1, rdB, rdF, rdC, rdP, rdX, app1, app2, post, binD, cmpS, cmpD, bltD, ixD, slD, revD, isiD, isTys, isTy, negD, walkB, isWalk, bindS, bindP, bindPs, bindSs, retV, avOf, noErr, grd, opt, frz, truth, outs, lent, Res.bind, sizeMax, seqOf, notS, fin, back, backL, lost, setAt, appAt, augAt, popAt, Ev.itemOf, slots, slotsL, wipeE, putBack, hidOf, backT, ha]
theorem back_by {n : Nat} {q p r : Int} (hp : p ≠ 0) (h : mBack 100 (q.fmod p) p 1 0 = some r) : callN Tr.P (n + 1) 27 [.d (.int q), .d (.int p)] = .ok (.d (.int (r.fmod p)), [none, none]) := by
  rw [call_eq n 27 _ Tr.f27 rfl]
  obtain ⟨o', t', f', s', e⟩ := back_loop (n := n) (nk := lent [.d (.int q), .d (.int p)]) rfl rfl rfl rfl rfl (some (.d (.int q))) (some (.d (.int p))) 100 1000000 (q.fmod p) p 1 0 r none (by decide) h
  refine evF_rt rfl (e := [some (.d (.int q)), some (.d (.int p)), some (.d (.int o')), some (.d (.int t')), some (.d (.int r)), some (.d (.int f')), s']) ?_
  refine (evSs_nx (e1 := [some (.d (.int q)), some (.d (.int p)), some (.d (.int (q.fmod p))), some (.d (.int p)), some (.d (.int 1)), some (.d (.int 0)), none]) ?_).trans ?_
  · simp [evF, evSs, evS, evE, evA, evO, evAnd, evOr, evTs, ar, itr, getE, setE, rd1, rdB, rdF, rdC, rdP, rdX, app1, app2, post, binD, cmpS, cmpD, bltD, ixD, slD, revD, isiD, isTys, isTy, negD, walkB, isWalk, bindS, bindP, bindPs, bindSs, retV, avOf, noErr, grd, opt, frz, truth, outs, lent, Res.bind, sizeMax, seqOf, notS, fin, back, backL, lost, setAt, appAt, augAt, popAt, Ev.itemOf, slots, slotsL, wipeE, putBack, hidOf, Tr.f27, hp, List.replicate]
  refine (evSs_whl e).trans ?_
  refine evSs_rt ?_
  simp [evF, evSs, evS, evE, evA, evO, evAnd, evOr, evTs, ar, itr, getE, setE, rd1, rdB, rdF, rdC, rdP, rdX, app1, app2, post, binD, cmpS, cmpD, bltD, ixD, slD, revD, isiD, isTys, isTy, negD, walkB, isWalk, bindS, bindP, bindPs, bindSs, retV, avOf, noErr, grd, opt, frz, truth, outs, lent, Res.bind, sizeMax, seqOf, notS, fin, back, backL, lost, setAt, appAt, augAt, popAt, Ev.itemOf, slots, slotsL, wipeE, putBack, hidOf, hp]
def mLeast (p q : Int) : Option Int := match mBack 100 (q.fmod p) p 1 0 with
  | some r => some (if r.fmod p < q then r.fmod p else q)
  | none => none
theorem least_lens {n : Nat} {p q r : Int} (h1 : 1 < p) (h : mLeast p q = some r) : callN Tr.P (n + 2) 85 [.d (enc (p, q))] = .ok (.d (enc (p, r)), [none]) := by
  unfold mLeast at h
  split at h
  · rename_i b hb
    cases h
    rw [call_eq (n + 1) 85 _ Tr.f85 rfl]
    have e := back_by (n := n) (show p ≠ 0 by omega) hb
    unfold enc
    simp [evF, evSs, evS, evE, evA, evO, evAnd, evOr, evTs, ar, itr, getE, setE, rd1, rdB, rdF, rdC, rdP, rdX, app1, app2, post, binD, cmpS, cmpD, bltD, ixD, slD, revD, isiD, isTys, isTy, negD, walkB, isWalk, bindS, bindP, bindPs, bindSs, retV, avOf, noErr, grd, opt, frz, truth, outs, lent, Res.bind, sizeMax, seqOf, notS, fin, back, backL, lost, setAt, appAt, augAt, popAt, Ev.itemOf, slots, slotsL, wipeE, putBack, hidOf, Tr.f85, ixN, h1, e]
  · cases h
end M

set_option Elab.async false
set_option linter.all false
set_option maxRecDepth 100000
set_option maxHeartbeats 1000000
/-! PyL61f: steps in order, worths of lenses. -/
namespace M
open PySem Ev
theorem enc_shp (x : Fq) : shp (enc x) = true := rfl
theorem enc_eqv (x y : Fq) : PyData.eqv (enc x) (enc y) = decide (x = y) := by
  obtain ⟨a, b⟩ := x
  obtain ⟨c, d⟩ := y
  have h : PyData.eqv (enc (a, b)) (enc (c, d)) = (decide (a = c) && (decide (b = d) && true)) := rfl
  rw [h]
  by_cases h1 : a = c <;> by_cases h2 : b = d <;> simp [h1, h2]
theorem enc_eq (x y : Fq) : cmpD .eq (enc x) (enc y) = .ok (decide (x = y)) := by
  show grd (shp (enc x) && shp (enc y)) (.ok (PyData.eqv (enc x) (enc y))) = _
  rw [enc_shp, enc_shp, enc_eqv]; rfl
theorem enc_ne (x y : Fq) : cmpD .ne (enc x) (enc y) = .ok (!decide (x = y)) := by
  show grd (shp (enc x) && shp (enc y)) (.ok (!PyData.eqv (enc x) (enc y))) = _
  rw [enc_shp, enc_shp, enc_eqv]; rfl
theorem is_own_mirror {n : Nat} {p q a b : Int} (L : Lens p q) (h1 : mLeast p q = some a) (h2 : mLeast p ((-q).fmod p) = some b) : callN Tr.P (n + 4) 482 [.d (enc (p, q))] = .ok (.d (.bool (decide (a = b))), [none]) := by
  rw [call_eq (n + 3) 482 _ Tr.f482 rfl]
  have k1 := sure_lens (n := n) L
  have k2 := least_lens (n := n + 1) (show 1 < p by have := L.p2; omega) h1
  have k3 := mirror_by (n := n + 1) L
  have k4 := least_lens (n := n + 1) (show 1 < p by have := L.p2; omega) h2
  have k5 : cmpS .eq (enc (p, a)) (enc (p, b)) = .ok (.d (.bool (decide (a = b)))) := by
    show ((cmpD .eq (enc (p, a)) (enc (p, b))).bind fun r => (Res.ok (Sl.d (.bool r)) : Res Sl)) = _
    rw [enc_eq]
    simp [Res.bind]
  refine evF_rt rfl (e := [some (.d (enc (p, q))), some (.d (enc (p, q)))]) ?_
  refine (evSs_nx (e1 := [some (.d (enc (p, q))), some (.d (enc (p, q)))]) ?_).trans ?_
  · simp [evF, evSs, evS, evE, evA, evO, evAnd, evOr, evTs, ar, itr, getE, setE, rd1, rdB, rdF, rdC, rdP, rdX, app1, app2, post, binD, cmpS, cmpD, bltD, ixD, slD, revD, isiD, isTys, isTy, negD, walkB, isWalk, bindS, bindP, bindPs, bindSs, retV, avOf, noErr, grd, opt, frz, truth, outs, lent, Res.bind, sizeMax, seqOf, notS, fin, back, backL, lost, setAt, appAt, augAt, popAt, Ev.itemOf, slots, slotsL, wipeE, putBack, hidOf, Tr.f482, k1, List.replicate]
  refine evSs_rt (evS_ret (fun i h => by cases h) ?_)
  simp only [evE, evA, ar, getE, rdC, lost, back, backL, fin, post, app2, rd1, Res.bind, Cn, k2, k3, k4, k5, noErr, avOf]
theorem lens_by_saw {n : Nat} {p q : Int} {s r : Fq} (L : Lens p q) (h1 : mSumBy q p = some s) (h2 : mTimes (p, 2) s = some r) : callN Tr.P (n + 4) 380 [.d (enc (p, q))] = .ok (.d (enc r), [none]) := by
  rw [call_eq (n + 3) 380 _ Tr.f380 rfl]
  have k1 := sum_by (n := n) h1
  have k2 := times (n := n + 1) h2
  have := L.p2
  unfold enc at k1 k2 ⊢
  simp [evF, evSs, evS, evE, evA, evO, evAnd, evOr, evTs, ar, itr, getE, setE, rd1, rdB, rdF, rdC, rdP, rdX, app1, app2, post, binD, cmpS, cmpD, bltD, ixD, slD, revD, isiD, isTys, isTy, negD, walkB, isWalk, bindS, bindP, bindPs, bindSs, retV, avOf, noErr, grd, opt, frz, truth, outs, lent, Res.bind, sizeMax, seqOf, notS, fin, back, backL, lost, setAt, appAt, augAt, popAt, Ev.itemOf, slots, slotsL, wipeE, putBack, hidOf, Tr.f380, ixN, k1, k2, show 1 < p by omega]
theorem lens_worth {n : Nat} {p q : Int} {s r : Fq} (L : Lens p q) (h1 : mSumBy q p = some s) (h2 : mTimes (p, 2) s = some r) : callN Tr.P (n + 5) 401 [.d (enc (p, q))] = .ok (.d (enc r), [none]) := by
  rw [call_eq (n + 4) 401 _ Tr.f401 rfl]
  have k1 := sure_lens (n := n + 1) L
  have k2 := lens_by_saw (n := n) L h1 h2
  have := L.p2
  unfold enc at k1 k2 ⊢
  simp [evF, evSs, evS, evE, evA, evO, evAnd, evOr, evTs, ar, itr, getE, setE, rd1, rdB, rdF, rdC, rdP, rdX, app1, app2, post, binD, cmpS, cmpD, bltD, ixD, slD, revD, isiD, isTys, isTy, negD, walkB, isWalk, bindS, bindP, bindPs, bindSs, retV, avOf, noErr, grd, opt, frz, truth, outs, lent, Res.bind, sizeMax, seqOf, notS, fin, back, backL, lost, setAt, appAt, augAt, popAt, Ev.itemOf, slots, slotsL, wipeE, putBack, hidOf, Tr.f401, ixN, k1, k2, show p ≠ 0 by omega]
/-! ### steps -/
def mMap {α β : Type} (m : α → Option β) : List α → Option (List β)
  | [] => some []
  | x :: r => match m x with
    | some y => match mMap m r with
      | some ys => some (y :: ys)
      | none => none
    | none => none
theorem lcL_mMap {α β : Type} {f : D → SEnv → Res (Option D × SEnv)} {ι : α → D} {κ : β → D} {m : α → Option β} {I : SEnv → Prop} (hf : ∀ x y e, I e → m x = some y → ∃ e', I e' ∧ f (ι x) e = .ok (some (κ y), e')) :
    ∀ (xs : List α) (ys : List β) (acc : List D) (e : SEnv), I e → mMap m xs = some ys → acc.length + xs.length ≤ sizeMax → ∃ e', I e' ∧ lcL f (xs.map ι) acc e = .ok (acc ++ ys.map κ, e')
  | [], ys, acc, e, hI, h, _ => by cases h; exact ⟨e, hI, by simp [lcL]⟩
  | x :: xs, ys, acc, e, hI, h, hl => by
    unfold mMap at h
    split at h
    · rename_i y hy
      split at h
      · rename_i zs hz
        cases h
        obtain ⟨e1, hI1, h1⟩ := hf x y e hI hy
        simp only [List.length_cons] at hl
        obtain ⟨e', q1, q2⟩ := lcL_mMap hf xs zs (acc ++ [κ y]) e1 hI1 hz (by simp; omega)
        refine ⟨e', q1, ?_⟩
        show lcL f (ι x :: xs.map ι) acc e = _
        rw [lcL, h1]
        have : decide (acc.length < sizeMax) = true := decide_eq_true (by omega)
        simp only [this, grd, q2, List.map_cons, List.append_assoc, List.singleton_append]
      · cases h
    · cases h
def from0 (p : Int) : List Int := (List.range p.toNat).map fun k => 0 + ((k : Nat) : Int)
def mSteps (p q : Int) : Option (List Fq) := mMap (fun i => mStep 100 (0, 1) 1 p q i) (from0 p)
theorem steps_by {n : Nat} {p q : Int} {ss : List Fq} (hp : 0 ≤ p ∧ p ≤ 2000) (h : mSteps p q = some ss) : callN Tr.P (n + 4) 373 [.d (enc (p, q))] = .ok (.o (ss.map enc), [none]) := by
  rw [call_eq (n + 3) 373 _ Tr.f373 rfl]
  have lap : ∀ (x : Int) (y : Fq) (e : SEnv), (∃ s, e = [some (.d (enc (p, q))), s]) → mStep 100 (0, 1) 1 p q x = some y → ∃ e', (∃ s, e' = [some (.d (enc (p, q))), s]) ∧ EvS.lap (Cn (n + 3)) (.n 1) [] (.call 372 [(.v 0), (.v 1)]) (.int x) e = .ok (some (enc y), e') := fun x y e ⟨s, hs⟩ hy => by
    subst hs
    refine ⟨[some (.d (enc (p, q))), some (.d (.int x))], ⟨_, rfl⟩, ?_⟩
    have := step_by (n := n) hy
    simp [evF, evSs, evS, evE, evA, evO, evAnd, evOr, evTs, ar, itr, getE, setE, rd1, rdB, rdF, rdC, rdP, rdX, app1, app2, post, binD, cmpS, cmpD, bltD, ixD, slD, revD, isiD, isTys, isTy, negD, walkB, isWalk, bindS, bindP, bindPs, bindSs, retV, avOf, noErr, grd, opt, frz, truth, outs, lent, Res.bind, sizeMax, seqOf, notS, fin, back, backL, lost, setAt, appAt, augAt, popAt, Ev.itemOf, slots, slotsL, wipeE, putBack, hidOf, EvS.lap, Cn, this]
  obtain ⟨e', ⟨s, hs⟩, k⟩ := lcL_mMap (f := EvS.lap (Cn (n + 3)) (.n 1) [] (.call 372 [(.v 0), (.v 1)])) (ι := PyData.int) (κ := enc) lap (from0 p) ss [] [some (.d (enc (p, q))), none] ⟨none, rfl⟩ h (by simp [from0, sizeMax]; omega)
  subst hs
  have hr : rngOk p = true := by simp [rngOk]; omega
  have it : evE (Cn (n + 3)) false (.blt .range [(.ix (.v 0) (.c (.int 0)))]) [some (.d (enc (p, q))), none] = .ok (.o (intR 0 p.toNat), [some (.d (enc (p, q))), none]) := by
    simp [evF, evSs, evS, evE, evA, evO, evAnd, evOr, evTs, ar, itr, getE, setE, rd1, rdB, rdF, rdC, rdP, rdX, app1, app2, post, binD, cmpS, cmpD, bltD, ixD, slD, revD, isiD, isTys, isTy, negD, walkB, isWalk, bindS, bindP, bindPs, bindSs, retV, avOf, noErr, grd, opt, frz, truth, outs, lent, Res.bind, sizeMax, seqOf, notS, fin, back, backL, lost, setAt, appAt, augAt, popAt, Ev.itemOf, slots, slotsL, wipeE, putBack, hidOf, enc, ixN, hr]
  have c := evE_lc (C := Cn (n + 3)) (elt := .call 372 [(.v 0), (.v 1)]) (it := .blt .range [(.ix (.v 0) (.c (.int 0)))]) (q := .n 1) (ifs := []) (e := [some (.d (enc (p, q))), none]) (l := intR 0 p.toNat) (e1 := [some (.d (enc (p, q))), none])
    (by show ((evE (Cn (n + 3)) false (.blt .range [(.ix (.v 0) (.c (.int 0)))]) [some (.d (enc (p, q))), none]).bind fun p => (opt (seqOf (frz p.1))).bind fun l => (Res.ok (l, p.2) : Res (List D × SEnv))) = _
        rw [it]; rfl) (by rw [intR_map]; exact k)
  exact evF_rt rfl (evSs_rt (evS_ret (fun i h => by cases h) c))
theorem step_sum {n : Nat} {p q : Int} {ss : List Fq} {r : Fq} (L : Lens p q) (h : mSteps p q = some ss) (h2 : mTotal (0, 1) ss = some r) : callN Tr.P (n + 5) 479 [.d (enc (p, q))] = .ok (.d (enc r), [none]) := by
  rw [call_eq (n + 4) 479 _ Tr.f479 rfl]
  have k1 := sure_short (n := n) L
  have k2 := steps_by (n := n) ⟨by have := L.p2; omega, L.pm⟩ h
  have k3 := total (n := n + 1) (L := .list (ss.map enc)) rfl h2
  simp [evF, evSs, evS, evE, evA, evO, evAnd, evOr, evTs, ar, itr, getE, setE, rd1, rdB, rdF, rdC, rdP, rdX, app1, app2, post, binD, cmpS, cmpD, bltD, ixD, slD, revD, isiD, isTys, isTy, negD, walkB, isWalk, bindS, bindP, bindPs, bindSs, retV, avOf, noErr, grd, opt, frz, truth, outs, lent, Res.bind, sizeMax, seqOf, notS, fin, back, backL, lost, setAt, appAt, augAt, popAt, Ev.itemOf, slots, slotsL, wipeE, putBack, hidOf, Tr.f479, k1, k2, k3]
theorem lens_steps {n : Nat} {p q : Int} {ss : List Fq} (L : Lens p q) (h : mSteps p q = some ss) : callN Tr.P (n + 5) 480 [.d (enc (p, q))] = .ok (.d (.tuple (ss.map enc)), [none]) := by
  rw [call_eq (n + 4) 480 _ Tr.f480 rfl]
  have k1 := sure_short (n := n) L
  have k2 := steps_by (n := n) ⟨by have := L.p2; omega, L.pm⟩ h
  simp [evF, evSs, evS, evE, evA, evO, evAnd, evOr, evTs, ar, itr, getE, setE, rd1, rdB, rdF, rdC, rdP, rdX, app1, app2, post, binD, cmpS, cmpD, bltD, ixD, slD, revD, isiD, isTys, isTy, negD, walkB, isWalk, bindS, bindP, bindPs, bindSs, retV, avOf, noErr, grd, opt, frz, truth, outs, lent, Res.bind, sizeMax, seqOf, notS, fin, back, backL, lost, setAt, appAt, augAt, popAt, Ev.itemOf, slots, slotsL, wipeE, putBack, hidOf, Tr.f480, k1, k2]
end M

set_option Elab.async false
set_option linter.all false
set_option maxRecDepth 100000
set_option maxHeartbeats 1000000
/-! PyL61g: in order; books of one tube. -/
namespace M
open PySem Ev
def mKeep (own : Fq) : List Fq → Option (List Fq)
  | [] => some []
  | x :: r => match mLess own x with
    | some b => match mKeep own r with
      | some l => some (if b then l else x :: l)
      | none => none
    | none => none
theorem mKeep_len {own : Fq} : ∀ {xs l : List Fq}, mKeep own xs = some l → l.length ≤ xs.length
  | [], l, h => by cases h; simp
  | x :: r, l, h => by
    unfold mKeep at h
    cases hb : mLess own x with
    | none => rw [hb] at h; cases h
    | some b =>
      rw [hb] at h
      cases hk : mKeep own r with
      | none => rw [hk] at h; cases h
      | some l' =>
        rw [hk] at h
        have hl := mKeep_len hk
        have e : (if b = true then l' else x :: l') = l := Option.some.inj h
        subst e
        cases b <;> simp <;> omega
theorem keep_laps {n : Nat} {own : Fq} (L S3 : Option Sl) : ∀ (xs l : List Fq) (acc : List D) (s : Option Sl), mKeep own xs = some l → acc.length + xs.length ≤ sizeMax →
    ∃ s', lcL (EvS.lap (Cn (n + 1)) (.n 4) [.not (.call 59 [(.v 2), (.v 4)])] (.v 4)) (xs.map enc) acc [L, none, some (.d (enc own)), S3, s] = .ok (acc ++ l.map enc, [L, none, some (.d (enc own)), S3, s'])
  | [], l, acc, s, h, _ => by cases h; exact ⟨s, by simp [lcL]⟩
  | x :: xs, l, acc, s, h, hl => by
    unfold mKeep at h
    split at h
    · rename_i b hb
      split at h
      · rename_i l' hl'
        cases h
        have k := is_less (n := n) hb
        simp only [List.length_cons] at hl
        cases b with
        | true =>
          have e1 : EvS.lap (Cn (n + 1)) (.n 4) [.not (.call 59 [(.v 2), (.v 4)])] (.v 4) (enc x) [L, none, some (.d (enc own)), S3, s] = .ok (none, [L, none, some (.d (enc own)), S3, some (.d (enc x))]) := by
            simp [evF, evSs, evS, evE, evA, evO, evAnd, evOr, evTs, ar, itr, getE, setE, rd1, rdB, rdF, rdC, rdP, rdX, app1, app2, post, binD, cmpS, cmpD, bltD, ixD, slD, revD, isiD, isTys, isTy, negD, walkB, isWalk, bindS, bindP, bindPs, bindSs, retV, avOf, noErr, grd, opt, frz, truth, outs, lent, Res.bind, sizeMax, seqOf, notS, fin, back, backL, lost, setAt, appAt, augAt, popAt, Ev.itemOf, slots, slotsL, wipeE, putBack, hidOf, EvS.lap, Cn, k]
          obtain ⟨s', q⟩ := keep_laps (n := n) L S3 xs l' acc (some (.d (enc x))) hl' (by omega)
          refine ⟨s', ?_⟩
          show lcL _ (enc x :: xs.map enc) acc _ = _
          rw [lcL, e1]
          simpa using q
        | false =>
          have e1 : EvS.lap (Cn (n + 1)) (.n 4) [.not (.call 59 [(.v 2), (.v 4)])] (.v 4) (enc x) [L, none, some (.d (enc own)), S3, s] = .ok (some (enc x), [L, none, some (.d (enc own)), S3, some (.d (enc x))]) := by
            simp [evF, evSs, evS, evE, evA, evO, evAnd, evOr, evTs, ar, itr, getE, setE, rd1, rdB, rdF, rdC, rdP, rdX, app1, app2, post, binD, cmpS, cmpD, bltD, ixD, slD, revD, isiD, isTys, isTy, negD, walkB, isWalk, bindS, bindP, bindPs, bindSs, retV, avOf, noErr, grd, opt, frz, truth, outs, lent, Res.bind, sizeMax, seqOf, notS, fin, back, backL, lost, setAt, appAt, augAt, popAt, Ev.itemOf, slots, slotsL, wipeE, putBack, hidOf, EvS.lap, Cn, k]
          obtain ⟨s', q⟩ := keep_laps (n := n) L S3 xs l' (acc ++ [enc x]) (some (.d (enc x))) hl' (by simp; omega)
          refine ⟨s', ?_⟩
          show lcL _ (enc x :: xs.map enc) acc _ = _
          rw [lcL, e1]
          have : decide (acc.length < sizeMax) = true := decide_eq_true (by omega)
          simp only [this, grd, q, List.append_assoc, List.singleton_append, List.map_cons, Bool.false_eq_true, if_false]
      · cases h
    · cases h
def mIns (own : Fq) (found : List Fq) : Option (List Fq) := match mKeep own found with
  | some l => some (found.take l.length ++ [own] ++ found.drop l.length)
  | none => none
def mOrder : List Fq → List Fq → Option (List Fq)
  | found, [] => some found
  | found, x :: r => match mIns x found with
    | some f => mOrder f r
    | none => none
theorem mIns_len {own : Fq} {f g : List Fq} (h : mIns own f = some g) : g.length = f.length + 1 := by
  unfold mIns at h
  split at h
  · rename_i l hl
    cases h
    have := mKeep_len hl
    simp
    omega
  · cases h
def ordB : List Sm := [.asg (.n 3) (.blt .len [(.lc (.v 4) (.n 4) (.v 1) [(.not (.call 59 [(.v 2), (.v 4)]))])]), .asg (.n 1) (.bin .add (.bin .add (.sl (.v 1) none (some (.v 3))) (.lst [(.v 2)])) (.sl (.v 1) (some (.v 3)) none))]
theorem order_lap {n : Nat} {nk : Nat → Bool} (h1 : nk 1 = false) (h2 : nk 2 = false) (h3 : nk 3 = false) (L : Option Sl) {own : Fq} {found g : List Fq} {s2 s3 s4 : Option Sl} (hm : mIns own found = some g) (hl : found.length + 1 ≤ sizeMax) :
    ∃ s3' s4', lp (n + 1) 1 nk (.n 2) ordB (enc own) [L, some (.o (found.map enc)), s2, s3, s4] = .ok (.nx [L, some (.o (g.map enc)), some (.d (enc own)), s3', s4']) := by
  unfold mIns at hm
  split at hm
  · rename_i l hk
    cases hm
    have hlen := mKeep_len hk
    obtain ⟨s', q⟩ := keep_laps (n := n) L s3 found l [] s4 hk (by simp; omega)
    have c := evE_lc (C := Cn (n + 1)) (elt := .v 4) (it := .v 1) (q := .n 4) (ifs := [.not (.call 59 [(.v 2), (.v 4)])]) (e := [L, some (.o (found.map enc)), some (.d (enc own)), s3, s4]) (e1 := [L, some (.o (found.map enc)), some (.d (enc own)), s3, s4]) (l := found.map enc) rfl q
    have pb : putBack [L, none, some (.d (enc own)), s3, s'] [L, some (.o (found.map enc)), some (.d (enc own)), s3, s4] (slots (.n 4) ++ hidOf (.v 1)) = [L, some (.o (found.map enc)), some (.d (enc own)), s3, s4] := by
      simp [putBack, slots, hidOf, getE, setE]
    rw [pb, List.nil_append] at c
    have w : wipeE [L, some (.o (found.map enc)), some (.d (enc own)), s3, s4] (hidOf (.v 1)) = [L, none, some (.d (enc own)), s3, s4] := rfl
    have st1 : evS (Cn (n + 1)) 1 nk (.asg (.n 3) (.blt .len [(.lc (.v 4) (.n 4) (.v 1) [(.not (.call 59 [(.v 2), (.v 4)]))])])) [L, some (.o (found.map enc)), some (.d (enc own)), s3, s4] = .ok (.nx [L, some (.o (found.map enc)), some (.d (enc own)), some (.d (.int l.length)), s4]) := by
      show ((evE (Cn (n + 1)) false (.blt .len [(.lc (.v 4) (.n 4) (.v 1) [(.not (.call 59 [(.v 2), (.v 4)]))])]) [L, some (.o (found.map enc)), some (.d (enc own)), s3, s4]).bind _) = _
      rw [evE_blt_lc c]
      simp [rdX, isWalk, rdB, Res.bind, walkB, bltD, noErr, bindS, grd, h3, setE]
    have st2 : evS (Cn (n + 1)) 1 nk (.asg (.n 1) (.bin .add (.bin .add (.sl (.v 1) none (some (.v 3))) (.lst [(.v 2)])) (.sl (.v 1) (some (.v 3)) none))) [L, some (.o (found.map enc)), some (.d (enc own)), some (.d (.int l.length)), s4] = .ok (.nx [L, some (.o ((found.take l.length ++ [own] ++ found.drop l.length).map enc)), some (.d (enc own)), some (.d (.int l.length)), s4]) := by
      have m1 : min l.length found.length = l.length := Nat.min_eq_left hlen
      have g1 : l.length + 1 ≤ 16777216 := by unfold sizeMax at hl; omega
      have g2 : l.length + 1 + (found.length - l.length) ≤ 16777216 := by unfold sizeMax at hl; omega
      have g3 : ¬ ((l.length : Int) < 0) := by omega
      have g4 : l.length ≤ 16777215 := by omega
      simp [evF, evSs, evS, evE, evA, evO, evAnd, evOr, evTs, ar, itr, getE, setE, rd1, rdB, rdF, rdC, rdP, rdX, app1, app2, post, binD, cmpS, cmpD, bltD, ixD, slD, revD, isiD, isTys, isTy, negD, walkB, isWalk, bindS, bindP, bindPs, bindSs, retV, avOf, noErr, grd, opt, frz, truth, outs, lent, Res.bind, sizeMax, seqOf, notS, fin, back, backL, lost, setAt, appAt, augAt, popAt, Ev.itemOf, slots, slotsL, wipeE, putBack, hidOf, cut, sIx, m1, g1, g2, g3, g4, h1, List.map_take, List.map_drop]
      exact List.take_of_length_le (by simp)
    refine ⟨some (.d (.int l.length)), s4, ?_⟩
    have b : bindP nk (.n 2) (enc own) [L, some (.o (found.map enc)), s2, s3, s4] = .ok [L, some (.o (found.map enc)), some (.d (enc own)), s3, s4] := by
      simp [bindP, h2, grd, setE]
    show ((bindP nk (.n 2) (enc own) [L, some (.o (found.map enc)), s2, s3, s4]).bind fun e2 => evSs (Cn (n + 1)) 1 nk ordB e2) = _
    rw [b]
    exact (evSs_nx st1).trans ((evSs_nx st2).trans rfl)
  · cases hm
theorem order_loop {n : Nat} {nk : Nat → Bool} (h1 : nk 1 = false) (h2 : nk 2 = false) (h3 : nk 3 = false) (L : Option Sl) : ∀ (xs found r : List Fq) (s2 s3 s4 : Option Sl), mOrder found xs = some r → found.length + xs.length ≤ sizeMax →
    ∃ s2' s3' s4', forL (lp (n + 1) 1 nk (.n 2) ordB) (xs.map enc) [L, some (.o (found.map enc)), s2, s3, s4] = .ok (.nx [L, some (.o (r.map enc)), s2', s3', s4'])
  | [], found, r, s2, s3, s4, h, _ => by cases h; exact ⟨s2, s3, s4, rfl⟩
  | x :: xs, found, r, s2, s3, s4, h, hl => by
    unfold mOrder at h
    simp only [List.length_cons] at hl
    split at h
    · rename_i f hf
      obtain ⟨s3', s4', q⟩ := order_lap (n := n) h1 h2 h3 L (s2 := s2) (s3 := s3) (s4 := s4) hf (by omega)
      obtain ⟨t2, t3, t4, k⟩ := order_loop (n := n) h1 h2 h3 L xs f r (some (.d (enc x))) s3' s4' h (by rw [mIns_len hf]; omega)
      exact ⟨t2, t3, t4, (forL_nx q).trans k⟩
    · cases h
theorem in_order {n : Nat} {xs r : List Fq} (h : mOrder [] xs = some r) (hl : xs.length ≤ sizeMax) : callN Tr.P (n + 2) 385 [.d (.list (xs.map enc))] = .ok (.d (.tuple (r.map enc)), [none]) := by
  rw [call_eq (n + 1) 385 _ Tr.f385 rfl]
  obtain ⟨s2, s3, s4, q⟩ := order_loop (n := n) (nk := lent [.d (.list (xs.map enc))]) rfl rfl rfl (some (.d (.list (xs.map enc)))) xs [] r none none none h (by simpa using hl)
  refine evF_rt rfl (e := [some (.d (.list (xs.map enc))), some (.o (r.map enc)), s2, s3, s4]) ?_
  refine (evSs_nx (e1 := [some (.d (.list (xs.map enc))), some (.o []), none, none, none]) rfl).trans ?_
  refine (evSs_for (r := .d (.list (xs.map enc))) rfl rfl q).trans ?_
  rfl
theorem mMap_len {α β : Type} {m : α → Option β} : ∀ {xs : List α} {ys : List β}, mMap m xs = some ys → ys.length = xs.length
  | [], ys, h => by cases h; rfl
  | x :: xs, ys, h => by
    unfold mMap at h
    split at h
    · split at h
      · rename_i zs hz
        cases h
        simp [mMap_len hz]
      · cases h
    · cases h
theorem steps_in_order {n : Nat} {p q : Int} {ss r : List Fq} (L : Lens p q) (h : mSteps p q = some ss) (h2 : mOrder [] ss = some r) : callN Tr.P (n + 5) 403 [.d (enc (p, q))] = .ok (.d (.tuple (r.map enc)), [none]) := by
  rw [call_eq (n + 4) 403 _ Tr.f403 rfl]
  have k1 := sure_short (n := n) L
  have k2 := steps_by (n := n) ⟨by have := L.p2; omega, L.pm⟩ h
  have k3 := in_order (n := n + 2) h2 (by rw [mMap_len h]; have := L.pm; simp [from0, sizeMax]; omega)
  simp [evF, evSs, evS, evE, evA, evO, evAnd, evOr, evTs, ar, itr, getE, setE, rd1, rdB, rdF, rdC, rdP, rdX, app1, app2, post, binD, cmpS, cmpD, bltD, ixD, slD, revD, isiD, isTys, isTy, negD, walkB, isWalk, bindS, bindP, bindPs, bindSs, retV, avOf, noErr, grd, opt, frz, truth, outs, lent, Res.bind, sizeMax, seqOf, notS, fin, back, backL, lost, setAt, appAt, augAt, popAt, Ev.itemOf, slots, slotsL, wipeE, putBack, hidOf, Tr.f403, k1, k2, k3]
end M

set_option Elab.async false
set_option linter.all false
set_option maxRecDepth 100000
set_option maxHeartbeats 1000000
/-! PyL61h: books of one tube. -/
namespace M
open PySem Ev
def book (q p : Int) : D := .tuple [.int 0, .tuple [enc (q, p)]]
structure Tube (q p : Int) : Prop where
  q1 : 1 ≤ q
  q2 : q ≤ 2000
  p1 : 1 ≤ p
  p2 : p ≤ 2000
  g : Nat.gcd q.natAbs p.natAbs = 1
theorem g0 : Tr.glob 0 = some (.int 1000000) := rfl
theorem g1 : Tr.glob 1 = some (.int 60) := rfl
theorem g2 : Tr.glob 2 = some (.int 20) := rfl
theorem g3 : Tr.glob 3 = some (enc (0, 1)) := rfl
theorem is_tube {n : Nat} {q p : Int} (T : Tube q p) : callN Tr.P (n + 4) 6 [.d (enc (q, p))] = .ok (.d (.bool true), [none]) := by
  rw [call_eq (n + 3) 6 _ Tr.f6 rfl]
  obtain ⟨h1, h2, h3, h4, h5⟩ := T
  simp [evF, evSs, evS, evE, evA, evO, evAnd, evOr, evTs, ar, itr, getE, setE, rd1, rdB, rdF, rdC, rdP, rdX, app1, app2, post, binD, cmpS, cmpD, bltD, ixD, slD, revD, isiD, isTys, isTy, negD, walkB, isWalk, bindS, bindP, bindPs, bindSs, retV, avOf, noErr, grd, opt, frz, truth, outs, lent, Res.bind, sizeMax, seqOf, notS, fin, back, backL, lost, setAt, appAt, augAt, popAt, Ev.itemOf, slots, slotsL, wipeE, putBack, hidOf, Tr.f6, g0, is_long, is_within, is_sized, ixN, enc, h1, h5, show q ≤ 1000000 by omega, show -1000000 ≤ p by omega, show p ≤ 1000000 by omega]
theorem is_book {n : Nat} {q p : Int} (T : Tube q p) : callN Tr.P (n + 5) 8 [.d (book q p)] = .ok (.d (.bool true), [none]) := by
  rw [call_eq (n + 4) 8 _ Tr.f8 rfl]
  have k := is_tube (n := n) T
  simp [evF, evSs, evS, evE, evA, evO, evAnd, evOr, evTs, ar, itr, getE, setE, rd1, rdB, rdF, rdC, rdP, rdX, app1, app2, post, binD, cmpS, cmpD, bltD, ixD, slD, revD, isiD, isTys, isTy, negD, walkB, isWalk, bindS, bindP, bindPs, bindSs, retV, avOf, noErr, grd, opt, frz, truth, outs, lent, Res.bind, sizeMax, seqOf, notS, fin, back, backL, lost, setAt, appAt, augAt, popAt, Ev.itemOf, slots, slotsL, wipeE, putBack, hidOf, Tr.f8, g1, g2, is_long, is_within, ixN, book, EvS.lap, lcL, k, bools]
theorem tupled_book (n : Nat) (q p : Int) : callN Tr.P (n + 4) 2 [.d (book q p)] = .ok (.d (book q p), [none]) := by
  refine tupled_tup (by simp [sizeMax]) fun y hy => ?_
  simp only [List.mem_cons, List.not_mem_nil, or_false] at hy
  rcases hy with rfl | rfl
  · exact tupled_int (n + 2) 0
  · refine tupled_tup (by simp [sizeMax]) fun y hy => ?_
    simp only [List.mem_cons, List.not_mem_nil, or_false] at hy
    subst hy
    exact tupled_enc n (q, p)
theorem sure_book {n : Nat} {q p : Int} (T : Tube q p) : callN Tr.P (n + 6) 10 [.d (book q p)] = .ok (.d (book q p), [none]) := by
  rw [call_eq (n + 5) 10 _ Tr.f10 rfl]
  simp [evF, evSs, evS, evE, evA, evO, evAnd, evOr, evTs, ar, itr, getE, setE, rd1, rdB, rdF, rdC, rdP, rdX, app1, app2, post, binD, cmpS, cmpD, bltD, ixD, slD, revD, isiD, isTys, isTy, negD, walkB, isWalk, bindS, bindP, bindPs, bindSs, retV, avOf, noErr, grd, opt, frz, truth, outs, lent, Res.bind, sizeMax, seqOf, notS, fin, back, backL, lost, setAt, appAt, augAt, popAt, Ev.itemOf, slots, slotsL, wipeE, putBack, hidOf, Tr.f10, tupled_book (n + 1), is_book T]
def mLean (q p : Int) : Option Fq := match mLowest p q with
  | some a => mPlus (0, 1) a
  | none => none
theorem lean_by {n : Nat} {q p : Int} {r : Fq} (h : mLean q p = some r) : callN Tr.P (n + 3) 11 [.d (book q p)] = .ok (.d (enc r), [none]) := by
  unfold mLean at h
  split at h
  · rename_i a ha
    rw [call_eq (n + 2) 11 _ Tr.f11 rfl]
    have k1 := lowest_ok (n := n + 1) ha
    have k2 := plus (n := n) h
    have k3 : enc (q, p) = .tuple [.int q, .int p] := rfl
    simp [evF, evSs, evS, evE, evA, evO, evAnd, evOr, evTs, ar, itr, getE, setE, rd1, rdB, rdF, rdC, rdP, rdX, app1, app2, post, binD, cmpS, cmpD, bltD, ixD, slD, revD, isiD, isTys, isTy, negD, walkB, isWalk, bindS, bindP, bindPs, bindSs, retV, avOf, noErr, grd, opt, frz, truth, outs, lent, Res.bind, sizeMax, seqOf, notS, fin, back, backL, lost, setAt, appAt, augAt, popAt, Ev.itemOf, slots, slotsL, wipeE, putBack, hidOf, Tr.f11, g3, ixN, book, forL, k1, k2, k3]
  · cases h
theorem product1 {n : Nat} {q : Int} : callN Tr.P (n + 1) 28 [.d (.list [.int q])] = .ok (.d (.int q), [none]) := by
  rw [call_eq n 28 _ Tr.f28 rfl]
  have g : mulOk 1 q = true := mul_l (by decide) (by decide)
  simp [evF, evSs, evS, evE, evA, evO, evAnd, evOr, evTs, ar, itr, getE, setE, rd1, rdB, rdF, rdC, rdP, rdX, app1, app2, post, binD, cmpS, cmpD, bltD, ixD, slD, revD, isiD, isTys, isTy, negD, walkB, isWalk, bindS, bindP, bindPs, bindSs, retV, avOf, noErr, grd, opt, frz, truth, outs, lent, Res.bind, sizeMax, seqOf, notS, fin, back, backL, lost, setAt, appAt, augAt, popAt, Ev.itemOf, slots, slotsL, wipeE, putBack, hidOf, Tr.f28, forL, g]
def absI (i : Int) : Int := if i < 0 then -i else i
def sgI (i : Int) : Int := bI (decide (0 < i)) - bI (decide (i < 0))
def mWorth (q p : Int) : Option Fq := (mLean q p).bind fun size => (mTimes (1, q) (1, q)).bind fun t => (mTotal (0, 1) [t]).bind fun sq => (mPlus (1, 1) sq).bind fun u => (mTimes (sgI size.1, 24) u).bind fun first =>
  (mTimes size (absI size.1, size.2)).bind fun sl => (mTimes (1, 24) sl).bind fun s1 => (mTimes (1, 8) size).bind fun s2 => (mMinus s1 s2).bind fun second => (mSumBy p q).bind fun tb => (mTotal (0, 1) [tb]).bind fun teeth =>
  (mTimes (1, 2) (absI size.1, size.2)).bind fun hl => (mTimes hl teeth).bind fun third => (mPlus first second).bind fun fs => (mMinus fs third).bind fun x => mTimes (q, 1) x
theorem worth_by {n : Nat} {q p : Int} {r : Fq} (h : mWorth q p = some r) : callN Tr.P (n + 4) 161 [.d (book q p)] = .ok (.d (enc r), [none]) := by
  unfold mWorth at h
  simp only [Option.bind_eq_some_iff] at h
  obtain ⟨size, h1, t, h2, sq, h3, u, h4, first, h5, sl, h6, s1, h7, s2, h8, second, h9, tb, h10, teeth, h11, hl, h12, third, h13, fs, h14, x, h15, h16⟩ := h
  rw [call_eq (n + 3) 161 _ Tr.f161 rfl]
  have k1 := lean_by (n := n) h1
  have k2 := times (n := n + 1) h2
  have k3 := total (n := n) (L := .list ([t].map enc)) rfl h3
  have k4 := plus (n := n + 1) h4
  have k5 := times (n := n + 1) h5
  have k6 := times (n := n + 1) h6
  have k7 := times (n := n + 1) h7
  have k8 := times (n := n + 1) h8
  have k9 := minus (n := n + 1) h9
  have k10 := sum_by (n := n) h10
  have k11 := total (n := n) (L := .list ([tb].map enc)) rfl h11
  have k12 := times (n := n + 1) h12
  have k13 := times (n := n + 1) h13
  have k14 := plus (n := n + 1) h14
  have k15 := minus (n := n + 1) h15
  have k16 := times (n := n + 1) h16
  have kp := product1 (n := n + 2) (q := q)
  have ks := sign_of (n + 2) size.1
  have ee : enc (q, p) = .tuple [.int q, .int p] := rfl
  have es : enc size = .tuple [.int size.1, .int size.2] := rfl
  unfold absI at h6 h12 k6 k12
  refine evF_rt rfl (e := [some (.d (book q p)), some (.d (enc sq)), some (.d (enc first)), some (.d (enc second)), some (.d (enc teeth)), some (.d (enc third)), some (.d (.tuple [enc (q, p)])), some (.d (enc size)), some (.d (.int (sgI size.1))), some (.d (enc (absI size.1, size.2))), none, none]) ?_
  refine (evSs_nx (e1 := [some (.d (book q p)), none, none, none, none, none, some (.d (.tuple [enc (q, p)])), some (.d (enc size)), none, none, none, none]) ?_).trans ?_
  · unfold book at k1 ⊢
    simp [evF, evSs, evS, evE, evA, evO, evAnd, evOr, evTs, ar, itr, getE, setE, rd1, rdB, rdF, rdC, rdP, rdX, app1, app2, post, binD, cmpS, cmpD, bltD, ixD, slD, revD, isiD, isTys, isTy, negD, walkB, isWalk, bindS, bindP, bindPs, bindSs, retV, avOf, noErr, grd, opt, frz, truth, outs, lent, Res.bind, sizeMax, seqOf, notS, fin, back, backL, lost, setAt, appAt, augAt, popAt, Ev.itemOf, slots, slotsL, wipeE, putBack, hidOf, Tr.f161, k1, ixN, List.replicate]
  refine (evSs_nx (e1 := [some (.d (book q p)), none, none, none, none, none, some (.d (.tuple [enc (q, p)])), some (.d (enc size)), some (.d (.int (sgI size.1))), some (.d (enc (absI size.1, size.2))), none, none]) ?_).trans ?_
  · simp [evF, evSs, evS, evE, evA, evO, evAnd, evOr, evTs, ar, itr, getE, setE, rd1, rdB, rdF, rdC, rdP, rdX, app1, app2, post, binD, cmpS, cmpD, bltD, ixD, slD, revD, isiD, isTys, isTy, negD, walkB, isWalk, bindS, bindP, bindPs, bindSs, retV, avOf, noErr, grd, opt, frz, truth, outs, lent, Res.bind, sizeMax, seqOf, notS, fin, back, backL, lost, setAt, appAt, augAt, popAt, Ev.itemOf, slots, slotsL, wipeE, putBack, hidOf, es, ks, ixN, sgI, absI, enc]
  refine (evSs_nx (e1 := [some (.d (book q p)), some (.d (enc sq)), none, none, none, none, some (.d (.tuple [enc (q, p)])), some (.d (enc size)), some (.d (.int (sgI size.1))), some (.d (enc (absI size.1, size.2))), none, none]) ?_).trans ?_
  · simp only [enc, List.map_cons, List.map_nil] at k2 k3
    simp [evF, evSs, evS, evE, evA, evO, evAnd, evOr, evTs, ar, itr, getE, setE, rd1, rdB, rdF, rdC, rdP, rdX, app1, app2, post, binD, cmpS, cmpD, bltD, ixD, slD, revD, isiD, isTys, isTy, negD, walkB, isWalk, bindS, bindP, bindPs, bindSs, retV, avOf, noErr, grd, opt, frz, truth, outs, lent, Res.bind, sizeMax, seqOf, notS, fin, back, backL, lost, setAt, appAt, augAt, popAt, Ev.itemOf, slots, slotsL, wipeE, putBack, hidOf, enc, EvS.lap, lcL, k2, k3]
  refine (evSs_nx (e1 := [some (.d (book q p)), some (.d (enc sq)), some (.d (enc first)), none, none, none, some (.d (.tuple [enc (q, p)])), some (.d (enc size)), some (.d (.int (sgI size.1))), some (.d (enc (absI size.1, size.2))), none, none]) ?_).trans ?_
  · simp only [enc] at k4 k5
    simp [evF, evSs, evS, evE, evA, evO, evAnd, evOr, evTs, ar, itr, getE, setE, rd1, rdB, rdF, rdC, rdP, rdX, app1, app2, post, binD, cmpS, cmpD, bltD, ixD, slD, revD, isiD, isTys, isTy, negD, walkB, isWalk, bindS, bindP, bindPs, bindSs, retV, avOf, noErr, grd, opt, frz, truth, outs, lent, Res.bind, sizeMax, seqOf, notS, fin, back, backL, lost, setAt, appAt, augAt, popAt, Ev.itemOf, slots, slotsL, wipeE, putBack, hidOf, enc, k4, k5]
  refine (evSs_nx (e1 := [some (.d (book q p)), some (.d (enc sq)), some (.d (enc first)), some (.d (enc second)), none, none, some (.d (.tuple [enc (q, p)])), some (.d (enc size)), some (.d (.int (sgI size.1))), some (.d (enc (absI size.1, size.2))), none, none]) ?_).trans ?_
  · simp only [enc] at k6 k7 k8 k9
    simp [evF, evSs, evS, evE, evA, evO, evAnd, evOr, evTs, ar, itr, getE, setE, rd1, rdB, rdF, rdC, rdP, rdX, app1, app2, post, binD, cmpS, cmpD, bltD, ixD, slD, revD, isiD, isTys, isTy, negD, walkB, isWalk, bindS, bindP, bindPs, bindSs, retV, avOf, noErr, grd, opt, frz, truth, outs, lent, Res.bind, sizeMax, seqOf, notS, fin, back, backL, lost, setAt, appAt, augAt, popAt, Ev.itemOf, slots, slotsL, wipeE, putBack, hidOf, enc, k6, k7, k8, k9, absI]
  refine (evSs_nx (e1 := [some (.d (book q p)), some (.d (enc sq)), some (.d (enc first)), some (.d (enc second)), some (.d (enc teeth)), none, some (.d (.tuple [enc (q, p)])), some (.d (enc size)), some (.d (.int (sgI size.1))), some (.d (enc (absI size.1, size.2))), none, none]) ?_).trans ?_
  · simp only [enc, List.map_cons, List.map_nil] at k10 k11
    simp [evF, evSs, evS, evE, evA, evO, evAnd, evOr, evTs, ar, itr, getE, setE, rd1, rdB, rdF, rdC, rdP, rdX, app1, app2, post, binD, cmpS, cmpD, bltD, ixD, slD, revD, isiD, isTys, isTy, negD, walkB, isWalk, bindS, bindP, bindPs, bindSs, retV, avOf, noErr, grd, opt, frz, truth, outs, lent, Res.bind, sizeMax, seqOf, notS, fin, back, backL, lost, setAt, appAt, augAt, popAt, Ev.itemOf, slots, slotsL, wipeE, putBack, hidOf, enc, EvS.lap, lcL, k10, k11]
  refine (evSs_nx (e1 := [some (.d (book q p)), some (.d (enc sq)), some (.d (enc first)), some (.d (enc second)), some (.d (enc teeth)), some (.d (enc third)), some (.d (.tuple [enc (q, p)])), some (.d (enc size)), some (.d (.int (sgI size.1))), some (.d (enc (absI size.1, size.2))), none, none]) ?_).trans ?_
  · simp only [enc] at k12 k13
    simp [evF, evSs, evS, evE, evA, evO, evAnd, evOr, evTs, ar, itr, getE, setE, rd1, rdB, rdF, rdC, rdP, rdX, app1, app2, post, binD, cmpS, cmpD, bltD, ixD, slD, revD, isiD, isTys, isTy, negD, walkB, isWalk, bindS, bindP, bindPs, bindSs, retV, avOf, noErr, grd, opt, frz, truth, outs, lent, Res.bind, sizeMax, seqOf, notS, fin, back, backL, lost, setAt, appAt, augAt, popAt, Ev.itemOf, slots, slotsL, wipeE, putBack, hidOf, enc, k12, k13, absI]
  refine evSs_rt ?_
  simp only [enc] at k14 k15 k16
  simp [evF, evSs, evS, evE, evA, evO, evAnd, evOr, evTs, ar, itr, getE, setE, rd1, rdB, rdF, rdC, rdP, rdX, app1, app2, post, binD, cmpS, cmpD, bltD, ixD, slD, revD, isiD, isTys, isTy, negD, walkB, isWalk, bindS, bindP, bindPs, bindSs, retV, avOf, noErr, grd, opt, frz, truth, outs, lent, Res.bind, sizeMax, seqOf, notS, fin, back, backL, lost, setAt, appAt, augAt, popAt, Ev.itemOf, slots, slotsL, wipeE, putBack, hidOf, enc, EvS.lap, lcL, kp, k14, k15, k16]
theorem worth {n : Nat} {q p : Int} {s r : Fq} (T : Tube q p) (hs : mLean q p = some s) (h0 : s.1 ≠ 0) (h : mWorth q p = some r) : callN Tr.P (n + 7) 176 [.d (book q p)] = .ok (.d (enc r), [none]) := by
  rw [call_eq (n + 6) 176 _ Tr.f176 rfl]
  have k1 := sure_book (n := n) T
  have k2 := lean_by (n := n + 3) hs
  have k3 := worth_by (n := n + 2) h
  have e0 : ∀ x : Fq, enc x = .tuple [.int x.1, .int x.2] := fun _ => rfl
  rw [e0 s] at k2
  unfold book at k1 k2 k3 ⊢
  simp [evF, evSs, evS, evE, evA, evO, evAnd, evOr, evTs, ar, itr, getE, setE, rd1, rdB, rdF, rdC, rdP, rdX, app1, app2, post, binD, cmpS, cmpD, bltD, ixD, slD, revD, isiD, isTys, isTy, negD, walkB, isWalk, bindS, bindP, bindPs, bindSs, retV, avOf, noErr, grd, opt, frz, truth, outs, lent, Res.bind, sizeMax, seqOf, notS, fin, back, backL, lost, setAt, appAt, augAt, popAt, Ev.itemOf, slots, slotsL, wipeE, putBack, hidOf, Tr.f176, ixN, k1, k2, k3, h0]
def mMean (q p : Int) : Option Fq := (mLean q p).bind fun size => if mulOk (absI size.1) q && divOk size.2 then (mWorth q p).bind fun w => mTimes w (2, (absI size.1 * q).fdiv size.2) else none
theorem mean_worth {n : Nat} {q p : Int} {s r : Fq} (T : Tube q p) (hs : mLean q p = some s) (h0 : s.1 ≠ 0) (h : mMean q p = some r) : callN Tr.P (n + 7) 437 [.d (book q p)] = .ok (.d (enc r), [none]) := by
  unfold mMean at h
  rw [hs] at h
  have h' : (if mulOk (absI s.1) q && divOk s.2 then (mWorth q p).bind fun w => mTimes w (2, (absI s.1 * q).fdiv s.2) else none) = some r := h
  split at h'
  · rename_i g
    simp only [Bool.and_eq_true] at g
    obtain ⟨g1, g2⟩ := g
    rw [Option.bind_eq_some_iff] at h'
    obtain ⟨w, hw, ht⟩ := h'
    rw [call_eq (n + 6) 437 _ Tr.f437 rfl]
    have k1 := sure_book (n := n) T
    have k2 := lean_by (n := n + 3) hs
    have k3 := worth_by (n := n + 2) hw
    have k4 := times (n := n + 4) ht
    have k5 := product1 (n := n + 5) (q := q)
    unfold absI at g1 k4
    have e0 : enc s = .tuple [.int s.1, .int s.2] := rfl
    rw [e0] at k2
    unfold book at k1 k2 k3 ⊢
    simp only [enc] at k1 k2 k3 k4 ⊢
    simp [evF, evSs, evS, evE, evA, evO, evAnd, evOr, evTs, ar, itr, getE, setE, rd1, rdB, rdF, rdC, rdP, rdX, app1, app2, post, binD, cmpS, cmpD, bltD, ixD, slD, revD, isiD, isTys, isTy, negD, walkB, isWalk, bindS, bindP, bindPs, bindSs, retV, avOf, noErr, grd, opt, frz, truth, outs, lent, Res.bind, sizeMax, seqOf, notS, fin, back, backL, lost, setAt, appAt, augAt, popAt, Ev.itemOf, slots, slotsL, wipeE, putBack, hidOf, Tr.f437, ixN, EvS.lap, lcL, k1, k2, k3, k4, k5, h0, g1, g2]
  · cases h'
end M

set_option Elab.async false
set_option linter.all false
set_option maxRecDepth 100000
set_option maxHeartbeats 1000000
/-! PyL61i: lowest terms; steps, teeth and order by whole numbers. -/
namespace M
open PySem Ev
/-! ### lowest terms -/
def nrm (a b : Int) : Fq := (a.fdiv ((Nat.gcd a.natAbs b.natAbs : Nat) : Int), b.fdiv ((Nat.gcd a.natAbs b.natAbs : Nat) : Int))
theorem gpos {a b : Int} (hb : 0 < b) : 0 < Nat.gcd a.natAbs b.natAbs := Nat.gcd_pos_of_pos_right _ (by omega)
theorem nrm_mul {a b : Int} (hb : 0 < b) : (nrm a b).1 * ((Nat.gcd a.natAbs b.natAbs : Nat) : Int) = a ∧ (nrm a b).2 * ((Nat.gcd a.natAbs b.natAbs : Nat) : Int) = b := by
  have hg := gpos (a := a) hb
  have h1 : ((Nat.gcd a.natAbs b.natAbs : Nat) : Int) ∣ a := Int.ofNat_dvd_left.2 (Nat.gcd_dvd_left _ _)
  have h2 : ((Nat.gcd a.natAbs b.natAbs : Nat) : Int) ∣ b := Int.ofNat_dvd_left.2 (Nat.gcd_dvd_right _ _)
  unfold nrm
  rw [Int.fdiv_eq_ediv_of_nonneg _ (by omega), Int.fdiv_eq_ediv_of_nonneg _ (by omega)]
  exact ⟨Int.ediv_mul_cancel h1, Int.ediv_mul_cancel h2⟩
theorem nrm_pos {a b : Int} (hb : 0 < b) : 0 < (nrm a b).2 := by
  have h := (nrm_mul (a := a) hb).2
  have hg := gpos (a := a) hb
  rcases Int.lt_or_le 0 (nrm a b).2 with h1 | h1
  · exact h1
  · exfalso
    have : (nrm a b).2 * ((Nat.gcd a.natAbs b.natAbs : Nat) : Int) ≤ 0 := Int.mul_nonpos_of_nonpos_of_nonneg h1 (by omega)
    omega
theorem nrm_le {a b : Int} (hb : 0 < b) : (nrm a b).2 ≤ b := by
  have h := (nrm_mul (a := a) hb).2
  have hg := gpos (a := a) hb
  have hp := nrm_pos (a := a) hb
  have : (nrm a b).2 * 1 ≤ (nrm a b).2 * ((Nat.gcd a.natAbs b.natAbs : Nat) : Int) := Int.mul_le_mul_of_nonneg_left (by omega) (by omega)
  omega
theorem nrm_cop {a b : Int} (hb : 0 < b) : Nat.gcd (nrm a b).1.natAbs (nrm a b).2.natAbs = 1 := by
  have h := nrm_mul (a := a) hb
  have hg := gpos (a := a) hb
  have e1 : (nrm a b).1.natAbs * Nat.gcd a.natAbs b.natAbs = a.natAbs := by
    have := congrArg Int.natAbs h.1
    rwa [Int.natAbs_mul, Int.natAbs_natCast] at this
  have e2 : (nrm a b).2.natAbs * Nat.gcd a.natAbs b.natAbs = b.natAbs := by
    have := congrArg Int.natAbs h.2
    rwa [Int.natAbs_mul, Int.natAbs_natCast] at this
  have e3 := Nat.gcd_mul_right (nrm a b).1.natAbs (Nat.gcd a.natAbs b.natAbs) (nrm a b).2.natAbs
  rw [e1, e2] at e3
  exact Nat.eq_of_mul_eq_mul_right hg (by omega)
theorem cop_ext {a b c d : Int} (hb : 0 < b) (hd : 0 < d) (h1 : Nat.gcd a.natAbs b.natAbs = 1) (h2 : Nat.gcd c.natAbs d.natAbs = 1) (h : a * d = c * b) : a = c ∧ b = d := by
  have hn : a.natAbs * d.natAbs = c.natAbs * b.natAbs := by
    have := congrArg Int.natAbs h
    rwa [Int.natAbs_mul, Int.natAbs_mul] at this
  have d1 : b.natAbs ∣ d.natAbs := Nat.Coprime.dvd_of_dvd_mul_left (Nat.Coprime.symm h1) (by rw [hn]; exact Nat.dvd_mul_left _ _)
  have d2 : d.natAbs ∣ b.natAbs := Nat.Coprime.dvd_of_dvd_mul_left (Nat.Coprime.symm h2) (by rw [← hn]; exact Nat.dvd_mul_left _ _)
  have e := Nat.dvd_antisymm d1 d2
  have e' : b = d := by omega
  subst e'
  exact ⟨Int.eq_of_mul_eq_mul_right (by omega) h, rfl⟩
theorem nrm_x {a b : Int} (hb : 0 < b) : (nrm a b).1 * b = a * (nrm a b).2 := by
  have h := nrm_mul (a := a) hb
  generalize ((Nat.gcd a.natAbs b.natAbs : Nat) : Int) = g at h
  generalize (nrm a b) = x at h ⊢
  obtain ⟨x1, x2⟩ := x
  obtain ⟨h1, h2⟩ := h
  subst h1
  subst h2
  show x1 * (x2 * g) = x1 * g * x2
  grind
theorem nrm_ext {a b c d : Int} (hb : 0 < b) (hd : 0 < d) (h : a * d = c * b) : nrm a b = nrm c d := by
  have x1 := nrm_mul (a := a) hb
  have x2 := nrm_mul (a := c) hd
  have p1 := gpos (a := a) hb
  have p2 := gpos (a := c) hd
  have q : (nrm a b).1 * (nrm c d).2 = (nrm c d).1 * (nrm a b).2 := by
    have hg : (0 : Int) < ((Nat.gcd a.natAbs b.natAbs : Nat) : Int) * ((Nat.gcd c.natAbs d.natAbs : Nat) : Int) := Int.mul_pos (by omega) (by omega)
    refine Int.eq_of_mul_eq_mul_right (Int.ne_of_gt hg) ?_
    generalize ((Nat.gcd a.natAbs b.natAbs : Nat) : Int) = g at *
    generalize ((Nat.gcd c.natAbs d.natAbs : Nat) : Int) = k at *
    generalize (nrm a b) = x at *
    generalize (nrm c d) = y at *
    grind
  have e := cop_ext (nrm_pos (a := a) hb) (nrm_pos (a := c) hd) (nrm_cop hb) (nrm_cop hd) q
  exact Prod.ext e.1 e.2
theorem divOk_gcd {a b : Int} (hb : 0 < b) (hs : b < 1237940039285380274899124224) : divOk ((Nat.gcd a.natAbs b.natAbs : Nat) : Int) = true := by
  have hg := gpos (a := a) hb
  have hle : Nat.gcd a.natAbs b.natAbs ≤ b.natAbs := Nat.le_of_dvd (by omega) (Nat.gcd_dvd_right _ _)
  have e : Nat.gcd a.natAbs b.natAbs < 2 ^ 8000 := Nat.lt_of_lt_of_le (show Nat.gcd a.natAbs b.natAbs < 2 ^ 90 by omega) (Nat.pow_le_pow_right (by decide) (by decide))
  unfold divOk
  simp only [Int.natAbs_natCast, Bool.and_eq_true, Bool.or_eq_true, decide_eq_true_eq]
  exact ⟨by omega, Or.inr ⟨by omega, e⟩⟩
theorem low_nrm {a b : Int} (hb : 0 < b) (hs : b < 1237940039285380274899124224) : mLowest a b = some (nrm a b) := by
  unfold mLowest
  rw [divOk_gcd hb hs, if_pos rfl, if_pos hb]
  rfl
theorem gcd_mod {a b : Int} (hb : 0 < b) : Nat.gcd b.natAbs (a.fmod b).natAbs = Nat.gcd a.natAbs b.natAbs := by
  rw [Int.fmod_eq_emod_of_nonneg _ (show 0 ≤ b by omega)]
  have h1 : Int.gcd b (a % b + b * (a / b)) = Int.gcd b (a % b) := Int.gcd_add_mul_left_right b (a % b) (a / b)
  rw [Int.emod_add_mul_ediv, Int.gcd_comm] at h1
  exact h1.symm
theorem half_mod {a b : Int} (h : 0 < a) (k : a < b) : 2 * b.fmod a < b := by
  rw [Int.fmod_eq_emod_of_nonneg _ (show 0 ≤ a by omega)]
  have := Int.emod_add_mul_ediv b a
  have h1 := Int.emod_lt_of_pos b h
  have h0 : 1 ≤ b / a := (Int.le_ediv_iff_mul_le h).2 (by omega)
  have : a * 1 ≤ a * (b / a) := Int.mul_le_mul_of_nonneg_left h0 (by omega)
  omega
theorem mGcd_ok : ∀ (k m : Nat) (a b : Int), 0 ≤ b → b < 2 ^ k → 2 * k + 1 ≤ m → mGcd m a b = some ((Nat.gcd a.natAbs b.natAbs : Nat) : Int)
  | 0, m + 1, a, b, h0, h1, _ => by
    have : b = 0 := by simp at h1; omega
    subst this
    unfold mGcd
    simp only [ne_eq, not_true_eq_false, if_false, Int.natAbs_zero, Nat.gcd_zero_right]
    congr 1
    split <;> omega
  | k + 1, m + 2, a, b, h0, h1, hm => by
    have habs : ∀ x : Int, (if x < 0 then -x else x) = ((x.natAbs : Nat) : Int) := fun x => by split <;> omega
    unfold mGcd
    split
    · rename_i hb
      have b1 := Int.fmod_nonneg_of_pos a (show 0 < b by omega)
      have b2 := Int.fmod_lt_of_pos a (show 0 < b by omega)
      have e1 := gcd_mod (a := a) (b := b) (by omega)
      rw [← e1]
      unfold mGcd
      split
      · rename_i hr
        have c1 := Int.fmod_nonneg_of_pos b (show 0 < a.fmod b by omega)
        have c2 := Int.fmod_lt_of_pos b (show 0 < a.fmod b by omega)
        have e2 := gcd_mod (a := b) (b := a.fmod b) (by omega)
        have e3 := half_mod (a := a.fmod b) (b := b) (by omega) b2
        rw [← e2]
        exact mGcd_ok k m _ _ c1 (by have : (2 : Int) ^ (k + 1) = 2 ^ k * 2 := Int.pow_succ ..; omega) (by omega)
      · rename_i hr
        have : a.fmod b = 0 := by simpa using hr
        rw [this, habs, Int.natAbs_zero, Nat.gcd_zero_right]
    · rename_i hb
      have : b = 0 := by simpa using hb
      subst this
      rw [habs, Int.natAbs_zero, Nat.gcd_zero_right]
theorem mLow_nrm {a b : Int} (hb : 0 < b) (hs : b < 1237940039285380274899124224) : mLow a b = some (nrm a b) := by
  unfold mLow
  rw [mGcd_ok 90 200 a b (by omega) (by omega) (by decide)]
  show (if divOk _ = true then _ else none) = _
  rw [divOk_gcd hb hs, if_pos rfl]
  rfl
/-! ### with the same number below -/
theorem plus_nrm {a b D : Int} (h1 : 0 < D) (h2 : D < 1000000000) : mPlus (nrm a D) (nrm b D) = some (nrm (a + b) D) := by
  have p1 := nrm_pos (a := a) h1
  have p2 := nrm_pos (a := b) h1
  have l1 := nrm_le (a := a) h1
  have l2 := nrm_le (a := b) h1
  have b3 : (nrm a D).2 * (nrm b D).2 ≤ 1000000000 * 1000000000 := Int.mul_le_mul (by omega) (by omega) (by omega) (by omega)
  have b4 : 0 < (nrm a D).2 * (nrm b D).2 := Int.mul_pos p1 p2
  unfold mPlus
  rw [mul_r (by omega) (by omega), mul_r (by omega) (by omega), mul_l (by omega) (by omega)]
  rw [if_pos (by rfl), low_nrm b4 (by omega)]
  congr 1
  refine nrm_ext b4 h1 ?_
  have x1 := nrm_x (a := a) h1
  have x2 := nrm_x (a := b) h1
  grind
theorem lPlus_nrm {a b D : Int} (h1 : 0 < D) (h2 : D < 1000000000) : lPlus (nrm a D) (nrm b D) = some (nrm (a + b) D) := by
  have p1 := nrm_pos (a := a) h1
  have p2 := nrm_pos (a := b) h1
  have l1 := nrm_le (a := a) h1
  have l2 := nrm_le (a := b) h1
  have b3 : (nrm a D).2 * (nrm b D).2 ≤ 1000000000 * 1000000000 := Int.mul_le_mul (by omega) (by omega) (by omega) (by omega)
  have b4 : 0 < (nrm a D).2 * (nrm b D).2 := Int.mul_pos p1 p2
  unfold lPlus
  rw [mul_r (by omega) (by omega), mul_r (by omega) (by omega), mul_l (by omega) (by omega)]
  rw [if_pos (by rfl), mLow_nrm b4 (by omega)]
  congr 1
  refine nrm_ext b4 h1 ?_
  have x1 := nrm_x (a := a) h1
  have x2 := nrm_x (a := b) h1
  grind
theorem less_nrm {a b D : Int} (h1 : 0 < D) (h2 : D < 1000000000) : mLess (nrm a D) (nrm b D) = some (decide (a < b)) := by
  have p1 := nrm_pos (a := a) h1
  have p2 := nrm_pos (a := b) h1
  have l1 := nrm_le (a := a) h1
  have l2 := nrm_le (a := b) h1
  unfold mLess
  rw [mul_r (by omega) (by omega), mul_r (by omega) (by omega), if_pos (by rfl)]
  congr 1
  have x1 := nrm_x (a := a) h1
  have x2 := nrm_x (a := b) h1
  have b4 : 0 < (nrm a D).2 * (nrm b D).2 := Int.mul_pos p1 p2
  have e : ((nrm a D).1 * (nrm b D).2 - (nrm b D).1 * (nrm a D).2) * D = (a - b) * ((nrm a D).2 * (nrm b D).2) := by grind
  have q : (nrm a D).1 * (nrm b D).2 < (nrm b D).1 * (nrm a D).2 ↔ a < b := by
    constructor
    · intro h
      have : ((nrm a D).1 * (nrm b D).2 - (nrm b D).1 * (nrm a D).2) * D < 0 := Int.mul_neg_of_neg_of_pos (by omega) h1
      rw [e] at this
      rcases Int.lt_or_le a b with k | k
      · exact k
      · have : 0 ≤ (a - b) * ((nrm a D).2 * (nrm b D).2) := Int.mul_nonneg (by omega) (by omega)
        omega
    · intro h
      have : (a - b) * ((nrm a D).2 * (nrm b D).2) < 0 := Int.mul_neg_of_neg_of_pos (by omega) b4
      rw [← e] at this
      rcases Int.lt_or_le ((nrm a D).1 * (nrm b D).2) ((nrm b D).1 * (nrm a D).2) with k | k
      · exact k
      · have : 0 ≤ ((nrm a D).1 * (nrm b D).2 - (nrm b D).1 * (nrm a D).2) * D := Int.mul_nonneg (by omega) (by omega)
        omega
  simp [q]
theorem total_nrm {D : Int} (h1 : 0 < D) (h2 : D < 1000000000) : ∀ (l : List Int) (a : Int), mTotal (nrm a D) (l.map fun x => nrm x D) = some (nrm (a + l.sum) D)
  | [], a => by simp [mTotal]
  | x :: r, a => by
    simp only [List.map_cons, mTotal, plus_nrm h1 h2, total_nrm h1 h2 r, List.sum_cons, Int.add_assoc]
theorem lTotal_nrm {D : Int} (h1 : 0 < D) (h2 : D < 1000000000) : ∀ (l : List Int) (a : Int), lTotal (nrm a D) (l.map fun x => nrm x D) = some (nrm (a + l.sum) D)
  | [], a => by simp [lTotal]
  | x :: r, a => by
    simp only [List.map_cons, lTotal, lPlus_nrm h1 h2, lTotal_nrm h1 h2 r, List.sum_cons, Int.add_assoc]
theorem nrm_zero {D : Int} (h1 : 0 < D) : nrm 0 D = (0, 1) := by
  have : nrm 0 D = nrm 0 1 := nrm_ext h1 (by decide) (by omega)
  rw [this]; rfl
/-! ### steps by whole numbers -/
def Kz : Nat := 100000
/-- Kz more than 4 p times the step; 0: none -/
def zs (p q : Nat) (A B : Nat) : Nat := cond (Nat.ble B A) (cond (Nat.beq (Nat.mod (Nat.sub A B) q) 0) (Nat.div (Nat.sub A B) q) 0) 0
def dst (a b : Nat) : Nat := Nat.add (Nat.sub a b) (Nat.sub b a)
def sqr (a : Nat) : Nat := Nat.mul a a
def zc (p q i z : Nat) : Nat := cond (Nat.beq z 0) 0 (zs p q (Nat.add (sqr (dst (Nat.succ (Nat.add i i)) (Nat.add p q))) (Nat.mul (Nat.add p q) Kz)) (Nat.mul p (Nat.add q z)))
def zv : Nat → Nat → Nat → Nat → Nat
  | 0, _, _, _ => 0
  | m + 1, p, q, i => cond (Nat.blt 1 p) (cond (Nat.beq q 0) 0 (zc p q i (zv m q (Nat.mod p q) (Nat.mod i q)))) Kz
theorem zc_eq {p q i z y : Nat} (hq : 0 < q) (h : zc p q i z = y) (hy : y ≠ 0) : z ≠ 0 ∧ ((y : Int) - Kz) * q = (2 * i + 1 - p - q) ^ 2 - p * q - p * ((z : Int) - Kz) := by
  unfold zc at h
  cases hz : Nat.beq z 0 with
  | true => rw [hz] at h; exact absurd h.symm hy
  | false =>
    rw [hz] at h
    have hz' : z ≠ 0 := Nat.ne_of_beq_eq_false hz
    refine ⟨hz', ?_⟩
    unfold zs at h
    simp only [cond_false] at h
    generalize hA : (Nat.add (sqr (dst (Nat.succ (Nat.add i i)) (Nat.add p q))) (Nat.mul (Nat.add p q) Kz)) = A at h
    generalize hB : (Nat.mul p (Nat.add q z)) = B at h
    cases hl : Nat.ble B A with
    | false => rw [hl] at h; exact absurd h.symm hy
    | true =>
      rw [hl] at h
      have hl' := Nat.le_of_ble_eq_true hl
      simp only [cond_true] at h
      cases hm : Nat.beq (Nat.mod (Nat.sub A B) q) 0 with
      | false => rw [hm] at h; exact absurd h.symm hy
      | true =>
        rw [hm] at h
        have hm' : (A - B) % q = 0 := Nat.eq_of_beq_eq_true hm
        have h' : (A - B) / q = y := h
        have e : y * q = A - B := by rw [← h']; exact Nat.div_mul_cancel (Nat.dvd_of_mod_eq_zero hm')
        have e2 : y * q + B = A := by omega
        rw [← hA, ← hB] at e2
        have e3 : ((y * q + p * (q + z) : Nat) : Int) = ((sqr (dst (i + i + 1) (p + q)) + (p + q) * Kz : Nat) : Int) := congrArg _ e2
        have e4 : ((sqr (dst (i + i + 1) (p + q)) : Nat) : Int) = (2 * i + 1 - p - q) ^ 2 := by
          have d : ((dst (i + i + 1) (p + q) : Nat) : Int) = 2 * i + 1 - p - q ∨ ((dst (i + i + 1) (p + q) : Nat) : Int) = -(2 * i + 1 - p - q) := by
            show (((i + i + 1 - (p + q)) + (p + q - (i + i + 1)) : Nat) : Int) = _ ∨ (((i + i + 1 - (p + q)) + (p + q - (i + i + 1)) : Nat) : Int) = _
            omega
          have m : ((sqr (dst (i + i + 1) (p + q)) : Nat) : Int) = ((dst (i + i + 1) (p + q) : Nat) : Int) * ((dst (i + i + 1) (p + q) : Nat) : Int) := by
            unfold sqr; exact Int.natCast_mul _ _
          rw [m]
          rcases d with d | d <;> rw [d] <;> grind
        rw [Int.natCast_add, Int.natCast_add, e4] at e3
        push_cast at e3
        generalize (Kz : Int) = k at *
        generalize ((2 * (i : Int) + 1 - p - q) ^ 2) = S at *
        grind
theorem fmod_nat (a b : Nat) : ((a : Nat) : Int).fmod ((b : Nat) : Int) = ((a % b : Nat) : Int) := by
  rw [Int.fmod_eq_emod_of_nonneg _ (by omega)]
  exact (Int.natCast_emod a b).symm
theorem minus_to {x : Fq} {a b A D : Int} {s : Int} (hx : 0 < x.2) (hx2 : x.2 < 1000000000) (hs : s = 1 ∨ s = -1) (hb : 0 < b) (hb2 : b < 1000000000) (hD : 0 < D) (h : (x.1 * b + s * a * x.2) * D = A * (x.2 * b)) : mMinus x (-s * (nrm a b).1, (nrm a b).2) = some (nrm A D) := by
  have p1 := nrm_pos (a := a) hb
  have l1 := nrm_le (a := a) hb
  have b3 : x.2 * (nrm a b).2 ≤ 1000000000 * 1000000000 := Int.mul_le_mul (by omega) (by omega) (by omega) (by omega)
  have b4 : 0 < x.2 * (nrm a b).2 := Int.mul_pos hx p1
  unfold mMinus
  show (if mulOk x.1 (nrm a b).2 && mulOk (-s * (nrm a b).1) x.2 && mulOk x.2 (nrm a b).2 then mLowest (x.1 * (nrm a b).2 - -s * (nrm a b).1 * x.2) (x.2 * (nrm a b).2) else none) = _
  rw [mul_r (by omega) (by omega), mul_r (by omega) (by omega), mul_l (by omega) (by omega)]
  rw [if_pos (by rfl), low_nrm b4 (by omega)]
  congr 1
  refine nrm_ext b4 hD ?_
  have x1 := nrm_x (a := a) hb
  refine Int.eq_of_mul_eq_mul_right (Int.ne_of_gt hb) ?_
  generalize (nrm a b) = y at *
  grind
theorem mul_lt {a b M N : Int} (h1 : 0 ≤ a) (h2 : a ≤ M) (h3 : 0 ≤ b) (h4 : b ≤ N) : a * b ≤ M * N := Int.mul_le_mul h2 h4 h3 (by omega)
theorem mStep_zv (F : Int) (P : Nat) (hP : 0 < P) (hP2 : P ≤ 2000) : ∀ (m p q i z : Nat) (s : Int) (found : Fq), zv m p q i = z → z ≠ 0 → (s = 1 ∨ s = -1) → 0 < p → p ≤ 2000 → q ≤ 2000 → i ≤ 2000 →
    found = nrm (F * p - s * ((z : Int) - Kz) * P) (4 * P * p) → mStep m found s p q i = some (nrm F (4 * P))
  | 0, _, _, _, _, _, _, h, hz, _, _, _, _, _, _ => absurd h.symm hz
  | m + 1, p, q, i, z, s, found, h, hz, hs, hp, hp2, hq2, hi2, hf => by
    unfold zv at h
    unfold mStep
    cases hlt : Nat.blt 1 p with
    | false =>
      have : ¬ 1 < p := fun k => by rw [show Nat.blt 1 p = true from Nat.ble_eq_true_of_le k] at hlt; cases hlt
      have hp1 : p = 1 := by omega
      subst hp1
      rw [hlt] at h
      have hz' : z = Kz := h.symm
      subst hz'
      rw [if_neg (by decide), hf]
      congr 1
      have : F * ((1 : Nat) : Int) - s * ((Kz : Int) - Kz) * P = F := by simp
      rw [this]
      have : (4 : Int) * P * ((1 : Nat) : Int) = 4 * P := by simp
      rw [this]
    | true =>
      rw [hlt] at h
      have hp1 : 1 < p := Nat.le_of_ble_eq_true hlt
      cases hq0 : Nat.beq q 0 with
      | true => rw [hq0] at h; exact absurd h.symm hz
      | false =>
        rw [hq0] at h
        have hq : 0 < q := Nat.pos_of_ne_zero (Nat.ne_of_beq_eq_false hq0)
        have h' : zc p q i (zv m q (p % q) (i % q)) = z := h
        obtain ⟨h1, h2⟩ := zc_eq hq h' hz
        have r1 : p % q < q := Nat.mod_lt _ hq
        have r2 : i % q < q := Nat.mod_lt _ hq
        rw [if_pos (by omega)]
        have b2 : (p : Int) * q ≤ 2000 * 2000 := mul_lt (by omega) (by omega) (by omega) (by omega)
        have b2' : (0 : Int) < (p : Int) * q := Int.mul_pos (by omega) (by omega)
        have b3 : (4 : Int) * p * q = 4 * (p * q) := by grind
        have b4 : (P : Int) * p ≤ 2000 * 2000 := mul_lt (by omega) (by omega) (by omega) (by omega)
        have b4' : (0 : Int) < (P : Int) * p := Int.mul_pos (by omega) (by omega)
        have b5 : (4 : Int) * P * p = 4 * (P * p) := by grind
        have pw : powOk (2 * (i : Int) + 1 - p - q) 2 = true := by simp [powOk]; omega
        have lo := low_nrm (a := (2 * (i : Int) + 1 - p - q) ^ 2 - p * q) (b := 4 * p * q) (by omega) (by omega)
        have g0 : (0 : Int) < 4 * P * p := by omega
        have mi := minus_to (x := found) (a := (2 * (i : Int) + 1 - p - q) ^ 2 - p * q) (b := 4 * p * q) (A := F * q - -s * ((zv m q (p % q) (i % q) : Nat) - Kz : Int) * P) (D := 4 * P * q) (s := s) (by rw [hf]; exact nrm_pos g0) (by rw [hf]; have := nrm_le (a := F * p - s * ((z : Int) - Kz) * P) g0; omega) hs (by omega) (by omega)
          (Int.mul_pos (by omega) (by omega)) (by
            rw [hf]
            have x1 := nrm_x (a := F * p - s * ((z : Int) - Kz) * P) g0
            refine Int.eq_of_mul_eq_mul_right (Int.ne_of_gt g0) ?_
            refine Int.eq_of_mul_eq_mul_right (show (q : Int) ≠ 0 by omega) ?_
            generalize (nrm (F * p - s * ((z : Int) - Kz) * P) (4 * P * p)) = x at *
            generalize ((2 * (i : Int) + 1 - p - q) ^ 2) = S at *
            generalize (((zv m q (p % q) (i % q) : Nat) : Int) - Kz) = y at *
            generalize ((z : Int) - Kz) = w at *
            have e1 : (x.1 * (4 * p * q) + s * (S - p * q) * x.2) * (4 * P * q) * (4 * P * p) * q = ((x.1 * (4 * P * p)) * (4 * p * q) + s * (S - p * q) * x.2 * (4 * P * p)) * (4 * P * q) * q := by grind
            rw [e1, x1]
            have e2 : s * (S - p * q) = s * (w * q + p * y) := by grind
            grind)
        rw [pw, mul_r (by omega) (by omega), mul_r (by omega) (by omega), lo]
        have hsn : (-s = 1 ∨ -s = -1) := by omega
        have g5 : mulOk (-s) (nrm ((2 * (i : Int) + 1 - p - q) ^ 2 - p * q) (4 * p * q)).1 = true := mul_l (by omega) (by omega)
        have g6 : (decide ((q : Int) ≠ 0)) = true := by simp; omega
        simp only [g6, g5, mi, Bool.and_self, if_true, fmod_nat]
        exact mStep_zv F P hP hP2 m q (p % q) (i % q) _ (-s) _ rfl h1 hsn hq (by omega) (by omega) (by omega) rfl
theorem zv_up : ∀ (m p q i : Nat), zv m p q i ≠ 0 → zv (m + 1) p q i = zv m p q i
  | 0, _, _, _, h => absurd rfl h
  | m + 1, p, q, i, h => by
    show cond (Nat.blt 1 p) (cond (Nat.beq q 0) 0 (zc p q i (zv (m + 1) q (Nat.mod p q) (Nat.mod i q)))) Kz = cond (Nat.blt 1 p) (cond (Nat.beq q 0) 0 (zc p q i (zv m q (Nat.mod p q) (Nat.mod i q)))) Kz
    have h' : cond (Nat.blt 1 p) (cond (Nat.beq q 0) 0 (zc p q i (zv m q (Nat.mod p q) (Nat.mod i q)))) Kz ≠ 0 := h
    cases hl : Nat.blt 1 p with
    | false => rfl
    | true =>
      rw [hl] at h'
      cases hq : Nat.beq q 0 with
      | true => rfl
      | false =>
        rw [hq] at h'
        simp only [cond_true, cond_false] at h' ⊢
        have : zv m q (Nat.mod p q) (Nat.mod i q) ≠ 0 := fun k => h' (by rw [k]; rfl)
        rw [zv_up m _ _ _ this]
/-! ### order -/
def st (D : Int) (z : Nat) : Fq := nrm ((z : Int) - Kz) D
def nCnt (own : Nat) : List Nat → Nat
  | [] => 0
  | x :: r => cond (Nat.ble x own) (Nat.succ (nCnt own r)) (nCnt own r)
def nIns (own : Nat) (F : List Nat) : List Nat := F.take (nCnt own F) ++ [own] ++ F.drop (nCnt own F)
def nOrd : List Nat → List Nat → List Nat
  | F, [] => F
  | F, x :: r => nOrd (nIns x F) r
theorem less_st {a b : Nat} {D : Int} (h1 : 0 < D) (h2 : D < 1000000000) : mLess (st D a) (st D b) = some (decide (a < b)) := by
  unfold st
  rw [less_nrm h1 h2]
  congr 2
  simp
theorem mKeep_st {D : Int} (h1 : 0 < D) (h2 : D < 1000000000) (own : Nat) : ∀ F : List Nat, ∃ l, mKeep (st D own) (F.map (st D)) = some l ∧ l.length = nCnt own F
  | [] => ⟨[], rfl, rfl⟩
  | x :: r => by
    obtain ⟨l, e1, e2⟩ := mKeep_st h1 h2 own r
    simp only [List.map_cons, mKeep, less_st h1 h2, e1, nCnt]
    by_cases h : own < x
    · have hb : Nat.ble x own = false := by
        cases hb : Nat.ble x own with
        | false => rfl
        | true => exact absurd (Nat.le_of_ble_eq_true hb) (by omega)
      exact ⟨_, rfl, by simp [h, hb, e2]⟩
    · have hb : Nat.ble x own = true := Nat.ble_eq_true_of_le (by omega)
      exact ⟨_, rfl, by simp [h, hb, e2]⟩
theorem mIns_st {D : Int} (h1 : 0 < D) (h2 : D < 1000000000) (own : Nat) (F : List Nat) : mIns (st D own) (F.map (st D)) = some ((nIns own F).map (st D)) := by
  obtain ⟨l, e1, e2⟩ := mKeep_st h1 h2 own F
  unfold mIns nIns
  rw [e1]
  simp [e2, List.map_take, List.map_drop]
theorem mOrder_st {D : Int} (h1 : 0 < D) (h2 : D < 1000000000) : ∀ l F : List Nat, mOrder (F.map (st D)) (l.map (st D)) = some ((nOrd F l).map (st D))
  | [], F => rfl
  | x :: r, F => by
    simp only [List.map_cons, mOrder, mIns_st h1 h2, nOrd]
    exact mOrder_st h1 h2 r _
structure Ends (F : List Nat) (m M : Nat) : Prop where
  hd : F[0]? = some m
  lt : F[F.length - 1]? = some M
  le : ∀ x ∈ F, m ≤ x ∧ x ≤ M
theorem nCnt_le (own : Nat) : ∀ F : List Nat, nCnt own F ≤ F.length
  | [] => Nat.le_refl _
  | x :: r => by
    have := nCnt_le own r
    unfold nCnt
    cases Nat.ble x own <;> simp <;> omega
theorem nCnt_zero {own : Nat} : ∀ {F : List Nat}, (∀ x ∈ F, own < x) → nCnt own F = 0
  | [], _ => rfl
  | x :: r, h => by
    have hb : Nat.ble x own = false := by
      cases hb : Nat.ble x own with
      | false => rfl
      | true => have := Nat.le_of_ble_eq_true hb; have := h x (by simp); omega
    unfold nCnt
    rw [hb]
    exact nCnt_zero fun y hy => h y (by simp [hy])
theorem nCnt_all {own : Nat} : ∀ {F : List Nat}, (∀ x ∈ F, x ≤ own) → nCnt own F = F.length
  | [], _ => rfl
  | x :: r, h => by
    have hb : Nat.ble x own = true := Nat.ble_eq_true_of_le (h x (by simp))
    unfold nCnt
    rw [hb]
    simp [nCnt_all (F := r) fun y hy => h y (by simp [hy])]
theorem nCnt_pos {own x : Nat} : ∀ {F : List Nat}, x ∈ F → x ≤ own → 0 < nCnt own F
  | [], h, _ => by cases h
  | y :: r, h, hx => by
    unfold nCnt
    rcases List.mem_cons.1 h with e | e
    · subst e
      rw [Nat.ble_eq_true_of_le hx]
      simp
    · have := nCnt_pos e hx
      cases Nat.ble y own <;> simp <;> omega
theorem nCnt_lt {own x : Nat} : ∀ {F : List Nat}, x ∈ F → own < x → nCnt own F < F.length
  | [], h, _ => by cases h
  | y :: r, h, hx => by
    unfold nCnt
    rcases List.mem_cons.1 h with e | e
    · subst e
      have hb : Nat.ble x own = false := by
        cases hb : Nat.ble x own with
        | false => rfl
        | true => have := Nat.le_of_ble_eq_true hb; omega
      rw [hb]
      have := nCnt_le own r
      simp
      omega
    · have := nCnt_lt e hx
      cases Nat.ble y own <;> simp <;> omega
theorem nIns_len (own : Nat) (F : List Nat) : (nIns own F).length = F.length + 1 := by
  have := nCnt_le own F
  unfold nIns
  simp
  omega
theorem ends_ins {F : List Nat} {m M : Nat} (own : Nat) (h : Ends F m M) : Ends (nIns own F) (min m own) (max M own) := by
  have hm : m ∈ F := List.mem_of_getElem? h.hd
  have hM : M ∈ F := List.mem_of_getElem? h.lt
  have hlen : 0 < F.length := List.length_pos_of_mem hm
  have hle := nCnt_le own F
  have tl : (F.take (nCnt own F)).length = nCnt own F := by simp; omega
  refine ⟨?_, ?_, ?_⟩
  · by_cases hc : own < m
    · have z := nCnt_zero (own := own) (F := F) fun x hx => by have := (h.le x hx).1; omega
      unfold nIns
      rw [z]
      simp
      omega
    · have p := nCnt_pos (own := own) hm (by omega)
      unfold nIns
      rw [List.append_assoc, List.getElem?_append_left (by omega), List.getElem?_take_of_lt p, h.hd]
      simp
      omega
  · rw [nIns_len]
    by_cases hc : M ≤ own
    · have z := nCnt_all (own := own) (F := F) fun x hx => by have := (h.le x hx).2; omega
      unfold nIns
      rw [z]
      simp
      omega
    · have p := nCnt_lt (own := own) hM (by omega)
      unfold nIns
      rw [List.getElem?_append_right (by simp; omega)]
      simp only [List.length_append, tl, List.length_cons, List.length_nil, List.getElem?_drop]
      have : nCnt own F + (F.length + 1 - 1 - (nCnt own F + (0 + 1))) = F.length - 1 := by omega
      rw [this, h.lt]
      simp
      omega
  · intro x hx
    unfold nIns at hx
    simp only [List.append_assoc, List.mem_append, List.mem_cons, List.not_mem_nil, or_false, List.singleton_append] at hx
    rcases hx with hx | hx | hx
    · have := h.le x (List.mem_of_mem_take hx); omega
    · subst hx; omega
    · have := h.le x (List.mem_of_mem_drop hx); omega
def nMin : List Nat → Nat → Nat
  | [], a => a
  | x :: r, a => nMin r (cond (Nat.ble x a) x a)
def nMax : List Nat → Nat → Nat
  | [], a => a
  | x :: r, a => nMax r (cond (Nat.ble a x) x a)
theorem ends_ord : ∀ (l F : List Nat) (m M : Nat), Ends F m M → Ends (nOrd F l) (nMin l m) (nMax l M)
  | [], F, m, M, h => h
  | x :: r, F, m, M, h => by
    have q := ends_ord r _ _ _ (ends_ins x h)
    have e1 : cond (Nat.ble x m) x m = min m x := by
      cases hb : Nat.ble x m with
      | true => have := Nat.le_of_ble_eq_true hb; simp; omega
      | false => have : ¬ x ≤ m := fun k => by rw [Nat.ble_eq_true_of_le k] at hb; cases hb
                 simp; omega
    have e2 : cond (Nat.ble M x) x M = max M x := by
      cases hb : Nat.ble M x with
      | true => have := Nat.le_of_ble_eq_true hb; simp; omega
      | false => have : ¬ M ≤ x := fun k => by rw [Nat.ble_eq_true_of_le k] at hb; cases hb
                 simp; omega
    show Ends (nOrd (nIns x F) r) (nMin r (cond (Nat.ble x m) x m)) (nMax r (cond (Nat.ble M x) x M))
    rw [e1, e2]
    exact q
theorem ends_one (x : Nat) (l : List Nat) : Ends (nOrd [] (x :: l)) (nMin l x) (nMax l x) :=
  ends_ord l [x] x x ⟨rfl, rfl, fun y hy => by simp at hy; omega⟩
/-! ### teeth -/
def tA (q p : Nat) : List Nat → Nat
  | [] => 0
  | own :: r => Nat.add (cond (Nat.beq (Nat.mod (Nat.mul q own) p) 0) 0 (Nat.add (Nat.mul (Nat.mul 4 own) (Nat.mod (Nat.mul q own) p)) (Nat.mul p p))) (tA q p r)
def tB (q p : Nat) : List Nat → Nat
  | [] => 0
  | own :: r => Nat.add (cond (Nat.beq (Nat.mod (Nat.mul q own) p) 0) 0 (Nat.mul (Nat.mul 2 p) (Nat.add own (Nat.mod (Nat.mul q own) p)))) (tB q p r)
theorem teeth_nat (q p : Nat) : ∀ (l : List Nat) (acc : Int), teeth q p (l.map fun k : Nat => (k : Int)) acc = acc + ((tA q p l : Int) - tB q p l)
  | [], acc => by simp [teeth, tA, tB]
  | own :: r, acc => by
    simp only [List.map_cons, teeth]
    rw [teeth_nat q p r]
    have e : ((q : Int) * own).fmod p = ((q * own % p : Nat) : Int) := by rw [← fmod_nat]; simp
    rw [e, show tA q p (own :: r) = cond (Nat.beq (Nat.mod (Nat.mul q own) p) 0) 0 (4 * own * (q * own % p) + p * p) + tA q p r from rfl, show tB q p (own :: r) = cond (Nat.beq (Nat.mod (Nat.mul q own) p) 0) 0 (2 * p * (own + q * own % p)) + tB q p r from rfl]
    cases hb : Nat.beq (Nat.mod (Nat.mul q own) p) 0 with
    | true =>
      have : q * own % p = 0 := Nat.eq_of_beq_eq_true hb
      rw [this]
      simp
    | false =>
      have : q * own % p ≠ 0 := Nat.ne_of_beq_eq_false hb
      rw [if_pos (by omega)]
      simp only [cond_false]
      push_cast
      generalize ((q : Int) * own % p) = f
      grind
def ownsN (p : Nat) : List Nat := (List.range (p - 1)).map fun k => 1 + k
theorem upto_nat (p : Nat) : upto p = (ownsN p).map fun k : Nat => (k : Int) := by
  unfold upto ownsN
  rw [List.map_map, show ((p : Int) - 1).toNat = p - 1 by omega]
  exact List.map_congr_left fun k _ => by simp
def Tz (q p : Nat) : Int := (tA q p (ownsN p) : Int) - tB q p (ownsN p)
theorem teeth_Tz (q p : Nat) : teeth q p (upto p) 0 = Tz q p := by
  rw [upto_nat, teeth_nat]; simp [Tz]
theorem nrm_neg {a b : Int} (hb : 0 < b) : nrm (-a) b = (-(nrm a b).1, (nrm a b).2) := by
  unfold nrm
  rw [Int.natAbs_neg]
  have hg := gpos (a := a) hb
  have h1 : ((Nat.gcd a.natAbs b.natAbs : Nat) : Int) ∣ a := Int.ofNat_dvd_left.2 (Nat.gcd_dvd_left _ _)
  have h0 : (0 : Int) ≤ ((Nat.gcd a.natAbs b.natAbs : Nat) : Int) := by omega
  simp only [Int.fdiv_eq_ediv_of_nonneg _ h0, Int.neg_ediv_of_dvd h1]
/-! ### the finite check -/
def zl (p q : Nat) : List Nat := (List.range p).map (zv 100 p q)
def allNz : List Nat → Bool
  | [] => true
  | x :: r => cond (Nat.beq x 0) false (allNz r)
def nSum : List Nat → Nat
  | [] => 0
  | x :: r => Nat.add x (nSum r)
def lMin : List Nat → Nat
  | [] => 0
  | x :: r => nMin r x
def lMax : List Nat → Nat
  | [] => 0
  | x :: r => nMax r x
def ok1 (p q : Nat) : Bool := allNz (zl p q) && (Nat.beq (Nat.add (nSum (zl p q)) (tB q p (ownsN p))) (Nat.add (tA q p (ownsN p)) (Nat.mul Kz p)) &&
  (decide (mSumBy q p = some (nrm (Tz q p) (4 * (p : Int) * p))) && decide (3 * (Tz q p * (q * q : Nat) + Tz (p % q) q * (p * p : Nat)) = ((p * q : Nat) : Int) * ((q * q + p * p + 1 : Nat) - (3 * q * p : Nat)))))
def okM (p q : Nat) : Bool := match mLeast p q, mLeast p ((p : Int) - q) with
  | some a, some b => !decide (a = b) || (decide (Tz q p = 0) && decide (nOrd [] (zl p q) = nOrd [] (zl p (p - q))))
  | _, _ => false
def ok2 (p q : Nat) : Bool := Nat.beq (Nat.add (lMin (zl p (p - q))) (lMax (zl p q))) (2 * Kz) && (Nat.beq (Nat.add (lMax (zl p (p - q))) (lMin (zl p q))) (2 * Kz) && (Nat.beq (Nat.add (nSum (zl p (p - q))) (nSum (zl p q))) (Nat.mul (2 * Kz) p) && okM p q))
def okQ (p q : Nat) : Bool := !Nat.beq (Nat.gcd q p) 1 || (ok1 p q && (ok1 p (p - q) && ok2 p q))
def okP (p : Nat) : Bool := decide (3 * Tz 1 p = ((p : Int) - 1) * (p - 2) * p)
def okAll (p : Nat) : Bool := okP p && (List.range (p / 2)).all fun k => okQ p (k + 1)
end M

set_option Elab.async false
set_option linter.all false
set_option maxRecDepth 100000
set_option maxHeartbeats 1000000
/-! PyL61k: the law's own equality; draws. -/
namespace M
open PySem Ev
/-- data of ints, at most so deep -/
def SameD : Nat → D → Prop
  | _, .int _ => True
  | k + 1, .list l => l.length ≤ sizeMax ∧ ∀ x ∈ l, SameD k x
  | k + 1, .tuple l => l.length ≤ sizeMax ∧ ∀ x ∈ l, SameD k x
  | _, _ => False
theorem zipD_self : ∀ l : List D, zipD l l = l.map fun x => .tuple [x, x]
  | [] => rfl
  | x :: r => by simp [zipD, zipD_self r]
theorem all_true : ∀ l : List D, bools (l.map fun _ => (.bool true : D)) = some (l.map fun _ => true)
  | [] => rfl
  | x :: r => by simp [bools, all_true r]
abbrev sameL : E := .lc (.call 44 [(.v 2), (.v 3)]) (.t [(.n 2), (.n 3)]) (.blt .zip [(.v 0), (.v 1)]) []
theorem evE_and_t {C : Wx} {a b : E} {e e1 : SEnv} {r : Sl × SEnv} (h : evE C false a e = .ok (.d (.bool true), e1)) (h2 : evE C false b e1 = .ok r) : evE C false (.and [a, b]) e = .ok r := by
  simp [evE, evAnd, h, h2, truth, frz]
theorem evS_iff_t {C : Wx} {np : Nat} {nk : Nat → Bool} {t : E} {a b : List Sm} {e e1 : SEnv} (h : evE C true t e = .ok (.d (.bool true), e1)) : evS C np nk (.iff t a b) e = evSs C np nk a e1 := by
  show ((evE C true t e).bind _) = _
  rw [h]; rfl
theorem evS_iff_f {C : Wx} {np : Nat} {nk : Nat → Bool} {t : E} {a b : List Sm} {e e1 : SEnv} (h : evE C true t e = .ok (.d (.bool false), e1)) : evS C np nk (.iff t a b) e = evSs C np nk b e1 := by
  show ((evE C true t e).bind _) = _
  rw [h]; rfl
theorem same_laps {n : Nat} {l : List D} (hl : l.length ≤ sizeMax) (s0 s1 : Option Sl) (h : ∀ x ∈ l, callN Tr.P n 44 [.d x, .d x] = .ok (.d (.bool true), [none, none])) (s2 s3 : Option Sl) :
    ∃ s2' s3', lcL (EvS.lap (Cn n) (.t [(.n 2), (.n 3)]) [] (.call 44 [(.v 2), (.v 3)])) (zipD l l) [] [s0, s1, s2, s3] = .ok (l.map fun _ => (.bool true : D), [s0, s1, s2', s3']) := by
  have lap : ∀ (x : { x : D // x ∈ l }) (e : SEnv), (∃ a b, e = [s0, s1, a, b]) → ∃ e', (∃ a b, e' = [s0, s1, a, b]) ∧ EvS.lap (Cn n) (.t [(.n 2), (.n 3)]) [] (.call 44 [(.v 2), (.v 3)]) (.tuple [x.1, x.1]) e = .ok (some (.bool true), e') := fun x e ⟨a, b, hs⟩ => by
    subst hs
    refine ⟨[s0, s1, some (.d x.1), some (.d x.1)], ⟨_, _, rfl⟩, ?_⟩
    have := h x.1 x.2
    simp [evF, evSs, evS, evE, evA, evO, evAnd, evOr, evTs, ar, itr, getE, setE, rd1, rdB, rdF, rdC, rdP, rdX, app1, app2, post, binD, cmpS, cmpD, bltD, ixD, slD, revD, isiD, isTys, isTy, negD, walkB, isWalk, bindS, bindP, bindPs, bindSs, retV, avOf, noErr, grd, opt, frz, truth, outs, lent, Res.bind, sizeMax, seqOf, notS, fin, back, backL, lost, setAt, appAt, augAt, popAt, Ev.itemOf, slots, slotsL, wipeE, putBack, hidOf, EvS.lap, Cn, this]
  obtain ⟨e', ⟨a, b, hs⟩, q⟩ := lcL_all (f := EvS.lap (Cn n) (.t [(.n 2), (.n 3)]) [] (.call 44 [(.v 2), (.v 3)])) (ι := fun x : { x : D // x ∈ l } => .tuple [x.1, x.1]) (g := fun _ => some (.bool true)) (I := fun e => ∃ a b, e = [s0, s1, a, b]) lap l.attach [] [s0, s1, s2, s3] ⟨s2, s3, rfl⟩ (by simpa using hl)
  subst hs
  refine ⟨a, b, ?_⟩
  have e1 : (l.attach.map fun x : { x : D // x ∈ l } => (.tuple [x.1, x.1] : D)) = zipD l l := by
    rw [zipD_self]
    exact List.attach_map_subtype_val l ▸ by simp
  have e2 : (l.attach.filterMap fun _ => some (.bool true : D)) = l.map fun _ => (.bool true : D) := by
    rw [show (fun _ : { x : D // x ∈ l } => some (.bool true : D)) = some ∘ fun _ => (.bool true : D) from rfl, List.filterMap_eq_map]
    simp
  rw [e1, e2, List.nil_append] at q
  exact q
theorem same_list {n : Nat} {l : List D} (hl : l.length ≤ sizeMax) (hx : ∀ x ∈ l, callN Tr.P n 44 [.d x, .d x] = .ok (.d (.bool true), [none, none])) (S : Sl) (hS : frz S = .list l) :
    callN Tr.P (n + 1) 44 [S, .d (.list l)] = .ok (.d (.bool true), outs [some (.d (.list l)), some (.d (.list l)), none, none] 0 [S, .d (.list l)]) := by
  rw [call_eq n 44 _ Tr.f44 rfl]
  obtain ⟨s2, s3, q⟩ := same_laps (n := n) hl (some (.d (.list l))) (some (.d (.list l))) hx none none
  have i1 : evE (Cn n) false (.blt .zip [(.v 0), (.v 1)]) [some S, some (.d (.list l)), none, none] = .ok (.o (zipD l l), [some (.d (.list l)), some (.d (.list l)), none, none]) := by
    cases S with
    | d x => cases hS; rfl
    | o y => cases hS <;> rfl
  have c := evE_lc (C := Cn n) (elt := .call 44 [(.v 2), (.v 3)]) (it := .blt .zip [(.v 0), (.v 1)]) (q := .t [(.n 2), (.n 3)]) (ifs := []) (e := [some S, some (.d (.list l)), none, none]) (e1 := [some (.d (.list l)), some (.d (.list l)), none, none]) (l := zipD l l)
    (by show ((evE (Cn n) false (.blt .zip [(.v 0), (.v 1)]) [some S, some (.d (.list l)), none, none]).bind fun p => (opt (seqOf (frz p.1))).bind fun l => (Res.ok (l, p.2) : Res (List D × SEnv))) = _
        rw [i1]; rfl) q
  have pb : putBack [some (.d (.list l)), some (.d (.list l)), s2, s3] [some (.d (.list l)), some (.d (.list l)), none, none] (slots (.t [(.n 2), (.n 3)]) ++ hidOf (.blt .zip [(.v 0), (.v 1)])) = [some (.d (.list l)), some (.d (.list l)), none, none] := by simp [putBack, slots, slotsL, hidOf, getE, setE]
  rw [pb] at c
  have a := evE_blt_lc (b := .all) c
  have a' : evE (Cn n) false (.blt .all [sameL]) [some S, some (.d (.list l)), none, none] = .ok (.d (.bool true), [some (.d (.list l)), some (.d (.list l)), none, none]) := by
    rw [a]; simp [rdX, isWalk, rdB, Res.bind, walkB, bltD, noErr, all_true]
  have e1 : evE (Cn n) false (.cmp .eq (.blt .len [(.v 0)]) (.blt .len [(.v 1)])) [some S, some (.d (.list l)), none, none] = .ok (.d (.bool true), [some S, some (.d (.list l)), none, none]) := by
    cases S with
    | d x => cases hS; simp [evF, evSs, evS, evE, evA, evO, evAnd, evOr, evTs, ar, itr, getE, setE, rd1, rdB, rdF, rdC, rdP, rdX, app1, app2, post, binD, cmpS, cmpD, bltD, ixD, slD, revD, isiD, isTys, isTy, negD, walkB, isWalk, bindS, bindP, bindPs, bindSs, retV, avOf, noErr, grd, opt, frz, truth, outs, lent, Res.bind, sizeMax, seqOf, notS, fin, back, backL, lost, setAt, appAt, augAt, popAt, Ev.itemOf, slots, slotsL, wipeE, putBack, hidOf]
    | o y => cases hS <;> simp [evF, evSs, evS, evE, evA, evO, evAnd, evOr, evTs, ar, itr, getE, setE, rd1, rdB, rdF, rdC, rdP, rdX, app1, app2, post, binD, cmpS, cmpD, bltD, ixD, slD, revD, isiD, isTys, isTy, negD, walkB, isWalk, bindS, bindP, bindPs, bindSs, retV, avOf, noErr, grd, opt, frz, truth, outs, lent, Res.bind, sizeMax, seqOf, notS, fin, back, backL, lost, setAt, appAt, augAt, popAt, Ev.itemOf, slots, slotsL, wipeE, putBack, hidOf]
  have e2 : evE (Cn n) true (.or [(.cmp .ne (.isi (.v 0) [.list]) (.isi (.v 1) [.list])), (.cmp .ne (.isi (.v 0) [.tuple]) (.isi (.v 1) [.tuple]))]) [some S, some (.d (.list l)), none, none] = .ok (.d (.bool false), [some S, some (.d (.list l)), none, none]) := by
    cases S with
    | d x => cases hS; rfl
    | o y => cases hS <;> rfl
  refine evF_rt rfl (e := [some (.d (.list l)), some (.d (.list l)), none, none]) ?_
  refine evSs_rt ((evS_iff_t (e1 := [some S, some (.d (.list l)), none, none]) rfl).trans ?_)
  refine (evSs_nx (e1 := [some S, some (.d (.list l)), none, none]) ((evS_iff_f e2).trans rfl)).trans ?_
  exact evSs_rt (evS_ret (fun i h => by cases h) (evE_and_t e1 a'))
theorem same_tuple {n : Nat} {l : List D} (hl : l.length ≤ sizeMax) (hx : ∀ x ∈ l, callN Tr.P n 44 [.d x, .d x] = .ok (.d (.bool true), [none, none])) (S : Sl) (hS : frz S = .tuple l) :
    callN Tr.P (n + 1) 44 [S, .d (.tuple l)] = .ok (.d (.bool true), outs [some (.d (.tuple l)), some (.d (.tuple l)), none, none] 0 [S, .d (.tuple l)]) := by
  rw [call_eq n 44 _ Tr.f44 rfl]
  obtain ⟨s2, s3, q⟩ := same_laps (n := n) hl (some (.d (.tuple l))) (some (.d (.tuple l))) hx none none
  have i1 : evE (Cn n) false (.blt .zip [(.v 0), (.v 1)]) [some S, some (.d (.tuple l)), none, none] = .ok (.o (zipD l l), [some (.d (.tuple l)), some (.d (.tuple l)), none, none]) := by
    cases S with
    | d x => cases hS; rfl
    | o y => cases hS <;> rfl
  have c := evE_lc (C := Cn n) (elt := .call 44 [(.v 2), (.v 3)]) (it := .blt .zip [(.v 0), (.v 1)]) (q := .t [(.n 2), (.n 3)]) (ifs := []) (e := [some S, some (.d (.tuple l)), none, none]) (e1 := [some (.d (.tuple l)), some (.d (.tuple l)), none, none]) (l := zipD l l)
    (by show ((evE (Cn n) false (.blt .zip [(.v 0), (.v 1)]) [some S, some (.d (.tuple l)), none, none]).bind fun p => (opt (seqOf (frz p.1))).bind fun l => (Res.ok (l, p.2) : Res (List D × SEnv))) = _
        rw [i1]; rfl) q
  have pb : putBack [some (.d (.tuple l)), some (.d (.tuple l)), s2, s3] [some (.d (.tuple l)), some (.d (.tuple l)), none, none] (slots (.t [(.n 2), (.n 3)]) ++ hidOf (.blt .zip [(.v 0), (.v 1)])) = [some (.d (.tuple l)), some (.d (.tuple l)), none, none] := by simp [putBack, slots, slotsL, hidOf, getE, setE]
  rw [pb] at c
  have a := evE_blt_lc (b := .all) c
  have a' : evE (Cn n) false (.blt .all [sameL]) [some S, some (.d (.tuple l)), none, none] = .ok (.d (.bool true), [some (.d (.tuple l)), some (.d (.tuple l)), none, none]) := by
    rw [a]; simp [rdX, isWalk, rdB, Res.bind, walkB, bltD, noErr, all_true]
  have e1 : evE (Cn n) false (.cmp .eq (.blt .len [(.v 0)]) (.blt .len [(.v 1)])) [some S, some (.d (.tuple l)), none, none] = .ok (.d (.bool true), [some S, some (.d (.tuple l)), none, none]) := by
    cases S with
    | d x => cases hS; simp [evF, evSs, evS, evE, evA, evO, evAnd, evOr, evTs, ar, itr, getE, setE, rd1, rdB, rdF, rdC, rdP, rdX, app1, app2, post, binD, cmpS, cmpD, bltD, ixD, slD, revD, isiD, isTys, isTy, negD, walkB, isWalk, bindS, bindP, bindPs, bindSs, retV, avOf, noErr, grd, opt, frz, truth, outs, lent, Res.bind, sizeMax, seqOf, notS, fin, back, backL, lost, setAt, appAt, augAt, popAt, Ev.itemOf, slots, slotsL, wipeE, putBack, hidOf]
    | o y => cases hS <;> simp [evF, evSs, evS, evE, evA, evO, evAnd, evOr, evTs, ar, itr, getE, setE, rd1, rdB, rdF, rdC, rdP, rdX, app1, app2, post, binD, cmpS, cmpD, bltD, ixD, slD, revD, isiD, isTys, isTy, negD, walkB, isWalk, bindS, bindP, bindPs, bindSs, retV, avOf, noErr, grd, opt, frz, truth, outs, lent, Res.bind, sizeMax, seqOf, notS, fin, back, backL, lost, setAt, appAt, augAt, popAt, Ev.itemOf, slots, slotsL, wipeE, putBack, hidOf]
  have e2 : evE (Cn n) true (.or [(.cmp .ne (.isi (.v 0) [.list]) (.isi (.v 1) [.list])), (.cmp .ne (.isi (.v 0) [.tuple]) (.isi (.v 1) [.tuple]))]) [some S, some (.d (.tuple l)), none, none] = .ok (.d (.bool false), [some S, some (.d (.tuple l)), none, none]) := by
    cases S with
    | d x => cases hS; rfl
    | o y => cases hS <;> rfl
  refine evF_rt rfl (e := [some (.d (.tuple l)), some (.d (.tuple l)), none, none]) ?_
  refine evSs_rt ((evS_iff_t (e1 := [some S, some (.d (.tuple l)), none, none]) rfl).trans ?_)
  refine (evSs_nx (e1 := [some S, some (.d (.tuple l)), none, none]) ((evS_iff_f e2).trans rfl)).trans ?_
  exact evSs_rt (evS_ret (fun i h => by cases h) (evE_and_t e1 a'))
theorem same : ∀ (k n : Nat) (x : D), SameD k x → callN Tr.P (n + k + 1) 44 [.d x, .d x] = .ok (.d (.bool true), [none, none])
  | k, n, .int i, _ => by
    rw [call_eq (n + k) 44 _ Tr.f44 rfl]
    simp [evF, evSs, evS, evE, evA, evO, evAnd, evOr, evTs, ar, itr, getE, setE, rd1, rdB, rdF, rdC, rdP, rdX, app1, app2, post, binD, cmpS, cmpD, bltD, ixD, slD, revD, isiD, isTys, isTy, negD, walkB, isWalk, bindS, bindP, bindPs, bindSs, retV, avOf, noErr, grd, opt, frz, truth, outs, lent, Res.bind, sizeMax, seqOf, notS, fin, back, backL, lost, setAt, appAt, augAt, popAt, Ev.itemOf, slots, slotsL, wipeE, putBack, hidOf, Tr.f44]
  | k + 1, n, .list l, h => same_list (n := n + (k + 1)) h.1 (fun x hx => same k n x (h.2 x hx)) (.d (.list l)) rfl
  | k + 1, n, .tuple l, h => same_tuple (n := n + (k + 1)) h.1 (fun x hx => same k n x (h.2 x hx)) (.d (.tuple l)) rfl
  | _, _, .none, h => by simp [SameD] at h
  | _, _, .bool _, h => by simp [SameD] at h
  | _, _, .str _, h => by simp [SameD] at h
  | _, _, .dict _, h => by simp [SameD] at h
  | 0, _, .list _, h => by simp [SameD] at h
  | 0, _, .tuple _, h => by simp [SameD] at h
theorem same_enc (k : Nat) (x : Fq) : SameD (k + 1) (enc x) := by
  refine ⟨by simp [sizeMax], fun y hy => ?_⟩
  simp only [List.mem_cons, List.not_mem_nil, or_false] at hy
  rcases hy with rfl | rfl <;> cases k <;> trivial
end M

set_option Elab.async false
set_option linter.all false
set_option maxRecDepth 100000
set_option maxHeartbeats 1000000
/-! PyL61l: the law's draws. -/
namespace M
open PySem Ev
abbrev tinO (a b c : Int) : Sl := .o [.int a, .int b, .int c]
structure TinOk (b c : Int) (k : Int) : Prop where
  b0 : 0 ≤ b
  b1 : b < 4611686018427387904
  c0 : 0 ≤ c
  c1 : c ≤ k
theorem take {n : Nat} {a b c w k : Int} (T : TinOk b c k) (hk : k ≤ 100000) (w1 : 1 ≤ w) (w2 : w ≤ 100000) :
    ∃ r a' c' : Int, callN Tr.P (n + 1) 43 [tinO a b c, .d (.int w)] = .ok (.d (.int r), [some (tinO a' b c'), none]) ∧ 0 ≤ r ∧ r < w ∧ TinOk b c' (k + 1) := by
  obtain ⟨b0, b1, c0, c1⟩ := T
  have hw : w ≠ 0 := by omega
  have dw : divOk w = true := by
    unfold divOk
    simp only [Bool.and_eq_true, Bool.or_eq_true, decide_eq_true_eq]
    exact ⟨hw, Or.inl (by omega)⟩
  by_cases ha : 0 < a
  · refine ⟨a.fmod w, a.fdiv w, c, ?_, Int.fmod_nonneg_of_pos _ (by omega), Int.fmod_lt_of_pos _ (by omega), b0, b1, c0, by omega⟩
    rw [call_eq n 43 _ Tr.f43 rfl]
    simp [evF, evSs, evS, evE, evA, evO, evAnd, evOr, evTs, ar, itr, getE, setE, rd1, rdB, rdF, rdC, rdP, rdX, app1, app2, post, binD, cmpS, cmpD, bltD, ixD, slD, revD, isiD, isTys, isTy, negD, walkB, isWalk, bindS, bindP, bindPs, bindSs, retV, avOf, noErr, grd, opt, frz, truth, outs, lent, Res.bind, sizeMax, seqOf, notS, fin, back, backL, lost, setAt, appAt, augAt, popAt, Ev.itemOf, slots, slotsL, wipeE, putBack, hidOf, Tr.f43, ixN, ha, hw, dw]
  · have g1 : mulOk 48271 (c + 1) = true := mul_l (by decide) (by decide)
    have g2 : ∀ x : Int, mulOk x (39373 + (c + 1)) = true := fun x => mul_r (by omega) (by omega)
    generalize hone : ((b + 48271 * (c + 1)) * (39373 + (c + 1))).fmod 2147483647 = one
    have o1 := Int.fmod_nonneg_of_pos one (show (0 : Int) < 40009 by decide)
    have o2 := Int.fmod_lt_of_pos one (show (0 : Int) < 40009 by decide)
    have g3 : ∀ x : Int, mulOk x (one.fmod 40009 + 7) = true := fun x => mul_r (by omega) (by omega)
    have g4 : ∀ x : Int, mulOk x 48271 = true := fun x => mul_r (by decide) (by decide)
    have d1 : divOk 1000003 = true := by decide
    have d2 : divOk 64 = true := by decide
    refine ⟨((((((one + (c + 1) + b.fdiv 1000003) * (one.fmod 40009 + 7)).fmod 2147483629) * 48271 + one).fmod 2147483587).fdiv 64).fmod w, a, c + 1, ?_, Int.fmod_nonneg_of_pos _ (by omega), Int.fmod_lt_of_pos _ (by omega), b0, b1, by omega, by omega⟩
    rw [call_eq n 43 _ Tr.f43 rfl]
    simp [evF, evSs, evS, evE, evA, evO, evAnd, evOr, evTs, ar, itr, getE, setE, rd1, rdB, rdF, rdC, rdP, rdX, app1, app2, post, binD, cmpS, cmpD, bltD, ixD, slD, revD, isiD, isTys, isTy, negD, walkB, isWalk, bindS, bindP, bindPs, bindSs, retV, avOf, noErr, grd, opt, frz, truth, outs, lent, Res.bind, sizeMax, seqOf, notS, fin, back, backL, lost, setAt, appAt, augAt, popAt, Ev.itemOf, slots, slotsL, wipeE, putBack, hidOf, Tr.f43, ixN, ha, hw, dw, g1, g2, hone, g3, g4, d1, d2]
theorem of_goods {n : Nat} {a b c k : Int} {l : List D} (T : TinOk b c k) (hk : k ≤ 100000) (w1 : 1 ≤ l.length) (w2 : l.length ≤ 100000) :
    ∃ (x : D) (a' c' : Int), x ∈ l ∧ callN Tr.P (n + 2) 71 [tinO a b c, .d (.list l)] = .ok (.d x, [some (tinO a' b c'), none]) ∧ TinOk b c' (k + 1) := by
  obtain ⟨r, a', c', e, r0, r1, T'⟩ := take (n := n) (a := a) (w := l.length) T hk (by omega) (by omega)
  have hr : r.toNat < l.length := by omega
  refine ⟨l[r.toNat], a', c', List.getElem_mem hr, ?_, T'⟩
  rw [call_eq (n + 1) 71 _ Tr.f71 rfl]
  simp [evF, evSs, evS, evE, evA, evO, evAnd, evOr, evTs, ar, itr, getE, setE, rd1, rdB, rdF, rdC, rdP, rdX, app1, app2, post, binD, cmpS, cmpD, bltD, ixD, slD, revD, isiD, isTys, isTy, negD, walkB, isWalk, bindS, bindP, bindPs, bindSs, retV, avOf, noErr, grd, opt, frz, truth, outs, lent, Res.bind, sizeMax, seqOf, notS, fin, back, backL, lost, setAt, appAt, augAt, popAt, Ev.itemOf, slots, slotsL, wipeE, putBack, hidOf, Tr.f71, e, ixN, r0, r1, hr]
def unitsL (p : Int) : List D := (upto p).filterMap fun x => if Nat.gcd x.natAbs p.natAbs = 1 then some (.int x) else none
theorem units_ok {n : Nat} {p : Int} (h1 : 2 ≤ p) (h2 : p ≤ 2000) : callN Tr.P (n + 2) 101 [.d (.int p)] = .ok (.o (unitsL p), [none]) := by
  rw [call_eq (n + 1) 101 _ Tr.f101 rfl]
  have hr : rngOk p = true := by simp [rngOk]; omega
  have lap : ∀ (x : Int) (e : SEnv), (∃ s, e = [some (.d (.int p)), s]) → ∃ e', (∃ s, e' = [some (.d (.int p)), s]) ∧ EvS.lap (Cn (n + 1)) (.n 1) [(.cmp .eq (.call 45 [(.v 1), (.v 0)]) (.c (.int 1)))] (.v 1) (.int x) e = .ok (if Nat.gcd x.natAbs p.natAbs = 1 then some (.int x) else none, e') := fun x e ⟨s, hs⟩ => by
    subst hs
    refine ⟨[some (.d (.int p)), some (.d (.int x))], ⟨_, rfl⟩, ?_⟩
    have g := law_gcd (n := n) (mGcd_ok 90 200 x p (by omega) (by omega) (by decide))
    by_cases h : Nat.gcd x.natAbs p.natAbs = 1
    · simp [evF, evSs, evS, evE, evA, evO, evAnd, evOr, evTs, ar, itr, getE, setE, rd1, rdB, rdF, rdC, rdP, rdX, app1, app2, post, binD, cmpS, cmpD, bltD, ixD, slD, revD, isiD, isTys, isTy, negD, walkB, isWalk, bindS, bindP, bindPs, bindSs, retV, avOf, noErr, grd, opt, frz, truth, outs, lent, Res.bind, sizeMax, seqOf, notS, fin, back, backL, lost, setAt, appAt, augAt, popAt, Ev.itemOf, slots, slotsL, wipeE, putBack, hidOf, EvS.lap, Cn, g, h]
    · have h' : ¬ ((Nat.gcd x.natAbs p.natAbs : Nat) : Int) = 1 := by omega
      simp [evF, evSs, evS, evE, evA, evO, evAnd, evOr, evTs, ar, itr, getE, setE, rd1, rdB, rdF, rdC, rdP, rdX, app1, app2, post, binD, cmpS, cmpD, bltD, ixD, slD, revD, isiD, isTys, isTy, negD, walkB, isWalk, bindS, bindP, bindPs, bindSs, retV, avOf, noErr, grd, opt, frz, truth, outs, lent, Res.bind, sizeMax, seqOf, notS, fin, back, backL, lost, setAt, appAt, augAt, popAt, Ev.itemOf, slots, slotsL, wipeE, putBack, hidOf, EvS.lap, Cn, g, h, h']
  obtain ⟨e', ⟨s, hs⟩, q⟩ := lcL_all (f := EvS.lap (Cn (n + 1)) (.n 1) [(.cmp .eq (.call 45 [(.v 1), (.v 0)]) (.c (.int 1)))] (.v 1)) (ι := fun x : Int => (.int x : D)) (g := fun x => if Nat.gcd x.natAbs p.natAbs = 1 then some (.int x) else none) (I := fun e => ∃ s, e = [some (.d (.int p)), s]) lap (upto p) [] [some (.d (.int p)), none] ⟨none, rfl⟩ (by simp [upto, sizeMax]; omega)
  subst hs
  have it : evE (Cn (n + 1)) false (.blt .range [(.c (.int 1)), (.v 0)]) [some (.d (.int p)), none] = .ok (.o (intR 1 (p - 1).toNat), [some (.d (.int p)), none]) := by
    simp [evF, evSs, evS, evE, evA, evO, evAnd, evOr, evTs, ar, itr, getE, setE, rd1, rdB, rdF, rdC, rdP, rdX, app1, app2, post, binD, cmpS, cmpD, bltD, ixD, slD, revD, isiD, isTys, isTy, negD, walkB, isWalk, bindS, bindP, bindPs, bindSs, retV, avOf, noErr, grd, opt, frz, truth, outs, lent, Res.bind, sizeMax, seqOf, notS, fin, back, backL, lost, setAt, appAt, augAt, popAt, Ev.itemOf, slots, slotsL, wipeE, putBack, hidOf, hr, show rngOk 1 = true from rfl]
  have c := evE_lc (C := Cn (n + 1)) (elt := .v 1) (it := .blt .range [(.c (.int 1)), (.v 0)]) (q := .n 1) (ifs := [(.cmp .eq (.call 45 [(.v 1), (.v 0)]) (.c (.int 1)))]) (e := [some (.d (.int p)), none]) (l := intR 1 (p - 1).toNat) (e1 := [some (.d (.int p)), none])
    (by show ((evE (Cn (n + 1)) false (.blt .range [(.c (.int 1)), (.v 0)]) [some (.d (.int p)), none]).bind fun p => (opt (seqOf (frz p.1))).bind fun l => (Res.ok (l, p.2) : Res (List D × SEnv))) = _
        rw [it]; rfl) (by rw [intR_map]; exact q)
  have t : evE (Cn (n + 1)) true (.cmp .gt (.v 0) (.c (.int 1))) [some (.d (.int p)), none] = .ok (.d (.bool true), [some (.d (.int p)), none]) := by
    simp [evF, evSs, evS, evE, evA, evO, evAnd, evOr, evTs, ar, itr, getE, setE, rd1, rdB, rdF, rdC, rdP, rdX, app1, app2, post, binD, cmpS, cmpD, bltD, ixD, slD, revD, isiD, isTys, isTy, negD, walkB, isWalk, bindS, bindP, bindPs, bindSs, retV, avOf, noErr, grd, opt, frz, truth, outs, lent, Res.bind, sizeMax, seqOf, notS, fin, back, backL, lost, setAt, appAt, augAt, popAt, Ev.itemOf, slots, slotsL, wipeE, putBack, hidOf, show 1 < p by omega]
  exact evF_rt rfl (evSs_rt (evS_ret (fun i h => by cases h) ((evE_ife_t t).trans c)))
theorem unitsL_len {p : Int} (h1 : 2 ≤ p) (h2 : p ≤ 2000) : 1 ≤ (unitsL p).length ∧ (unitsL p).length ≤ 100000 := by
  constructor
  · have : (.int 1 : D) ∈ unitsL p := by
      unfold unitsL
      rw [List.mem_filterMap]
      refine ⟨1, ?_, by simp⟩
      unfold upto
      rw [List.mem_map]
      exact ⟨0, by simp; omega, rfl⟩
    exact List.length_pos_of_mem this
  · have := List.length_filterMap_le (fun x : Int => if Nat.gcd x.natAbs p.natAbs = 1 then some (.int x : D) else none) (upto p)
    have e : (upto p).length = (p - 1).toNat := by simp [upto]
    unfold unitsL
    omega
theorem unitsL_mem {p : Int} {x : D} (h1 : 2 ≤ p) (h2 : p ≤ 2000) (h : x ∈ unitsL p) : ∃ q : Int, x = .int q ∧ Lens p q := by
  unfold unitsL at h
  rw [List.mem_filterMap] at h
  obtain ⟨q, hq, e⟩ := h
  split at e
  · rename_i g
    unfold upto at hq
    rw [List.mem_map] at hq
    obtain ⟨k, hk, e2⟩ := hq
    have hk' : k < (p - 1).toNat := by simpa using hk
    refine ⟨q, (Option.some.inj e).symm, h1, h2, by omega, by omega, ?_⟩
    rw [Nat.gcd_comm]; exact g
  · cases e
end M

set_option Elab.async false
set_option linter.all false
set_option maxRecDepth 100000
set_option maxHeartbeats 1000000
/-! PyL61m: picks, cells, the box. -/
namespace M
open PySem Ev
abbrev pickB : List Sm := [.app 5 (.pop 4 (some (.call 43 [(.v 0), (.blt .len [(.v 4)])])))]
theorem pick_loop {n : Nat} {nk : Nat → Bool} (h3 : nk 3 = false) (b : Int) (s1 s2 : Option Sl) : ∀ (xs : List D) (l f : List D) (a c k : Int) (s3 : Option Sl), xs.length ≤ l.length → l.length ≤ 100000 → f.length + xs.length ≤ 100000 → TinOk b c k → k + xs.length ≤ 100000 →
    ∃ (a' c' : Int) (s3' : Option Sl) (l' f' : List D), forL (lp (n + 1) 3 nk (.n 3) pickB) xs [some (tinO a b c), s1, s2, s3, some (.o l), some (.o f)] = .ok (.nx [some (tinO a' b c'), s1, s2, s3', some (.o l'), some (.o f')]) ∧ TinOk b c' (k + xs.length) ∧ ∀ y ∈ f', y ∈ f ∨ y ∈ l
  | [], l, f, a, c, k, s3, _, _, _, T, _ => ⟨a, c, s3, l, f, rfl, by simpa using T, fun y hy => Or.inl hy⟩
  | x :: xs, l, f, a, c, k, s3, hl, hl2, hf, T, hk => by
    simp only [List.length_cons] at hl hf hk
    obtain ⟨r, a', c', e, r0, r1, T'⟩ := take (n := n) (a := a) (w := l.length) T (by omega) (by omega) (by omega)
    have hr : r.toNat < l.length := by omega
    have hg : l[r.toNat]? = some l[r.toNat] := List.getElem?_eq_getElem hr
    have hfl : f.length < 16777216 := by omega
    have hb : -9223372036854775808 ≤ r := by omega
    have hb2 : r < 9223372036854775808 := by omega
    have step : lp (n + 1) 3 nk (.n 3) pickB x [some (tinO a b c), s1, s2, s3, some (.o l), some (.o f)] = .ok (.nx [some (tinO a' b c'), s1, s2, some (.d x), some (.o (l.eraseIdx r.toNat)), some (.o (f ++ [l[r.toNat]]))]) := by
      simp [evF, evSs, evS, evE, evA, evO, evAnd, evOr, evTs, ar, itr, getE, setE, rd1, rdB, rdF, rdC, rdP, rdX, app1, app2, post, binD, cmpS, cmpD, bltD, ixD, slD, revD, isiD, isTys, isTy, negD, walkB, isWalk, bindS, bindP, bindPs, bindSs, retV, avOf, noErr, grd, opt, frz, truth, outs, lent, Res.bind, sizeMax, seqOf, notS, fin, back, backL, lost, setAt, appAt, augAt, popAt, Ev.itemOf, slots, slotsL, wipeE, putBack, hidOf, lp, Cn, h3, e, popAt, ixN, r0, r1, hr, hg, hb, hb2, hfl, rdF]
    obtain ⟨a2, c2, s32, l2, f2, q, T2, hm⟩ := pick_loop (n := n) h3 b s1 s2 xs (l.eraseIdx r.toNat) (f ++ [l[r.toNat]]) a' c' (k + 1) (some (.d x)) (by rw [List.length_eraseIdx_of_lt hr]; omega) (by rw [List.length_eraseIdx_of_lt hr]; omega) (by simp; omega) T' (by omega)
    refine ⟨a2, c2, s32, l2, f2, (forL_nx step).trans q, ?_, fun y hy => ?_⟩
    · have : k + 1 + (xs.length : Int) = k + ((x :: xs).length : Int) := by simp; omega
      rw [← this]; exact T2
    · rcases hm y hy with h | h
      · rw [List.mem_append] at h
        rcases h with h | h
        · exact Or.inl h
        · simp only [List.mem_cons, List.not_mem_nil, or_false] at h
          subst h
          exact Or.inr (List.getElem_mem hr)
      · exact Or.inr (List.mem_of_mem_eraseIdx h)
theorem pick {n : Nat} {a b c k m : Int} {l : List D} (T : TinOk b c k) (hk : k + m ≤ 1000) (m0 : 0 ≤ m) (hl : l.length ≤ 100000) :
    ∃ (a' c' : Int) (f : List D), callN Tr.P (n + 2) 263 [tinO a b c, .d (.list l), .d (.int m)] = .ok (.o f, [some (tinO a' b c'), none, none]) ∧ TinOk b c' (k + m) ∧ ∀ y ∈ f, y ∈ l := by
  rw [call_eq (n + 1) 263 _ Tr.f263 rfl]
  have hc := T.c0
  have hc1 := T.c1
  generalize hM : (if (l.length : Int) < m then (l.length : Int) else m) = M
  have hM0 : 0 ≤ M := by split at hM <;> omega
  have hMm : M ≤ m := by split at hM <;> omega
  have hMl : M ≤ l.length := by split at hM <;> omega
  have hlen : (intR 0 M.toNat).length = M.toNat := by simp [intR]
  obtain ⟨a', c', s3, l', f', q, T', hm⟩ := pick_loop (n := n) (nk := lent [tinO a b c, .d (.list l), .d (.int m)]) rfl b (some (.d (.list l))) (some (.d (.int m))) (intR 0 M.toNat) l [] a c k none (by omega) hl (by simp [hlen]; omega) T (by omega)
  refine ⟨a', c', f', ?_, ⟨T'.b0, T'.b1, T'.c0, by have := T'.c1; omega⟩, fun y hy => (hm y hy).resolve_left (by simp)⟩
  refine evF_rt rfl (e := [some (tinO a' b c'), some (.d (.list l)), some (.d (.int m)), s3, some (.o l'), none]) ?_
  refine (evSs_nx (e1 := [some (tinO a b c), some (.d (.list l)), some (.d (.int m)), none, some (.o l), some (.o [])]) ?_).trans ?_
  · simp [evF, evSs, evS, evE, evA, evO, evAnd, evOr, evTs, ar, itr, getE, setE, rd1, rdB, rdF, rdC, rdP, rdX, app1, app2, post, binD, cmpS, cmpD, bltD, ixD, slD, revD, isiD, isTys, isTy, negD, walkB, isWalk, bindS, bindP, bindPs, bindSs, retV, avOf, noErr, grd, opt, frz, truth, outs, lent, Res.bind, sizeMax, seqOf, notS, fin, back, backL, lost, setAt, appAt, augAt, popAt, Ev.itemOf, slots, slotsL, wipeE, putBack, hidOf, rdP]
    rfl
  have hr : rngOk M = true := by simp [rngOk]; omega
  refine (evSs_for (r := .o (intR 0 M.toNat)) (l := intR 0 M.toNat) ?_ rfl q).trans ?_
  · simp [evF, evSs, evS, evE, evA, evO, evAnd, evOr, evTs, ar, itr, getE, setE, rd1, rdB, rdF, rdC, rdP, rdX, app1, app2, post, binD, cmpS, cmpD, bltD, ixD, slD, revD, isiD, isTys, isTy, negD, walkB, isWalk, bindS, bindP, bindPs, bindSs, retV, avOf, noErr, grd, opt, frz, truth, outs, lent, Res.bind, sizeMax, seqOf, notS, fin, back, backL, lost, setAt, appAt, augAt, popAt, Ev.itemOf, slots, slotsL, wipeE, putBack, hidOf, hM, hr]
  refine evSs_rt ?_
  simp [evF, evSs, evS, evE, evA, evO, evAnd, evOr, evTs, ar, itr, getE, setE, rd1, rdB, rdF, rdC, rdP, rdX, app1, app2, post, binD, cmpS, cmpD, bltD, ixD, slD, revD, isiD, isTys, isTy, negD, walkB, isWalk, bindS, bindP, bindPs, bindSs, retV, avOf, noErr, grd, opt, frz, truth, outs, lent, Res.bind, sizeMax, seqOf, notS, fin, back, backL, lost, setAt, appAt, augAt, popAt, Ev.itemOf, slots, slotsL, wipeE, putBack, hidOf]
/-! ### cells -/
theorem cells_loop {n : Nat} {nk : Nat → Bool} (h2 : nk 2 = false) (h3 : nk 3 = false) (h4 : nk 4 = false) (h5 : nk 5 = false) (S : Option Sl) : ∀ (bits : List Int) (k x : Int) (s3 s4 s5 : Option Sl), 0 ≤ k → k + bits.length ≤ 1000 →
    ∃ (x' : Int) (s3' s4' s5' : Option Sl), forL (lp n 2 nk (.t [(.n 3), (.n 4)]) [.asg (.n 5) (.bin .mod (.blt .int [(.v 3)]) (.v 1)), .setix 2 (.v 5) (.bin .add (.ix (.v 2) (.v 5)) (.bin .mul (.v 4) (.bin .add (.v 3) (.c (.int 2)))))]) (enumD k (bits.map .int)) [S, some (.d (.int 1)), some (.o [.int x]), s3, s4, s5] = .ok (.nx [S, some (.d (.int 1)), some (.o [.int x']), s3', s4', s5'])
  | [], k, x, s3, s4, s5, _, _ => ⟨x, s3, s4, s5, rfl⟩
  | y :: r, k, x, s3, s4, s5, h0, hk => by
    simp only [List.length_cons] at hk
    have g : mulOk y (k + 2) = true := mul_r (by omega) (by omega)
    have m0 : k.fmod 1 = 0 := by
      have a1 := Int.fmod_nonneg_of_pos k (show (0 : Int) < 1 by decide)
      have a2 := Int.fmod_lt_of_pos k (show (0 : Int) < 1 by decide)
      omega
    have step : lp n 2 nk (.t [(.n 3), (.n 4)]) [.asg (.n 5) (.bin .mod (.blt .int [(.v 3)]) (.v 1)), .setix 2 (.v 5) (.bin .add (.ix (.v 2) (.v 5)) (.bin .mul (.v 4) (.bin .add (.v 3) (.c (.int 2)))))] (.tuple [.int k, .int y]) [S, some (.d (.int 1)), some (.o [.int x]), s3, s4, s5] =
        .ok (.nx [S, some (.d (.int 1)), some (.o [.int (x + y * (k + 2))]), some (.d (.int k)), some (.d (.int y)), some (.d (.int 0))]) := by
      simp [evF, evSs, evS, evE, evA, evO, evAnd, evOr, evTs, ar, itr, getE, setE, rd1, rdB, rdF, rdC, rdP, rdX, app1, app2, post, binD, cmpS, cmpD, bltD, ixD, slD, revD, isiD, isTys, isTy, negD, walkB, isWalk, bindS, bindP, bindPs, bindSs, retV, avOf, noErr, grd, opt, frz, truth, outs, lent, Res.bind, sizeMax, seqOf, notS, fin, back, backL, lost, setAt, appAt, augAt, popAt, Ev.itemOf, slots, slotsL, wipeE, putBack, hidOf, lp, Cn, h2, h3, h4, h5, g, m0, ixN, bindP, bindPs, rdF]
    obtain ⟨x', t3, t4, t5, q⟩ := cells_loop (n := n) h2 h3 h4 h5 S r (k + 1) (x + y * (k + 2)) (some (.d (.int k))) (some (.d (.int y))) (some (.d (.int 0))) (by omega) (by omega)
    exact ⟨x', t3, t4, t5, (forL_nx step).trans q⟩
theorem cells {n : Nat} (ns : List Int) (h : ns.length ≤ 63) : ∃ x : Int, callN Tr.P (n + 1) 50 [.d (.list (ns.map .int)), .d (.int 1)] = .ok (.o [.int x], [none, none]) := by
  rw [call_eq n 50 _ Tr.f50 rfl]
  cases ns with
  | nil =>
    refine ⟨0, ?_⟩
    simp [evF, evSs, evS, evE, evA, evO, evAnd, evOr, evTs, ar, itr, getE, setE, rd1, rdB, rdF, rdC, rdP, rdX, app1, app2, post, binD, cmpS, cmpD, bltD, ixD, slD, revD, isiD, isTys, isTy, negD, walkB, isWalk, bindS, bindP, bindPs, bindSs, retV, avOf, noErr, grd, opt, frz, truth, outs, lent, Res.bind, sizeMax, seqOf, notS, fin, back, backL, lost, setAt, appAt, augAt, popAt, Ev.itemOf, slots, slotsL, wipeE, putBack, hidOf, Tr.f50, cut, sIx, enumD, forL]
  | cons y r =>
    simp only [List.length_cons] at h
    obtain ⟨x', t3, t4, t5, q⟩ := cells_loop (n := n) (nk := lent [.d (.list ((y :: r).map .int)), .d (.int 1)]) rfl rfl rfl rfl (some (.d (.list ((y :: r).map .int)))) r 0 y none none none (by omega) (by omega)
    refine ⟨x', ?_⟩
    refine evF_rt rfl (e := [some (.d (.list ((y :: r).map .int))), some (.d (.int 1)), none, t3, t4, t5]) ?_
    refine (evSs_nx (e1 := [some (.d (.list ((y :: r).map .int))), some (.d (.int 1)), some (.o [.int y]), none, none, none]) ?_).trans ?_
    · simp [evF, evSs, evS, evE, evA, evO, evAnd, evOr, evTs, ar, itr, getE, setE, rd1, rdB, rdF, rdC, rdP, rdX, app1, app2, post, binD, cmpS, cmpD, bltD, ixD, slD, revD, isiD, isTys, isTy, negD, walkB, isWalk, bindS, bindP, bindPs, bindSs, retV, avOf, noErr, grd, opt, frz, truth, outs, lent, Res.bind, sizeMax, seqOf, notS, fin, back, backL, lost, setAt, appAt, augAt, popAt, Ev.itemOf, slots, slotsL, wipeE, putBack, hidOf, cut, sIx]
      rfl
    refine (evSs_for (r := .o (enumD 0 (r.map .int))) (l := enumD 0 (r.map .int)) ?_ rfl q).trans ?_
    · have e1 : min 63 (r.length + 1) = r.length + 1 := by omega
      have e2 : min 1 (r.length + 1) = 1 := by omega
      have e3 : (List.take r.length (r.map fun i => (.int i : D))) = r.map .int := List.take_of_length_le (by simp)
      simp [evF, evSs, evS, evE, evA, evO, evAnd, evOr, evTs, ar, itr, getE, setE, rd1, rdB, rdF, rdC, rdP, rdX, app1, app2, post, binD, cmpS, cmpD, bltD, ixD, slD, revD, isiD, isTys, isTy, negD, walkB, isWalk, bindS, bindP, bindPs, bindSs, retV, avOf, noErr, grd, opt, frz, truth, outs, lent, Res.bind, sizeMax, seqOf, notS, fin, back, backL, lost, setAt, appAt, augAt, popAt, Ev.itemOf, slots, slotsL, wipeE, putBack, hidOf, cut, sIx, e1, e2, e3]
    refine evSs_rt ?_
    simp [evF, evSs, evS, evE, evA, evO, evAnd, evOr, evTs, ar, itr, getE, setE, rd1, rdB, rdF, rdC, rdP, rdX, app1, app2, post, binD, cmpS, cmpD, bltD, ixD, slD, revD, isiD, isTys, isTy, negD, walkB, isWalk, bindS, bindP, bindPs, bindSs, retV, avOf, noErr, grd, opt, frz, truth, outs, lent, Res.bind, sizeMax, seqOf, notS, fin, back, backL, lost, setAt, appAt, augAt, popAt, Ev.itemOf, slots, slotsL, wipeE, putBack, hidOf]
theorem box {n : Nat} (x : Int) : ∃ a b : Int, callN Tr.P (n + 1) 477 [.d (.list [.int x]), .d (.int 0)] = .ok (tinO a b 0, [none, none]) ∧ TinOk b 0 0 := by
  have o1 := Int.fmod_nonneg_of_pos x (show (0 : Int) < 2305843009213693951 by decide)
  have o2 := Int.fmod_lt_of_pos x (show (0 : Int) < 2305843009213693951 by decide)
  refine ⟨(if x < 0 then -x else x) * (if (1000000000000000000 : Int) ≤ (if x < 0 then -x else x) then 1 else 0), x.fmod 2305843009213693951 + 20953061, ?_, by omega, by omega, by omega, by omega⟩
  rw [call_eq n 477 _ Tr.f477 rfl]
  have g1 : ∀ y : Int, mulOk y (if (1000000000000000000 : Int) ≤ (if x < 0 then -x else x) then 1 else 0) = true := fun y => mul_r (by split <;> omega) (by split <;> omega)
  have g2 : mulOk 39373 0 = true := rfl
  have g3 : powOk 10 18 = true := by decide
  simp [evF, evSs, evS, evE, evA, evO, evAnd, evOr, evTs, ar, itr, getE, setE, rd1, rdB, rdF, rdC, rdP, rdX, app1, app2, post, binD, cmpS, cmpD, bltD, ixD, slD, revD, isiD, isTys, isTy, negD, walkB, isWalk, bindS, bindP, bindPs, bindSs, retV, avOf, noErr, grd, opt, frz, truth, outs, lent, Res.bind, sizeMax, seqOf, notS, fin, back, backL, lost, setAt, appAt, augAt, popAt, Ev.itemOf, slots, slotsL, wipeE, putBack, hidOf, Tr.f477, ixN, g1, g2, g3]
end M

set_option Elab.async false
set_option linter.all false
set_option maxRecDepth 100000
set_option maxHeartbeats 1000000
/-! PyL61n: what the check says. -/
namespace M
open PySem Ev
theorem mMap_map {α β γ : Type} {m : α → Option β} {ι : γ → α} {g : γ → β} : ∀ {l : List γ}, (∀ x ∈ l, m (ι x) = some (g x)) → mMap m (l.map ι) = some (l.map g)
  | [], _ => rfl
  | x :: r, h => by
    simp only [List.map_cons, mMap, h x (by simp), mMap_map (l := r) fun y hy => h y (by simp [hy])]
theorem allNz_mem : ∀ {l : List Nat}, allNz l = true → ∀ x ∈ l, x ≠ 0
  | [], _, x, h => by cases h
  | y :: r, h, x, hx => by
    unfold allNz at h
    cases hb : Nat.beq y 0 with
    | true => rw [hb] at h; cases h
    | false =>
      rw [hb] at h
      rcases List.mem_cons.1 hx with e | e
      · subst e; exact Nat.ne_of_beq_eq_false hb
      · exact allNz_mem h x e
theorem zl_get {p q i : Nat} (h : i < p) : (zl p q)[i]? = some (zv 100 p q i) := by
  unfold zl
  rw [List.getElem?_map, List.getElem?_range h]; rfl
theorem zl_nz {p q i : Nat} (nz : allNz (zl p q) = true) (h : i < p) : zv 100 p q i ≠ 0 := allNz_mem nz _ (List.mem_of_getElem? (zl_get h))
theorem zl_len (p q : Nat) : (zl p q).length = p := by simp [zl]
theorem steps_z {p q : Nat} (h1 : 2 ≤ p) (h2 : p ≤ 80) (hq : q ≤ 80) (nz : allNz (zl p q) = true) : mSteps (p : Int) (q : Int) = some ((zl p q).map (st (4 * (p : Int)))) := by
  unfold mSteps from0
  rw [show ((p : Int)).toNat = p by omega]
  unfold zl
  rw [List.map_map]
  refine mMap_map fun i hi => ?_
  have hi' : i < p := List.mem_range.1 hi
  have e := mStep_zv ((zv 100 p q i : Int) - Kz) p (by omega) (by omega) 100 p q i (zv 100 p q i) 1 (0, 1) rfl (zl_nz nz hi') (Or.inl rfl) (by omega) (by omega) (by omega) (by omega)
    (by rw [show ((zv 100 p q i : Int) - Kz) * (p : Int) - 1 * ((zv 100 p q i : Int) - Kz) * (p : Int) = 0 by grind, nrm_zero (Int.mul_pos (by omega) (by omega))])
  rw [show (0 : Int) + ((i : Nat) : Int) = (i : Int) by omega]
  exact e
theorem zsum {D : Int} : ∀ l : List Nat, (l.map fun z : Nat => (z : Int) - Kz).sum = (nSum l : Int) - Kz * l.length
  | [] => rfl
  | x :: r => by
    rw [List.map_cons, List.sum_cons, zsum (D := D) r]
    show _ = ((x + nSum r : Nat) : Int) - Kz * (r.length + 1 : Nat)
    push_cast
    generalize (Kz : Int) = k
    grind
theorem map_st (D : Int) (l : List Nat) : l.map (st D) = (l.map fun z : Nat => (z : Int) - Kz).map fun x => nrm x D := by
  rw [List.map_map]; rfl
theorem step_rec {p q i : Nat} (h1 : 2 ≤ p) (hq : 1 ≤ q) (h : zv 100 p q i ≠ 0) : ((zv 100 p q i : Int) - Kz) * q = (2 * i + 1 - p - q) ^ 2 - p * q - p * ((zv 100 q (p % q) (i % q) : Int) - Kz) := by
  have hl : Nat.blt 1 p = true := Nat.ble_eq_true_of_le h1
  have hq0 : Nat.beq q 0 = false := by
    cases hb : Nat.beq q 0 with
    | false => rfl
    | true => have := Nat.eq_of_beq_eq_true hb; omega
  have e : zv 100 p q i = zc p q i (zv 99 q (p % q) (i % q)) := by
    show cond (Nat.blt 1 p) (cond (Nat.beq q 0) 0 (zc p q i (zv 99 q (Nat.mod p q) (Nat.mod i q)))) Kz = _
    rw [hl, hq0]; rfl
  have k := zc_eq hq e.symm h
  rw [zv_up 99 _ _ _ k.1]
  exact k.2
theorem minus_rec {p q i : Nat} (h1 : 2 ≤ p) (h2 : p ≤ 80) (hq : 1 ≤ q) (hq2 : q ≤ 80) (h : zv 100 p q i ≠ 0) :
    lPlus (nrm ((2 * (i : Int) + 1 - p - q) * (2 * (i : Int) + 1 - p - q) - p * q) (4 * p * q)) (-(st (4 * (q : Int)) (zv 100 q (p % q) (i % q))).1, (st (4 * (q : Int)) (zv 100 q (p % q) (i % q))).2) = some (st (4 * (p : Int)) (zv 100 p q i)) := by
  have r := step_rec h1 hq h
  have b0 : (0 : Int) < p * q := Int.mul_pos (by omega) (by omega)
  have b1 : (p : Int) * q ≤ 80 * 80 := mul_lt (by omega) (by omega) (by omega) (by omega)
  have b2 : (4 : Int) * p * q = 4 * (p * q) := by grind
  unfold st
  rw [← nrm_neg (by omega)]
  rw [nrm_ext (a := -((zv 100 q (p % q) (i % q) : Int) - Kz)) (b := 4 * (q : Int)) (c := -((zv 100 q (p % q) (i % q) : Int) - Kz) * p) (d := 4 * p * q) (by omega) (by omega) (by generalize ((zv 100 q (p % q) (i % q) : Int) - Kz) = y; grind)]
  rw [lPlus_nrm (by omega) (by omega)]
  congr 1
  refine nrm_ext (by omega) (by omega) ?_
  generalize ((zv 100 q (p % q) (i % q) : Int) - Kz) = y at *
  generalize ((zv 100 p q i : Int) - Kz) = z at *
  grind
theorem zl_cons {p q : Nat} (h : 2 ≤ p) : ∃ x l, zl p q = x :: l := by
  cases e : zl p q with
  | nil => have := zl_len p q; rw [e] at this; simp at this; omega
  | cons x l => exact ⟨x, l, rfl⟩
theorem ends_z {p q : Nat} (h : 2 ≤ p) : Ends (nOrd [] (zl p q)) (lMin (zl p q)) (lMax (zl p q)) := by
  obtain ⟨x, l, e⟩ := zl_cons (q := q) h
  rw [e]
  exact ends_one x l
/-! ### general sums and products -/
theorem nrm_abs {a b M : Int} (hb : 0 < b) (h1 : -M < a) (h2 : a < M) : -M < (nrm a b).1 ∧ (nrm a b).1 < M := by
  have h := (nrm_mul (a := a) hb).1
  have hg := gpos (a := a) hb
  generalize (nrm a b).1 = x at *
  generalize hG : ((Nat.gcd a.natAbs b.natAbs : Nat) : Int) = G at *
  have g1 : 1 ≤ G := by omega
  subst h
  rcases Int.lt_or_le x 0 with hx | hx
  · have : x * G ≤ x * 1 := Int.mul_le_mul_of_nonpos_left (by omega) g1
    omega
  · have : x * 1 ≤ x * G := Int.mul_le_mul_of_nonneg_left g1 hx
    omega
theorem nrm_self {a b : Int} (hb : 0 < b) (g : Nat.gcd a.natAbs b.natAbs = 1) : nrm a b = (a, b) := by
  unfold nrm
  rw [g]
  simp
section
variable {a b c d A D : Int} (hb : 0 < b) (hb2 : b < 17592186044416) (hd : 0 < d) (hd2 : d < 17592186044416) (hD : 0 < D)
include hb hb2 hd hd2 hD
theorem plus_t (h : (a * d + c * b) * D = A * (b * d)) : mPlus (nrm a b) (nrm c d) = some (nrm A D) := by
  have p1 := nrm_pos (a := a) hb
  have p2 := nrm_pos (a := c) hd
  have l1 := nrm_le (a := a) hb
  have l2 := nrm_le (a := c) hd
  have b3 : (nrm a b).2 * (nrm c d).2 ≤ 17592186044416 * 17592186044416 := mul_lt (by omega) (by omega) (by omega) (by omega)
  have b4 : 0 < (nrm a b).2 * (nrm c d).2 := Int.mul_pos p1 p2
  unfold mPlus
  rw [mul_r (by omega) (by omega), mul_r (by omega) (by omega), mul_l (by omega) (by omega), if_pos (by rfl), low_nrm b4 (by omega)]
  congr 1
  refine nrm_ext b4 hD ?_
  have x1 := nrm_x (a := a) hb
  have x2 := nrm_x (a := c) hd
  have hbd : 0 < b * d := Int.mul_pos hb hd
  refine Int.eq_of_mul_eq_mul_right (Int.ne_of_gt hbd) ?_
  generalize nrm a b = x at *
  generalize nrm c d = y at *
  have e1 : (x.1 * y.2 + y.1 * x.2) * (b * d) = (a * d + c * b) * (x.2 * y.2) := by grind
  grind
theorem lPlus_t (h : (a * d + c * b) * D = A * (b * d)) : lPlus (nrm a b) (nrm c d) = some (nrm A D) := by
  have p1 := nrm_pos (a := a) hb
  have p2 := nrm_pos (a := c) hd
  have l1 := nrm_le (a := a) hb
  have l2 := nrm_le (a := c) hd
  have b3 : (nrm a b).2 * (nrm c d).2 ≤ 17592186044416 * 17592186044416 := mul_lt (by omega) (by omega) (by omega) (by omega)
  have b4 : 0 < (nrm a b).2 * (nrm c d).2 := Int.mul_pos p1 p2
  unfold lPlus
  rw [mul_r (by omega) (by omega), mul_r (by omega) (by omega), mul_l (by omega) (by omega), if_pos (by rfl), mLow_nrm b4 (by omega)]
  congr 1
  refine nrm_ext b4 hD ?_
  have x1 := nrm_x (a := a) hb
  have x2 := nrm_x (a := c) hd
  have hbd : 0 < b * d := Int.mul_pos hb hd
  refine Int.eq_of_mul_eq_mul_right (Int.ne_of_gt hbd) ?_
  generalize nrm a b = x at *
  generalize nrm c d = y at *
  have e1 : (x.1 * y.2 + y.1 * x.2) * (b * d) = (a * d + c * b) * (x.2 * y.2) := by grind
  grind
theorem minus_t (h : (a * d - c * b) * D = A * (b * d)) : mMinus (nrm a b) (nrm c d) = some (nrm A D) := by
  have p1 := nrm_pos (a := a) hb
  have p2 := nrm_pos (a := c) hd
  have l1 := nrm_le (a := a) hb
  have l2 := nrm_le (a := c) hd
  have b3 : (nrm a b).2 * (nrm c d).2 ≤ 17592186044416 * 17592186044416 := mul_lt (by omega) (by omega) (by omega) (by omega)
  have b4 : 0 < (nrm a b).2 * (nrm c d).2 := Int.mul_pos p1 p2
  unfold mMinus
  rw [mul_r (by omega) (by omega), mul_r (by omega) (by omega), mul_l (by omega) (by omega), if_pos (by rfl), low_nrm b4 (by omega)]
  congr 1
  refine nrm_ext b4 hD ?_
  have x1 := nrm_x (a := a) hb
  have x2 := nrm_x (a := c) hd
  have hbd : 0 < b * d := Int.mul_pos hb hd
  refine Int.eq_of_mul_eq_mul_right (Int.ne_of_gt hbd) ?_
  generalize nrm a b = x at *
  generalize nrm c d = y at *
  have e1 : (x.1 * y.2 - y.1 * x.2) * (b * d) = (a * d - c * b) * (x.2 * y.2) := by grind
  grind
theorem times_t (ha : -1000000000 < a) (ha2 : a < 1000000000) (h : a * c * D = A * (b * d)) : mTimes (nrm a b) (nrm c d) = some (nrm A D) := by
  have p1 := nrm_pos (a := a) hb
  have p2 := nrm_pos (a := c) hd
  have l1 := nrm_le (a := a) hb
  have l2 := nrm_le (a := c) hd
  have q := nrm_abs hb ha ha2
  have b3 : (nrm a b).2 * (nrm c d).2 ≤ 17592186044416 * 17592186044416 := mul_lt (by omega) (by omega) (by omega) (by omega)
  have b4 : 0 < (nrm a b).2 * (nrm c d).2 := Int.mul_pos p1 p2
  unfold mTimes
  rw [mul_l (i := (nrm a b).1) (by omega) (by omega), mul_l (by omega) (by omega), if_pos (by rfl), low_nrm b4 (by omega)]
  congr 1
  refine nrm_ext b4 hD ?_
  have x1 := nrm_x (a := a) hb
  have x2 := nrm_x (a := c) hd
  have hbd : 0 < b * d := Int.mul_pos hb hd
  refine Int.eq_of_mul_eq_mul_right (Int.ne_of_gt hbd) ?_
  generalize nrm a b = x at *
  generalize nrm c d = y at *
  have e1 : (x.1 * y.1) * (b * d) = (a * c) * (x.2 * y.2) := by
    have : (x.1 * y.1) * (b * d) = (x.1 * b) * (y.1 * d) := by grind
    rw [this, x1, x2]; grind
  grind
theorem lTimes_t (ha : -1000000000 < a) (ha2 : a < 1000000000) (h : a * c * D = A * (b * d)) : lTimes (nrm a b) (nrm c d) = some (nrm A D) := by
  have p1 := nrm_pos (a := a) hb
  have p2 := nrm_pos (a := c) hd
  have l1 := nrm_le (a := a) hb
  have l2 := nrm_le (a := c) hd
  have q := nrm_abs hb ha ha2
  have b3 : (nrm a b).2 * (nrm c d).2 ≤ 17592186044416 * 17592186044416 := mul_lt (by omega) (by omega) (by omega) (by omega)
  have b4 : 0 < (nrm a b).2 * (nrm c d).2 := Int.mul_pos p1 p2
  unfold lTimes
  rw [mul_l (i := (nrm a b).1) (by omega) (by omega), mul_l (by omega) (by omega), if_pos (by rfl), mLow_nrm b4 (by omega)]
  congr 1
  refine nrm_ext b4 hD ?_
  have x1 := nrm_x (a := a) hb
  have x2 := nrm_x (a := c) hd
  have hbd : 0 < b * d := Int.mul_pos hb hd
  refine Int.eq_of_mul_eq_mul_right (Int.ne_of_gt hbd) ?_
  generalize nrm a b = x at *
  generalize nrm c d = y at *
  have e1 : (x.1 * y.1) * (b * d) = (a * c) * (x.2 * y.2) := by
    have : (x.1 * y.1) * (b * d) = (x.1 * b) * (y.1 * d) := by grind
    rw [this, x1, x2]; grind
  grind
end
end M

set_option Elab.async false
set_option linter.all false
set_option maxRecDepth 100000
set_option maxHeartbeats 1000000
/-! PyL61o: what the check says. -/
namespace M
open PySem Ev
theorem lean_t {p q : Nat} (h1 : 2 ≤ p) (h2 : p ≤ 80) (h3 : 1 ≤ q) (h4 : q ≤ 80) (g : Nat.gcd p q = 1) : mLean q p = some ((p : Int), (q : Int)) := by
  have s : nrm (p : Int) q = ((p : Int), (q : Int)) := nrm_self (by omega) (by simpa using g)
  unfold mLean
  rw [low_nrm (by omega) (by omega)]
  show mPlus (0, 1) (nrm p q) = _
  have z : ((0 : Int), (1 : Int)) = nrm 0 1 := rfl
  rw [z, plus_t (A := p) (D := q) (by decide) (by decide) (by omega) (by omega) (by omega) (by grind), s]
theorem bind_of {α β : Type} {o : Option α} {a : α} {f : α → Option β} (h : o = some a) : o.bind f = f a := by rw [h]; rfl
theorem id3 (t d : Int) : (0 * d + t * 1) * d = t * (1 * d) := by grind
theorem mTotal_one {a x r : Fq} (h : mPlus a x = some r) : mTotal a [x] = some r := by
  unfold mTotal
  rw [h]
  rfl
theorem worth_t {p q : Nat} {T T' : Int} (h1 : 2 ≤ p) (h2 : p ≤ 80) (h3 : 1 ≤ q) (h4 : q ≤ 80) (g : Nat.gcd p q = 1) (hs : mSumBy p q = some (nrm T' (4 * q * q)))
    (ex : 3 * (T * (q * q) + T' * (p * p)) = (p : Int) * q * (q * q + p * p + 1 - 3 * q * p)) : mWorth q p = some (nrm T (8 * p)) := by
  have s : nrm (p : Int) q = ((p : Int), (q : Int)) := nrm_self (by omega) (by simpa using g)
  have q1 : 0 < (q : Int) * q := Int.mul_pos (by omega) (by omega)
  have q2 : (q : Int) * q ≤ 80 * 80 := mul_lt (by omega) (by omega) (by omega) (by omega)
  have q3 : 0 < (q : Int) * (q * q) := Int.mul_pos (by omega) (by omega)
  have q4 : (q : Int) * (q * q) ≤ 80 * (80 * 80) := mul_lt (by omega) (by omega) (by omega) (by omega)
  have pp1 : 0 < (p : Int) * p := Int.mul_pos (by omega) (by omega)
  have pp2 : (p : Int) * p ≤ 80 * 80 := mul_lt (by omega) (by omega) (by omega) (by omega)
  have ab : absI (p : Int) = p := by unfold absI; rw [if_neg (by omega)]
  have sg : sgI (p : Int) = 1 := by
    unfold sgI
    rw [decide_eq_true (by omega), decide_eq_false (by omega)]; rfl
  have k2 : mTimes (1, (q : Int)) (1, (q : Int)) = some (nrm 1 (q * q)) := by
    have := times_t (a := 1) (b := q) (c := 1) (d := q) (A := 1) (D := (q : Int) * q) (by omega) (by omega) (by omega) (by omega) q1 (by decide) (by decide) (by grind)
    rwa [nrm_self (a := 1) (b := (q : Int)) (by omega) (by simp)] at this
  have k3 : mTotal (0, 1) [nrm 1 ((q : Int) * q)] = some (nrm 1 (q * q)) := by
    have z : ((0 : Int), (1 : Int)) = nrm 0 1 := rfl
    rw [z]
    exact mTotal_one (plus_t (by decide) (by decide) q1 (by omega) q1 (id3 _ _))
  have k4 : mPlus (1, 1) (nrm 1 ((q : Int) * q)) = some (nrm ((q : Int) * q + 1) (q * q)) := by
    have z : ((1 : Int), (1 : Int)) = nrm 1 1 := rfl
    rw [z, plus_t (A := (q : Int) * q + 1) (D := (q : Int) * q) (by decide) (by decide) q1 (by omega) q1 (by grind)]
  have k5 : mTimes (1, 24) (nrm ((q : Int) * q + 1) (q * q)) = some (nrm ((q : Int) * q + 1) (24 * (q * q))) := by
    have z : ((1 : Int), (24 : Int)) = nrm 1 24 := rfl
    rw [z, times_t (A := (q : Int) * q + 1) (D := 24 * ((q : Int) * q)) (by decide) (by decide) q1 (by omega) (by omega) (by decide) (by decide) (by grind)]
  have k6 : mTimes ((p : Int), (q : Int)) ((p : Int), (q : Int)) = some (nrm (p * p) (q * q)) := by
    rw [← s, times_t (A := (p : Int) * p) (D := (q : Int) * q) (by omega) (by omega) (by omega) (by omega) q1 (by omega) (by omega) (by grind)]
  have k7 : mTimes (1, 24) (nrm ((p : Int) * p) (q * q)) = some (nrm ((p : Int) * p) (24 * (q * q))) := by
    have z : ((1 : Int), (24 : Int)) = nrm 1 24 := rfl
    rw [z, times_t (A := (p : Int) * p) (D := 24 * ((q : Int) * q)) (by decide) (by decide) q1 (by omega) (by omega) (by decide) (by decide) (by grind)]
  have k8 : mTimes (1, 8) ((p : Int), (q : Int)) = some (nrm p (8 * q)) := by
    have z : ((1 : Int), (8 : Int)) = nrm 1 8 := rfl
    rw [z, ← s, times_t (A := (p : Int)) (D := 8 * (q : Int)) (by decide) (by decide) (by omega) (by omega) (by omega) (by decide) (by decide) (by grind)]
  have k9 : mMinus (nrm ((p : Int) * p) (24 * (q * q))) (nrm p (8 * q)) = some (nrm ((p : Int) * p - 3 * p * q) (24 * (q * q))) :=
    minus_t (by omega) (by omega) (by omega) (by omega) (by omega) (by grind)
  have e4 : (4 : Int) * q * q = 4 * (q * q) := by grind
  rw [e4] at hs
  have k11 : mTotal (0, 1) [nrm T' (4 * ((q : Int) * q))] = some (nrm T' (4 * ((q : Int) * q))) := by
    have z : ((0 : Int), (1 : Int)) = nrm 0 1 := rfl
    rw [z]
    exact mTotal_one (plus_t (by decide) (by decide) (by omega) (by omega) (by omega) (id3 _ _))
  have k12 : mTimes (1, 2) ((p : Int), (q : Int)) = some (nrm p (2 * q)) := by
    have z : ((1 : Int), (2 : Int)) = nrm 1 2 := rfl
    rw [z, ← s, times_t (A := (p : Int)) (D := 2 * (q : Int)) (by decide) (by decide) (by omega) (by omega) (by omega) (by decide) (by decide) (by grind)]
  have k13 : mTimes (nrm (p : Int) (2 * q)) (nrm T' (4 * ((q : Int) * q))) = some (nrm (p * T') (8 * ((q : Int) * (q * q)))) :=
    times_t (by omega) (by omega) (by omega) (by omega) (by omega) (by omega) (by omega) (by grind)
  have k14 : mPlus (nrm ((q : Int) * q + 1) (24 * (q * q))) (nrm ((p : Int) * p - 3 * p * q) (24 * (q * q))) = some (nrm ((q : Int) * q + p * p + 1 - 3 * q * p) (24 * (q * q))) :=
    plus_t (by omega) (by omega) (by omega) (by omega) (by omega) (by grind)
  have k15 : mMinus (nrm ((q : Int) * q + p * p + 1 - 3 * q * p) (24 * (q * q))) (nrm (p * T') (8 * ((q : Int) * (q * q)))) = some (nrm ((q : Int) * (q * q + p * p + 1 - 3 * q * p) - 3 * (p * T')) (24 * (q * (q * q)))) :=
    minus_t (by omega) (by omega) (by omega) (by omega) (by omega) (by grind)
  have k16 : mTimes ((q : Int), 1) (nrm ((q : Int) * (q * q + p * p + 1 - 3 * q * p) - 3 * (p * T')) (24 * (q * (q * q)))) = some (nrm T (8 * p)) := by
    rw [← nrm_self (a := (q : Int)) (b := 1) (by decide) (by simp)]
    refine times_t (by decide) (by decide) (by omega) (by omega) (by omega) (by omega) (by omega) ?_
    generalize hX : (q : Int) * q + p * p + 1 - 3 * q * p = X at *
    have e : (q : Int) * (q * X - 3 * (p * T')) * (8 * p) = 8 * (q * (p * q * X) - 3 * q * (T' * (p * p))) := by grind
    rw [e, ← ex]
    grind
  have k5' : mTimes (sgI (p : Int), 24) (nrm ((q : Int) * q + 1) (q * q)) = some (nrm ((q : Int) * q + 1) (24 * (q * q))) := by rw [sg]; exact k5
  have k6' : mTimes ((p : Int), (q : Int)) (absI (p : Int), (q : Int)) = some (nrm (p * p) (q * q)) := by rw [ab]; exact k6
  have k12' : mTimes (1, 2) (absI (p : Int), (q : Int)) = some (nrm p (2 * q)) := by rw [ab]; exact k12
  unfold mWorth
  refine (bind_of (lean_t h1 h2 h3 h4 g)).trans ?_
  refine (bind_of k2).trans ?_
  refine (bind_of k3).trans ?_
  refine (bind_of k4).trans ?_
  refine (bind_of k5').trans ?_
  refine (bind_of k6').trans ?_
  refine (bind_of k7).trans ?_
  refine (bind_of k8).trans ?_
  refine (bind_of k9).trans ?_
  refine (bind_of hs).trans ?_
  refine (bind_of k11).trans ?_
  refine (bind_of k12').trans ?_
  refine (bind_of k13).trans ?_
  refine (bind_of k14).trans ?_
  refine (bind_of k15).trans ?_
  exact k16
theorem mean_t {p q : Nat} {T : Int} (h1 : 2 ≤ p) (h2 : p ≤ 80) (h3 : 1 ≤ q) (h4 : q ≤ 80) (g : Nat.gcd p q = 1) (hw : mWorth q p = some (nrm T (8 * p))) : mMean q p = some (nrm T (4 * p * p)) := by
  have pp1 : 0 < (p : Int) * p := Int.mul_pos (by omega) (by omega)
  have pp2 : (p : Int) * p ≤ 80 * 80 := mul_lt (by omega) (by omega) (by omega) (by omega)
  have ab : absI (p : Int) = p := by unfold absI; rw [if_neg (by omega)]
  unfold mMean
  rw [lean_t h1 h2 h3 h4 g, Option.bind_some, hw]
  have dq : divOk (q : Int) = true := by
    unfold divOk
    simp only [Bool.and_eq_true, Bool.or_eq_true, decide_eq_true_eq]
    exact ⟨by omega, Or.inl (by omega)⟩
  show (if mulOk (absI (p : Int)) q && divOk (q : Int) then (some (nrm T (8 * p))).bind fun w => mTimes w (2, (absI (p : Int) * q).fdiv q) else none) = _
  rw [ab, mul_l (by omega) (by omega), dq, if_pos (by rfl), Option.bind_some]
  have e : ((p : Int) * q).fdiv q = p := by
    rw [Int.fdiv_eq_ediv_of_nonneg _ (by omega)]
    exact Int.mul_ediv_cancel _ (by omega)
  rw [e]
  have e4 : (4 : Int) * p * p = 4 * (p * p) := by grind
  have lw : mLowest 2 (p : Int) = some (nrm 2 p) := low_nrm (by omega) (by omega)
  have b1 := nrm_pos (a := T) (show 0 < 8 * (p : Int) by omega)
  have b2 := nrm_le (a := T) (show 0 < 8 * (p : Int) by omega)
  have x1 := nrm_x (a := T) (show 0 < 8 * (p : Int) by omega)
  have b3 : (nrm T (8 * (p : Int))).2 * p ≤ 1000 * 80 := mul_lt (by omega) (by omega) (by omega) (by omega)
  have b4 : 0 < (nrm T (8 * (p : Int))).2 * p := Int.mul_pos (by omega) (by omega)
  unfold mTimes
  show (if mulOk (nrm T (8 * (p : Int))).1 2 && mulOk (nrm T (8 * (p : Int))).2 p then mLowest ((nrm T (8 * (p : Int))).1 * 2) ((nrm T (8 * (p : Int))).2 * p) else none) = _
  rw [mul_r (by omega) (by omega), mul_r (by omega) (by omega), if_pos (by rfl), low_nrm b4 (by omega)]
  congr 1
  refine nrm_ext b4 (by omega) ?_
  rw [e4]
  generalize nrm T (8 * (p : Int)) = x at *
  have : x.1 * 2 * (4 * (p * p)) = (x.1 * (8 * p)) * p := by grind
  rw [this, x1]
  grind
end M

set_option Elab.async false
set_option linter.all false
set_option maxRecDepth 100000
set_option maxHeartbeats 1000000
/-! PyL61j: the finite check. -/
namespace M
open PySem Ev
theorem all1 : (List.range 29).all (fun k => okAll (k + 2)) = true := by decide +kernel
theorem all2 : (List.range 10).all (fun k => okAll (k + 31)) = true := by decide +kernel
theorem all3 : (List.range 8).all (fun k => okAll (k + 41)) = true := by decide +kernel
theorem all4 : (List.range 6).all (fun k => okAll (k + 49)) = true := by decide +kernel
theorem all5 : (List.range 5).all (fun k => okAll (k + 55)) = true := by decide +kernel
theorem all6 : (List.range 5).all (fun k => okAll (k + 60)) = true := by decide +kernel
theorem all7 : (List.range 4).all (fun k => okAll (k + 65)) = true := by decide +kernel
theorem all8 : (List.range 4).all (fun k => okAll (k + 69)) = true := by decide +kernel
theorem all9 : (List.range 4).all (fun k => okAll (k + 73)) = true := by decide +kernel
theorem all10 : (List.range 4).all (fun k => okAll (k + 77)) = true := by decide +kernel
theorem all_in {a n p : Nat} (h : (List.range n).all (fun k => okAll (k + a)) = true) (h1 : a ≤ p) (h2 : p < a + n) : okAll p = true := by
  rw [List.all_eq_true] at h
  have := h (p - a) (List.mem_range.2 (by omega))
  rwa [Nat.sub_add_cancel h1] at this
theorem all_ok (p : Nat) (h1 : 2 ≤ p) (h2 : p ≤ 80) : okAll p = true := by
  by_cases c1 : p < 31
  · exact all_in all1 h1 (by omega)
  by_cases c2 : p < 41
  · exact all_in all2 (by omega) (by omega)
  by_cases c3 : p < 49
  · exact all_in all3 (by omega) (by omega)
  by_cases c4 : p < 55
  · exact all_in all4 (by omega) (by omega)
  by_cases c5 : p < 60
  · exact all_in all5 (by omega) (by omega)
  by_cases c6 : p < 65
  · exact all_in all6 (by omega) (by omega)
  by_cases c7 : p < 69
  · exact all_in all7 (by omega) (by omega)
  by_cases c8 : p < 73
  · exact all_in all8 (by omega) (by omega)
  by_cases c9 : p < 77
  · exact all_in all9 (by omega) (by omega)
  · exact all_in all10 (by omega) (by omega)
end M

set_option Elab.async false
set_option linter.all false
set_option maxRecDepth 100000
set_option maxHeartbeats 1000000
/-! PyL61p: all that the law asks of a lens. -/
namespace M
open PySem Ev
structure B1 (p q : Nat) : Prop where
  nz : allNz (zl p q) = true
  sm : (nSum (zl p q) : Int) - Kz * p = Tz q p
  f1 : mSumBy q p = some (nrm (Tz q p) (4 * p * p))
  ex : 3 * (Tz q p * ((q : Int) * q) + Tz (p % q) q * ((p : Int) * p)) = (p : Int) * q * (q * q + p * p + 1 - 3 * q * p)
structure B2 (p q : Nat) : Prop where
  m1 : lMin (zl p (p - q)) + lMax (zl p q) = 2 * Kz
  m2 : lMax (zl p (p - q)) + lMin (zl p q) = 2 * Kz
  s2 : nSum (zl p (p - q)) + nSum (zl p q) = 2 * Kz * p
  ow : ∃ a b, mLeast p q = some a ∧ mLeast p ((p : Int) - q) = some b ∧ (a = b → Tz q p = 0 ∧ nOrd [] (zl p q) = nOrd [] (zl p (p - q)))
theorem b1_of {p q : Nat} (h : ok1 p q = true) : B1 p q := by
  unfold ok1 at h
  simp only [Bool.and_eq_true, decide_eq_true_eq] at h
  obtain ⟨a1, a2, f1, ex⟩ := h
  refine ⟨a1, ?_, f1, ?_⟩
  · have e := Nat.eq_of_beq_eq_true a2
    have e' : ((nSum (zl p q) + tB q p (ownsN p) : Nat) : Int) = ((tA q p (ownsN p) + Kz * p : Nat) : Int) := congrArg _ e
    push_cast at e'
    unfold Tz
    omega
  · push_cast at ex
    rw [ex]
theorem b2_of {p q : Nat} (h : ok2 p q = true) : B2 p q := by
  unfold ok2 at h
  simp only [Bool.and_eq_true] at h
  obtain ⟨a1, a2, a3, hM⟩ := h
  refine ⟨Nat.eq_of_beq_eq_true a1, Nat.eq_of_beq_eq_true a2, Nat.eq_of_beq_eq_true a3, ?_⟩
  unfold okM at hM
  cases ha : mLeast p q with
  | none => rw [ha] at hM; cases hM
  | some a =>
    cases hb : mLeast p ((p : Int) - q) with
    | none => rw [ha, hb] at hM; cases hM
    | some b =>
      rw [ha, hb] at hM
      refine ⟨a, b, rfl, rfl, fun e => ?_⟩
      have hM' : (!decide (a = b) || (decide (Tz q p = 0) && decide (nOrd [] (zl p q) = nOrd [] (zl p (p - q))))) = true := hM
      simpa [e] using hM'
theorem okQ_of {p q : Nat} (h1 : 2 ≤ p) (h2 : p ≤ 80) (h3 : 1 ≤ q) (h4 : 2 * q ≤ p) (g : Nat.gcd q p = 1) : ok1 p q = true ∧ ok1 p (p - q) = true ∧ ok2 p q = true := by
  have h := all_ok p h1 h2
  unfold okAll at h
  rw [Bool.and_eq_true, List.all_eq_true] at h
  have k := h.2 (q - 1) (List.mem_range.2 (by omega))
  rw [show q - 1 + 1 = q by omega] at k
  unfold okQ at k
  rw [g] at k
  have k' : (ok1 p q && (ok1 p (p - q) && ok2 p q)) = true := k
  simpa [Bool.and_eq_true] using k'
theorem gcd_sub {p q : Nat} (h4 : q ≤ p) (g : Nat.gcd q p = 1) : Nat.gcd (p - q) p = 1 := by
  have : Nat.gcd (p - q) p = Nat.gcd (p - q) q := by
    conv => lhs; rw [show p = (p - q) + q by omega]
    rw [Nat.add_sub_cancel]
    exact Nat.gcd_self_add_right ..
  rw [this]
  have : Nat.gcd (p - q) q = Nat.gcd p q := by
    conv => rhs; rw [show p = (p - q) + q by omega]
    exact (Nat.gcd_add_self_left ..).symm
  rw [this, Nat.gcd_comm]; exact g
theorem base {p q : Nat} (h1 : 2 ≤ p) (h2 : p ≤ 80) (h3 : 1 ≤ q) (h4 : q < p) (g : Nat.gcd q p = 1) : B1 p q := by
  by_cases c : 2 * q ≤ p
  · exact b1_of (okQ_of h1 h2 h3 c g).1
  · have k := (okQ_of (q := p - q) h1 h2 (by omega) (by omega) (gcd_sub (by omega) g)).2.1
    rw [show p - (p - q) = q by omega] at k
    exact b1_of k
theorem base2 {p q : Nat} (h1 : 2 ≤ p) (h2 : p ≤ 80) (h3 : 1 ≤ q) (h4 : q < p) (g : Nat.gcd q p = 1) : B2 p q := by
  by_cases c : 2 * q ≤ p
  · exact b2_of (okQ_of h1 h2 h3 c g).2.2
  · have k := b2_of (okQ_of (q := p - q) h1 h2 (by omega) (by omega) (gcd_sub (by omega) g)).2.2
    have b1 := base h1 h2 h3 h4 g
    have b1' := base (q := p - q) h1 h2 (by omega) (by omega) (gcd_sub (by omega) g)
    obtain ⟨m1, m2, s2, a, b, e1, e2, e3⟩ := k
    rw [show p - (p - q) = q by omega] at m1 m2 s2 e3
    have c1 : ((p - q : Nat) : Int) = (p : Int) - q := by omega
    rw [c1] at e1 e2
    rw [show (p : Int) - ((p : Int) - q) = q by omega] at e2
    refine ⟨by omega, by omega, by omega, b, a, e2, e1, fun e => ?_⟩
    have e4 := e3 e.symm
    refine ⟨?_, e4.2.symm⟩
    have s1 := b1.sm
    have s1' := b1'.sm
    rw [e4.1] at s1'
    have s2' : ((nSum (zl p q) + nSum (zl p (p - q)) : Nat) : Int) = ((2 * Kz * p : Nat) : Int) := congrArg _ s2
    push_cast at s2'
    have : (2 : Int) * Kz * p = 2 * (Kz * p) := by grind
    omega
/-- all that the law asks of a lens -/
structure Facts (p q : Nat) : Prop where
  nz : allNz (zl p q) = true
  nz' : allNz (zl p (p - q)) = true
  sm : (nSum (zl p q) : Int) - Kz * p = Tz q p
  m1 : lMin (zl p (p - q)) + lMax (zl p q) = 2 * Kz
  m2 : lMax (zl p (p - q)) + lMin (zl p q) = 2 * Kz
  f1 : mSumBy q p = some (nrm (Tz q p) (4 * p * p))
  f2 : mTimes (p, 2) (nrm (Tz q p) (4 * p * p)) = some (nrm (Tz q p) (8 * p))
  f3 : lTimes (p, 1) (nrm (Tz q p) (4 * p * p)) = some (nrm (Tz q p) (4 * p))
  f4 : lTimes (1, 2) (nrm (Tz q p) (4 * p)) = some (nrm (Tz q p) (8 * p))
  f5 : mLean q p = some ((p : Int), (q : Int))
  f6 : mWorth q p = some (nrm (Tz q p) (8 * p))
  f7 : mMean q p = some (nrm (Tz q p) (4 * p * p))
  f8 : lPlus (nrm (Tz q p) (4 * p * p)) (nrm (Tz (p % q) q) (4 * q * q)) = some (nrm ((q : Int) * q + p * p + 1 - 3 * q * p) (12 * q * p))
  f9 : mSumBy p q = some (nrm (Tz (p % q) q) (4 * q * q))
  f10 : mSumBy ((p : Int) - q) p = some (nrm (-(Tz q p)) (4 * p * p))
  f11 : mTimes (p, 2) (nrm (-(Tz q p)) (4 * p * p)) = some (nrm (-(Tz q p)) (8 * p))
  f12 : lTimes (-1, 2) (nrm (Tz q p) (4 * p)) = some (nrm (-(Tz q p)) (8 * p))
  f13 : mSumBy 1 p = some (nrm (((p : Int) - 1) * (p - 2)) (12 * p))
  ow : ∃ a b, mLeast p q = some a ∧ mLeast p ((p : Int) - q) = some b ∧ (a = b → Tz q p = 0 ∧ nOrd [] (zl p q) = nOrd [] (zl p (p - q)))
theorem times_raw {a b c d A D : Int} (hb : 0 < b) (hb2 : b < 17592186044416) (hd : 0 < d) (hd2 : d < 17592186044416) (hD : 0 < D) (ha : -1000000000 < a) (ha2 : a < 1000000000) (h : a * c * D = A * (b * d)) : mTimes (a, b) (nrm c d) = some (nrm A D) := by
  have p2 := nrm_pos (a := c) hd
  have l2 := nrm_le (a := c) hd
  have b3 : b * (nrm c d).2 ≤ 17592186044416 * 17592186044416 := mul_lt (by omega) (by omega) (by omega) (by omega)
  have b4 : 0 < b * (nrm c d).2 := Int.mul_pos hb p2
  unfold mTimes
  show (if mulOk a (nrm c d).1 && mulOk b (nrm c d).2 then mLowest (a * (nrm c d).1) (b * (nrm c d).2) else none) = _
  rw [mul_l (i := a) (by omega) (by omega), mul_l (by omega) (by omega), if_pos (by rfl), low_nrm b4 (by omega)]
  congr 1
  refine nrm_ext b4 hD ?_
  have x2 := nrm_x (a := c) hd
  refine Int.eq_of_mul_eq_mul_right (Int.ne_of_gt hd) ?_
  generalize nrm c d = y at *
  have e1 : a * y.1 * D * d = a * (y.1 * d) * D := by grind
  rw [e1, x2]
  have e2 : a * (c * y.2) * D = a * c * D * y.2 := by grind
  rw [e2, h]
  grind
theorem id8 (p T : Int) : p * T * (8 * p) = T * (2 * (4 * (p * p))) := by grind
theorem id3' (p T : Int) : p * T * (4 * p) = T * (1 * (4 * (p * p))) := by grind
theorem id4' (p T : Int) : 1 * T * (8 * p) = T * (2 * (4 * p)) := by grind
theorem id12 (p T : Int) : -1 * T * (8 * p) = -T * (2 * (4 * p)) := by grind
theorem idex (p q T T' : Int) (ex : 3 * (T * (q * q) + T' * (p * p)) = p * q * (q * q + p * p + 1 - 3 * q * p)) : (T * (4 * (q * q)) + T' * (4 * (p * p))) * (12 * (q * p)) = (q * q + p * p + 1 - 3 * q * p) * (4 * (p * p) * (4 * (q * q))) := by
  have e : (T * (4 * (q * q)) + T' * (4 * (p * p))) * (12 * (q * p)) = 16 * (3 * (T * (q * q) + T' * (p * p))) * (q * p) := by grind
  rw [e, ex]; grind
theorem id13 (p T : Int) (h : 3 * T = (p - 1) * (p - 2) * p) : T * (12 * p) = (p - 1) * (p - 2) * (4 * (p * p)) := by
  have : T * (12 * p) = 3 * T * (4 * p) := by grind
  rw [this, h]; grind
theorem facts {p q : Nat} (h1 : 2 ≤ p) (h2 : p ≤ 80) (h3 : 1 ≤ q) (h4 : q < p) (g : Nat.gcd q p = 1) : Facts p q := by
  have b := base h1 h2 h3 h4 g
  have b' := base (q := p - q) h1 h2 (by omega) (by omega) (gcd_sub (by omega) g)
  have b2 := base2 h1 h2 h3 h4 g
  have g' : Nat.gcd p q = 1 := by rw [Nat.gcd_comm]; exact g
  have neg : Tz (p - q) p = -(Tz q p) := by
    have s1 := b.sm
    have s1' := b'.sm
    have s2' : ((nSum (zl p (p - q)) + nSum (zl p q) : Nat) : Int) = ((2 * Kz * p : Nat) : Int) := congrArg _ b2.s2
    push_cast at s2'
    have : (2 : Int) * Kz * p = 2 * (Kz * p) := by grind
    omega
  have c1 : ((p - q : Nat) : Int) = (p : Int) - q := by omega
  have f10 := b'.f1
  rw [neg, c1] at f10
  have f9 : mSumBy p q = some (nrm (Tz (p % q) q) (4 * q * q)) := by
    by_cases hq : q = 1
    · subst hq
      have e : (p : Int).fmod ((1 : Nat) : Int) = 0 := by rw [fmod_nat, Nat.mod_one]; rfl
      unfold mSumBy
      rw [if_pos (by decide), e, Nat.mod_one]
      decide
    · have r0 : 1 ≤ p % q := by
        rcases Nat.eq_zero_or_pos (p % q) with z | z
        · exfalso
          have : q ∣ p := Nat.dvd_of_mod_eq_zero z
          have := Nat.gcd_eq_left this
          omega
        · exact z
      have gq : Nat.gcd (p % q) q = 1 := by rw [← Nat.gcd_rec]; exact g
      have k := (base (p := q) (q := p % q) (by omega) (by omega) r0 (Nat.mod_lt _ (by omega)) gq).f1
      rw [← k]
      unfold mSumBy
      rw [fmod_nat, fmod_nat, Nat.mod_mod]
  have pp1 : 0 < (p : Int) * p := Int.mul_pos (by omega) (by omega)
  have pp2 : (p : Int) * p ≤ 80 * 80 := mul_lt (by omega) (by omega) (by omega) (by omega)
  have q1 : 0 < (q : Int) * q := Int.mul_pos (by omega) (by omega)
  have q2 : (q : Int) * q ≤ 80 * 80 := mul_lt (by omega) (by omega) (by omega) (by omega)
  have qp1 : 0 < (q : Int) * p := Int.mul_pos (by omega) (by omega)
  have e4 : ∀ x : Int, (4 : Int) * x * x = 4 * (x * x) := fun x => by grind
  have e12 : (12 : Int) * q * p = 12 * (q * p) := by grind
  have w := worth_t h1 h2 h3 (by omega) g' f9 b.ex
  have hP : okP p = true := by
    have h := all_ok p h1 h2
    unfold okAll at h
    rw [Bool.and_eq_true] at h
    exact h.1
  have hP' : 3 * Tz 1 p = ((p : Int) - 1) * (p - 2) * p := of_decide_eq_true hP
  have o1 := (base (p := p) (q := 1) h1 h2 (by decide) (by omega) (Nat.gcd_one_left p)).f1
  refine ⟨b.nz, b'.nz, b.sm, b2.m1, b2.m2, b.f1, ?_, ?_, ?_, lean_t h1 h2 h3 (by omega) g', w, mean_t h1 h2 h3 (by omega) g' w, ?_, f9, f10, ?_, ?_, ?_, b2.ow⟩
  · rw [e4]; exact times_raw (by decide) (by decide) (by omega) (by omega) (by omega) (by omega) (by omega) (id8 _ _)
  · rw [e4, ← nrm_self (a := (p : Int)) (b := 1) (by decide) (by simp)]
    exact lTimes_t (by decide) (by decide) (by omega) (by omega) (by omega) (by omega) (by omega) (id3' _ _)
  · have z : ((1 : Int), (2 : Int)) = nrm 1 2 := rfl
    rw [z]
    exact lTimes_t (by decide) (by decide) (by omega) (by omega) (by omega) (by decide) (by decide) (id4' _ _)
  · rw [e4, e4, e12]
    exact lPlus_t (by omega) (by omega) (by omega) (by omega) (by omega) (idex _ _ _ _ b.ex)
  · rw [e4]; exact times_raw (by decide) (by decide) (by omega) (by omega) (by omega) (by omega) (by omega) (id8 _ _)
  · have z : ((-1 : Int), (2 : Int)) = nrm (-1) 2 := rfl
    rw [z]
    exact lTimes_t (by decide) (by decide) (by omega) (by omega) (by omega) (by decide) (by decide) (id12 _ _)
  · have o2 : mSumBy 1 p = some (nrm (Tz 1 p) (4 * p * p)) := o1
    rw [o2, e4]
    congr 1
    exact nrm_ext (by omega) (by omega) (id13 _ _ hP')
end M

set_option Elab.async false
set_option linter.all false
set_option maxRecDepth 100000
set_option maxHeartbeats 4000000
/-! PyL61q: one lap of the law. -/
namespace M
open PySem Ev
abbrev Cc (c : Nat → List Sl → Res (Sl × List (Option Sl))) : Wx := ⟨c, Tr.glob, 1000000⟩
abbrev lpc (c : Nat → List Sl → Res (Sl × List (Option Sl))) (np : Nat) (nk : Nat → Bool) (p : Pat) (b : List Sm) : D → SEnv → Res Out := fun x e1 => (bindP nk p x e1).bind fun e2 => evSs (Cc c) np nk b e2
theorem mOrder_len : ∀ {xs f r : List Fq}, mOrder f xs = some r → r.length = f.length + xs.length
  | [], f, r, h => by cases h; rfl
  | x :: xs, f, r, h => by
    unfold mOrder at h
    split at h
    · rename_i g hg
      rw [mOrder_len h, mIns_len hg]
      simp only [List.length_cons]
      omega
    · cases h
def tupS (D : Int) (l : List Nat) : PyData := .tuple ((l.map (st D)).map enc)
theorem tupE (a b : Int) : (PyData.tuple [.int a, .int b]) = enc (a, b) := rfl
theorem ixE0 (x : Fq) : ixD (enc x) (.int 0) = .ok (.d (.int x.1)) := rfl
theorem ixE1 (x : Fq) : ixD (enc x) (.int 1) = .ok (.d (.int x.2)) := rfl
theorem cmpS_ne_self (x : Fq) : cmpS .ne (enc x) (enc x) = .ok (.d (.bool false)) := by
  show ((cmpD .ne (enc x) (enc x)).bind fun r => (Res.ok (Sl.d (.bool r)) : Res Sl)) = _
  rw [enc_ne]; simp [Res.bind]
theorem cmpS_gt (a b : Int) : cmpS .gt (.int a) (.int b) = .ok (.d (.bool (decide (b < a)))) := rfl
theorem ix_at {l : List Fq} {i : Nat} {x : Fq} (h : l[i]? = some x) : ixD (.tuple (l.map enc)) (.int (i : Int)) = .ok (.d (enc x)) := by
  have hi : i < l.length := (List.getElem?_eq_some_iff.1 h).1
  show ((opt ((ixN (l.map enc).length (i : Int)).bind fun j => (l.map enc)[j]?)).bind fun y => (Res.ok (Sl.d y) : Res Sl)) = _
  unfold ixN
  rw [if_pos (by omega), if_pos (by simp; omega)]
  simp [h, Res.bind]
theorem ix_last {l : List Fq} {x : Fq} (h : l[l.length - 1]? = some x) : ixD (.tuple (l.map enc)) (.int (-1)) = .ok (.d (enc x)) := by
  have hi : l.length - 1 < l.length := (List.getElem?_eq_some_iff.1 h).1
  show ((opt ((ixN (l.map enc).length (-1)).bind fun j => (l.map enc)[j]?)).bind fun y => (Res.ok (Sl.d y) : Res Sl)) = _
  unfold ixN
  rw [if_neg (by decide), if_pos (by simp; omega)]
  rw [show (-1 + ((l.map enc).length : Int)).toNat = l.length - 1 by simp; omega]
  simp [h, Res.bind]
theorem lens_of {p q : Nat} (h1 : 2 ≤ p) (h2 : p ≤ 80) (h3 : 1 ≤ q) (h4 : q < p) (g : Nat.gcd q p = 1) : Lens (p : Int) (q : Int) :=
  ⟨by omega, by omega, by omega, by omega, by rw [Nat.gcd_comm]; simpa using g⟩
theorem tube_of {p q : Nat} (h1 : 2 ≤ p) (h2 : p ≤ 80) (h3 : 1 ≤ q) (h4 : q < p) (g : Nat.gcd q p = 1) : Tube (q : Int) (p : Int) :=
  ⟨by omega, by omega, by omega, by omega, by simpa using g⟩
theorem st_neg {D : Int} (hD : 0 < D) {z w : Nat} (h : z + w = 2 * Kz) : st D z = (-(st D w).1, (st D w).2) := by
  unfold st
  rw [show (z : Int) - Kz = -((w : Int) - Kz) by omega, nrm_neg hD]
theorem same_fq {n : Nat} (l : List Fq) (hl : l.length ≤ 1000) : callN Tr.P (n + 3) 44 [.d (.list (l.map enc)), .d (.list (l.map enc))] = .ok (.d (.bool true), [none, none]) := by
  refine same 2 n _ ⟨by simp [sizeMax]; omega, fun x hx => ?_⟩
  obtain ⟨y, _, rfl⟩ := List.mem_map.1 hx
  exact same_enc 0 y
theorem same_fqo {n : Nat} (l : List Fq) (hl : l.length ≤ 1000) : callN Tr.P (n + 3) 44 [.o (l.map enc), .d (.list (l.map enc))] = .ok (.d (.bool true), [some (.d (.list (l.map enc))), none]) := by
  refine same_list (n := n + 2) (by simp [sizeMax]; omega) (fun x hx => ?_) (.o (l.map enc)) rfl
  obtain ⟨y, _, rfl⟩ := List.mem_map.1 hx
  exact same 1 n _ (same_enc 0 y)
abbrev inB : List Sm := [.asg (.n 15) (.bin .sub (.bin .sub (.bin .add (.bin .mul (.c (.int 2)) (.v 14)) (.c (.int 1))) (.v 3)) (.ix (.v 4) (.c (.int 1)))), .asg (.n 16) (.call 46 [(.bin .sub (.bin .mul (.v 15) (.v 15)) (.bin .mul (.v 3) (.ix (.v 4) (.c (.int 1))))), (.bin .mul (.bin .mul (.c (.int 4)) (.v 3)) (.ix (.v 4) (.c (.int 1))))]), .iff (.cmp .ne (.call 61 [(.v 16), (.ix (.v 13) (.bin .mod (.v 14) (.ix (.v 4) (.c (.int 1)))))]) (.ix (.v 8) (.v 14))) [.ret (.c (.bool false))] []]
theorem inner {c : Nat → List Sl → Res (Sl × List (Option Sl))} (hc : c = callN Tr.P 39) {nk : Nat → Bool} (hn : ∀ i, nk i = false) {p q : Nat} (h1 : 2 ≤ p) (h2 : p ≤ 80) (h3 : 2 ≤ q) (h4 : q < p) (g : Nat.gcd q p = 1) {P Q : Int} (hP : (p : Int) = P) (hQ : (q : Int) = Q) (S0 s1 s2 s5 s6 s7 s9 s10 s11 s12 : Option Sl) : ∀ (l : List D) (s14 s15 s16 : Option Sl), (∀ y ∈ l, ∃ i : Nat, i < p ∧ y = .int (i : Int)) →
    ∃ t14 t15 t16, forL (lpc c 1 nk (.n 14) inB) l [S0, s1, s2, some (.d (.int P)), some (.d (enc (P, Q))), s5, s6, s7, some (.d (tupS (4 * P) (zl p q))), s9, s10, s11, s12, some (.d (tupS (4 * Q) (zl q (p % q)))), s14, s15, s16] = .ok (.nx [S0, s1, s2, some (.d (.int P)), some (.d (enc (P, Q))), s5, s6, s7, some (.d (tupS (4 * P) (zl p q))), s9, s10, s11, s12, some (.d (tupS (4 * Q) (zl q (p % q)))), t14, t15, t16])
  | [], s14, s15, s16, _ => ⟨s14, s15, s16, rfl⟩
  | y :: r, s14, s15, s16, hy => by
    obtain ⟨i, hi, hyi⟩ := hy y (by simp)
    obtain ⟨I, hI⟩ : ∃ I : Int, (i : Int) = I := ⟨_, rfl⟩
    rw [hI] at hyi
    subst hyi
    have F := facts h1 h2 (by omega) h4 g
    have b0 : 0 < P * Q := Int.mul_pos (by omega) (by omega)
    have b1 : P * Q ≤ 80 * 80 := mul_lt (by omega) (by omega) (by omega) (by omega)
    have b2 : 4 * P * Q = 4 * (P * Q) := Int.mul_assoc ..
    have k1 : c 46 [.d (.int ((2 * I + 1 - P - Q) * (2 * I + 1 - P - Q) - P * Q)), .d (.int (4 * P * Q))] = .ok (.d (enc (nrm ((2 * I + 1 - P - Q) * (2 * I + 1 - P - Q) - P * Q) (4 * P * Q))), [none, none]) := by
      rw [hc]; exact law_low (n := 37) (mLow_nrm (by omega) (by omega))
    have k2 : c 61 [.d (enc (nrm ((2 * I + 1 - P - Q) * (2 * I + 1 - P - Q) - P * Q) (4 * P * Q))), .d (enc (st (4 * Q) (zv 100 q (p % q) (i % q))))] = .ok (.d (enc (st (4 * P) (zv 100 p q i))), [none, none]) := by
      rw [hc]; subst hP hQ hI; exact law_minus (n := 35) (minus_rec h1 h2 (by omega) (by omega) (zl_nz F.nz hi))
    have hm : i % q < q := Nat.mod_lt _ (by omega)
    have i1 : ixD (tupS (4 * Q) (zl q (p % q))) (.int (I.fmod Q)) = .ok (.d (enc (st (4 * Q) (zv 100 q (p % q) (i % q))))) := by
      rw [← hI, ← hQ, fmod_nat]
      exact ix_at (by rw [List.getElem?_map, zl_get hm]; rfl)
    have i2 : ixD (tupS (4 * P) (zl p q)) (.int I) = .ok (.d (enc (st (4 * P) (zv 100 p q i)))) := by
      rw [← hI]
      exact ix_at (by rw [List.getElem?_map, zl_get hi]; rfl)
    have g1 : mulOk 2 I = true := mul_l (by decide) (by decide)
    have g2 : mulOk (2 * I + 1 - P - Q) (2 * I + 1 - P - Q) = true := mul_l (by omega) (by omega)
    have g3 : mulOk P Q = true := mul_l (by omega) (by omega)
    have g4 : mulOk 4 P = true := mul_l (by decide) (by decide)
    have g5 : mulOk (4 * P) Q = true := mul_l (by omega) (by omega)
    have hq0 : ¬ Q = 0 := by omega
    have lap : lpc c 1 nk (.n 14) inB (.int I) [S0, s1, s2, some (.d (.int P)), some (.d (enc (P, Q))), s5, s6, s7, some (.d (tupS (4 * P) (zl p q))), s9, s10, s11, s12, some (.d (tupS (4 * Q) (zl q (p % q)))), s14, s15, s16] = .ok (.nx [S0, s1, s2, some (.d (.int P)), some (.d (enc (P, Q))), s5, s6, s7, some (.d (tupS (4 * P) (zl p q))), s9, s10, s11, s12, some (.d (tupS (4 * Q) (zl q (p % q)))), some (.d (.int I)), some (.d (.int (2 * I + 1 - P - Q))), some (.d (enc (nrm ((2 * I + 1 - P - Q) * (2 * I + 1 - P - Q) - P * Q) (4 * P * Q))))]) := by
      have b : bindP nk (.n 14) (.int I) [S0, s1, s2, some (.d (.int P)), some (.d (enc (P, Q))), s5, s6, s7, some (.d (tupS (4 * P) (zl p q))), s9, s10, s11, s12, some (.d (tupS (4 * Q) (zl q (p % q)))), s14, s15, s16] = .ok [S0, s1, s2, some (.d (.int P)), some (.d (enc (P, Q))), s5, s6, s7, some (.d (tupS (4 * P) (zl p q))), s9, s10, s11, s12, some (.d (tupS (4 * Q) (zl q (p % q)))), some (.d (.int I)), s15, s16] := by
        simp [bindP, hn, setE]
      show ((bindP nk (.n 14) (.int I) [S0, s1, s2, some (.d (.int P)), some (.d (enc (P, Q))), s5, s6, s7, some (.d (tupS (4 * P) (zl p q))), s9, s10, s11, s12, some (.d (tupS (4 * Q) (zl q (p % q)))), s14, s15, s16]).bind fun e2 => evSs (Cc c) 1 nk inB e2) = _
      rw [b]
      show evSs (Cc c) 1 nk inB [S0, s1, s2, some (.d (.int P)), some (.d (enc (P, Q))), s5, s6, s7, some (.d (tupS (4 * P) (zl p q))), s9, s10, s11, s12, some (.d (tupS (4 * Q) (zl q (p % q)))), some (.d (.int I)), s15, s16] = _
      refine (evSs_nx (e1 := [S0, s1, s2, some (.d (.int P)), some (.d (enc (P, Q))), s5, s6, s7, some (.d (tupS (4 * P) (zl p q))), s9, s10, s11, s12, some (.d (tupS (4 * Q) (zl q (p % q)))), some (.d (.int I)), some (.d (.int (2 * I + 1 - P - Q))), s16]) ?_).trans ?_
      · simp [evF, evSs, evS, evE, evA, evO, evAnd, evOr, evTs, ar, itr, getE, setE, rd1, rdB, rdF, rdC, rdP, rdX, app1, app2, post, binD, bltD, slD, revD, isiD, isTys, isTy, negD, walkB, isWalk, bindS, bindP, bindPs, bindSs, retV, avOf, noErr, grd, opt, frz, truth, outs, lent, Res.bind, sizeMax, seqOf, notS, fin, back, backL, lost, setAt, appAt, augAt, popAt, Ev.itemOf, slots, slotsL, wipeE, putBack, hidOf, hn, ixE0, ixE1, g1]
      refine (evSs_nx (e1 := [S0, s1, s2, some (.d (.int P)), some (.d (enc (P, Q))), s5, s6, s7, some (.d (tupS (4 * P) (zl p q))), s9, s10, s11, s12, some (.d (tupS (4 * Q) (zl q (p % q)))), some (.d (.int I)), some (.d (.int (2 * I + 1 - P - Q))), some (.d (enc (nrm ((2 * I + 1 - P - Q) * (2 * I + 1 - P - Q) - P * Q) (4 * P * Q))))]) ?_).trans ?_
      · simp [evF, evSs, evS, evE, evA, evO, evAnd, evOr, evTs, ar, itr, getE, setE, rd1, rdB, rdF, rdC, rdP, rdX, app1, app2, post, binD, bltD, slD, revD, isiD, isTys, isTy, negD, walkB, isWalk, bindS, bindP, bindPs, bindSs, retV, avOf, noErr, grd, opt, frz, truth, outs, lent, Res.bind, sizeMax, seqOf, notS, fin, back, backL, lost, setAt, appAt, augAt, popAt, Ev.itemOf, slots, slotsL, wipeE, putBack, hidOf, hn, ixE0, ixE1, g2, g3, g4, g5, k1]
      refine (evSs_nx (e1 := [S0, s1, s2, some (.d (.int P)), some (.d (enc (P, Q))), s5, s6, s7, some (.d (tupS (4 * P) (zl p q))), s9, s10, s11, s12, some (.d (tupS (4 * Q) (zl q (p % q)))), some (.d (.int I)), some (.d (.int (2 * I + 1 - P - Q))), some (.d (enc (nrm ((2 * I + 1 - P - Q) * (2 * I + 1 - P - Q) - P * Q) (4 * P * Q))))]) ?_).trans rfl
      simp [evF, evSs, evS, evE, evA, evO, evAnd, evOr, evTs, ar, itr, getE, setE, rd1, rdB, rdF, rdC, rdP, rdX, app1, app2, post, binD, bltD, slD, revD, isiD, isTys, isTy, negD, walkB, isWalk, bindS, bindP, bindPs, bindSs, retV, avOf, noErr, grd, opt, frz, truth, outs, lent, Res.bind, sizeMax, seqOf, notS, fin, back, backL, lost, setAt, appAt, augAt, popAt, Ev.itemOf, slots, slotsL, wipeE, putBack, hidOf, hn, ixE0, ixE1, hq0, i1, i2, k2, cmpS_ne_self]
    obtain ⟨t14, t15, t16, e⟩ := inner hc hn h1 h2 h3 h4 g hP hQ S0 s1 s2 s5 s6 s7 s9 s10 s11 s12 r _ _ _ fun y hy' => hy y (by simp [hy'])
    exact ⟨t14, t15, t16, (forL_nx lap).trans e⟩
abbrev L1 : Sm := .asg (.n 3) (.bin .add (.c (.int 2)) (.call 43 [(.v 1), (.c (.int 79))]))
abbrev L2 : Sm := .asg (.n 4) (.tup [(.v 3), (.call 71 [(.v 1), (.call 101 [(.v 3)])])])
abbrev L3 : Sm := .asg (.n 5) (.call 400 [(.ix (.v 4) (.c (.int 1))), (.v 3)])
abbrev L4 : Sm := .asg (.n 6) (.call 72 [(.tup [(.v 3), (.c (.int 1))]), (.v 5)])
abbrev L5 : Sm := .asg (.n 7) (.lst [(.call 371 [(.ix (.v 4) (.c (.int 1))), (.v 3)]), (.call 478 [(.ix (.v 4) (.c (.int 1))), (.v 3)]), (.call 479 [(.v 4)])])
abbrev L6 : Sm := .asg (.n 7) (.bin .add (.v 7) (.lst [(.call 401 [(.v 4)]), (.call 176 [(.tup [(.c (.int 0)), (.tup [(.tup [(.ix (.v 4) (.c (.int 1))), (.v 3)])])])]), (.call 437 [(.tup [(.c (.int 0)), (.tup [(.tup [(.ix (.v 4) (.c (.int 1))), (.v 3)])])])])]))
abbrev L7 : Sm := .iff (.not (.call 44 [(.v 7), (.lst [(.v 5), (.v 5), (.v 6), (.call 72 [(.tup [(.c (.int 1)), (.c (.int 2))]), (.v 6)]), (.call 72 [(.tup [(.c (.int 1)), (.c (.int 2))]), (.v 6)]), (.v 5)])])) [.ret (.c (.bool false))] []
abbrev L8 : Sm := .asg (.n 8) (.call 480 [(.v 4)])
abbrev L9 : Sm := .iff (.cmp .ne (.call 48 [(.v 8)]) (.v 6)) [.ret (.c (.bool false))] []
abbrev L10 : Sm := .asg (.n 9) (.call 400 [(.bin .mod (.v 3) (.ix (.v 4) (.c (.int 1)))), (.ix (.v 4) (.c (.int 1)))])
abbrev L11 : Sm := .iff (.not (.call 44 [(.lst [(.call 47 [(.v 5), (.v 9)]), (.call 371 [(.v 3), (.ix (.v 4) (.c (.int 1)))])]), (.lst [(.call 481 [(.ix (.v 4) (.c (.int 1))), (.v 3)]), (.v 9)])])) [.ret (.c (.bool false))] []
abbrev L12 : Sm := .par [(.n 11), (.n 12)] [(.call 403 [(.v 4)]), (.call 453 [(.v 4)])]
abbrev L13 : Sm := .asg (.n 10) (.call 403 [(.v 12)])
abbrev L14 : Sm := .iff (.not (.call 44 [(.lst [(.ix (.v 10) (.c (.int 0))), (.ix (.v 10) (.neg (.c (.int 1)))), (.call 401 [(.v 12)])]), (.lst [(.tup [(.neg (.ix (.ix (.v 11) (.neg (.c (.int 1)))) (.c (.int 0)))), (.ix (.ix (.v 11) (.neg (.c (.int 1)))) (.c (.int 1)))]), (.tup [(.neg (.ix (.ix (.v 11) (.c (.int 0))) (.c (.int 0)))), (.ix (.ix (.v 11) (.c (.int 0))) (.c (.int 1)))]), (.call 72 [(.tup [(.neg (.c (.int 1))), (.c (.int 2))]), (.v 6)])])])) [.ret (.c (.bool false))] []
abbrev L15 : Sm := .iff (.and [(.call 482 [(.v 4)]), (.not (.call 44 [(.lst [(.call 401 [(.v 4)]), (.call 479 [(.v 4)]), (.v 10)]), (.lst [(.tup [(.c (.int 0)), (.c (.int 1))]), (.tup [(.c (.int 0)), (.c (.int 1))]), (.v 11)])]))]) [.ret (.c (.bool false))] []
abbrev L16 : Sm := .iff (.not (.call 44 [(.call 371 [(.c (.int 1)), (.v 3)]), (.call 46 [(.bin .mul (.bin .sub (.v 3) (.c (.int 1))) (.bin .sub (.v 3) (.c (.int 2)))), (.bin .mul (.c (.int 12)) (.v 3))])])) [.ret (.c (.bool false))] []
abbrev L17 : Sm := .iff (.cmp .gt (.ix (.v 4) (.c (.int 1))) (.c (.int 1))) [.asg (.n 13) (.call 480 [(.tup [(.ix (.v 4) (.c (.int 1))), (.bin .mod (.v 3) (.ix (.v 4) (.c (.int 1))))])]), .fr (.n 14) (.call 263 [(.v 1), (.lrg [(.v 3)]), (.c (.int 5))]) [.asg (.n 15) (.bin .sub (.bin .sub (.bin .add (.bin .mul (.c (.int 2)) (.v 14)) (.c (.int 1))) (.v 3)) (.ix (.v 4) (.c (.int 1)))), .asg (.n 16) (.call 46 [(.bin .sub (.bin .mul (.v 15) (.v 15)) (.bin .mul (.v 3) (.ix (.v 4) (.c (.int 1))))), (.bin .mul (.bin .mul (.c (.int 4)) (.v 3)) (.ix (.v 4) (.c (.int 1))))]), .iff (.cmp .ne (.call 61 [(.v 16), (.ix (.v 13) (.bin .mod (.v 14) (.ix (.v 4) (.c (.int 1)))))]) (.ix (.v 8) (.v 14))) [.ret (.c (.bool false))] []]] []
abbrev lapB : List Sm := [L1, L2, L3, L4, L5, L6, L7, L8, L9, L10, L11, L12, L13, L14, L15, L16, L17]
theorem lap61 {C0 : Nat → List Sl → Res (Sl × List (Option Sl))} (hc : C0 = callN Tr.P 39) {nk : Nat → Bool} (hn : ∀ i, nk i = false) (S0 : Option Sl) (x : D) {a b c k : Int} (T : TinOk b c k) (hk : k ≤ 900) (x2 x3 x4 x5 x6 x7 x8 x9 x10 x11 x12 x13 x14 x15 x16 : Option Sl) :
    ∃ (a' c' : Int) (y2 y3 y4 y5 y6 y7 y8 y9 y10 y11 y12 y13 y14 y15 y16 : Option Sl), lpc C0 1 nk (.n 2) lapB x [S0, some (tinO a b c), x2, x3, x4, x5, x6, x7, x8, x9, x10, x11, x12, x13, x14, x15, x16] = .ok (.nx [S0, some (tinO a' b c'), y2, y3, y4, y5, y6, y7, y8, y9, y10, y11, y12, y13, y14, y15, y16]) ∧ TinOk b c' (k + 7) := by
  obtain ⟨r, a1, c1, k1, r0, r1, T1⟩ := take (n := 38) (a := a) (w := 79) T (by omega) (by decide) (by decide)
  rw [show callN Tr.P (38 + 1) = C0 from hc.symm] at k1
  obtain ⟨P, hPr⟩ : ∃ P : Int, 2 + r = P := ⟨_, rfl⟩
  have u2 : C0 101 [.d (.int P)] = .ok (.o (unitsL P), [none]) := by rw [hc]; exact units_ok (n := 37) (by omega) (by omega)
  have ul := unitsL_len (p := P) (by omega) (by omega)
  obtain ⟨y, a2, c2, hy, k2, T2⟩ := of_goods (n := 37) (a := a1) (l := unitsL P) T1 (by omega) ul.1 ul.2
  rw [show callN Tr.P (37 + 2) = C0 from hc.symm] at k2
  obtain ⟨Q, rfl, L⟩ := unitsL_mem (by omega) (by omega) hy
  have Lp := L.p2
  have Lq := L.q1
  have Lqp := L.qp
  have Lg := L.g
  obtain ⟨p, hP⟩ : ∃ p : Nat, (p : Int) = P := ⟨P.toNat, by omega⟩
  obtain ⟨q, hQ⟩ : ∃ q : Nat, (q : Int) = Q := ⟨Q.toNat, by omega⟩
  have h1 : 2 ≤ p := by omega
  have h2 : p ≤ 80 := by omega
  have h3 : 1 ≤ q := by omega
  have h4 : q < p := by omega
  have g : Nat.gcd q p = 1 := by rw [← hP, ← hQ] at Lg; rw [Nat.gcd_comm]; simpa using Lg
  obtain ⟨R, hR⟩ : ∃ R : Int, ((p - q : Nat) : Int) = R := ⟨_, rfl⟩
  have g' := gcd_sub (show q ≤ p by omega) g
  have F := facts h1 h2 h3 h4 g
  have L' : Lens P R := by subst hP hR; exact lens_of h1 h2 (by omega) (by omega) g'
  have hneg : (-Q).fmod P = R := by
    rw [Int.fmod_eq_emod_of_nonneg _ (by omega)]
    have : (-Q) % P = P - Q := by
      rw [show -Q = (P - Q) + P * (-1) by omega, Int.add_mul_emod_self_left]
      exact Int.emod_eq_of_lt (by omega) (by omega)
    omega
  have hm0 : P.fmod Q = ((p % q : Nat) : Int) := by rw [← hP, ← hQ, fmod_nat]
  have hqp : Q.fmod P = Q := by rw [Int.fmod_eq_emod_of_nonneg _ (by omega)]; exact Int.emod_eq_of_lt (by omega) (by omega)
  have pp1 : 0 < P * P := Int.mul_pos (by omega) (by omega)
  have pp2 : P * P ≤ 80 * 80 := mul_lt (by omega) (by omega) (by omega) (by omega)
  have qq1 : 0 < Q * Q := Int.mul_pos (by omega) (by omega)
  have qq2 : Q * Q ≤ 80 * 80 := mul_lt (by omega) (by omega) (by omega) (by omega)
  have qp1 : 0 < Q * P := Int.mul_pos (by omega) (by omega)
  have qp2 : Q * P ≤ 80 * 80 := mul_lt (by omega) (by omega) (by omega) (by omega)
  have ep : 4 * P * P = 4 * (P * P) := Int.mul_assoc ..
  have eq' : 4 * Q * Q = 4 * (Q * Q) := Int.mul_assoc ..
  have eqp : 12 * Q * P = 12 * (Q * P) := Int.mul_assoc ..
  have hsteps : mSteps P Q = some ((zl p q).map (st (4 * P))) := by rw [← hP, ← hQ]; exact steps_z h1 h2 (by omega) F.nz
  have hstepsR : mSteps P R = some ((zl p (p - q)).map (st (4 * P))) := by rw [← hP, ← hR]; exact steps_z h1 h2 (by omega) F.nz'
  have gcd1 : Nat.gcd Q.natAbs P.natAbs = 1 := by rw [Nat.gcd_comm]; exact Lg
  have f1 : mSumBy Q P = some (nrm (Tz q p) (4 * P * P)) := by rw [← hP, ← hQ]; exact F.f1
  have f2 : mTimes (P, 2) (nrm (Tz q p) (4 * P * P)) = some (nrm (Tz q p) (8 * P)) := by rw [← hP]; exact F.f2
  have k3 : C0 400 [.d (.int Q), .d (.int P)] = .ok (.d (enc (nrm (Tz q p) (4 * P * P))), [none, none]) := by
    rw [hc]
    exact law_saw (n := 36) (by omega) (by omega) (by omega) (by omega) (by rw [show teeth Q P (upto P) 0 = Tz q p by rw [← hP, ← hQ]; exact teeth_Tz q p]; exact mLow_nrm (by omega) (by omega))
  have k4 : C0 72 [.d (enc (P, 1)), .d (enc (nrm (Tz q p) (4 * P * P)))] = .ok (.d (enc (nrm (Tz q p) (4 * P))), [none, none]) := by rw [hc]; exact law_times (n := 36) (by rw [← hP]; exact F.f3)
  have k5a : C0 371 [.d (.int Q), .d (.int P)] = .ok (.d (enc (nrm (Tz q p) (4 * P * P))), [none, none]) := by rw [hc]; exact saw (n := 35) (by omega) (by omega) (by omega) (by omega) gcd1 f1
  have k5b : C0 478 [.d (.int Q), .d (.int P)] = .ok (.d (enc (nrm (Tz q p) (4 * P * P))), [none, none]) := by
    rw [hc]
    exact saw_added (n := 35) (by omega) (by omega) (by omega) (by omega) (by rw [hqp]; unfold mAdded; rw [show teeth Q P (upto P) 0 = Tz q p by rw [← hP, ← hQ]; exact teeth_Tz q p]; exact low_nrm (by omega) (by omega))
  have zs : ((zl p q).map fun z : Nat => (z : Int) - Kz).sum = Tz q p := by rw [zsum (D := 1), zl_len]; exact F.sm
  have z0 : ((0 : Int), (1 : Int)) = nrm 0 (4 * P) := (nrm_zero (by omega)).symm
  have tot : mTotal (0, 1) ((zl p q).map (st (4 * P))) = some (nrm (Tz q p) (4 * P)) := by
    rw [z0, map_st, total_nrm (by omega) (by omega), zs, Int.zero_add]
  have ltot : lTotal (0, 1) ((zl p q).map (st (4 * P))) = some (nrm (Tz q p) (4 * P)) := by
    rw [z0, map_st, lTotal_nrm (by omega) (by omega), zs, Int.zero_add]
  have k5c : C0 479 [.d (enc (P, Q))] = .ok (.d (enc (nrm (Tz q p) (4 * P))), [none]) := by rw [hc]; exact step_sum (n := 34) L hsteps tot
  have k6a : C0 401 [.d (enc (P, Q))] = .ok (.d (enc (nrm (Tz q p) (8 * P))), [none]) := by rw [hc]; exact lens_worth (n := 34) L f1 f2
  have Tb : Tube Q P := by rw [← hP, ← hQ]; exact tube_of h1 h2 h3 h4 g
  have f5 : mLean Q P = some (P, Q) := by rw [← hP, ← hQ]; exact F.f5
  have k6b : C0 176 [.d (.tuple [.int 0, .tuple [enc (Q, P)]])] = .ok (.d (enc (nrm (Tz q p) (8 * P))), [none]) := by
    rw [hc]; exact worth (n := 32) Tb f5 (by show P ≠ 0; omega) (by rw [← hP, ← hQ]; exact F.f6)
  have k6c : C0 437 [.d (.tuple [.int 0, .tuple [enc (Q, P)]])] = .ok (.d (enc (nrm (Tz q p) (4 * P * P))), [none]) := by
    rw [hc]; exact mean_worth (n := 32) Tb f5 (by show P ≠ 0; omega) (by rw [← hP, ← hQ]; exact F.f7)
  have k7a : C0 72 [.d (enc (1, 2)), .d (enc (nrm (Tz q p) (4 * P)))] = .ok (.d (enc (nrm (Tz q p) (8 * P))), [none, none]) := by rw [hc]; exact law_times (n := 36) (by rw [← hP]; exact F.f4)
  have k7 : C0 44 [.o [enc (nrm (Tz q p) (4 * P * P)), enc (nrm (Tz q p) (4 * P * P)), enc (nrm (Tz q p) (4 * P)), enc (nrm (Tz q p) (8 * P)), enc (nrm (Tz q p) (8 * P)), enc (nrm (Tz q p) (4 * P * P))], .d (.list [enc (nrm (Tz q p) (4 * P * P)), enc (nrm (Tz q p) (4 * P * P)), enc (nrm (Tz q p) (4 * P)), enc (nrm (Tz q p) (8 * P)), enc (nrm (Tz q p) (8 * P)), enc (nrm (Tz q p) (4 * P * P))])] = .ok (.d (.bool true), [some (.d (.list [enc (nrm (Tz q p) (4 * P * P)), enc (nrm (Tz q p) (4 * P * P)), enc (nrm (Tz q p) (4 * P)), enc (nrm (Tz q p) (8 * P)), enc (nrm (Tz q p) (8 * P)), enc (nrm (Tz q p) (4 * P * P))])), none]) := by
    rw [hc]; exact same_fqo (n := 36) [nrm (Tz q p) (4 * P * P), nrm (Tz q p) (4 * P * P), nrm (Tz q p) (4 * P), nrm (Tz q p) (8 * P), nrm (Tz q p) (8 * P), nrm (Tz q p) (4 * P * P)] (by simp)
  have k8 : C0 480 [.d (enc (P, Q))] = .ok (.d (tupS (4 * P) (zl p q)), [none]) := by rw [hc]; exact lens_steps (n := 34) L hsteps
  have k9 : C0 48 [.d (tupS (4 * P) (zl p q))] = .ok (.d (enc (nrm (Tz q p) (4 * P))), [none]) := by rw [hc]; exact law_total (n := 35) rfl ltot
  have hq0 : ¬ Q = 0 := by omega
  have k10 : C0 400 [.d (.int (P.fmod Q)), .d (.int Q)] = .ok (.d (enc (nrm (Tz (p % q) q) (4 * Q * Q))), [none, none]) := by
    rw [hc, hm0]
    have hlt : p % q < q := Nat.mod_lt _ (by omega)
    exact law_saw (n := 36) (by omega) (by omega) (by omega) (by omega) (by rw [show teeth ((p % q : Nat) : Int) Q (upto Q) 0 = Tz (p % q) q by rw [← hQ]; exact teeth_Tz _ q]; exact mLow_nrm (by omega) (by omega))
  have k11a : C0 47 [.d (enc (nrm (Tz q p) (4 * P * P))), .d (enc (nrm (Tz (p % q) q) (4 * Q * Q)))] = .ok (.d (enc (nrm (Q * Q + P * P + 1 - 3 * Q * P) (12 * Q * P))), [none, none]) := by rw [hc]; exact law_plus (n := 36) (by rw [← hP, ← hQ]; exact F.f8)
  have k11b : C0 371 [.d (.int P), .d (.int Q)] = .ok (.d (enc (nrm (Tz (p % q) q) (4 * Q * Q))), [none, none]) := by rw [hc]; exact saw (n := 35) (by omega) (by omega) (by omega) (by omega) Lg (by rw [← hP, ← hQ]; exact F.f9)
  have k11c : C0 481 [.d (.int Q), .d (.int P)] = .ok (.d (enc (nrm (Q * Q + P * P + 1 - 3 * Q * P) (12 * Q * P))), [none, none]) := by
    rw [hc]; exact saw_exchange (n := 35) (by omega) (by omega) (by omega) (by omega) gcd1 (low_nrm (by omega) (by omega))
  have k11 : C0 44 [.d (.list [enc (nrm (Q * Q + P * P + 1 - 3 * Q * P) (12 * Q * P)), enc (nrm (Tz (p % q) q) (4 * Q * Q))]), .d (.list [enc (nrm (Q * Q + P * P + 1 - 3 * Q * P) (12 * Q * P)), enc (nrm (Tz (p % q) q) (4 * Q * Q))])] = .ok (.d (.bool true), [none, none]) := by
    rw [hc]; exact same_fq (n := 36) [nrm (Q * Q + P * P + 1 - 3 * Q * P) (12 * Q * P), nrm (Tz (p % q) q) (4 * Q * Q)] (by simp)
  have D0 : 0 < 4 * P := by omega
  have D1 : 4 * P < 1000000000 := by omega
  have hord : mOrder [] ((zl p q).map (st (4 * P))) = some ((nOrd [] (zl p q)).map (st (4 * P))) := mOrder_st D0 D1 (zl p q) []
  have hordR : mOrder [] ((zl p (p - q)).map (st (4 * P))) = some ((nOrd [] (zl p (p - q))).map (st (4 * P))) := mOrder_st D0 D1 (zl p (p - q)) []
  have k12a : C0 403 [.d (enc (P, Q))] = .ok (.d (tupS (4 * P) (nOrd [] (zl p q))), [none]) := by rw [hc]; exact steps_in_order (n := 34) L hsteps hord
  have k12b : C0 453 [.d (enc (P, Q))] = .ok (.d (enc (P, R)), [none]) := by rw [hc, ← hneg]; exact lens_mirrored (n := 35) L
  have k13 : C0 403 [.d (enc (P, R))] = .ok (.d (tupS (4 * P) (nOrd [] (zl p (p - q)))), [none]) := by rw [hc]; exact steps_in_order (n := 34) L' hstepsR hordR
  have E1 := ends_z (q := q) h1
  have E2 := ends_z (q := p - q) h1
  have i0 : ixD (tupS (4 * P) (nOrd [] (zl p (p - q)))) (.int 0) = .ok (.d (enc (st (4 * P) (lMin (zl p (p - q)))))) := ix_at (i := 0) (by rw [List.getElem?_map, E2.hd]; rfl)
  have i1 : ixD (tupS (4 * P) (nOrd [] (zl p (p - q)))) (.int (-1)) = .ok (.d (enc (st (4 * P) (lMax (zl p (p - q)))))) := ix_last (by rw [List.length_map, List.getElem?_map, E2.lt]; rfl)
  have j0 : ixD (tupS (4 * P) (nOrd [] (zl p q))) (.int 0) = .ok (.d (enc (st (4 * P) (lMin (zl p q))))) := ix_at (i := 0) (by rw [List.getElem?_map, E1.hd]; rfl)
  have j1 : ixD (tupS (4 * P) (nOrd [] (zl p q))) (.int (-1)) = .ok (.d (enc (st (4 * P) (lMax (zl p q))))) := ix_last (by rw [List.length_map, List.getElem?_map, E1.lt]; rfl)
  have f12 : lTimes (-1, 2) (nrm (Tz q p) (4 * P)) = some (nrm (-(Tz q p)) (8 * P)) := by rw [← hP]; exact F.f12
  have k14a : C0 401 [.d (enc (P, R))] = .ok (.d (enc (nrm (-(Tz q p)) (8 * P))), [none]) := by
    rw [hc]; exact lens_worth (n := 34) L' (by rw [← hP, ← hR, show ((p - q : Nat) : Int) = (p : Int) - q by omega]; exact F.f10) (by rw [← hP]; exact F.f11)
  have k14b : C0 72 [.d (enc (-1, 2)), .d (enc (nrm (Tz q p) (4 * P)))] = .ok (.d (enc (nrm (-(Tz q p)) (8 * P))), [none, none]) := by rw [hc]; exact law_times (n := 36) f12
  have n0 := st_neg (D := 4 * P) D0 F.m1
  have n1 := st_neg (D := 4 * P) D0 F.m2
  have k14 : C0 44 [.d (.list [enc (st (4 * P) (lMin (zl p (p - q)))), enc (st (4 * P) (lMax (zl p (p - q)))), enc (nrm (-(Tz q p)) (8 * P))]), .d (.list [enc (-(st (4 * P) (lMax (zl p q))).1, (st (4 * P) (lMax (zl p q))).2), enc (-(st (4 * P) (lMin (zl p q))).1, (st (4 * P) (lMin (zl p q))).2), enc (nrm (-(Tz q p)) (8 * P))])] = .ok (.d (.bool true), [none, none]) := by
    rw [← n0, ← n1, hc]; exact same_fq (n := 36) [st (4 * P) (lMin (zl p (p - q))), st (4 * P) (lMax (zl p (p - q))), nrm (-(Tz q p)) (8 * P)] (by simp)
  have s15 : ∀ e : SEnv, getE e 4 = some (.d (enc (P, Q))) → getE e 10 = some (.d (tupS (4 * P) (nOrd [] (zl p (p - q))))) → getE e 11 = some (.d (tupS (4 * P) (nOrd [] (zl p q)))) → evS (Cc C0) 1 nk L15 e = .ok (.nx e) := by
    intro e h4 h10 h11
    obtain ⟨o1, o2, m1, m2, ow⟩ := F.ow
    rw [hP, hQ] at m1
    rw [hP, hQ, show P - Q = (-Q).fmod P by rw [hneg]; omega] at m2
    have k482 : C0 482 [.d (enc (P, Q))] = .ok (.d (.bool (decide (o1 = o2))), [none]) := by rw [hc]; exact is_own_mirror (n := 35) L m1 m2
    by_cases ho : o1 = o2
    · obtain ⟨w1, w2⟩ := ow ho
      have e1 : nrm (Tz q p) (8 * P) = (0, 1) := by rw [w1]; exact nrm_zero (by omega)
      have e2 : nrm (Tz q p) (4 * P) = (0, 1) := by rw [w1]; exact nrm_zero (by omega)
      have k15 : C0 44 [.d (.list [enc (0, 1), enc (0, 1), (tupS (4 * P) (nOrd [] (zl p (p - q))))]), .d (.list [enc (0, 1), enc (0, 1), (tupS (4 * P) (nOrd [] (zl p q)))])] = .ok (.d (.bool true), [none, none]) := by
        rw [hc, ← w2]
        refine same 3 35 _ ⟨by simp [sizeMax], fun y hy => ?_⟩
        simp only [List.mem_cons, List.not_mem_nil, or_false] at hy
        rcases hy with rfl | rfl | rfl
        · exact same_enc 1 _
        · exact same_enc 1 _
        · refine ⟨?_, fun z hz => ?_⟩
          · rw [w2]
            have := mOrder_len hordR
            simp only [List.length_map, zl_len, List.length_nil] at this ⊢
            unfold sizeMax
            omega
          · obtain ⟨z', _, rfl⟩ := List.mem_map.1 hz
            exact same_enc 0 _
      rw [e1] at k6a
      rw [e2] at k5c
      simp [evF, evSs, evS, evE, evA, evO, evAnd, evOr, evTs, ar, itr, getE, setE, rd1, rdB, rdF, rdC, rdP, rdX, app1, app2, post, binD, bltD, slD, revD, isiD, isTys, isTy, negD, walkB, isWalk, bindS, bindP, bindPs, bindSs, retV, avOf, noErr, grd, opt, frz, truth, outs, lent, Res.bind, sizeMax, seqOf, notS, fin, back, backL, lost, setAt, appAt, augAt, popAt, Ev.itemOf, slots, slotsL, wipeE, putBack, hidOf, h4, h10, h11, k482, ho, k6a, k5c, tupE, k15]
    · simp [evF, evSs, evS, evE, evA, evO, evAnd, evOr, evTs, ar, itr, getE, setE, rd1, rdB, rdF, rdC, rdP, rdX, app1, app2, post, binD, bltD, slD, revD, isiD, isTys, isTy, negD, walkB, isWalk, bindS, bindP, bindPs, bindSs, retV, avOf, noErr, grd, opt, frz, truth, outs, lent, Res.bind, sizeMax, seqOf, notS, fin, back, backL, lost, setAt, appAt, augAt, popAt, Ev.itemOf, slots, slotsL, wipeE, putBack, hidOf, h4, k482, ho]
  have g16 : mulOk (P - 1) (P - 2) = true := mul_l (by omega) (by omega)
  have g16b : mulOk 12 P = true := mul_l (by decide) (by decide)
  have k16a : C0 371 [.d (.int 1), .d (.int P)] = .ok (.d (enc (nrm ((P - 1) * (P - 2)) (12 * P))), [none, none]) := by
    rw [hc]; exact saw (n := 35) (by decide) (by decide) (by omega) (by omega) (by simp) (by rw [← hP]; exact F.f13)
  have k16b : C0 46 [.d (.int ((P - 1) * (P - 2))), .d (.int (12 * P))] = .ok (.d (enc (nrm ((P - 1) * (P - 2)) (12 * P))), [none, none]) := by rw [hc]; exact law_low (n := 37) (mLow_nrm (by omega) (by omega))
  have k16 : C0 44 [.d (enc (nrm ((P - 1) * (P - 2)) (12 * P))), .d (enc (nrm ((P - 1) * (P - 2)) (12 * P)))] = .ok (.d (.bool true), [none, none]) := by rw [hc]; exact same 1 37 _ (same_enc 0 _)
  have s17 : ∃ (a' c' : Int) (t13 t14 t15 t16 : Option Sl), evS (Cc C0) 1 nk L17 [S0, some (tinO a2 b c2), some (.d x), some (.d (.int P)), some (.d (enc (P, Q))), some (.d (enc (nrm (Tz q p) (4 * P * P)))), some (.d (enc (nrm (Tz q p) (4 * P)))), some (.d (.list [enc (nrm (Tz q p) (4 * P * P)), enc (nrm (Tz q p) (4 * P * P)), enc (nrm (Tz q p) (4 * P)), enc (nrm (Tz q p) (8 * P)), enc (nrm (Tz q p) (8 * P)), enc (nrm (Tz q p) (4 * P * P))])), some (.d (tupS (4 * P) (zl p q))), some (.d (enc (nrm (Tz (p % q) q) (4 * Q * Q)))), some (.d (tupS (4 * P) (nOrd [] (zl p (p - q))))), some (.d (tupS (4 * P) (nOrd [] (zl p q)))), some (.d (enc (P, R))), x13, x14, x15, x16] = .ok (.nx [S0, some (tinO a' b c'), some (.d x), some (.d (.int P)), some (.d (enc (P, Q))), some (.d (enc (nrm (Tz q p) (4 * P * P)))), some (.d (enc (nrm (Tz q p) (4 * P)))), some (.d (.list [enc (nrm (Tz q p) (4 * P * P)), enc (nrm (Tz q p) (4 * P * P)), enc (nrm (Tz q p) (4 * P)), enc (nrm (Tz q p) (8 * P)), enc (nrm (Tz q p) (8 * P)), enc (nrm (Tz q p) (4 * P * P))])), some (.d (tupS (4 * P) (zl p q))), some (.d (enc (nrm (Tz (p % q) q) (4 * Q * Q)))), some (.d (tupS (4 * P) (nOrd [] (zl p (p - q))))), some (.d (tupS (4 * P) (nOrd [] (zl p q)))), some (.d (enc (P, R))), t13, t14, t15, t16]) ∧ TinOk b c' (k + 7) := by
    by_cases hq : 1 < Q
    · have h3' : 2 ≤ q := by omega
      have hlt : p % q < q := Nat.mod_lt _ (by omega)
      have r0 : 1 ≤ p % q := by
        rcases Nat.eq_zero_or_pos (p % q) with z | z
        · exfalso
          have : q ∣ p := Nat.dvd_of_mod_eq_zero z
          have := Nat.gcd_eq_left this
          omega
        · exact z
      have gq : Nat.gcd (p % q) q = 1 := by rw [← Nat.gcd_rec]; exact g
      have F2 := facts h3' (by omega) r0 hlt gq
      have k480 : C0 480 [.d (enc (Q, P.fmod Q))] = .ok (.d (tupS (4 * Q) (zl q (p % q))), [none]) := by
        rw [hc, hm0, ← hQ]
        exact lens_steps (n := 34) (lens_of h3' (by omega) r0 hlt gq) (steps_z h3' (by omega) (by omega) F2.nz)
      have hrl : (intR 0 P.toNat).length ≤ 100000 := by simp [intR]; omega
      obtain ⟨a', c', f, kp, T3, hf⟩ := pick (n := 37) (a := a2) (l := intR 0 P.toNat) (m := 5) T2 (by omega) (by decide) hrl
      rw [show callN Tr.P (37 + 2) = C0 from hc.symm] at kp
      obtain ⟨t14, t15, t16, hl⟩ := inner hc hn h1 h2 h3' h4 g hP hQ S0 (some (tinO a' b c')) (some (.d x)) (some (.d (enc (nrm (Tz q p) (4 * P * P))))) (some (.d (enc (nrm (Tz q p) (4 * P))))) (some (.d (.list [enc (nrm (Tz q p) (4 * P * P)), enc (nrm (Tz q p) (4 * P * P)), enc (nrm (Tz q p) (4 * P)), enc (nrm (Tz q p) (8 * P)), enc (nrm (Tz q p) (8 * P)), enc (nrm (Tz q p) (4 * P * P))]))) (some (.d (enc (nrm (Tz (p % q) q) (4 * Q * Q))))) (some (.d (tupS (4 * P) (nOrd [] (zl p (p - q)))))) (some (.d (tupS (4 * P) (nOrd [] (zl p q))))) (some (.d (enc (P, R)))) f x14 x15 x16 fun y hy => by
        have := hf y hy
        unfold intR at this
        obtain ⟨i, hi, e⟩ := List.mem_map.1 this
        have hi' : i < P.toNat := List.mem_range.1 hi
        exact ⟨i, by omega, by rw [← e]; simp⟩
      refine ⟨a', c', some (.d (tupS (4 * Q) (zl q (p % q)))), t14, t15, t16, ?_, (show k + 1 + 1 + 5 = k + 7 by omega) ▸ T3⟩
      have t : evE (Cc C0) true (.cmp .gt (.ix (.v 4) (.c (.int 1))) (.c (.int 1))) [S0, some (tinO a2 b c2), some (.d x), some (.d (.int P)), some (.d (enc (P, Q))), some (.d (enc (nrm (Tz q p) (4 * P * P)))), some (.d (enc (nrm (Tz q p) (4 * P)))), some (.d (.list [enc (nrm (Tz q p) (4 * P * P)), enc (nrm (Tz q p) (4 * P * P)), enc (nrm (Tz q p) (4 * P)), enc (nrm (Tz q p) (8 * P)), enc (nrm (Tz q p) (8 * P)), enc (nrm (Tz q p) (4 * P * P))])), some (.d (tupS (4 * P) (zl p q))), some (.d (enc (nrm (Tz (p % q) q) (4 * Q * Q)))), some (.d (tupS (4 * P) (nOrd [] (zl p (p - q))))), some (.d (tupS (4 * P) (nOrd [] (zl p q)))), some (.d (enc (P, R))), x13, x14, x15, x16] = .ok (.d (.bool true), [S0, some (tinO a2 b c2), some (.d x), some (.d (.int P)), some (.d (enc (P, Q))), some (.d (enc (nrm (Tz q p) (4 * P * P)))), some (.d (enc (nrm (Tz q p) (4 * P)))), some (.d (.list [enc (nrm (Tz q p) (4 * P * P)), enc (nrm (Tz q p) (4 * P * P)), enc (nrm (Tz q p) (4 * P)), enc (nrm (Tz q p) (8 * P)), enc (nrm (Tz q p) (8 * P)), enc (nrm (Tz q p) (4 * P * P))])), some (.d (tupS (4 * P) (zl p q))), some (.d (enc (nrm (Tz (p % q) q) (4 * Q * Q)))), some (.d (tupS (4 * P) (nOrd [] (zl p (p - q))))), some (.d (tupS (4 * P) (nOrd [] (zl p q)))), some (.d (enc (P, R))), x13, x14, x15, x16]) := by
        simp [evF, evSs, evS, evE, evA, evO, evAnd, evOr, evTs, ar, itr, getE, setE, rd1, rdB, rdF, rdC, rdP, rdX, app1, app2, post, binD, bltD, slD, revD, isiD, isTys, isTy, negD, walkB, isWalk, bindS, bindP, bindPs, bindSs, retV, avOf, noErr, grd, opt, frz, truth, outs, lent, Res.bind, sizeMax, seqOf, notS, fin, back, backL, lost, setAt, appAt, augAt, popAt, Ev.itemOf, slots, slotsL, wipeE, putBack, hidOf, ixE1, cmpS_gt, hq]
      refine (evS_iff_t t).trans ?_
      refine (evSs_nx (e1 := [S0, some (tinO a2 b c2), some (.d x), some (.d (.int P)), some (.d (enc (P, Q))), some (.d (enc (nrm (Tz q p) (4 * P * P)))), some (.d (enc (nrm (Tz q p) (4 * P)))), some (.d (.list [enc (nrm (Tz q p) (4 * P * P)), enc (nrm (Tz q p) (4 * P * P)), enc (nrm (Tz q p) (4 * P)), enc (nrm (Tz q p) (8 * P)), enc (nrm (Tz q p) (8 * P)), enc (nrm (Tz q p) (4 * P * P))])), some (.d (tupS (4 * P) (zl p q))), some (.d (enc (nrm (Tz (p % q) q) (4 * Q * Q)))), some (.d (tupS (4 * P) (nOrd [] (zl p (p - q))))), some (.d (tupS (4 * P) (nOrd [] (zl p q)))), some (.d (enc (P, R))), some (.d (tupS (4 * Q) (zl q (p % q)))), x14, x15, x16]) ?_).trans ?_
      · simp [evF, evSs, evS, evE, evA, evO, evAnd, evOr, evTs, ar, itr, getE, setE, rd1, rdB, rdF, rdC, rdP, rdX, app1, app2, post, binD, bltD, slD, revD, isiD, isTys, isTy, negD, walkB, isWalk, bindS, bindP, bindPs, bindSs, retV, avOf, noErr, grd, opt, frz, truth, outs, lent, Res.bind, sizeMax, seqOf, notS, fin, back, backL, lost, setAt, appAt, augAt, popAt, Ev.itemOf, slots, slotsL, wipeE, putBack, hidOf, hn, ixE1, hq0, tupE, k480]
      refine (evSs_for (r := .o f) (l := f) (e1 := [S0, some (tinO a' b c'), some (.d x), some (.d (.int P)), some (.d (enc (P, Q))), some (.d (enc (nrm (Tz q p) (4 * P * P)))), some (.d (enc (nrm (Tz q p) (4 * P)))), some (.d (.list [enc (nrm (Tz q p) (4 * P * P)), enc (nrm (Tz q p) (4 * P * P)), enc (nrm (Tz q p) (4 * P)), enc (nrm (Tz q p) (8 * P)), enc (nrm (Tz q p) (8 * P)), enc (nrm (Tz q p) (4 * P * P))])), some (.d (tupS (4 * P) (zl p q))), some (.d (enc (nrm (Tz (p % q) q) (4 * Q * Q)))), some (.d (tupS (4 * P) (nOrd [] (zl p (p - q))))), some (.d (tupS (4 * P) (nOrd [] (zl p q)))), some (.d (enc (P, R))), some (.d (tupS (4 * Q) (zl q (p % q)))), x14, x15, x16]) ?_ rfl hl).trans rfl
      have hr : rngOk P = true := by simp [rngOk]; omega
      have hrl2 : P.toNat ≤ 16777216 := by omega
      have hil : (intR 0 P.toNat).length = P.toNat := by simp [intR]
      simp [evF, evSs, evS, evE, evA, evO, evAnd, evOr, evTs, ar, itr, getE, setE, rd1, rdB, rdF, rdC, rdP, rdX, app1, app2, post, binD, bltD, slD, revD, isiD, isTys, isTy, negD, walkB, isWalk, bindS, bindP, bindPs, bindSs, retV, avOf, noErr, grd, opt, frz, truth, outs, lent, Res.bind, sizeMax, seqOf, notS, fin, back, backL, lost, setAt, appAt, augAt, popAt, Ev.itemOf, slots, slotsL, wipeE, putBack, hidOf, rdF, hr, hil, hrl2, kp]
    · refine ⟨a2, c2, x13, x14, x15, x16, ?_, ⟨T2.b0, T2.b1, T2.c0, by have := T2.c1; omega⟩⟩
      simp [evF, evSs, evS, evE, evA, evO, evAnd, evOr, evTs, ar, itr, getE, setE, rd1, rdB, rdF, rdC, rdP, rdX, app1, app2, post, binD, bltD, slD, revD, isiD, isTys, isTy, negD, walkB, isWalk, bindS, bindP, bindPs, bindSs, retV, avOf, noErr, grd, opt, frz, truth, outs, lent, Res.bind, sizeMax, seqOf, notS, fin, back, backL, lost, setAt, appAt, augAt, popAt, Ev.itemOf, slots, slotsL, wipeE, putBack, hidOf, ixE1, cmpS_gt, hq]
  obtain ⟨a', c', t13, t14, t15, t16, s17, T'⟩ := s17
  refine ⟨a', c', some (.d x), some (.d (.int P)), some (.d (enc (P, Q))), some (.d (enc (nrm (Tz q p) (4 * P * P)))), some (.d (enc (nrm (Tz q p) (4 * P)))), some (.d (.list [enc (nrm (Tz q p) (4 * P * P)), enc (nrm (Tz q p) (4 * P * P)), enc (nrm (Tz q p) (4 * P)), enc (nrm (Tz q p) (8 * P)), enc (nrm (Tz q p) (8 * P)), enc (nrm (Tz q p) (4 * P * P))])), some (.d (tupS (4 * P) (zl p q))), some (.d (enc (nrm (Tz (p % q) q) (4 * Q * Q)))), some (.d (tupS (4 * P) (nOrd [] (zl p (p - q))))), some (.d (tupS (4 * P) (nOrd [] (zl p q)))), some (.d (enc (P, R))), t13, t14, t15, t16, ?_, T'⟩
  have bx : bindP nk (.n 2) x [S0, some (tinO a b c), x2, x3, x4, x5, x6, x7, x8, x9, x10, x11, x12, x13, x14, x15, x16] = .ok [S0, some (tinO a b c), some (.d x), x3, x4, x5, x6, x7, x8, x9, x10, x11, x12, x13, x14, x15, x16] := by simp [bindP, hn, setE]
  show ((bindP nk (.n 2) x [S0, some (tinO a b c), x2, x3, x4, x5, x6, x7, x8, x9, x10, x11, x12, x13, x14, x15, x16]).bind fun e2 => evSs (Cc C0) 1 nk lapB e2) = _
  rw [bx]
  show evSs (Cc C0) 1 nk lapB [S0, some (tinO a b c), some (.d x), x3, x4, x5, x6, x7, x8, x9, x10, x11, x12, x13, x14, x15, x16] = _
  refine (evSs_nx (e1 := [S0, some (tinO a1 b c1), some (.d x), some (.d (.int P)), x4, x5, x6, x7, x8, x9, x10, x11, x12, x13, x14, x15, x16]) ?_).trans ?_
  · simp [evF, evSs, evS, evE, evA, evO, evAnd, evOr, evTs, ar, itr, getE, setE, rd1, rdB, rdF, rdC, rdP, rdX, app1, app2, post, binD, bltD, slD, revD, isiD, isTys, isTy, negD, walkB, isWalk, bindS, bindP, bindPs, bindSs, retV, avOf, noErr, grd, opt, frz, truth, outs, lent, Res.bind, sizeMax, seqOf, notS, fin, back, backL, lost, setAt, appAt, augAt, popAt, Ev.itemOf, slots, slotsL, wipeE, putBack, hidOf, hn, k1, hPr]
  refine (evSs_nx (e1 := [S0, some (tinO a2 b c2), some (.d x), some (.d (.int P)), some (.d (enc (P, Q))), x5, x6, x7, x8, x9, x10, x11, x12, x13, x14, x15, x16]) ?_).trans ?_
  · simp [evF, evSs, evS, evE, evA, evO, evAnd, evOr, evTs, ar, itr, getE, setE, rd1, rdB, rdF, rdC, rdP, rdX, app1, app2, post, binD, bltD, slD, revD, isiD, isTys, isTy, negD, walkB, isWalk, bindS, bindP, bindPs, bindSs, retV, avOf, noErr, grd, opt, frz, truth, outs, lent, Res.bind, sizeMax, seqOf, notS, fin, back, backL, lost, setAt, appAt, augAt, popAt, Ev.itemOf, slots, slotsL, wipeE, putBack, hidOf, hn, u2, k2, tupE]
  refine (evSs_nx (e1 := [S0, some (tinO a2 b c2), some (.d x), some (.d (.int P)), some (.d (enc (P, Q))), some (.d (enc (nrm (Tz q p) (4 * P * P)))), x6, x7, x8, x9, x10, x11, x12, x13, x14, x15, x16]) ?_).trans ?_
  · simp [evF, evSs, evS, evE, evA, evO, evAnd, evOr, evTs, ar, itr, getE, setE, rd1, rdB, rdF, rdC, rdP, rdX, app1, app2, post, binD, bltD, slD, revD, isiD, isTys, isTy, negD, walkB, isWalk, bindS, bindP, bindPs, bindSs, retV, avOf, noErr, grd, opt, frz, truth, outs, lent, Res.bind, sizeMax, seqOf, notS, fin, back, backL, lost, setAt, appAt, augAt, popAt, Ev.itemOf, slots, slotsL, wipeE, putBack, hidOf, hn, ixE0, ixE1, k3]
  refine (evSs_nx (e1 := [S0, some (tinO a2 b c2), some (.d x), some (.d (.int P)), some (.d (enc (P, Q))), some (.d (enc (nrm (Tz q p) (4 * P * P)))), some (.d (enc (nrm (Tz q p) (4 * P)))), x7, x8, x9, x10, x11, x12, x13, x14, x15, x16]) ?_).trans ?_
  · simp [evF, evSs, evS, evE, evA, evO, evAnd, evOr, evTs, ar, itr, getE, setE, rd1, rdB, rdF, rdC, rdP, rdX, app1, app2, post, binD, bltD, slD, revD, isiD, isTys, isTy, negD, walkB, isWalk, bindS, bindP, bindPs, bindSs, retV, avOf, noErr, grd, opt, frz, truth, outs, lent, Res.bind, sizeMax, seqOf, notS, fin, back, backL, lost, setAt, appAt, augAt, popAt, Ev.itemOf, slots, slotsL, wipeE, putBack, hidOf, hn, tupE, k4]
  refine (evSs_nx (e1 := [S0, some (tinO a2 b c2), some (.d x), some (.d (.int P)), some (.d (enc (P, Q))), some (.d (enc (nrm (Tz q p) (4 * P * P)))), some (.d (enc (nrm (Tz q p) (4 * P)))), some (.o [enc (nrm (Tz q p) (4 * P * P)), enc (nrm (Tz q p) (4 * P * P)), enc (nrm (Tz q p) (4 * P))]), x8, x9, x10, x11, x12, x13, x14, x15, x16]) ?_).trans ?_
  · simp [evF, evSs, evS, evE, evA, evO, evAnd, evOr, evTs, ar, itr, getE, setE, rd1, rdB, rdF, rdC, rdP, rdX, app1, app2, post, binD, bltD, slD, revD, isiD, isTys, isTy, negD, walkB, isWalk, bindS, bindP, bindPs, bindSs, retV, avOf, noErr, grd, opt, frz, truth, outs, lent, Res.bind, sizeMax, seqOf, notS, fin, back, backL, lost, setAt, appAt, augAt, popAt, Ev.itemOf, slots, slotsL, wipeE, putBack, hidOf, hn, ixE0, ixE1, k5a, k5b, k5c]
  refine (evSs_nx (e1 := [S0, some (tinO a2 b c2), some (.d x), some (.d (.int P)), some (.d (enc (P, Q))), some (.d (enc (nrm (Tz q p) (4 * P * P)))), some (.d (enc (nrm (Tz q p) (4 * P)))), some (.o [enc (nrm (Tz q p) (4 * P * P)), enc (nrm (Tz q p) (4 * P * P)), enc (nrm (Tz q p) (4 * P)), enc (nrm (Tz q p) (8 * P)), enc (nrm (Tz q p) (8 * P)), enc (nrm (Tz q p) (4 * P * P))]), x8, x9, x10, x11, x12, x13, x14, x15, x16]) ?_).trans ?_
  · simp [evF, evSs, evS, evE, evA, evO, evAnd, evOr, evTs, ar, itr, getE, setE, rd1, rdB, rdF, rdC, rdP, rdX, app1, app2, post, binD, bltD, slD, revD, isiD, isTys, isTy, negD, walkB, isWalk, bindS, bindP, bindPs, bindSs, retV, avOf, noErr, grd, opt, frz, truth, outs, lent, Res.bind, sizeMax, seqOf, notS, fin, back, backL, lost, setAt, appAt, augAt, popAt, Ev.itemOf, slots, slotsL, wipeE, putBack, hidOf, hn, ixE0, ixE1, tupE, k6a, k6b, k6c]
  refine (evSs_nx (e1 := [S0, some (tinO a2 b c2), some (.d x), some (.d (.int P)), some (.d (enc (P, Q))), some (.d (enc (nrm (Tz q p) (4 * P * P)))), some (.d (enc (nrm (Tz q p) (4 * P)))), some (.d (.list [enc (nrm (Tz q p) (4 * P * P)), enc (nrm (Tz q p) (4 * P * P)), enc (nrm (Tz q p) (4 * P)), enc (nrm (Tz q p) (8 * P)), enc (nrm (Tz q p) (8 * P)), enc (nrm (Tz q p) (4 * P * P))])), x8, x9, x10, x11, x12, x13, x14, x15, x16]) ?_).trans ?_
  · simp [evF, evSs, evS, evE, evA, evO, evAnd, evOr, evTs, ar, itr, getE, setE, rd1, rdB, rdF, rdC, rdP, rdX, app1, app2, post, binD, bltD, slD, revD, isiD, isTys, isTy, negD, walkB, isWalk, bindS, bindP, bindPs, bindSs, retV, avOf, noErr, grd, opt, frz, truth, outs, lent, Res.bind, sizeMax, seqOf, notS, fin, back, backL, lost, setAt, appAt, augAt, popAt, Ev.itemOf, slots, slotsL, wipeE, putBack, hidOf, hn, ixE0, ixE1, tupE, k7a, k7]
  refine (evSs_nx (e1 := [S0, some (tinO a2 b c2), some (.d x), some (.d (.int P)), some (.d (enc (P, Q))), some (.d (enc (nrm (Tz q p) (4 * P * P)))), some (.d (enc (nrm (Tz q p) (4 * P)))), some (.d (.list [enc (nrm (Tz q p) (4 * P * P)), enc (nrm (Tz q p) (4 * P * P)), enc (nrm (Tz q p) (4 * P)), enc (nrm (Tz q p) (8 * P)), enc (nrm (Tz q p) (8 * P)), enc (nrm (Tz q p) (4 * P * P))])), some (.d (tupS (4 * P) (zl p q))), x9, x10, x11, x12, x13, x14, x15, x16]) ?_).trans ?_
  · simp [evF, evSs, evS, evE, evA, evO, evAnd, evOr, evTs, ar, itr, getE, setE, rd1, rdB, rdF, rdC, rdP, rdX, app1, app2, post, binD, bltD, slD, revD, isiD, isTys, isTy, negD, walkB, isWalk, bindS, bindP, bindPs, bindSs, retV, avOf, noErr, grd, opt, frz, truth, outs, lent, Res.bind, sizeMax, seqOf, notS, fin, back, backL, lost, setAt, appAt, augAt, popAt, Ev.itemOf, slots, slotsL, wipeE, putBack, hidOf, hn, k8]
  refine (evSs_nx (e1 := [S0, some (tinO a2 b c2), some (.d x), some (.d (.int P)), some (.d (enc (P, Q))), some (.d (enc (nrm (Tz q p) (4 * P * P)))), some (.d (enc (nrm (Tz q p) (4 * P)))), some (.d (.list [enc (nrm (Tz q p) (4 * P * P)), enc (nrm (Tz q p) (4 * P * P)), enc (nrm (Tz q p) (4 * P)), enc (nrm (Tz q p) (8 * P)), enc (nrm (Tz q p) (8 * P)), enc (nrm (Tz q p) (4 * P * P))])), some (.d (tupS (4 * P) (zl p q))), x9, x10, x11, x12, x13, x14, x15, x16]) ?_).trans ?_
  · simp [evF, evSs, evS, evE, evA, evO, evAnd, evOr, evTs, ar, itr, getE, setE, rd1, rdB, rdF, rdC, rdP, rdX, app1, app2, post, binD, bltD, slD, revD, isiD, isTys, isTy, negD, walkB, isWalk, bindS, bindP, bindPs, bindSs, retV, avOf, noErr, grd, opt, frz, truth, outs, lent, Res.bind, sizeMax, seqOf, notS, fin, back, backL, lost, setAt, appAt, augAt, popAt, Ev.itemOf, slots, slotsL, wipeE, putBack, hidOf, hn, k9, cmpS_ne_self]
  refine (evSs_nx (e1 := [S0, some (tinO a2 b c2), some (.d x), some (.d (.int P)), some (.d (enc (P, Q))), some (.d (enc (nrm (Tz q p) (4 * P * P)))), some (.d (enc (nrm (Tz q p) (4 * P)))), some (.d (.list [enc (nrm (Tz q p) (4 * P * P)), enc (nrm (Tz q p) (4 * P * P)), enc (nrm (Tz q p) (4 * P)), enc (nrm (Tz q p) (8 * P)), enc (nrm (Tz q p) (8 * P)), enc (nrm (Tz q p) (4 * P * P))])), some (.d (tupS (4 * P) (zl p q))), some (.d (enc (nrm (Tz (p % q) q) (4 * Q * Q)))), x10, x11, x12, x13, x14, x15, x16]) ?_).trans ?_
  · simp [evF, evSs, evS, evE, evA, evO, evAnd, evOr, evTs, ar, itr, getE, setE, rd1, rdB, rdF, rdC, rdP, rdX, app1, app2, post, binD, bltD, slD, revD, isiD, isTys, isTy, negD, walkB, isWalk, bindS, bindP, bindPs, bindSs, retV, avOf, noErr, grd, opt, frz, truth, outs, lent, Res.bind, sizeMax, seqOf, notS, fin, back, backL, lost, setAt, appAt, augAt, popAt, Ev.itemOf, slots, slotsL, wipeE, putBack, hidOf, hn, ixE0, ixE1, hq0, k10]
  refine (evSs_nx (e1 := [S0, some (tinO a2 b c2), some (.d x), some (.d (.int P)), some (.d (enc (P, Q))), some (.d (enc (nrm (Tz q p) (4 * P * P)))), some (.d (enc (nrm (Tz q p) (4 * P)))), some (.d (.list [enc (nrm (Tz q p) (4 * P * P)), enc (nrm (Tz q p) (4 * P * P)), enc (nrm (Tz q p) (4 * P)), enc (nrm (Tz q p) (8 * P)), enc (nrm (Tz q p) (8 * P)), enc (nrm (Tz q p) (4 * P * P))])), some (.d (tupS (4 * P) (zl p q))), some (.d (enc (nrm (Tz (p % q) q) (4 * Q * Q)))), x10, x11, x12, x13, x14, x15, x16]) ?_).trans ?_
  · simp [evF, evSs, evS, evE, evA, evO, evAnd, evOr, evTs, ar, itr, getE, setE, rd1, rdB, rdF, rdC, rdP, rdX, app1, app2, post, binD, bltD, slD, revD, isiD, isTys, isTy, negD, walkB, isWalk, bindS, bindP, bindPs, bindSs, retV, avOf, noErr, grd, opt, frz, truth, outs, lent, Res.bind, sizeMax, seqOf, notS, fin, back, backL, lost, setAt, appAt, augAt, popAt, Ev.itemOf, slots, slotsL, wipeE, putBack, hidOf, hn, ixE0, ixE1, k11a, k11b, k11c, k11]
  refine (evSs_nx (e1 := [S0, some (tinO a2 b c2), some (.d x), some (.d (.int P)), some (.d (enc (P, Q))), some (.d (enc (nrm (Tz q p) (4 * P * P)))), some (.d (enc (nrm (Tz q p) (4 * P)))), some (.d (.list [enc (nrm (Tz q p) (4 * P * P)), enc (nrm (Tz q p) (4 * P * P)), enc (nrm (Tz q p) (4 * P)), enc (nrm (Tz q p) (8 * P)), enc (nrm (Tz q p) (8 * P)), enc (nrm (Tz q p) (4 * P * P))])), some (.d (tupS (4 * P) (zl p q))), some (.d (enc (nrm (Tz (p % q) q) (4 * Q * Q)))), x10, some (.d (tupS (4 * P) (nOrd [] (zl p q)))), some (.d (enc (P, R))), x13, x14, x15, x16]) ?_).trans ?_
  · simp [evF, evSs, evS, evE, evA, evO, evAnd, evOr, evTs, ar, itr, getE, setE, rd1, rdB, rdF, rdC, rdP, rdX, app1, app2, post, binD, bltD, slD, revD, isiD, isTys, isTy, negD, walkB, isWalk, bindS, bindP, bindPs, bindSs, retV, avOf, noErr, grd, opt, frz, truth, outs, lent, Res.bind, sizeMax, seqOf, notS, fin, back, backL, lost, setAt, appAt, augAt, popAt, Ev.itemOf, slots, slotsL, wipeE, putBack, hidOf, hn, rdP, k12a, k12b]
  refine (evSs_nx (e1 := [S0, some (tinO a2 b c2), some (.d x), some (.d (.int P)), some (.d (enc (P, Q))), some (.d (enc (nrm (Tz q p) (4 * P * P)))), some (.d (enc (nrm (Tz q p) (4 * P)))), some (.d (.list [enc (nrm (Tz q p) (4 * P * P)), enc (nrm (Tz q p) (4 * P * P)), enc (nrm (Tz q p) (4 * P)), enc (nrm (Tz q p) (8 * P)), enc (nrm (Tz q p) (8 * P)), enc (nrm (Tz q p) (4 * P * P))])), some (.d (tupS (4 * P) (zl p q))), some (.d (enc (nrm (Tz (p % q) q) (4 * Q * Q)))), some (.d (tupS (4 * P) (nOrd [] (zl p (p - q))))), some (.d (tupS (4 * P) (nOrd [] (zl p q)))), some (.d (enc (P, R))), x13, x14, x15, x16]) ?_).trans ?_
  · simp [evF, evSs, evS, evE, evA, evO, evAnd, evOr, evTs, ar, itr, getE, setE, rd1, rdB, rdF, rdC, rdP, rdX, app1, app2, post, binD, bltD, slD, revD, isiD, isTys, isTy, negD, walkB, isWalk, bindS, bindP, bindPs, bindSs, retV, avOf, noErr, grd, opt, frz, truth, outs, lent, Res.bind, sizeMax, seqOf, notS, fin, back, backL, lost, setAt, appAt, augAt, popAt, Ev.itemOf, slots, slotsL, wipeE, putBack, hidOf, hn, k13]
  refine (evSs_nx (e1 := [S0, some (tinO a2 b c2), some (.d x), some (.d (.int P)), some (.d (enc (P, Q))), some (.d (enc (nrm (Tz q p) (4 * P * P)))), some (.d (enc (nrm (Tz q p) (4 * P)))), some (.d (.list [enc (nrm (Tz q p) (4 * P * P)), enc (nrm (Tz q p) (4 * P * P)), enc (nrm (Tz q p) (4 * P)), enc (nrm (Tz q p) (8 * P)), enc (nrm (Tz q p) (8 * P)), enc (nrm (Tz q p) (4 * P * P))])), some (.d (tupS (4 * P) (zl p q))), some (.d (enc (nrm (Tz (p % q) q) (4 * Q * Q)))), some (.d (tupS (4 * P) (nOrd [] (zl p (p - q))))), some (.d (tupS (4 * P) (nOrd [] (zl p q)))), some (.d (enc (P, R))), x13, x14, x15, x16]) ?_).trans ?_
  · simp [evF, evSs, evS, evE, evA, evO, evAnd, evOr, evTs, ar, itr, getE, setE, rd1, rdB, rdF, rdC, rdP, rdX, app1, app2, post, binD, bltD, slD, revD, isiD, isTys, isTy, negD, walkB, isWalk, bindS, bindP, bindPs, bindSs, retV, avOf, noErr, grd, opt, frz, truth, outs, lent, Res.bind, sizeMax, seqOf, notS, fin, back, backL, lost, setAt, appAt, augAt, popAt, Ev.itemOf, slots, slotsL, wipeE, putBack, hidOf, hn, ixE0, ixE1, tupE, i0, i1, j0, j1, k14a, k14b, k14]
  refine (evSs_nx (e1 := [S0, some (tinO a2 b c2), some (.d x), some (.d (.int P)), some (.d (enc (P, Q))), some (.d (enc (nrm (Tz q p) (4 * P * P)))), some (.d (enc (nrm (Tz q p) (4 * P)))), some (.d (.list [enc (nrm (Tz q p) (4 * P * P)), enc (nrm (Tz q p) (4 * P * P)), enc (nrm (Tz q p) (4 * P)), enc (nrm (Tz q p) (8 * P)), enc (nrm (Tz q p) (8 * P)), enc (nrm (Tz q p) (4 * P * P))])), some (.d (tupS (4 * P) (zl p q))), some (.d (enc (nrm (Tz (p % q) q) (4 * Q * Q)))), some (.d (tupS (4 * P) (nOrd [] (zl p (p - q))))), some (.d (tupS (4 * P) (nOrd [] (zl p q)))), some (.d (enc (P, R))), x13, x14, x15, x16]) ?_).trans ?_
  · exact s15 [S0, some (tinO a2 b c2), some (.d x), some (.d (.int P)), some (.d (enc (P, Q))), some (.d (enc (nrm (Tz q p) (4 * P * P)))), some (.d (enc (nrm (Tz q p) (4 * P)))), some (.d (.list [enc (nrm (Tz q p) (4 * P * P)), enc (nrm (Tz q p) (4 * P * P)), enc (nrm (Tz q p) (4 * P)), enc (nrm (Tz q p) (8 * P)), enc (nrm (Tz q p) (8 * P)), enc (nrm (Tz q p) (4 * P * P))])), some (.d (tupS (4 * P) (zl p q))), some (.d (enc (nrm (Tz (p % q) q) (4 * Q * Q)))), some (.d (tupS (4 * P) (nOrd [] (zl p (p - q))))), some (.d (tupS (4 * P) (nOrd [] (zl p q)))), some (.d (enc (P, R))), x13, x14, x15, x16] rfl rfl rfl
  refine (evSs_nx (e1 := [S0, some (tinO a2 b c2), some (.d x), some (.d (.int P)), some (.d (enc (P, Q))), some (.d (enc (nrm (Tz q p) (4 * P * P)))), some (.d (enc (nrm (Tz q p) (4 * P)))), some (.d (.list [enc (nrm (Tz q p) (4 * P * P)), enc (nrm (Tz q p) (4 * P * P)), enc (nrm (Tz q p) (4 * P)), enc (nrm (Tz q p) (8 * P)), enc (nrm (Tz q p) (8 * P)), enc (nrm (Tz q p) (4 * P * P))])), some (.d (tupS (4 * P) (zl p q))), some (.d (enc (nrm (Tz (p % q) q) (4 * Q * Q)))), some (.d (tupS (4 * P) (nOrd [] (zl p (p - q))))), some (.d (tupS (4 * P) (nOrd [] (zl p q)))), some (.d (enc (P, R))), x13, x14, x15, x16]) ?_).trans ?_
  · simp [evF, evSs, evS, evE, evA, evO, evAnd, evOr, evTs, ar, itr, getE, setE, rd1, rdB, rdF, rdC, rdP, rdX, app1, app2, post, binD, bltD, slD, revD, isiD, isTys, isTy, negD, walkB, isWalk, bindS, bindP, bindPs, bindSs, retV, avOf, noErr, grd, opt, frz, truth, outs, lent, Res.bind, sizeMax, seqOf, notS, fin, back, backL, lost, setAt, appAt, augAt, popAt, Ev.itemOf, slots, slotsL, wipeE, putBack, hidOf, hn, g16, g16b, k16a, k16b, k16]
  exact (evSs_nx s17).trans rfl
end M

set_option Elab.async false
set_option linter.all false
set_option maxRecDepth 100000
set_option maxHeartbeats 4000000
/-! PyL61r: the law. -/
namespace M
open PySem Ev
theorem laps61 {C0 : Nat → List Sl → Res (Sl × List (Option Sl))} (hc : C0 = callN Tr.P 39) {nk : Nat → Bool} (hn : ∀ i, nk i = false) (S0 : Option Sl) : ∀ (xs : List D) (a b c k : Int) (T : TinOk b c k) (hk : k + 7 * xs.length ≤ 900) (x2 x3 x4 x5 x6 x7 x8 x9 x10 x11 x12 x13 x14 x15 x16 : Option Sl),
    ∃ e', forL (lpc C0 1 nk (.n 2) lapB) xs [S0, some (tinO a b c), x2, x3, x4, x5, x6, x7, x8, x9, x10, x11, x12, x13, x14, x15, x16] = .ok (.nx e')
  | [], a, b, c, k, T, hk, x2, x3, x4, x5, x6, x7, x8, x9, x10, x11, x12, x13, x14, x15, x16 => ⟨_, rfl⟩
  | x :: xs, a, b, c, k, T, hk, x2, x3, x4, x5, x6, x7, x8, x9, x10, x11, x12, x13, x14, x15, x16 => by
    simp only [List.length_cons] at hk
    obtain ⟨a', c', y2, y3, y4, y5, y6, y7, y8, y9, y10, y11, y12, y13, y14, y15, y16, e, T'⟩ := lap61 hc hn S0 x (a := a) T (by omega) x2 x3 x4 x5 x6 x7 x8 x9 x10 x11 x12 x13 x14 x15 x16
    obtain ⟨e', q⟩ := laps61 hc hn S0 xs a' b c' (k + 7) T' (by omega) y2 y3 y4 y5 y6 y7 y8 y9 y10 y11 y12 y13 y14 y15 y16
    exact ⟨e', (forL_nx e).trans q⟩
theorem law61 (ns : List Int) (h : ns.length ≤ 63) : ∃ o, callN Tr.P 40 506 [.d (.list (ns.map .int))] = .ok (.d (.bool true), o) := by
  obtain ⟨C0, hc⟩ : ∃ C0, C0 = callN Tr.P 39 := ⟨_, rfl⟩
  obtain ⟨x, kx⟩ := cells (n := 38) ns h
  obtain ⟨a, b, kb, T⟩ := box (n := 38) x
  have hn : ∀ i, lent [.d (.list (ns.map .int))] i = false := fun i => by
    cases i <;> rfl
  rw [show callN Tr.P (38 + 1) = C0 from hc.symm] at kx kb
  obtain ⟨e', q⟩ := laps61 hc hn (some (.d (.list (ns.map .int)))) (intR 0 6) a b 0 0 T (by simp [intR]) none none none none none none none none none none none none none none none
  refine ⟨outs e' 0 [.d (.list (ns.map .int))], ?_⟩
  rw [call_eq 39 506 _ Tr.f506 rfl, ← hc]
  refine evF_rt rfl (e := e') ?_
  refine (evSs_nx (e1 := [some (.d (.list (ns.map .int))), some (tinO a b 0), none, none, none, none, none, none, none, none, none, none, none, none, none, none, none]) ?_).trans ?_
  · simp [evF, evSs, evS, evE, evA, evO, evAnd, evOr, evTs, ar, itr, getE, setE, rd1, rdB, rdF, rdC, rdP, rdX, app1, app2, post, binD, cmpS, cmpD, bltD, ixD, slD, revD, isiD, isTys, isTy, negD, walkB, isWalk, bindS, bindP, bindPs, bindSs, retV, avOf, noErr, grd, opt, frz, truth, outs, lent, Res.bind, sizeMax, seqOf, notS, fin, back, backL, lost, setAt, appAt, augAt, popAt, Ev.itemOf, slots, slotsL, wipeE, putBack, hidOf, kx, kb]
    rfl
  refine (evSs_for (r := .o (intR 0 6)) (l := intR 0 6) ?_ rfl q).trans ?_
  · simp [evF, evSs, evS, evE, evA, evO, evAnd, evOr, evTs, ar, itr, getE, setE, rd1, rdB, rdF, rdC, rdP, rdX, app1, app2, post, binD, cmpS, cmpD, bltD, ixD, slD, revD, isiD, isTys, isTy, negD, walkB, isWalk, bindS, bindP, bindPs, bindSs, retV, avOf, noErr, grd, opt, frz, truth, outs, lent, Res.bind, sizeMax, seqOf, notS, fin, back, backL, lost, setAt, appAt, augAt, popAt, Ev.itemOf, slots, slotsL, wipeE, putBack, hidOf, show rngOk 6 = true from rfl]
  rfl
end M

theorem PySem.Challenge.cw_tubedrooms_k61_main_saws_steps_and_worth_holds : PySem.Challenge.rw_tubedrooms_k61_main_saws_steps_and_worth.Holds := by
  exact K61.holds M.law61
