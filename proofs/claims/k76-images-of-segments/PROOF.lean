import PyProof.Rows.All
import HandS.ForMost
import HandS.Wide
import HandS.Gcd
import HandS.Deep
import HandS.IsInst
import HandS.TupAny
import HandS.NoneIn
import PySem.Challenge.RW_planelaidout_k76_images_of_segments
set_option Elab.async false
set_option linter.all false
set_option maxRecDepth 100000
-- MiA
/-! A small evaluator over plain data, for defs that build and read data. Definitions. -/
namespace MI
open PySem PySem.Spec L2

abbrev D := PyData
/-- what a slot holds: data; a list of the small heap; the script -/
inductive W where
  | d (x : D) | c (n : Nat) | s (xs : List Int)
structure Cell where
  fz : Bool
  xs : List D
abbrev MH := List Cell
abbrev En := List (Option W)

def bnd {α β : Type} (o : Option (α × MH)) (f : α → MH → Option β) : Option β :=
  match o with
  | some (a, m) => f a m
  | none => none
theorem bnd_some {α β : Type} {a : α} {m : MH} {f : α → MH → Option β} : bnd (some (a, m)) f = f a m := (rfl)
theorem bnd_none {α β : Type} {f : α → MH → Option β} : bnd none f = none := rfl
theorem bnd_inv {α β : Type} {o : Option (α × MH)} {f : α → MH → Option β} {r : β} (h : bnd o f = some r) : ∃ a m, o = some (a, m) ∧ f a m = some r := by
  cases o with
  | none => cases h
  | some p => exact ⟨p.1, p.2, rfl, h⟩

/-! ### equality of data, as it is written -/
mutual
def eqD : D → D → Bool
  | .none, .none => true
  | .bool a, .bool b => a == b
  | .int i, .int j => decide (i = j)
  | .str x, .str y => decide (x = y)
  | .list xs, .list ys => eqDs xs ys
  | .tuple xs, .tuple ys => eqDs xs ys
  | _, _ => false
def eqDs : List D → List D → Bool
  | [], [] => true
  | x :: xs, y :: ys => eqD x y && eqDs xs ys
  | _, _ => false
end

inductive Bop where
  | add | sub | mul | fdiv | mod | pow | shl | shr | band | bxor
  deriving DecidableEq
inductive Cop where
  | eq | ne | lt | le | gt | ge | is | isnot | inn | nin
  deriving DecidableEq
inductive Bi where
  | len | int | abs | max | min | list | tuple | sum | any | all | gcd | range
  deriving DecidableEq
inductive Ty where
  | int | bool | str | list | tuple
  deriving DecidableEq
inductive Me where
  | append | pop | reverse | extend
  deriving DecidableEq

mutual
inductive E where
  | var (i : Nat)
  | cst (d : D)
  | bop (live : Bool) (op : Bop) (a b : E)
  | neg (a : E)
  | not (a : E)
  | boo (isAnd : Bool) (es : Es)
  | cmp (op : Cop) (a b : E)
  | chain (op op' : Cop) (a b c : E)
  | ite (c a b : E)
  | call (f : Nat) (es : Es)
  | bi (b : Bi) (live : Bool) (es : Es)
  | isi (e : E) (tys : List Ty)
  | ix (a i : E)
  | sl (live : Bool) (a : E) (lo hi : Eo)
  | tup (es : Es)
  | lst (live : Bool) (es : Es)
  | comp (live : Bool) (elt : E) (tg : Tg) (it : It) (c : Eo) (own : List (Str × Nat))
  | meth (m : Me) (o : E) (es : Es)
inductive Es where
  | nil
  | cons (e : E) (r : Es)
inductive Eo where
  | none
  | some (e : E)
inductive It where
  | val (e : E)
  | rng1 (e : E)
  | rng2 (a b : E)
inductive Tg where
  | name (i : Nat)
  | tup (ts : Tgs)
  | sub (o i : E)
inductive Tgs where
  | nil
  | cons (t : Tg) (r : Tgs)
end
mutual
inductive S where
  | asg (t : Tg) (e : E)
  | par (i j : Nat) (a b : E)
  | aug (i : Nat) (op : Bop) (e : E)
  | expr (e : E)
  | iff (c : E) (a b : Ss)
  | forr (t : Tg) (it : It) (b : Ss)
  | whil (fuel : Nat) (c : E) (b : Ss)
  | ret (e : E)
  | retN
  | brk
  | cont
  | pass
inductive Ss where
  | nil
  | cons (s : S) (r : Ss)
end

inductive Out where
  | next (env : En) (μ : MH)
  | ret (w : W) (μ : MH)
  | brk (env : En) (μ : MH)
  | cont (env : En) (μ : MH)

/-! ### values -/
/-- a list's or a tuple's items -/
def seqW : W → MH → Option (Bool × List D)
  | .d (.list xs), _ => some (false, xs)
  | .d (.tuple xs), _ => some (true, xs)
  | .c n, μ => match μ[n]? with
    | some c => some (false, c.xs)
    | none => none
  | _, _ => none
/-- as data, the cell is as it was -/
def peek : W → MH → Option D
  | .d x, _ => some x
  | .c n, μ => match μ[n]? with
    | some c => some (.list c.xs)
    | none => none
  | .s _, _ => none
/-- as data, the cell is frozen -/
def toD : W → MH → Option (D × MH)
  | .d x, μ => some (x, μ)
  | .c n, μ => match μ[n]? with
    | some c => some (.list c.xs, μ.set n ⟨true, c.xs⟩)
    | none => none
  | .s _, _ => none
def toDs : List W → MH → Option (List D × MH)
  | [], μ => some ([], μ)
  | w :: ws, μ => bnd (toD w μ) fun x μ => bnd (toDs ws μ) fun xs μ => some (x :: xs, μ)
/-- a new list -/
def newL (live : Bool) (xs : List D) (μ : MH) : Option (W × MH) :=
  if xs.length ≤ sizeLine then (if live then some (.c μ.length, μ ++ [⟨false, xs⟩]) else some (.d (.list xs), μ)) else none
def truW : W → MH → Option Bool
  | .d .none, _ => some false
  | .d (.bool b), _ => some b
  | .d (.int i), _ => some (i != 0)
  | .d (.list xs), _ => some (!xs.isEmpty)
  | .d (.tuple xs), _ => some (!xs.isEmpty)
  | .c n, μ => match μ[n]? with
    | some c => some (!c.xs.isEmpty)
    | none => none
  | _, _ => none

def mulOk (i j : Int) : Bool := decide (i.natAbs.log2 + j.natAbs.log2 < 1000000)
def divOk (j : Int) : Bool := decide (j ≠ 0) && decide (j.natAbs.log2 < 9000)
def powOk (i j : Int) : Bool := decide (0 ≤ j) && decide (j ≤ 1000000) && decide (i.natAbs < 2 ^ 64)
def shrOk (j : Int) : Bool := decide (0 ≤ j)
/-- two data -/
def bopD : Bop → D → D → Option D
  | .add, .int i, .int j => some (.int (i + j))
  | .sub, .int i, .int j => some (.int (i - j))
  | .mul, .int i, .int j => if mulOk i j then some (.int (i * j)) else none
  | .fdiv, .int i, .int j => if divOk j then some (.int (i.fdiv j)) else none
  | .mod, .int i, .int j => if decide (j ≠ 0) then some (.int (i.fmod j)) else none
  | .pow, .int i, .int j => if powOk i j then some (.int (i ^ j.toNat)) else none
  | .shl, .int i, .int j => if powOk i j then some (.int (i * 2 ^ j.toNat)) else none
  | .shr, .int i, .int j => if shrOk j then some (.int (i / 2 ^ j.toNat)) else none
  | .band, .int i, .int j => some (.int (Builtin.bitAnd i j))
  | .bxor, .int i, .int j => some (.int (Builtin.bitXor i j))
  | .add, .tuple xs, .tuple ys => if xs.length + ys.length ≤ sizeLine then some (.tuple (xs ++ ys)) else none
  | _, _, _ => none
def bopW (live : Bool) (op : Bop) (x y : W) (μ : MH) : Option (W × MH) :=
  match op, seqW x μ, seqW y μ with
  | .add, some (false, xs), some (false, ys) => newL live (xs ++ ys) μ
  | _, _, _ => match x, y with
    | .d a, .d b => match bopD op a b with
      | some z => some (.d z, μ)
      | none => none
    | _, _ => none
def shp (d : D) : Bool := SeqAt.shaped d
def cmpW (op : Cop) (x y : W) (μ : MH) : Option Bool :=
  match op with
  | .eq => match peek x μ, peek y μ with
    | some a, some b => if shp a && shp b then some (PyData.eqv a b) else none
    | _, _ => none
  | .ne => match peek x μ, peek y μ with
    | some a, some b => if shp a && shp b then some (!PyData.eqv a b) else none
    | _, _ => none
  | .lt => match x, y with
    | .d (.int i), .d (.int j) => some (decide (i < j))
    | _, _ => none
  | .le => match x, y with
    | .d (.int i), .d (.int j) => some (decide (i ≤ j))
    | _, _ => none
  | .gt => match x, y with
    | .d (.int i), .d (.int j) => some (decide (j < i))
    | _, _ => none
  | .ge => match x, y with
    | .d (.int i), .d (.int j) => some (decide (j ≤ i))
    | _, _ => none
  | .is => match x, y with
    | .d .none, .d .none => some true
    | _, .d .none => some false
    | _, _ => none
  | .isnot => match x, y with
    | .d .none, .d .none => some false
    | _, .d .none => some true
    | _, _ => none
  | .inn => match peek x μ, peek y μ with
    | some a, some (.list bs) => if shp a && shp (.list bs) then some (bs.any fun z => PyData.eqv z a) else none
    | _, _ => none
  | .nin => match peek x μ, peek y μ with
    | some a, some (.list bs) => if shp a && shp (.list bs) then some (!bs.any fun z => PyData.eqv z a) else none
    | _, _ => none
def intsD : List D → Option (List Int)
  | [] => some []
  | .int i :: r => match intsD r with
    | some l => some (i :: l)
    | none => none
  | _ :: _ => none
def boolsD : List D → Option (List Bool)
  | [] => some []
  | .bool i :: r => match boolsD r with
    | some l => some (i :: l)
    | none => none
  | _ :: _ => none
def maxL : List Int → Int
  | [] => 0
  | [x] => x
  | x :: r => max x (maxL r)
def minL : List Int → Int
  | [] => 0
  | [x] => x
  | x :: r => min x (minL r)
def biW (b : Bi) (live : Bool) (ws : List W) (μ : MH) : Option (W × MH) :=
  match b, ws with
  | .len, [.s xs] => some (.d (.int xs.length), μ)
  | .len, [w] => match seqW w μ with
    | some (_, xs) => some (.d (.int xs.length), μ)
    | none => none
  | .int, [.d (.int i)] => some (.d (.int i), μ)
  | .int, [.d (.bool b)] => some (.d (.int (if b then 1 else 0)), μ)
  | .abs, [.d (.int i)] => some (.d (.int (if i < 0 then -i else i)), μ)
  | .max, [.d (.int i), .d (.int j)] => some (.d (.int (if j > i then j else i)), μ)
  | .min, [.d (.int i), .d (.int j)] => some (.d (.int (if j < i then j else i)), μ)
  | .max, [w] => match seqW w μ with
    | some (_, xs) => match intsD xs with
      | some (i :: is) => some (.d (.int (maxL (i :: is))), μ)
      | _ => none
    | none => none
  | .min, [w] => match seqW w μ with
    | some (_, xs) => match intsD xs with
      | some (i :: is) => some (.d (.int (minL (i :: is))), μ)
      | _ => none
    | none => none
  | .list, [w] => match seqW w μ with
    | some (_, xs) => newL live xs μ
    | none => none
  | .tuple, [w] => match seqW w μ with
    | some (_, xs) => some (.d (.tuple xs), μ)
    | none => none
  | .gcd, [.d (.int i), .d (.int j)] => some (.d (.int ((Nat.gcd i.natAbs j.natAbs : Nat) : Int)), μ)
  | _, _ => none
def tyW : W → Option Ty
  | .d (.int _) => some .int
  | .d (.bool _) => some .bool
  | .d (.str _) => some .str
  | .d (.list _) => some .list
  | .d (.tuple _) => some .tuple
  | .c _ => some .list
  | _ => none
def isNoneW : W → Bool
  | .d .none => true
  | _ => false
def isiW (w : W) (tys : List Ty) : Option Bool :=
  match tyW w with
  | some t => some (tys.any fun u => decide (t = u) || (decide (t = .bool) && decide (u = .int)))
  | none => if isNoneW w then some false else none
def ixW (a i : W) (μ : MH) : Option (W × MH) :=
  match i with
  | .d (.int k) => match a with
    | .s xs => match atI xs k with
      | some z => some (.d (.int z), μ)
      | none => none
    | a => match seqW a μ with
      | some (_, xs) => match atI xs k with
        | some z => some (.d z, μ)
        | none => none
      | none => none
  | _ => none
def cutD {α : Type} (xs : List α) (lo hi : Option Int) : List α := (xs.drop (HT.sIx xs.length 0 lo)).take (HT.sIx xs.length xs.length hi - HT.sIx xs.length 0 lo)
def slW (live : Bool) (a : W) (lo hi : Option Int) (μ : MH) : Option (W × MH) :=
  match a with
  | .s xs => newL live ((cutD xs lo hi).map PyData.int) μ
  | a => match seqW a μ with
    | some (false, xs) => newL live (cutD xs lo hi) μ
    | some (true, xs) => some (.d (.tuple (cutD xs lo hi)), μ)
    | none => none
def liveC (w : W) (μ : MH) : Option (Nat × List D) :=
  match w with
  | .c n => match μ[n]? with
    | some c => if c.fz then none else some (n, c.xs)
    | none => none
  | _ => none
def setC (n : Nat) (xs : List D) (μ : MH) : MH := μ.set n ⟨false, xs⟩
def methW (m : Me) (o : W) (ws : List W) (μ : MH) : Option (W × MH) :=
  match m, ws with
  | .append, [w] => bnd (toD w μ) fun x μ => match liveC o μ with
    | some (n, xs) => if xs.length < sizeLine then some (.d .none, setC n (xs ++ [x]) μ) else none
    | none => none
  | .pop, [] => match liveC o μ with
    | some (n, xs) => match xs[xs.length - 1]? with
      | some x => some (.d x, setC n xs.dropLast μ)
      | none => none
    | none => none
  | .pop, [.d (.int i)] => match liveC o μ with
    | some (n, xs) => match ixN xs.length i with
      | some k => match xs[k]? with
        | some x => if xs.length ≤ sizeLine then some (.d x, setC n (xs.eraseIdx k) μ) else none
        | none => none
      | none => none
    | none => none
  | .reverse, [] => match liveC o μ with
    | some (n, xs) => some (.d .none, setC n xs.reverse μ)
    | none => none
  | .extend, [w] => match seqW w μ with
    | some (false, ys) => match liveC o μ with
      | some (n, xs) => if xs.length + ys.length ≤ sizeLine then some (.d .none, setC n (xs ++ ys) μ) else none
      | none => none
    | _ => none
  | _, _ => none
/-- what is walked: where it stands (a cell), its items -/
def itW : W → MH → Option (Option Nat × List D)
  | .s xs, _ => some (none, xs.map PyData.int)
  | .c n, μ => match μ[n]? with
    | some c => some (some n, c.xs)
    | none => none
  | w, μ => match seqW w μ with
    | some (_, xs) => some (none, xs)
    | none => none
/-- the walked cell is as it was -/
def okSrc (src : Option Nat) (xs : List D) (μ : MH) : Bool :=
  match src with
  | none => true
  | some n => match μ[n]? with
    | some c => eqDs c.xs xs
    | none => false
def small62 (i : Int) : Bool := decide (-(2 ^ 62) ≤ i) && decide (i < 2 ^ 62)
def rngD (lo : Int) (n : Nat) : List D := (List.range n).map fun k : Nat => PyData.int (lo + (k : Int))
def wipeE (env : En) : List Nat → En
  | [] => env
  | v :: vs => (wipeE env vs).set v none

/-- x op= y -/
def augW : Bop → W → W → Option W
  | .add, .d (.int a), .d (.int b) => some (.d (.int (a + b)))
  | .sub, .d (.int a), .d (.int b) => some (.d (.int (a - b)))
  | _, _, _ => none
/-- a comprehension's turns -/
def compL (asg : W → En → MH → Option (En × MH)) (cond : En → MH → Option (Bool × MH)) (elt : En → MH → Option (W × MH)) (src : Option Nat) (all : List D) : List D → En → MH → Option (List D × MH)
  | [], _, μ => if okSrc src all μ then some ([], μ) else none
  | x :: xs, env, μ => if okSrc src all μ then
      bnd (asg (.d x) env μ) fun env1 μ => bnd (cond env1 μ) fun b μ =>
        if b then bnd (elt env1 μ) fun w μ => bnd (toD w μ) fun y μ => bnd (compL asg cond elt src all xs env μ) fun ys μ => some (y :: ys, μ)
        else compL asg cond elt src all xs env μ
    else none
/-- a loop's turns -/
def forL (asg : W → En → MH → Option (En × MH)) (body : En → MH → Option Out) (src : Option Nat) (all : List D) : List D → En → MH → Option Out
  | [], env, μ => if okSrc src all μ then some (.next env μ) else none
  | x :: xs, env, μ => if okSrc src all μ then
      bnd (asg (.d x) env μ) fun env1 μ => match body env1 μ with
        | some (.next e m) => forL asg body src all xs e m
        | some (.cont e m) => forL asg body src all xs e m
        | some (.brk e m) => some (.next e m)
        | some (.ret w m) => some (.ret w m)
        | none => none
    else none
def whileL (c : En → MH → Option (Bool × MH)) (body : En → MH → Option Out) : Nat → En → MH → Option Out
  | 0, _, _ => none
  | n + 1, env, μ => bnd (c env μ) fun b μ =>
      if b then match body env μ with
        | some (.next e m) => whileL c body n e m
        | some (.cont e m) => whileL c body n e m
        | some (.brk e m) => some (.next e m)
        | some (.ret w m) => some (.ret w m)
        | none => none
      else some (.next env μ)

section
variable (call : Nat → List W → MH → Option (W × MH))
mutual
def evE : E → En → MH → Option (W × MH)
  | .var i, env, μ => match env[i]? with
    | some (some w) => some (w, μ)
    | _ => none
  | .cst d, _, μ => some (.d d, μ)
  | .bop l op a b, env, μ => bnd (evE a env μ) fun x μ => bnd (evE b env μ) fun y μ => bopW l op x y μ
  | .neg a, env, μ => bnd (evE a env μ) fun x μ => match x with
    | .d (.int i) => some (.d (.int (-i)), μ)
    | _ => none
  | .not a, env, μ => bnd (evE a env μ) fun x μ => match x with
    | .d (.bool b) => some (.d (.bool (!b)), μ)
    | _ => none
  | .boo k es, env, μ => evBV k es env μ
  | .cmp op a b, env, μ => bnd (evE a env μ) fun x μ => bnd (evE b env μ) fun y μ => match cmpW op x y μ with
    | some r => some (.d (.bool r), μ)
    | none => none
  | .chain op op' a b c, env, μ => bnd (evE a env μ) fun x μ => bnd (evE b env μ) fun y μ => match cmpW op x y μ with
    | some true => bnd (evE c env μ) fun z μ => match cmpW op' y z μ with
      | some r => some (.d (.bool r), μ)
      | none => none
    | some false => some (.d (.bool false), μ)
    | none => none
  | .ite c a b, env, μ => bnd (evT c env μ) fun t μ => if t then evE a env μ else evE b env μ
  | .call f es, env, μ => bnd (evEs es env μ) fun ws μ => call f ws μ
  | .bi b l es, env, μ => bnd (evEs es env μ) fun ws μ => biW b l ws μ
  | .isi e tys, env, μ => bnd (evE e env μ) fun w μ => match isiW w tys with
    | some b => some (.d (.bool b), μ)
    | none => none
  | .ix a i, env, μ => bnd (evE a env μ) fun x μ => bnd (evE i env μ) fun y μ => ixW x y μ
  | .sl l a lo hi, env, μ => bnd (evE a env μ) fun x μ => bnd (evO lo env μ) fun p μ => bnd (evO hi env μ) fun q μ => slW l x p q μ
  | .tup es, env, μ => bnd (evEs es env μ) fun ws μ => bnd (toDs ws μ) fun ds μ => if ds.length ≤ sizeLine then some (.d (.tuple ds), μ) else none
  | .lst l es, env, μ => bnd (evEs es env μ) fun ws μ => bnd (toDs ws μ) fun ds μ => newL l ds μ
  | .comp l elt tg it c own, env, μ => bnd (evIt it env μ) fun p μ =>
      bnd (compL (fun w env μ => asgT tg w env μ) (fun env μ => evC c env μ) (fun env μ => evE elt env μ) p.1 p.2 p.2 (wipeE env (own.map (·.2))) μ) fun ys μ => newL l ys μ
  | .meth m o es, env, μ => bnd (evE o env μ) fun x μ => bnd (evEs es env μ) fun ws μ => methW m x ws μ
def evT : E → En → MH → Option (Bool × MH)
  | .not a, env, μ => bnd (evT a env μ) fun b μ => some (!b, μ)
  | .boo k es, env, μ => evBT k es env μ
  | .cmp op a b, env, μ => bnd (evE a env μ) fun x μ => bnd (evE b env μ) fun y μ => match cmpW op x y μ with
    | some r => some (r, μ)
    | none => none
  | .chain op op' a b c, env, μ => bnd (evE a env μ) fun x μ => bnd (evE b env μ) fun y μ => match cmpW op x y μ with
    | some true => bnd (evE c env μ) fun z μ => match cmpW op' y z μ with
      | some r => some (r, μ)
      | none => none
    | some false => some (false, μ)
    | none => none
  | .var i, env, μ => match env[i]? with
    | some (some w) => (truW w μ).map fun b => (b, μ)
    | _ => none
  | .call f es, env, μ => bnd (evEs es env μ) fun ws μ => bnd (call f ws μ) fun w μ => (truW w μ).map fun b => (b, μ)
  | .isi e tys, env, μ => bnd (evE e env μ) fun w μ => match isiW w tys with
    | some b => some (b, μ)
    | none => none
  | .ix a i, env, μ => bnd (evE a env μ) fun x μ => bnd (evE i env μ) fun y μ => bnd (ixW x y μ) fun w μ => (truW w μ).map fun b => (b, μ)
  | _, _, _ => none
def evBV (k : Bool) : Es → En → MH → Option (W × MH)
  | .nil, _, _ => none
  | .cons e .nil, env, μ => evE e env μ
  | .cons e (.cons e2 r), env, μ => bnd (evE e env μ) fun x μ => match x with
    | .d (.bool b) => if b = k then evBV k (.cons e2 r) env μ else some (.d (.bool b), μ)
    | _ => none
def evBT (k : Bool) : Es → En → MH → Option (Bool × MH)
  | .nil, _, _ => none
  | .cons e .nil, env, μ => evT e env μ
  | .cons e (.cons e2 r), env, μ => bnd (evT e env μ) fun b μ => if b = k then evBT k (.cons e2 r) env μ else some (b, μ)
def evEs : Es → En → MH → Option (List W × MH)
  | .nil, _, μ => some ([], μ)
  | .cons e r, env, μ => bnd (evE e env μ) fun w μ => bnd (evEs r env μ) fun ws μ => some (w :: ws, μ)
def evO : Eo → En → MH → Option (Option Int × MH)
  | .none, _, μ => some (none, μ)
  | .some e, env, μ => bnd (evE e env μ) fun w μ => match w with
    | .d (.int i) => some (some i, μ)
    | _ => none
def evC : Eo → En → MH → Option (Bool × MH)
  | .none, _, μ => some (true, μ)
  | .some e, env, μ => evT e env μ
def evIt : It → En → MH → Option ((Option Nat × List D) × MH)
  | .val e, env, μ => bnd (evE e env μ) fun w μ => (itW w μ).map fun p => (p, μ)
  | .rng1 e, env, μ => bnd (evE e env μ) fun w μ => match w with
    | .d (.int j) => if small62 j then some ((none, rngD 0 j.toNat), μ) else none
    | _ => none
  | .rng2 a b, env, μ => bnd (evE a env μ) fun x μ => bnd (evE b env μ) fun y μ => match x, y with
    | .d (.int i), .d (.int j) => if small62 i && small62 j then some ((none, rngD i (j - i).toNat), μ) else none
    | _, _ => none
def asgT : Tg → W → En → MH → Option (En × MH)
  | .name i, w, env, μ => some (env.set i (some w), μ)
  | .tup ts, w, env, μ => match seqW w μ with
    | some (_, xs) => asgTs ts xs env μ
    | none => none
  | .sub o i, w, env, μ => bnd (evE o env μ) fun x μ => bnd (evE i env μ) fun y μ => bnd (toD w μ) fun z μ => match y, liveC x μ with
    | .d (.int k), some (n, xs) => match ixN xs.length k with
      | some j => some (env, setC n (xs.set j z) μ)
      | none => none
    | _, _ => none
def asgTs : Tgs → List D → En → MH → Option (En × MH)
  | .nil, xs, env, μ => match xs with
    | [] => some (env, μ)
    | _ => none
  | .cons t r, xs, env, μ => match xs with
    | x :: xs => bnd (asgT t (.d x) env μ) fun env μ => asgTs r xs env μ
    | [] => none
end
mutual
def evS : S → En → MH → Option Out
  | .asg t e, env, μ => bnd (evE call e env μ) fun w μ => bnd (asgT call t w env μ) fun env μ => some (.next env μ)
  | .par i j a b, env, μ => bnd (evE call a env μ) fun x μ => bnd (evE call b env μ) fun y μ => some (.next ((env.set i (some x)).set j (some y)) μ)
  | .aug i op e, env, μ => match env[i]? with
    | some (some x) => bnd (evE call e env μ) fun y μ => match augW op x y with
      | some z => some (.next (env.set i (some z)) μ)
      | none => none
    | _ => none
  | .expr e, env, μ => bnd (evE call e env μ) fun _ μ => some (.next env μ)
  | .iff c a b, env, μ => bnd (evT call c env μ) fun t μ => if t then evSs a env μ else evSs b env μ
  | .forr t it b, env, μ => bnd (evIt call it env μ) fun p μ => forL (fun w env μ => asgT call t w env μ) (fun env μ => evSs b env μ) p.1 p.2 p.2 env μ
  | .whil n c b, env, μ => whileL (fun env μ => evT call c env μ) (fun env μ => evSs b env μ) n env μ
  | .ret e, env, μ => bnd (evE call e env μ) fun w μ => some (.ret w μ)
  | .retN, _, μ => some (.ret (.d .none) μ)
  | .brk, env, μ => some (.brk env μ)
  | .cont, env, μ => some (.cont env μ)
  | .pass, env, μ => some (.next env μ)
def evSs : Ss → En → MH → Option Out
  | .nil, env, μ => some (.next env μ)
  | .cons s r, env, μ => match evS s env μ with
    | some (.next env μ) => evSs r env μ
    | o => o
end
end

/-- a def -/
structure FD where
  name : Str
  np : Nat
  names : List Str
  body : Ss
def initE (n : Nat) (ws : List W) : En := ws.map some ++ List.replicate (n - ws.length) none
/-- what a call leaves: its own lists are forgotten, but one that it hands back -/
def leave (n : Nat) : Option Out → Option (W × MH)
  | some (.next _ μ) => some (.d .none, μ.take n)
  | some (.ret (.c m) μ) => if m < n then some (.c m, μ.take n) else match μ[m]? with
    | some c => some (.c n, μ.take n ++ [c])
    | none => none
  | some (.ret w μ) => some (w, μ.take n)
  | _ => none
def evF (T : List FD) : Nat → Nat → List W → MH → Option (W × MH)
  | 0, _, _, _ => none
  | k + 1, f, ws, μ => match T[f]? with
    | some fd => if ws.length = fd.np then leave μ.length (evSs (evF T k) fd.body (initE fd.names.length ws) μ) else none
    | none => none
end MI

-- MiB
/-! what the small evaluator's states stand for -/
namespace MI
open PySem PySem.Spec L2

mutual
theorem eqD_eq : ∀ (a b : D), eqD a b = true → a = b
  | .none, b, h => by cases b <;> simp [eqD] at h; rfl
  | .bool x, b, h => by
    cases b <;> simp [eqD] at h
    rw [h]
  | .int i, b, h => by
    cases b <;> simp [eqD] at h
    rw [h]
  | .str i, b, h => by
    cases b <;> simp [eqD] at h
    rw [h]
  | .list xs, b, h => by
    cases b <;> simp [eqD] at h
    rename_i ys
    rw [eqDs_eq xs ys h]
  | .tuple xs, b, h => by
    cases b <;> simp [eqD] at h
    rename_i ys
    rw [eqDs_eq xs ys h]
  | .dict xs, b, h => by cases b <;> simp [eqD] at h
theorem eqDs_eq : ∀ (a b : List D), eqDs a b = true → a = b
  | [], b, h => by cases b <;> simp [eqDs] at h; rfl
  | x :: xs, b, h => by
    cases b with
    | nil => simp [eqDs] at h
    | cons y ys =>
      simp only [eqDs, Bool.and_eq_true] at h
      rw [eqD_eq x y h.1, eqDs_eq xs ys h.2]
end

/-! ### data in the heap -/
mutual
inductive Dr (F : Hp) : V → D → Prop
  | non : Dr F .non .none
  | bl (b : Bool) : Dr F (.bl b) (.bool b)
  | int (i : Int) : Dr F (.int i) (.int i)
  | str (x : Str) : Dr F (.str x) (.str x)
  | lst {a : Addr} {vs : List V} {ds : List D} : F a = some (.lst vs) → DrAll F vs ds → Dr F (.ref a) (.list ds)
  | tup {a : Addr} {vs : List V} {ds : List D} : F a = some (.tup vs) → DrAll F vs ds → Dr F (.ref a) (.tuple ds)
inductive DrAll (F : Hp) : List V → List D → Prop
  | nil : DrAll F [] []
  | cons {v : V} {vs : List V} {d : D} {ds : List D} : Dr F v d → DrAll F vs ds → DrAll F (v :: vs) (d :: ds)
end
/-- all that F tells H tells too -/
def Le (F H : Hp) : Prop := ∀ a o, F a = some o → H a = some o
theorem Le.refl (F : Hp) : Le F F := fun _ _ h => h
theorem Le.trans {F G H : Hp} (a : Le F G) (b : Le G H) : Le F H := fun x o h => b x o (a x o h)
theorem Le.sq {K : PySem.W.Frag} {H H' : Hp} {a : Addr} {xs : List V} (e : Le H H') (h : SqL K H a xs) : SqL K H' a xs := by
  rcases h with (h | ⟨o, h⟩) | h
  · exact .inl (.inl (e _ _ h))
  · exact .inl (.inr ⟨o, e _ _ h⟩)
  · exact .inr h
mutual
theorem Dr.mono {F H : Hp} (e : Le F H) : ∀ (d : D) (v : V), Dr F v d → Dr H v d
  | .none, _, h => by cases h; exact .non
  | .bool b, _, h => by cases h; exact .bl b
  | .int i, _, h => by cases h; exact .int i
  | .str x, _, h => by cases h; exact .str x
  | .list ds, _, h => by
    cases h with
    | lst h1 h2 => exact .lst (e _ _ h1) (DrAll.mono e ds _ h2)
  | .tuple ds, _, h => by
    cases h with
    | tup h1 h2 => exact .tup (e _ _ h1) (DrAll.mono e ds _ h2)
  | .dict _, _, h => by cases h
theorem DrAll.mono {F H : Hp} (e : Le F H) : ∀ (ds : List D) (vs : List V), DrAll F vs ds → DrAll H vs ds
  | [], _, h => by cases h; exact .nil
  | d :: ds, _, h => by
    cases h with
    | cons h1 h2 => exact .cons (Dr.mono e d _ h1) (DrAll.mono e ds _ h2)
end
mutual
theorem Dr.dp {K : PySem.W.Frag} {H : Hp} : ∀ (d : D) (v : V), Dr H v d → Dp K H v d
  | .none, _, h => by cases h; exact .non
  | .bool b, _, h => by cases h; exact .bl b
  | .int i, _, h => by cases h; exact .int i
  | .str x, _, h => by cases h; exact .str x
  | .list ds, _, h => by
    cases h with
    | lst h1 h2 => exact .lst (SqL.of h1) (DrAll.dp ds _ h2)
  | .tuple ds, _, h => by
    cases h with
    | tup h1 h2 => exact .tup (SqT.of h1) (DrAll.dp ds _ h2)
  | .dict _, _, h => by cases h
theorem DrAll.dp {K : PySem.W.Frag} {H : Hp} : ∀ (ds : List D) (vs : List V), DrAll H vs ds → DpAll K H vs ds
  | [], _, h => by cases h; exact .nil
  | d :: ds, _, h => by
    cases h with
    | cons h1 h2 => exact .cons (Dr.dp d _ h1) (DrAll.dp ds _ h2)
end
theorem DrAll.len {F : Hp} : ∀ {vs : List V} {ds : List D}, DrAll F vs ds → vs.length = ds.length
  | _, _, .nil => rfl
  | _, _, .cons _ t => congrArg (· + 1) (DrAll.len t)
theorem DrAll.get {F : Hp} : ∀ {vs : List V} {ds : List D} {i : Nat} {d : D}, DrAll F vs ds → ds[i]? = some d → ∃ v, vs[i]? = some v ∧ Dr F v d
  | _, _, _, _, .nil, e => by simp at e
  | _, _, 0, d, .cons r _, e => by simp at e; subst e; exact ⟨_, rfl, r⟩
  | _, _, i + 1, d, .cons _ t, e => by
    obtain ⟨v, h1, h2⟩ := DrAll.get (i := i) (d := d) t (by simpa using e)
    exact ⟨v, by simpa using h1, h2⟩
theorem DrAll.get' {F : Hp} : ∀ {vs : List V} {ds : List D} {i : Nat} {v : V}, DrAll F vs ds → vs[i]? = some v → ∃ d, ds[i]? = some d ∧ Dr F v d
  | _, _, _, _, .nil, e => by simp at e
  | _, _, 0, d, .cons r _, e => by simp at e; subst e; exact ⟨_, rfl, r⟩
  | _, _, i + 1, d, .cons _ t, e => by
    obtain ⟨v, h1, h2⟩ := DrAll.get' (i := i) (v := d) t (by simpa using e)
    exact ⟨v, by simpa using h1, h2⟩
theorem DrAll.app {F : Hp} : ∀ {vs us : List V} {ds es : List D}, DrAll F vs ds → DrAll F us es → DrAll F (vs ++ us) (ds ++ es)
  | _, _, _, _, .nil, s => s
  | _, _, _, _, .cons r t, s => .cons r (DrAll.app t s)
theorem DrAll.take {F : Hp} : ∀ {vs : List V} {ds : List D} (n : Nat), DrAll F vs ds → DrAll F (vs.take n) (ds.take n)
  | _, _, 0, _ => by simp; exact .nil
  | _, _, _ + 1, .nil => by simp; exact .nil
  | _, _, n + 1, .cons r t => by simp only [List.take_succ_cons]; exact .cons r (DrAll.take n t)
theorem DrAll.drop {F : Hp} : ∀ {vs : List V} {ds : List D} (n : Nat), DrAll F vs ds → DrAll F (vs.drop n) (ds.drop n)
  | _, _, 0, h => by simpa using h
  | _, _, _ + 1, .nil => by simp; exact .nil
  | _, _, n + 1, .cons r t => by simp only [List.drop_succ_cons]; exact DrAll.drop n t
theorem DrAll.set {F : Hp} {v : V} {d : D} (r : Dr F v d) : ∀ {vs : List V} {ds : List D} (n : Nat), DrAll F vs ds → DrAll F (vs.set n v) (ds.set n d)
  | _, _, _, .nil => .nil
  | _, _, 0, .cons _ t => .cons r t
  | _, _, n + 1, .cons q t => .cons q (DrAll.set r n t)
theorem DrAll.erase {F : Hp} : ∀ {vs : List V} {ds : List D} (n : Nat), DrAll F vs ds → DrAll F (vs.eraseIdx n) (ds.eraseIdx n)
  | _, _, _, .nil => .nil
  | _, _, 0, .cons _ t => t
  | _, _, n + 1, .cons q t => .cons q (DrAll.erase n t)
theorem DrAll.dropLast {F : Hp} {vs : List V} {ds : List D} (h : DrAll F vs ds) : DrAll F vs.dropLast ds.dropLast := by
  rw [List.dropLast_eq_take, List.dropLast_eq_take, h.len]
  exact h.take _
theorem DrAll.rev {F : Hp} : ∀ {vs : List V} {ds : List D}, DrAll F vs ds → DrAll F vs.reverse ds.reverse
  | _, _, .nil => .nil
  | _, _, .cons r t => by
    rw [List.reverse_cons, List.reverse_cons]
    exact DrAll.app (DrAll.rev t) (.cons r .nil)
theorem DrAll.ints {F : Hp} : ∀ (ns : List Int), DrAll F (ns.map V.int) (ns.map PyData.int)
  | [] => .nil
  | n :: ns => .cons (.int n) (DrAll.ints ns)
theorem DrAll.cut {F : Hp} {vs : List V} {ds : List D} (h : DrAll F vs ds) (lo hi : Option Int) : DrAll F (cutV vs lo hi) (cutD ds lo hi) := by
  unfold cutV cutD
  rw [h.len]
  exact (h.drop _).take _

/-! ### states -/
structure Rel (α : List Addr) (F H : Hp) (μ : MH) : Prop where
  sub : Le F H
  len : α.length = μ.length
  nod : α.Nodup
  cell : ∀ (n : Nat) (a : Addr) (c : Cell), α[n]? = some a → μ[n]? = some c → ∃ vs, H a = some (.lst vs) ∧ DrAll F vs c.xs ∧ (c.fz = true → F a = some (.lst vs)) ∧ (c.fz = false → F a = none)
def RW (K : PySem.W.Frag) (α : List Addr) (F : Hp) (v : V) : W → Prop
  | .d x => Dr F v x
  | .c n => ∃ a, v = .ref a ∧ α[n]? = some a
  | .s ns => ∃ a, v = .ref a ∧ SqL K F a (ns.map V.int)
def RE (K : PySem.W.Frag) (α : List Addr) (F : Hp) (σ : St) (env : En) : Prop :=
  env.length = σ.length ∧ ∀ (i : Nat) (w : W), env[i]? = some (some w) → ∃ v : V, σ[i]? = some (some v) ∧ RW K α F v w
def RWs (K : PySem.W.Frag) (α : List Addr) (F : Hp) : List V → List W → Prop := Paired (RW K α F)
structure Ext (α : List Addr) (F H : Hp) (α' : List Addr) (F' H' : Hp) : Prop where
  f : Le F F'
  al : ∃ β, α' = α ++ β ∧ ∀ b ∈ β, H b = none
  fr : ∀ a o, H a = some o → a ∉ α → H' a = some o
  dm : ∀ a, H a ≠ none → H' a ≠ none
  uf : ∀ a, H a ≠ none → a ∉ α → F a = none → F' a = none
theorem Ext.refl (α : List Addr) (F H : Hp) : Ext α F H α F H := ⟨Le.refl F, ⟨[], by simp, by simp⟩, fun _ _ h _ => h, fun _ h => h, fun _ _ _ h => h⟩
theorem Ext.off {α β : List Addr} {F G H H1 : Hp} (x : Ext α F H β G H1) {a : Addr} (h : H a ≠ none) (ha : a ∉ α) : a ∉ β := by
  obtain ⟨b, e, n⟩ := x.al
  subst e
  intro hm
  rcases List.mem_append.mp hm with hm | hm
  · exact ha hm
  · exact h (n a hm)
theorem Ext.trans {α β γ : List Addr} {F G I H H1 H2 : Hp} (x : Ext α F H β G H1) (y : Ext β G H1 γ I H2) : Ext α F H γ I H2 := by
  obtain ⟨b1, e1, n1⟩ := x.al
  obtain ⟨b2, e2, n2⟩ := y.al
  subst e1
  subst e2
  refine ⟨x.f.trans y.f, ⟨b1 ++ b2, by simp, fun b hb => ?_⟩, fun a o h ha => ?_, fun a h => y.dm a (x.dm a h), fun a h ha hF => y.uf a (x.dm a h) (x.off h ha) (x.uf a h ha hF)⟩
  · rcases List.mem_append.mp hb with hb | hb
    · exact n1 b hb
    · cases q : H b with
      | none => rfl
      | some o => exact absurd (n2 b hb) (x.dm b (by rw [q]; simp))
  · refine y.fr a o (x.fr a o h ha) fun hm => ?_
    rcases List.mem_append.mp hm with hm | hm
    · exact ha hm
    · rw [n1 a hm] at h; cases h
theorem Ext.at {α β : List Addr} {F G H H1 : Hp} (x : Ext α F H β G H1) {n : Nat} {a : Addr} (h : α[n]? = some a) : β[n]? = some a := by
  obtain ⟨b, e, _⟩ := x.al
  subst e
  rw [List.getElem?_append_left (List.getElem?_eq_some_iff.mp h).1]
  exact h
theorem RW.mono {K : PySem.W.Frag} {α β : List Addr} {F G H H1 : Hp} (x : Ext α F H β G H1) {v : V} : ∀ {w : W}, RW K α F v w → RW K β G v w
  | .d _, h => Dr.mono x.f _ _ h
  | .c _, ⟨a, e, h⟩ => ⟨a, e, x.at h⟩
  | .s _, ⟨a, e, h⟩ => ⟨a, e, x.f.sq h⟩
theorem RE.mono {K : PySem.W.Frag} {α β : List Addr} {F G H H1 : Hp} (x : Ext α F H β G H1) {σ : St} {env : En} (h : RE K α F σ env) : RE K β G σ env :=
  ⟨h.1, fun i w e => let ⟨v, h1, h2⟩ := h.2 i w e; ⟨v, h1, h2.mono x⟩⟩
theorem RWs.mono {K : PySem.W.Frag} {α β : List Addr} {F G H H1 : Hp} (x : Ext α F H β G H1) : ∀ {vs : List V} {ws : List W}, RWs K α F vs ws → RWs K β G vs ws
  | _, _, .nil => .nil
  | _, _, .cons h t => .cons (h.mono x) (RWs.mono x t)
theorem RE.set {K : PySem.W.Frag} {α : List Addr} {F : Hp} {σ : St} {env : En} {v : V} {w : W} (h : RE K α F σ env) (i : Nat) (r : RW K α F v w) : RE K α F (σ.set i (some v)) (env.set i (some w)) := by
  refine ⟨by simp [h.1], fun j u e => ?_⟩
  by_cases hj : i = j
  · subst hj
    by_cases hl : i < env.length
    · rw [List.getElem?_set_self hl] at e
      cases e
      exact ⟨v, by rw [List.getElem?_set_self (by rw [← h.1]; exact hl)], r⟩
    · rw [List.getElem?_eq_none (by simpa using hl)] at e
      cases e
  · rw [List.getElem?_set_ne hj] at e ⊢
    exact h.2 j u e
theorem wipeE_get {env : En} {i : Nat} {w : W} : ∀ {vs : List Nat}, (wipeE env vs)[i]? = some (some w) → env[i]? = some (some w) ∧ i ∉ vs
  | [], h => ⟨h, by simp⟩
  | v :: vs, h => by
    unfold wipeE at h
    by_cases hv : v = i
    · subst hv
      by_cases hl : v < (wipeE env vs).length
      · rw [List.getElem?_set_self hl] at h; cases h
      · rw [List.getElem?_eq_none (by simpa using hl)] at h; cases h
    · rw [List.getElem?_set_ne hv] at h
      obtain ⟨h1, h2⟩ := wipeE_get h
      exact ⟨h1, by simp only [List.mem_cons, not_or]; exact ⟨fun e => hv e.symm, h2⟩⟩
theorem wipeE_len (env : En) : ∀ vs : List Nat, (wipeE env vs).length = env.length
  | [] => rfl
  | v :: vs => by unfold wipeE; rw [List.length_set, wipeE_len env vs]
theorem wipe_keep {σ : St} {i : Nat} : ∀ {vs : List Nat}, i ∉ vs → (wipe σ vs)[i]? = σ[i]?
  | [], _ => rfl
  | v :: vs, h => by
    simp only [List.mem_cons, not_or] at h
    unfold wipe
    rw [List.getElem?_set_ne (Ne.symm h.1)]
    exact wipe_keep h.2
theorem RE.wipe {K : PySem.W.Frag} {α : List Addr} {F : Hp} {σ : St} {env : En} (h : RE K α F σ env) (vs : List Nat) : RE K α F (L2.wipe σ vs) (wipeE env vs) := by
  refine ⟨by rw [wipeE_len, wipe_length]; exact h.1, fun i w e => ?_⟩
  obtain ⟨h1, h2⟩ := wipeE_get e
  rw [wipe_keep h2]
  exact h.2 i w h1

/-! ### reading values -/
section
variable {K : PySem.W.Frag} {α : List Addr} {F H : Hp} {μ : MH} {v : V} {w : W}
theorem Rel.at (R : Rel α F H μ) {n : Nat} {c : Cell} (h : μ[n]? = some c) : ∃ a, α[n]? = some a := by
  have hl : n < α.length := by rw [R.len]; exact (List.getElem?_eq_some_iff.mp h).1
  exact ⟨α[n], List.getElem?_eq_getElem hl⟩
theorem seqW_ok (R : Rel α F H μ) (r : RW K α F v w) {t : Bool} {ds : List D} (h : seqW w μ = some (t, ds)) :
    ∃ a vs, v = .ref a ∧ DrAll F vs ds ∧ (t = true → F a = some (.tup vs) ∧ H a = some (.tup vs)) ∧ (t = false → H a = some (.lst vs)) := by
  cases w with
  | s ns => simp [seqW] at h
  | c n =>
    obtain ⟨a, e, ha⟩ := r
    simp only [seqW] at h
    split at h
    · rename_i c hc
      simp only [Option.some.injEq, Prod.mk.injEq] at h
      obtain ⟨rfl, rfl⟩ := h
      obtain ⟨vs, h1, h2, _⟩ := R.cell n a c ha hc
      exact ⟨a, vs, e, h2, (fun z => nomatch z), fun _ => h1⟩
    · cases h
  | d x =>
    cases r with
    | non => simp [seqW] at h
    | bl b => simp [seqW] at h
    | int i => simp [seqW] at h
    | str x => simp [seqW] at h
    | lst h1 h2 =>
      simp only [seqW, Option.some.injEq, Prod.mk.injEq] at h
      obtain ⟨rfl, rfl⟩ := h
      exact ⟨_, _, rfl, h2, (fun z => nomatch z), fun _ => R.sub _ _ h1⟩
    | tup h1 h2 =>
      simp only [seqW, Option.some.injEq, Prod.mk.injEq] at h
      obtain ⟨rfl, rfl⟩ := h
      exact ⟨_, _, rfl, h2, fun _ => ⟨h1, R.sub _ _ h1⟩, (fun z => nomatch z)⟩
theorem peek_ok (R : Rel α F H μ) (r : RW K α F v w) {x : D} (h : peek w μ = some x) : Dr H v x := by
  cases w with
  | s ns => simp [peek] at h
  | c n =>
    obtain ⟨a, e, ha⟩ := r
    simp only [peek] at h
    split at h
    · rename_i c hc
      simp only [Option.some.injEq] at h
      subst h
      obtain ⟨vs, h1, h2, _⟩ := R.cell n a c ha hc
      subst e
      exact .lst h1 (DrAll.mono R.sub _ _ h2)
    · cases h
  | d y =>
    simp only [peek, Option.some.injEq] at h
    subst h
    exact Dr.mono R.sub _ _ r
/-- a cell is frozen -/
theorem Rel.freeze (R : Rel α F H μ) {n : Nat} {a : Addr} {c : Cell} (ha : α[n]? = some a) (hc : μ[n]? = some c) :
    ∃ F', Ext α F H α F' H ∧ Rel α F' H (μ.set n ⟨true, c.xs⟩) ∧ ∃ vs, F' a = some (.lst vs) ∧ DrAll F' vs c.xs := by
  obtain ⟨vs, h1, h2, h3, h4⟩ := R.cell n a c ha hc
  have hn : n < μ.length := (List.getElem?_eq_some_iff.mp hc).1
  by_cases hz : c.fz = true
  · refine ⟨F, Ext.refl _ _ _, ?_, vs, h3 hz, h2⟩
    have e : μ.set n ⟨true, c.xs⟩ = μ := by
      have ec : (⟨true, c.xs⟩ : Cell) = c := by cases c; simp_all
      rw [ec]
      apply List.ext_getElem? 
      intro i
      by_cases hi : n = i
      · subst hi; rw [List.getElem?_set_self hn, hc]
      · rw [List.getElem?_set_ne hi]
    rw [e]
    exact R
  · have hz' : c.fz = false := by simpa using hz
    have hF := h4 hz'
    have le : Le F (upd F a (.lst vs)) := fun b o e => by
      rw [upd_ne (ne_of_none e hF)]; exact e
    refine ⟨upd F a (.lst vs), ⟨le, ⟨[], by simp, by simp⟩, fun _ _ h _ => h, fun _ h => h, fun b _ hb hf => by rw [upd_ne (fun z => hb (by rw [z]; exact List.mem_of_getElem? ha))]; exact hf⟩, ⟨fun b o e => ?_, by simpa using R.len, R.nod, fun m b d hb hd => ?_⟩, vs, upd_same, DrAll.mono le _ _ h2⟩
    · by_cases hb : b = a
      · subst hb; rw [upd_same] at e; cases e; exact h1
      · rw [upd_ne hb] at e; exact R.sub b o e
    · by_cases hm : n = m
      · subst hm
        rw [List.getElem?_set_self hn] at hd
        cases hd
        rw [ha] at hb; cases hb
        exact ⟨vs, h1, DrAll.mono le _ _ h2, fun _ => upd_same, (fun z => nomatch z)⟩
      · rw [List.getElem?_set_ne hm] at hd
        obtain ⟨us, k1, k2, k3, k4⟩ := R.cell m b d hb hd
        have hba : b ≠ a := fun z => by
          subst z
          exact hm (nodup_ixA R.nod ha hb)
        exact ⟨us, k1, DrAll.mono le _ _ k2, fun z => by rw [upd_ne hba]; exact k3 z, fun z => by rw [upd_ne hba]; exact k4 z⟩
where
  nodup_ixA {l : List Addr} (hN : l.Nodup) {i j : Nat} {x : Addr} (a : l[i]? = some x) (b : l[j]? = some x) : i = j := by
    obtain ⟨h1, e1⟩ := List.getElem?_eq_some_iff.mp a
    obtain ⟨h2, e2⟩ := List.getElem?_eq_some_iff.mp b
    exact (List.getElem_inj hN).mp (e1.trans e2.symm)
theorem toD_ok (R : Rel α F H μ) (r : RW K α F v w) {x : D} {μ' : MH} (h : toD w μ = some (x, μ')) : ∃ F', Ext α F H α F' H ∧ Rel α F' H μ' ∧ Dr F' v x := by
  cases w with
  | s ns => simp [toD] at h
  | d y =>
    simp only [toD, Option.some.injEq, Prod.mk.injEq] at h
    obtain ⟨rfl, rfl⟩ := h
    exact ⟨F, Ext.refl _ _ _, R, r⟩
  | c n =>
    obtain ⟨a, e, ha⟩ := r
    subst e
    simp only [toD] at h
    split at h
    · rename_i c hc
      simp only [Option.some.injEq, Prod.mk.injEq] at h
      obtain ⟨rfl, rfl⟩ := h
      obtain ⟨F', h1, h2, vs, h3, h4⟩ := R.freeze ha hc
      exact ⟨F', h1, h2, .lst h3 h4⟩
    · cases h
theorem toDs_ok : ∀ {ws : List W} {vs : List V} {F : Hp} {μ μ' : MH} {ds : List D}, Rel α F H μ → RWs K α F vs ws → toDs ws μ = some (ds, μ') → ∃ F', Ext α F H α F' H ∧ Rel α F' H μ' ∧ DrAll F' vs ds
  | [], _, F, μ, μ', ds, R, .nil, h => by
    simp only [toDs, Option.some.injEq, Prod.mk.injEq] at h
    obtain ⟨rfl, rfl⟩ := h
    exact ⟨F, Ext.refl _ _ _, R, .nil⟩
  | w :: ws, _, F, μ, μ', ds, R, .cons r t, h => by
    simp only [toDs] at h
    obtain ⟨x, m1, h1, h⟩ := bnd_inv h
    obtain ⟨xs, m2, h2, h⟩ := bnd_inv h
    simp only [Option.some.injEq, Prod.mk.injEq] at h
    obtain ⟨rfl, rfl⟩ := h
    obtain ⟨F1, e1, R1, d1⟩ := toD_ok R r h1
    obtain ⟨F2, e2, R2, d2⟩ := toDs_ok R1 (RWs.mono e1 t) h2
    exact ⟨F2, e1.trans e2, R2, .cons (Dr.mono e2.f _ _ d1) d2⟩
/-- a new object that is no cell -/
theorem Rel.new (R : Rel α F H μ) {p : Addr} {o : HO} (hp : H p = none) : Ext α F H α (upd F p o) (upd H p o) ∧ Rel α (upd F p o) (upd H p o) μ := by
  have hF : F p = none := by
    cases q : F p with
    | none => rfl
    | some u => rw [R.sub p u q] at hp; cases hp
  have le : Le F (upd F p o) := fun b u e => by rw [upd_ne (ne_of_none e hF)]; exact e
  refine ⟨⟨le, ⟨[], by simp, by simp⟩, fun b u e _ => by rw [upd_ne (ne_of_none e hp)]; exact e, fun b h => ?_, fun b hb _ hf => by rw [upd_ne (fun z => hb (by rw [z]; exact hp))]; exact hf⟩, ⟨fun b u e => ?_, R.len, R.nod, fun n a c ha hc => ?_⟩⟩
  · by_cases hb : b = p
    · subst hb; rw [upd_same]; simp
    · rw [upd_ne hb]; exact h
  · by_cases hb : b = p
    · subst hb; rw [upd_same] at e ⊢; exact e
    · rw [upd_ne hb] at e ⊢; exact R.sub b u e
  · obtain ⟨vs, h1, h2, h3, h4⟩ := R.cell n a c ha hc
    have hap : a ≠ p := ne_of_none h1 hp
    exact ⟨vs, by rw [upd_ne hap]; exact h1, DrAll.mono le _ _ h2, fun z => by rw [upd_ne hap]; exact h3 z, fun z => by rw [upd_ne hap]; exact h4 z⟩
/-- a new cell -/
theorem Rel.newC (R : Rel α F H μ) {p : Addr} {vs : List V} {ds : List D} (hp : H p = none) (hd : DrAll F vs ds) :
    Ext α F H (α ++ [p]) F (upd H p (.lst vs)) ∧ Rel (α ++ [p]) F (upd H p (.lst vs)) (μ ++ [⟨false, ds⟩]) := by
  have hF : F p = none := by
    cases q : F p with
    | none => rfl
    | some u => rw [R.sub p u q] at hp; cases hp
  have hne : ∀ a ∈ α, a ≠ p := fun a ha z => by
    subst z
    obtain ⟨n, hn⟩ := List.getElem?_of_mem ha
    have hl : n < μ.length := by rw [← R.len]; exact (List.getElem?_eq_some_iff.mp hn).1
    obtain ⟨vs, h1, _⟩ := R.cell n a _ hn (List.getElem?_eq_getElem hl)
    rw [h1] at hp; cases hp
  refine ⟨⟨Le.refl F, ⟨[p], rfl, fun b hb => ?_⟩, fun b u e _ => by rw [upd_ne (ne_of_none e hp)]; exact e, fun b h => ?_, fun _ _ _ h => h⟩, ⟨fun b u e => ?_, by simp [R.len], ?_, fun n a c ha hc => ?_⟩⟩
  · have : b = p := by simpa using hb
    rw [this]; exact hp
  · by_cases hb : b = p
    · subst hb; rw [upd_same]; simp
    · rw [upd_ne hb]; exact h
  · rw [upd_ne (ne_of_none e hF)]; exact R.sub b u e
  · rw [List.nodup_append]
    refine ⟨R.nod, by simp, fun a ha b hb => ?_⟩
    have : b = p := by simpa using hb
    rw [this]; exact hne a ha
  · by_cases hn : n < α.length
    · rw [List.getElem?_append_left hn] at ha
      rw [List.getElem?_append_left (by rw [← R.len]; exact hn)] at hc
      obtain ⟨us, h1, h2, h3, h4⟩ := R.cell n a c ha hc
      have hap : a ≠ p := ne_of_none h1 hp
      exact ⟨us, by rw [upd_ne hap]; exact h1, h2, h3, h4⟩
    · have e1 : n = α.length := by
        have := (List.getElem?_eq_some_iff.mp ha).1
        simp at this; omega
      subst e1
      rw [List.getElem?_append_right (Nat.le_refl _)] at ha
      rw [List.getElem?_append_right (by rw [R.len]; exact Nat.le_refl _), R.len] at hc
      simp at ha hc
      subst ha; subst hc
      exact ⟨vs, upd_same, hd, (fun z => nomatch z), fun _ => hF⟩
theorem newL_ok (R : Rel α F H μ) {p : Addr} {vs : List V} {ds : List D} (hp : H p = none) (hd : DrAll F vs ds) {live : Bool} {μ' : MH} (h : newL live ds μ = some (w, μ')) :
    vs.length ≤ sizeLine ∧ ∃ α' F', Ext α F H α' F' (upd H p (.lst vs)) ∧ Rel α' F' (upd H p (.lst vs)) μ' ∧ RW K α' F' (.ref p) w := by
  unfold newL at h
  split at h
  · rename_i hz
    refine ⟨by rw [hd.len]; exact hz, ?_⟩
    cases live with
    | true =>
      simp only [if_true, Option.some.injEq, Prod.mk.injEq] at h
      obtain ⟨rfl, rfl⟩ := h
      obtain ⟨h1, h2⟩ := R.newC hp hd
      refine ⟨_, _, h1, h2, p, rfl, ?_⟩
      rw [← R.len, List.getElem?_append_right (Nat.le_refl _)]
      simp
    | false =>
      simp only [Bool.false_eq_true, if_false, Option.some.injEq, Prod.mk.injEq] at h
      obtain ⟨rfl, rfl⟩ := h
      obtain ⟨h1, h2⟩ := R.new (o := .lst vs) hp
      exact ⟨_, _, h1, h2, .lst upd_same (DrAll.mono h1.f _ _ hd)⟩
  · cases h
/-- a live cell is written -/
theorem liveC_ok (R : Rel α F H μ) (r : RW K α F v w) {n : Nat} {xs : List D} (h : liveC w μ = some (n, xs)) :
    ∃ a vs, v = .ref a ∧ H a = some (.lst vs) ∧ DrAll F vs xs ∧ ∀ F1 us ys, Rel α F1 H μ → DrAll F1 us ys → Ext α F1 H α F1 (upd H a (.lst us)) ∧ Rel α F1 (upd H a (.lst us)) (setC n ys μ) := by
  cases w with
  | d y => simp [liveC] at h
  | s y => simp [liveC] at h
  | c m =>
    obtain ⟨a, e, ha⟩ := r
    simp only [liveC] at h
    split at h
    · rename_i c hc
      split at h
      · cases h
      · rename_i hz
        simp only [Option.some.injEq, Prod.mk.injEq] at h
        obtain ⟨rfl, rfl⟩ := h
        obtain ⟨vs, h1, h2, h3, h4⟩ := R.cell m a c ha hc
        refine ⟨a, vs, e, h1, h2, fun F1 us ys R1 hd => ?_⟩
        obtain ⟨ws, k1, k2, k3, k4⟩ := R1.cell m a c ha hc
        have hF : F1 a = none := k4 (by simpa using hz)
        have hm : m < μ.length := (List.getElem?_eq_some_iff.mp hc).1
        refine ⟨⟨Le.refl _, ⟨[], by simp, by simp⟩, fun b o hb hn => ?_, fun b hb => ?_, fun _ _ _ h => h⟩, ⟨fun b o e => ?_, by simpa [setC] using R1.len, R1.nod, fun j b d hb hd' => ?_⟩⟩
        · have : b ≠ a := fun z => hn (by rw [z]; exact List.mem_of_getElem? ha)
          rw [upd_ne this]; exact hb
        · by_cases z : b = a
          · subst z; rw [upd_same]; simp
          · rw [upd_ne z]; exact hb
        · rw [upd_ne (ne_of_none e hF)]; exact R1.sub b o e
        · unfold setC at hd'
          by_cases hj : m = j
          · subst hj
            rw [List.getElem?_set_self hm] at hd'
            cases hd'
            rw [ha] at hb; cases hb
            exact ⟨us, upd_same, hd, (fun z => nomatch z), fun _ => hF⟩
          · rw [List.getElem?_set_ne hj] at hd'
            obtain ⟨zs, l1, l2, l3, l4⟩ := R1.cell j b d hb hd'
            have hba : b ≠ a := fun z => by
              subst z
              exact hj (Rel.freeze.nodup_ixA R1.nod ha hb)
            exact ⟨zs, by rw [upd_ne hba]; exact l1, l2, l3, l4⟩
    · cases h
end
end MI

-- MiC
/-! readings of the small evaluator; operators, calls, methods by values -/
namespace MI
open PySem PySem.Spec L2

/-- what may follow a value -/
abbrev Kt (K : PySem.W.Frag) (α : List Addr) (F H : Hp) (w : W) (μ' : MH) (Q : VK) : Prop := ∀ α' F' H' v, Ext α F H α' F' H' → Rel α' F' H' μ' → RW K α' F' v w → Q v H'
def rdE (K : PySem.W.Frag) (m : En → MH → Option (W × MH)) : TE := fun σ H Q => ∃ α F μ env w μ', Rel α F H μ ∧ RE K α F σ env ∧ m env μ = some (w, μ') ∧ Kt K α F H w μ' Q
def rdT (K : PySem.W.Frag) (m : En → MH → Option (Bool × MH)) : TT := fun σ H Q => ∃ α F μ env b μ', Rel α F H μ ∧ RE K α F σ env ∧ m env μ = some (b, μ') ∧
  ∀ α' F' H', Ext α F H α' F' H' → Rel α' F' H' μ' → Q b H'
def rdA (K : PySem.W.Frag) (m : En → MH → Option (List W × MH)) : TA := fun σ H Q => ∃ α F μ env ws μ', Rel α F H μ ∧ RE K α F σ env ∧ m env μ = some (ws, μ') ∧
  ∀ α' F' H' vs, Ext α F H α' F' H' → Rel α' F' H' μ' → RWs K α' F' vs ws → Q vs H'
def rdO (K : PySem.W.Frag) (m : En → MH → Option (Option Int × MH)) : TO := fun σ H Q => ∃ α F μ env o μ', Rel α F H μ ∧ RE K α F σ env ∧ m env μ = some (o, μ') ∧
  ∀ α' F' H', Ext α F H α' F' H' → Rel α' F' H' μ' → Q o H'
/-- by values -/
def rd1 (K : PySem.W.Frag) (g : W → MH → Option (W × MH)) : V → Hp → VK → Prop := fun x H Q => ∃ α F μ a w μ', Rel α F H μ ∧ RW K α F x a ∧ g a μ = some (w, μ') ∧ Kt K α F H w μ' Q
def rd2 (K : PySem.W.Frag) (g : W → W → MH → Option (W × MH)) : R2 := fun x y H Q => ∃ α F μ a b w μ', Rel α F H μ ∧ RW K α F x a ∧ RW K α F y b ∧ g a b μ = some (w, μ') ∧ Kt K α F H w μ' Q
def rdC (K : PySem.W.Frag) (g : List W → MH → Option (W × MH)) : List V → Hp → VK → Prop := fun vs H Q => ∃ α F μ ws w μ', Rel α F H μ ∧ RWs K α F vs ws ∧ g ws μ = some (w, μ') ∧ Kt K α F H w μ' Q
def rdM (K : PySem.W.Frag) (g : W → List W → MH → Option (W × MH)) : V → List V → Hp → VK → Prop := fun x vs H Q => ∃ α F μ o ws w μ', Rel α F H μ ∧ RW K α F x o ∧ RWs K α F vs ws ∧ g o ws μ = some (w, μ') ∧ Kt K α F H w μ' Q
def rdSl (K : PySem.W.Frag) (live : Bool) : V → Option Int → Option Int → Hp → VK → Prop := fun x lo hi H Q => ∃ α F μ a w μ', Rel α F H μ ∧ RW K α F x a ∧ slW live a lo hi μ = some (w, μ') ∧ Kt K α F H w μ' Q

section
variable {X : Cx} {e : Expr} {t t' : TE}
theorem pe_imp (h : PE X e t) (i : ∀ σ H Q, t' σ H Q → t σ H Q) : PE X e t' := ⟨fun pins s σ H Q I q => h.run pins s σ H Q I (i _ _ _ q)⟩
theorem pt_imp {t t' : TT} (h : PT X e t) (i : ∀ σ H Q, t' σ H Q → t σ H Q) : PT X e t' := ⟨fun pins s σ H Q I q => h.run pins s σ H Q I (i _ _ _ q)⟩
theorem pw_imp {t t' : TT} (h : PW X e t) (i : ∀ σ H Q, t' σ H Q → t σ H Q) : PW X e t' := ⟨fun wh pins s σ H Q I q => h.run wh pins s σ H Q I (i _ _ _ q)⟩
theorem pa_imp {es : List Expr} {t t' : TA} (h : PA X es t) (i : ∀ σ H Q, t' σ H Q → t σ H Q) : PA X es t' := ⟨fun pos pins s σ H Q I q => h.run pos pins s σ H Q I (i _ _ _ q)⟩
theorem po_imp {o : Option Expr} {t t' : TO} (h : PO X o t) (i : ∀ σ H Q, t' σ H Q → t σ H Q) : PO X o t' := ⟨fun pins s σ H Q I q => h.run pins s σ H Q I (i _ _ _ q)⟩
end

section
variable {K : PySem.W.Frag} {σ : L2.St} {H : Hp} {Q : VK}
theorem rd_op {m1 m2 : En → MH → Option (W × MH)} {g : W → W → MH → Option (W × MH)} (h : rdE K (fun env μ => bnd (m1 env μ) fun x μ => bnd (m2 env μ) fun y μ => g x y μ) σ H Q) :
    tOp (rd2 K g) (rdE K m1) (rdE K m2) σ H Q := by
  obtain ⟨α, F, μ, env, w, μ', R, re, e, k⟩ := h
  obtain ⟨x, μ1, e1, e⟩ := bnd_inv e
  obtain ⟨y, μ2, e2, e3⟩ := bnd_inv e
  exact ⟨α, F, μ, env, x, μ1, R, re, e1, fun α1 F1 H1 v1 x1 R1 r1 => ⟨α1, F1, μ1, env, y, μ2, R1, re.mono x1, e2, fun α2 F2 H2 v2 x2 R2 r2 =>
    ⟨α2, F2, μ2, x, y, w, μ', R2, r1.mono x2, r2, e3, fun α3 F3 H3 v3 x3 R3 r3 => k _ _ _ _ ((x1.trans x2).trans x3) R3 r3⟩⟩⟩
theorem rd_un {m1 : En → MH → Option (W × MH)} {g : W → MH → Option (W × MH)} (h : rdE K (fun env μ => bnd (m1 env μ) fun x μ => g x μ) σ H Q) :
    tUn (rd1 K g) (rdE K m1) σ H Q := by
  obtain ⟨α, F, μ, env, w, μ', R, re, e, k⟩ := h
  obtain ⟨x, μ1, e1, e2⟩ := bnd_inv e
  exact ⟨α, F, μ, env, x, μ1, R, re, e1, fun α1 F1 H1 v1 x1 R1 r1 =>
    ⟨α1, F1, μ1, x, w, μ', R1, r1, e2, fun α3 F3 H3 v3 x3 R3 r3 => k _ _ _ _ (x1.trans x3) R3 r3⟩⟩
theorem rd_cb {m : En → MH → Option (List W × MH)} {g : List W → MH → Option (W × MH)} (h : rdE K (fun env μ => bnd (m env μ) fun ws μ => g ws μ) σ H Q) :
    tCB (rdC K g) (rdA K m) σ H Q := by
  obtain ⟨α, F, μ, env, w, μ', R, re, e, k⟩ := h
  obtain ⟨x, μ1, e1, e2⟩ := bnd_inv e
  exact ⟨α, F, μ, env, x, μ1, R, re, e1, fun α1 F1 H1 v1 x1 R1 r1 =>
    ⟨α1, F1, μ1, x, w, μ', R1, r1, e2, fun α3 F3 H3 v3 x3 R3 r3 => k _ _ _ _ (x1.trans x3) R3 r3⟩⟩
/-- the value is there, the heap stays -/
theorem kt_here {α : List Addr} {F : Hp} {w : W} {μ : MH} {v : V} (k : Kt K α F H w μ Q) (R : Rel α F H μ) (r : RW K α F v w) : Q v H := k _ _ _ _ (Ext.refl _ _ _) R r
theorem kt_new {α : List Addr} {F : Hp} {x : D} {μ : MH} {p : Addr} {o : HO} (k : Kt K α F H (.d x) μ Q) (R : Rel α F H μ) (hp : H p = none) (r : ∀ F', Le F F' → F' p = some o → Dr F' (.ref p) x) : Q (.ref p) (upd H p o) := by
  obtain ⟨h1, h2⟩ := R.new (o := o) hp
  exact k _ _ _ _ h1 h2 (r _ h1.f upd_same)
theorem kt_newL {α : List Addr} {F : Hp} {w : W} {μ μ' : MH} {p : Addr} {vs : List V} {ds : List D} {live : Bool} (k : Kt K α F H w μ' Q) (R : Rel α F H μ) (hd : DrAll F vs ds) (e : newL live ds μ = some (w, μ')) (hp : H p = none) :
    Q (.ref p) (upd H p (.lst vs)) := by
  obtain ⟨_, α', F', h1, h2, h3⟩ := newL_ok (K := K) R hp hd e
  exact k _ _ _ _ h1 h2 h3
theorem newL_len {live : Bool} {ds : List D} {μ μ' : MH} {w : W} (e : newL live ds μ = some (w, μ')) : ds.length ≤ sizeLine := by
  unfold newL at e
  split at e
  · assumption
  · cases e
end

/-! ### operators -/
theorem bopW_inv {live : Bool} {op : Bop} {x y w : W} {μ μ' : MH} (h : bopW live op x y μ = some (w, μ')) :
    (op = .add ∧ ∃ xs ys, seqW x μ = some (false, xs) ∧ seqW y μ = some (false, ys) ∧ newL live (xs ++ ys) μ = some (w, μ')) ∨ (∃ a b z, x = .d a ∧ y = .d b ∧ bopD op a b = some z ∧ w = .d z ∧ μ' = μ) := by
  unfold bopW at h
  split at h
  · rename_i xs ys e1 e2
    exact .inl ⟨rfl, xs, ys, e1, e2, h⟩
  · split at h
    · rename_i a b hh
      split at h
      · rename_i z e
        simp only [Option.some.injEq, Prod.mk.injEq] at h
        exact .inr ⟨a, b, z, rfl, rfl, e, h.1.symm, h.2.symm⟩
      · cases h
    · cases h
def opB : Bop → Operator → Bool
  | .add, .Add => true
  | .sub, .Sub => true
  | .mul, .Mult => true
  | .fdiv, .FloorDiv => true
  | .mod, .Mod => true
  | .pow, .Pow => true
  | .shl, .LShift => true
  | .shr, .RShift => true
  | .band, .BitAnd => true
  | .bxor, .BitXor => true
  | _, _ => false
section
variable {X : Cx}
theorem op_fdivM : OpR X (binaryOp .FloorDiv) (rI (fun _ j => j ≠ 0 ∧ j.natAbs.log2 < 9000) fun i j => .int (i.fdiv j)) :=
  opI fun i j _ _ _ _ _ hc q => PyProof.Rows.floordiv_int hc.1 q (.inl (PyProof.noPylong_of_log2 hc.2))
theorem dr_int {F : Hp} {v : V} {i : Int} (h : Dr F v (.int i)) : v = .int i := by cases h; rfl
theorem dr_bool {F : Hp} {v : V} {i : Bool} (h : Dr F v (.bool i)) : v = .bl i := by cases h; rfl
theorem dr_none {F : Hp} {v : V} (h : Dr F v .none) : v = .non := by cases h; rfl
theorem op_bop {op : Bop} {o : Operator} (ho : opB op o = true) (live : Bool) : OpR X (binaryOp o) (rd2 X.K (bopW live op)) := by
  intro pins s σ H x y v u Q I rx ry h
  obtain ⟨α, F, μ, a, b, w, μ', R, ra, rb, e, k⟩ := h
  rcases bopW_inv e with ⟨rfl, xs, ys, e1, e2, e3⟩ | ⟨da, db, z, rfl, rfl, e1, rfl, rfl⟩
  · cases o <;> simp [opB] at ho
    obtain ⟨pa, vs, rfl, d1, _, l1⟩ := seqW_ok R ra e1
    obtain ⟨pb, us, rfl, d2, _, l2⟩ := seqW_ok R rb e2
    have hz := newL_len e3
    rw [List.length_append, ← d1.len, ← d2.len] at hz
    exact op_cat pins s σ H _ _ v u Q I rx ry ⟨pa, pb, vs, us, rfl, rfl, l1 rfl, l2 rfl, hz, fun p hp => kt_newL k R (d1.app d2) e3 hp⟩
  · have ra : Dr F x da := ra
    have rb : Dr F y db := rb
    unfold bopD at e1
    split at e1 <;> (first | (cases e1; done) | skip)
    all_goals (cases o <;> simp [opB] at ho)
    · cases e1
      exact op_add pins s σ H _ _ v u Q I rx ry ⟨_, _, dr_int ra, dr_int rb, kt_here k R (.int _)⟩
    · cases e1
      exact op_sub pins s σ H _ _ v u Q I rx ry ⟨_, _, dr_int ra, dr_int rb, kt_here k R (.int _)⟩
    · split at e1
      · rename_i hc
        cases e1
        exact op_mulW pins s σ H _ _ v u Q I rx ry ⟨_, _, dr_int ra, dr_int rb, (by unfold mulOk at hc; have hc := of_decide_eq_true hc; exact hc), kt_here k R (.int _)⟩
      · cases e1
    · split at e1
      · rename_i hc
        cases e1
        simp only [divOk, Bool.and_eq_true, decide_eq_true_eq] at hc
        exact op_fdivM pins s σ H _ _ v u Q I rx ry ⟨_, _, dr_int ra, dr_int rb, hc, kt_here k R (.int _)⟩
      · cases e1
    · split at e1
      · rename_i hc
        cases e1
        exact op_modN pins s σ H _ _ v u Q I rx ry ⟨_, _, dr_int ra, dr_int rb, of_decide_eq_true hc, kt_here k R (.int _)⟩
      · cases e1
    · split at e1
      · rename_i hc
        cases e1
        simp only [powOk, Bool.and_eq_true, decide_eq_true_eq] at hc
        exact op_pow pins s σ H _ _ v u Q I rx ry ⟨_, _, dr_int ra, dr_int rb, ⟨hc.1.1, hc.1.2, hc.2⟩, kt_here k R (.int _)⟩
      · cases e1
    · split at e1
      · rename_i hc
        cases e1
        simp only [powOk, Bool.and_eq_true, decide_eq_true_eq] at hc
        exact op_shl pins s σ H _ _ v u Q I rx ry ⟨_, _, dr_int ra, dr_int rb, ⟨hc.1.1, hc.1.2, hc.2⟩, kt_here k R (.int _)⟩
      · cases e1
    · split at e1
      · rename_i hc
        cases e1
        exact op_shr pins s σ H _ _ v u Q I rx ry ⟨_, _, dr_int ra, dr_int rb, of_decide_eq_true hc, kt_here k R (.int _)⟩
      · cases e1
    · cases e1
      exact op_and pins s σ H _ _ v u Q I rx ry ⟨_, _, dr_int ra, dr_int rb, kt_here k R (.int _)⟩
    · cases e1
      exact op_xor pins s σ H _ _ v u Q I rx ry ⟨_, _, dr_int ra, dr_int rb, kt_here k R (.int _)⟩
    · split at e1
      · rename_i xs ys hz
        cases e1
        cases ra with
        | tup a1 a2 =>
          cases rb with
          | tup b1 b2 =>
            refine op_catA pins s σ H _ _ v u Q I rx ry ⟨_, _, _, _, rfl, rfl, SqT.of (R.sub _ _ a1), SqT.of (R.sub _ _ b1), by rw [a2.len, b2.len]; exact hz, fun z => ?_, fun z1 z2 => ?_, fun _ _ p hp => ?_⟩
            · subst z
              cases a2
              exact kt_here k R (.tup b1 b2)
            · subst z2
              cases b2
              rw [List.append_nil] at k
              exact kt_here k R (.tup a1 a2)
            · exact kt_new k R hp fun F' le hF => .tup hF ((DrAll.mono le _ _ a2).app (DrAll.mono le _ _ b2))
      · cases e1

/-! ### comparisons -/
def cmpV (op : Cop) (x y : W) (μ : MH) : Option (W × MH) :=
  match cmpW op x y μ with
  | some r => some (.d (.bool r), μ)
  | none => none
def cmB : Cop → CmpOp → Bool
  | .eq, .Eq => true
  | .ne, .NotEq => true
  | .lt, .Lt => true
  | .le, .LtE => true
  | .gt, .Gt => true
  | .ge, .GtE => true
  | .is, .Is => true
  | .isnot, .IsNot => true
  | .inn, .In => true
  | .nin, .NotIn => true
  | _, _ => false
theorem cmpV_inv {op : Cop} {x y w : W} {μ μ' : MH} (h : cmpV op x y μ = some (w, μ')) : ∃ r, cmpW op x y μ = some r ∧ w = .d (.bool r) ∧ μ' = μ := by
  unfold cmpV at h
  split at h
  · rename_i r e
    simp only [Option.some.injEq, Prod.mk.injEq] at h
    exact ⟨r, e, h.1.symm, h.2.symm⟩
  · cases h
theorem rw_non {K : PySem.W.Frag} {α : List Addr} {F : Hp} {x : V} {a : W} (r : RW K α F x a) : decide (x = .non) = isNoneW a := by
  cases a with
  | c n => obtain ⟨p, rfl, _⟩ := r; rfl
  | s n => obtain ⟨p, rfl, _⟩ := r; rfl
  | d z =>
    cases r <;> rfl
theorem op_cop {op : Cop} {o : CmpOp} (ho : cmB op o = true) (hu : X.A.units + 65 < cLine) : OpR X (compareOp o) (rd2 X.K (cmpV op)) := by
  intro pins s σ H x y v u Q I rx ry h
  obtain ⟨α, F, μ, a, b, w, μ', R, ra, rb, e, k⟩ := h
  have q := cmpV_inv e
  clear e
  obtain ⟨r, e, rfl, rfl⟩ := q
  have fin : ∀ r', r' = r → Q (.bl r') H := fun r' z => by rw [z]; exact kt_here k R (.bl r)
  cases op <;> cases o <;> simp [cmB] at ho
  · simp only [cmpW] at e
    split at e
    · rename_i da db h1 h2
      split at e
      · rename_i hs
        simp only [Option.some.injEq] at e
        rw [Bool.and_eq_true] at hs
        exact op_eqD (by omega) pins s σ H _ _ v u Q I rx ry ⟨da, db, Dr.dp _ _ (peek_ok R ra h1), Dr.dp _ _ (peek_ok R rb h2), hs.1, hs.2, fin _ e⟩
      · cases e
    · cases e
  · simp only [cmpW] at e
    split at e
    · rename_i da db h1 h2
      split at e
      · rename_i hs
        simp only [Option.some.injEq] at e
        rw [Bool.and_eq_true] at hs
        exact op_neD (by omega) pins s σ H _ _ v u Q I rx ry ⟨da, db, Dr.dp _ _ (peek_ok R ra h1), Dr.dp _ _ (peek_ok R rb h2), hs.1, hs.2, fin _ e⟩
      · cases e
    · cases e
  · simp only [cmpW] at e
    split at e
    · simp only [Option.some.injEq] at e
      exact op_lt pins s σ H _ _ v u Q I rx ry ⟨_, _, dr_int ra, dr_int rb, fin _ e⟩
    · cases e
  · simp only [cmpW] at e
    split at e
    · simp only [Option.some.injEq] at e
      exact op_le pins s σ H _ _ v u Q I rx ry ⟨_, _, dr_int ra, dr_int rb, fin _ e⟩
    · cases e
  · simp only [cmpW] at e
    split at e
    · simp only [Option.some.injEq] at e
      exact op_gt pins s σ H _ _ v u Q I rx ry ⟨_, _, dr_int ra, dr_int rb, fin _ e⟩
    · cases e
  · simp only [cmpW] at e
    split at e
    · simp only [Option.some.injEq] at e
      exact op_ge pins s σ H _ _ v u Q I rx ry ⟨_, _, dr_int ra, dr_int rb, fin _ e⟩
    · cases e
  · have hn : b = .d .none ∧ r = isNoneW a := by
      simp only [cmpW] at e
      split at e
      · simp only [Option.some.injEq] at e
        exact ⟨rfl, e.symm⟩
      · rename_i hx
        simp only [Option.some.injEq] at e
        refine ⟨rfl, ?_⟩
        rw [← e]
        symm
        unfold isNoneW
        split
        · exact (hx rfl).elim
        · rfl
      · cases e
    obtain ⟨rfl, hr⟩ := hn
    exact op_isN pins s σ H _ _ v u Q I rx ry ⟨dr_none rb, fin _ (by rw [rw_non ra, hr])⟩
  · have hn : b = .d .none ∧ r = !isNoneW a := by
      simp only [cmpW] at e
      split at e
      · simp only [Option.some.injEq] at e
        exact ⟨rfl, e.symm⟩
      · rename_i hx
        simp only [Option.some.injEq] at e
        refine ⟨rfl, ?_⟩
        rw [← e]
        symm
        unfold isNoneW
        split
        · exact (hx rfl).elim
        · rfl
      · cases e
    obtain ⟨rfl, hr⟩ := hn
    exact op_notN pins s σ H _ _ v u Q I rx ry ⟨dr_none rb, fin _ (by rw [rw_non ra, hr])⟩
  · simp only [cmpW] at e
    split at e
    · rename_i da db h1 h2
      split at e
      · rename_i hs
        simp only [Option.some.injEq] at e
        rw [Bool.and_eq_true] at hs
        exact op_inD hu pins s σ H _ _ v u Q I rx ry ⟨da, db, Dr.dp _ _ (peek_ok R ra h1), Dr.dp _ _ (peek_ok R rb h2), hs.1, hs.2, fin _ e⟩
      · cases e
    · cases e
  · simp only [cmpW] at e
    split at e
    · rename_i da db h1 h2
      split at e
      · rename_i hs
        simp only [Option.some.injEq] at e
        rw [Bool.and_eq_true] at hs
        exact op_notInD hu pins s σ H _ _ v u Q I rx ry ⟨da, db, Dr.dp _ _ (peek_ok R ra h1), Dr.dp _ _ (peek_ok R rb h2), hs.1, hs.2, fin _ e⟩
      · cases e
    · cases e
end
end MI

-- MiD
/-! calls of built-ins, subscripts, slices, methods, targets by values -/
namespace MI
open PySem PySem.Spec L2

theorem intsD_ok : ∀ {ds : List D} {ns : List Int}, intsD ds = some ns → ds = ns.map PyData.int
  | [], ns, h => by simp [intsD] at h; subst h; rfl
  | d :: ds, ns, h => by
    cases d <;> simp [intsD] at h
    rename_i i
    split at h
    · rename_i l e
      simp at h
      subst h
      rw [intsD_ok e]; rfl
    · cases h
theorem dr_ints {F : Hp} : ∀ {vs : List V} {ns : List Int}, DrAll F vs (ns.map PyData.int) → vs = ns.map V.int
  | _, [], h => by cases h; rfl
  | _, n :: ns, h => by
    cases h with
    | cons h1 h2 =>
      rw [dr_int h1, dr_ints h2]; rfl
theorem maxL_mem : ∀ (x : Int) (r : List Int), maxL (x :: r) ∈ x :: r
  | x, [] => by simp [maxL]
  | x, y :: r => by
    have := maxL_mem y r
    simp only [maxL]
    rcases Int.le_total x (maxL (y :: r)) with h | h
    · rw [Int.max_eq_right h]; exact List.mem_cons_of_mem _ this
    · rw [Int.max_eq_left h]; exact List.mem_cons_self
theorem maxL_ge : ∀ (x : Int) (r : List Int) (z : Int), z ∈ x :: r → z ≤ maxL (x :: r)
  | x, [], z, h => by simp at h; simp [maxL, h]
  | x, y :: r, z, h => by
    simp only [maxL]
    rcases List.mem_cons.mp h with e | h
    · subst e; exact Int.le_max_left _ _
    · exact Int.le_trans (maxL_ge y r z h) (Int.le_max_right _ _)
theorem minL_mem : ∀ (x : Int) (r : List Int), minL (x :: r) ∈ x :: r
  | x, [] => by simp [minL]
  | x, y :: r => by
    have := minL_mem y r
    simp only [minL]
    rcases Int.le_total x (minL (y :: r)) with h | h
    · rw [Int.min_eq_left h]; exact List.mem_cons_self
    · rw [Int.min_eq_right h]; exact List.mem_cons_of_mem _ this
theorem minL_le : ∀ (x : Int) (r : List Int) (z : Int), z ∈ x :: r → minL (x :: r) ≤ z
  | x, [], z, h => by simp at h; simp [minL, h]
  | x, y :: r, z, h => by
    simp only [minL]
    rcases List.mem_cons.mp h with e | h
    · subst e; exact Int.min_le_left _ _
    · exact Int.le_trans (Int.min_le_right _ _) (minL_le y r z h)

/-! ### max, min of a tuple of ints -/
section
variable {prog : Program} {w : World} {A : Around} {E : Value → Shared → Prop} {s : Shared} {l : Addr} {its : List Value} {ns : List Int} {Q : Value → Shared → Prop}
theorem old_kept2 {h h₂ h' : Heap} {it : Addr} {o : Obj} (e2 : h₂ = h.push o) (hit : it = h.objs.size) (hk : ∀ b u, b ∉ [it] → h₂.get? b = some u → h'.get? b = some u) : ∀ b u, h.get? b = some u → h'.get? b = some u := fun b u e => by
  refine hk b u (fun hb => ?_) (by rw [e2]; exact Heap.get?_push_of_some _ e)
  have : b = it := by simpa using hb
  rw [this, hit] at e
  exact absurd (Heap.lt_size e) (Nat.lt_irrefl _)
theorem max_rawT (hh : A.handled = none) (hl : s.heap.IsTuple l its.toArray) (hi : PyProof.Rows.IntsAre its ns) (hne : 0 < ns.length)
    (h : ∀ h' tk M t', (∀ b o, s.heap.get? b = some o → h'.get? b = some o) → M ∈ ns → (∀ a, a ∈ ns → a ≤ M) → Q (.int M t') { s with heap := h', toks := tk }) : wpAny (model prog w) A (call (.builtin "max") [.ref l]) Q E s := by
  obtain ⟨xs, e⟩ := hi.allInts.items
  have hn : numsOf (intItems xs).toList = ns := by rw [← e]; exact hi.numsOf
  rw [nums_intItems] at hn
  subst hn
  rw [e] at hl
  have hsz : 0 < xs.size := by simpa using hne
  have hlt : l < s.heap.objs.size := by obtain ⟨_, e, _⟩ := hl; exact Heap.lt_size e
  refine call_max_walk (wpAny_pyIter_tuple hl ?_)
  refine ⟨_, [s.heap.objs.size, l], [s.heap.objs.size], _, _, _, _, rfl, Walks.tuple (A := A.in1) hh _ l (Nat.ne_of_lt hlt) (intItems xs), ⟨⟨_, Heap.get?_push_size _ rfl, rfl, rfl⟩, hl.push _⟩, fun b hb => ?_, by simpa [intItems] using hsz,
    CmpOf.ints_gt (numAt xs) (fun _ _ => intItems_at), fun v h' tk hP hk => ?_⟩
  · show b < (s.heap.push _).objs.size
    rw [Heap.size_push]
    rcases List.mem_cons.mp hb with rfl | hb
    · exact Nat.lt_succ_self _
    · rcases List.mem_cons.mp hb with rfl | hb
      · exact Nat.lt_succ_of_lt hlt
      · cases hb
  · have hv : (intItems xs)[argBest (fun i j => decide (numAt xs i > numAt xs j)) (xs.size - 1)]? = some v := by simpa [intItems] using hP
    obtain ⟨t, rfl⟩ := intItems_at hv
    obtain ⟨h1, h2⟩ := argBest_gt (numAt xs) (xs.size - 1)
    refine h h' tk _ t (old_kept2 rfl rfl hk) ?_ fun a ha => ?_
    · rw [numAt_eq]; exact PySem.getD_mem (by rw [List.length_map, Array.length_toList]; omega)
    · obtain ⟨j, hj, rfl⟩ := mem_getD ha
      rw [List.length_map, Array.length_toList] at hj
      rw [← numAt_eq]; exact h2 j (by omega)
theorem min_rawT (hh : A.handled = none) (hl : s.heap.IsTuple l its.toArray) (hi : PyProof.Rows.IntsAre its ns) (hne : 0 < ns.length)
    (h : ∀ h' tk M t', (∀ b o, s.heap.get? b = some o → h'.get? b = some o) → M ∈ ns → (∀ a, a ∈ ns → M ≤ a) → Q (.int M t') { s with heap := h', toks := tk }) : wpAny (model prog w) A (call (.builtin "min") [.ref l]) Q E s := by
  obtain ⟨xs, e⟩ := hi.allInts.items
  have hn : numsOf (intItems xs).toList = ns := by rw [← e]; exact hi.numsOf
  rw [nums_intItems] at hn
  subst hn
  rw [e] at hl
  have hsz : 0 < xs.size := by simpa using hne
  have hlt : l < s.heap.objs.size := by obtain ⟨_, e, _⟩ := hl; exact Heap.lt_size e
  refine call_min_walk (wpAny_pyIter_tuple hl ?_)
  refine ⟨_, [s.heap.objs.size, l], [s.heap.objs.size], _, _, _, _, rfl, Walks.tuple (A := A.in1) hh _ l (Nat.ne_of_lt hlt) (intItems xs), ⟨⟨_, Heap.get?_push_size _ rfl, rfl, rfl⟩, hl.push _⟩, fun b hb => ?_, by simpa [intItems] using hsz,
    CmpOf.ints_lt (numAt xs) (fun _ _ => intItems_at), fun v h' tk hP hk => ?_⟩
  · show b < (s.heap.push _).objs.size
    rw [Heap.size_push]
    rcases List.mem_cons.mp hb with rfl | hb
    · exact Nat.lt_succ_self _
    · rcases List.mem_cons.mp hb with rfl | hb
      · exact Nat.lt_succ_of_lt hlt
      · cases hb
  · have hv : (intItems xs)[argBest (fun i j => decide (numAt xs i < numAt xs j)) (xs.size - 1)]? = some v := by simpa [intItems] using hP
    obtain ⟨t, rfl⟩ := intItems_at hv
    obtain ⟨h1, h2⟩ := argBest_lt (numAt xs) (xs.size - 1)
    refine h h' tk _ t (old_kept2 rfl rfl hk) ?_ fun a ha => ?_
    · rw [numAt_eq]; exact PySem.getD_mem (by rw [List.length_map, Array.length_toList]; omega)
    · obtain ⟨j, hj, rfl⟩ := mem_getD ha
      rw [List.length_map, Array.length_toList] at hj
      rw [← numAt_eq]; exact h2 j (by omega)
end
theorem best_max {x : Int} {r : List Int} {m : Int} (h1 : m ∈ x :: r) (h2 : ∀ y, y ∈ x :: r → y ≤ m) : m = maxL (x :: r) :=
  Int.le_antisymm (maxL_ge x r m h1) (h2 _ (maxL_mem x r))
theorem best_min {x : Int} {r : List Int} {m : Int} (h1 : m ∈ x :: r) (h2 : ∀ y, y ∈ x :: r → m ≤ y) : m = minL (x :: r) :=
  Int.le_antisymm (h2 _ (minL_mem x r)) (minL_le x r m h1)

/-! ### built-in calls -/
section
variable {X : Cx}
def biVal : Bi → Value
  | .len => .builtin "len"
  | .int => .type "int"
  | .abs => .builtin "abs"
  | .max => .builtin "max"
  | .min => .builtin "min"
  | .list => .type "list"
  | .tuple => .type "tuple"
  | .sum => .builtin "sum"
  | .any => .builtin "any"
  | .all => .builtin "all"
  | .gcd => .builtin "math.gcd"
  | .range => .type "range"
theorem rws_one {K : PySem.W.Frag} {α : List Addr} {F : Hp} {vs : List V} {w : W} (h : RWs K α F vs [w]) : ∃ v, vs = [v] ∧ RW K α F v w := by
  cases h with
  | cons h t => cases t; exact ⟨_, rfl, h⟩
theorem rws_two {K : PySem.W.Frag} {α : List Addr} {F : Hp} {vs : List V} {w u : W} (h : RWs K α F vs [w, u]) : ∃ v x, vs = [v, x] ∧ RW K α F v w ∧ RW K α F x u := by
  cases h with
  | cons h t =>
    obtain ⟨x, rfl, h2⟩ := rws_one t
    exact ⟨_, _, rfl, h, h2⟩
theorem cr_bi (b : Bi) (hc : X.calm = true) (live : Bool) : CallR X (biVal b) (rdC X.K (biW b live)) := by
  intro pins s σ H vs us Q I r h
  obtain ⟨α, F, μ, ws, w, μ', R, rs, e, k⟩ := h
  unfold biW at e
  split at e
  · -- len of the script
    simp only [Option.some.injEq, Prod.mk.injEq] at e
    obtain ⟨rfl, rfl⟩ := e
    obtain ⟨v, rfl, a, rfl, hs⟩ := rws_one rs
    refine call_len_seq pins s σ H _ us Q I r ⟨a, _, rfl, .inl (R.sub.sq hs), ?_⟩
    rw [List.length_map]
    exact kt_here k R (.int _)
  · split at e
    · rename_i t ds hq
      simp only [Option.some.injEq, Prod.mk.injEq] at e
      obtain ⟨rfl, rfl⟩ := e
      obtain ⟨v, rfl, rv⟩ := rws_one rs
      obtain ⟨a, vs, rfl, d, h1, h2⟩ := seqW_ok R rv hq
      refine call_len_seq pins s σ H _ us Q I r ⟨a, vs, rfl, ?_, ?_⟩
      · cases t with
        | true => exact .inr (SqT.of (h1 rfl).2)
        | false => exact .inl (SqL.of (h2 rfl))
      · rw [d.len]; exact kt_here k R (.int _)
    · cases e
  · simp only [Option.some.injEq, Prod.mk.injEq] at e
    obtain ⟨rfl, rfl⟩ := e
    obtain ⟨v, rfl, rv⟩ := rws_one rs
    exact call_int1 pins s σ H _ us Q I r (.inl ⟨_, by rw [dr_int rv], kt_here k R (.int _)⟩)
  · simp only [Option.some.injEq, Prod.mk.injEq] at e
    obtain ⟨rfl, rfl⟩ := e
    obtain ⟨v, rfl, rv⟩ := rws_one rs
    exact call_int1 pins s σ H _ us Q I r (.inr ⟨_, by rw [dr_bool rv], kt_here k R (.int _)⟩)
  · simp only [Option.some.injEq, Prod.mk.injEq] at e
    obtain ⟨rfl, rfl⟩ := e
    obtain ⟨v, rfl, rv⟩ := rws_one rs
    exact call_abs pins s σ H _ us Q I r ⟨_, by rw [dr_int rv], kt_here k R (.int _)⟩
  · simp only [Option.some.injEq, Prod.mk.injEq] at e
    obtain ⟨rfl, rfl⟩ := e
    obtain ⟨v, x, rfl, rv, rx⟩ := rws_two rs
    exact call_max2 hc pins s σ H _ us Q I r ⟨_, _, by rw [dr_int rv, dr_int rx], kt_here k R (.int _)⟩
  · simp only [Option.some.injEq, Prod.mk.injEq] at e
    obtain ⟨rfl, rfl⟩ := e
    obtain ⟨v, x, rfl, rv, rx⟩ := rws_two rs
    exact call_min2 hc pins s σ H _ us Q I r ⟨_, _, by rw [dr_int rv, dr_int rx], kt_here k R (.int _)⟩
  · split at e
    · rename_i t ds hq
      split at e
      · rename_i i is hi
        simp only [Option.some.injEq, Prod.mk.injEq] at e
        obtain ⟨rfl, rfl⟩ := e
        obtain ⟨v, rfl, rv⟩ := rws_one rs
        obtain ⟨a, vs, rfl, d, h1, h2⟩ := seqW_ok R rv hq
        rw [intsD_ok hi] at d
        have ev := dr_ints d
        subst ev
        have fin : ∀ m, m ∈ i :: is → (∀ y, y ∈ i :: is → y ≤ m) → Q (.int m) H := fun m q1 q2 => by
          rw [best_max q1 q2]; exact kt_here k R (.int _)
        cases t with
        | false => exact cr_max hc pins s σ H _ us Q I r ⟨a, i :: is, rfl, SqL.of (h2 rfl), by simp, fin⟩
        | true =>
          obtain ⟨its, rv2, hl, _⟩ := I.tuple (SqT.of (h1 rfl).2)
          rw [Vals.ref1 r]
          exact max_rawT (I.ok.hd hc) hl rv2.ints (by simp) fun h' tk m t' hk h1 h2 => ⟨.int _, H, I.kept hk, ⟨_, rfl⟩, fin m h1 h2⟩
      · cases e
    · cases e
  · split at e
    · rename_i t ds hq
      split at e
      · rename_i i is hi
        simp only [Option.some.injEq, Prod.mk.injEq] at e
        obtain ⟨rfl, rfl⟩ := e
        obtain ⟨v, rfl, rv⟩ := rws_one rs
        obtain ⟨a, vs, rfl, d, h1, h2⟩ := seqW_ok R rv hq
        rw [intsD_ok hi] at d
        have ev := dr_ints d
        subst ev
        have fin : ∀ m, m ∈ i :: is → (∀ y, y ∈ i :: is → m ≤ y) → Q (.int m) H := fun m q1 q2 => by
          rw [best_min q1 q2]; exact kt_here k R (.int _)
        cases t with
        | false => exact cr_min hc pins s σ H _ us Q I r ⟨a, i :: is, rfl, SqL.of (h2 rfl), by simp, fin⟩
        | true =>
          obtain ⟨its, rv2, hl, _⟩ := I.tuple (SqT.of (h1 rfl).2)
          rw [Vals.ref1 r]
          exact min_rawT (I.ok.hd hc) hl rv2.ints (by simp) fun h' tk m t' hk h1 h2 => ⟨.int _, H, I.kept hk, ⟨_, rfl⟩, fin m h1 h2⟩
      · cases e
    · cases e
  · split at e
    · rename_i t ds hq
      obtain ⟨v, rfl, rv⟩ := rws_one rs
      obtain ⟨a, vs, rfl, d, h1, h2⟩ := seqW_ok R rv hq
      refine call_list_of pins s σ H _ us Q I r ⟨a, vs, rfl, ?_, fun l hl => kt_newL k R d e hl⟩
      cases t with
      | true => exact .inr (SqT.of (h1 rfl).2)
      | false => exact .inl (SqL.of (h2 rfl))
    · cases e
  · split at e
    · rename_i t ds hq
      simp only [Option.some.injEq, Prod.mk.injEq] at e
      obtain ⟨rfl, rfl⟩ := e
      obtain ⟨v, rfl, rv⟩ := rws_one rs
      obtain ⟨a, vs, rfl, d, h1, h2⟩ := seqW_ok R rv hq
      refine call_tuple_of pins s σ H _ us Q I r ⟨a, vs, rfl, ?_⟩
      cases t with
      | true => exact .inr ⟨SqT.of (h1 rfl).2, kt_here k R (.tup (h1 rfl).1 d)⟩
      | false => exact .inl ⟨SqL.of (h2 rfl), fun l hl => kt_new k R hl fun F' le hF => .tup hF (DrAll.mono le _ _ d)⟩
    · cases e
  · simp only [Option.some.injEq, Prod.mk.injEq] at e
    obtain ⟨rfl, rfl⟩ := e
    obtain ⟨v, x, rfl, rv, rx⟩ := rws_two rs
    exact cr_gcd pins s σ H _ us Q I r ⟨_, _, by rw [dr_int rv, dr_int rx], kt_here k R (.int _)⟩
  · cases e

/-! ### isinstance -/
def tyN : Ty → String
  | .int => "int"
  | .bool => "bool"
  | .str => "str"
  | .list => "list"
  | .tuple => "tuple"
/-- a value's type -/
theorem ty_ok {α : List Addr} {F H : Hp} {μ : MH} {v : V} {w : W} (R : Rel α F H μ) (r : RW X.K α F v w) {t : Ty} (h : tyW w = some t) (hc : ∀ n, w = .c n → ∃ c, μ[n]? = some c) : TyOf X.K H v (.type (tyN t)) := by
  cases w with
  | s n => simp [tyW] at h
  | c n =>
    obtain ⟨a, rfl, ha⟩ := r
    simp [tyW] at h
    subst h
    obtain ⟨c, hc⟩ := hc n rfl
    obtain ⟨vs, h1, _⟩ := R.cell n a c ha hc
    exact .lst h1
  | d x =>
    cases r <;> simp [tyW] at h <;> subst h
    · exact .bl _
    · exact .int _
    · exact .str _
    · rename_i h1 h2; exact .lst (R.sub _ _ h1)
    · rename_i h1 h2; exact .tup (R.sub _ _ h1)
end

/-! ### subscripts -/
section
variable {X : Cx}
theorem atI_dr {F : Hp} {vs : List V} {ds : List D} {k : Int} {z : D} (h : DrAll F vs ds) (e : atI ds k = some z) : ∃ v, atI vs k = some v ∧ Dr F v z := by
  unfold atI at e ⊢
  rw [h.len]
  cases hx : ixN ds.length k with
  | none => rw [hx] at e; cases e
  | some j =>
    rw [hx] at e
    exact h.get e
theorem atI_map {xs : List Int} {k z : Int} (e : atI xs k = some z) : atI (xs.map V.int) k = some (.int z) := by
  unfold atI at e ⊢
  rw [List.length_map]
  cases hx : ixN xs.length k with
  | none => rw [hx] at e; cases e
  | some j =>
    rw [hx] at e
    show (xs.map V.int)[j]? = _
    rw [List.getElem?_map]
    have e : xs[j]? = some z := e
    rw [e]; rfl
theorem ixr : IxR X (rd2 X.K ixW) := by
  intro value slice pins s σ H x y v u Q I rx ry h hs
  obtain ⟨α, F, μ, a, b, w, μ', R, ra, rb, e, k⟩ := h
  unfold ixW at e
  split at e
  · rename_i i
    have ey : y = .int i := dr_int rb
    split at e
    · rename_i xs
      split at e
      · rename_i z hz
        simp only [Option.some.injEq, Prod.mk.injEq] at e
        obtain ⟨rfl, rfl⟩ := e
        obtain ⟨p, rfl, hp⟩ := ra
        exact ix_list value slice pins s σ H _ _ v u Q I rx ry ⟨p, _, i, _, rfl, ey, R.sub.sq hp, atI_map hz, kt_here k R (.int _)⟩ hs
      · cases e
    · split at e
      · rename_i t ds hq
        split at e
        · rename_i z hz
          simp only [Option.some.injEq, Prod.mk.injEq] at e
          obtain ⟨rfl, rfl⟩ := e
          obtain ⟨p, vs, rfl, d, h1, h2⟩ := seqW_ok R ra hq
          obtain ⟨vz, hvz, rz⟩ := atI_dr d hz
          cases t with
          | true => exact ix_tup value slice pins s σ H _ _ v u Q I rx ry ⟨p, vs, i, vz, rfl, ey, SqT.of (h1 rfl).2, hvz, kt_here k R rz⟩ hs
          | false => exact ix_list value slice pins s σ H _ _ v u Q I rx ry ⟨p, vs, i, vz, rfl, ey, SqL.of (h2 rfl), hvz, kt_here k R rz⟩ hs
        · cases e
      · cases e
  · cases e
theorem cut_ints (xs : List Int) (lo hi : Option Int) : cutV (xs.map V.int) lo hi = (cutD xs lo hi).map V.int := by
  unfold cutV cutD
  rw [List.length_map, List.map_take, List.map_drop]
theorem slr (live : Bool) : SlR X (rdSl X.K live) := by
  intro pins s σ H x v vl vu lo hi sl Q I rx hs pl pu h
  obtain ⟨α, F, μ, a, w, μ', R, ra, e, k⟩ := h
  unfold slW at e
  split at e
  · rename_i xs
    obtain ⟨p, rfl, hp⟩ := ra
    refine sl_list pins s σ H _ v vl vu lo hi sl Q I rx hs pl pu ⟨p, _, rfl, R.sub.sq hp, fun q hq => ?_⟩
    rw [cut_ints]
    exact kt_newL k R (DrAll.ints _) e hq
  · split at e
    · rename_i ds hq
      obtain ⟨p, vs, rfl, d, h1, h2⟩ := seqW_ok R ra hq
      exact sl_list pins s σ H _ v vl vu lo hi sl Q I rx hs pl pu ⟨p, vs, rfl, SqL.of (h2 rfl), fun q hq => kt_newL k R (d.cut lo hi) e hq⟩
    · rename_i ds hq
      simp only [Option.some.injEq, Prod.mk.injEq] at e
      obtain ⟨rfl, rfl⟩ := e
      obtain ⟨p, vs, rfl, d, h1, h2⟩ := seqW_ok R ra hq
      refine sl_tupA pins s σ H _ v vl vu lo hi sl Q I rx hs pl pu ⟨p, vs, rfl, SqT.of (h1 rfl).2, fun hz => ?_, fun _ q hq => kt_new k R hq fun F' le hF => .tup hF (DrAll.mono le _ _ (d.cut lo hi))⟩
      have dc := d.cut lo hi
      have ev : cutV vs lo hi = vs := by
        unfold cutV
        rw [hz.1, hz.2]
        simp
      rw [ev] at dc
      exact kt_here k R (.tup (h1 rfl).1 dc)
    · cases e

/-! ### methods -/
def meN : Me → String
  | .append => "append"
  | .pop => "pop"
  | .reverse => "reverse"
  | .extend => "extend"
def meId : Me → String
  | .append => "list.append"
  | .pop => "list.pop"
  | .reverse => "list.reverse"
  | .extend => "list.extend"
theorem mtr (m : Me) : MtR X (meId m) (rdM X.K (methW m)) := by
  intro pins s σ H x xs v us Q I rx rs h
  obtain ⟨α, F, μ, o, ws, w, μ', R, ro, rws, e, k⟩ := h
  unfold methW at e
  split at e
  · obtain ⟨d, m1, e1, e⟩ := bnd_inv e
    obtain ⟨y, rfl, ry⟩ := rws_one rws
    obtain ⟨F1, x1, R1, dy⟩ := toD_ok R ry e1
    split at e
    · rename_i n zs hl
      split at e
      · rename_i hz
        simp only [Option.some.injEq, Prod.mk.injEq] at e
        obtain ⟨rfl, rfl⟩ := e
        obtain ⟨a, vs, rfl, ha, da, up⟩ := liveC_ok R1 (ro.mono x1) hl
        obtain ⟨x2, R2⟩ := up F1 (vs ++ [y]) (zs ++ [d]) R1 (da.app (.cons dy .nil))
        exact mt_append pins s σ H _ _ v us Q I rx rs ⟨a, vs, y, rfl, rfl, ha, by rw [da.len]; exact hz, k _ _ _ _ (x1.trans x2) R2 .non⟩
      · cases e
    · cases e
  · split at e
    · rename_i n zs hl
      split at e
      · rename_i z hz
        simp only [Option.some.injEq, Prod.mk.injEq] at e
        obtain ⟨rfl, rfl⟩ := e
        cases rws
        obtain ⟨a, vs, rfl, ha, da, up⟩ := liveC_ok R ro hl
        obtain ⟨y, hy, dy⟩ := da.get hz
        obtain ⟨x2, R2⟩ := up F vs.dropLast zs.dropLast R da.dropLast
        exact mt_pop pins s σ H _ _ v us Q I rx rs ⟨a, vs, y, rfl, rfl, ha, by rw [da.len]; exact hy, k _ _ _ _ x2 R2 dy⟩
      · cases e
    · cases e
  · split at e
    · rename_i i _ n zs hl
      split at e
      · rename_i j hj
        split at e
        · rename_i z hz
          split at e
          · rename_i hsz
            simp only [Option.some.injEq, Prod.mk.injEq] at e
            obtain ⟨rfl, rfl⟩ := e
            obtain ⟨y, rfl, ry⟩ := rws_one rws
            have ey := dr_int ry
            subst ey
            obtain ⟨a, vs, rfl, ha, da, up⟩ := liveC_ok R ro hl
            obtain ⟨y, hy, dy⟩ := da.get hz
            obtain ⟨x2, R2⟩ := up F (vs.eraseIdx j) (zs.eraseIdx j) R (da.erase j)
            obtain ⟨q1, q2, q3, q4⟩ := ixN_seq hj
            have hn := line63
            exact mt_popAt pins s σ H _ _ v us Q I rx rs ⟨a, vs, i, j, y, rfl, rfl, ha, by omega, by omega, by rw [da.len]; exact q1, hy, k _ _ _ _ x2 R2 dy⟩
          · cases e
        · cases e
      · cases e
    · cases e
  · split at e
    · rename_i n zs hl
      simp only [Option.some.injEq, Prod.mk.injEq] at e
      obtain ⟨rfl, rfl⟩ := e
      cases rws
      obtain ⟨a, vs, rfl, ha, da, up⟩ := liveC_ok R ro hl
      obtain ⟨x2, R2⟩ := up F vs.reverse zs.reverse R da.rev
      exact mt_reverse pins s σ H _ _ v us Q I rx rs ⟨a, vs, rfl, rfl, ha, k _ _ _ _ x2 R2 .non⟩
    · cases e
  · split at e
    · rename_i ys hq
      split at e
      · rename_i n zs hl
        split at e
        · rename_i hz
          simp only [Option.some.injEq, Prod.mk.injEq] at e
          obtain ⟨rfl, rfl⟩ := e
          obtain ⟨y, rfl, ry⟩ := rws_one rws
          obtain ⟨b, us', rfl, db, _, hb⟩ := seqW_ok R ry hq
          obtain ⟨a, vs, rfl, ha, da, up⟩ := liveC_ok R ro hl
          obtain ⟨x2, R2⟩ := up F (vs ++ us') (zs ++ ys) R (da.app db)
          exact mt_extend pins s σ H _ _ v us Q I rx rs ⟨a, b, vs, us', rfl, rfl, ha, hb rfl, by rw [da.len, db.len]; exact hz, k _ _ _ _ x2 R2 .non⟩
        · cases e
      · cases e
    · cases e
  · cases e
theorem mt_live {m : Me} {o : W} {ws : List W} {μ : MH} {r : W × MH} (h : methW m o ws μ = some r) : ∃ n, o = .c n := by
  have lv : ∀ {μ : MH} {p : Nat × List D}, liveC o μ = some p → ∃ n, o = .c n := fun {μ p} e => by
    unfold liveC at e
    split at e
    · exact ⟨_, rfl⟩
    · cases e
  unfold methW at h
  split at h
  · obtain ⟨d, m1, e1, e⟩ := bnd_inv h
    split at e
    · rename_i hl; exact lv hl
    · cases e
  · split at h
    · rename_i hl; exact lv hl
    · cases h
  · split at h
    · rename_i hl; exact lv hl
    · cases h
  · split at h
    · rename_i hl; exact lv hl
    · cases h
  · split at h
    · split at h
      · rename_i hl; exact lv hl
      · cases h
    · cases h
  · cases h
end
end MI

-- MiE
/-! the check that a small text is a given text -/
namespace MI
open PySem PySem.Spec L2

/-- names as they are seen; none: the def's own level; a comprehension: the names of its own block -/
structure Sc where
  names : List (Str × NameKind)
  own : Option (List (Str × NameKind))
/-- what a whole program's check hangs on: the defs' names, is gcd imported -/
structure Pg where
  fn : List Str
  gc : Bool
def visB (sc : Sc) (x : Str) : Bool := match sc.names.lookup x with
  | some .local => true
  | some .cell => true
  | some .free => true
  | _ => false
def canB (sc : Sc) (x : Str) : Bool := match sc.names.lookup x with
  | some .local => true
  | some .cell => (match sc.own with
    | none => true
    | some ns => match ns.lookup x with
      | some .cell => true
      | _ => false)
  | _ => false
def glB (sc : Sc) (x : Str) : Bool := match sc.names.lookup x with
  | some .globalImplicit => true
  | _ => false
def okN (x : Str) : Bool := !(x == ("__debug__" : Str)) && !(x == ("__classdict__" : Str))
def biN : Bi → Str
  | .len => "len"
  | .int => "int"
  | .abs => "abs"
  | .max => "max"
  | .min => "min"
  | .list => "list"
  | .tuple => "tuple"
  | .sum => "sum"
  | .any => "any"
  | .all => "all"
  | .gcd => "gcd"
  | .range => "range"
def cstB : D → Const → Bool
  | .none, .none => true
  | .bool a, .bool b => a == b
  | .int i, .int j => decide (i = j)
  | .str x, .str y => decide (x = y)
  | _, _ => false
def tyB (sc : Sc) : Ty → Expr → Bool
  | t, .Name x _ => decide (x = Str.ofString (tyN t)) && glB sc x
  | _, _ => false
def tysB (sc : Sc) : List Ty → List Expr → Bool
  | [], [] => true
  | t :: ts, e :: es => tyB sc t e && tysB sc ts es
  | _, _ => false
def isSet : Expr → Bool
  | .Set _ _ _ => true
  | _ => false
def isSlice : Expr → Bool
  | .Slice _ _ _ _ => true
  | _ => false
def inner (sc : Sc) (scope : Scope) : Sc := ⟨scope.names.map fun (n, k) => if (k == .free && sc.names.lookup n == some .cell) then (n, .cell) else (n, k), some scope.names⟩
def scOf (sc : Sc) : Scope := { kind := .function, names := sc.names, isGenerator := false, isCoroutine := false }
def isFn (s : Scope) : Bool := match s.kind with
  | .function => true
  | _ => false

mutual
/-- a target of names among own alone -/
def tgIn (own : List Nat) : Tg → Bool
  | .name i => own.contains i
  | .tup ts => tgsIn own ts
  | .sub _ _ => false
def tgsIn (own : List Nat) : Tgs → Bool
  | .nil => true
  | .cons t r => tgIn own t && tgsIn own r
end

section
variable (pg : Pg) (N : List Str)
mutual
def chkE : E → Sc → Expr → Bool
  | .var i, sc, e' => match e' with
    | .Name x _ => decide (N[i]? = some x) && visB sc x && okN x
    | _ => false
  | .cst d, _, e' => match e' with
    | .Constant c _ _ => cstB d c
    | _ => false
  | .bop _ op a b, sc, e' => match e' with
    | .BinOp a' o b' _ => opB op o && chkE a sc a' && chkE b sc b'
    | _ => false
  | .neg a, sc, e' => match e' with
    | .UnaryOp .USub a' _ => chkE a sc a'
    | _ => false
  | .not a, sc, e' => match e' with
    | .UnaryOp .Not a' _ => chkE a sc a'
    | _ => false
  | .boo k es, sc, e' => match e' with
    | .BoolOp .And es' _ => k && chkEs es sc es'
    | .BoolOp .Or es' _ => !k && chkEs es sc es'
    | _ => false
  | .cmp op a b, sc, e' => match e' with
    | .Compare a' [o] [b'] _ => cmB op o && chkE a sc a' && chkE b sc b' && !(isSet b')
    | _ => false
  | .chain op op2 a b c, sc, e' => match e' with
    | .Compare a' [o, o2] [b', c'] _ => cmB op o && cmB op2 o2 && chkE a sc a' && chkE b sc b' && chkE c sc c' && !(isSet c')
    | _ => false
  | .ite c a b, sc, e' => match e' with
    | .IfExp c' a' b' _ => chkE c sc c' && chkE a sc a' && chkE b sc b'
    | _ => false
  | .call f es, sc, e' => match e' with
    | .Call (.Name x _) es' [] _ => decide (pg.fn[f]? = some x) && glB sc x && okN x && chkEs es sc es'
    | _ => false
  | .bi b _ es, sc, e' => match e' with
    | .Call (.Name x _) (e1 :: es') [] _ => decide (x = biN b) && glB sc x && (pg.gc || !decide (b = .gcd)) && chkEs es sc (e1 :: es')
    | _ => false
  | .isi e tys, sc, e' => match e' with
    | .Call (.Name x _) [e1, .Name y py] [] _ => decide (x = "isinstance") && glB sc x && chkE e sc e1 && tysB sc tys [.Name y py]
    | .Call (.Name x _) [e1, .Tuple ts _ _] [] _ => decide (x = "isinstance") && glB sc x && chkE e sc e1 && tysB sc tys ts && decide (tys.length ≤ 100)
    | _ => false
  | .ix a i, sc, e' => match e' with
    | .Subscript a' i' _ => chkE a sc a' && chkE i sc i' && !(isSlice i')
    | _ => false
  | .sl _ a lo hi, sc, e' => match e' with
    | .Subscript a' (.Slice lo' hi' none _) _ => chkE a sc a' && chkO lo sc lo' && chkO hi sc hi'
    | _ => false
  | .tup es, sc, e' => match e' with
    | .Tuple es' _ _ => chkEs es sc es'
    | _ => false
  | .lst _ es, sc, e' => match e' with
    | .List es' _ => chkEs es sc es'
    | _ => false
  | .comp _ elt tg it c own, sc, e' => match e' with
    | .ListComp elt' [⟨tg', it', ifs', 0⟩] scope _ =>
      chkIt it sc it' && !(isSet it') && isFn scope && blkC N (scOf sc) scope own && chkG tg (inner sc scope) tg' && tgIn (own.map (·.2)) tg && chkC c (inner sc scope) ifs' && chkE elt (inner sc scope) elt'
    | _ => false
  | .meth m o es, sc, e' => match e' with
    | .Call (.Attribute (.Name x px) name apos) es' [] cpos => chkE o sc (.Name x px) && decide (name = Str.ofString (meN m)) && (apos.endLine == cpos.line) && decide (es'.length < 30) && chkEs es sc es'
    | _ => false
def chkEs : Es → Sc → List Expr → Bool
  | .nil, _, es' => es'.isEmpty
  | .cons e r, sc, es' => match es' with
    | e' :: r' => chkE e sc e' && chkEs r sc r'
    | [] => false
def chkO : Eo → Sc → Option Expr → Bool
  | .none, _, o => o.isNone
  | .some e, sc, o => match o with
    | some e' => chkE e sc e'
    | none => false
def chkC : Eo → Sc → List Expr → Bool
  | .none, _, o => o.isEmpty
  | .some e, sc, o => match o with
    | [e'] => chkE e sc e'
    | _ => false
def chkIt : It → Sc → Expr → Bool
  | .val e, sc, e' => chkE e sc e'
  | .rng1 e, sc, e' => match e' with
    | .Call (.Name x _) [a'] [] _ => decide (x = "range") && glB sc "range" && chkE e sc a'
    | _ => false
  | .rng2 a b, sc, e' => match e' with
    | .Call (.Name x _) [a', b'] [] _ => decide (x = "range") && glB sc "range" && chkE a sc a' && chkE b sc b'
    | _ => false
def chkG : Tg → Sc → Expr → Bool
  | .name i, sc, e' => match e' with
    | .Name x _ => decide (N[i]? = some x) && canB sc x
    | _ => false
  | .tup ts, sc, e' => match e' with
    | .Tuple es' _ _ => chkGs ts sc es'
    | _ => false
  | .sub o i, sc, e' => match e' with
    | .Subscript o' i' _ => chkE o sc o' && chkE i sc i' && !(isSlice i')
    | _ => false
def chkGs : Tgs → Sc → List Expr → Bool
  | .nil, _, es' => es'.isEmpty
  | .cons t r, sc, es' => match es' with
    | e' :: r' => chkG t sc e' && chkGs r sc r'
    | [] => false
end
def isComp : Expr → Bool
  | .ListComp _ _ _ _ => true
  | .SetComp _ _ _ _ => true
  | .DictComp _ _ _ _ _ => true
  | _ => false
/-- name = [..] on one line, a local name: a rule of its own -/
def swB (sc : Sc) (e' : Expr) (y : Str) (py : Pos) : Bool := match e' with
  | .ListComp _ _ scope pos => (match sc.names.lookup y with
    | some .local => true
    | _ => false) && (py.line == pos.line) && !(scope.names.any fun (n, k) => n == y && (k == .local || k == .cell))
  | _ => false
def subFirst : List Expr → Bool
  | .Subscript _ _ _ :: _ => true
  | _ => false
/-- target = value with nothing of its own -/
def plainB (tg e' : Expr) : Bool := match tg with
  | .Name _ _ => !(isComp e')
  | .Tuple ts _ _ => (match e' with
    | .Tuple _ _ _ => subFirst ts
    | _ => true)
  | .Subscript _ _ _ => true
  | _ => false
def locB (sc : Sc) (x : Str) : Bool := match sc.names.lookup x with
  | some .local => true
  | _ => false
mutual
def chkS : S → Sc → Stmt → Bool
  | .asg t e, sc, st => match st with
    | .Assign [tg] e' _ => chkG pg N t sc tg && chkE pg N e sc e' && (plainB tg e' || (match tg with
      | .Name y py => swB sc e' y py
      | _ => false))
    | _ => false
  | .par i j a b, sc, st => match st with
    | .Assign [.Tuple [.Name x px, .Name y py] kt pt] (.Tuple [a', b'] k2 pt2) _ => decide (N[i]? = some x) && decide (N[j]? = some y) && !(i == j) && !(x == y) && locB sc x && locB sc y && (px.line == py.line)
        && chkE pg N a sc a' && chkE pg N b sc b' && !([a', b'].all (foldedForSure 8)) && !([a', b'].all (constantsAlone 8))
    | _ => false
  | .aug i op e, sc, st => match st with
    | .AugAssign (.Name x _) o e' _ => decide (N[i]? = some x) && canB sc x && visB sc x && chkE pg N e sc e' && (match op, o with
      | .add, .Add => true
      | .sub, .Sub => true
      | _, _ => false)
    | _ => false
  | .expr e, sc, st => match st with
    | .Expr e' _ => chkE pg N e sc e' && !(isComp e')
    | _ => false
  | .iff c a b, sc, st => match st with
    | .If c' a' b' _ => chkE pg N c sc c' && chkSs a sc a' && chkSs b sc b'
    | _ => false
  | .forr t it b, sc, st => match st with
    | .For tg it' b' [] _ => chkG pg N t sc tg && chkIt pg N it sc it' && !(isSet it') && chkSs b sc b'
    | _ => false
  | .whil _ c b, sc, st => match st with
    | .While c' b' [] _ => chkE pg N c sc c' && chkSs b sc b'
    | _ => false
  | .ret e, sc, st => match st with
    | .Return (some e') _ => chkE pg N e sc e'
    | _ => false
  | .retN, _, st => match st with
    | .Return none _ => true
    | _ => false
  | .brk, _, st => match st with
    | .Break _ => true
    | _ => false
  | .cont, _, st => match st with
    | .Continue _ => true
    | _ => false
  | .pass, _, st => match st with
    | .Pass _ => true
    | _ => false
def chkSs : Ss → Sc → List Stmt → Bool
  | .nil, _, l => l.isEmpty
  | .cons s r, sc, l => match l with
    | s' :: r' => chkS s sc s' && chkSs r sc r'
    | [] => false
end
end
end MI

-- MiF
/-! soundness of expressions -/
namespace MI
open PySem PySem.Spec L2

def spM (K : PySem.W.Frag) (g : List W → MH → Option (W × MH)) : Sp := fun vs H Q _ => rdC K g vs H Q
def FnF (X : Cx) (g : List W → MH → Option (W × MH)) (nm : Str) : Prop :=
  ∃ (lv : Nat) (a : Addr) (fd : FuncData) (ps : List Str), X.mg nm = some (.ref a) ∧ PySem.W.keepIn X.K (.ref a) = true ∧ Binds X.K fd ps [] ∧ Room lv X.A ∧ FnOk X.prog X.w X.K X.mg X.base CX0 lv a fd ps (spM X.K g)
structure Good (pg : Pg) (N : List Str) (call : Nat → List W → MH → Option (W × MH)) (X : Cx) (sc : Sc) : Prop where
  names : X.env.scope.names = sc.names
  kind : X.env.scope.kind = .function
  fn : ∀ x, canB sc x = true → X.fn x = true ∨ X.env.scope.names.lookup x = some .local
  nm : X.N = N
  nd : N.Nodup
  calm : X.calm = true
  xe : X.xe = fun _ _ => False
  hu : X.A.units + 65 < cLine
  fns : ∀ f nm, pg.fn[f]? = some nm → FnF X (call f) nm
  bl : ∀ b : Bi, b ≠ .gcd → X.mg (biN b) = none
  isi : X.mg "isinstance" = none
  tys : ∀ t : Ty, X.mg (Str.ofString (tyN t)) = none
  gc : pg.gc = true → X.mg "gcd" = some (.builtin "math.gcd")

section
variable {pg : Pg} {N : List Str} {call : Nat → List W → MH → Option (W × MH)} {X : Cx} {sc : Sc}
theorem Good.blk (G : Good pg N call X sc) {scope : Scope} (hk : isFn scope = true) (s : Shared) (H : Hp) (C : Addr) (cl : List (Str × Addr)) (fp : List Addr) :
    Good pg N call (X.blk s H scope (compEnvC scope cl C X.env) fp) (inner sc scope) := by
  have en : (compEnvC scope cl C X.env).scope.names = (inner sc scope).names := by
    show (scope.names.map fun (n, k) => if (k == NameKind.free && X.env.scope.kind == ScopeKind.function && X.env.kindOf n == some NameKind.cell) then (n, NameKind.cell) else (n, k)) = _
    unfold inner
    apply List.map_congr_left
    rintro ⟨n, k⟩ _
    have e1 : X.env.kindOf n = sc.names.lookup n := by unfold Env.kindOf; rw [G.names]
    simp only [G.kind, e1]
    have e2 : (ScopeKind.function == ScopeKind.function) = true := rfl
    rw [e2, Bool.and_true]
  refine ⟨en, ?_, fun x hx => ?_, G.nm, G.nd, G.calm, rfl, G.hu, fun f nm e => G.fns f nm e, G.bl, G.isi, G.tys, G.gc⟩
  · show scope.kind = _
    unfold isFn at hk
    split at hk
    · assumption
    · cases hk
  · show (scope.names.lookup x == some .cell) = true ∨ (compEnvC scope cl C X.env).scope.names.lookup x = some .local
    rw [en]
    unfold canB at hx
    split at hx
    · rename_i e; exact .inr e
    · split at hx
      · rename_i e; cases e
      · rename_i ns e
        have e : some scope.names = some ns := e
        cases e
        split at hx
        · rename_i e2; left; rw [e2]; rfl
        · cases hx
    · cases hx
theorem Good.vis (G : Good pg N call X sc) {x : Str} (h : visB sc x = true) : Vis X.env.scope x := by
  unfold Vis
  rw [G.names]
  unfold visB at h
  split at h
  · rename_i e; exact .inl e
  · rename_i e; exact .inr (.inl e)
  · rename_i e; exact .inr (.inr e)
  · cases h
theorem Good.gl (G : Good pg N call X sc) {x : Str} (h : glB sc x = true) : Gl X x := by
  show X.env.scope.names.lookup x = some .globalImplicit
  rw [G.names]
  unfold glB at h
  split at h
  · assumption
  · cases h
theorem Good.loc (G : Good pg N call X sc) {x : Str} (h : canB sc x = true) : L2.Loc X.env.scope x := by
  unfold L2.Loc
  rw [G.names]
  unfold canB at h
  split at h
  · rename_i e; exact .inl e
  · rename_i e; exact .inr e
  · cases h
theorem okN_d {x : Str} (h : okN x = true) : (x == ("__debug__" : Str)) = false := by
  unfold okN at h
  simp only [Bool.and_eq_true, Bool.not_eq_true'] at h
  exact h.1
theorem okN_c {x : Str} (h : okN x = true) : (x == ("__classdict__" : Str)) = false := by
  unfold okN at h
  simp only [Bool.and_eq_true, Bool.not_eq_true'] at h
  exact h.2
end

/-! ### what the check tells of an expression's form -/
section
variable {pg : Pg} {N : List Str}
def isStar : Expr → Bool
  | .Starred _ _ => true
  | _ => false
theorem not_star {e : E} {sc : Sc} {e' : Expr} (h : chkE pg N e sc e' = true) : isStar e' = false := by
  cases e' <;> first | rfl | (exfalso; cases e <;> simp [chkE] at h)
theorem star_cons {e' : Expr} (h : isStar e' = false) (es : List Expr) (env : Env) : starEach (e' :: es) env = (false, eval e' env) :: starEach es env := by
  cases e' <;> first | rfl | cases h
theorem star_all {sc : Sc} {env : Env} {pos : Pos} : ∀ {es : Es} {es' : List Expr}, chkEs pg N es sc es' = true → (backTo pos (starEach es' env)).any (·.1) = false
  | .nil, es', h => by
    simp only [chkEs, List.isEmpty_iff] at h
    subst h
    rfl
  | .cons e r, es', h => by
    unfold chkEs at h
    split at h
    · rename_i e' r'
      rw [Bool.and_eq_true] at h
      rw [star_cons (not_star h.1)]
      have := star_all (env := env) (pos := pos) h.2
      unfold backTo at this ⊢
      rw [List.map_cons, List.any_cons, this]
      rfl
    · cases h
theorem star_fst {sc : Sc} {env : Env} {pos : Pos} : ∀ {es : Es} {es' : List Expr}, chkEs pg N es sc es' = true → (backTo pos (starEach es' env)).all (fun x => !x.1) = true
  | .nil, es', h => by
    simp only [chkEs, List.isEmpty_iff] at h
    subst h
    rfl
  | .cons e r, es', h => by
    unfold chkEs at h
    split at h
    · rename_i e' r'
      rw [Bool.and_eq_true] at h
      rw [star_cons (not_star h.1)]
      have := star_fst (env := env) (pos := pos) h.2
      unfold backTo at this ⊢
      rw [List.map_cons, List.all_cons, this]
      rfl
    · cases h
theorem chkEs_nil {sc : Sc} {es : Es} (h : chkEs pg N es sc [] = true) : es = .nil := by
  cases es with
  | nil => rfl
  | cons e r => simp [chkEs] at h
theorem plain_ix {e' : Expr} (h : isSlice e' = false) : PlainIx e' := by
  intro o i
  cases e' <;> first | rfl | cases h
theorem no_behind {op : CmpOp} {e' : Expr} (h : isSet e' = false) : behindInMarks op e' = false := by
  cases e' <;> first | rfl | cases h
theorem no_last {op op2 : CmpOp} {b c : Expr} (h : isSet c = false) : lastMarks [op, op2] [b, c] = false := by
  show behindInMarks op2 c = false
  exact no_behind h
theorem no_fold {e' : Expr} (h : isSet e' = false) (env : Env) (x : Value) : foldedSetIterable e' env x = pure x := by
  cases e' <;> first | rfl | cases h
end

/-! ### built-ins by name -/
theorem boot_bi : ∀ b : Bi, b ≠ .gcd → bootBuiltins (biN b) = some (biVal b)
  | .len, _ => by decide +kernel
  | .int, _ => by decide +kernel
  | .abs, _ => by decide +kernel
  | .max, _ => by decide +kernel
  | .min, _ => by decide +kernel
  | .list, _ => by decide +kernel
  | .tuple, _ => by decide +kernel
  | .sum, _ => by decide +kernel
  | .any, _ => by decide +kernel
  | .all, _ => by decide +kernel
  | .range, _ => by decide +kernel
  | .gcd, h => (h rfl).elim
theorem biN_ne : ∀ b : Bi, biN b ≠ "__name__" ∧ ((biN b == ("__debug__" : Str)) = false) := by
  intro b
  cases b <;> exact ⟨by decide, by decide⟩
theorem boot_ty : ∀ t : Ty, bootBuiltins (Str.ofString (tyN t)) = some (.type (tyN t))
  | .int => by decide +kernel
  | .bool => by decide +kernel
  | .str => by decide +kernel
  | .list => by decide +kernel
  | .tuple => by decide +kernel
theorem tyN_ne : ∀ t : Ty, Str.ofString (tyN t) ≠ "__name__" ∧ ((Str.ofString (tyN t) == ("__debug__" : Str)) = false) := by
  intro t
  cases t <;> exact ⟨by decide, by decide⟩
theorem kit_tt (t u : Ty) : kitB (tyN t) (tyN u) = some (decide (t = u) || (decide (t = .bool) && decide (u = .int))) := by
  cases t <;> cases u <;> decide +kernel
theorem kit_nt (u : Ty) : kitB "NoneType" (tyN u) = some false := by
  cases u <;> decide +kernel
theorem kit_any {K : PySem.W.Frag} (t : Ty) : ∀ tys : List Ty, PySem.W.kitAny K (.type (tyN t)) (tys.map fun u => .type (tyN u)) = some (tys.any fun u => decide (t = u) || (decide (t = .bool) && decide (u = .int)))
  | [] => rfl
  | u :: r => by
    have h := kit_any (K := K) t r
    rw [List.map_cons, List.any_cons]
    refine kitAny_cons (b := decide (t = u) || (decide (t = .bool) && decide (u = .int))) (kit_ty (kit_tt t u)) (fun hb => ?_) (fun hb => ?_)
    · rw [h, hb, Bool.false_or]
    · rw [hb, Bool.true_or]
theorem kit_none {K : PySem.W.Frag} : ∀ tys : List Ty, PySem.W.kitAny K (.type "NoneType") (tys.map fun u => .type (tyN u)) = some false
  | [] => rfl
  | u :: r => by
    rw [List.map_cons]
    exact kitAny_cons (b := false) (kit_ty (kit_nt u)) (fun _ => kit_none r) (fun hb => nomatch hb)
end MI

-- MiG
/-! loops: what is walked, targets, comprehensions -/
namespace MI
open PySem PySem.Spec L2

section
variable {K : PySem.W.Frag} {α : List Addr} {F H : Hp} {μ : MH} {p : Addr} {vs : List V} {ds : List D}
theorem Rel.off (R : Rel α F H μ) {o : HO} (hp : p ∉ α) (hF : F p = none) : Rel α F (upd H p o) μ := by
  refine ⟨fun b u e => ?_, R.len, R.nod, fun n a c ha hc => ?_⟩
  · rw [upd_ne (ne_of_none e hF)]; exact R.sub b u e
  · obtain ⟨us, h1, h2, h3, h4⟩ := R.cell n a c ha hc
    have hap : a ≠ p := fun z => hp (by rw [← z]; exact List.mem_of_getElem? ha)
    exact ⟨us, by rw [upd_ne hap]; exact h1, h2, h3, h4⟩
theorem Rel.adoptF (R : Rel α F H μ) (hH : H p = some (.lst vs)) (hp : p ∉ α) (hF : F p = none) : Rel α (upd F p (.lst vs)) H μ ∧ Le F (upd F p (.lst vs)) := by
  have le : Le F (upd F p (.lst vs)) := fun b u e => by rw [upd_ne (ne_of_none e hF)]; exact e
  refine ⟨⟨fun b u e => ?_, R.len, R.nod, fun n a c ha hc => ?_⟩, le⟩
  · by_cases hb : b = p
    · subst hb; rw [upd_same] at e; cases e; exact hH
    · rw [upd_ne hb] at e; exact R.sub b u e
  · obtain ⟨us, h1, h2, h3, h4⟩ := R.cell n a c ha hc
    have hap : a ≠ p := fun z => hp (by rw [← z]; exact List.mem_of_getElem? ha)
    exact ⟨us, h1, DrAll.mono le _ _ h2, fun z => by rw [upd_ne hap]; exact h3 z, fun z => by rw [upd_ne hap]; exact h4 z⟩
theorem Rel.adoptC (R : Rel α F H μ) (hH : H p = some (.lst vs)) (hp : p ∉ α) (hF : F p = none) (hd : DrAll F vs ds) : Rel (α ++ [p]) F H (μ ++ [⟨false, ds⟩]) := by
  refine ⟨R.sub, by simp [R.len], ?_, fun n a c ha hc => ?_⟩
  · rw [List.nodup_append]
    refine ⟨R.nod, by simp, fun a ha b hb => ?_⟩
    have : b = p := by simpa using hb
    rw [this]; exact fun z => hp (by rw [← z]; exact ha)
  · by_cases hn : n < α.length
    · rw [List.getElem?_append_left hn] at ha
      rw [List.getElem?_append_left (by rw [← R.len]; exact hn)] at hc
      exact R.cell n a c ha hc
    · have e1 : n = α.length := by
        have := (List.getElem?_eq_some_iff.mp ha).1
        simp at this; omega
      subst e1
      rw [List.getElem?_append_right (Nat.le_refl _)] at ha
      rw [List.getElem?_append_right (by rw [R.len]; exact Nat.le_refl _), R.len] at hc
      simp at ha hc
      subst ha; subst hc
      exact ⟨vs, hH, hd, (fun z => nomatch z), fun _ => hF⟩
theorem newL_adopt {α1 : List Addr} {F1 H1 : Hp} {w : W} {μ' : MH} {live : Bool} (x : Ext α1 F1 H1 α F H) (hn : H1 p = none) (R : Rel α F H μ) (hH : H p = some (.lst vs)) (hp : p ∉ α) (hF : F p = none) (hd : DrAll F vs ds)
    (e : newL live ds μ = some (w, μ')) : ∃ α' F', Ext α1 F1 H1 α' F' H ∧ Rel α' F' H μ' ∧ RW K α' F' (.ref p) w := by
  unfold newL at e
  split at e
  · cases live with
    | true =>
      simp only [if_true, Option.some.injEq, Prod.mk.injEq] at e
      obtain ⟨rfl, rfl⟩ := e
      refine ⟨α ++ [p], F, ⟨x.f, ?_, x.fr, x.dm, x.uf⟩, R.adoptC hH hp hF hd, p, rfl, ?_⟩
      · obtain ⟨β, e, n⟩ := x.al
        subst e
        refine ⟨β ++ [p], by simp, fun b hb => ?_⟩
        rcases List.mem_append.mp hb with hb | hb
        · exact n b hb
        · have : b = p := by simpa using hb
          rw [this]; exact hn
      · rw [← R.len, List.getElem?_append_right (Nat.le_refl _)]
        simp
    | false =>
      simp only [Bool.false_eq_true, if_false, Option.some.injEq, Prod.mk.injEq] at e
      obtain ⟨rfl, rfl⟩ := e
      obtain ⟨R', le⟩ := R.adoptF hH hp hF
      refine ⟨α, upd F p (.lst vs), ⟨x.f.trans le, x.al, x.fr, x.dm, fun a ha hm hf => ?_⟩, R', .lst upd_same (DrAll.mono le _ _ hd)⟩
      rw [upd_ne (fun z => ha (by rw [z]; exact hn))]
      exact x.uf a ha hm hf
  · cases e
end

/-! ### what is walked -/
structure ItOk (K : PySem.W.Frag) (α0 : List Addr) (F0 : Hp) (J : L2.It) (src : Option Nat) (xs : List D) : Prop where
  go : ∀ (α : List Addr) (F H : Hp) (μ : MH) (i : Nat), (∀ (n : Nat) (a : Addr), α0[n]? = some a → α[n]? = some a) → Le F0 F → Rel α F H μ → okSrc src xs μ = true → i < xs.length → J.go i H
  yld : ∀ (α : List Addr) (F H : Hp) (μ : MH) (i : Nat) (x : V) (H' : Hp), (∀ (n : Nat) (a : Addr), α0[n]? = some a → α[n]? = some a) → Le F0 F → Rel α F H μ → okSrc src xs μ = true → i < xs.length → J.yld i H x H' → H' = H ∧ ∃ d, xs[i]? = some d ∧ Dr F x d
  stop : ∀ (α : List Addr) (F H : Hp) (μ : MH) (i : Nat), (∀ (n : Nat) (a : Addr), α0[n]? = some a → α[n]? = some a) → Le F0 F → Rel α F H μ → okSrc src xs μ = true → xs.length ≤ i → J.stop i H
def rdI (K : PySem.W.Frag) (m : En → MH → Option ((Option Nat × List D) × MH)) : TI := fun σ H R => ∃ α F μ env p μ', Rel α F H μ ∧ RE K α F σ env ∧ m env μ = some (p, μ') ∧
  ∀ α' F' H' J, Ext α F H α' F' H' → Rel α' F' H' μ' → ItOk K α' F' J p.1 p.2 → R J H'
theorem pi_imp {X : Cx} {tg it : Expr} {t t' : TI} (h : PI X tg it t) (i : ∀ σ H R, t' σ H R → t σ H R) : PI X tg it t' := ⟨fun pins s σ H R I q => h.run pins s σ H R I (i _ _ _ q)⟩
theorem pi_or {X : Cx} {tg it : Expr} {t t' : TI} (h : PI X tg it t) (h' : PI X tg it t') : PI X tg it (fun σ H R => t σ H R ∨ t' σ H R) := ⟨fun pins s σ H R I q => by
  rcases q with q | q
  · exact h.run pins s σ H R I q
  · exact h'.run pins s σ H R I q⟩
section
variable {K : PySem.W.Frag} {α0 : List Addr} {F0 : Hp}
/-- a list that stays -/
theorem it_lst {a : Addr} {vs : List V} {ds : List D} (h : F0 a = some (.lst vs)) (hd : DrAll F0 vs ds) : ItOk K α0 F0 (Itl K a) none ds where
  go := fun α F H μ i _ le R _ hi => ⟨vs, vs[i]'(by rw [hd.len]; exact hi), SqL.of (R.sub _ _ (le _ _ h)), List.getElem?_eq_getElem _⟩
  yld := fun α F H μ i x H' _ le R _ hi y => by
    obtain ⟨e, y⟩ := y
    obtain ⟨d, h1, h2⟩ := hd.get' (y vs (SqL.of (R.sub _ _ (le _ _ h))))
    exact ⟨e, d, h1, Dr.mono le _ _ h2⟩
  stop := fun α F H μ i _ le R _ hi => ⟨vs, SqL.of (R.sub _ _ (le _ _ h)), by rw [hd.len]; exact hi⟩
theorem it_tup {a : Addr} {vs : List V} {ds : List D} (h : F0 a = some (.tup vs)) (hd : DrAll F0 vs ds) : ItOk K α0 F0 (Itt K a) none ds where
  go := fun α F H μ i _ le R _ hi => ⟨vs, vs[i]'(by rw [hd.len]; exact hi), SqT.of (R.sub _ _ (le _ _ h)), List.getElem?_eq_getElem _⟩
  yld := fun α F H μ i x H' _ le R _ hi y => by
    obtain ⟨e, y⟩ := y
    obtain ⟨d, h1, h2⟩ := hd.get' (y vs (SqT.of (R.sub _ _ (le _ _ h))))
    exact ⟨e, d, h1, Dr.mono le _ _ h2⟩
  stop := fun α F H μ i _ le R _ hi => ⟨vs, SqT.of (R.sub _ _ (le _ _ h)), by rw [hd.len]; exact hi⟩
theorem it_scr {a : Addr} {ns : List Int} (h : SqL K F0 a (ns.map V.int)) : ItOk K α0 F0 (Itl K a) none (ns.map PyData.int) where
  go := fun α F H μ i _ le R _ hi => by
    have hi' : i < (ns.map V.int).length := by simpa using hi
    exact ⟨_, (ns.map V.int)[i], R.sub.sq (le.sq h), List.getElem?_eq_getElem _⟩
  yld := fun α F H μ i x H' _ le R _ hi y => by
    obtain ⟨e, y⟩ := y
    obtain ⟨d, h1, h2⟩ := (DrAll.ints (F := F) ns).get' (y _ (R.sub.sq (le.sq h)))
    exact ⟨e, d, h1, h2⟩
  stop := fun α F H μ i _ le R _ hi => ⟨_, R.sub.sq (le.sq h), by simpa using hi⟩
theorem it_cell {a : Addr} {n : Nat} {ds : List D} (h : α0[n]? = some a) : ItOk K α0 F0 (Itl K a) (some n) ds := by
  have get : ∀ (α : List Addr) (F H : Hp) (μ : MH), (∀ (n : Nat) (a : Addr), α0[n]? = some a → α[n]? = some a) → Rel α F H μ → okSrc (some n) ds μ = true → ∃ vs, H a = some (.lst vs) ∧ DrAll F vs ds := fun α F H μ hα R ok => by
    simp only [okSrc] at ok
    split at ok
    · rename_i c hc
      obtain ⟨vs, h1, h2, _⟩ := R.cell n a c (hα n a h) hc
      rw [eqDs_eq _ _ ok] at h2
      exact ⟨vs, h1, h2⟩
    · cases ok
  refine ⟨fun α F H μ i hα le R ok hi => ?_, fun α F H μ i x H' hα le R ok hi y => ?_, fun α F H μ i hα le R ok hi => ?_⟩
  · obtain ⟨vs, h1, h2⟩ := get α F H μ hα R ok
    exact ⟨vs, vs[i]'(by rw [h2.len]; exact hi), SqL.of h1, List.getElem?_eq_getElem _⟩
  · obtain ⟨vs, h1, h2⟩ := get α F H μ hα R ok
    obtain ⟨e, y⟩ := y
    exact ⟨e, h2.get' (y vs (SqL.of h1))⟩
  · obtain ⟨vs, h1, h2⟩ := get α F H μ hα R ok
    exact ⟨vs, SqL.of h1, by rw [h2.len]; exact hi⟩
theorem it_rng (lo : Int) (n : Nat) : ItOk K α0 F0 (Itr lo n) none (rngD lo n) where
  go := fun α F H μ i _ le R _ hi => by
    have hi' : i < n := by simpa [rngD] using hi
    exact hi'
  yld := fun α F H μ i x H' _ le R _ hi y => by
    obtain ⟨e, y⟩ := y
    subst y
    have hi' : i < n := by simpa [rngD] using hi
    exact ⟨e, .int (lo + i), by simp [rngD, hi'], .int _⟩
  stop := fun α F H μ i _ le R _ hi => by
    have hi' : n ≤ i := by simpa [rngD] using hi
    exact hi'
end

/-! ### targets -/
def rdG (K : PySem.W.Frag) (t : Tg) (m : W → En → MH → Option (En × MH)) : TG := fun v σ H Q => ∃ α F μ env w env' μ', Rel α F H μ ∧ RE K α F σ env ∧ RW K α F v w ∧ m w env μ = some (env', μ') ∧
  ∀ α' F' H' σ', Ext α F H α' F' H' → Rel α' F' H' μ' → RE K α' F' σ' env' → (∀ own, tgIn own t = true → L2.wipe σ' own = L2.wipe σ own) → Q σ' H'
def rdGs (K : PySem.W.Frag) (ts : Tgs) (m : List D → En → MH → Option (En × MH)) : TGs := fun vs σ H Q => ∃ α F μ env xs env' μ', Rel α F H μ ∧ RE K α F σ env ∧ DrAll F vs xs ∧ m xs env μ = some (env', μ') ∧
  ∀ α' F' H' σ', Ext α F H α' F' H' → Rel α' F' H' μ' → RE K α' F' σ' env' → (∀ own, tgsIn own ts = true → L2.wipe σ' own = L2.wipe σ own) → Q σ' H'
theorem pg_imp {X : Cx} {tg : Expr} {t t' : TG} (h : PG X tg t) (i : ∀ v σ H Q, t' v σ H Q → t v σ H Q) : PG X tg t' := ⟨fun pins s σ H v u Q I r q => h.run pins s σ H v u Q I r (i _ _ _ _ q)⟩
theorem pgs_imp {X : Cx} {ts : List Expr} {t t' : TGs} (h : PGs X ts t) (i : ∀ v σ H Q, t' v σ H Q → t v σ H Q) : PGs X ts t' := ⟨fun pins s σ H vs us Q I r q => h.run pins s σ H vs us Q I r (i _ _ _ _ q)⟩
theorem pg_or {X : Cx} {tg : Expr} {t t' : TG} (h : PG X tg t) (h' : PG X tg t') : PG X tg (fun v σ H Q => t v σ H Q ∨ t' v σ H Q) := ⟨fun pins s σ H v u Q I r q => by
  rcases q with q | q
  · exact h.run pins s σ H v u Q I r q
  · exact h'.run pins s σ H v u Q I r q⟩
theorem wipe_set {i : Nat} {x : Option V} : ∀ {own : List Nat} {σ : L2.St}, i ∈ own → L2.wipe (σ.set i x) own = L2.wipe σ own
  | v :: vs, σ, h => by
    unfold L2.wipe
    by_cases hv : i = v
    · subst hv
      by_cases hm : i ∈ vs
      · rw [wipe_set hm]
      · have : ∀ (us : List Nat) (σ : L2.St), i ∉ us → L2.wipe (σ.set i x) us = (L2.wipe σ us).set i x := by
          intro us
          induction us with
          | nil => intro σ _; rfl
          | cons u us ih =>
            intro σ hu
            simp only [List.mem_cons, not_or] at hu
            unfold L2.wipe
            rw [ih σ hu.2, List.set_comm _ _ hu.1]
        rw [this vs σ hm, List.set_set]
    · have hm : i ∈ vs := (List.mem_cons.mp h).resolve_left hv
      rw [wipe_set hm]
theorem wipe_wipe (σ : L2.St) (own : List Nat) : L2.wipe (L2.wipe σ own) own = L2.wipe σ own := by
  apply List.ext_getElem?
  intro i
  by_cases h : i ∈ own
  · have z : ∀ (τ : L2.St), i < τ.length → (L2.wipe τ own)[i]? = some none := by
      intro τ hl
      have hl' : i < (L2.wipe τ own).length := by rw [wipe_length]; exact hl
      cases e : (L2.wipe τ own)[i]? with
      | none => exact absurd (List.getElem?_eq_none_iff.mp e) (by omega)
      | some o =>
        cases o with
        | none => rfl
        | some x => exact absurd h (wipe_some e).2
    by_cases hl : i < σ.length
    · rw [z σ hl, z (L2.wipe σ own) (by rw [wipe_length]; exact hl)]
    · rw [List.getElem?_eq_none (by rw [wipe_length, wipe_length]; omega), List.getElem?_eq_none (by rw [wipe_length]; omega)]
  · rw [wipe_keep h]

/-! ### a comprehension -/
theorem compL_nil {asg : W → En → MH → Option (En × MH)} {cond : En → MH → Option (Bool × MH)} {elt : En → MH → Option (W × MH)} {src : Option Nat} {all : List D} {env : En} {μ μ' : MH} {ys : List D}
    (h : compL asg cond elt src all [] env μ = some (ys, μ')) : okSrc src all μ = true ∧ ys = [] ∧ μ' = μ := by
  unfold compL at h
  split at h
  · rename_i ok
    simp only [Option.some.injEq, Prod.mk.injEq] at h
    exact ⟨ok, h.1.symm, h.2.symm⟩
  · cases h
theorem rd_comp {K : PySem.W.Frag} {σ : L2.St} {H : Hp} {Q : VK} {itm : En → MH → Option ((Option Nat × List D) × MH)} {asg : W → En → MH → Option (En × MH)} {cond : En → MH → Option (Bool × MH)} {elt : En → MH → Option (W × MH)} {t : Tg} {own : List Nat} {live : Bool}
    (ht : tgIn own t = true) (h : rdE K (fun env μ => bnd (itm env μ) fun p μ => bnd (compL asg cond elt p.1 p.2 p.2 (wipeE env own) μ) fun ys μ => newL live ys μ) σ H Q) :
    tLc (rdI K itm) (rdG K t asg) (rdT K cond) (rdE K elt) own σ H Q := by
  obtain ⟨α, F, μ, env, w, μ', R, re, e, k⟩ := h
  obtain ⟨⟨src, xs⟩, μ1, e1, e⟩ := bnd_inv e
  obtain ⟨tot, μ2, e2, e3⟩ := bnd_inv e
  refine ⟨α, F, μ, env, (src, xs), μ1, R, re, e1, fun α1 F1 H1 J x1 R1 ok D hD => ?_⟩
  have htot := newL_len e3
  have hα : ∀ {β : List Addr} {G I : Hp}, Ext α1 F1 H1 β G I → ∀ (n : Nat) (a : Addr), α1[n]? = some a → β[n]? = some a := fun x n a h => x.at h
  have D1 : D ∉ α1 := fun hm => by
    obtain ⟨n, hn⟩ := List.getElem?_of_mem hm
    have hl : n < μ1.length := by rw [← R1.len]; exact (List.getElem?_eq_some_iff.mp hn).1
    obtain ⟨vs, h1, _⟩ := R1.cell n D _ hn (List.getElem?_eq_getElem hl)
    rw [h1] at hD; cases hD
  have DF1 : F1 D = none := by
    cases q : F1 D with
    | none => rfl
    | some u => rw [R1.sub D u q] at hD; cases hD
  have xD : ∀ {β : List Addr} {G I : Hp} {o : HO}, Ext α1 F1 H1 β G I → Ext α1 F1 H1 β G (upd I D o) := fun {β G I o} x => ⟨x.f, x.al, fun a u h ha => by rw [upd_ne (ne_of_none h hD)]; exact x.fr a u h ha, fun a h => by
    by_cases z : a = D
    · subst z; rw [upd_same]; simp
    · rw [upd_ne z]; exact x.dm a h, x.uf⟩
  refine ⟨fun i m H5 => m = xs.length - i ∧ i ≤ xs.length ∧ ∃ α F μ vacc acc ys, Rel α F H5 μ ∧ Ext α1 F1 H1 α F H5 ∧ H5 D = some (.lst vacc) ∧ D ∉ α ∧ F D = none ∧ DrAll F vacc acc ∧
      compL asg cond elt src xs (xs.drop i) (wipeE env own) μ = some (ys, μ2) ∧ acc ++ ys = tot, ⟨_, rfl, Nat.zero_le _, α1, F1, μ1, [], [], tot, R1.off D1 DF1, xD (Ext.refl _ _ _), upd_same, D1, DF1, .nil, e2, rfl⟩, ?_⟩
  rintro i m H5 ⟨rfl, hi, α5, F5, μ5, vacc, acc, ys, R5, x5, h5, D5, DF5, d5, e5, et⟩
  by_cases hlt : i < xs.length
  · right
    rw [List.drop_eq_getElem_cons hlt] at e5
    unfold compL at e5
    split at e5
    · rename_i okS
      obtain ⟨env6, μ6, e6, e5⟩ := bnd_inv e5
      obtain ⟨b, μ7, e7, e5⟩ := bnd_inv e5
      refine ⟨ok.go α5 F5 H5 μ5 i (hα x5) x5.f R5 okS hlt, fun H' => ∃ α F μ vacc acc ys, Rel α F H' μ ∧ Ext α1 F1 H1 α F H' ∧ H' D = some (.lst vacc) ∧ D ∉ α ∧ F D = none ∧ DrAll F vacc acc ∧
        compL asg cond elt src xs (xs.drop (i + 1)) (wipeE env own) μ = some (ys, μ2) ∧ acc ++ ys = tot, fun H' q => ⟨xs.length - (i + 1), by omega, rfl, hlt, q⟩, fun x H' y => ?_⟩
      obtain ⟨rfl, d, hd, dx⟩ := ok.yld α5 F5 H5 μ5 i x H' (hα x5) x5.f R5 okS hlt y
      rw [List.getElem?_eq_getElem hlt] at hd
      cases hd
      refine ⟨α5, F5, μ5, wipeE env own, .d xs[i], env6, μ6, R5, ((re.mono x1).mono x5).wipe own, dx, e6, fun α6 F6 H6 σ6 x6 R6 re6 hw => ⟨?_, ?_⟩⟩
      · rw [hw own ht, wipe_wipe]
      refine ⟨α6, F6, μ6, env6, b, μ7, R6, re6, e7, fun α7 F7 H7 x7 R7 => ?_⟩
      have nD5 : H' D ≠ none := by rw [h5]; simp
      have x57 := x6.trans x7
      have h7 : H7 D = some (.lst vacc) := x57.fr _ _ h5 D5
      have D7 := x57.off nD5 D5
      have DF7 : F7 D = none := x57.uf _ nD5 D5 DF5
      cases b with
      | false =>
        simp only [Bool.false_eq_true, if_false] at e5 ⊢
        exact ⟨α7, F7, μ7, vacc, acc, ys, R7, x5.trans x57, h7, D7, DF7, DrAll.mono x57.f _ _ d5, e5, et⟩
      | true =>
        simp only [if_true] at e5 ⊢
        obtain ⟨w8, μ8, e8, e5⟩ := bnd_inv e5
        obtain ⟨y9, μ9, e9, e5⟩ := bnd_inv e5
        obtain ⟨zs, μ10, e10, e5⟩ := bnd_inv e5
        simp only [Option.some.injEq, Prod.mk.injEq] at e5
        obtain ⟨rfl, rfl⟩ := e5
        refine ⟨α7, F7, μ7, env6, w8, μ8, R7, re6.mono x7, e8, fun α8 F8 H8 v8 x8 R8 r8 => ?_⟩
        have nD7 : H7 D ≠ none := by rw [h7]; simp
        have h8 : H8 D = some (.lst vacc) := x8.fr _ _ h7 D7
        have D8 := x8.off nD7 D7
        have DF8 : F8 D = none := x8.uf _ nD7 D7 DF7
        obtain ⟨F9, x9, R9, d9⟩ := toD_ok R8 r8 e9
        have nD8 : H8 D ≠ none := by rw [h8]; simp
        have DF9 : F9 D = none := x9.uf _ nD8 D8 DF8
        have dacc : DrAll F9 vacc acc := DrAll.mono ((x57.f.trans x8.f).trans x9.f) _ _ d5
        refine ⟨vacc, h8, ?_, α8, F9, μ9, vacc ++ [v8], acc ++ [y9], zs, R9.off D8 DF9, ?_, upd_same, D8, DF9, dacc.app (.cons d9 .nil), e10, ?_⟩
        · have := congrArg List.length et
          rw [List.length_append, List.length_cons] at this
          rw [dacc.len]; omega
        · exact xD (((x5.trans x57).trans x8).trans x9)
        · rw [← et]; simp
    · cases e5
  · left
    have hi' : i = xs.length := by omega
    subst hi'
    rw [List.drop_length] at e5
    obtain ⟨okS, rfl, rfl⟩ := compL_nil e5
    refine ⟨ok.stop α5 F5 H5 μ2 _ (hα x5) x5.f R5 okS (Nat.le_refl _), ?_⟩
    rw [List.append_nil] at et
    subst et
    obtain ⟨α', F', x', R', r'⟩ := newL_adopt (K := K) x5 hD R5 h5 D5 DF5 d5 e3
    exact k _ _ _ _ (x1.trans x') R' r'
end MI

-- MiH
/-! soundness of expressions: all forms -/
namespace MI
open PySem PySem.Spec L2

section
variable {X : Cx} {K : PySem.W.Frag}
theorem pts_imp {ifs : List Expr} {t t' : TT} (h : PTs X ifs t) (i : ∀ σ H Q, t' σ H Q → t σ H Q) : PTs X ifs t' := ⟨fun pins s σ H Q I q => h.run pins s σ H Q I (i _ _ _ q)⟩
theorem pe_eq {e : Expr} {m m' : En → MH → Option (W × MH)} (h : PE X e (rdE K m)) (i : ∀ env μ, m' env μ = m env μ) : PE X e (rdE K m') := by
  have : m' = m := by funext env μ; exact i env μ
  rw [this]; exact h
/-- the truth of a value -/
theorem tru_dr {α : List Addr} {F H : Hp} {μ : MH} {v : V} {w : W} (R : Rel α F H μ) (r : RW K α F v w) {b : Bool} (h : truW w μ = some b) : TruV K v H b := by
  cases w with
  | s n => simp [truW] at h
  | c n =>
    obtain ⟨a, rfl, ha⟩ := r
    simp only [truW] at h
    split at h
    · rename_i c hc
      simp only [Option.some.injEq] at h
      subst h
      obtain ⟨vs, h1, h2, _⟩ := R.cell n a c ha hc
      refine .inl ⟨vs, SqL.of h1, ?_⟩
      have := h2.len
      cases vs <;> cases e : c.xs <;> rw [e] at this <;> simp at this <;> rfl
    · cases h
  | d x =>
    cases r with
    | non => simp [truW] at h; subst h; rfl
    | bl c => simp [truW] at h; subst h; rfl
    | int i => simp only [truW, Option.some.injEq] at h; subst h; rfl
    | str y => simp [truW] at h
    | lst h1 h2 =>
      simp only [truW, Option.some.injEq] at h
      subst h
      refine .inl ⟨_, SqL.of (R.sub _ _ h1), ?_⟩
      cases h2 <;> rfl
    | tup h1 h2 =>
      simp only [truW, Option.some.injEq] at h
      subst h
      refine .inr (.inl ⟨_, SqT.of (R.sub _ _ h1), ?_⟩)
      cases h2 <;> rfl
theorem rd_truth {m : En → MH → Option (W × MH)} {σ : L2.St} {H : Hp} {Q : Bool → Hp → Prop} (h : rdT K (fun env μ => bnd (m env μ) fun w μ => (truW w μ).map fun b => (b, μ)) σ H Q) :
    rdE K m σ H (fun x H' => ∃ k, TruV K x H' k ∧ Q k H') := by
  obtain ⟨α, F, μ, env, b, μ', R, re, e, k⟩ := h
  obtain ⟨w, μ1, e1, e2⟩ := bnd_inv e
  obtain ⟨b', e3, e4⟩ := Option.map_eq_some_iff.mp e2
  simp only [Prod.mk.injEq] at e4
  obtain ⟨rfl, rfl⟩ := e4
  exact ⟨α, F, μ, env, w, μ1, R, re, e1, fun α1 F1 H1 v x1 R1 r1 => ⟨b', tru_dr R1 r1 e3, k _ _ _ x1 R1⟩⟩
/-- a chain of two comparisons -/
theorem rd_chain {op op2 : Cop} {m1 m2 m3 : En → MH → Option (W × MH)} {σ : L2.St} {H : Hp} {Q : VK}
    (h : rdE K (fun env μ => bnd (m1 env μ) fun x μ => bnd (m2 env μ) fun y μ => match cmpW op x y μ with
      | some true => bnd (m3 env μ) fun z μ => match cmpW op2 y z μ with
        | some r => some (.d (.bool r), μ)
        | none => none
      | some false => some (.d (.bool false), μ)
      | none => none) σ H Q) : tChain (rd2 K (cmpV op)) (rd2 K (cmpV op2)) (rdE K m1) (rdE K m2) (rdE K m3) σ H Q := by
  obtain ⟨α, F, μ, env, w, μ', R, re, e, k⟩ := h
  obtain ⟨x, μ1, e1, e⟩ := bnd_inv e
  obtain ⟨y, μ2, e2, e⟩ := bnd_inv e
  refine ⟨α, F, μ, env, x, μ1, R, re, e1, fun α1 F1 H1 v1 x1 R1 r1 => ⟨α1, F1, μ1, env, y, μ2, R1, re.mono x1, e2, fun α2 F2 H2 v2 x2 R2 r2 => ?_⟩⟩
  split at e
  · rename_i ec
    refine ⟨α2, F2, μ2, x, y, .d (.bool true), μ2, R2, r1.mono x2, r2, by unfold cmpV; rw [ec], fun α3 F3 H3 v3 x3 R3 r3 => ⟨true, dr_bool r3, ?_⟩⟩
    rw [if_pos rfl]
    obtain ⟨z, μ3, e3, e⟩ := bnd_inv e
    refine ⟨α3, F3, μ2, env, z, μ3, R3, ((re.mono x1).mono x2).mono x3, e3, fun α4 F4 H4 v4 x4 R4 r4 => ?_⟩
    exact ⟨α4, F4, μ3, y, z, w, μ', R4, (r2.mono x3).mono x4, r4, e, fun α5 F5 H5 v5 x5 R5 r5 => k _ _ _ _ ((((x1.trans x2).trans x3).trans x4).trans x5) R5 r5⟩
  · rename_i ec
    simp only [Option.some.injEq, Prod.mk.injEq] at e
    obtain ⟨rfl, rfl⟩ := e
    refine ⟨α2, F2, μ2, x, y, .d (.bool false), μ2, R2, r1.mono x2, r2, by unfold cmpV; rw [ec], fun α3 F3 H3 v3 x3 R3 r3 => ⟨false, dr_bool r3, ?_⟩⟩
    rw [if_neg Bool.false_ne_true]
    exact k _ _ _ _ ((x1.trans x2).trans x3) R3 (.bl false)
  · cases e
theorem rd_tb {m : En → MH → Option (Bool × MH)} {m' : En → MH → Option (W × MH)} (i : ∀ env μ b μ', m env μ = some (b, μ') → m' env μ = some (.d (.bool b), μ')) {σ : L2.St} {H : Hp} {Q : Bool → Hp → Prop} (h : rdT K m σ H Q) :
    rdE K m' σ H (fun x H' => ∃ k, x = .bl k ∧ Q k H') := by
  obtain ⟨α, F, μ, env, b, μ', R, re, e, k⟩ := h
  exact ⟨α, F, μ, env, _, μ', R, re, i _ _ _ _ e, fun α1 F1 H1 v x1 R1 r1 => ⟨b, dr_bool r1, k _ _ _ x1 R1⟩⟩
end

section
variable {pg : Pg} {N : List Str} {call : Nat → List W → MH → Option (W × MH)}
/-- a call of one of the program's defs -/
theorem call_ok {X : Cx} {sc : Sc} (G : Good pg N call X sc) {f : Nat} {x : Str} (hf : pg.fn[f]? = some x) (hg : glB sc x = true) (ho : okN x = true) {es : Es} {es' : List Expr} (hes : chkEs pg N es sc es' = true) (ha : PA X es' (rdA X.K (evEs call es)))
    {p pos : Pos} : PE X (.Call (.Name x p) es' [] pos) (tCB (rdC X.K (call f)) (rdA X.K (evEs call es))) := by
  obtain ⟨lv, a, fd, ps, hm, hk, hb, hr, F⟩ := G.fns f x hf
  cases es' with
  | nil =>
    have := chkEs_nil hes
    subst this
    refine pe_imp (pe_call0 F hr (G.gl hg) hm hk hb .nil pass0 (okN_d ho)) fun σ H Q h => ?_
    obtain ⟨α, F, μ, env, ws, μ', R, re, e, k⟩ := h
    simp only [evEs, Option.some.injEq, Prod.mk.injEq] at e
    obtain ⟨rfl, rfl⟩ := e
    exact k _ _ _ [] (Ext.refl _ _ _) R .nil
  | cons e1 r =>
    have hs : isStar e1 = false ∧ (∃ es2, chkEs pg N es2 sc r = true) := by
      cases es with
      | nil => simp [chkEs] at hes
      | cons e2 r2 =>
        unfold chkEs at hes
        rw [Bool.and_eq_true] at hes
        exact ⟨not_star hes.1, r2, hes.2⟩
    obtain ⟨hs, es2, h2⟩ := hs
    refine pe_imp (pe_call F hr (G.gl hg) hm hk hb .nil pass0 ha (okN_d ho) (star_cons hs r _) (star_all h2)) fun σ H Q h => ?_
    obtain ⟨α, F, μ, env, ws, μ', R, re, e, k⟩ := h
    refine ⟨α, F, μ, env, ws, μ', R, re, e, fun α1 F1 H1 vs x1 R1 r1 => ?_⟩
    show rdC X.K (call f) (vs ++ []) H1 Q
    rw [List.append_nil]
    exact k _ _ _ _ x1 R1 r1
theorem bi_ok {X : Cx} {sc : Sc} (G : Good pg N call X sc) {b : Bi} {live : Bool} (hg : glB sc (biN b) = true) (hgc : (pg.gc || !decide (b = .gcd)) = true) {es : Es} {e1 : Expr} {r : List Expr} (hes : chkEs pg N es sc (e1 :: r) = true) (ha : PA X (e1 :: r) (rdA X.K (evEs call es)))
    {p pos : Pos} : PE X (.Call (.Name (biN b) p) (e1 :: r) [] pos) (tCB (rdC X.K (biW b live)) (rdA X.K (evEs call es))) := by
  have hs : isStar e1 = false ∧ (∃ es2, chkEs pg N es2 sc r = true) := by
    cases es with
    | nil => simp [chkEs] at hes
    | cons e2 r2 =>
      unfold chkEs at hes
      rw [Bool.and_eq_true] at hes
      exact ⟨not_star hes.1, r2, hes.2⟩
  obtain ⟨hs, es2, h2⟩ := hs
  have cr := cr_bi (X := X) b G.calm live
  have bo := boot_bi b
  have hn := biN_ne b
  have hbl := G.bl b
  have st := star_cons hs r X.env
  have sa : (backTo pos (starEach r X.env)).any (·.1) = false := star_all h2
  cases b with
  | gcd => exact pe_callBfun cr (G.gl hg) (G.gc (by simpa using hgc)) ha hn.2 st sa
  | len => exact pe_callB cr (G.gl hg) (hbl (by simp)) (bo (by simp)) ha hn.1 hn.2 st sa
  | abs => exact pe_callB cr (G.gl hg) (hbl (by simp)) (bo (by simp)) ha hn.1 hn.2 st sa
  | max => exact pe_callB cr (G.gl hg) (hbl (by simp)) (bo (by simp)) ha hn.1 hn.2 st sa
  | min => exact pe_callB cr (G.gl hg) (hbl (by simp)) (bo (by simp)) ha hn.1 hn.2 st sa
  | sum => exact pe_callB cr (G.gl hg) (hbl (by simp)) (bo (by simp)) ha hn.1 hn.2 st sa
  | any => exact pe_callB cr (G.gl hg) (hbl (by simp)) (bo (by simp)) ha hn.1 hn.2 st sa
  | all => exact pe_callB cr (G.gl hg) (hbl (by simp)) (bo (by simp)) ha hn.1 hn.2 st sa
  | int => exact pe_callTy cr (G.gl hg) (hbl (by simp)) (bo (by simp)) ha hn.1 hn.2 st sa
  | list => exact pe_callTy cr (G.gl hg) (hbl (by simp)) (bo (by simp)) ha hn.1 hn.2 st sa
  | tuple => exact pe_callTy cr (G.gl hg) (hbl (by simp)) (bo (by simp)) ha hn.1 hn.2 st sa
  | range => exact pe_callTy cr (G.gl hg) (hbl (by simp)) (bo (by simp)) ha hn.1 hn.2 st sa

/-! ### isinstance -/
theorem pe_ty {X : Cx} {sc : Sc} (G : Good pg N call X sc) {t : Ty} {e' : Expr} (h : tyB sc t e' = true) : PE X e' (tC (.ty (tyN t))) := by
  unfold tyB at h
  split at h
  · rename_i x pos
    rw [Bool.and_eq_true, decide_eq_true_eq] at h
    obtain ⟨rfl, hg⟩ := h
    exact pe_bltn (G.gl hg) (G.tys _) (boot_ty _) rfl (tyN_ne _).1 (tyN_ne _).2
  · cases h
def tTys (tys : List Ty) : TA := fun _ H Q => Q (tys.map fun t => V.ty (tyN t)) H
theorem ty_nostar {sc : Sc} {t : Ty} {e' : Expr} (h : tyB sc t e' = true) : isStar e' = false := by
  unfold tyB at h
  split at h
  · rfl
  · cases h
theorem pa_tys {X : Cx} {sc : Sc} (G : Good pg N call X sc) : ∀ {tys : List Ty} {es' : List Expr}, tysB sc tys es' = true → PA X es' (tTys tys)
  | [], es', h => by
    cases es' with
    | nil => exact pa_nil
    | cons _ _ => simp [tysB] at h
  | t :: ts, es', h => by
    cases es' with
    | nil => simp [tysB] at h
    | cons e' r =>
      simp only [tysB, Bool.and_eq_true] at h
      exact pa_imp (pa_cons (pe_ty G h.1) (pa_tys G h.2) (star_cons (ty_nostar h.1) r _)) fun σ H Q q => q
theorem tys_star {sc : Sc} {env : Env} {pos : Pos} : ∀ {tys : List Ty} {es' : List Expr}, tysB sc tys es' = true → (backTo pos (starEach es' env)).any (·.1) = false
  | [], es', h => by
    cases es' with
    | nil => rfl
    | cons _ _ => simp [tysB] at h
  | t :: ts, es', h => by
    cases es' with
    | nil => simp [tysB] at h
    | cons e' r =>
      simp only [tysB, Bool.and_eq_true] at h
      rw [star_cons (ty_nostar h.1)]
      have := tys_star (env := env) (pos := pos) h.2
      unfold backTo at this ⊢
      rw [List.map_cons, List.any_cons, this]
      rfl
theorem isi_ty {X : Cx} {α : List Addr} {F H : Hp} {μ : MH} {v : V} {w : W} (R : Rel α F H μ) (r : RW X.K α F v w) {tys : List Ty} {b : Bool} (h : isiW w tys = some b) :
    ∃ t, TyX X.K H v t ∧ PySem.W.kitAny X.K t (tys.map fun u => .type (tyN u)) = some b := by
  unfold isiW at h
  split at h
  · rename_i t ht
    simp only [Option.some.injEq] at h
    refine ⟨.type (tyN t), .base (ty_ok R r ht fun n e => ?_), by rw [kit_any, h]⟩
    subst e
    obtain ⟨a, _, ha⟩ := r
    have hl : n < μ.length := by rw [← R.len]; exact (List.getElem?_eq_some_iff.mp ha).1
    exact ⟨_, List.getElem?_eq_getElem hl⟩
  · split at h
    · rename_i hn
      simp only [Option.some.injEq] at h
      subst h
      have : w = .d .none := by
        unfold isNoneW at hn
        split at hn
        · rfl
        · cases hn
      subst this
      have := dr_none r
      subst this
      exact ⟨_, .base .non, kit_none tys⟩
    · cases h
theorem clsv_tys : ∀ tys : List Ty, Paired ClsV (tys.map fun t => V.ty (tyN t)) (tys.map fun u => Value.type (tyN u))
  | [] => .nil
  | t :: ts => .cons (.ty _) (clsv_tys ts)
theorem isi1_ok {X : Cx} {sc : Sc} (G : Good pg N call X sc) {tys : List Ty} {x y : Str} {e1 : Expr} {p py pos : Pos} {m : En → MH → Option (W × MH)} (hx : x = "isinstance") (hg : glB sc x = true) (hst : isStar e1 = false) (he : PE X e1 (rdE X.K m)) (ht : tysB sc tys [.Name y py] = true) :
    PE X (.Call (.Name x p) [e1, .Name y py] [] pos) (rdE X.K fun env μ => bnd (m env μ) fun w μ => match isiW w tys with
      | some b => some (.d (.bool b), μ)
      | none => none) := by
  subst hx
  have hl : ∃ t, tys = [t] ∧ tyB sc t (.Name y py) = true := by
    cases tys with
    | nil => simp [tysB] at ht
    | cons t ts =>
      simp only [tysB, Bool.and_eq_true] at ht
      cases ts with
      | nil => exact ⟨t, rfl, ht.1⟩
      | cons _ _ => simp [tysB] at ht
  obtain ⟨t, rfl, h1⟩ := hl
  refine pe_imp (pe_callB call_isi (G.gl hg) G.isi PyProof.Rows.boot_isinstance (pa_cons he (pa_cons (pe_ty G h1) pa_nil (star_cons rfl _ _)) (star_cons hst _ _)) (by decide) (by decide) (star_cons hst _ _) rfl) fun σ H Q h => ?_
  obtain ⟨α, F, μ, env, w, μ', R, re, e, k⟩ := h
  obtain ⟨u, μ1, e1, e2⟩ := bnd_inv e
  refine ⟨α, F, μ, env, u, μ1, R, re, e1, fun α1 F1 H1 v x1 R1 r1 => ?_⟩
  split at e2
  · rename_i b hb
    simp only [Option.some.injEq, Prod.mk.injEq] at e2
    obtain ⟨rfl, rfl⟩ := e2
    obtain ⟨t', ht', kt⟩ := isi_ty R1 r1 hb
    refine ⟨v, .ty (tyN t), t', .type (tyN t), b, rfl, .ty _, ht', ?_, k _ _ _ _ x1 R1 (.bl b)⟩
    have kt : PySem.W.kitAny X.K t' [.type (tyN t)] = some b := kt
    unfold PySem.W.kitAny at kt
    split at kt
    · rename_i hq; rw [hq]; exact kt
    · rename_i hq; rw [hq]; exact kt
    · cases kt
  · cases e2
theorem isiN_ok {X : Cx} {sc : Sc} (G : Good pg N call X sc) {tys : List Ty} {x : Str} {e1 : Expr} {ts : List Expr} {kk : Nat} {p pt pos : Pos} {m : En → MH → Option (W × MH)} (hx : x = "isinstance") (hg : glB sc x = true) (hst : isStar e1 = false) (he : PE X e1 (rdE X.K m)) (ht : tysB sc tys ts = true) (hlen : tys.length ≤ 100) :
    PE X (.Call (.Name x p) [e1, .Tuple ts kk pt] [] pos) (rdE X.K fun env μ => bnd (m env μ) fun w μ => match isiW w tys with
      | some b => some (.d (.bool b), μ)
      | none => none) := by
  subst hx
  refine pe_imp (pe_callB call_isiT (G.gl hg) G.isi PyProof.Rows.boot_isinstance (pa_cons he (pa_cons (pe_tup (pa_tys G ht)) pa_nil (star_cons rfl _ _)) (star_cons hst _ _)) (by decide) (by decide) (star_cons hst _ _) rfl) fun σ H Q h => ?_
  obtain ⟨α, F, μ, env, w, μ', R, re, e, k⟩ := h
  obtain ⟨u, μ1, e1, e2⟩ := bnd_inv e
  refine ⟨α, F, μ, env, u, μ1, R, re, e1, fun α1 F1 H1 v x1 R1 r1 => ?_⟩
  split at e2
  · rename_i b hb
    simp only [Option.some.injEq, Prod.mk.injEq] at e2
    obtain ⟨rfl, rfl⟩ := e2
    have hz : (tys.map fun t => V.ty (tyN t)).length ≤ sizeLine := by
      rw [List.length_map]
      exact Nat.le_trans hlen (by decide)
    · refine ⟨hz, fun q hq => ?_⟩
      obtain ⟨x2, R2⟩ := R1.new (o := .tup (tys.map fun t => V.ty (tyN t))) hq
      obtain ⟨t', ht', kt⟩ := isi_ty R2 (r1.mono x2) hb
      exact ⟨v, q, _, t', _, b, rfl, upd_same, clsv_tys tys, ht', kt, k _ _ _ _ (x1.trans x2) R2 (.bl b)⟩
  · cases e2

/-! ### all forms at once -/
theorem meth_ok {X : Cx} {sc : Sc} (G : Good pg N call X sc) {m : Me} {o : E} {es : Es} {x : Str} {px apos cpos : Pos} {es' : List Expr} (ho : PE X (.Name x px) (rdE X.K (evE call o))) (hes : chkEs pg N es sc es' = true) (ha : PA X es' (rdA X.K (evEs call es)))
    (hline : (apos.endLine == cpos.line) = true) (hfew : es'.length < 30) :
    PE X (.Call (.Attribute (.Name x px) (Str.ofString (meN m)) apos) es' [] cpos) (rdE X.K fun env μ => bnd (evE call o env μ) fun y μ => bnd (evEs call es env μ) fun ws μ => methW m y ws μ) := by
  have slot : Slot "list" (Str.ofString (meN m)) (meId m) := match m with
    | .append => PySem.F.slot_list_append
    | .pop => PySem.F.slot_list_pop
    | .reverse => PySem.F.slot_list_reverse
    | .extend => PySem.F.slot_list_extend
  have ty : typeOf (.builtin (meId m)) = pure (.type "method_descriptor") := match m with
    | .append => PySem.F.type_list_append
    | .pop => PySem.F.type_list_pop
    | .reverse => PySem.F.type_list_reverse
    | .extend => PySem.F.type_list_extend
  have recv : ∀ {α : List Addr} {F H : Hp} {μ : MH} {v : V} {n : Nat}, Rel α F H μ → RW X.K α F v (.c n) → tyV X.K "list" v H := fun {α F H μ v n} R r => by
    obtain ⟨a, rfl, ha⟩ := r
    have hl : n < μ.length := by rw [← R.len]; exact (List.getElem?_eq_some_iff.mp ha).1
    obtain ⟨vs, h1, _⟩ := R.cell n a _ ha (List.getElem?_eq_getElem hl)
    exact .inl ⟨rfl, vs, SqL.of h1⟩
  cases es' with
  | nil =>
    have := chkEs_nil hes
    subst this
    refine pe_imp (pe_bm0 PySem.F.plainAttrs_list slot ty (mtr m) ho rfl hline) fun σ H Q h => ?_
    obtain ⟨α, F, μ, env, w, μ', R, re, e, k⟩ := h
    obtain ⟨y, μ1, e1, e⟩ := bnd_inv e
    obtain ⟨ws, μ2, e2, e⟩ := bnd_inv e
    simp only [evEs, Option.some.injEq, Prod.mk.injEq] at e2
    obtain ⟨rfl, rfl⟩ := e2
    obtain ⟨n, rfl⟩ := mt_live e
    exact ⟨α, F, μ, env, .c n, μ1, R, re, e1, fun α1 F1 H1 v x1 R1 r1 => ⟨recv R1 r1, α1, F1, μ1, .c n, [], w, μ', R1, r1, .nil, e, fun α2 F2 H2 v2 x2 R2 r2 => k _ _ _ _ (x1.trans x2) R2 r2⟩⟩
  | cons e1' r =>
    have hs : isStar e1' = false ∧ (∃ es2, chkEs pg N es2 sc r = true) := by
      cases es with
      | nil => simp [chkEs] at hes
      | cons e2 r2 =>
        unfold chkEs at hes
        rw [Bool.and_eq_true] at hes
        exact ⟨not_star hes.1, r2, hes.2⟩
    obtain ⟨hs, es2, h2⟩ := hs
    have few : ((backTo cpos (starEach (e1' :: r) X.env)).all (fun x => !x.1) && (backToKw cpos (keywordEach [] X.env)).all (fun x => x.1.isSome)
      && decide ((e1' :: r).length + ([] : List Keyword).length + (if ([] : List Keyword).isEmpty then 0 else 1) < 30)) = true := by
      rw [star_fst hes]
      have : decide ((e1' :: r).length + ([] : List Keyword).length + (if ([] : List Keyword).isEmpty then 0 else 1) < 30) = true := by
        apply decide_eq_true
        simpa using hfew
      rw [this]
      rfl
    refine pe_imp (pe_bm PySem.F.plainAttrs_list slot ty (mtr m) ho ha rfl few hline (star_cons hs r _) (star_all h2)) fun σ H Q h => ?_
    obtain ⟨α, F, μ, env, w, μ', R, re, e, k⟩ := h
    obtain ⟨y, μ1, e1, e⟩ := bnd_inv e
    obtain ⟨ws, μ2, e2, e⟩ := bnd_inv e
    obtain ⟨n, rfl⟩ := mt_live e
    exact ⟨α, F, μ, env, .c n, μ1, R, re, e1, fun α1 F1 H1 v x1 R1 r1 => ⟨recv R1 r1, α1, F1, μ1, env, ws, μ2, R1, re.mono x1, e2, fun α2 F2 H2 vs x2 R2 r2 =>
      ⟨α2, F2, μ2, .c n, ws, w, μ', R2, r1.mono x2, r2, e, fun α3 F3 H3 v3 x3 R3 r3 => k _ _ _ _ ((x1.trans x2).trans x3) R3 r3⟩⟩⟩
end
end MI

-- MiI
/-! soundness of expressions: the recursion -/
namespace MI
open PySem PySem.Spec L2

section
variable {pg : Pg} {N : List Str} {call : Nat → List W → MH → Option (W × MH)}
theorem pt_void {X : Cx} {e' : Expr} {K : PySem.W.Frag} {m : En → MH → Option (Bool × MH)} (h : ∀ env μ, m env μ = none) : PT X e' (rdT K m) :=
  ⟨fun pins s σ H Q I q => by
    obtain ⟨α, F, μ, env, b, μ', R, re, e, k⟩ := q
    rw [h] at e; cases e⟩
theorem pw_void {X : Cx} {e' : Expr} {K : PySem.W.Frag} {m : En → MH → Option (Bool × MH)} (h : ∀ env μ, m env μ = none) : PW X e' (rdT K m) :=
  ⟨fun wh pins s σ H Q I q => by
    obtain ⟨α, F, μ, env, b, μ', R, re, e, k⟩ := q
    rw [h] at e; cases e⟩
theorem pe_void {X : Cx} {e' : Expr} {K : PySem.W.Frag} {m : En → MH → Option (W × MH)} (h : ∀ env μ, m env μ = none) : PE X e' (rdE K m) :=
  ⟨fun pins s σ H Q I q => by
    obtain ⟨α, F, μ, env, b, μ', R, re, e, k⟩ := q
    rw [h] at e; cases e⟩
theorem pt_val_of {X : Cx} {e' : Expr} {m : En → MH → Option (W × MH)} (h : PE X e' (rdE X.K m)) (he : ∀ whole, isTrue e' X.env whole = (do let v ← whole; standAt e'.pos; holding [v] (truthy v))) :
    PT X e' (rdT X.K (fun env μ => bnd (m env μ) fun w μ => (truW w μ).map fun b => (b, μ))) := pt_imp (pt_truth h he) fun σ H Q q => rd_truth q
theorem pt_eq {X : Cx} {e' : Expr} {K : PySem.W.Frag} {m m' : En → MH → Option (Bool × MH)} (h : PT X e' (rdT K m)) (i : ∀ env μ, m' env μ = m env μ) : PT X e' (rdT K m') := by
  have : m' = m := by funext env μ; exact i env μ
  rw [this]; exact h
theorem asgTs_len {sc : Sc} : ∀ {ts : Tgs} {es' : List Expr} {xs : List D} {env : En} {μ : MH} {r : En × MH}, chkGs pg N ts sc es' = true → asgTs call ts xs env μ = some r → xs.length = es'.length
  | .nil, es', xs, env, μ, r, h, e => by
    simp only [chkGs, List.isEmpty_iff] at h
    subst h
    cases xs with
    | nil => rfl
    | cons _ _ => simp [asgTs] at e
  | .cons t ts, es', xs, env, μ, r, h, e => by
    cases es' with
    | nil => simp [chkGs] at h
    | cons e' r' =>
      simp only [chkGs, Bool.and_eq_true] at h
      cases xs with
      | nil => simp [asgTs] at e
      | cons x xs =>
        simp only [asgTs] at e
        obtain ⟨env1, μ1, _, e2⟩ := bnd_inv e
        simp only [List.length_cons]
        rw [asgTs_len h.2 e2]
theorem tg_star {sc : Sc} {t : Tg} {e' : Expr} (h : chkG pg N t sc e' = true) : isStar e' = false := by
  cases e' <;> first | rfl | (exfalso; cases t <;> simp [chkG] at h)
theorem asg_cons {e' : Expr} (h : isStar e' = false) (es : List Expr) (env : Env) : assignEach (e' :: es) env = (false, assign e' env) :: assignEach es env := by
  cases e' <;> first | rfl | cases h
theorem asg_len {sc : Sc} {env : Env} : ∀ {ts : Tgs} {es' : List Expr}, chkGs pg N ts sc es' = true → (assignEach es' env).length = es'.length ∧ (assignEach es' env).findIdx? (·.1) = none
  | .nil, es', h => by
    simp only [chkGs, List.isEmpty_iff] at h
    subst h
    exact ⟨rfl, rfl⟩
  | .cons t ts, es', h => by
    cases es' with
    | nil => simp [chkGs] at h
    | cons e' r' =>
      simp only [chkGs, Bool.and_eq_true] at h
      obtain ⟨h1, h2⟩ := asg_len (env := env) h.2
      rw [asg_cons (tg_star h.1)]
      refine ⟨by simp [h1], ?_⟩
      rw [List.findIdx?_cons]
      simp [h2]
theorem wipe_same {own : List Nat} {σ : L2.St} : L2.wipe σ own = L2.wipe σ own := rfl

set_option maxHeartbeats 2000000
mutual
theorem sndE : ∀ (e : E) {X : Cx} {sc : Sc} {e' : Expr}, Good pg N call X sc → chkE pg N e sc e' = true → PE X e' (rdE X.K (evE call e))
  | .var i, X, sc, e', G, h => by
    simp only [chkE] at h
    split at h
    · rename_i x pos
      simp only [Bool.and_eq_true, decide_eq_true_eq] at h
      obtain ⟨⟨h1, h2⟩, h3⟩ := h
      refine pe_imp (pe_var (i := i) (by rw [G.nm]; exact h1) (G.vis h2) (okN_d h3) (okN_c h3)) fun σ H Q q => ?_
      obtain ⟨α, F, μ, env, w, μ', R, re, e, k⟩ := q
      simp only [evE] at e
      split at e
      · rename_i w' hw
        simp only [Option.some.injEq, Prod.mk.injEq] at e
        obtain ⟨rfl, rfl⟩ := e
        obtain ⟨v, hv, r⟩ := re.2 i _ hw
        exact ⟨v, hv, kt_here k R r⟩
      · cases e
    · cases h
  | .cst d, X, sc, e', G, h => by
    simp only [chkE] at h
    split at h
    · rename_i c j pos
      have fin : ∀ {v : V} {σ : L2.St} {H : Hp} {Q : VK}, (∀ F, Dr F v d) → rdE X.K (evE call (.cst d)) σ H Q → tC v σ H Q := fun {v σ H Q} hv q => by
        obtain ⟨α, F, μ, env, w, μ', R, re, e, k⟩ := q
        simp only [evE, Option.some.injEq, Prod.mk.injEq] at e
        obtain ⟨rfl, rfl⟩ := e
        exact kt_here k R (hv F)
      unfold cstB at h
      split at h
      · exact pe_imp pe_non fun σ H Q q => fin (fun F => .non) q
      · have := eq_of_beq h; subst this
        exact pe_imp pe_bl fun σ H Q q => fin (fun F => .bl _) q
      · have := of_decide_eq_true h; subst this
        exact pe_imp pe_int fun σ H Q q => fin (fun F => .int _) q
      · have := of_decide_eq_true h; subst this
        exact pe_imp pe_str fun σ H Q q => fin (fun F => .str _) q
      · cases h
    · cases h
  | .bop l op a b, X, sc, e', G, h => by
    simp only [chkE] at h
    split at h
    · rename_i a' o b' pos
      simp only [Bool.and_eq_true] at h
      obtain ⟨⟨h1, h2⟩, h3⟩ := h
      exact pe_imp (pe_op (op_bop h1 l) (sndE a G h2) (sndE b G h3)) fun σ H Q q => rd_op (by have q' := q; simp only [evE] at q'; exact q')
    · cases h
  | .neg a, X, sc, e', G, h => by
    simp only [chkE] at h
    split at h
    · rename_i a' pos
      refine pe_imp (pe_un un_neg (sndE a G h)) fun σ H Q q => ?_
      obtain ⟨α, F, μ, env, w, μ', R, re, e, k⟩ := q
      simp only [evE] at e
      obtain ⟨x, μ1, e1, e2⟩ := bnd_inv e
      refine ⟨α, F, μ, env, x, μ1, R, re, e1, fun α1 F1 H1 v x1 R1 r1 => ?_⟩
      split at e2
      · simp only [Option.some.injEq, Prod.mk.injEq] at e2
        obtain ⟨rfl, rfl⟩ := e2
        exact ⟨_, dr_int r1, k _ _ _ _ x1 R1 (.int _)⟩
      · cases e2
    · cases h
  | .not a, X, sc, e', G, h => by
    simp only [chkE] at h
    split at h
    · rename_i a' pos
      refine pe_imp (pe_not (sndE a G h)) fun σ H Q q => ?_
      obtain ⟨α, F, μ, env, w, μ', R, re, e, k⟩ := q
      simp only [evE] at e
      obtain ⟨x, μ1, e1, e2⟩ := bnd_inv e
      refine ⟨α, F, μ, env, x, μ1, R, re, e1, fun α1 F1 H1 v x1 R1 r1 => ?_⟩
      split at e2
      · simp only [Option.some.injEq, Prod.mk.injEq] at e2
        obtain ⟨rfl, rfl⟩ := e2
        exact ⟨_, dr_bool r1, k _ _ _ _ x1 R1 (.bl _)⟩
      · cases e2
    · cases h
  | .boo k es, X, sc, e', G, h => by
    simp only [chkE] at h
    split at h
    · rw [Bool.and_eq_true] at h
      refine pe_eq (sndBV es k (G := G) (op := .And) (by rw [h.1]; rfl) h.2) fun env μ => by first | (simp only [evE]; done) | (simp only [evE]; rfl)
    · simp only [Bool.and_eq_true, Bool.not_eq_true'] at h
      refine pe_eq (sndBV es k (G := G) (op := .Or) (by rw [h.1]; rfl) h.2) fun env μ => by first | (simp only [evE]; done) | (simp only [evE]; rfl)
    · cases h
  | .cmp op a b, X, sc, e', G, h => by
    simp only [chkE] at h
    split at h
    · rename_i a' o b' pos
      simp only [Bool.and_eq_true, Bool.not_eq_true'] at h
      obtain ⟨⟨⟨h1, h2⟩, h3⟩, h4⟩ := h
      exact pe_imp (pe_cmpR (op_cop h1 G.hu) (sndE a G h2) (sndE b G h3) (no_behind h4)) fun σ H Q q => rd_op (by have q' := q; simp only [evE] at q'; exact q')
    · cases h
  | .chain op op2 a b c, X, sc, e', G, h => by
    simp only [chkE] at h
    split at h
    · rename_i a' o o2 b' c' pos
      simp only [Bool.and_eq_true, Bool.not_eq_true'] at h
      obtain ⟨⟨⟨⟨⟨h1, h2⟩, h3⟩, h4⟩, h5⟩, h6⟩ := h
      exact pe_imp (pe_chain (op_cop h1 G.hu) (op_cop h2 G.hu) (sndE a G h3) (sndE b G h4) (sndE c G h5) (no_last h6)) fun σ H Q q => rd_chain (by have q' := q; simp only [evE] at q'; exact q')
    · cases h
  | .ite c a b, X, sc, e', G, h => by
    simp only [chkE] at h
    split at h
    · rename_i c' a' b' pos
      simp only [Bool.and_eq_true] at h
      obtain ⟨⟨h1, h2⟩, h3⟩ := h
      refine pe_imp (pe_ifExp (sndT c G h1) (sndE a G h2) (sndE b G h3)) fun σ H Q q => ?_
      obtain ⟨α, F, μ, env, w, μ', R, re, e, k⟩ := q
      simp only [evE] at e
      obtain ⟨t, μ1, e1, e2⟩ := bnd_inv e
      refine ⟨α, F, μ, env, t, μ1, R, re, e1, fun α1 F1 H1 x1 R1 => ?_⟩
      cases t with
      | true =>
        simp only [if_true] at e2 ⊢
        exact ⟨α1, F1, μ1, env, w, μ', R1, re.mono x1, e2, fun α2 F2 H2 v x2 R2 r2 => k _ _ _ _ (x1.trans x2) R2 r2⟩
      | false =>
        simp only [Bool.false_eq_true, if_false] at e2 ⊢
        exact ⟨α1, F1, μ1, env, w, μ', R1, re.mono x1, e2, fun α2 F2 H2 v x2 R2 r2 => k _ _ _ _ (x1.trans x2) R2 r2⟩
    · cases h
  | .call f es, X, sc, e', G, h => by
    simp only [chkE] at h
    split at h
    · rename_i x p es' pos
      simp only [Bool.and_eq_true, decide_eq_true_eq] at h
      obtain ⟨⟨⟨h1, h2⟩, h3⟩, h4⟩ := h
      exact pe_imp (call_ok G h1 h2 h3 h4 (sndEs es G h4)) fun σ H Q q => rd_cb (by simpa only [evE] using q)
    · cases h
  | .bi b l es, X, sc, e', G, h => by
    simp only [chkE] at h
    split at h
    · rename_i x p e1 es' pos
      simp only [Bool.and_eq_true, decide_eq_true_eq] at h
      obtain ⟨⟨⟨rfl, h2⟩, h3⟩, h4⟩ := h
      exact pe_imp (bi_ok (live := l) G h2 h3 h4 (sndEs es G h4)) fun σ H Q q => rd_cb (by simpa only [evE] using q)
    · cases h
  | .isi a tys, X, sc, e', G, h => by
    simp only [chkE] at h
    split at h
    · rename_i x p e1 y py pos
      simp only [Bool.and_eq_true, decide_eq_true_eq] at h
      obtain ⟨⟨⟨h1, h2⟩, h3⟩, h4⟩ := h
      exact pe_eq (isi1_ok G h1 h2 (not_star h3) (sndE a G h3) h4) fun env μ => by first | (simp only [evE]; done) | (simp only [evE]; rfl)
    · rename_i x p e1 ts kk pt pos
      simp only [Bool.and_eq_true, decide_eq_true_eq] at h
      obtain ⟨⟨⟨⟨h1, h2⟩, h3⟩, h4⟩, h5⟩ := h
      exact pe_eq (isiN_ok G h1 h2 (not_star h3) (sndE a G h3) h4 h5) fun env μ => by first | (simp only [evE]; done) | (simp only [evE]; rfl)
    · cases h
  | .ix a i, X, sc, e', G, h => by
    simp only [chkE] at h
    split at h
    · rename_i a' i' pos
      simp only [Bool.and_eq_true, Bool.not_eq_true'] at h
      obtain ⟨⟨h1, h2⟩, h3⟩ := h
      exact pe_imp (pe_ix ixr (sndE a G h1) (sndE i G h2) (plain_ix h3)) fun σ H Q q => rd_op (by have q' := q; simp only [evE] at q'; exact q')
    · cases h
  | .sl l a lo hi, X, sc, e', G, h => by
    simp only [chkE] at h
    split at h
    · rename_i a' lo' hi' p2 pos
      simp only [Bool.and_eq_true] at h
      obtain ⟨⟨h1, h2⟩, h3⟩ := h
      refine pe_imp (pe_slice (slr l) (sndE a G h1) (sndO lo G h2) (sndO hi G h3)) fun σ H Q q => ?_
      obtain ⟨α, F, μ, env, w, μ', R, re, e, k⟩ := q
      simp only [evE] at e
      obtain ⟨x, μ1, e1, e⟩ := bnd_inv e
      obtain ⟨p, μ2, e2, e⟩ := bnd_inv e
      obtain ⟨q, μ3, e3, e⟩ := bnd_inv e
      exact ⟨α, F, μ, env, x, μ1, R, re, e1, fun α1 F1 H1 v x1 R1 r1 => ⟨α1, F1, μ1, env, p, μ2, R1, re.mono x1, e2, fun α2 F2 H2 x2 R2 => ⟨α2, F2, μ2, env, q, μ3, R2, (re.mono x1).mono x2, e3, fun α3 F3 H3 x3 R3 =>
        ⟨α3, F3, μ3, x, w, μ', R3, (r1.mono x2).mono x3, e, fun α4 F4 H4 v4 x4 R4 r4 => k _ _ _ _ (((x1.trans x2).trans x3).trans x4) R4 r4⟩⟩⟩⟩
    · cases h
  | .tup es, X, sc, e', G, h => by
    simp only [chkE] at h
    split at h
    · rename_i es' kk pos
      refine pe_imp (pe_tup (sndEs es G h)) fun σ H Q q => ?_
      obtain ⟨α, F, μ, env, w, μ', R, re, e, k⟩ := q
      simp only [evE] at e
      obtain ⟨ws, μ1, e1, e⟩ := bnd_inv e
      obtain ⟨ds, μ2, e2, e⟩ := bnd_inv e
      refine ⟨α, F, μ, env, ws, μ1, R, re, e1, fun α1 F1 H1 vs x1 R1 r1 => ?_⟩
      obtain ⟨F2, x2, R2, d2⟩ := toDs_ok R1 r1 e2
      split at e
      · rename_i hz
        simp only [Option.some.injEq, Prod.mk.injEq] at e
        obtain ⟨rfl, rfl⟩ := e
        refine ⟨by rw [d2.len]; exact hz, fun p hp => ?_⟩
        obtain ⟨x3, R3⟩ := R2.new (o := .tup vs) hp
        exact k _ _ _ _ ((x1.trans x2).trans x3) R3 (.tup upd_same (DrAll.mono x3.f _ _ d2))
      · cases e
    · cases h
  | .lst l es, X, sc, e', G, h => by
    simp only [chkE] at h
    split at h
    · rename_i es' pos
      refine pe_imp (pe_lst (sndEs es G h)) fun σ H Q q => ?_
      obtain ⟨α, F, μ, env, w, μ', R, re, e, k⟩ := q
      simp only [evE] at e
      obtain ⟨ws, μ1, e1, e⟩ := bnd_inv e
      obtain ⟨ds, μ2, e2, e⟩ := bnd_inv e
      refine ⟨α, F, μ, env, ws, μ1, R, re, e1, fun α1 F1 H1 vs x1 R1 r1 => ?_⟩
      obtain ⟨F2, x2, R2, d2⟩ := toDs_ok R1 r1 e2
      refine ⟨by rw [d2.len]; exact newL_len e, fun p hp => ?_⟩
      obtain ⟨_, α3, F3, x3, R3, r3⟩ := newL_ok (K := X.K) R2 hp d2 e
      exact k _ _ _ _ ((x1.trans x2).trans x3) R3 r3
    · cases h
  | .comp l elt tg it c own, X, sc, e', G, h => by
    simp only [chkE] at h
    split at h
    · rename_i elt' tg' it' ifs' scope pos
      simp only [Bool.and_eq_true, Bool.not_eq_true'] at h
      obtain ⟨⟨⟨⟨⟨⟨⟨h1, h2⟩, h3⟩, h4⟩, h5⟩, h6⟩, h7⟩, h8⟩ := h
      have hb : blkC X.N X.env.scope scope own = true := by
        have : blkC X.N X.env.scope scope own = blkC N (scOf sc) scope own := by
          unfold blkC
          rw [G.nm, G.names]
          rfl
        rw [this]; exact h4
      refine pe_imp (pe_lc (own := own) G.calm (by rw [G.nm]; exact G.nd) (sndIt it G h1) (blkOk_by hb) (fun s H C cl fp => sndG tg (G.blk h3 s H C cl fp) h5) (fun s H C cl fp => sndC c (G.blk h3 s H C cl fp) h7)
        (fun s H C cl fp => sndE elt (G.blk h3 s H C cl fp) h8) (no_fold h2 _)) fun σ H Q q => rd_comp h6 (by simpa only [evE] using q)
    · cases h
  | .meth m o es, X, sc, e', G, h => by
    simp only [chkE] at h
    split at h
    · rename_i x px name apos es' cpos
      simp only [Bool.and_eq_true, decide_eq_true_eq] at h
      obtain ⟨⟨⟨⟨h1, rfl⟩, h3⟩, h4⟩, h5⟩ := h
      exact pe_eq (meth_ok G (sndE o G h1) h5 (sndEs es G h5) h3 h4) fun env μ => by first | (simp only [evE]; done) | (simp only [evE]; rfl)
    · cases h
theorem sndT : ∀ (e : E) {X : Cx} {sc : Sc} {e' : Expr}, Good pg N call X sc → chkE pg N e sc e' = true → PT X e' (rdT X.K (evT call e))
  | .not a, X, sc, e', G, h => by
    simp only [chkE] at h
    split at h
    · refine pt_imp (pt_not (sndT a G h)) fun σ H Q q => ?_
      obtain ⟨α, F, μ, env, w, μ', R, re, e, k⟩ := q
      simp only [evT] at e
      obtain ⟨b, μ1, e1, e2⟩ := bnd_inv e
      simp only [Option.some.injEq, Prod.mk.injEq] at e2
      obtain ⟨rfl, rfl⟩ := e2
      exact ⟨α, F, μ, env, b, μ1, R, re, e1, k⟩
    · cases h
  | .boo k es, X, sc, e', G, h => by
    simp only [chkE] at h
    split at h
    · rw [Bool.and_eq_true] at h
      exact pt_eq (sndBT es k (G := G) (op := .And) (by rw [h.1]; rfl) h.2).pt fun env μ => by simp only [evT]
    · simp only [Bool.and_eq_true, Bool.not_eq_true'] at h
      exact pt_eq (sndBT es k (G := G) (op := .Or) (by rw [h.1]; rfl) h.2).pt fun env μ => by simp only [evT]
    · cases h
  | .cmp op a b, X, sc, e', G, h => by
    simp only [chkE] at h
    split at h
    · rename_i a' o b' pos
      simp only [Bool.and_eq_true, Bool.not_eq_true'] at h
      obtain ⟨⟨⟨h1, h2⟩, h3⟩, h4⟩ := h
      refine pt_imp (pt_cmpR (op_cop h1 G.hu) (sndE a G h2) (sndE b G h3) (no_behind h4)) fun σ H Q q => ?_
      have q2 := rd_tb (m' := fun env μ => bnd (evE call a env μ) fun x μ => bnd (evE call b env μ) fun y μ => cmpV op x y μ) (fun env μ b' μ' e => by
        simp only [evT] at e
        obtain ⟨x, μ1, e1, e⟩ := bnd_inv e
        obtain ⟨y, μ2, e2, e⟩ := bnd_inv e
        rw [e1, bnd_some, e2, bnd_some]
        unfold cmpV
        split at e
        · rename_i r hr
          simp only [Option.some.injEq, Prod.mk.injEq] at e
          obtain ⟨rfl, rfl⟩ := e
          first | rw [hr] | rfl
        · cases e) q
      exact rd_op q2
    · cases h
  | .chain op op2 a b c, X, sc, e', G, h => by
    simp only [chkE] at h
    split at h
    · rename_i a' o o2 b' c' pos
      simp only [Bool.and_eq_true, Bool.not_eq_true'] at h
      obtain ⟨⟨⟨⟨⟨h1, h2⟩, h3⟩, h4⟩, h5⟩, h6⟩ := h
      refine pt_imp (pt_chain (op_cop h1 G.hu) (op_cop h2 G.hu) (sndE a G h3) (sndE b G h4) (sndE c G h5) (no_last h6)) fun σ H Q q => ?_
      have q2 := rd_tb (m' := fun env μ => bnd (evE call a env μ) fun x μ => bnd (evE call b env μ) fun y μ => match cmpW op x y μ with
        | some true => bnd (evE call c env μ) fun z μ => match cmpW op2 y z μ with
          | some r => some (.d (.bool r), μ)
          | none => none
        | some false => some (.d (.bool false), μ)
        | none => none) (fun env μ b' μ' e => by
        simp only [evT] at e
        obtain ⟨x, μ1, e1, e⟩ := bnd_inv e
        obtain ⟨y, μ2, e2, e⟩ := bnd_inv e
        rw [e1, bnd_some, e2, bnd_some]
        split at e
        · rename_i hr
          obtain ⟨z, μ3, e3, e⟩ := bnd_inv e
          first | rw [hr, e3] | rw [e3]
          simp only [bnd_some]
          split at e
          · rename_i r2 hr2
            simp only [Option.some.injEq, Prod.mk.injEq] at e
            obtain ⟨rfl, rfl⟩ := e
            first | rw [hr2] | rfl
          · cases e
        · rename_i hr
          simp only [Option.some.injEq, Prod.mk.injEq] at e
          obtain ⟨rfl, rfl⟩ := e
          first | rw [hr] | rfl
        · cases e) q
      exact rd_chain q2
    · cases h
  | .var i, X, sc, e', G, h => by
    have he := sndE (.var i) G h
    have ht : ∀ whole, isTrue e' X.env whole = (do let v ← whole; standAt e'.pos; holding [v] (truthy v)) := by
      simp only [chkE] at h
      split at h
      · intro _; rfl
      · cases h
    refine pt_eq (pt_val_of he ht) fun env μ => ?_
    simp only [evT, evE]
    split <;> rfl
  | .call f es, X, sc, e', G, h => by
    have he := sndE (.call f es) G h
    have ht : ∀ whole, isTrue e' X.env whole = (do let v ← whole; standAt e'.pos; holding [v] (truthy v)) := by
      simp only [chkE] at h
      split at h
      · intro _; rfl
      · cases h
    refine pt_eq (pt_val_of he ht) fun env μ => ?_
    simp only [evT, evE]
    cases evEs call es env μ with
    | none => rfl
    | some p => rfl
  | .isi a tys, X, sc, e', G, h => by
    have he := sndE (.isi a tys) G h
    have ht : ∀ whole, isTrue e' X.env whole = (do let v ← whole; standAt e'.pos; holding [v] (truthy v)) := by
      simp only [chkE] at h
      split at h
      · intro _; rfl
      · intro _; rfl
      · cases h
    refine pt_eq (pt_val_of he ht) fun env μ => ?_
    simp only [evT, evE]
    cases evE call a env μ with
    | none => rfl
    | some p =>
      simp only [bnd]
      split
      · rfl
      · rfl
  | .ix a i, X, sc, e', G, h => by
    have he := sndE (.ix a i) G h
    have ht : ∀ whole, isTrue e' X.env whole = (do let v ← whole; standAt e'.pos; holding [v] (truthy v)) := by
      simp only [chkE] at h
      split at h
      · intro _; rfl
      · cases h
    refine pt_eq (pt_val_of he ht) fun env μ => ?_
    simp only [evT, evE]
    cases evE call a env μ with
    | none => rfl
    | some p =>
      simp only [bnd]
      cases evE call i env p.2 with
      | none => rfl
      | some q => rfl
  | .cst d, X, sc, e', G, h => pt_void fun env μ => by simp only [evT]
  | .bop _ _ _ _, X, sc, e', G, h => pt_void fun env μ => by simp only [evT]
  | .neg _, X, sc, e', G, h => pt_void fun env μ => by simp only [evT]
  | .ite _ _ _, X, sc, e', G, h => pt_void fun env μ => by simp only [evT]
  | .bi _ _ _, X, sc, e', G, h => pt_void fun env μ => by simp only [evT]
  | .sl _ _ _ _, X, sc, e', G, h => pt_void fun env μ => by simp only [evT]
  | .tup _, X, sc, e', G, h => pt_void fun env μ => by simp only [evT]
  | .lst _ _, X, sc, e', G, h => pt_void fun env μ => by simp only [evT]
  | .comp _ _ _ _ _ _, X, sc, e', G, h => pt_void fun env μ => by simp only [evT]
  | .meth _ _ _, X, sc, e', G, h => pt_void fun env μ => by simp only [evT]
theorem sndBV : ∀ (es : Es) (k : Bool) {X : Cx} {sc : Sc} {es' : List Expr} {op : BoolOp} {pos : Pos} {G : Good pg N call X sc}, op = (if k then .And else .Or) → chkEs pg N es sc es' = true → PE X (.BoolOp op es' pos) (rdE X.K (evBV call k es))
  | .nil, k, X, sc, es', op, pos, G, ho, h => pe_void fun env μ => by simp only [evBV]
  | .cons e .nil, k, X, sc, es', op, pos, G, ho, h => by
    cases es' with
    | nil => simp [chkEs] at h
    | cons e' r =>
      simp only [chkEs, Bool.and_eq_true] at h
      have : r = [] := by simpa using h.2
      subst this
      exact pe_eq (pe_one (sndE e G h.1)) fun env μ => by simp only [evBV]
  | .cons e (.cons e2 r2), k, X, sc, es', op, pos, G, ho, h => by
    cases es' with
    | nil => simp [chkEs] at h
    | cons e' r =>
      have h' : chkE pg N e sc e' = true ∧ chkEs pg N (.cons e2 r2) sc r = true := by
        rw [chkEs, Bool.and_eq_true] at h
        exact h
      cases r with
      | nil => simp [chkEs] at h'
      | cons e2' r' =>
        have ih := sndBV (.cons e2 r2) k (pos := pos) (G := G) ho h'.2
        have ie := sndE e G h'.1
        cases k with
        | true =>
          simp only [if_true] at ho
          subst ho
          refine pe_imp (pe_and ie ih) fun σ H Q q => ?_
          obtain ⟨α, F, μ, env, w, μ', R, re, e0, k⟩ := q
          simp only [evBV] at e0
          obtain ⟨x, μ1, e1, e0⟩ := bnd_inv e0
          refine ⟨α, F, μ, env, x, μ1, R, re, e1, fun α1 F1 H1 v x1 R1 r1 => ?_⟩
          split at e0
          · rename_i b
            refine ⟨b, dr_bool r1, ?_⟩
            cases b with
            | true =>
              simp only [if_true] at e0 ⊢
              exact ⟨α1, F1, μ1, env, w, μ', R1, re.mono x1, e0, fun α2 F2 H2 v2 x2 R2 r2 => k _ _ _ _ (x1.trans x2) R2 r2⟩
            | false =>
              simp only [Bool.false_eq_true, if_false, Option.some.injEq, Prod.mk.injEq] at e0 ⊢
              obtain ⟨rfl, rfl⟩ := e0
              exact k _ _ _ _ x1 R1 (.bl _)
          · cases e0
        | false =>
          simp only [Bool.false_eq_true, if_false] at ho
          subst ho
          refine pe_imp (pe_or ie ih) fun σ H Q q => ?_
          obtain ⟨α, F, μ, env, w, μ', R, re, e0, k⟩ := q
          simp only [evBV] at e0
          obtain ⟨x, μ1, e1, e0⟩ := bnd_inv e0
          refine ⟨α, F, μ, env, x, μ1, R, re, e1, fun α1 F1 H1 v x1 R1 r1 => ?_⟩
          split at e0
          · rename_i b
            refine ⟨b, dr_bool r1, ?_⟩
            cases b with
            | false =>
              simp only [if_true, Bool.false_eq_true, if_false] at e0 ⊢
              exact ⟨α1, F1, μ1, env, w, μ', R1, re.mono x1, e0, fun α2 F2 H2 v2 x2 R2 r2 => k _ _ _ _ (x1.trans x2) R2 r2⟩
            | true =>
              simp only [if_true, Bool.true_eq_false, if_false, Option.some.injEq, Prod.mk.injEq] at e0 ⊢
              obtain ⟨rfl, rfl⟩ := e0
              exact k _ _ _ _ x1 R1 (.bl _)
          · cases e0
theorem sndBT : ∀ (es : Es) (k : Bool) {X : Cx} {sc : Sc} {es' : List Expr} {op : BoolOp} {pos : Pos} {G : Good pg N call X sc}, op = (if k then .And else .Or) → chkEs pg N es sc es' = true → PW X (.BoolOp op es' pos) (rdT X.K (evBT call k es))
  | .nil, k, X, sc, es', op, pos, G, ho, h => pw_void fun env μ => by simp only [evBT]
  | .cons e .nil, k, X, sc, es', op, pos, G, ho, h => by
    cases es' with
    | nil => simp [chkEs] at h
    | cons e' r =>
      simp only [chkEs, Bool.and_eq_true] at h
      have : r = [] := by simpa using h.2
      subst this
      have hh : (fun env μ => evBT call k (.cons e .nil) env μ) = evT call e := by funext env μ; simp only [evBT]
      have hh : evBT call k (.cons e .nil) = evT call e := hh
      rw [hh]
      cases k with
      | true =>
        simp only [if_true] at ho
        subst ho
        exact pw_and1 (sndT e G h.1)
      | false =>
        simp only [Bool.false_eq_true, if_false] at ho
        subst ho
        exact pw_or1 (sndT e G h.1)
  | .cons e (.cons e2 r2), k, X, sc, es', op, pos, G, ho, h => by
    cases es' with
    | nil => simp [chkEs] at h
    | cons e' r =>
      have h' : chkE pg N e sc e' = true ∧ chkEs pg N (.cons e2 r2) sc r = true := by
        rw [chkEs, Bool.and_eq_true] at h
        exact h
      cases r with
      | nil => simp [chkEs] at h'
      | cons e2' r' =>
        have ih := sndBT (.cons e2 r2) k (pos := pos) (G := G) ho h'.2
        have ie := sndT e G h'.1
        cases k with
        | true =>
          simp only [if_true] at ho
          subst ho
          refine pw_imp (pw_and ie ih) fun σ H Q q => ?_
          obtain ⟨α, F, μ, env, w, μ', R, re, e0, k⟩ := q
          simp only [evBT] at e0
          obtain ⟨b, μ1, e1, e0⟩ := bnd_inv e0
          refine ⟨α, F, μ, env, b, μ1, R, re, e1, fun α1 F1 H1 x1 R1 => ?_⟩
          cases b with
          | true =>
            simp only [if_true] at e0 ⊢
            exact ⟨α1, F1, μ1, env, w, μ', R1, re.mono x1, e0, fun α2 F2 H2 x2 R2 => k _ _ _ (x1.trans x2) R2⟩
          | false =>
            simp only [Bool.false_eq_true, if_false, Option.some.injEq, Prod.mk.injEq] at e0 ⊢
            obtain ⟨rfl, rfl⟩ := e0
            exact k _ _ _ x1 R1
        | false =>
          simp only [Bool.false_eq_true, if_false] at ho
          subst ho
          refine pw_imp (pw_or ie ih) fun σ H Q q => ?_
          obtain ⟨α, F, μ, env, w, μ', R, re, e0, k⟩ := q
          simp only [evBT] at e0
          obtain ⟨b, μ1, e1, e0⟩ := bnd_inv e0
          refine ⟨α, F, μ, env, b, μ1, R, re, e1, fun α1 F1 H1 x1 R1 => ?_⟩
          cases b with
          | false =>
            simp only [if_true, Bool.false_eq_true, if_false] at e0 ⊢
            exact ⟨α1, F1, μ1, env, w, μ', R1, re.mono x1, e0, fun α2 F2 H2 x2 R2 => k _ _ _ (x1.trans x2) R2⟩
          | true =>
            simp only [if_true, Bool.true_eq_false, if_false, Option.some.injEq, Prod.mk.injEq] at e0 ⊢
            obtain ⟨rfl, rfl⟩ := e0
            exact k _ _ _ x1 R1
theorem sndEs : ∀ (es : Es) {X : Cx} {sc : Sc} {es' : List Expr}, Good pg N call X sc → chkEs pg N es sc es' = true → PA X es' (rdA X.K (evEs call es))
  | .nil, X, sc, es', G, h => by
    simp only [chkEs, List.isEmpty_iff] at h
    subst h
    refine pa_imp pa_nil fun σ H Q q => ?_
    obtain ⟨α, F, μ, env, ws, μ', R, re, e, k⟩ := q
    simp only [evEs, Option.some.injEq, Prod.mk.injEq] at e
    obtain ⟨rfl, rfl⟩ := e
    exact k _ _ _ [] (Ext.refl _ _ _) R .nil
  | .cons e r, X, sc, es', G, h => by
    cases es' with
    | nil => simp [chkEs] at h
    | cons e' r' =>
      simp only [chkEs, Bool.and_eq_true] at h
      refine pa_imp (pa_cons (sndE e G h.1) (sndEs r G h.2) (star_cons (not_star h.1) r' _)) fun σ H Q q => ?_
      obtain ⟨α, F, μ, env, ws, μ', R, re, e, k⟩ := q
      simp only [evEs] at e
      obtain ⟨w, μ1, e1, e⟩ := bnd_inv e
      obtain ⟨ws', μ2, e2, e⟩ := bnd_inv e
      simp only [Option.some.injEq, Prod.mk.injEq] at e
      obtain ⟨rfl, rfl⟩ := e
      exact ⟨α, F, μ, env, w, μ1, R, re, e1, fun α1 F1 H1 v x1 R1 r1 => ⟨α1, F1, μ1, env, ws', μ2, R1, re.mono x1, e2, fun α2 F2 H2 vs x2 R2 r2 => k _ _ _ _ (x1.trans x2) R2 (.cons (r1.mono x2) r2)⟩⟩
theorem sndO : ∀ (o : Eo) {X : Cx} {sc : Sc} {o' : Option Expr}, Good pg N call X sc → chkO pg N o sc o' = true → PO X o' (rdO X.K (evO call o))
  | .none, X, sc, o', G, h => by
    simp only [chkO, Option.isNone_iff_eq_none] at h
    subst h
    refine po_imp po_none fun σ H Q q => ?_
    obtain ⟨α, F, μ, env, ws, μ', R, re, e, k⟩ := q
    simp only [evO, Option.some.injEq, Prod.mk.injEq] at e
    obtain ⟨rfl, rfl⟩ := e
    exact k _ _ _ (Ext.refl _ _ _) R
  | .some e, X, sc, o', G, h => by
    cases o' with
    | none => simp [chkO] at h
    | some e' =>
      simp only [chkO] at h
      refine po_imp (po_some (sndE e G h)) fun σ H Q q => ?_
      obtain ⟨α, F, μ, env, ws, μ', R, re, e, k⟩ := q
      simp only [evO] at e
      obtain ⟨w, μ1, e1, e⟩ := bnd_inv e
      refine ⟨α, F, μ, env, w, μ1, R, re, e1, fun α1 F1 H1 v x1 R1 r1 => ?_⟩
      split at e
      · simp only [Option.some.injEq, Prod.mk.injEq] at e
        obtain ⟨rfl, rfl⟩ := e
        exact ⟨_, dr_int r1, k _ _ _ x1 R1⟩
      · cases e
theorem sndC : ∀ (o : Eo) {X : Cx} {sc : Sc} {o' : List Expr}, Good pg N call X sc → chkC pg N o sc o' = true → PTs X o' (rdT X.K (fun env μ => evC call o env μ))
  | .none, X, sc, o', G, h => by
    simp only [chkC, List.isEmpty_iff] at h
    subst h
    refine pts_imp pts_nil fun σ H Q q => ?_
    obtain ⟨α, F, μ, env, ws, μ', R, re, e, k⟩ := q
    simp only [evC, Option.some.injEq, Prod.mk.injEq] at e
    obtain ⟨rfl, rfl⟩ := e
    exact k _ _ _ (Ext.refl _ _ _) R
  | .some e, X, sc, o', G, h => by
    simp only [chkC] at h
    split at h
    · have hh : (fun env μ => evC call (.some e) env μ) = evT call e := by funext env μ; simp only [evC]
      rw [hh]
      exact pts_one (sndT e G h)
    · cases h
theorem sndIt : ∀ (it : It) {X : Cx} {sc : Sc} {tg e' : Expr}, Good pg N call X sc → chkIt pg N it sc e' = true → PI X tg e' (rdI X.K (fun env μ => evIt call it env μ))
  | .val e, X, sc, tg, e', G, h => by
    simp only [chkIt] at h
    have he := sndE e G h
    refine pi_imp (pi_or (pi_list he) (pi_tup he)) fun σ H R' q => ?_
    obtain ⟨α, F, μ, env, p, μ', R, re, e0, k⟩ := q
    simp only [evIt] at e0
    obtain ⟨w, μ1, e1, e2⟩ := bnd_inv e0
    obtain ⟨p', e3, e4⟩ := Option.map_eq_some_iff.mp e2
    simp only [Prod.mk.injEq] at e4
    obtain ⟨rfl, rfl⟩ := e4
    cases w with
    | s ns =>
      simp only [itW, Option.some.injEq] at e3
      subst e3
      refine .inl ⟨α, F, μ, env, _, μ1, R, re, e1, fun α1 F1 H1 v x1 R1 r1 => ?_⟩
      obtain ⟨a, rfl, ha⟩ := r1
      exact ⟨a, rfl, ⟨_, R1.sub.sq ha⟩, k _ _ _ _ x1 R1 (it_scr ha)⟩
    | c n =>
      simp only [itW] at e3
      split at e3
      · rename_i c hc
        simp only [Option.some.injEq] at e3
        subst e3
        refine .inl ⟨α, F, μ, env, _, μ1, R, re, e1, fun α1 F1 H1 v x1 R1 r1 => ?_⟩
        obtain ⟨a, rfl, ha⟩ := r1
        obtain ⟨vs, h1, _⟩ := R1.cell n a c ha hc
        exact ⟨a, rfl, ⟨vs, SqL.of h1⟩, k _ _ _ _ x1 R1 (it_cell ha)⟩
      · cases e3
    | d x =>
      cases x <;> simp only [itW, seqW, Option.some.injEq, reduceCtorEq] at e3
      · subst e3
        refine .inl ⟨α, F, μ, env, _, μ1, R, re, e1, fun α1 F1 H1 v x1 R1 r1 => ?_⟩
        cases r1 with
        | lst h1 h2 => exact ⟨_, rfl, ⟨_, SqL.of (R1.sub _ _ h1)⟩, k _ _ _ _ x1 R1 (it_lst h1 h2)⟩
      · subst e3
        refine .inr ⟨α, F, μ, env, _, μ1, R, re, e1, fun α1 F1 H1 v x1 R1 r1 => ?_⟩
        cases r1 with
        | tup h1 h2 => exact ⟨_, rfl, ⟨_, SqT.of (R1.sub _ _ h1)⟩, k _ _ _ _ x1 R1 (it_tup h1 h2)⟩
  | .rng1 e, X, sc, tg, e', G, h => by
    simp only [chkIt] at h
    split at h
    · rename_i x p a' pos
      simp only [Bool.and_eq_true, decide_eq_true_eq] at h
      obtain ⟨⟨rfl, h2⟩, h3⟩ := h
      have he := sndE e G h3
      refine pi_imp (pi_range1 (G.gl h2) (G.bl .range (by simp)) (pa_cons he pa_nil (star_cons (not_star h3) _ _)) (star_cons (not_star h3) _ _)) fun σ H R' q => ?_
      obtain ⟨α, F, μ, env, p, μ', R, re, e0, k⟩ := q
      simp only [evIt] at e0
      obtain ⟨w, μ1, e1, e2⟩ := bnd_inv e0
      refine ⟨α, F, μ, env, w, μ1, R, re, e1, fun α1 F1 H1 v x1 R1 r1 => ?_⟩
      split at e2
      · rename_i j
        split at e2
        · rename_i hs
          simp only [Option.some.injEq, Prod.mk.injEq] at e2
          obtain ⟨rfl, rfl⟩ := e2
          simp only [small62, Bool.and_eq_true, decide_eq_true_eq] at hs
          exact ⟨j, by rw [dr_int r1], hs.1, hs.2, k _ _ _ _ x1 R1 (it_rng 0 j.toNat)⟩
        · cases e2
      · cases e2
    · cases h
  | .rng2 a b, X, sc, tg, e', G, h => by
    simp only [chkIt] at h
    split at h
    · rename_i x p a' b' pos
      simp only [Bool.and_eq_true, decide_eq_true_eq] at h
      obtain ⟨⟨⟨rfl, h2⟩, h3⟩, h4⟩ := h
      have ha := sndE a G h3
      have hb := sndE b G h4
      refine pi_imp (pi_range2 (G.gl h2) (G.bl .range (by simp)) (pa_cons ha (pa_cons hb pa_nil (star_cons (not_star h4) _ _)) (star_cons (not_star h3) _ _)) (by rw [star_cons (not_star h3), star_cons (not_star h4)]; rfl) (star_cons (not_star h4) _ _)) fun σ H R' q => ?_
      obtain ⟨α, F, μ, env, p, μ', R, re, e0, k⟩ := q
      simp only [evIt] at e0
      obtain ⟨x, μ1, e1, e0⟩ := bnd_inv e0
      obtain ⟨y, μ2, e2, e0⟩ := bnd_inv e0
      refine ⟨α, F, μ, env, x, μ1, R, re, e1, fun α1 F1 H1 v x1 R1 r1 => ⟨α1, F1, μ1, env, y, μ2, R1, re.mono x1, e2, fun α2 F2 H2 v2 x2 R2 r2 => ?_⟩⟩
      split at e0
      · rename_i i j _
        split at e0
        · rename_i hs
          simp only [Option.some.injEq, Prod.mk.injEq] at e0
          obtain ⟨rfl, rfl⟩ := e0
          simp only [small62, Bool.and_eq_true, decide_eq_true_eq] at hs
          exact ⟨i, j, by rw [dr_int r1, dr_int r2], ⟨hs.1.1, hs.1.2, hs.2.1, hs.2.2⟩, k _ _ _ _ (x1.trans x2) R2 (it_rng i (j - i).toNat)⟩
        · cases e0
      · cases e0
    · cases h
theorem sndG : ∀ (t : Tg) {X : Cx} {sc : Sc} {e' : Expr}, Good pg N call X sc → chkG pg N t sc e' = true → PG X e' (rdG X.K t (fun w env μ => asgT call t w env μ))
  | .name i, X, sc, e', G, h => by
    simp only [chkG] at h
    split at h
    · rename_i x pos
      simp only [Bool.and_eq_true, decide_eq_true_eq] at h
      refine pg_imp (pg_name (i := i) (by rw [G.nm]; exact G.nd) (by rw [G.nm]; exact h.1) (G.loc h.2) (G.fn x h.2)) fun v σ H Q q => ?_
      obtain ⟨α, F, μ, env, w, env', μ', R, re, rw', e, k⟩ := q
      simp only [asgT, Option.some.injEq, Prod.mk.injEq] at e
      obtain ⟨rfl, rfl⟩ := e
      refine k _ _ _ _ (Ext.refl _ _ _) R (re.set i rw') fun own ho => wipe_set ?_
      simp only [tgIn] at ho
      exact List.elem_iff.mp ho
    · cases h
  | .tup ts, X, sc, e', G, h => by
    simp only [chkG] at h
    split at h
    · rename_i es' kk pos
      have hs := sndGs ts G h
      obtain ⟨hl, hst⟩ := asg_len (env := X.env) h
      refine pg_imp (pg_or (pg_tup (n := es'.length) G.calm hs hl hst) (pg_unl (n := es'.length) G.calm hs hl hst)) fun v σ H Q q => ?_
      obtain ⟨α, F, μ, env, w, env', μ', R, re, rw', e, k⟩ := q
      simp only [asgT] at e
      split at e
      · rename_i t xs hq
        obtain ⟨a, vs, rfl, d, h1, h2⟩ := seqW_ok R rw' hq
        have len : vs.length = es'.length := by rw [d.len]; exact asgTs_len h e
        have rest : rdGs X.K ts (fun xs env μ => asgTs call ts xs env μ) vs σ H Q := ⟨α, F, μ, env, xs, env', μ', R, re, d, e, fun α' F' H' σ' x' R' re' hw => k _ _ _ _ x' R' re' fun own ho => hw own (by simpa only [tgIn] using ho)⟩
        cases t with
        | true => exact .inl ⟨a, vs, rfl, SqT.of (h1 rfl).2, len, rest⟩
        | false => exact .inr ⟨a, vs, rfl, SqL.of (h2 rfl), len, rest⟩
      · cases e
    · cases h
  | .sub o i, X, sc, e', G, h => by
    simp only [chkG] at h
    split at h
    · rename_i o' i' pos
      simp only [Bool.and_eq_true, Bool.not_eq_true'] at h
      obtain ⟨⟨h1, h2⟩, h3⟩ := h
      refine pg_imp (pg_sub (sndE o G h1) (sndE i G h2) set_list (fun v => by cases i' <;> first | rfl | cases h3)) fun v σ H Q q => ?_
      obtain ⟨α, F, μ, env, w, env', μ', R, re, rw', e, k⟩ := q
      simp only [asgT] at e
      obtain ⟨x, μ1, e1, e⟩ := bnd_inv e
      obtain ⟨y, μ2, e2, e⟩ := bnd_inv e
      obtain ⟨z, μ3, e3, e⟩ := bnd_inv e
      refine ⟨α, F, μ, env, x, μ1, R, re, e1, fun α1 F1 H1 v1 x1 R1 r1 => ⟨α1, F1, μ1, env, y, μ2, R1, re.mono x1, e2, fun α2 F2 H2 v2 x2 R2 r2 => ?_⟩⟩
      obtain ⟨F3, x3, R3, d3⟩ := toD_ok R2 ((rw'.mono x1).mono x2) e3
      split at e
      · rename_i kk n xs hl _
        split at e
        · rename_i j hj
          simp only [Option.some.injEq, Prod.mk.injEq] at e
          obtain ⟨rfl, rfl⟩ := e
          obtain ⟨a, vs, rfl, ha, da, up⟩ := liveC_ok R3 ((r1.mono x2).mono x3) hl
          obtain ⟨x4, R4⟩ := up F3 (vs.set j v) (xs.set j z) R3 (DrAll.set d3 j da)
          refine ⟨a, vs, kk, j, rfl, dr_int r2, ha, by rw [da.len]; exact hj, ?_⟩
          have xx := ((x1.trans x2).trans x3).trans x4
          exact k _ _ _ _ xx R4 (re.mono xx) fun own ho => rfl
        · cases e
      · cases e
    · cases h
theorem sndGs : ∀ (ts : Tgs) {X : Cx} {sc : Sc} {es' : List Expr}, Good pg N call X sc → chkGs pg N ts sc es' = true → PGs X es' (rdGs X.K ts (fun xs env μ => asgTs call ts xs env μ))
  | .nil, X, sc, es', G, h => by
    simp only [chkGs, List.isEmpty_iff] at h
    subst h
    refine pgs_imp pgs_nil fun vs σ H Q q => ?_
    obtain ⟨α, F, μ, env, xs, env', μ', R, re, d, e, k⟩ := q
    simp only [asgTs] at e
    split at e
    · simp only [Option.some.injEq, Prod.mk.injEq] at e
      obtain ⟨rfl, rfl⟩ := e
      cases d
      exact ⟨rfl, k _ _ _ _ (Ext.refl _ _ _) R re fun _ _ => rfl⟩
    · cases e
  | .cons t ts, X, sc, es', G, h => by
    cases es' with
    | nil => simp [chkGs] at h
    | cons e' r' =>
      simp only [chkGs, Bool.and_eq_true] at h
      refine pgs_imp (pgs_cons (sndG t G h.1) (sndGs ts G h.2) (by rw [asg_cons (tg_star h.1)]; rfl)) fun vs σ H Q q => ?_
      obtain ⟨α, F, μ, env, xs, env', μ', R, re, d, e, k⟩ := q
      cases d with
      | nil => simp [asgTs] at e
      | cons d1 d2 =>
        simp only [asgTs] at e
        obtain ⟨env1, μ1, e1, e2⟩ := bnd_inv e
        refine ⟨_, _, rfl, α, F, μ, env, .d _, env1, μ1, R, re, d1, e1, fun α1 F1 H1 σ1 x1 R1 re1 hw1 => ⟨α1, F1, μ1, env1, _, env', μ', R1, re1, DrAll.mono x1.f _ _ d2, e2, fun α2 F2 H2 σ2 x2 R2 re2 hw2 => k _ _ _ _ (x1.trans x2) R2 re2 fun own ho => ?_⟩⟩
        simp only [tgsIn, Bool.and_eq_true] at ho
        rw [hw2 own ho.2, hw1 own ho.1]
end
end
end MI

-- MiJ
/-! soundness of statements -/
namespace MI
open PySem PySem.Spec L2

def Post (K : PySem.W.Frag) (Dn : Ends) (α : List Addr) (F H : Hp) : Out → Prop
  | .next env μ => ∀ α' F' H' σ', Ext α F H α' F' H' → Rel α' F' H' μ → RE K α' F' σ' env → Dn.nx σ' H'
  | .ret w μ => ∀ α' F' H' v, Ext α F H α' F' H' → Rel α' F' H' μ → RW K α' F' v w → Dn.rt v H'
  | .brk env μ => ∀ α' F' H' σ', Ext α F H α' F' H' → Rel α' F' H' μ → RE K α' F' σ' env → Dn.bk σ' H'
  | .cont env μ => ∀ α' F' H' σ', Ext α F H α' F' H' → Rel α' F' H' μ → RE K α' F' σ' env → Dn.ct σ' H'
def rdS (K : PySem.W.Frag) (m : En → MH → Option Out) : TS := fun Dn σ H => ∃ α F μ env o, Rel α F H μ ∧ RE K α F σ env ∧ m env μ = some o ∧ Post K Dn α F H o
theorem Post.mono {K : PySem.W.Frag} {Dn : Ends} {α β : List Addr} {F G H H1 : Hp} (x : Ext α F H β G H1) {o : Out} (p : Post K Dn α F H o) : Post K Dn β G H1 o := by
  cases o with
  | next env μ => exact fun α' F' H' σ' x' => p α' F' H' σ' (x.trans x')
  | ret w μ => exact fun α' F' H' v x' => p α' F' H' v (x.trans x')
  | brk env μ => exact fun α' F' H' σ' x' => p α' F' H' σ' (x.trans x')
  | cont env μ => exact fun α' F' H' σ' x' => p α' F' H' σ' (x.trans x')
theorem ps_imp {X : Cx} {st : Stmt} {t t' : TS} (h : PS X st t) (i : ∀ D σ H, t' D σ H → t D σ H) : PS X st t' := ⟨fun pins s σ H D I q => h.run pins s σ H D I (i _ _ _ q)⟩
theorem pss_imp {X : Cx} {st : List Stmt} {t t' : TS} (h : PSs X st t) (i : ∀ D σ H, t' D σ H → t D σ H) : PSs X st t' := ⟨fun pins s σ H D I q => h.run pins s σ H D I (i _ _ _ q)⟩
theorem ps_void {X : Cx} {st : Stmt} {K : PySem.W.Frag} {m : En → MH → Option Out} (h : ∀ env μ, m env μ = none) : PS X st (rdS K m) :=
  ⟨fun pins s σ H D I q => by
    obtain ⟨α, F, μ, env, o, R, re, e, k⟩ := q
    rw [h] at e; cases e⟩

/-! ### loops -/
theorem rd_for {K : PySem.W.Frag} {Dn : Ends} {σ : L2.St} {H : Hp} {itm : En → MH → Option ((Option Nat × List D) × MH)} {asg : W → En → MH → Option (En × MH)} {body : En → MH → Option Out} {t : Tg}
    (h : rdS K (fun env μ => bnd (itm env μ) fun p μ => forL asg body p.1 p.2 p.2 env μ) Dn σ H) : tFor (rdI K itm) (rdG K t asg) (rdS K body) Dn σ H := by
  obtain ⟨α, F, μ, env, o, R, re, e, k⟩ := h
  obtain ⟨⟨src, xs⟩, μ1, e1, e2⟩ := bnd_inv e
  refine ⟨α, F, μ, env, (src, xs), μ1, R, re, e1, fun α1 F1 H1 J x1 R1 ok => ?_⟩
  have k1 := k.mono x1
  have hα : ∀ {β : List Addr} {G I : Hp}, Ext α1 F1 H1 β G I → ∀ (n : Nat) (a : Addr), α1[n]? = some a → β[n]? = some a := fun x n a h => x.at h
  refine ⟨fun i m σ5 H5 => m = xs.length - i ∧ i ≤ xs.length ∧ ∃ α F μ env, Rel α F H5 μ ∧ RE K α F σ5 env ∧ Ext α1 F1 H1 α F H5 ∧ forL asg body src xs (xs.drop i) env μ = some o,
    ⟨_, rfl, Nat.zero_le _, α1, F1, μ1, env, R1, re.mono x1, Ext.refl _ _ _, e2⟩, ?_⟩
  rintro i m σ5 H5 ⟨rfl, hi, α5, F5, μ5, env5, R5, re5, x5, e5⟩
  by_cases hlt : i < xs.length
  · right
    rw [List.drop_eq_getElem_cons hlt] at e5
    unfold forL at e5
    split at e5
    · rename_i okS
      obtain ⟨env6, μ6, e6, e5⟩ := bnd_inv e5
      refine ⟨ok.go α5 F5 H5 μ5 i (hα x5) x5.f R5 okS hlt, fun σ' H' => ∃ α F μ env, Rel α F H' μ ∧ RE K α F σ' env ∧ Ext α1 F1 H1 α F H' ∧ forL asg body src xs (xs.drop (i + 1)) env μ = some o,
        fun σ' H' q => ⟨xs.length - (i + 1), by omega, rfl, hlt, q⟩, fun x H' y => ?_⟩
      obtain ⟨rfl, d, hd, dx⟩ := ok.yld α5 F5 H5 μ5 i x H' (hα x5) x5.f R5 okS hlt y
      rw [List.getElem?_eq_getElem hlt] at hd
      cases hd
      refine ⟨α5, F5, μ5, env5, .d xs[i], env6, μ6, R5, re5, dx, e6, fun α6 F6 H6 σ6 x6 R6 re6 _ => ?_⟩
      have k6 := k1.mono (x5.trans x6)
      split at e5
      · rename_i en m hb
        exact ⟨α6, F6, μ6, env6, .next en m, R6, re6, hb, fun α7 F7 H7 σ7 x7 R7 re7 => ⟨α7, F7, m, en, R7, re7, (x5.trans x6).trans x7, e5⟩⟩
      · rename_i en m hb
        exact ⟨α6, F6, μ6, env6, .cont en m, R6, re6, hb, fun α7 F7 H7 σ7 x7 R7 re7 => ⟨α7, F7, m, en, R7, re7, (x5.trans x6).trans x7, e5⟩⟩
      · rename_i en m hb
        simp only [Option.some.injEq] at e5
        subst e5
        exact ⟨α6, F6, μ6, env6, .brk en m, R6, re6, hb, k6⟩
      · rename_i en m hb
        simp only [Option.some.injEq] at e5
        subst e5
        exact ⟨α6, F6, μ6, env6, .ret en m, R6, re6, hb, k6⟩
      · cases e5
    · cases e5
  · left
    have hi' : i = xs.length := by omega
    subst hi'
    rw [List.drop_length] at e5
    unfold forL at e5
    split at e5
    · rename_i okS
      simp only [Option.some.injEq] at e5
      subst e5
      exact ⟨ok.stop α5 F5 H5 μ5 _ (hα x5) x5.f R5 okS (Nat.le_refl _), k1 _ _ _ _ x5 R5 re5⟩
    · cases e5
theorem rd_while {K : PySem.W.Frag} {Dn : Ends} {σ : L2.St} {H : Hp} {c : En → MH → Option (Bool × MH)} {body : En → MH → Option Out} {n : Nat}
    (h : rdS K (fun env μ => whileL c body n env μ) Dn σ H) : tWhile (rdT K c) (rdS K body) Dn σ H := by
  obtain ⟨α, F, μ, env, o, R, re, e, k⟩ := h
  refine ⟨fun m σ5 H5 => ∃ α5 F5 μ env, Rel α5 F5 H5 μ ∧ RE K α5 F5 σ5 env ∧ Ext α F H α5 F5 H5 ∧ whileL c body m env μ = some o, ⟨n, α, F, μ, env, R, re, Ext.refl _ _ _, e⟩, ?_⟩
  rintro m σ5 H5 ⟨α5, F5, μ5, env5, R5, re5, x5, e5⟩
  cases m with
  | zero => cases e5
  | succ m =>
    unfold whileL at e5
    obtain ⟨b, μ6, e6, e5⟩ := bnd_inv e5
    refine ⟨α5, F5, μ5, env5, b, μ6, R5, re5, e6, fun α6 F6 H6 x6 R6 => ?_⟩
    have k6 := k.mono (x5.trans x6)
    cases b with
    | false =>
      simp only [Bool.false_eq_true, if_false, Option.some.injEq] at e5 ⊢
      subst e5
      exact k6 _ _ _ _ (Ext.refl _ _ _) R6 (re5.mono x6)
    | true =>
      simp only [if_true] at e5 ⊢
      refine ⟨fun σ' H' => ∃ α7 F7 μ env, Rel α7 F7 H' μ ∧ RE K α7 F7 σ' env ∧ Ext α F H α7 F7 H' ∧ whileL c body m env μ = some o, fun σ' H' q => ⟨m, Nat.lt_succ_self m, q⟩, ?_⟩
      split at e5
      · rename_i en m' hb
        exact ⟨α6, F6, μ6, env5, .next en m', R6, re5.mono x6, hb, fun α7 F7 H7 σ7 x7 R7 re7 => ⟨α7, F7, m', en, R7, re7, (x5.trans x6).trans x7, e5⟩⟩
      · rename_i en m' hb
        exact ⟨α6, F6, μ6, env5, .cont en m', R6, re5.mono x6, hb, fun α7 F7 H7 σ7 x7 R7 re7 => ⟨α7, F7, m', en, R7, re7, (x5.trans x6).trans x7, e5⟩⟩
      · rename_i en m' hb
        simp only [Option.some.injEq] at e5
        subst e5
        exact ⟨α6, F6, μ6, env5, .brk en m', R6, re5.mono x6, hb, k6⟩
      · rename_i en m' hb
        simp only [Option.some.injEq] at e5
        subst e5
        exact ⟨α6, F6, μ6, env5, .ret en m', R6, re5.mono x6, hb, k6⟩
      · cases e5

/-! ### assignments -/
theorem rd_asg {K : PySem.W.Frag} {Dn : Ends} {σ : L2.St} {H : Hp} {m : En → MH → Option (W × MH)} {asg : W → En → MH → Option (En × MH)} {t : Tg}
    (h : rdS K (fun env μ => bnd (m env μ) fun w μ => bnd (asg w env μ) fun env μ => some (.next env μ)) Dn σ H) : tAsg (rdE K m) (rdG K t asg) Dn σ H := by
  obtain ⟨α, F, μ, env, o, R, re, e, k⟩ := h
  obtain ⟨w, μ1, e1, e⟩ := bnd_inv e
  obtain ⟨env2, μ2, e2, e⟩ := bnd_inv e
  simp only [Option.some.injEq] at e
  subst e
  exact ⟨α, F, μ, env, w, μ1, R, re, e1, fun α1 F1 H1 v x1 R1 r1 => ⟨α1, F1, μ1, env, w, env2, μ2, R1, re.mono x1, r1, e2, fun α2 F2 H2 σ2 x2 R2 re2 _ => k _ _ _ _ (x1.trans x2) R2 re2⟩⟩
theorem no_comp_line {e' : Expr} (h : isComp e' = false) (o : Option Expr) (l : Nat) (env : Env) : swapsWith e' o l env = pure false := by
  cases e' <;> first | rfl | cases h
theorem swap_none {ts vs : List Expr} {k k2 : Nat} {p p2 : Pos} {env : Env} (h : subFirst ts = true) : swappedStores [.Tuple ts k p] (.Tuple vs k2 p2) env = pure none := by
  cases ts with
  | nil => cases h
  | cons t r =>
    cases t <;> first | cases h | skip
    rename_i o i q
    unfold swappedStores
    dsimp only
    split
    · rfl
    · split
      · rfl
      · split
        · rfl
        · rename_i hn
          exfalso
          apply hn
          rw [List.filterMap_cons]
          simp only [Bool.or_eq_true, bne_iff_ne, ne_eq, List.length_cons]
          left
          exact fun hq => absurd hq (Nat.ne_of_lt (Nat.lt_succ_of_le (List.length_filterMap_le _ _)))
section
variable {pg : Pg} {N : List Str} {call : Nat → List W → MH → Option (W × MH)}
/-- a comprehension's parts -/
theorem comp_parts {X : Cx} {sc : Sc} (G : Good pg N call X sc) {l : Bool} {elt : E} {tg : Tg} {it : It} {c : Eo} {own : List (Str × Nat)} {e' : Expr} (h : chkE pg N (.comp l elt tg it c own) sc e' = true) :
    ∃ elt' tg' it' ifs' scope pos, e' = .ListComp elt' [⟨tg', it', ifs', 0⟩] scope pos ∧ PI X tg' it' (rdI X.K (fun env μ => evIt call it env μ)) ∧ BlkOk X.N X.env.scope scope own ∧
      (∀ (s : Shared) (H : Hp) (C : Addr) (cl : List (Str × Addr)) (fp : List Addr), PG (X.blk s H scope (compEnvC scope cl C X.env) fp) tg' (rdG X.K tg (fun w env μ => asgT call tg w env μ))) ∧
      (∀ (s : Shared) (H : Hp) (C : Addr) (cl : List (Str × Addr)) (fp : List Addr), PTs (X.blk s H scope (compEnvC scope cl C X.env) fp) ifs' (rdT X.K (fun env μ => evC call c env μ))) ∧
      (∀ (s : Shared) (H : Hp) (C : Addr) (cl : List (Str × Addr)) (fp : List Addr), PE (X.blk s H scope (compEnvC scope cl C X.env) fp) elt' (rdE X.K (fun env μ => evE call elt env μ))) ∧
      (∀ x, foldedSetIterable it' X.env x = pure x) ∧ tgIn (own.map (·.2)) tg = true := by
  simp only [chkE] at h
  split at h
  · rename_i elt' tg' it' ifs' scope pos
    simp only [Bool.and_eq_true, Bool.not_eq_true'] at h
    obtain ⟨⟨⟨⟨⟨⟨⟨h1, h2⟩, h3⟩, h4⟩, h5⟩, h6⟩, h7⟩, h8⟩ := h
    have hb : blkC X.N X.env.scope scope own = true := by
      have : blkC X.N X.env.scope scope own = blkC N (scOf sc) scope own := by
        unfold blkC
        rw [G.nm, G.names]
        rfl
      rw [this]; exact h4
    exact ⟨elt', tg', it', ifs', scope, pos, rfl, sndIt it G h1, blkOk_by hb, fun s H C cl fp => sndG tg (G.blk h3 s H C cl fp) h5, fun s H C cl fp => sndC c (G.blk h3 s H C cl fp) h7, fun s H C cl fp => sndE elt (G.blk h3 s H C cl fp) h8, no_fold h2 _, h6⟩
  · cases h
/-- name = [..] -/
theorem setLc_ok {X : Cx} {sc : Sc} (G : Good pg N call X sc) {i : Nat} {e : E} {y : Str} {py spos : Pos} {e' : Expr} (hi : N[i]? = some y) (h : chkE pg N e sc e' = true) (hs : swB sc e' y py = true) :
    PS X (.Assign [.Name y py] e' spos) (rdS X.K (evS call (.asg (.name i) e))) := by
  cases e' with
  | ListComp elt0 gens scope0 pos0 =>
    cases e with
    | comp l elt tg it c own =>
      obtain ⟨elt', tg', it', ifs', scope, pos, e1, hI, hB, hG, hT, hE, hF, hw⟩ := comp_parts G h
      simp only [Expr.ListComp.injEq] at e1
      obtain ⟨rfl, rfl, rfl, rfl⟩ := e1
      unfold swB at hs
      simp only [Bool.and_eq_true, Bool.not_eq_true'] at hs
      obtain ⟨⟨h1, h2⟩, h3⟩ := hs
      have hy : X.env.scope.names.lookup y = some .local := by
        rw [G.names]
        split at h1
        · assumption
        · cases h1
      refine ps_imp (ps_setLc (i := i) G.calm (by rw [G.nm]; exact G.nd) (by rw [G.nm]; exact hi) hy (sw_true G.kind hy h2 h3) hI hB hG hT hE hF) fun D σ H q => ?_
      obtain ⟨α, F, μ, env, o, R, re, e0, k⟩ := q
      simp only [evS] at e0
      obtain ⟨w, μ1, e1, e0⟩ := bnd_inv e0
      obtain ⟨env2, μ2, e2, e0⟩ := bnd_inv e0
      simp only [Option.some.injEq] at e0
      subst e0
      simp only [asgT, Option.some.injEq, Prod.mk.injEq] at e2
      obtain ⟨rfl, rfl⟩ := e2
      refine rd_comp (live := l) hw ⟨α, F, μ, env, w, μ1, R, re, by simpa only [evE] using e1, fun α1 F1 H1 v x1 R1 r1 => ?_⟩
      exact k _ _ _ _ x1 R1 ((re.mono x1).set i r1)
    | _ => simp [chkE] at h
  | _ => simp [swB] at hs
theorem swap_some {x y : Str} {px py pt pt2 : Pos} {kt k2 : Nat} {a b : Expr} {env : Env} (hk : env.scope.kind = .function) (hx : env.scope.names.lookup x = some .local) (hy : env.scope.names.lookup y = some .local) (hne : (x == y) = false) (hl : (px.line == py.line) = true)
    (ha : isStar a = false) (hb : isStar b = false) (hf : [a, b].all (foldedForSure 8) = false) (hc : [a, b].all (constantsAlone 8) = false) :
    swappedStores [.Tuple [.Name x px, .Name y py] kt pt] (.Tuple [a, b] k2 pt2) env = pure (some [x, y]) := by
  have kx : env.kindOf x = some .local := hx
  have ky : env.kindOf y = some .local := hy
  have hbk : env.blockKind = .function := by unfold Env.blockKind; rw [hk]; rfl
  have hl' : (py.line == px.line) = true := by
    rw [beq_iff_eq] at hl ⊢; exact hl.symm
  have hst : ([a, b].any fun e => match e with | .Starred .. => true | _ => false) = false := by
    rw [List.any_cons, List.any_cons, List.any_nil]
    have s : ∀ e : Expr, isStar e = false → (match e with | .Starred .. => true | _ => false) = false := fun e h => by
      cases e <;> first | rfl | cases h
    rw [s a ha, s b hb]
    rfl
  have hne2 : (y == x) = false := by
    rw [beq_eq_false_iff_ne] at hne ⊢; exact fun z => hne z.symm
  unfold swappedStores
  dsimp only
  refine (if_neg (by simp [hbk])).trans ?_
  refine (if_neg (fun hq => Bool.false_ne_true (hst.symm.trans hq))).trans ?_
  have hnames : ([Expr.Name x px, Expr.Name y py].filterMap fun e => match e with
    | .Name id pos => if env.kindOf id == some .local && pos.line == (([Expr.Name x px, Expr.Name y py].head?.map (·.pos.line)).getD 0) then some id else none
    | _ => none) = [x, y] := by
    have q1 : (env.kindOf x == some .local && px.line == (([Expr.Name x px, Expr.Name y py].head?.map (·.pos.line)).getD 0)) = true := by
      rw [kx]; simp [Expr.pos]
    have q2 : (env.kindOf y == some .local && py.line == (([Expr.Name x px, Expr.Name y py].head?.map (·.pos.line)).getD 0)) = true := by
      rw [ky]; simpa [Expr.pos] using hl'
    simp only [List.filterMap_cons, List.filterMap_nil]
    rw [if_pos q1, if_pos q2]
  have e2 : [x, y].eraseDups = [x, y] := by
    rw [List.eraseDups_cons]
    simp [hne2, List.eraseDups_cons]
  have hz : ((([Expr.Name x px, Expr.Name y py].filterMap fun e => match e with
    | .Name id pos => if env.kindOf id == some .local && pos.line == (([Expr.Name x px, Expr.Name y py].head?.map (·.pos.line)).getD 0) then some id else none
    | _ => none).length != [Expr.Name x px, Expr.Name y py].length) || ((([Expr.Name x px, Expr.Name y py].filterMap fun e => match e with
    | .Name id pos => if env.kindOf id == some .local && pos.line == (([Expr.Name x px, Expr.Name y py].head?.map (·.pos.line)).getD 0) then some id else none
    | _ => none).eraseDups.length) != (([Expr.Name x px, Expr.Name y py].filterMap fun e => match e with
    | .Name id pos => if env.kindOf id == some .local && pos.line == (([Expr.Name x px, Expr.Name y py].head?.map (·.pos.line)).getD 0) then some id else none
    | _ => none).length))) = false := by
    rw [hnames, e2]
    rfl
  refine (if_neg (fun hq => Bool.false_ne_true (hz.symm.trans hq))).trans ?_
  refine (if_neg (fun hq => Bool.false_ne_true (hf.symm.trans hq))).trans ?_
  refine (if_neg (fun hq => Bool.false_ne_true (hc.symm.trans hq))).trans ?_
  exact congrArg (fun z => (pure (some z) : Sem (Option (List Str)))) hnames
end
end MI

-- MiK
/-! soundness of blocks and of defs -/
namespace MI
open PySem PySem.Spec L2

section
variable {pg : Pg} {N : List Str} {call : Nat → List W → MH → Option (W × MH)}
theorem Good.own {X : Cx} {sc : Sc} (G : Good pg N call X sc) : PassesOwn (model X.prog X.w) X.A X.env X.xe := by
  rw [G.xe]; exact PassesOwn.never
theorem asg_plain {X : Cx} {tg e' : Expr} (h : plainB tg e' = true) (l : Nat) : swapsWithSole [tg] e' l X.env = pure false ∧ swappedStores [tg] e' X.env = pure none := by
  unfold plainB at h
  split at h
  · simp only [Bool.not_eq_true'] at h
    exact ⟨by unfold swapsWithSole; exact no_comp_line h _ _ _, by cases e' <;> rfl⟩
  · split at h
    · exact ⟨rfl, swap_none h⟩
    · rename_i ts k p hn
      refine ⟨by cases e' <;> rfl, ?_⟩
      cases e' <;> first | rfl | (rename_i vs k2 p2; exact (hn vs k2 p2 rfl).elim)
  · exact ⟨by cases e' <;> rfl, by cases e' <;> rfl⟩
  · cases h
theorem aug_add {x y z : W} (h : augW .add x y = some z) : ∃ a b, x = .d (.int a) ∧ y = .d (.int b) ∧ z = .d (.int (a + b)) := by
  unfold augW at h
  split at h
  · simp only [Option.some.injEq] at h
    exact ⟨_, _, rfl, rfl, h.symm⟩
  · rename_i e; cases e
  · cases h
theorem aug_sub {x y z : W} (h : augW .sub x y = some z) : ∃ a b, x = .d (.int a) ∧ y = .d (.int b) ∧ z = .d (.int (a - b)) := by
  unfold augW at h
  split at h
  · rename_i e; cases e
  · simp only [Option.some.injEq] at h
    exact ⟨_, _, rfl, rfl, h.symm⟩
  · cases h
set_option maxHeartbeats 2000000
mutual
theorem sndS : ∀ (s : S) {X : Cx} {sc : Sc} {st : Stmt}, Good pg N call X sc → chkS pg N s sc st = true → PS X st (rdS X.K (evS call s))
  | .asg t e, X, sc, st, G, h => by
    simp only [chkS] at h
    split at h
    · rename_i tg e' pos
      simp only [Bool.and_eq_true, Bool.or_eq_true] at h
      obtain ⟨⟨h1, h2⟩, h3⟩ := h
      rcases h3 with h3 | h3
      · obtain ⟨q1, q2⟩ := asg_plain (X := X) h3 pos.line
        exact ps_imp (ps_asg (sndE e G h2) (sndG t G h1) q1 q2 (by rw [asg_cons (tg_star h1)]; rfl)) fun D σ H q => rd_asg (by have q' := q; simp only [evS] at q'; exact q')
      · split at h3
        · rename_i y py
          have ht : ∃ i, t = .name i ∧ N[i]? = some y := by
            cases t with
            | name i =>
              simp only [chkG, Bool.and_eq_true, decide_eq_true_eq] at h1
              exact ⟨i, rfl, h1.1⟩
            | tup _ => simp [chkG] at h1
            | sub _ _ => simp [chkG] at h1
          obtain ⟨i, rfl, hi⟩ := ht
          exact setLc_ok G hi h2 h3
        · cases h3
    · cases h
  | .par i j a b, X, sc, st, G, h => by
    simp only [chkS] at h
    split at h
    · rename_i x px y py kt pt a' b' k2 pt2 pos
      simp only [Bool.and_eq_true, decide_eq_true_eq, Bool.not_eq_true', beq_eq_false_iff_ne, ne_eq] at h
      obtain ⟨⟨⟨⟨⟨⟨⟨⟨⟨⟨h1, h2⟩, h3⟩, h4⟩, h5⟩, h6⟩, h7⟩, h8⟩, h9⟩, h10⟩, h11⟩ := h
      have lo : ∀ z, locB sc z = true → X.env.scope.names.lookup z = some .local := fun z hz => by
        rw [G.names]
        unfold locB at hz
        split at hz
        · assumption
        · cases hz
      have hne : (x == y) = false := by rw [beq_eq_false_iff_ne]; exact h4
      refine ps_imp (ps_par (i := i) (j := j) G.calm (by rw [G.nm]; exact G.nd) (by rw [G.nm]; exact h1) (by rw [G.nm]; exact h2) h3 (lo x h5) (lo y h6)
        (pa_cons (sndE a G h8) (pa_cons (sndE b G h9) pa_nil (star_cons (not_star h9) _ _)) (star_cons (not_star h8) _ _)) (swap_some G.kind (lo x h5) (lo y h6) hne h7 (not_star h8) (not_star h9) h10 h11) rfl) fun D σ H q => ?_
      obtain ⟨α, F, μ, env, o, R, re, e, k⟩ := q
      simp only [evS] at e
      obtain ⟨u, μ1, e1, e⟩ := bnd_inv e
      obtain ⟨v, μ2, e2, e⟩ := bnd_inv e
      simp only [Option.some.injEq] at e
      subst e
      exact ⟨α, F, μ, env, u, μ1, R, re, e1, fun α1 F1 H1 v1 x1 R1 r1 => ⟨α1, F1, μ1, env, v, μ2, R1, re.mono x1, e2, fun α2 F2 H2 v2 x2 R2 r2 => ⟨v1, v2, rfl, k _ _ _ _ (x1.trans x2) R2 (((re.mono (x1.trans x2)).set i (r1.mono x2)).set j r2)⟩⟩⟩
    · cases h
  | .aug i op e, X, sc, st, G, h => by
    simp only [chkS] at h
    split at h
    · rename_i x px o e' pos
      simp only [Bool.and_eq_true, decide_eq_true_eq] at h
      obtain ⟨⟨⟨⟨h1, h2⟩, h3⟩, h4⟩, h5⟩ := h
      have go : ∀ {f : Int → Int → Int} {D : Ends} {σ : L2.St} {H : Hp}, (∀ env μ o, evS call (.aug i op e) env μ = some o → ∃ a b μ', env[i]? = some (some (.d (.int a))) ∧ evE call e env μ = some (.d (.int b), μ') ∧ o = .next (env.set i (some (.d (.int (f a b))))) μ') →
          rdS X.K (evS call (.aug i op e)) D σ H → tAug i (rdE X.K (evE call e)) (ipI f) D σ H := fun {f D σ H} hf q => by
        obtain ⟨α, F, μ, env, o, R, re, e0, k⟩ := q
        obtain ⟨a, b, μ', q1, q2, rfl⟩ := hf _ _ _ e0
        obtain ⟨v, hv, r⟩ := re.2 i _ q1
        have ev := dr_int r
        subst ev
        refine ⟨_, hv, α, F, μ, env, _, μ', R, re, q2, fun α1 F1 H1 v1 x1 R1 r1 => ⟨a, b, rfl, dr_int r1, ?_⟩⟩
        exact k _ _ _ _ x1 R1 ((re.mono x1).set i (show RW X.K α1 F1 (.int (f a b)) (.d (.int (f a b))) from .int _))
      split at h5
      · refine ps_imp (ps_aug (i := i) (by rw [G.nm]; exact G.nd) (by rw [G.nm]; exact h1) (G.loc h2) (sndE e G h4) ip_add (G.fn x h2)) fun D σ H q => go (fun env μ o q => ?_) q
        simp only [evS] at q
        split at q
        · rename_i w hw
          obtain ⟨y, μ1, e1, q⟩ := bnd_inv q
          split at q
          · rename_i z hz
            simp only [Option.some.injEq] at q
            subst q
            obtain ⟨a, b, rfl, rfl, rfl⟩ := aug_add hz
            exact ⟨a, b, μ1, hw, e1, rfl⟩
          · cases q
        · cases q
      · refine ps_imp (ps_aug (i := i) (by rw [G.nm]; exact G.nd) (by rw [G.nm]; exact h1) (G.loc h2) (sndE e G h4) ip_sub (G.fn x h2)) fun D σ H q => go (fun env μ o q => ?_) q
        simp only [evS] at q
        split at q
        · rename_i w hw
          obtain ⟨y, μ1, e1, q⟩ := bnd_inv q
          split at q
          · rename_i z hz
            simp only [Option.some.injEq] at q
            subst q
            obtain ⟨a, b, rfl, rfl, rfl⟩ := aug_sub hz
            exact ⟨a, b, μ1, hw, e1, rfl⟩
          · cases q
        · cases q
      · cases h5
    · cases h
  | .expr e, X, sc, st, G, h => by
    simp only [chkS] at h
    split at h
    · rename_i e' pos
      simp only [Bool.and_eq_true, Bool.not_eq_true'] at h
      refine ps_imp (ps_expr (sndE e G h.1) (no_comp_line h.2 _ _ _)) fun D σ H q => ?_
      obtain ⟨α, F, μ, env, o, R, re, e0, k⟩ := q
      simp only [evS] at e0
      obtain ⟨w, μ1, e1, e0⟩ := bnd_inv e0
      simp only [Option.some.injEq] at e0
      subst e0
      exact ⟨α, F, μ, env, w, μ1, R, re, e1, fun α1 F1 H1 v x1 R1 r1 => k _ _ _ _ x1 R1 (re.mono x1)⟩
    · cases h
  | .iff c a b, X, sc, st, G, h => by
    simp only [chkS] at h
    split at h
    · rename_i c' a' b' pos
      simp only [Bool.and_eq_true] at h
      obtain ⟨⟨h1, h2⟩, h3⟩ := h
      refine ps_imp (ps_if (sndT c G h1) (sndSs a G h2) (sndSs b G h3)) fun D σ H q => ?_
      obtain ⟨α, F, μ, env, o, R, re, e0, k⟩ := q
      simp only [evS] at e0
      obtain ⟨t, μ1, e1, e0⟩ := bnd_inv e0
      refine ⟨α, F, μ, env, t, μ1, R, re, e1, fun α1 F1 H1 x1 R1 => ?_⟩
      cases t with
      | true =>
        simp only [if_true] at e0 ⊢
        exact ⟨α1, F1, μ1, env, o, R1, re.mono x1, e0, k.mono x1⟩
      | false =>
        simp only [Bool.false_eq_true, if_false] at e0 ⊢
        exact ⟨α1, F1, μ1, env, o, R1, re.mono x1, e0, k.mono x1⟩
    · cases h
  | .forr t it b, X, sc, st, G, h => by
    simp only [chkS] at h
    split at h
    · rename_i tg it' b' pos
      simp only [Bool.and_eq_true, Bool.not_eq_true'] at h
      obtain ⟨⟨⟨h1, h2⟩, h3⟩, h4⟩ := h
      have hb : PSs X b' (rdS X.K (fun env μ => evSs call b env μ)) := sndSs b G h4
      exact ps_imp (ps_for G.own G.calm (sndIt it G h2) (sndG t G h1) hb (no_fold h3 _)) fun D σ H q => rd_for (by have q' := q; simp only [evS] at q'; exact q')
    · cases h
  | .whil n c b, X, sc, st, G, h => by
    simp only [chkS] at h
    split at h
    · rename_i c' b' pos
      simp only [Bool.and_eq_true] at h
      have hc : PT X c' (rdT X.K (fun env μ => evT call c env μ)) := sndT c G h.1
      have hb : PSs X b' (rdS X.K (fun env μ => evSs call b env μ)) := sndSs b G h.2
      exact ps_imp (ps_while G.own hc hb) fun D σ H q => rd_while (n := n) (by have q' := q; simp only [evS] at q'; exact q')
    · cases h
  | .ret e, X, sc, st, G, h => by
    simp only [chkS] at h
    split at h
    · refine ps_imp (ps_ret (sndE e G h)) fun D σ H q => ?_
      obtain ⟨α, F, μ, env, o, R, re, e0, k⟩ := q
      simp only [evS] at e0
      obtain ⟨w, μ1, e1, e0⟩ := bnd_inv e0
      simp only [Option.some.injEq] at e0
      subst e0
      exact ⟨α, F, μ, env, w, μ1, R, re, e1, k⟩
    · cases h
  | .retN, X, sc, st, G, h => by
    simp only [chkS] at h
    split at h
    · refine ps_imp ps_retN fun D σ H q => ?_
      obtain ⟨α, F, μ, env, o, R, re, e0, k⟩ := q
      simp only [evS, Option.some.injEq] at e0
      subst e0
      exact k _ _ _ _ (Ext.refl _ _ _) R .non
    · cases h
  | .brk, X, sc, st, G, h => by
    simp only [chkS] at h
    split at h
    · refine ps_imp ps_break fun D σ H q => ?_
      obtain ⟨α, F, μ, env, o, R, re, e0, k⟩ := q
      simp only [evS, Option.some.injEq] at e0
      subst e0
      exact k _ _ _ _ (Ext.refl _ _ _) R re
    · cases h
  | .cont, X, sc, st, G, h => by
    simp only [chkS] at h
    split at h
    · refine ps_imp ps_continue fun D σ H q => ?_
      obtain ⟨α, F, μ, env, o, R, re, e0, k⟩ := q
      simp only [evS, Option.some.injEq] at e0
      subst e0
      exact k _ _ _ _ (Ext.refl _ _ _) R re
    · cases h
  | .pass, X, sc, st, G, h => by
    simp only [chkS] at h
    split at h
    · refine ps_imp ps_pass fun D σ H q => ?_
      obtain ⟨α, F, μ, env, o, R, re, e0, k⟩ := q
      simp only [evS, Option.some.injEq] at e0
      subst e0
      exact k _ _ _ _ (Ext.refl _ _ _) R re
    · cases h
theorem sndSs : ∀ (ss : Ss) {X : Cx} {sc : Sc} {l : List Stmt}, Good pg N call X sc → chkSs pg N ss sc l = true → PSs X l (rdS X.K (evSs call ss))
  | .nil, X, sc, l, G, h => by
    simp only [chkSs, List.isEmpty_iff] at h
    subst h
    refine pss_imp pss_nil fun D σ H q => ?_
    obtain ⟨α, F, μ, env, o, R, re, e0, k⟩ := q
    simp only [evSs, Option.some.injEq] at e0
    subst e0
    exact k _ _ _ _ (Ext.refl _ _ _) R re
  | .cons s r, X, sc, l, G, h => by
    cases l with
    | nil => simp [chkSs] at h
    | cons s' r' =>
      simp only [chkSs, Bool.and_eq_true] at h
      refine pss_imp (pss_cons (sndS s G h.1) (sndSs r G h.2)) fun D σ H q => ?_
      obtain ⟨α, F, μ, env, o, R, re, e0, k⟩ := q
      simp only [evSs] at e0
      split at e0
      · rename_i env1 μ1 e1
        refine ⟨α, F, μ, env, .next env1 μ1, R, re, e1, fun α1 F1 H1 σ1 x1 R1 re1 => ⟨α1, F1, μ1, env1, o, R1, re1, e0, k.mono x1⟩⟩
      · rename_i hn
        refine ⟨α, F, μ, env, o, R, re, e0, ?_⟩
        cases o with
        | next env1 μ1 => exact (hn _ _ e0).elim
        | ret w μ1 => exact k
        | brk env1 μ1 => exact k
        | cont env1 μ1 => exact k
end
end

/-! ### defs -/
theorem Rel.take {α : List Addr} {F H : Hp} {μ : MH} (R : Rel α F H μ) (n : Nat) : Rel (α.take n) F H (μ.take n) := by
  refine ⟨R.sub, by simp [R.len], R.nod.sublist (List.take_sublist _ _), fun m a c ha hc => ?_⟩
  have hm : m < n := by
    have := (List.getElem?_eq_some_iff.mp ha).1
    rw [List.length_take] at this; omega
  rw [List.getElem?_take_of_lt hm] at ha hc
  exact R.cell m a c ha hc
theorem Ext.take {α α' : List Addr} {F H F' H' : Hp} (x : Ext α F H α' F' H') : Ext α F H α F' H' ∧ α'.take α.length = α := by
  obtain ⟨β, e, n⟩ := x.al
  refine ⟨⟨x.f, ⟨[], by simp, by simp⟩, x.fr, x.dm, x.uf⟩, ?_⟩
  subst e
  simp
theorem rws_len {K : PySem.W.Frag} {α : List Addr} {F : Hp} : ∀ {vs : List V} {ws : List W}, RWs K α F vs ws → vs.length = ws.length
  | _, _, .nil => rfl
  | _, _, .cons _ t => congrArg (· + 1) (rws_len t)
theorem rws_get {K : PySem.W.Frag} {α : List Addr} {F : Hp} : ∀ {vs : List V} {ws : List W} {i : Nat} {w : W}, RWs K α F vs ws → ws[i]? = some w → ∃ v, vs[i]? = some v ∧ RW K α F v w
  | _, _, _, _, .nil, e => by simp at e
  | _, _, 0, w, .cons r _, e => by simp at e; subst e; exact ⟨_, rfl, r⟩
  | _, _, i + 1, w, .cons _ t, e => by
    obtain ⟨v, h1, h2⟩ := rws_get (i := i) (w := w) t (by simpa using e)
    exact ⟨v, by simpa using h1, h2⟩
/-- the slots at the entry -/
theorem re_start {K : PySem.W.Frag} {α : List Addr} {F : Hp} {N : List Str} {vs : List V} {ws : List W} (r : RWs K α F vs ws) : RE K α F (L2.start N vs) (ws.map some ++ List.replicate (N.length - ws.length) none) := by
  have hl := rws_len r
  refine ⟨by unfold L2.start; simp [hl], fun i w e => ?_⟩
  by_cases hi : i < ws.length
  · rw [List.getElem?_append_left (by simpa using hi), List.getElem?_map] at e
    obtain ⟨w', e1, e2⟩ := Option.map_eq_some_iff.mp e
    cases e2
    obtain ⟨v, hv, rv⟩ := rws_get r e1
    refine ⟨v, ?_, rv⟩
    unfold L2.start
    rw [List.getElem?_append_left (by simp; omega), List.getElem?_map, hv]
    rfl
  · rw [List.getElem?_append_right (by simpa using hi), List.getElem?_replicate] at e
    split at e <;> cases e
/-- what stands when a def is left -/
theorem leave_ok {K : PySem.W.Frag} {α : List Addr} {F H : Hp} {μ : MH} {o : Option Out} {w : W} {μ' : MH} {Q : VK} {N : Nat} (R : Rel α F H μ) (h : leave μ.length o = some (w, μ')) (k : Kt K α F H w μ' Q) :
    ∃ out, o = some out ∧ Post K { nx := fun _ H' => Q .non H', rt := Q } α F H out := by
  unfold leave at h
  split at h
  · rename_i env μ2
    simp only [Option.some.injEq, Prod.mk.injEq] at h
    obtain ⟨rfl, rfl⟩ := h
    refine ⟨_, rfl, fun α' F' H' σ' x' R' re' => ?_⟩
    obtain ⟨x2, ht⟩ := x'.take
    have R2 := R'.take μ.length
    rw [← R.len, ht, R.len] at R2
    exact k _ _ _ _ x2 R2 .non
  · rename_i m μ2
    split at h
    · rename_i hm
      simp only [Option.some.injEq, Prod.mk.injEq] at h
      obtain ⟨rfl, rfl⟩ := h
      refine ⟨_, rfl, fun α' F' H' v x' R' r' => ?_⟩
      obtain ⟨x2, ht⟩ := x'.take
      have R2 := R'.take μ.length
      rw [← R.len, ht, R.len] at R2
      refine k _ _ _ _ x2 R2 ?_
      obtain ⟨a, rfl, ha⟩ := r'
      refine ⟨a, rfl, ?_⟩
      obtain ⟨β, e, _⟩ := x'.al
      subst e
      rw [List.getElem?_append_left (by rw [R.len]; exact hm)] at ha
      exact ha
    · rename_i hm
      split at h
      · rename_i c hc
        simp only [Option.some.injEq, Prod.mk.injEq] at h
        obtain ⟨rfl, rfl⟩ := h
        refine ⟨_, rfl, fun α' F' H' v x' R' r' => ?_⟩
        obtain ⟨a, rfl, ha⟩ := r'
        obtain ⟨β, e, n⟩ := x'.al
        have hm' : α.length ≤ m := by rw [R.len]; omega
        have hβ : β[m - α.length]? = some a := by
          subst e
          rw [List.getElem?_append_right hm'] at ha
          exact ha
        have ab : a ∈ β := List.mem_of_getElem? hβ
        obtain ⟨x2, ht⟩ := x'.take
        have R2 := R'.take μ.length
        rw [← R.len, ht, R.len] at R2
        have na : a ∉ α := fun hz => by
          have := R'.nod
          rw [e, List.nodup_append] at this
          exact this.2.2 a hz a ab rfl
        obtain ⟨vs, h1, h2, h3, h4⟩ := R'.cell m a c ha hc
        refine k (α ++ [a]) F' H' (.ref a) ⟨x'.f, ⟨[a], rfl, fun b hb => ?_⟩, x'.fr, x'.dm, x'.uf⟩ ⟨R'.sub, by simp [R2.len], ?_, fun j b d hb hd => ?_⟩ ⟨a, rfl, ?_⟩
        · have : b = a := by simpa using hb
          rw [this]; exact n a ab
        · rw [List.nodup_append]
          refine ⟨R.nod, by simp, fun b hb d hd => ?_⟩
          have : d = a := by simpa using hd
          rw [this]; exact fun z => na (by rw [← z]; exact hb)
        · by_cases hj : j < α.length
          · rw [List.getElem?_append_left hj] at hb
            rw [List.getElem?_append_left (by rw [← R2.len]; exact hj)] at hd
            exact R2.cell j b d hb hd
          · have e1 : j = α.length := by
              have := (List.getElem?_eq_some_iff.mp hb).1
              simp at this; omega
            subst e1
            rw [List.getElem?_append_right (Nat.le_refl _)] at hb
            rw [List.getElem?_append_right (by rw [← R2.len]; exact Nat.le_refl _), ← R2.len] at hd
            simp at hb hd
            subst hb; subst hd
            exact ⟨vs, h1, h2, h3, h4⟩
        · rw [← R.len, List.getElem?_append_right (Nat.le_refl _)]
          simp
      · cases h
  · rename_i hc
    simp only [Option.some.injEq, Prod.mk.injEq] at h
    obtain ⟨rfl, rfl⟩ := h
    refine ⟨_, rfl, fun α' F' H' v x' R' r' => ?_⟩
    obtain ⟨x2, ht⟩ := x'.take
    have R2 := R'.take μ.length
    rw [← R.len, ht, R.len] at R2
    rename_i w μ2
    refine k _ _ _ _ x2 R2 ?_
    cases w with
    | d x => exact r'
    | s x => exact r'
    | c m => exact (hc m rfl).elim
  · cases h
end MI

-- MiL
/-! a whole text: each def keeps what the evaluator says -/
namespace MI
open PySem PySem.Spec L2

def parB (sc : Scope) (x : Str) : Bool := match sc.names.lookup x with
  | some .local => true
  | some .cell => true
  | _ => false
def chkD (pg : Pg) (fd : FD) (st : Stmt) : Bool :=
  isFn (defScope st) && !(defScope st).isCoroutine && !(defScope st).isGenerator && decide (fd.names.Nodup) && decide (fd.np ≤ fd.names.length) && (fd.names.take fd.np).all (parB (defScope st)) &&
    ((defScope st).names.all fun y => !(y.2 == NameKind.free)) && chkSs pg fd.names fd.body ⟨(defScope st).names, none⟩ (defBody st)
theorem chkD_ok {pg : Pg} {fd : FD} {st : Stmt} (h : chkD pg fd st = true) : FnScope fd.names (fd.names.take fd.np) (defScope st) ∧ fd.np ≤ fd.names.length ∧ chkSs pg fd.names fd.body ⟨(defScope st).names, none⟩ (defBody st) = true := by
  unfold chkD at h
  simp only [Bool.and_eq_true, Bool.not_eq_true', decide_eq_true_eq, List.all_eq_true] at h
  obtain ⟨⟨⟨⟨⟨⟨⟨h1, h2⟩, h3⟩, h4⟩, h5⟩, h6⟩, h7⟩, h8⟩ := h
  refine ⟨⟨?_, h2, h3, h4, ?_, fun x hx => ?_, fun y hy e => ?_⟩, h5, h8⟩
  · unfold isFn at h1
    split at h1
    · assumption
    · cases h1
  · rw [List.length_take, Nat.min_eq_left h5]
  · have := h6 x hx
    unfold parB at this
    split at this
    · rename_i e; exact .inl e
    · rename_i e; exact .inr e
    · cases this
  · have := h7 y hy
    rw [e] at this
    exact Bool.noConfusion this

/-- what is known of the module -/
structure Md (T : List FD) (pg : Pg) (K : PySem.W.Frag) (mg : Str → Option Value) : Prop where
  fn : pg.fn = T.map (·.name)
  defs : ∀ (f : Nat) (fd : FD), T[f]? = some fd → ∃ (st : Stmt) (a : Addr) (fdt : FuncData), Fun K fd.name fd.name st a fdt ∧ mg fd.name = some (.ref a) ∧ Binds K fdt (fd.names.take fd.np) [] ∧ chkD pg fd st = true
  bl : ∀ b : Bi, b ≠ .gcd → mg (biN b) = none
  isi : mg "isinstance" = none
  tys : ∀ t : Ty, mg (Str.ofString (tyN t)) = none
  gc : pg.gc = true → mg "gcd" = some (.builtin "math.gcd")
theorem evF_len {T : List FD} {k f : Nat} {ws : List W} {μ : MH} {r : W × MH} {fd : FD} (hT : T[f]? = some fd) (h : evF T k f ws μ = some r) : ws.length = fd.np := by
  cases k with
  | zero => cases h
  | succ k =>
    unfold evF at h
    rw [hT] at h
    dsimp only at h
    split at h
    · assumption
    · cases h
/-- what is known of a def at a level -/
def FnAt (P : Program) (w : World) (K : PySem.W.Frag) (mg : Str → Option Value) (base : Heap) (T : List FD) (k f : Nat) (fd : FD) : Prop :=
  ∃ (a : Addr) (fdt : FuncData), mg fd.name = some (.ref a) ∧ PySem.W.keepIn K (.ref a) = true ∧ Binds K fdt (fd.names.take fd.np) [] ∧ FnOk P w K mg base CX0 k a fdt (fd.names.take fd.np) (spM K (evF T k f))
theorem fn_step {P : Program} {w : World} {T : List FD} {pg : Pg} {K : PySem.W.Frag} {mg : Str → Option Value} {base : Heap} (M : Md T pg K mg) {k : Nat} (ih : ∀ (f : Nat) (fd : FD), T[f]? = some fd → FnAt P w K mg base T k f fd)
    {f : Nat} {fd : FD} (hT : T[f]? = some fd) {st : Stmt} {a : Addr} {fdt : FuncData} (F : Fun K fd.name fd.name st a fdt) (hc : chkD pg fd st = true) : FnOk P w K mg base CX0 (k + 1) a fdt (fd.names.take fd.np) (spM K (evF T (k + 1) f)) := by
  obtain ⟨S, hnp, hcs⟩ := chkD_ok hc
  refine F.ok S (fun vs H Q E h => ?_) (fun cdv A outer s H vs Q E hr h => ?_)
  · obtain ⟨α, F', μ, ws, w', μ', R, rs, e, k'⟩ := h
    rw [List.length_take, Nat.min_eq_left hnp, rws_len rs]
    exact evF_len hT e
  · refine ⟨rdS K (evSs (evF T k) fd.body), ?_, ?_⟩
    · refine sndSs (pg := pg) (N := fd.names) (sc := ⟨(defScope st).names, none⟩) fd.body ⟨rfl, S.kind, fun x hx => .inl rfl, rfl, S.nd, rfl, rfl, ?_, fun g nm hg => ?_, M.bl, M.isi, M.tys, M.gc⟩ hcs
      · have := hr.un
        show (A.deeper _).units + 65 < cLine
        omega
      · rw [M.fn, List.getElem?_map] at hg
        obtain ⟨fd2, h2, rfl⟩ := Option.map_eq_some_iff.mp hg
        obtain ⟨a2, fdt2, q1, q2, q3, q4⟩ := ih g fd2 h2
        exact ⟨k, a2, fdt2, _, q1, q2, q3, hr, q4⟩
    · obtain ⟨α, F', μ, ws, w', μ', R, rs, e, k'⟩ := h
      have hl := evF_len hT e
      unfold evF at e
      rw [hT] at e
      dsimp only at e
      rw [if_pos hl] at e
      obtain ⟨out, ho, hp⟩ := leave_ok (N := 0) R e k'
      exact ⟨α, F', μ, _, out, R, re_start rs, ho, hp⟩
theorem fn_all {P : Program} {w : World} {T : List FD} {pg : Pg} {K : PySem.W.Frag} {mg : Str → Option Value} {base : Heap} (M : Md T pg K mg) : ∀ (k f : Nat) (fd : FD), T[f]? = some fd → FnAt P w K mg base T k f fd := by
  intro k
  induction k with
  | zero =>
    intro f fd hT
    obtain ⟨st, a, fdt, F, hm, hb, _⟩ := M.defs f fd hT
    have no : ∀ vs H Q E, ¬ spM K (evF T 0 f) vs H Q E := fun vs H Q E h => by
      obtain ⟨α, F', μ, ws, w', μ', R, rs, e, k⟩ := h
      cases e
    exact ⟨a, fdt, hm, F.kp, hb, fun vs H Q E h => (no _ _ _ _ h).elim, fun A outer s H args us vs Q E hr he hbi hv h => (no _ _ _ _ h).elim⟩
  | succ k ih =>
    intro f fd hT
    obtain ⟨st, a, fdt, F, hm, hb, hc⟩ := M.defs f fd hT
    exact ⟨a, fdt, hm, F.kp, hb, fn_step M ih hT F hc⟩
/-- the law's own call -/
theorem law_sp {T : List FD} {K : PySem.W.Frag} {k f : Nat} {H : Hp} {a : Addr} {ns : List Int} {μ' : MH} (hO : Only H) (hS : SqL K H a (ns.map V.int)) (h : evF T k f [.s ns] [] = some (.d (.bool true), μ')) :
    spM K (evF T k f) [.ref a] H (fun v _ => v = .bl true) fun _ _ _ => False :=
  ⟨[], H, [], [.s ns], _, μ', ⟨Le.refl H, rfl, List.nodup_nil, fun n a c h => by simp at h⟩, .cons ⟨a, rfl, hS⟩ .nil, h, fun _ _ _ _ _ _ r => dr_bool r⟩
end MI

-- MiM
/-! running the small evaluator by first-order equations -/
namespace MI
open PySem PySem.Spec L2

section
variable (call : Nat → List W → MH → Option (W × MH))
def getV : Option (Option W) → MH → Option (W × MH)
  | some (some w), μ => some (w, μ)
  | _, _ => none
def kBop2 (l : Bool) (op : Bop) (x : W) (y : W) (μ : MH) : Option (W × MH) := bopW l op x y μ
def kBop (l : Bool) (op : Bop) (b : E) (env : En) (x : W) (μ : MH) : Option (W × MH) := bnd (evE call b env μ) (kBop2 l op x)
def kNeg : W → MH → Option (W × MH)
  | .d (.int i), μ => some (.d (.int (-i)), μ)
  | _, _ => none
def kNot : W → MH → Option (W × MH)
  | .d (.bool b), μ => some (.d (.bool (!b)), μ)
  | _, _ => none
def kCmp2 (op : Cop) (x : W) (y : W) (μ : MH) : Option (W × MH) := cmpV op x y μ
def kCmp (op : Cop) (b : E) (env : En) (x : W) (μ : MH) : Option (W × MH) := bnd (evE call b env μ) (kCmp2 op x)
def bT : Option Bool → MH → Option (Bool × MH)
  | some b, μ => some (b, μ)
  | none, _ => none
def bV : Option Bool → MH → Option (W × MH)
  | some b, μ => some (.d (.bool b), μ)
  | none, _ => none
def kChV3 (op2 : Cop) (y : W) (z : W) (μ : MH) : Option (W × MH) := bV (cmpW op2 y z μ) μ
def kChV2 (op2 : Cop) (c : E) (env : En) (y : W) : Option Bool → MH → Option (W × MH)
  | some true, μ => bnd (evE call c env μ) (kChV3 op2 y)
  | some false, μ => some (.d (.bool false), μ)
  | none, _ => none
def kChV1 (op op2 : Cop) (c : E) (env : En) (x : W) (y : W) (μ : MH) : Option (W × MH) := kChV2 call op2 c env y (cmpW op x y μ) μ
def kChV (op op2 : Cop) (b c : E) (env : En) (x : W) (μ : MH) : Option (W × MH) := bnd (evE call b env μ) (kChV1 call op op2 c env x)
def kIte (a b : E) (env : En) (t : Bool) (μ : MH) : Option (W × MH) := if t then evE call a env μ else evE call b env μ
def kCall (f : Nat) (ws : List W) (μ : MH) : Option (W × MH) := call f ws μ
def kBi (b : Bi) (l : Bool) (ws : List W) (μ : MH) : Option (W × MH) := biW b l ws μ
def kIsi (tys : List Ty) (w : W) (μ : MH) : Option (W × MH) := bV (isiW w tys) μ
def kIx2 (x : W) (y : W) (μ : MH) : Option (W × MH) := ixW x y μ
def kIx (i : E) (env : En) (x : W) (μ : MH) : Option (W × MH) := bnd (evE call i env μ) (kIx2 x)
def kSl3 (l : Bool) (x : W) (p : Option Int) (q : Option Int) (μ : MH) : Option (W × MH) := slW l x p q μ
def kSl2 (l : Bool) (hi : Eo) (env : En) (x : W) (p : Option Int) (μ : MH) : Option (W × MH) := bnd (evO call hi env μ) (kSl3 l x p)
def kSl (l : Bool) (lo hi : Eo) (env : En) (x : W) (μ : MH) : Option (W × MH) := bnd (evO call lo env μ) (kSl2 call l hi env x)
def kTup2 (ds : List D) (μ : MH) : Option (W × MH) := if ds.length ≤ sizeLine then some (.d (.tuple ds), μ) else none
def kTup (ws : List W) (μ : MH) : Option (W × MH) := bnd (toDs ws μ) kTup2
def kLst (l : Bool) (ws : List W) (μ : MH) : Option (W × MH) := bnd (toDs ws μ) (newL l)
def lAsg (t : Tg) (w : W) (env : En) (μ : MH) : Option (En × MH) := asgT call t w env μ
def lCnd (c : Eo) (env : En) (μ : MH) : Option (Bool × MH) := evC call c env μ
def lElt (e : E) (env : En) (μ : MH) : Option (W × MH) := evE call e env μ
def lBody (b : Ss) (env : En) (μ : MH) : Option Out := evSs call b env μ
def kComp (l : Bool) (elt : E) (tg : Tg) (c : Eo) (own : List Nat) (env : En) (p : Option Nat × List D) (μ : MH) : Option (W × MH) :=
  bnd (compL (lAsg call tg) (lCnd call c) (lElt call elt) p.1 p.2 p.2 (wipeE env own) μ) (newL l)
def kMeth2 (m : Me) (x : W) (ws : List W) (μ : MH) : Option (W × MH) := methW m x ws μ
def kMeth (m : Me) (es : Es) (env : En) (x : W) (μ : MH) : Option (W × MH) := bnd (evEs call es env μ) (kMeth2 m x)
def kEs2 (w : W) (ws : List W) (μ : MH) : Option (List W × MH) := some (w :: ws, μ)
def kEs (r : Es) (env : En) (w : W) (μ : MH) : Option (List W × MH) := bnd (evEs call r env μ) (kEs2 w)
def kBV (k : Bool) (r : Es) (env : En) : W → MH → Option (W × MH)
  | .d (.bool b), μ => if b = k then evBV call k r env μ else some (.d (.bool b), μ)
  | _, _ => none
def kBT (k : Bool) (r : Es) (env : En) (b : Bool) (μ : MH) : Option (Bool × MH) := if b = k then evBT call k r env μ else some (b, μ)
def kO : W → MH → Option (Option Int × MH)
  | .d (.int i), μ => some (some i, μ)
  | _, _ => none
def kTru (w : W) (μ : MH) : Option (Bool × MH) := bT (truW w μ) μ
def kCmpT2 (op : Cop) (x : W) (y : W) (μ : MH) : Option (Bool × MH) := bT (cmpW op x y μ) μ
def kCmpT (op : Cop) (b : E) (env : En) (x : W) (μ : MH) : Option (Bool × MH) := bnd (evE call b env μ) (kCmpT2 op x)
def kChT3 (op2 : Cop) (y : W) (z : W) (μ : MH) : Option (Bool × MH) := bT (cmpW op2 y z μ) μ
def kChT2 (op2 : Cop) (c : E) (env : En) (y : W) : Option Bool → MH → Option (Bool × MH)
  | some true, μ => bnd (evE call c env μ) (kChT3 op2 y)
  | some false, μ => some (false, μ)
  | none, _ => none
def kChT1 (op op2 : Cop) (c : E) (env : En) (x : W) (y : W) (μ : MH) : Option (Bool × MH) := kChT2 call op2 c env y (cmpW op x y μ) μ
def kChT (op op2 : Cop) (b c : E) (env : En) (x : W) (μ : MH) : Option (Bool × MH) := bnd (evE call b env μ) (kChT1 call op op2 c env x)
def kNotT (b : Bool) (μ : MH) : Option (Bool × MH) := some (!b, μ)
def kIsiT (tys : List Ty) (w : W) (μ : MH) : Option (Bool × MH) := bT (isiW w tys) μ
def pW : Option (Option Nat × List D) → MH → Option ((Option Nat × List D) × MH)
  | some p, μ => some (p, μ)
  | none, _ => none
def kItV (w : W) (μ : MH) : Option ((Option Nat × List D) × MH) := pW (itW w μ) μ
def kR1 : W → MH → Option ((Option Nat × List D) × MH)
  | .d (.int j), μ => if small62 j then some ((none, rngD 0 j.toNat), μ) else none
  | _, _ => none
def kR2b : W → W → MH → Option ((Option Nat × List D) × MH)
  | .d (.int i), .d (.int j), μ => if small62 i && small62 j then some ((none, rngD i (j - i).toNat), μ) else none
  | _, _, _ => none
def kR2 (b : E) (env : En) (x : W) (μ : MH) : Option ((Option Nat × List D) × MH) := bnd (evE call b env μ) (kR2b x)
def asgSeq (ts : Tgs) (env : En) (μ : MH) : Option (Bool × List D) → Option (En × MH)
  | some (_, xs) => asgTs call ts xs env μ
  | none => none
def setIx (env : En) (y : W) (z : D) (μ : MH) : Option (Nat × List D) → Option (En × MH)
  | some (n, xs) => match y with
    | .d (.int k) => match ixN xs.length k with
      | some j => some (env, setC n (xs.set j z) μ)
      | none => none
    | _ => none
  | none => none
def kSub3 (env : En) (x y : W) (z : D) (μ : MH) : Option (En × MH) := setIx env y z μ (liveC x μ)
def kSub2 (w : W) (env : En) (x : W) (y : W) (μ : MH) : Option (En × MH) := bnd (toD w μ) (kSub3 env x y)
def kSub (i : E) (w : W) (env : En) (x : W) (μ : MH) : Option (En × MH) := bnd (evE call i env μ) (kSub2 w env x)
def kTs (r : Tgs) (xs : List D) (env : En) (μ : MH) : Option (En × MH) := asgTs call r xs env μ
def kAsg2 (env : En) (μ : MH) : Option Out := some (.next env μ)
def kAsg (t : Tg) (env : En) (w : W) (μ : MH) : Option Out := bnd (asgT call t w env μ) kAsg2
def kPar2 (i j : Nat) (env : En) (x : W) (y : W) (μ : MH) : Option Out := some (.next ((env.set i (some x)).set j (some y)) μ)
def kPar (i j : Nat) (b : E) (env : En) (x : W) (μ : MH) : Option Out := bnd (evE call b env μ) (kPar2 i j env x)
def augO (i : Nat) (env : En) (μ : MH) : Option W → Option Out
  | some z => some (.next (env.set i (some z)) μ)
  | none => none
def kAug (i : Nat) (op : Bop) (env : En) (x : W) (y : W) (μ : MH) : Option Out := augO i env μ (augW op x y)
def augV (i : Nat) (op : Bop) (e : E) (env : En) (μ : MH) : Option (Option W) → Option Out
  | some (some x) => bnd (evE call e env μ) (kAug i op env x)
  | _ => none
def kExp (env : En) (_ : W) (μ : MH) : Option Out := some (.next env μ)
def kIf (a b : Ss) (env : En) (t : Bool) (μ : MH) : Option Out := if t then evSs call a env μ else evSs call b env μ
def kFor (t : Tg) (b : Ss) (env : En) (p : Option Nat × List D) (μ : MH) : Option Out := forL (lAsg call t) (lBody call b) p.1 p.2 p.2 env μ
def kRet (w : W) (μ : MH) : Option Out := some (.ret w μ)
def sq (r : Ss) : Option Out → Option Out
  | some (.next env μ) => evSs call r env μ
  | o => o

theorem e_var (i : Nat) (env : En) (μ : MH) : evE call (.var i) env μ = getV env[i]? μ := by
  simp only [evE]
  cases env[i]? with
  | none => rfl
  | some o => cases o <;> rfl
theorem e_cst (d : D) (env : En) (μ : MH) : evE call (.cst d) env μ = some (.d d, μ) := by simp only [evE]
theorem e_bop (l : Bool) (op : Bop) (a b : E) (env : En) (μ : MH) : evE call (.bop l op a b) env μ = bnd (evE call a env μ) (kBop call l op b env) := by simp only [evE]; rfl
theorem e_neg (a : E) (env : En) (μ : MH) : evE call (.neg a) env μ = bnd (evE call a env μ) kNeg := by
  simp only [evE]; congr 1; funext x μ; cases x with
  | d y => cases y <;> rfl
  | c n => rfl
  | s n => rfl
theorem e_not (a : E) (env : En) (μ : MH) : evE call (.not a) env μ = bnd (evE call a env μ) kNot := by
  simp only [evE]; congr 1; funext x μ; cases x with
  | d y => cases y <;> rfl
  | c n => rfl
  | s n => rfl
theorem e_boo (k : Bool) (es : Es) (env : En) (μ : MH) : evE call (.boo k es) env μ = evBV call k es env μ := by simp only [evE]
theorem e_cmp (op : Cop) (a b : E) (env : En) (μ : MH) : evE call (.cmp op a b) env μ = bnd (evE call a env μ) (kCmp call op b env) := by simp only [evE]; rfl
theorem e_chain (op op2 : Cop) (a b c : E) (env : En) (μ : MH) : evE call (.chain op op2 a b c) env μ = bnd (evE call a env μ) (kChV call op op2 b c env) := by
  simp only [evE]; congr 1; funext x μ; unfold kChV; congr 1; funext y μ; unfold kChV1 kChV2
  cases cmpW op x y μ with
  | none => rfl
  | some r =>
    cases r with
    | false => rfl
    | true =>
      dsimp only
      congr 1; funext z μ; unfold kChV3 bV; split <;> rename_i h <;> first | rw [h] | rfl
theorem e_ite (c a b : E) (env : En) (μ : MH) : evE call (.ite c a b) env μ = bnd (evT call c env μ) (kIte call a b env) := by simp only [evE]; rfl
theorem e_call (f : Nat) (es : Es) (env : En) (μ : MH) : evE call (.call f es) env μ = bnd (evEs call es env μ) (kCall call f) := by simp only [evE]; rfl
theorem e_bi (b : Bi) (l : Bool) (es : Es) (env : En) (μ : MH) : evE call (.bi b l es) env μ = bnd (evEs call es env μ) (kBi b l) := by simp only [evE]; rfl
theorem e_isi (e : E) (tys : List Ty) (env : En) (μ : MH) : evE call (.isi e tys) env μ = bnd (evE call e env μ) (kIsi tys) := by
  simp only [evE]; congr 1; funext w μ; unfold kIsi bV; split <;> rename_i h <;> first | rw [h] | rfl
theorem e_ix (a i : E) (env : En) (μ : MH) : evE call (.ix a i) env μ = bnd (evE call a env μ) (kIx call i env) := by simp only [evE]; rfl
theorem e_sl (l : Bool) (a : E) (lo hi : Eo) (env : En) (μ : MH) : evE call (.sl l a lo hi) env μ = bnd (evE call a env μ) (kSl call l lo hi env) := by simp only [evE]; rfl
theorem e_tup (es : Es) (env : En) (μ : MH) : evE call (.tup es) env μ = bnd (evEs call es env μ) kTup := by simp only [evE]; rfl
theorem e_lst (l : Bool) (es : Es) (env : En) (μ : MH) : evE call (.lst l es) env μ = bnd (evEs call es env μ) (kLst l) := by simp only [evE]; rfl
theorem e_comp (l : Bool) (elt : E) (tg : Tg) (it : It) (c : Eo) (own : List (Str × Nat)) (env : En) (μ : MH) :
    evE call (.comp l elt tg it c own) env μ = bnd (evIt call it env μ) (kComp call l elt tg c (own.map (·.2)) env) := by simp only [evE]; rfl
theorem e_meth (m : Me) (o : E) (es : Es) (env : En) (μ : MH) : evE call (.meth m o es) env μ = bnd (evE call o env μ) (kMeth call m es env) := by simp only [evE]; rfl
theorem es_nil (env : En) (μ : MH) : evEs call .nil env μ = some ([], μ) := by simp only [evEs]
theorem es_cons (e : E) (r : Es) (env : En) (μ : MH) : evEs call (.cons e r) env μ = bnd (evE call e env μ) (kEs call r env) := by simp only [evEs]; rfl
theorem bv_one (k : Bool) (e : E) (env : En) (μ : MH) : evBV call k (.cons e .nil) env μ = evE call e env μ := by simp only [evBV]
theorem bv_cons (k : Bool) (e e2 : E) (r : Es) (env : En) (μ : MH) : evBV call k (.cons e (.cons e2 r)) env μ = bnd (evE call e env μ) (kBV call k (.cons e2 r) env) := by
  simp only [evBV]; congr 1; funext x μ; cases x with
  | d y => cases y <;> rfl
  | c n => rfl
  | s n => rfl
theorem bt_one (k : Bool) (e : E) (env : En) (μ : MH) : evBT call k (.cons e .nil) env μ = evT call e env μ := by simp only [evBT]
theorem bt_cons (k : Bool) (e e2 : E) (r : Es) (env : En) (μ : MH) : evBT call k (.cons e (.cons e2 r)) env μ = bnd (evT call e env μ) (kBT call k (.cons e2 r) env) := by simp only [evBT]; rfl
theorem o_none (env : En) (μ : MH) : evO call .none env μ = some (none, μ) := by simp only [evO]
theorem o_some (e : E) (env : En) (μ : MH) : evO call (.some e) env μ = bnd (evE call e env μ) kO := by
  simp only [evO]; congr 1; funext x μ; cases x with
  | d y => cases y <;> rfl
  | c n => rfl
  | s n => rfl
theorem c_none (env : En) (μ : MH) : evC call .none env μ = some (true, μ) := by simp only [evC]
theorem c_some (e : E) (env : En) (μ : MH) : evC call (.some e) env μ = evT call e env μ := by simp only [evC]
theorem tru_map (w : W) (μ : MH) : (truW w μ).map (fun b => (b, μ)) = bT (truW w μ) μ := by cases truW w μ <;> rfl
theorem t_var (i : Nat) (env : En) (μ : MH) : evT call (.var i) env μ = bnd (getV env[i]? μ) kTru := by
  simp only [evT, tru_map]
  cases env[i]? with
  | none => rfl
  | some o => cases o <;> rfl
theorem t_not (a : E) (env : En) (μ : MH) : evT call (.not a) env μ = bnd (evT call a env μ) kNotT := by simp only [evT]; rfl
theorem t_boo (k : Bool) (es : Es) (env : En) (μ : MH) : evT call (.boo k es) env μ = evBT call k es env μ := by simp only [evT]
theorem t_cmp (op : Cop) (a b : E) (env : En) (μ : MH) : evT call (.cmp op a b) env μ = bnd (evE call a env μ) (kCmpT call op b env) := by
  simp only [evT]; congr 1; funext x μ; unfold kCmpT; congr 1; funext y μ; unfold kCmpT2 bT; split <;> rename_i h <;> first | rw [h] | rfl
theorem t_chain (op op2 : Cop) (a b c : E) (env : En) (μ : MH) : evT call (.chain op op2 a b c) env μ = bnd (evE call a env μ) (kChT call op op2 b c env) := by
  simp only [evT]; congr 1; funext x μ; unfold kChT; congr 1; funext y μ; unfold kChT1 kChT2
  cases cmpW op x y μ with
  | none => rfl
  | some r =>
    cases r with
    | false => rfl
    | true =>
      dsimp only
      congr 1; funext z μ; unfold kChT3 bT; split <;> rename_i h <;> first | rw [h] | rfl
def kCallT (f : Nat) (ws : List W) (μ : MH) : Option (Bool × MH) := bnd (call f ws μ) kTru
theorem t_call (f : Nat) (es : Es) (env : En) (μ : MH) : evT call (.call f es) env μ = bnd (evEs call es env μ) (kCallT call f) := by
  simp only [evT, tru_map]; rfl
theorem t_isi (e : E) (tys : List Ty) (env : En) (μ : MH) : evT call (.isi e tys) env μ = bnd (evE call e env μ) (kIsiT tys) := by
  simp only [evT]; congr 1; funext w μ; unfold kIsiT bT; split <;> rename_i h <;> first | rw [h] | rfl
def kIxT2 (x : W) (y : W) (μ : MH) : Option (Bool × MH) := bnd (ixW x y μ) kTru
def kIxT (i : E) (env : En) (x : W) (μ : MH) : Option (Bool × MH) := bnd (evE call i env μ) (kIxT2 x)
theorem t_ix (a i : E) (env : En) (μ : MH) : evT call (.ix a i) env μ = bnd (evE call a env μ) (kIxT call i env) := by
  simp only [evT, tru_map]; rfl
theorem it_map (o : Option (Option Nat × List D)) (μ : MH) : o.map (fun p => (p, μ)) = pW o μ := by cases o <;> rfl
theorem i_val (e : E) (env : En) (μ : MH) : evIt call (.val e) env μ = bnd (evE call e env μ) kItV := by
  simp only [evIt, it_map]; rfl
theorem i_rng1 (e : E) (env : En) (μ : MH) : evIt call (.rng1 e) env μ = bnd (evE call e env μ) kR1 := by
  simp only [evIt]; congr 1; funext x μ; cases x with
  | d y => cases y <;> rfl
  | c n => rfl
  | s n => rfl
theorem i_rng2 (a b : E) (env : En) (μ : MH) : evIt call (.rng2 a b) env μ = bnd (evE call a env μ) (kR2 call b env) := by
  simp only [evIt]; congr 1; funext x μ; unfold kR2; congr 1; funext y μ; cases x with
  | d x => cases x <;> first | rfl | (cases y with
    | d y => cases y <;> rfl
    | c n => rfl
    | s n => rfl)
  | c n => rfl
  | s n => rfl
theorem g_name (i : Nat) (w : W) (env : En) (μ : MH) : asgT call (.name i) w env μ = some (env.set i (some w), μ) := by simp only [asgT]
theorem g_tup (ts : Tgs) (w : W) (env : En) (μ : MH) : asgT call (.tup ts) w env μ = asgSeq call ts env μ (seqW w μ) := by
  simp only [asgT]; unfold asgSeq; split <;> rename_i h <;> first | rw [h] | rfl
theorem g_sub (o i : E) (w : W) (env : En) (μ : MH) : asgT call (.sub o i) w env μ = bnd (evE call o env μ) (kSub call i w env) := by
  simp only [asgT]; congr 1; funext x μ; unfold kSub; congr 1; funext y μ; unfold kSub2; congr 1; funext z μ; unfold kSub3 setIx
  cases liveC x μ with
  | none =>
    cases y with
    | d y => cases y <;> rfl
    | c n => rfl
    | s n => rfl
  | some p =>
    cases y with
    | d y => cases y <;> rfl
    | c n => rfl
    | s n => rfl
theorem gs_nil (env : En) (μ : MH) : asgTs call .nil [] env μ = some (env, μ) := by simp only [asgTs]
theorem gs_cons (t : Tg) (r : Tgs) (x : D) (xs : List D) (env : En) (μ : MH) : asgTs call (.cons t r) (x :: xs) env μ = bnd (asgT call t (.d x) env μ) (kTs call r xs) := by simp only [asgTs]; rfl
theorem s_asg (t : Tg) (e : E) (env : En) (μ : MH) : evS call (.asg t e) env μ = bnd (evE call e env μ) (kAsg call t env) := by simp only [evS]; rfl
theorem s_par (i j : Nat) (a b : E) (env : En) (μ : MH) : evS call (.par i j a b) env μ = bnd (evE call a env μ) (kPar call i j b env) := by simp only [evS]; rfl
theorem s_aug (i : Nat) (op : Bop) (e : E) (env : En) (μ : MH) : evS call (.aug i op e) env μ = augV call i op e env μ env[i]? := by
  simp only [evS]
  cases hh : env[i]? with
  | none => rfl
  | some o =>
    cases o with
    | none => rfl
    | some x =>
      first
      | rfl
      | (show bnd _ _ = bnd _ _
         congr 1; funext y μ; unfold kAug augO
         first | rfl | (split <;> rename_i h <;> first | rw [h] | rfl))
theorem s_expr (e : E) (env : En) (μ : MH) : evS call (.expr e) env μ = bnd (evE call e env μ) (kExp env) := by simp only [evS]; rfl
theorem s_iff (c : E) (a b : Ss) (env : En) (μ : MH) : evS call (.iff c a b) env μ = bnd (evT call c env μ) (kIf call a b env) := by simp only [evS]; rfl
theorem s_for (t : Tg) (it : It) (b : Ss) (env : En) (μ : MH) : evS call (.forr t it b) env μ = bnd (evIt call it env μ) (kFor call t b env) := by simp only [evS]; rfl
theorem s_while (n : Nat) (c : E) (b : Ss) (env : En) (μ : MH) : evS call (.whil n c b) env μ = whileL (lCnd call (.some c)) (lBody call b) n env μ := by
  have h : lCnd call (.some c) = fun env μ => evT call c env μ := by funext env μ; unfold lCnd; simp only [evC]
  simp only [evS]; rw [h]; rfl
theorem s_ret (e : E) (env : En) (μ : MH) : evS call (.ret e) env μ = bnd (evE call e env μ) kRet := by simp only [evS]; rfl
theorem s_retN (env : En) (μ : MH) : evS call .retN env μ = some (.ret (.d .none) μ) := by simp only [evS]
theorem s_brk (env : En) (μ : MH) : evS call .brk env μ = some (.brk env μ) := by simp only [evS]
theorem s_cont (env : En) (μ : MH) : evS call .cont env μ = some (.cont env μ) := by simp only [evS]
theorem s_pass (env : En) (μ : MH) : evS call .pass env μ = some (.next env μ) := by simp only [evS]
theorem ss_nil (env : En) (μ : MH) : evSs call .nil env μ = some (.next env μ) := by simp only [evSs]
theorem ss_cons (s : S) (r : Ss) (env : En) (μ : MH) : evSs call (.cons s r) env μ = sq call r (evS call s env μ) := by
  simp only [evSs]
  cases evS call s env μ with
  | none => rfl
  | some o => cases o <;> rfl
end
theorem evF_run {T : List FD} {k f : Nat} {ws : List W} {μ : MH} {fd : FD} (hT : T[f]? = some fd) (hl : ws.length = fd.np) :
    evF T (k + 1) f ws μ = leave μ.length (evSs (evF T k) fd.body (initE fd.names.length ws) μ) := by
  rw [evF, hT]
  dsimp only
  rw [if_pos hl]
theorem leave_next (n : Nat) (env : En) (μ : MH) : leave n (some (.next env μ)) = some (.d .none, μ.take n) := (rfl)
theorem leave_d (n : Nat) (x : D) (μ : MH) : leave n (some (.ret (.d x) μ)) = some (.d x, μ.take n) := (rfl)
theorem take_all (μ : MH) : μ.take μ.length = μ := by simp
end MI

-- MiN
/-! running the small evaluator: what each step comes to -/
namespace MI
open PySem PySem.Spec L2

section
variable (call : Nat → List W → MH → Option (W × MH)) {μ : MH}
theorem v_getV (w : W) : getV (some (some w)) μ = some (w, μ) := (rfl)
theorem v_bop2 (l : Bool) (op : Bop) (x y : W) : kBop2 l op x y μ = bopW l op x y μ := (rfl)
theorem v_bop (l : Bool) (op : Bop) (b : E) (env : En) (x : W) : kBop call l op b env x μ = bnd (evE call b env μ) (kBop2 l op x) := (rfl)
theorem v_neg (i : Int) : kNeg (.d (.int i)) μ = some (.d (.int (-i)), μ) := (rfl)
theorem v_not (b : Bool) : kNot (.d (.bool b)) μ = some (.d (.bool (!b)), μ) := (rfl)
theorem v_cmp2 (op : Cop) (x y : W) : kCmp2 op x y μ = bV (cmpW op x y μ) μ := by unfold kCmp2 cmpV bV; all_goals (split <;> rename_i h <;> first | rw [h] | rfl)
theorem v_cmp (op : Cop) (b : E) (env : En) (x : W) : kCmp call op b env x μ = bnd (evE call b env μ) (kCmp2 op x) := (rfl)
theorem v_bT (b : Bool) : bT (some b) μ = some (b, μ) := (rfl)
theorem v_bV (b : Bool) : bV (some b) μ = some (.d (.bool b), μ) := (rfl)
theorem v_chV3 (op2 : Cop) (y z : W) : kChV3 op2 y z μ = bV (cmpW op2 y z μ) μ := (rfl)
theorem v_chV2t (op2 : Cop) (c : E) (env : En) (y : W) : kChV2 call op2 c env y (some true) μ = bnd (evE call c env μ) (kChV3 op2 y) := (rfl)
theorem v_chV2f (op2 : Cop) (c : E) (env : En) (y : W) : kChV2 call op2 c env y (some false) μ = some (.d (.bool false), μ) := (rfl)
theorem v_chV1 (op op2 : Cop) (c : E) (env : En) (x y : W) : kChV1 call op op2 c env x y μ = kChV2 call op2 c env y (cmpW op x y μ) μ := (rfl)
theorem v_chV (op op2 : Cop) (b c : E) (env : En) (x : W) : kChV call op op2 b c env x μ = bnd (evE call b env μ) (kChV1 call op op2 c env x) := (rfl)
theorem v_iteT (a b : E) (env : En) : kIte call a b env true μ = evE call a env μ := (rfl)
theorem v_iteF (a b : E) (env : En) : kIte call a b env false μ = evE call b env μ := (rfl)
theorem v_call (f : Nat) (ws : List W) : kCall call f ws μ = call f ws μ := (rfl)
theorem v_bi (b : Bi) (l : Bool) (ws : List W) : kBi b l ws μ = biW b l ws μ := (rfl)
theorem v_isi (tys : List Ty) (w : W) : kIsi tys w μ = bV (isiW w tys) μ := (rfl)
theorem v_ix2 (x y : W) : kIx2 x y μ = ixW x y μ := (rfl)
theorem v_ix (i : E) (env : En) (x : W) : kIx call i env x μ = bnd (evE call i env μ) (kIx2 x) := (rfl)
theorem v_sl3 (l : Bool) (x : W) (p q : Option Int) : kSl3 l x p q μ = slW l x p q μ := (rfl)
theorem v_sl2 (l : Bool) (hi : Eo) (env : En) (x : W) (p : Option Int) : kSl2 call l hi env x p μ = bnd (evO call hi env μ) (kSl3 l x p) := (rfl)
theorem v_sl (l : Bool) (lo hi : Eo) (env : En) (x : W) : kSl call l lo hi env x μ = bnd (evO call lo env μ) (kSl2 call l hi env x) := (rfl)
theorem v_tup2 (ds : List D) (h : ds.length ≤ sizeLine) : kTup2 ds μ = some (.d (.tuple ds), μ) := if_pos h
theorem v_tup (ws : List W) : kTup ws μ = bnd (toDs ws μ) kTup2 := (rfl)
theorem v_lst (l : Bool) (ws : List W) : kLst l ws μ = bnd (toDs ws μ) (newL l) := (rfl)
theorem v_asgn (t : Tg) (w : W) (env : En) : lAsg call t w env μ = asgT call t w env μ := (rfl)
theorem v_comp (l : Bool) (elt : E) (tg : Tg) (c : Eo) (own : List Nat) (env : En) (src : Option Nat) (xs : List D) : kComp call l elt tg c own env (src, xs) μ = bnd (compL (lAsg call tg) (lCnd call c) (lElt call elt) src xs xs (wipeE env own) μ) (newL l) := (rfl)
theorem v_meth2 (m : Me) (x : W) (ws : List W) : kMeth2 m x ws μ = methW m x ws μ := (rfl)
theorem v_meth (m : Me) (es : Es) (env : En) (x : W) : kMeth call m es env x μ = bnd (evEs call es env μ) (kMeth2 m x) := (rfl)
theorem v_es2 (w : W) (ws : List W) : kEs2 w ws μ = some (w :: ws, μ) := (rfl)
theorem v_es (r : Es) (env : En) (w : W) : kEs call r env w μ = bnd (evEs call r env μ) (kEs2 w) := (rfl)
theorem v_BVt (r : Es) (env : En) : kBV call true r env (.d (.bool true)) μ = evBV call true r env μ := (rfl)
theorem v_BVtf (r : Es) (env : En) : kBV call true r env (.d (.bool false)) μ = some (.d (.bool false), μ) := (rfl)
theorem v_BVf (r : Es) (env : En) : kBV call false r env (.d (.bool false)) μ = evBV call false r env μ := (rfl)
theorem v_BVft (r : Es) (env : En) : kBV call false r env (.d (.bool true)) μ = some (.d (.bool true), μ) := (rfl)
theorem v_BTt (r : Es) (env : En) : kBT call true r env true μ = evBT call true r env μ := (rfl)
theorem v_BTtf (r : Es) (env : En) : kBT call true r env false μ = some (false, μ) := (rfl)
theorem v_BTf (r : Es) (env : En) : kBT call false r env false μ = evBT call false r env μ := (rfl)
theorem v_BTft (r : Es) (env : En) : kBT call false r env true μ = some (true, μ) := (rfl)
theorem v_O (i : Int) : kO (.d (.int i)) μ = some (some i, μ) := (rfl)
theorem v_tru (w : W) : kTru w μ = bT (truW w μ) μ := (rfl)
theorem v_cmpT2 (op : Cop) (x y : W) : kCmpT2 op x y μ = bT (cmpW op x y μ) μ := (rfl)
theorem v_cmpT (op : Cop) (b : E) (env : En) (x : W) : kCmpT call op b env x μ = bnd (evE call b env μ) (kCmpT2 op x) := (rfl)
theorem v_chT3 (op2 : Cop) (y z : W) : kChT3 op2 y z μ = bT (cmpW op2 y z μ) μ := (rfl)
theorem v_chT2t (op2 : Cop) (c : E) (env : En) (y : W) : kChT2 call op2 c env y (some true) μ = bnd (evE call c env μ) (kChT3 op2 y) := (rfl)
theorem v_chT2f (op2 : Cop) (c : E) (env : En) (y : W) : kChT2 call op2 c env y (some false) μ = some (false, μ) := (rfl)
theorem v_chT1 (op op2 : Cop) (c : E) (env : En) (x y : W) : kChT1 call op op2 c env x y μ = kChT2 call op2 c env y (cmpW op x y μ) μ := (rfl)
theorem v_chT (op op2 : Cop) (b c : E) (env : En) (x : W) : kChT call op op2 b c env x μ = bnd (evE call b env μ) (kChT1 call op op2 c env x) := (rfl)
theorem v_notT (b : Bool) : kNotT b μ = some (!b, μ) := (rfl)
theorem v_isiT (tys : List Ty) (w : W) : kIsiT tys w μ = bT (isiW w tys) μ := (rfl)
theorem v_pW (p : Option Nat × List D) : pW (some p) μ = some (p, μ) := (rfl)
theorem v_itV (w : W) : kItV w μ = pW (itW w μ) μ := (rfl)
theorem v_R1 (j : Int) (h : small62 j = true) : kR1 (.d (.int j)) μ = some ((none, rngD 0 j.toNat), μ) := if_pos h
theorem v_R2b (i j : Int) (h1 : small62 i = true) (h2 : small62 j = true) : kR2b (.d (.int i)) (.d (.int j)) μ = some ((none, rngD i (j - i).toNat), μ) := if_pos (by rw [h1, h2]; rfl)
theorem v_R2 (b : E) (env : En) (x : W) : kR2 call b env x μ = bnd (evE call b env μ) (kR2b x) := (rfl)
theorem v_asgSeq (ts : Tgs) (env : En) (t : Bool) (xs : List D) : asgSeq call ts env μ (some (t, xs)) = asgTs call ts xs env μ := (rfl)
def setIx2 (env : En) (n : Nat) (xs : List D) (z : D) (μ : MH) : Option Nat → Option (En × MH)
  | some j => some (env, setC n (xs.set j z) μ)
  | none => none
theorem v_setIx (env : En) (k : Int) (z : D) (n : Nat) (xs : List D) : setIx env (.d (.int k)) z μ (some (n, xs)) = setIx2 env n xs z μ (ixN xs.length k) := by
  unfold setIx setIx2; dsimp only; all_goals (split <;> rename_i h <;> first | rw [h] | rfl)
theorem v_setIx2 (env : En) (n : Nat) (xs : List D) (z : D) (j : Nat) : setIx2 env n xs z μ (some j) = some (env, setC n (xs.set j z) μ) := (rfl)
theorem v_sub3 (env : En) (x y : W) (z : D) : kSub3 env x y z μ = setIx env y z μ (liveC x μ) := (rfl)
theorem v_sub2 (w : W) (env : En) (x y : W) : kSub2 w env x y μ = bnd (toD w μ) (kSub3 env x y) := (rfl)
theorem v_sub (i : E) (w : W) (env : En) (x : W) : kSub call i w env x μ = bnd (evE call i env μ) (kSub2 w env x) := (rfl)
theorem v_Ts (r : Tgs) (xs : List D) (env : En) : kTs call r xs env μ = asgTs call r xs env μ := (rfl)
theorem v_asg2 (env : En) : kAsg2 env μ = some (.next env μ) := (rfl)
theorem v_asg (t : Tg) (env : En) (w : W) : kAsg call t env w μ = bnd (asgT call t w env μ) kAsg2 := (rfl)
theorem v_par2 (i j : Nat) (env : En) (x y : W) : kPar2 i j env x y μ = some (.next ((env.set i (some x)).set j (some y)) μ) := (rfl)
theorem v_par (i j : Nat) (b : E) (env : En) (x : W) : kPar call i j b env x μ = bnd (evE call b env μ) (kPar2 i j env x) := (rfl)
theorem v_augO (i : Nat) (env : En) (z : W) : augO i env μ (some z) = some (.next (env.set i (some z)) μ) := (rfl)
theorem v_aug (i : Nat) (op : Bop) (env : En) (x y : W) : kAug i op env x y μ = augO i env μ (augW op x y) := (rfl)
theorem v_augV (i : Nat) (op : Bop) (e : E) (env : En) (x : W) : augV call i op e env μ (some (some x)) = bnd (evE call e env μ) (kAug i op env x) := (rfl)
theorem v_augA (a b : Int) : augW .add (.d (.int a)) (.d (.int b)) = some (.d (.int (a + b))) := (rfl)
theorem v_augS (a b : Int) : augW .sub (.d (.int a)) (.d (.int b)) = some (.d (.int (a - b))) := (rfl)
theorem v_exp (env : En) (w : W) : kExp env w μ = some (.next env μ) := (rfl)
theorem v_ifT (a b : Ss) (env : En) : kIf call a b env true μ = evSs call a env μ := (rfl)
theorem v_ifF (a b : Ss) (env : En) : kIf call a b env false μ = evSs call b env μ := (rfl)
theorem v_for (t : Tg) (b : Ss) (env : En) (src : Option Nat) (xs : List D) : kFor call t b env (src, xs) μ = forL (lAsg call t) (lBody call b) src xs xs env μ := (rfl)
theorem v_ret (w : W) : kRet w μ = some (.ret w μ) := (rfl)
theorem v_sqN (r : Ss) (env : En) : sq call r (some (.next env μ)) = evSs call r env μ := (rfl)
theorem v_sqR (r : Ss) (w : W) : sq call r (some (.ret w μ)) = some (.ret w μ) := (rfl)
theorem v_sqB (r : Ss) (env : En) : sq call r (some (.brk env μ)) = some (.brk env μ) := (rfl)
theorem v_sqC (r : Ss) (env : En) : sq call r (some (.cont env μ)) = some (.cont env μ) := (rfl)
theorem v_callT (f : Nat) (ws : List W) : kCallT call f ws μ = bnd (call f ws μ) kTru := (rfl)
theorem v_ixT2 (x y : W) : kIxT2 x y μ = bnd (ixW x y μ) kTru := (rfl)
theorem v_ixT (i : E) (env : En) (x : W) : kIxT call i env x μ = bnd (evE call i env μ) (kIxT2 x) := (rfl)

/-! ### values -/
def seqC : Option Cell → Option (Bool × List D)
  | some c => some (false, c.xs)
  | none => none
theorem v_seqL (xs : List D) : seqW (.d (.list xs)) μ = some (false, xs) := (rfl)
theorem v_seqT (xs : List D) : seqW (.d (.tuple xs)) μ = some (true, xs) := (rfl)
theorem v_seqW (n : Nat) : seqW (.c n) μ = seqC μ[n]? := by unfold seqC; simp only [seqW]; all_goals (split <;> rename_i h <;> first | rw [h] | rfl)
theorem v_seqC (c : Cell) : seqC (some c) = some (false, c.xs) := (rfl)
def lvC (n : Nat) : Option Cell → Option (Nat × List D)
  | some c => if c.fz then none else some (n, c.xs)
  | none => none
theorem v_liveW (n : Nat) : liveC (.c n) μ = lvC n μ[n]? := by unfold lvC; simp only [liveC]; all_goals (split <;> rename_i h <;> first | rw [h] | rfl)
theorem v_liveC (n : Nat) (xs : List D) : lvC n (some ⟨false, xs⟩) = some (n, xs) := (rfl)
theorem v_toD (x : D) : toD (.d x) μ = some (x, μ) := (rfl)
def frC (n : Nat) (μ : MH) : Option Cell → Option (D × MH)
  | some c => some (.list c.xs, μ.set n ⟨true, c.xs⟩)
  | none => none
theorem v_toDc (n : Nat) : toD (.c n) μ = frC n μ μ[n]? := by unfold frC; simp only [toD]; all_goals (split <;> rename_i h <;> first | rw [h] | rfl)
theorem v_frC (n : Nat) (c : Cell) : frC n μ (some c) = some (.list c.xs, μ.set n ⟨true, c.xs⟩) := (rfl)
theorem v_toDs0 : toDs [] μ = some ([], μ) := (rfl)
def kDs2 (x : D) (xs : List D) (μ : MH) : Option (List D × MH) := some (x :: xs, μ)
def kDs (ws : List W) (x : D) (μ : MH) : Option (List D × MH) := bnd (toDs ws μ) (kDs2 x)
theorem v_toDs (w : W) (ws : List W) : toDs (w :: ws) μ = bnd (toD w μ) (kDs ws) := (rfl)
theorem v_Ds (ws : List W) (x : D) : kDs ws x μ = bnd (toDs ws μ) (kDs2 x) := (rfl)
theorem v_Ds2 (x : D) (xs : List D) : kDs2 x xs μ = some (x :: xs, μ) := (rfl)
theorem v_newF (xs : List D) (h : xs.length ≤ sizeLine) : newL false xs μ = some (.d (.list xs), μ) := if_pos h
theorem v_newT (xs : List D) (h : xs.length ≤ sizeLine) : newL true xs μ = some (.c μ.length, μ ++ [⟨false, xs⟩]) := if_pos h
theorem v_add (l : Bool) (i j : Int) : bopW l .add (.d (.int i)) (.d (.int j)) μ = some (.d (.int (i + j)), μ) := (rfl)
theorem v_subI (l : Bool) (i j : Int) : bopW l .sub (.d (.int i)) (.d (.int j)) μ = some (.d (.int (i - j)), μ) := (rfl)
theorem v_mul (l : Bool) (i j : Int) (h : mulOk i j = true) : bopW l .mul (.d (.int i)) (.d (.int j)) μ = some (.d (.int (i * j)), μ) := by
  unfold bopW; dsimp only [seqW, bopD]; rw [if_pos h]
theorem v_fdiv (l : Bool) (i j : Int) (h : divOk j = true) : bopW l .fdiv (.d (.int i)) (.d (.int j)) μ = some (.d (.int (i.fdiv j)), μ) := by
  unfold bopW; dsimp only [seqW, bopD]; rw [if_pos h]
theorem v_mod (l : Bool) (i j : Int) (h : j ≠ 0) : bopW l .mod (.d (.int i)) (.d (.int j)) μ = some (.d (.int (i.fmod j)), μ) := by
  unfold bopW; dsimp only [seqW, bopD]; rw [if_pos (decide_eq_true h)]
theorem v_pow (l : Bool) (i j : Int) (h : powOk i j = true) : bopW l .pow (.d (.int i)) (.d (.int j)) μ = some (.d (.int (i ^ j.toNat)), μ) := by
  unfold bopW; dsimp only [seqW, bopD]; rw [if_pos h]
theorem v_shl (l : Bool) (i j : Int) (h : powOk i j = true) : bopW l .shl (.d (.int i)) (.d (.int j)) μ = some (.d (.int (i * 2 ^ j.toNat)), μ) := by
  unfold bopW; dsimp only [seqW, bopD]; rw [if_pos h]
theorem v_catT (l : Bool) (xs ys : List D) (h : xs.length + ys.length ≤ sizeLine) : bopW l .add (.d (.tuple xs)) (.d (.tuple ys)) μ = some (.d (.tuple (xs ++ ys)), μ) := by
  unfold bopW; dsimp only [seqW, bopD]; rw [if_pos h]
theorem v_catLL (l : Bool) (xs ys : List D) : bopW l .add (.d (.list xs)) (.d (.list ys)) μ = newL l (xs ++ ys) μ := (rfl)
theorem v_catW (l : Bool) {x y : W} {xs ys : List D} (h1 : seqW x μ = some (false, xs)) (h2 : seqW y μ = some (false, ys)) : bopW l .add x y μ = newL l (xs ++ ys) μ := by
  unfold bopW; rw [h1, h2]
theorem v_eqI (i j : Int) : cmpW .eq (.d (.int i)) (.d (.int j)) μ = some (decide (i = j)) := by
  simp only [cmpW, peek]
  rw [if_pos (by rfl)]
  simp [PyData.eqv, Bool.beq_eq_decide_eq]
theorem v_neI (i j : Int) : cmpW .ne (.d (.int i)) (.d (.int j)) μ = some (!decide (i = j)) := by
  simp only [cmpW, peek]
  rw [if_pos (by rfl)]
  simp [PyData.eqv, Bool.beq_eq_decide_eq]
theorem v_eqB (i j : Bool) : cmpW .eq (.d (.bool i)) (.d (.bool j)) μ = some (i == j) := by
  simp only [cmpW, peek]
  rw [if_pos (by rfl)]
  simp [PyData.eqv]
theorem v_neB (i j : Bool) : cmpW .ne (.d (.bool i)) (.d (.bool j)) μ = some (!(i == j)) := by
  simp only [cmpW, peek]
  rw [if_pos (by rfl)]
  simp [PyData.eqv]
theorem v_eqD (a b : D) (h1 : shp a = true) (h2 : shp b = true) : cmpW .eq (.d a) (.d b) μ = some (PyData.eqv a b) := by
  simp only [cmpW, peek]
  rw [if_pos (by rw [h1, h2]; rfl)]
theorem v_neD (a b : D) (h1 : shp a = true) (h2 : shp b = true) : cmpW .ne (.d a) (.d b) μ = some (!PyData.eqv a b) := by
  simp only [cmpW, peek]
  rw [if_pos (by rw [h1, h2]; rfl)]
theorem v_lt (i j : Int) : cmpW .lt (.d (.int i)) (.d (.int j)) μ = some (decide (i < j)) := (rfl)
theorem v_le (i j : Int) : cmpW .le (.d (.int i)) (.d (.int j)) μ = some (decide (i ≤ j)) := (rfl)
theorem v_gt (i j : Int) : cmpW .gt (.d (.int i)) (.d (.int j)) μ = some (decide (j < i)) := (rfl)
theorem v_ge (i j : Int) : cmpW .ge (.d (.int i)) (.d (.int j)) μ = some (decide (j ≤ i)) := (rfl)
theorem v_is (w : W) : cmpW .is w (.d .none) μ = some (isNoneW w) := by
  unfold cmpW isNoneW
  cases w with
  | d x => cases x <;> rfl
  | c n => rfl
  | s n => rfl
theorem v_isnot (w : W) : cmpW .isnot w (.d .none) μ = some (!isNoneW w) := by
  unfold cmpW isNoneW
  cases w with
  | d x => cases x <;> rfl
  | c n => rfl
  | s n => rfl
theorem v_inL (a : D) (bs : List D) (h1 : shp a = true) (h2 : shp (.list bs) = true) : cmpW .inn (.d a) (.d (.list bs)) μ = some (bs.any fun z => PyData.eqv z a) := by
  simp only [cmpW, peek]
  rw [if_pos (by rw [h1, h2]; rfl)]
theorem v_ninL (a : D) (bs : List D) (h1 : shp a = true) (h2 : shp (.list bs) = true) : cmpW .nin (.d a) (.d (.list bs)) μ = some (!bs.any fun z => PyData.eqv z a) := by
  simp only [cmpW, peek]
  rw [if_pos (by rw [h1, h2]; rfl)]
theorem v_nonN : isNoneW (.d .none) = true := (rfl)
theorem v_nonI (i : Int) : isNoneW (.d (.int i)) = false := (rfl)
theorem v_nonB (i : Bool) : isNoneW (.d (.bool i)) = false := (rfl)
theorem v_nonT (i : List D) : isNoneW (.d (.tuple i)) = false := (rfl)
theorem v_nonL (i : List D) : isNoneW (.d (.list i)) = false := (rfl)
theorem v_nonC (n : Nat) : isNoneW (.c n) = false := (rfl)
theorem v_truN : truW (.d .none) μ = some false := (rfl)
theorem v_truB (b : Bool) : truW (.d (.bool b)) μ = some b := (rfl)
def ixO (μ : MH) : Option D → Option (W × MH)
  | some z => some (.d z, μ)
  | none => none
theorem v_ixO (z : D) : ixO μ (some z) = some (.d z, μ) := (rfl)
def ixS (k : Int) (μ : MH) : Option (Bool × List D) → Option (W × MH)
  | some (_, xs) => ixO μ (atI xs k)
  | none => none
theorem v_ixS (k : Int) (t : Bool) (xs : List D) : ixS k μ (some (t, xs)) = ixO μ (atI xs k) := (rfl)
theorem v_ixTu (xs : List D) (k : Int) : ixW (.d (.tuple xs)) (.d (.int k)) μ = ixO μ (atI xs k) := by
  unfold ixO; simp only [ixW, seqW]; all_goals (split <;> rename_i h <;> first | rw [h] | rfl)
theorem v_ixL (xs : List D) (k : Int) : ixW (.d (.list xs)) (.d (.int k)) μ = ixO μ (atI xs k) := by
  unfold ixO; simp only [ixW, seqW]; all_goals (split <;> rename_i h <;> first | rw [h] | rfl)
theorem v_ixC (n : Nat) (k : Int) : ixW (.c n) (.d (.int k)) μ = ixS k μ (seqC μ[n]?) := by
  unfold ixS ixO
  rw [← v_seqW]
  simp only [ixW]
  all_goals (cases seqW (.c n) μ with
    | none => rfl
    | some p => dsimp only; cases atI p.2 k <;> rfl)
theorem at_nat {α : Type} (xs : List α) (n : Nat) : atI xs (n : Int) = xs[n]? := by
  unfold atI ixN
  by_cases h : n < xs.length
  · rw [if_pos (by omega), if_pos (by omega)]; simp
  · rw [if_pos (by omega), if_neg (by omega), List.getElem?_eq_none (by omega)]; rfl
theorem v_at0 {α : Type} (xs : List α) : atI xs 0 = xs[0]? := at_nat xs 0
theorem v_at1 {α : Type} (xs : List α) : atI xs 1 = xs[1]? := at_nat xs 1
theorem v_at2 {α : Type} (xs : List α) : atI xs 2 = xs[2]? := at_nat xs 2
theorem v_at3 {α : Type} (xs : List α) : atI xs 3 = xs[3]? := at_nat xs 3
theorem v_at4 {α : Type} (xs : List α) : atI xs 4 = xs[4]? := at_nat xs 4
theorem v_at5 {α : Type} (xs : List α) : atI xs 5 = xs[5]? := at_nat xs 5
theorem v_at6 {α : Type} (xs : List α) : atI xs 6 = xs[6]? := at_nat xs 6
theorem v_at7 {α : Type} (xs : List α) : atI xs 7 = xs[7]? := at_nat xs 7
def lenO (μ : MH) : Option (Bool × List D) → Option (W × MH)
  | some (_, xs) => some (.d (.int xs.length), μ)
  | none => none
theorem v_lenO (t : Bool) (xs : List D) : lenO μ (some (t, xs)) = some (.d (.int xs.length), μ) := (rfl)
theorem v_lenS (l : Bool) (xs : List Int) : biW .len l [.s xs] μ = some (.d (.int xs.length), μ) := (rfl)
theorem v_lenL (l : Bool) (xs : List D) : biW .len l [.d (.list xs)] μ = some (.d (.int xs.length), μ) := (rfl)
theorem v_lenT (l : Bool) (xs : List D) : biW .len l [.d (.tuple xs)] μ = some (.d (.int xs.length), μ) := (rfl)
theorem v_lenC (l : Bool) (n : Nat) : biW .len l [.c n] μ = lenO μ (seqC μ[n]?) := by
  unfold lenO
  rw [← v_seqW]
  simp only [biW]
  all_goals (split <;> rename_i h <;> first | rw [h] | rfl)
theorem v_intI (l : Bool) (i : Int) : biW .int l [.d (.int i)] μ = some (.d (.int i), μ) := (rfl)
theorem v_intB (l : Bool) (b : Bool) : biW .int l [.d (.bool b)] μ = some (.d (.int (if b then 1 else 0)), μ) := (rfl)
theorem v_abs (l : Bool) (i : Int) : biW .abs l [.d (.int i)] μ = some (.d (.int (if i < 0 then -i else i)), μ) := (rfl)
theorem v_max2 (l : Bool) (i j : Int) : biW .max l [.d (.int i), .d (.int j)] μ = some (.d (.int (if j > i then j else i)), μ) := (rfl)
theorem v_min2 (l : Bool) (i j : Int) : biW .min l [.d (.int i), .d (.int j)] μ = some (.d (.int (if j < i then j else i)), μ) := (rfl)
theorem v_gcd (l : Bool) (i j : Int) : biW .gcd l [.d (.int i), .d (.int j)] μ = some (.d (.int ((Nat.gcd i.natAbs j.natAbs : Nat) : Int)), μ) := (rfl)
theorem v_listL (l : Bool) (xs : List D) : biW .list l [.d (.list xs)] μ = newL l xs μ := (rfl)
theorem v_listT (l : Bool) (xs : List D) : biW .list l [.d (.tuple xs)] μ = newL l xs μ := (rfl)
def listO (l : Bool) (μ : MH) : Option (Bool × List D) → Option (W × MH)
  | some (_, xs) => newL l xs μ
  | none => none
theorem v_listO (l : Bool) (t : Bool) (xs : List D) : listO l μ (some (t, xs)) = newL l xs μ := (rfl)
theorem v_listC (l : Bool) (n : Nat) : biW .list l [.c n] μ = listO l μ (seqC μ[n]?) := by
  unfold listO
  rw [← v_seqW]
  simp only [biW]
  all_goals (split <;> rename_i h <;> first | rw [h] | rfl)
theorem v_tupleL (l : Bool) (xs : List D) : biW .tuple l [.d (.list xs)] μ = some (.d (.tuple xs), μ) := (rfl)
theorem v_tupleT (l : Bool) (xs : List D) : biW .tuple l [.d (.tuple xs)] μ = some (.d (.tuple xs), μ) := (rfl)
def tupO (μ : MH) : Option (Bool × List D) → Option (W × MH)
  | some (_, xs) => some (.d (.tuple xs), μ)
  | none => none
theorem v_tupO (t : Bool) (xs : List D) : tupO μ (some (t, xs)) = some (.d (.tuple xs), μ) := (rfl)
theorem v_tupleC (l : Bool) (n : Nat) : biW .tuple l [.c n] μ = tupO μ (seqC μ[n]?) := by
  unfold tupO
  rw [← v_seqW]
  simp only [biW]
  all_goals (split <;> rename_i h <;> first | rw [h] | rfl)
theorem v_slS (l : Bool) (xs : List Int) (lo hi : Option Int) : slW l (.s xs) lo hi μ = newL l ((cutD xs lo hi).map PyData.int) μ := (rfl)
theorem v_slL (l : Bool) (xs : List D) (lo hi : Option Int) : slW l (.d (.list xs)) lo hi μ = newL l (cutD xs lo hi) μ := (rfl)
theorem v_slT (l : Bool) (xs : List D) (lo hi : Option Int) : slW l (.d (.tuple xs)) lo hi μ = some (.d (.tuple (cutD xs lo hi)), μ) := (rfl)
theorem v_itS (xs : List Int) : itW (.s xs) μ = some (none, xs.map PyData.int) := (rfl)
theorem v_itL (xs : List D) : itW (.d (.list xs)) μ = some (none, xs) := (rfl)
theorem v_itT (xs : List D) : itW (.d (.tuple xs)) μ = some (none, xs) := (rfl)
def itC (n : Nat) : Option Cell → Option (Option Nat × List D)
  | some c => some (some n, c.xs)
  | none => none
theorem v_itW (n : Nat) : itW (.c n) μ = itC n μ[n]? := by unfold itC; simp only [itW]; all_goals (split <;> rename_i h <;> first | rw [h] | rfl)
theorem v_itC (n : Nat) (c : Cell) : itC n (some c) = some (some n, c.xs) := (rfl)
def appO (n : Nat) (x : D) (μ : MH) : Option (Nat × List D) → Option (W × MH)
  | some (n, xs) => if xs.length < sizeLine then some (.d .none, setC n (xs ++ [x]) μ) else none
  | none => none
def kApp (o : W) (x : D) (μ : MH) : Option (W × MH) := appO 0 x μ (liveC o μ)
theorem v_append (o w : W) : methW .append o [w] μ = bnd (toD w μ) (kApp o) := by
  simp only [methW]
  first | rfl | (congr 1; funext x μ; unfold kApp appO; all_goals (split <;> rename_i h <;> first | rw [h] | rfl))
theorem v_app (o : W) (x : D) : kApp o x μ = appO 0 x μ (liveC o μ) := (rfl)
theorem v_appO (m n : Nat) (x : D) (xs : List D) (h : xs.length < sizeLine) : appO m x μ (some (n, xs)) = some (.d .none, setC n (xs ++ [x]) μ) := if_pos h
def popO (μ : MH) : Option (Nat × List D) → Option (W × MH)
  | some (n, xs) => match xs[xs.length - 1]? with
    | some x => some (.d x, setC n xs.dropLast μ)
    | none => none
  | none => none
theorem v_pop (o : W) : methW .pop o [] μ = popO μ (liveC o μ) := by
  simp only [methW]; unfold popO; cases liveC o μ <;> rfl
theorem v_popO (n : Nat) (xs : List D) (x : D) : popO μ (some (n, xs ++ [x])) = some (.d x, setC n xs μ) := by
  unfold popO; simp
def popAtO (i : Int) (μ : MH) : Option (Nat × List D) → Option (W × MH)
  | some (n, xs) => match ixN xs.length i with
      | some k => match xs[k]? with
        | some x => if xs.length ≤ sizeLine then some (.d x, setC n (xs.eraseIdx k) μ) else none
        | none => none
      | none => none
  | none => none
theorem v_popAt (o : W) (i : Int) : methW .pop o [.d (.int i)] μ = popAtO i μ (liveC o μ) := by
  simp only [methW]; unfold popAtO; cases liveC o μ <;> rfl
def revO (μ : MH) : Option (Nat × List D) → Option (W × MH)
  | some (n, xs) => some (.d .none, setC n xs.reverse μ)
  | none => none
theorem v_reverse (o : W) : methW .reverse o [] μ = revO μ (liveC o μ) := by
  simp only [methW]; unfold revO; cases liveC o μ <;> rfl
theorem v_revO (n : Nat) (xs : List D) : revO μ (some (n, xs)) = some (.d .none, setC n xs.reverse μ) := (rfl)
theorem v_isiI (i : Int) (tys : List Ty) : isiW (.d (.int i)) tys = some (tys.any fun u => decide (Ty.int = u) || (decide (Ty.int = .bool) && decide (u = .int))) := (rfl)
theorem v_isiB (i : Bool) (tys : List Ty) : isiW (.d (.bool i)) tys = some (tys.any fun u => decide (Ty.bool = u) || (decide (Ty.bool = .bool) && decide (u = .int))) := (rfl)
theorem v_isiL (i : List D) (tys : List Ty) : isiW (.d (.list i)) tys = some (tys.any fun u => decide (Ty.list = u) || (decide (Ty.list = .bool) && decide (u = .int))) := (rfl)
theorem v_isiTu (i : List D) (tys : List Ty) : isiW (.d (.tuple i)) tys = some (tys.any fun u => decide (Ty.tuple = u) || (decide (Ty.tuple = .bool) && decide (u = .int))) := (rfl)
theorem v_isiS (i : Str) (tys : List Ty) : isiW (.d (.str i)) tys = some (tys.any fun u => decide (Ty.str = u) || (decide (Ty.str = .bool) && decide (u = .int))) := (rfl)
theorem v_isiN (tys : List Ty) : isiW (.d .none) tys = some false := (rfl)
theorem v_isiC (n : Nat) (tys : List Ty) : isiW (.c n) tys = some (tys.any fun u => decide (Ty.list = u) || (decide (Ty.list = .bool) && decide (u = .int))) := (rfl)
end

/-! ### loops -/
theorem okNone (all : List D) (μ : MH) : okSrc none all μ = true := (rfl)
theorem forL_nil {asg : W → En → MH → Option (En × MH)} {body : En → MH → Option Out} {all : List D} {env : En} {μ : MH} : forL asg body none all [] env μ = some (.next env μ) := (rfl)
def kFl (asg : W → En → MH → Option (En × MH)) (body : En → MH → Option Out) (all xs : List D) : Option Out → Option Out
  | some (.next e m) => forL asg body none all xs e m
  | some (.cont e m) => forL asg body none all xs e m
  | some (.brk e m) => some (.next e m)
  | some (.ret w m) => some (.ret w m)
  | none => none
def kFb (asg : W → En → MH → Option (En × MH)) (body : En → MH → Option Out) (all xs : List D) (env : En) (μ : MH) : Option Out := kFl asg body all xs (body env μ)
theorem forL_cons {asg : W → En → MH → Option (En × MH)} {body : En → MH → Option Out} {all xs : List D} {x : D} {env : En} {μ : MH} :
    forL asg body none all (x :: xs) env μ = bnd (asg (.d x) env μ) (kFb asg body all xs) := by
  rw [forL, if_pos (okNone all μ)]
  have hh : (fun (e : En) (m : MH) => kFb asg body all xs e m) = kFb asg body all xs := rfl
  first | rfl | (congr 1; funext e m; unfold kFb kFl; cases body e m with
    | none => rfl
    | some o => cases o <;> rfl)
theorem v_Fb (asg : W → En → MH → Option (En × MH)) (body : En → MH → Option Out) (all xs : List D) (env : En) (μ : MH) : kFb asg body all xs env μ = kFl asg body all xs (body env μ) := (rfl)
theorem v_FlN (asg : W → En → MH → Option (En × MH)) (body : En → MH → Option Out) (all xs : List D) (env : En) (μ : MH) : kFl asg body all xs (some (.next env μ)) = forL asg body none all xs env μ := (rfl)
theorem v_FlC (asg : W → En → MH → Option (En × MH)) (body : En → MH → Option Out) (all xs : List D) (env : En) (μ : MH) : kFl asg body all xs (some (.cont env μ)) = forL asg body none all xs env μ := (rfl)
theorem v_FlB (asg : W → En → MH → Option (En × MH)) (body : En → MH → Option Out) (all xs : List D) (env : En) (μ : MH) : kFl asg body all xs (some (.brk env μ)) = some (.next env μ) := (rfl)
theorem v_FlR (asg : W → En → MH → Option (En × MH)) (body : En → MH → Option Out) (all xs : List D) (w : W) (μ : MH) : kFl asg body all xs (some (.ret w μ)) = some (.ret w μ) := (rfl)
theorem lBody_eq (call : Nat → List W → MH → Option (W × MH)) (b : Ss) (env : En) (μ : MH) : lBody call b env μ = evSs call b env μ := (rfl)
theorem lElt_eq (call : Nat → List W → MH → Option (W × MH)) (e : E) (env : En) (μ : MH) : lElt call e env μ = evE call e env μ := (rfl)
theorem lCnd_eq (call : Nat → List W → MH → Option (W × MH)) (e : Eo) (env : En) (μ : MH) : lCnd call e env μ = evC call e env μ := (rfl)
/-- a comprehension over what stays -/
theorem compL_nil' {asg : W → En → MH → Option (En × MH)} {cond : En → MH → Option (Bool × MH)} {elt : En → MH → Option (W × MH)} {all : List D} {env : En} {μ : MH} : compL asg cond elt none all [] env μ = some ([], μ) := (rfl)
def kCl4 (y : D) (ys : List D) (μ : MH) : Option (List D × MH) := some (y :: ys, μ)
def kCl3 (asg : W → En → MH → Option (En × MH)) (cond : En → MH → Option (Bool × MH)) (elt : En → MH → Option (W × MH)) (all xs : List D) (env : En) (y : D) (μ : MH) : Option (List D × MH) := bnd (compL asg cond elt none all xs env μ) (kCl4 y)
def kCl2 (asg : W → En → MH → Option (En × MH)) (cond : En → MH → Option (Bool × MH)) (elt : En → MH → Option (W × MH)) (all xs : List D) (env : En) (w : W) (μ : MH) : Option (List D × MH) := bnd (toD w μ) (kCl3 asg cond elt all xs env)
def kCl1 (asg : W → En → MH → Option (En × MH)) (cond : En → MH → Option (Bool × MH)) (elt : En → MH → Option (W × MH)) (all xs : List D) (env env1 : En) (b : Bool) (μ : MH) : Option (List D × MH) :=
  if b then bnd (elt env1 μ) (kCl2 asg cond elt all xs env) else compL asg cond elt none all xs env μ
def kCl0 (asg : W → En → MH → Option (En × MH)) (cond : En → MH → Option (Bool × MH)) (elt : En → MH → Option (W × MH)) (all xs : List D) (env env1 : En) (μ : MH) : Option (List D × MH) := bnd (cond env1 μ) (kCl1 asg cond elt all xs env env1)
theorem compL_cons {asg : W → En → MH → Option (En × MH)} {cond : En → MH → Option (Bool × MH)} {elt : En → MH → Option (W × MH)} {all xs : List D} {x : D} {env : En} {μ : MH} :
    compL asg cond elt none all (x :: xs) env μ = bnd (asg (.d x) env μ) (kCl0 asg cond elt all xs env) := by
  rw [compL, if_pos (okNone all μ)]; rfl
theorem v_Cl4 (y : D) (ys : List D) (μ : MH) : kCl4 y ys μ = some (y :: ys, μ) := (rfl)
theorem v_Cl3 (asg : W → En → MH → Option (En × MH)) (cond : En → MH → Option (Bool × MH)) (elt : En → MH → Option (W × MH)) (all xs : List D) (env : En) (y : D) (μ : MH) : kCl3 asg cond elt all xs env y μ = bnd (compL asg cond elt none all xs env μ) (kCl4 y) := (rfl)
theorem v_Cl2 (asg : W → En → MH → Option (En × MH)) (cond : En → MH → Option (Bool × MH)) (elt : En → MH → Option (W × MH)) (all xs : List D) (env : En) (w : W) (μ : MH) : kCl2 asg cond elt all xs env w μ = bnd (toD w μ) (kCl3 asg cond elt all xs env) := (rfl)
theorem v_Cl1t (asg : W → En → MH → Option (En × MH)) (cond : En → MH → Option (Bool × MH)) (elt : En → MH → Option (W × MH)) (all xs : List D) (env env1 : En) (μ : MH) : kCl1 asg cond elt all xs env env1 true μ = bnd (elt env1 μ) (kCl2 asg cond elt all xs env) := (rfl)
theorem v_Cl1f (asg : W → En → MH → Option (En × MH)) (cond : En → MH → Option (Bool × MH)) (elt : En → MH → Option (W × MH)) (all xs : List D) (env env1 : En) (μ : MH) : kCl1 asg cond elt all xs env env1 false μ = compL asg cond elt none all xs env μ := (rfl)
theorem v_Cl0 (asg : W → En → MH → Option (En × MH)) (cond : En → MH → Option (Bool × MH)) (elt : En → MH → Option (W × MH)) (all xs : List D) (env env1 : En) (μ : MH) : kCl0 asg cond elt all xs env env1 μ = bnd (cond env1 μ) (kCl1 asg cond elt all xs env env1) := (rfl)
/-- a comprehension without a test whose turns leave the heap -/
theorem compL_map {asg : W → En → MH → Option (En × MH)} {cond : En → MH → Option (Bool × MH)} {elt : En → MH → Option (W × MH)} {all : List D} {env : En} {μ : MH} {f : D → D} : ∀ {xs : List D},
    (∀ x ∈ xs, ∃ env1, asg (.d x) env μ = some (env1, μ) ∧ cond env1 μ = some (true, μ) ∧ elt env1 μ = some (.d (f x), μ)) → compL asg cond elt none all xs env μ = some (xs.map f, μ)
  | [], _ => rfl
  | x :: xs, h => by
    obtain ⟨env1, h1, h2, h3⟩ := h x List.mem_cons_self
    have ih := compL_map (asg := asg) (cond := cond) (elt := elt) (all := all) (env := env) (μ := μ) (f := f) (xs := xs) fun y hy => h y (List.mem_cons_of_mem _ hy)
    rw [compL_cons, h1, bnd_some, v_Cl0, h2, bnd_some, v_Cl1t, h3, bnd_some, v_Cl2, v_toD, bnd_some, v_Cl3, ih, bnd_some, v_Cl4]
    rfl

/-! ### sizes -/
class Sz (x : Int) (n : outParam Nat) : Prop where
  h : x.natAbs < 2 ^ n
theorem Sz.mono {x : Int} {n m : Nat} (s : Sz x n) (h : n ≤ m) : Sz x m := ⟨Nat.lt_of_lt_of_le s.h (Nat.pow_le_pow_right (by decide) h)⟩
instance {x y : Int} {a b : Nat} [s : Sz x a] [t : Sz y b] : Sz (x * y) (a + b) := ⟨by
  rw [Int.natAbs_mul, Nat.pow_add]
  exact Nat.mul_lt_mul'' s.h t.h⟩
theorem two_le_pow {a b : Nat} : 2 ^ a ≤ 2 ^ (max a b) := Nat.pow_le_pow_right (by decide) (Nat.le_max_left a b)
theorem two_le_pow' {a b : Nat} : 2 ^ b ≤ 2 ^ (max a b) := Nat.pow_le_pow_right (by decide) (Nat.le_max_right a b)
instance {x y : Int} {a b : Nat} [s : Sz x a] [t : Sz y b] : Sz (x + y) (max a b + 1) := ⟨by
  have h1 := s.h
  have h2 := t.h
  have h3 := Int.natAbs_add_le x y
  have h4 := two_le_pow (a := a) (b := b)
  have h5 := two_le_pow' (a := a) (b := b)
  rw [Nat.pow_succ]; omega⟩
instance {x y : Int} {a b : Nat} [s : Sz x a] [t : Sz y b] : Sz (x - y) (max a b + 1) := ⟨by
  have h1 := s.h
  have h2 := t.h
  have h3 : (x - y).natAbs ≤ x.natAbs + y.natAbs := by omega
  have h4 := two_le_pow (a := a) (b := b)
  have h5 := two_le_pow' (a := a) (b := b)
  rw [Nat.pow_succ]; omega⟩
instance {x : Int} {a : Nat} [s : Sz x a] : Sz (-x) a := ⟨by rw [Int.natAbs_neg]; exact s.h⟩
theorem log2_lt {n a : Nat} (h : n < 2 ^ a) (h0 : 0 < a) : n.log2 < a := by
  by_cases hn : n = 0
  · subst hn; simpa using h0
  · exact (Nat.log2_lt hn).mpr h
theorem log2_le {n a : Nat} (h : n < 2 ^ a) : n.log2 ≤ a := by
  by_cases hn : n = 0
  · subst hn; simp
  · exact Nat.le_of_lt ((Nat.log2_lt hn).mpr h)
theorem mulOk_sz {x y : Int} {a b : Nat} [s : Sz x a] [t : Sz y b] (h : a + b < 1000000) : mulOk x y = true := by
  unfold mulOk
  have h1 := log2_le s.h
  have h2 := log2_le t.h
  exact decide_eq_true (by omega)
theorem divOk_sz {y : Int} {b : Nat} [t : Sz y b] (h0 : y ≠ 0) (h : b < 9000) : divOk y = true := by
  unfold divOk
  have h2 := log2_le t.h
  rw [decide_eq_true h0, decide_eq_true (show y.natAbs.log2 < 9000 by omega)]
  rfl
end MI
namespace MI
open PySem PySem.Spec L2
theorem szl (n : Nat) (h : n ≤ 16777216) : n ≤ sizeLine := h

end MI

-- MiQ
/-! loops by an invariant; fractions -/
namespace MI
open PySem PySem.Spec L2

def OutH (N B : En → MH → Prop) (R : W → MH → Prop) : Option Out → Prop
  | some (.next e m) => N e m
  | some (.cont e m) => N e m
  | some (.brk e m) => B e m
  | some (.ret w m) => R w m
  | none => False
def noE : En → MH → Prop := fun _ _ => False
def noR : W → MH → Prop := fun _ _ => False
theorem forL_inv {asg : W → En → MH → Option (En × MH)} {body : En → MH → Option Out} {all : List D} (I : Nat → En → MH → Prop) (N : En → MH → Prop) : ∀ (xs : List D) (i : Nat) (env : En) (μ : MH),
    I i env μ → (∀ j x e m, xs[j]? = some x → I (i + j) e m → ∃ e1 m1, asg (.d x) e m = some (e1, m1) ∧ OutH (I (i + j + 1)) N noR (body e1 m1)) →
    (∀ e m, I (i + xs.length) e m → N e m) → ∃ e m, forL asg body none all xs env μ = some (.next e m) ∧ N e m
  | [], i, env, μ, h0, _, h2 => ⟨env, μ, rfl, h2 env μ h0⟩
  | x :: xs, i, env, μ, h0, h1, h2 => by
    obtain ⟨e1, m1, ha, hb⟩ := h1 0 x env μ rfl h0
    rw [forL_cons, ha, bnd_some, v_Fb]
    have step : ∀ e m, I (i + 0 + 1) e m → ∃ e' m', forL asg body none all xs e m = some (.next e' m') ∧ N e' m' := by
      intro e m hI
      refine forL_inv I N xs (i + 1) e m hI ?_ ?_
      · intro j y e m hj hI
        have := h1 (j + 1) y e m (by simpa using hj) (by rw [show i + (j + 1) = i + 1 + j by omega]; exact hI)
        rw [show i + (j + 1) + 1 = i + 1 + j + 1 by omega] at this
        exact this
      · intro e m hI
        exact h2 e m (by rw [List.length_cons, show i + (xs.length + 1) = i + 1 + xs.length by omega]; exact hI)
    cases hc : body e1 m1 with
    | none => rw [hc] at hb; exact hb.elim
    | some o =>
      rw [hc] at hb
      cases o with
      | next e m => rw [v_FlN]; exact step e m hb
      | cont e m => rw [v_FlC]; exact step e m hb
      | brk e m => rw [v_FlB]; exact ⟨e, m, rfl, hb⟩
      | ret w m => exact hb.elim
/-- a comprehension without a test, any heap: each turn tells a datum -/
theorem compL_inv {asg : W → En → MH → Option (En × MH)} {cond : En → MH → Option (Bool × MH)} {elt : En → MH → Option (W × MH)} {all : List D} {env : En} (I : MH → Prop) (P : D → Prop) : ∀ (xs : List D) (μ : MH), I μ →
    (∀ x ∈ xs, ∀ m, I m → ∃ env1 z m2, asg (.d x) env m = some (env1, m) ∧ cond env1 m = some (true, m) ∧ elt env1 m = some (.d z, m2) ∧ I m2 ∧ P z) →
    ∃ zs m, compL asg cond elt none all xs env μ = some (zs, m) ∧ I m ∧ zs.length = xs.length ∧ ∀ z ∈ zs, P z
  | [], μ, h0, _ => ⟨[], μ, rfl, h0, rfl, by simp⟩
  | x :: xs, μ, h0, h => by
    obtain ⟨env1, z, m2, h1, h2, h3, h4, h5⟩ := h x List.mem_cons_self μ h0
    obtain ⟨zs, m, g1, g2, g3, g4⟩ := compL_inv I P (asg := asg) (cond := cond) (elt := elt) (all := all) (env := env) xs m2 h4 fun y hy => h y (List.mem_cons_of_mem _ hy)
    refine ⟨z :: zs, m, ?_, g2, by simp [g3], ?_⟩
    · rw [compL_cons, h1, bnd_some, v_Cl0, h2, bnd_some, v_Cl1t, h3, bnd_some, v_Cl2, v_toD, bnd_some, v_Cl3, g1, bnd_some, v_Cl4]
    · intro y hy
      cases hy with
      | head => exact h5
      | tail _ hy => exact g4 y hy

theorem rngD_get {lo : Int} {n j : Nat} {x : D} (h : (rngD lo n)[j]? = some x) : j < n ∧ x = .int (lo + j) := by
  unfold rngD at h
  rw [List.getElem?_map] at h
  cases hh : (List.range n)[j]? with
  | none => rw [hh] at h; exact absurd h (by simp)
  | some k =>
    rw [hh] at h
    obtain ⟨h1, h2⟩ := List.getElem?_eq_some_iff.mp hh
    rw [List.getElem_range] at h2
    subst h2
    rw [List.length_range] at h1
    exact ⟨h1, (Option.some.inj h).symm⟩
theorem rngD_length (lo : Int) (n : Nat) : (rngD lo n).length = n := by unfold rngD; simp

/-! ### Euclid's steps -/
theorem fmod_nat (a b : Nat) : Int.fmod (a : Int) (b : Int) = ((a % b : Nat) : Int) := by
  rw [Int.fmod_eq_emod_of_nonneg _ (Int.natCast_nonneg b)]; simp
theorem euclid_step {x y m : Nat} (h0 : y ≠ 0) (h1 : y ≤ x) (h : x * y < 2 ^ m) : ∃ n, m = n + 1 ∧ y * (x % y) < 2 ^ n := by
  have hy : 0 < y := Nat.pos_of_ne_zero h0
  have e := Nat.div_add_mod x y
  have l := Nat.mod_lt x hy
  have d : 1 ≤ x / y := (Nat.one_le_div_iff hy).mpr h1
  have h3 : y * 1 ≤ y * (x / y) := Nat.mul_le_mul_left y d
  have h4 : x % y + x % y ≤ x := by omega
  have h5 : y * (x % y + x % y) ≤ y * x := Nat.mul_le_mul_left y h4
  rw [Nat.mul_add, Nat.mul_comm y x] at h5
  cases m with
  | zero =>
    have : 1 * 1 ≤ x * y := Nat.mul_le_mul (by omega) hy
    simp at h; omega
  | succ n => exact ⟨n, rfl, by rw [Nat.pow_succ] at h; omega⟩
/-- how far the steps have come -/
def EgI (g m i : Nat) (x y : Nat) : Prop := Nat.gcd x y = g ∧ ((i = 0 ∧ x * y < 2 ^ m) ∨ (y ≤ x ∧ x * y < 2 ^ (m + 1 - i)))
theorem EgI.step {g m i x y : Nat} (h : EgI g m i x y) (h0 : y ≠ 0) : EgI g m (i + 1) y (x % y) := by
  obtain ⟨h1, h2⟩ := h
  refine ⟨by rw [Nat.gcd_comm, ← Nat.gcd_rec, Nat.gcd_comm]; exact h1, .inr ⟨Nat.le_of_lt (Nat.mod_lt x (Nat.pos_of_ne_zero h0)), ?_⟩⟩
  have key : y ≤ x → x * y < 2 ^ (m + 1 - i) → y * (x % y) < 2 ^ (m + 1 - (i + 1)) := by
    intro a b
    obtain ⟨n, e, l⟩ := euclid_step h0 a b
    rw [show m + 1 - (i + 1) = n by omega]; exact l
  rcases h2 with ⟨rfl, h3⟩ | ⟨h3, h4⟩
  · by_cases hh : y ≤ x
    · exact key hh (Nat.lt_of_lt_of_le h3 (Nat.pow_le_pow_right (by decide) (by omega)))
    · rw [Nat.mod_eq_of_lt (by omega), Nat.mul_comm]; simpa using h3
  · exact key h3 h4
theorem EgI.done {g m x y : Nat} {n : Nat} (h : EgI g m n x y) (hn : m + 1 ≤ n) : x = g := by
  obtain ⟨h1, h2⟩ := h
  rcases h2 with ⟨rfl, _⟩ | ⟨h3, h4⟩
  · omega
  · rw [show m + 1 - n = 0 by omega] at h4
    have : y = 0 := by
      apply Classical.byContradiction
      intro h
      have : 1 * 1 ≤ x * y := Nat.mul_le_mul (by omega) (by omega)
      simp at h4; omega
    subst this; simpa using h1

/-! ### fractions -/
def enc (q : Rat) : D := .tuple [.int q.num, .int (q.den : Int)]
abbrev Pt := Rat × Rat
def pt (p : Pt) : D := .tuple [enc p.1, enc p.2]
class SzQ (q : Rat) (n : outParam Nat) : Prop where
  hn : q.num.natAbs < 2 ^ n
  hd : q.den < 2 ^ n
instance {q : Rat} {n : Nat} [s : SzQ q n] : Sz q.num n := ⟨s.hn⟩
instance {q : Rat} {n : Nat} [s : SzQ q n] : Sz (q.den : Int) n := ⟨s.hd⟩
theorem SzQ.mono {q : Rat} {n m : Nat} (s : SzQ q n) (h : n ≤ m) : SzQ q m := ⟨Nat.lt_of_lt_of_le s.hn (Nat.pow_le_pow_right (by decide) h), Nat.lt_of_lt_of_le s.hd (Nat.pow_le_pow_right (by decide) h)⟩
theorem fdiv_exact {n c t : Int} (h : n = c * t) (hc : c ≠ 0) : n.fdiv c = t := by
  subst h; exact Int.mul_fdiv_cancel_left t hc
theorem gcd_pos' {n d : Int} (h : d ≠ 0) : 0 < Int.gcd n d := Int.gcd_pos_of_ne_zero_right _ h
theorem divInt_parts {n d : Int} (h : d ≠ 0) : (Rat.divInt n d).num = d.sign * (n / (Int.gcd n d : Nat)) ∧ ((Rat.divInt n d).den : Int) = d.sign * (d / (Int.gcd n d : Nat)) := by
  have e1 := Int.gcd_dvd_left n d
  have e2 := Int.gcd_dvd_right n d
  refine ⟨?_, ?_⟩
  · rw [Rat.num_divInt, Int.gcd_comm d n, Int.mul_ediv_assoc _ e1]
  · rw [Rat.den_divInt, if_neg h, Int.gcd_comm d n]
    have : d.sign * d = (d.natAbs : Int) := by
      rcases Int.lt_or_gt_of_ne h with h | h
      · rw [Int.sign_eq_neg_one_of_neg h]; omega
      · rw [Int.sign_eq_one_of_pos h]; omega
    rw [← Int.mul_ediv_assoc _ e2, this]; simp
theorem frac_pos {n d : Int} (h : 0 < d) : n.fdiv (Int.gcd n d : Nat) = (Rat.divInt n d).num ∧ d.fdiv (Int.gcd n d : Nat) = ((Rat.divInt n d).den : Int) := by
  obtain ⟨a, b⟩ := divInt_parts (n := n) (show d ≠ 0 by omega)
  have g : (Int.gcd n d : Int) ≠ 0 := by have := gcd_pos' (n := n) (show d ≠ 0 by omega); omega
  rw [Int.sign_eq_one_of_pos h, Int.one_mul] at a b
  rw [a, b]
  exact ⟨fdiv_exact (Int.mul_ediv_cancel' (Int.gcd_dvd_left n d)).symm g, fdiv_exact (Int.mul_ediv_cancel' (Int.gcd_dvd_right n d)).symm g⟩
theorem frac_neg {n d : Int} (h : d < 0) : n.fdiv (-(Int.gcd n d : Int)) = (Rat.divInt n d).num ∧ d.fdiv (-(Int.gcd n d : Int)) = ((Rat.divInt n d).den : Int) := by
  obtain ⟨a, b⟩ := divInt_parts (n := n) (show d ≠ 0 by omega)
  have g : (Int.gcd n d : Int) ≠ 0 := by have := gcd_pos' (n := n) (show d ≠ 0 by omega); omega
  rw [Int.sign_eq_neg_one_of_neg h] at a b
  rw [a, b]
  have h1 := Int.mul_ediv_cancel' (Int.gcd_dvd_left n d)
  have h2 := Int.mul_ediv_cancel' (Int.gcd_dvd_right n d)
  exact ⟨fdiv_exact (by grind) (by omega), fdiv_exact (by grind) (by omega)⟩
theorem ediv_abs {z g : Int} (h : g ∣ z) (hg : 0 < g) : (z / g).natAbs ≤ z.natAbs := by
  obtain ⟨t, rfl⟩ := h
  rw [Int.mul_ediv_cancel_left _ (by omega), Int.natAbs_mul]
  exact Nat.le_mul_of_pos_left _ (by omega)
theorem divInt_sz {n d : Int} {m : Nat} (hd : d ≠ 0) (h1 : n.natAbs < 2 ^ m) (h2 : d.natAbs < 2 ^ m) : SzQ (Rat.divInt n d) m := by
  obtain ⟨a, b⟩ := divInt_parts (n := n) hd
  have g := gcd_pos' (n := n) hd
  have hs : d.sign.natAbs = 1 := by
    rcases Int.lt_or_gt_of_ne hd with h | h
    · rw [Int.sign_eq_neg_one_of_neg h]; rfl
    · rw [Int.sign_eq_one_of_pos h]; rfl
  constructor
  · rw [a, Int.natAbs_mul, hs, Nat.one_mul]
    exact Nat.lt_of_le_of_lt (ediv_abs (Int.gcd_dvd_left n d) (by omega)) h1
  · have : ((Rat.divInt n d).den : Int).natAbs < 2 ^ m := by
      rw [b, Int.natAbs_mul, hs, Nat.one_mul]
      exact Nat.lt_of_le_of_lt (ediv_abs (Int.gcd_dvd_right n d) (by omega)) h2
    simpa using this
theorem den_ne (q : Rat) : (q.den : Int) ≠ 0 := by have := q.den_pos; omega
theorem den_pos (q : Rat) : 0 < (q.den : Int) := by have := q.den_pos; omega
theorem den2_ne (p q : Rat) : (p.den : Int) * (q.den : Int) ≠ 0 := Int.mul_ne_zero (den_ne p) (den_ne q)
theorem add_frac (p q : Rat) : Rat.divInt (p.num * q.den + q.num * p.den) (p.den * q.den) = p + q := by
  rw [← Rat.divInt_add_divInt _ _ (den_ne p) (den_ne q), Rat.num_divInt_den, Rat.num_divInt_den]
theorem sub_frac (p q : Rat) : Rat.divInt (p.num * q.den - q.num * p.den) (p.den * q.den) = p - q := by
  rw [← Rat.divInt_sub_divInt _ _ (den_ne p) (den_ne q), Rat.num_divInt_den, Rat.num_divInt_den]
theorem mul_frac (p q : Rat) : Rat.divInt (p.num * q.num) (p.den * q.den) = p * q := by
  rw [← Rat.divInt_mul_divInt, Rat.num_divInt_den, Rat.num_divInt_den]
theorem div_frac (p q : Rat) (h : q ≠ 0) : Rat.divInt (p.num * q.den) (p.den * q.num) = p / q := by
  rw [Rat.divInt_eq_div]
  have hq : (q.num : Rat) ≠ 0 := by
    intro h'; apply h
    have : q.num = 0 := by simpa using h'
    exact Rat.num_eq_zero.mp this
  have h1 : ((p.den : Int) : Rat) ≠ 0 := by have := den_ne p; simpa using this
  have h2 : ((q.den : Int) : Rat) ≠ 0 := by have := den_ne q; simpa using this
  have e1 : (p.num : Rat) / ((p.den : Int) : Rat) = p := by rw [← Rat.divInt_eq_div, Rat.num_divInt_den]
  have e2 : (q.num : Rat) / ((q.den : Int) : Rat) = q := by rw [← Rat.divInt_eq_div, Rat.num_divInt_den]
  rw [Rat.intCast_mul, Rat.intCast_mul]
  generalize (p.num : Rat) = a at *
  generalize (q.num : Rat) = b at *
  generalize ((p.den : Int) : Rat) = c at *
  generalize ((q.den : Int) : Rat) = d at *
  subst e1 e2
  grind
instance {p q : Rat} {a b : Nat} [s : SzQ p a] [t : SzQ q b] : SzQ (p + q) (a + b + 1) := by
  rw [← add_frac]
  have h1 : Sz (p.num * q.den + q.num * p.den) (max (a + b) (b + a) + 1) := inferInstance
  have h2 : Sz ((p.den : Int) * q.den) (a + b) := inferInstance
  exact divInt_sz (den2_ne p q) (h1.mono (by omega)).h (h2.mono (by omega)).h
instance {p q : Rat} {a b : Nat} [s : SzQ p a] [t : SzQ q b] : SzQ (p - q) (a + b + 1) := by
  rw [← sub_frac]
  have h1 : Sz (p.num * q.den - q.num * p.den) (max (a + b) (b + a) + 1) := inferInstance
  have h2 : Sz ((p.den : Int) * q.den) (a + b) := inferInstance
  exact divInt_sz (den2_ne p q) (h1.mono (by omega)).h (h2.mono (by omega)).h
instance {p q : Rat} {a b : Nat} [s : SzQ p a] [t : SzQ q b] : SzQ (p * q) (a + b) := by
  rw [← mul_frac]
  have h1 : Sz (p.num * q.num) (a + b) := inferInstance
  have h2 : Sz ((p.den : Int) * q.den) (a + b) := inferInstance
  exact divInt_sz (den2_ne p q) h1.h h2.h
/-- the number over the fraction's line -/
theorem num_eq (q : Rat) : (q.num : Rat) = q * ((q.den : Int) : Rat) := by
  have h : ((q.den : Int) : Rat) ≠ 0 := by have := den_ne q; simpa using this
  have e : (q.num : Rat) / ((q.den : Int) : Rat) = q := by rw [← Rat.divInt_eq_div, Rat.num_divInt_den]
  generalize (q.num : Rat) = a at *
  generalize ((q.den : Int) : Rat) = d at *
  subst e; grind
theorem den_posQ (q : Rat) : (0 : Rat) < ((q.den : Int) : Rat) := Rat.intCast_pos.mpr (den_pos q)
/-- the sign -/
def sg (q : Rat) : Int := if q = 0 then 0 else if 0 < q then 1 else -1
theorem sg_int {n : Int} {q c : Rat} (h : (n : Rat) = q * c) (hc : 0 < c) : n.sign = sg q := by
  unfold sg
  by_cases h0 : q = 0
  · rw [if_pos h0]; subst h0
    have : (n : Rat) = 0 := by rw [h]; grind
    have : n = 0 := by simpa using this
    subst this; rfl
  · rw [if_neg h0]
    by_cases h1 : 0 < q
    · rw [if_pos h1]
      have : (0 : Rat) < n := by rw [h]; exact Rat.mul_pos h1 hc
      exact Int.sign_eq_one_of_pos (Rat.intCast_pos.mp this)
    · rw [if_neg h1]
      have h2 : 0 < -q := by grind
      have : (0 : Rat) < -(n : Rat) := by
        rw [h, ← Rat.neg_mul]; exact Rat.mul_pos h2 hc
      have : n < 0 := by
        have h3 : (0 : Rat) < ((-n : Int) : Rat) := by simpa using this
        have := Rat.intCast_pos.mp h3
        omega
      exact Int.sign_eq_neg_one_of_neg this
theorem enc_inj {p q : Rat} : enc p = enc q ↔ p = q := by
  unfold enc
  constructor
  · intro h
    injection h with h
    injection h with h1 h2
    injection h1 with h1
    injection h2 with h2 h3
    injection h2 with h2
    exact Rat.ext h1 (by omega)
  · intro h; rw [h]
end MI
namespace MI
open PySem PySem.Spec L2
section
variable {μ : MH}
theorem v_encS (q : Rat) : seqW (.d (enc q)) μ = some (true, [.int q.num, .int (q.den : Int)]) := (rfl)
theorem v_ptS (p : Pt) : seqW (.d (pt p)) μ = some (true, [enc p.1, enc p.2]) := (rfl)
theorem v_encI (q : Rat) (k : Int) : ixW (.d (enc q)) (.d (.int k)) μ = ixO μ (atI [.int q.num, .int (q.den : Int)] k) := v_ixTu _ k
theorem v_ptI (p : Pt) (k : Int) : ixW (.d (pt p)) (.d (.int k)) μ = ixO μ (atI [enc p.1, enc p.2] k) := v_ixTu _ k
theorem eqv_enc (p q : Rat) : PyData.eqv (enc p) (enc q) = decide (p = q) := by
  have h1 : PyData.eqv (enc p) (enc q) = decide (p.num = q.num ∧ p.den = q.den) := by
    unfold enc; simp only [PyData.eqv, PyData.eqvAll, Bool.and_true, Bool.decide_and, show ∀ a b : Int, (a == b) = decide (a = b) from fun a b => rfl, Int.natCast_inj]
  rw [h1]
  exact decide_eq_decide.mpr ⟨fun ⟨a, b⟩ => Rat.ext a b, fun h => by rw [h]; exact ⟨rfl, rfl⟩⟩
theorem eqv_pt (p q : Pt) : PyData.eqv (pt p) (pt q) = decide (p = q) := by
  have h1 : PyData.eqv (pt p) (pt q) = (PyData.eqv (enc p.1) (enc q.1) && PyData.eqv (enc p.2) (enc q.2)) := by
    unfold pt; simp [PyData.eqv, PyData.eqvAll]
  rw [h1, eqv_enc, eqv_enc, ← Bool.decide_and]
  exact decide_eq_decide.mpr ⟨fun ⟨a, b⟩ => Prod.ext a b, fun h => by rw [h]; exact ⟨rfl, rfl⟩⟩
theorem v_eqE (p q : Rat) : cmpW .eq (.d (enc p)) (.d (enc q)) μ = some (decide (p = q)) := by
  rw [v_eqD _ _ rfl rfl, eqv_enc]
theorem v_neE (p q : Rat) : cmpW .ne (.d (enc p)) (.d (enc q)) μ = some (!decide (p = q)) := by
  rw [v_neD _ _ rfl rfl, eqv_enc]
theorem v_eqP (p q : Pt) : cmpW .eq (.d (pt p)) (.d (pt q)) μ = some (decide (p = q)) := by
  rw [v_eqD _ _ rfl rfl, eqv_pt]
theorem v_neP (p q : Pt) : cmpW .ne (.d (pt p)) (.d (pt q)) μ = some (!decide (p = q)) := by
  rw [v_neD _ _ rfl rfl, eqv_pt]
theorem v_nonE (p : Rat) : isNoneW (.d (enc p)) = false := (rfl)
theorem v_nonP (p : Pt) : isNoneW (.d (pt p)) = false := (rfl)
theorem v_mulS (l : Bool) {i j : Int} {a b : Nat} [Sz i a] [Sz j b] (h : a + b < 1000000) : bopW l .mul (.d (.int i)) (.d (.int j)) μ = some (.d (.int (i * j)), μ) := v_mul l i j (mulOk_sz h)
theorem v_fdivS (l : Bool) {i j : Int} {b : Nat} [Sz j b] (h0 : j ≠ 0) (h : b < 9000) : bopW l .fdiv (.d (.int i)) (.d (.int j)) μ = some (.d (.int (i.fdiv j)), μ) := v_fdiv l i j (divOk_sz h0 h)
theorem v_setC0 (c : Cell) (xs : List D) : setC 0 xs (c :: μ) = ⟨false, xs⟩ :: μ := (rfl)
end
theorem ztd (p : Rat) : (if p = 0 then (0 : Int) else if 0 < p then 1 else -1) = sg p := rfl
/-- sign of an integer -/
theorem sign_if (n : Int) : Int.sign n = if n = 0 then 0 else if 0 < n then 1 else -1 := by
  rcases Int.lt_trichotomy n 0 with h | h | h
  · rw [Int.sign_eq_neg_one_of_neg h, if_neg (by omega), if_neg (by omega)]
  · subst h; rfl
  · rw [Int.sign_eq_one_of_pos h, if_neg (by omega), if_pos h]
/-- how two fractions stand -/
def cmpQ (p q : Rat) : Int := sg (p - q)
theorem cmpf_sg (p q : Rat) : Int.sign (p.num * q.den - q.num * p.den) = cmpQ p q := by
  unfold cmpQ
  refine sg_int (c := ((p.den : Int) : Rat) * ((q.den : Int) : Rat)) ?_ (Rat.mul_pos (den_posQ p) (den_posQ q))
  rw [Rat.intCast_sub, Rat.intCast_mul, Rat.intCast_mul, num_eq p, num_eq q]
  grind
def cmpP (p q : Pt) : Int := if cmpQ p.1 q.1 ≠ 0 then cmpQ p.1 q.1 else cmpQ p.2 q.2
/-- on which side r lies -/
def det (p q r : Pt) : Rat := (q.1 - p.1) * (r.2 - p.2) - (q.2 - p.2) * (r.1 - p.1)
theorem turn_sg (p q r : Pt) (xp yp wp xq yq wq : Int) (h1 : xp = p.1.num * p.2.den) (h2 : yp = p.2.num * p.1.den) (h3 : wp = p.1.den * p.2.den)
    (h4 : xq = q.1.num * q.2.den) (h5 : yq = q.2.num * q.1.den) (h6 : wq = q.1.den * q.2.den) :
    Int.sign ((yp * wq - wp * yq) * (r.1.num * r.2.den) + (wp * xq - xp * wq) * (r.2.num * r.1.den) + (xp * yq - yp * xq) * (r.1.den * r.2.den)) = sg (det p q r) := by
  subst h1 h2 h3 h4 h5 h6
  refine sg_int (c := (((p.1.den : Int) : Rat) * ((p.2.den : Int) : Rat)) * ((((q.1.den : Int) : Rat) * ((q.2.den : Int) : Rat)) * (((r.1.den : Int) : Rat) * ((r.2.den : Int) : Rat)))) ?_ ?_
  · simp only [Rat.intCast_add, Rat.intCast_sub, Rat.intCast_mul, num_eq p.1, num_eq p.2, num_eq q.1, num_eq q.2, num_eq r.1, num_eq r.2, det]
    grind
  · exact Rat.mul_pos (Rat.mul_pos (den_posQ _) (den_posQ _)) (Rat.mul_pos (Rat.mul_pos (den_posQ _) (den_posQ _)) (Rat.mul_pos (den_posQ _) (den_posQ _)))
end MI

-- MiR
/-! draws; filtered comprehensions; small values -/
namespace MI
open PySem PySem.Spec L2
/-- a live list of integers -/
def DC (xs : List Int) : Cell := ⟨false, xs.map PyData.int⟩
theorem v_DC (n : Nat) (xs : List Int) : lvC n (some (DC xs)) = some (n, xs.map PyData.int) := (rfl)
theorem v_seqDC (xs : List Int) : seqC (some (DC xs)) = some (false, xs.map PyData.int) := (rfl)
theorem v_DCxs (xs : List Int) : (DC xs).xs = xs.map PyData.int := (rfl)
def tk (xs : List Int) (m : Int) : Int := match xs.getLast? with
  | some v => v.fmod m
  | none => 0
theorem tk_pos {xs : List Int} {m : Int} (h : 0 < m) : 0 ≤ tk xs m ∧ tk xs m < m := by
  unfold tk
  cases xs.getLast? with
  | none => exact ⟨Int.le_refl 0, h⟩
  | some v => exact ⟨Int.fmod_nonneg_of_pos v h, Int.fmod_lt_of_pos v h⟩
/-- a comprehension with a test whose turns leave the heap -/
theorem compL_filt {asg : W → En → MH → Option (En × MH)} {cond : En → MH → Option (Bool × MH)} {elt : En → MH → Option (W × MH)} {all : List D} {env : En} {μ : MH} {f : D → Bool} {g : D → D} : ∀ {xs : List D},
    (∀ x ∈ xs, ∃ env1, asg (.d x) env μ = some (env1, μ) ∧ cond env1 μ = some (f x, μ) ∧ (f x = true → elt env1 μ = some (.d (g x), μ))) → compL asg cond elt none all xs env μ = some ((xs.filter f).map g, μ)
  | [], _ => rfl
  | x :: xs, h => by
    obtain ⟨env1, h1, h2, h3⟩ := h x List.mem_cons_self
    have ih := compL_filt (asg := asg) (cond := cond) (elt := elt) (all := all) (env := env) (μ := μ) (f := f) (g := g) (xs := xs) fun y hy => h y (List.mem_cons_of_mem _ hy)
    rw [compL_cons, h1, bnd_some, v_Cl0, h2, bnd_some]
    cases hf : f x with
    | true => rw [v_Cl1t, h3 hf, bnd_some, v_Cl2, v_toD, bnd_some, v_Cl3, ih, bnd_some, v_Cl4, List.filter_cons_of_pos hf]; rfl
    | false => rw [v_Cl1f, ih, List.filter_cons_of_neg (by rw [hf]; decide)]
/-- a point of the grid -/
def dt (p : Int × Int) : D := .tuple [.int p.1, .int p.2]
theorem eqv_dt (p q : Int × Int) : PyData.eqv (dt p) (dt q) = decide (p = q) := by
  have h1 : PyData.eqv (dt p) (dt q) = decide (p.1 = q.1 ∧ p.2 = q.2) := by
    unfold dt; simp only [PyData.eqv, PyData.eqvAll, Bool.and_true, Bool.decide_and, show ∀ a b : Int, (a == b) = decide (a = b) from fun a b => rfl]
  rw [h1]
  exact decide_eq_decide.mpr ⟨fun ⟨a, b⟩ => Prod.ext a b, fun h => by rw [h]; exact ⟨rfl, rfl⟩⟩
section
variable {μ : MH}
theorem v_dtS (p : Int × Int) : seqW (.d (dt p)) μ = some (true, [.int p.1, .int p.2]) := (rfl)
theorem v_dtI (p : Int × Int) (k : Int) : ixW (.d (dt p)) (.d (.int k)) μ = ixO μ (atI [.int p.1, .int p.2] k) := v_ixTu _ k
theorem v_eqDt (p q : Int × Int) : cmpW .eq (.d (dt p)) (.d (dt q)) μ = some (decide (p = q)) := by
  rw [v_eqD _ _ rfl rfl, eqv_dt]
theorem v_neDt (p q : Int × Int) : cmpW .ne (.d (dt p)) (.d (dt q)) μ = some (!decide (p = q)) := by
  rw [v_neD _ _ rfl rfl, eqv_dt]
theorem v_neDt2 (p : Int × Int) (a b : Int) : cmpW .ne (.d (dt p)) (.d (.tuple [.int a, .int b])) μ = some (!decide (p = (a, b))) := v_neDt p (a, b)
theorem v_minDt (l : Bool) (p : Int × Int) : biW .min l [.d (dt p)] μ = some (.d (.int (min p.1 p.2)), μ) := by
  show some (W.d (PyData.int (minL [p.1, p.2])), μ) = _
  rfl
theorem v_maxDt (l : Bool) (p : Int × Int) : biW .max l [.d (dt p)] μ = some (.d (.int (max p.1 p.2)), μ) := by
  show some (W.d (PyData.int (maxL [p.1, p.2])), μ) = _
  rfl
theorem v_catDC (xs : List Int) (x : Int) (n m : Nat) (h : xs.length < 16777216) : appO m (.int x) μ (some (n, xs.map PyData.int)) = some (.d .none, setC n ((xs ++ [x]).map PyData.int) μ) := by
  rw [v_appO _ _ _ _ (by rw [List.length_map, sizeLine_eq]; exact h)]; simp
end
theorem pw_10_9 {μ : MH} (l : Bool) : bopW l .pow (.d (.int 10)) (.d (.int 9)) μ = some (.d (.int 1000000000), μ) := v_pow l 10 9 rfl
theorem pw_10_18 {μ : MH} (l : Bool) : bopW l .pow (.d (.int 10)) (.d (.int 18)) μ = some (.d (.int 1000000000000000000), μ) := v_pow l 10 18 rfl
theorem pw_10_30 {μ : MH} (l : Bool) : bopW l .pow (.d (.int 10)) (.d (.int 30)) μ = some (.d (.int 1000000000000000000000000000000), μ) := v_pow l 10 30 rfl
theorem pw_10_12 {μ : MH} (l : Bool) : bopW l .pow (.d (.int 10)) (.d (.int 12)) μ = some (.d (.int 1000000000000), μ) := v_pow l 10 12 rfl
theorem pw_10_20 {μ : MH} (l : Bool) : bopW l .pow (.d (.int 10)) (.d (.int 20)) μ = some (.d (.int 100000000000000000000), μ) := v_pow l 10 20 rfl
theorem pw_10_6 {μ : MH} (l : Bool) : bopW l .pow (.d (.int 10)) (.d (.int 6)) μ = some (.d (.int 1000000), μ) := v_pow l 10 6 rfl
theorem pw_shl {μ : MH} (l : Bool) : bopW l .shl (.d (.int 1)) (.d (.int 7200)) μ = some (.d (.int (2 ^ 7200)), μ) := by
  rw [v_shl l 1 7200 rfl, Int.one_mul]; rfl
theorem sq_loop {call : Nat → List W → MH → Option (W × MH)} {r : Ss} {o : Option Out} {n : Nat} {rhs : Option (W × MH)} (N : En → MH → Prop) (h : ∃ e m, o = some (.next e m) ∧ N e m)
    (h2 : ∀ e m, N e m → leave n (evSs call r e m) = rhs) : leave n (sq call r o) = rhs := by
  obtain ⟨e, m, rfl, hN⟩ := h
  exact h2 e m hN
/-- it tells -/
def Ev (o : Option (W × MH)) (Q : W → MH → Prop) : Prop := ∃ w m, o = some (w, m) ∧ Q w m
theorem ev_loop {call : Nat → List W → MH → Option (W × MH)} {r : Ss} {o : Option Out} {n : Nat} {Q : W → MH → Prop} (N : En → MH → Prop) (h : ∃ e m, o = some (.next e m) ∧ N e m)
    (h2 : ∀ e m, N e m → Ev (leave n (evSs call r e m)) Q) : Ev (leave n (sq call r o)) Q := by
  obtain ⟨e, m, rfl, hN⟩ := h
  exact h2 e m hN
end MI

-- MiS
/-! equal data; grids and frames -/
namespace MI
open PySem PySem.Spec L2
/-- data that the laws compare: numbers, truths, texts, None and rows of them -/
def okS : Nat → D → Bool
  | _, .int _ => true
  | _, .bool _ => true
  | _, .none => true
  | _, .str x => shp (.str x)
  | n + 1, .tuple xs => decide (xs.length ≤ 16777216) && xs.all (okS n)
  | n + 1, .list xs => decide (xs.length ≤ 16777216) && xs.all (okS n)
  | _, _ => false
theorem any_false {zs : List D} (h : ∀ z ∈ zs, z = .bool true) : (zs.any fun z => PyData.eqv z (.bool false)) = false := by
  induction zs with
  | nil => rfl
  | cons z zs ih =>
    rw [List.any_cons, ih fun y hy => h y (List.mem_cons_of_mem _ hy), h z List.mem_cons_self]; rfl
theorem lay_trues {zs : List D} (h : ∀ z ∈ zs, z = .bool true) : PyData.canLayAll0 zs = true ∧ PyData.depthAll zs ≤ 1 := by
  induction zs with
  | nil => exact ⟨rfl, by decide⟩
  | cons z zs ih =>
    obtain ⟨a, b⟩ := ih fun y hy => h y (List.mem_cons_of_mem _ hy)
    rw [h z List.mem_cons_self]
    refine ⟨by simp only [PyData.canLayAll0, a]; rfl, ?_⟩
    simp only [PyData.depthAll, PyData.depth]
    omega
theorem shp_trues {zs : List D} (h : ∀ z ∈ zs, z = .bool true) : shp (.list zs) = true := by
  obtain ⟨a, b⟩ := lay_trues h
  unfold shp SeqAt.shaped
  rw [show (PyData.list zs).canLay0 = PyData.canLayAll0 zs by simp only [PyData.canLay0], a, Bool.true_and]
  refine decide_eq_true ?_
  simp only [PyData.depth]
  omega
theorem small_nat {n : Nat} (h : n ≤ 16777216) : small62 (n : Int) = true := by
  unfold small62
  rw [decide_eq_true (by omega), decide_eq_true (by omega)]; rfl
theorem rngD_mem {lo : Int} {n : Nat} {x : D} (h : x ∈ rngD lo n) : ∃ j, j < n ∧ x = .int (lo + (j : Nat)) := by
  obtain ⟨i, hi⟩ := List.getElem?_of_mem h
  obtain ⟨a, b⟩ := rngD_get hi
  exact ⟨i, a, b⟩
theorem okS_int (n : Nat) (i : Int) : okS n (.int i) = true := by cases n <;> rfl
theorem okS_none (n : Nat) : okS n .none = true := by cases n <;> rfl
theorem okS_enc (n : Nat) (p : Rat) : okS (n + 1) (enc p) = true := by simp [okS, enc, okS_int]
theorem okS_pt (n : Nat) (p : Pt) : okS (n + 2) (pt p) = true := by simp [okS, pt, okS_enc]
/-- a frame -/
structure Frm where
  a : Int
  b : Int
  c : Int
  d : Int
  e : Int
  f : Int
  w : Int
def Frm.D (r : Frm) : D := .list [.int r.a, .int r.b, .int r.c, .int r.d, .int r.e, .int r.f, .int r.w]
structure Frm.Ok (r : Frm) : Prop where
  a : Sz r.a 106
  b : Sz r.b 106
  c : Sz r.c 106
  d : Sz r.d 106
  e : Sz r.e 106
  f : Sz r.f 106
  w : Sz r.w 106
  w0 : 0 < r.w
  det : r.a * r.e - r.b * r.d ≠ 0
theorem sz_of {i : Int} {n : Nat} (h1 : -(2 ^ n : Nat) < i) (h2 : i < (2 ^ n : Nat)) : Sz i n := ⟨by omega⟩
/-- a grid point brought into the frame -/
def mvd (r : Frm) (p : Int × Int) (by1 : Int) : Pt := (Rat.divInt (r.a * p.1 + r.b * p.2 + r.c * by1) (r.w * by1), Rat.divInt (r.d * p.1 + r.e * p.2 + r.f * by1) (r.w * by1))
section
variable {μ : MH}
theorem v_frmI (r : Frm) (k : Int) : ixW (.d r.D) (.d (.int k)) μ = ixO μ (atI [.int r.a, .int r.b, .int r.c, .int r.d, .int r.e, .int r.f, .int r.w] k) := v_ixL _ k
end
section
variable {μ : MH}
theorem v_setC1 (a c : Cell) (xs : List D) : setC 1 xs (a :: c :: μ) = a :: ⟨false, xs⟩ :: μ := (rfl)
theorem v_setC2 (a b c : Cell) (xs : List D) : setC 2 xs (a :: b :: c :: μ) = a :: b :: ⟨false, xs⟩ :: μ := (rfl)
theorem v_setC3 (a b d c : Cell) (xs : List D) : setC 3 xs (a :: b :: d :: c :: μ) = a :: b :: d :: ⟨false, xs⟩ :: μ := (rfl)
theorem leave_c02 (a b c : Cell) : leave 0 (some (.ret (.c 2) (a :: b :: c :: μ))) = some (.c 0, [c]) := (rfl)
theorem ixN_nat {n p : Nat} (h : p < n) : ixN n (p : Int) = some p := by
  unfold ixN
  rw [if_pos (by omega), if_pos (by omega)]; simp
end
theorem DC_eq (xs : List Int) : (⟨false, xs.map PyData.int⟩ : Cell) = DC xs := (rfl)
theorem sz_fmod (i : Int) (n : Nat) : Sz (i.fmod (2 ^ n)) n := by
  have pp : (0 : Int) < 2 ^ n := Int.pow_pos (by decide)
  have h1 := Int.fmod_nonneg_of_pos i pp
  have h2 := Int.fmod_lt_of_pos i pp
  have h3 : ((2 ^ n : Nat) : Int) = 2 ^ n := by rw [Int.natCast_pow]; rfl
  rw [← h3] at h2 h1 ⊢
  exact ⟨by omega⟩
def mdF (n : Nat) : D → D
  | .int i => .int (i.fmod (2 ^ n))
  | d => d
theorem mdF_map (n : Nat) (xs : List Int) : (xs.map PyData.int).map (mdF n) = (xs.map fun i => i.fmod (2 ^ n)).map PyData.int := by
  rw [List.map_map, List.map_map]; rfl
def sgm (p q : Pt) : Pt × Pt := if cmpP p q < 0 then (p, q) else (q, p)
def sgT (s : Pt × Pt) : D := .tuple [pt s.1, pt s.2]
def bef (p q : Pt) : Bool := decide (p.1 < q.1) || (decide (p.1 = q.1) && decide (p.2 < q.2))
def btw (p q : Pt) : Pt × Pt := if bef p q then (p, q) else (q, p)
def pat (s : Pt × Pt) (t : Rat) : Pt := (s.1.1 + t * (s.2.1 - s.1.1), s.1.2 + t * (s.2.2 - s.1.2))
theorem det_rot (p q r : Pt) : det q r p = det p q r := by unfold det; grind
theorem det_swap (p q r : Pt) : det q p r = -det p q r := by unfold det; grind
theorem sg_neg (q : Rat) : sg (-q) = -sg q := by
  unfold sg
  by_cases h : q = 0
  · subst h; rfl
  · have h' : ¬ -q = 0 := by grind
    rw [if_neg h, if_neg h']
    by_cases h2 : 0 < q
    · rw [if_pos h2, if_neg (by grind)]
    · rw [if_neg h2, if_pos (by grind)]; rfl
theorem sg_lt (q : Rat) : sg q < 0 ↔ q < 0 := by
  unfold sg
  by_cases h : q = 0
  · subst h; decide
  · rw [if_neg h]
    by_cases h2 : 0 < q
    · rw [if_pos h2]; constructor
      · intro h; omega
      · intro h; grind
    · rw [if_neg h2]; constructor
      · intro _; grind
      · intro _; decide
theorem sg_zero (q : Rat) : sg q = 0 ↔ q = 0 := by
  unfold sg
  by_cases h : q = 0
  · subst h; decide
  · rw [if_neg h]
    by_cases h2 : 0 < q
    · rw [if_pos h2]; constructor
      · intro h; omega
      · intro h'; exact absurd h' h
    · rw [if_neg h2]; constructor
      · intro h; omega
      · intro h'; exact absurd h' h
theorem cmpQ_lt (p q : Rat) : cmpQ p q < 0 ↔ p < q := by
  unfold cmpQ; rw [sg_lt]; constructor <;> intro h <;> grind
theorem cmpQ_zero (p q : Rat) : cmpQ p q = 0 ↔ p = q := by
  unfold cmpQ; rw [sg_zero]; constructor <;> intro h <;> grind
theorem bef_iff (p q : Pt) : bef p q = true ↔ (p.1 < q.1 ∨ p.1 = q.1 ∧ p.2 < q.2) := by
  unfold bef; simp
theorem cmpP_bef (p q : Pt) : cmpP p q < 0 ↔ bef p q = true := by
  rw [bef_iff]; unfold cmpP
  by_cases h : cmpQ p.1 q.1 = 0
  · rw [if_neg (by simp [h]), cmpQ_lt]
    have := (cmpQ_zero _ _).mp h
    constructor
    · intro h; exact .inr ⟨this, h⟩
    · rintro (h | h)
      · grind
      · exact h.2
  · rw [if_pos h, cmpQ_lt]
    have h' : ¬ p.1 = q.1 := fun e => h ((cmpQ_zero _ _).mpr e)
    constructor
    · intro h; exact .inl h
    · rintro (h | h)
      · exact h
      · exact absurd h.1 h'
theorem sgm_btw (p q : Pt) : sgm p q = btw p q := by
  unfold sgm btw
  by_cases h : bef p q = true
  · rw [if_pos ((cmpP_bef p q).mpr h), if_pos h]
  · rw [if_neg (fun h' => h ((cmpP_bef p q).mp h')), if_neg h]
theorem bef_total (p q : Pt) (h : bef p q = false) (h' : bef q p = false) : p = q := by
  have a : ¬ _ := fun x => by rw [(bef_iff p q).mpr x] at h; exact absurd h (by decide)
  have b : ¬ _ := fun x => by rw [(bef_iff q p).mpr x] at h'; exact absurd h' (by decide)
  refine Prod.ext ?_ ?_ <;> grind
theorem bef_asymm (p q : Pt) (h : bef p q = true) : bef q p = false := by
  rw [bef_iff] at h
  cases hb : bef q p with
  | false => rfl
  | true => rw [bef_iff] at hb; grind
theorem sgm_swap (p q : Pt) : sgm q p = btw p q := by
  rw [sgm_btw]; unfold btw
  cases h : bef p q with
  | true => rw [bef_asymm p q h]; rfl
  | false =>
    cases h' : bef q p with
    | true => rfl
    | false => rw [bef_total p q h h']
theorem det_same1 (p r : Pt) : det p p r = 0 := by unfold det; grind
theorem det_same2 (p q : Pt) : det p q q = 0 := by unfold det; grind
theorem det_same3 (p q : Pt) : det q p q = 0 := by unfold det; grind
theorem sg_0 : sg 0 = 0 := rfl
theorem area_sg (p q r : Pt) : Int.sign ((q.1.num * p.1.den - p.1.num * q.1.den) * (r.2.num * p.2.den - p.2.num * r.2.den) * (p.2.den * q.2.den * (p.1.den * r.1.den)) - (q.2.num * p.2.den - p.2.num * q.2.den) * (r.1.num * p.1.den - p.1.num * r.1.den) * (p.1.den * q.1.den * (p.2.den * r.2.den))) = sg (det p q r) := by
  refine sg_int (c := (((p.1.den : Int) : Rat) * ((p.2.den : Int) : Rat)) * (((p.1.den : Int) : Rat) * ((p.2.den : Int) : Rat)) * ((((q.1.den : Int) : Rat) * ((q.2.den : Int) : Rat)) * (((r.1.den : Int) : Rat) * ((r.2.den : Int) : Rat)))) ?_ ?_
  · simp only [Rat.intCast_add, Rat.intCast_sub, Rat.intCast_mul, num_eq p.1, num_eq p.2, num_eq q.1, num_eq q.2, num_eq r.1, num_eq r.2, det]
    grind
  · exact Rat.mul_pos (Rat.mul_pos (Rat.mul_pos (den_posQ _) (den_posQ _)) (Rat.mul_pos (den_posQ _) (den_posQ _))) (Rat.mul_pos (Rat.mul_pos (den_posQ _) (den_posQ _)) (Rat.mul_pos (den_posQ _) (den_posQ _)))
theorem mvd_sz {r : Frm} (hr : r.Ok) {p : Int × Int} {b : Int} (hb : 0 < b) [Sz p.1 40] [Sz p.2 40] [Sz b 40] : SzQ (mvd r p b).1 150 ∧ SzQ (mvd r p b).2 150 := by
  obtain ⟨sa, sb, sc, sd, se, sf, sw, w0, -⟩ := hr
  have wb : r.w * b ≠ 0 := Int.mul_ne_zero (by omega) (by omega)
  have s1 : Sz (r.a * p.1 + r.b * p.2 + r.c * b) 150 := Sz.mono inferInstance (by decide)
  have s2 : Sz (r.d * p.1 + r.e * p.2 + r.f * b) 150 := Sz.mono inferInstance (by decide)
  have s3 : Sz (r.w * b) 150 := Sz.mono inferInstance (by decide)
  exact ⟨divInt_sz wb s1.h s3.h, divInt_sz wb s2.h s3.h⟩
end MI

-- MiU
/-! segments and places on them -/
namespace MI
open PySem PySem.Spec L2
section
variable {μ : MH}
theorem v_sgS (s : Pt × Pt) : seqW (.d (sgT s)) μ = some (true, [pt s.1, pt s.2]) := (rfl)
theorem v_sgI (s : Pt × Pt) (k : Int) : ixW (.d (sgT s)) (.d (.int k)) μ = ixO μ (atI [pt s.1, pt s.2] k) := v_ixTu _ k
theorem v_lenW {w : W} {t : Bool} {xs : List D} (l : Bool) (h : seqW w μ = some (t, xs)) : biW .len l [w] μ = some (.d (.int xs.length), μ) := by
  cases w with
  | d x => cases x <;> first | (simp only [seqW, Option.some.injEq, Prod.mk.injEq] at h; obtain ⟨-, rfl⟩ := h; rfl) | (simp [seqW] at h)
  | c n => rw [v_lenC, ← v_seqW, h]; rfl
  | s ns => simp [seqW] at h
theorem v_ixW {w : W} {t : Bool} {xs : List D} (h : seqW w μ = some (t, xs)) (k : Int) : ixW w (.d (.int k)) μ = ixO μ (atI xs k) := by
  cases w with
  | d x => cases x <;> first | (simp only [seqW, Option.some.injEq, Prod.mk.injEq] at h; obtain ⟨-, rfl⟩ := h; first | exact v_ixTu _ _ | exact v_ixL _ _) | (simp [seqW] at h)
  | c n => rw [v_ixC, ← v_seqW, h]; rfl
  | s ns => simp [seqW] at h
end
theorem cmpP_gt (p q : Pt) : 0 < cmpP p q ↔ bef q p = true := by
  rw [← cmpP_bef]
  have e : cmpP q p = - cmpP p q := by
    unfold cmpP
    have a : ∀ x y, cmpQ y x = - cmpQ x y := fun x y => by
      unfold cmpQ
      rw [show y - x = -(x - y) by grind, sg_neg]
    rw [a p.1 q.1, a p.2 q.2]
    by_cases h : cmpQ p.1 q.1 = 0
    · rw [if_neg (by omega), if_neg (by omega)]
    · rw [if_pos (by omega), if_pos (by omega)]
  omega
/-- is the point on the segment -/
def onB (s : Pt × Pt) (p : Pt) : Bool := (!(bef p s.1 || bef s.2 p)) && decide (det s.1 s.2 p = 0)
theorem det_pat (s : Pt × Pt) (t : Rat) : det s.1 s.2 (pat s t) = 0 := by unfold det pat; grind
theorem lt_mul {a b : Rat} (ha : 0 < a) (hb : 0 < b) : 0 < a * b := Rat.mul_pos ha hb
theorem le_mul {a b : Rat} (ha : 0 ≤ a) (hb : 0 ≤ b) : 0 ≤ a * b := Rat.mul_nonneg ha hb
theorem pat_in {s : Pt × Pt} {t : Rat} (hs : bef s.1 s.2 = true) (h0 : 0 ≤ t) (h1 : t ≤ 1) : bef (pat s t) s.1 = false ∧ bef s.2 (pat s t) = false := by
  rw [bef_iff] at hs
  have e0 : (0 : Rat) ≤ 1 - t := by grind
  refine ⟨?_, ?_⟩
  · cases hb : bef (pat s t) s.1 with
    | false => rfl
    | true =>
      rw [bef_iff] at hb
      unfold pat at hb
      dsimp only at hb
      rcases hs with hs | ⟨hs, hs2⟩
      · have q := le_mul h0 (show (0 : Rat) ≤ s.2.1 - s.1.1 by grind)
        rcases hb with hb | ⟨hb, hb2⟩
        · grind
        · have : t = 0 := by
            have z : t * (s.2.1 - s.1.1) = 0 := by grind
            rcases Rat.mul_eq_zero.mp z with z | z
            · exact z
            · grind
          subst this; grind
      · have q := le_mul h0 (show (0 : Rat) ≤ s.2.2 - s.1.2 by grind)
        rw [hs] at hb
        rcases hb with hb | ⟨hb, hb2⟩
        · have z : t * (s.2.1 - s.2.1) = 0 := by grind
          grind
        · grind
  · cases hb : bef s.2 (pat s t) with
    | false => rfl
    | true =>
      rw [bef_iff] at hb
      unfold pat at hb
      dsimp only at hb
      rcases hs with hs | ⟨hs, hs2⟩
      · have q := le_mul e0 (show (0 : Rat) ≤ s.2.1 - s.1.1 by grind)
        rcases hb with hb | ⟨hb, hb2⟩
        · grind
        · have : 1 - t = 0 := by
            have z : (1 - t) * (s.2.1 - s.1.1) = 0 := by grind
            rcases Rat.mul_eq_zero.mp z with z | z
            · exact z
            · grind
          have : t = 1 := by grind
          subst this; grind
      · have q := le_mul e0 (show (0 : Rat) ≤ s.2.2 - s.1.2 by grind)
        rw [hs] at hb
        rcases hb with hb | ⟨hb, hb2⟩
        · have z : t * (s.2.1 - s.2.1) = 0 := by grind
          grind
        · grind
theorem pat_ahead {s : Pt × Pt} {t : Rat} (hs : bef s.1 s.2 = true) (h0 : t < 0) : bef (pat s t) s.1 = true := by
  rw [bef_iff] at hs ⊢
  unfold pat
  dsimp only
  rcases hs with hs | ⟨hs, hs2⟩
  · have q := lt_mul (show (0 : Rat) < -t by grind) (show (0 : Rat) < s.2.1 - s.1.1 by grind)
    left; grind
  · have q := lt_mul (show (0 : Rat) < -t by grind) (show (0 : Rat) < s.2.2 - s.1.2 by grind)
    right; rw [hs]
    exact ⟨by grind, by grind⟩
theorem pat_behind {s : Pt × Pt} {t : Rat} (hs : bef s.1 s.2 = true) (h0 : 1 < t) : bef s.2 (pat s t) = true := by
  rw [bef_iff] at hs ⊢
  unfold pat
  dsimp only
  rcases hs with hs | ⟨hs, hs2⟩
  · have q := lt_mul (show (0 : Rat) < t - 1 by grind) (show (0 : Rat) < s.2.1 - s.1.1 by grind)
    left; grind
  · have q := lt_mul (show (0 : Rat) < t - 1 by grind) (show (0 : Rat) < s.2.2 - s.1.2 by grind)
    right; rw [hs]
    exact ⟨by grind, by grind⟩
theorem on_pat {s : Pt × Pt} {t : Rat} (hs : bef s.1 s.2 = true) (h0 : 0 ≤ t) (h1 : t ≤ 1) : onB s (pat s t) = true := by
  obtain ⟨a, b⟩ := pat_in hs h0 h1
  unfold onB
  rw [a, b, det_pat]; rfl
theorem off_pat {s : Pt × Pt} {t : Rat} (hs : bef s.1 s.2 = true) (h : t < 0 ∨ 1 < t) : onB s (pat s t) = false := by
  unfold onB
  rcases h with h | h
  · rw [pat_ahead hs h]; rfl
  · rw [pat_behind hs h]; simp
theorem off_side {s : Pt × Pt} {t e : Rat} (hv : s.1.1 ≠ s.2.1) (he : e ≠ 0) : onB s ((pat s t).1, (pat s t).2 + e) = false := by
  unfold onB
  have : ¬ det s.1 s.2 ((pat s t).1, (pat s t).2 + e) = 0 := by
    intro h
    have z : (s.2.1 - s.1.1) * e = 0 := by unfold det pat at h; dsimp only at h; grind
    rcases Rat.mul_eq_zero.mp z with z | z
    · grind
    · exact he z
  rw [decide_eq_false this, Bool.and_false]
/-- the place of a point of the segment's line -/
def plc (s : Pt × Pt) (p : Pt) : Rat := if s.1.1 = s.2.1 then (p.2 - s.1.2) / (s.2.2 - s.1.2) else (p.1 - s.1.1) / (s.2.1 - s.1.1)
theorem plc_pat {s : Pt × Pt} {t : Rat} (hs : bef s.1 s.2 = true) : plc s (pat s t) = t := by
  rw [bef_iff] at hs
  unfold plc pat
  dsimp only
  by_cases h : s.1.1 = s.2.1
  · rw [if_pos h]
    have : s.2.2 - s.1.2 ≠ 0 := by rcases hs with hs | hs <;> grind
    grind
  · rw [if_neg h]
    have : s.2.1 - s.1.1 ≠ 0 := by grind
    grind
/-- the height over a first number -/
def hgt (s : Pt × Pt) (x : Rat) : Rat := s.1.2 + (x - s.1.1) * (s.2.2 - s.1.2) / (s.2.1 - s.1.1)
theorem hgt_pat {s : Pt × Pt} {t : Rat} (h : s.1.1 ≠ s.2.1) : hgt s (pat s t).1 = (pat s t).2 := by
  unfold hgt pat
  dsimp only
  have : s.2.1 - s.1.1 ≠ 0 := by grind
  grind
def rchB (s : Pt × Pt) (x : Rat) : Bool := (!decide (s.1.1 = s.2.1)) && (decide (s.1.1 ≤ x) && decide (x ≤ s.2.1))
theorem cmpQ_le (p q : Rat) : cmpQ p q ≤ 0 ↔ p ≤ q := by
  have := cmpQ_lt p q
  have h2 := cmpQ_zero p q
  constructor
  · intro h
    by_cases h3 : cmpQ p q = 0
    · have := h2.mp h3; grind
    · have := this.mp (by omega); grind
  · intro h
    by_cases h3 : p = q
    · have := h2.mpr h3; omega
    · have := this.mpr (by grind); omega
theorem rch_pat {s : Pt × Pt} {t : Rat} (hs : bef s.1 s.2 = true) (h0 : 0 ≤ t) (h1 : t ≤ 1) : rchB s (pat s t).1 = !decide (s.1.1 = s.2.1) := by
  rw [bef_iff] at hs
  unfold rchB
  by_cases h : s.1.1 = s.2.1
  · rw [decide_eq_true h]; rfl
  · have hl : s.1.1 < s.2.1 := by rcases hs with hs | hs; exact hs; exact absurd hs.1 h
    have q := le_mul h0 (show (0 : Rat) ≤ s.2.1 - s.1.1 by grind)
    have q2 := le_mul (show (0 : Rat) ≤ 1 - t by grind) (show (0 : Rat) ≤ s.2.1 - s.1.1 by grind)
    rw [decide_eq_false h, decide_eq_true (by unfold pat; dsimp only; grind), decide_eq_true (by unfold pat; dsimp only; grind)]; rfl
theorem rch_off {s : Pt × Pt} {t : Rat} (hs : bef s.1 s.2 = true) (h : t < 0 ∨ 1 < t) : rchB s (pat s t).1 = false := by
  rw [bef_iff] at hs
  unfold rchB
  by_cases hv : s.1.1 = s.2.1
  · rw [decide_eq_true hv]; rfl
  · have hl : s.1.1 < s.2.1 := by rcases hs with hs | hs; exact hs; exact absurd hs.1 hv
    rcases h with h | h
    · have q := lt_mul (show (0 : Rat) < -t by grind) (show (0 : Rat) < s.2.1 - s.1.1 by grind)
      rw [decide_eq_false (p := s.1.1 ≤ (pat s t).1) (by unfold pat; dsimp only; grind)]; simp
    · have q := lt_mul (show (0 : Rat) < t - 1 by grind) (show (0 : Rat) < s.2.1 - s.1.1 by grind)
      rw [decide_eq_false (p := (pat s t).1 ≤ s.2.1) (by unfold pat; dsimp only; grind)]; simp
/-! ### ways -/
def Ss.pre : Nat → Ss → Ss → Ss
  | 0, _, R => R
  | n + 1, .cons s r, R => .cons s (Ss.pre n r R)
  | _ + 1, .nil, R => R
def Ss.dropN : Nat → Ss → Ss
  | 0, b => b
  | n + 1, .cons _ r => Ss.dropN n r
  | _ + 1, .nil => .nil
abbrev Wy := (Int × Int) × (Int × Int)
def wy (w : Wy) : D := .tuple [dt w.1, dt w.2]
def OkD (p : Int × Int) : Prop := 0 ≤ p.1 ∧ p.1 < 7 ∧ 0 ≤ p.2 ∧ p.2 < 7
def OkW (w : Wy) : Prop := OkD w.1 ∧ OkD w.2 ∧ w.1 ≠ w.2
theorem compL_keep {asg : W → En → MH → Option (En × MH)} {cond : En → MH → Option (Bool × MH)} {elt : En → MH → Option (W × MH)} {all : List D} {env : En} {μ : MH} (P : D → Prop) : ∀ {xs : List D},
    (∀ x ∈ xs, ∃ env1 c, asg (.d x) env μ = some (env1, μ) ∧ cond env1 μ = some (c, μ) ∧ (c = true → ∃ z, elt env1 μ = some (.d z, μ) ∧ P z)) →
    ∃ zs, compL asg cond elt none all xs env μ = some (zs, μ) ∧ zs.length ≤ xs.length ∧ ∀ z ∈ zs, P z
  | [], _ => ⟨[], rfl, Nat.le_refl _, by simp⟩
  | x :: xs, h => by
    obtain ⟨env1, c, h1, h2, h3⟩ := h x List.mem_cons_self
    obtain ⟨zs, g1, g2, g3⟩ := compL_keep (asg := asg) (cond := cond) (elt := elt) (all := all) (env := env) (μ := μ) P (xs := xs) fun y hy => h y (List.mem_cons_of_mem _ hy)
    rw [compL_cons, h1, bnd_some, v_Cl0, h2, bnd_some]
    cases c with
    | true =>
      obtain ⟨z, e, hz⟩ := h3 rfl
      refine ⟨z :: zs, ?_, by simp; exact g2, ?_⟩
      · rw [v_Cl1t, e, bnd_some, v_Cl2, v_toD, bnd_some, v_Cl3, g1, bnd_some, v_Cl4]
      · intro y hy
        cases hy with
        | head => exact hz
        | tail _ hy => exact g3 y hy
    | false =>
      exact ⟨zs, by rw [v_Cl1f, g1], Nat.le_trans g2 (by simp), g3⟩
theorem any_dt (d a b : Int × Int) : ([dt a, dt b].any fun z => PyData.eqv z (dt d)) = (decide (a = d) || decide (b = d)) := by
  simp only [List.any_cons, List.any_nil, eqv_dt, Bool.or_false]
end MI

-- MiV
/-! lists of one's own at far places; comprehensions over them -/
namespace MI
open PySem PySem.Spec L2
section
variable {μ : MH}
theorem v_listW {w : W} {t : Bool} {xs : List D} (l : Bool) (h : seqW w μ = some (t, xs)) : biW .list l [w] μ = newL l xs μ := by
  cases w with
  | d x => cases x <;> first | (simp only [seqW, Option.some.injEq, Prod.mk.injEq] at h; obtain ⟨-, rfl⟩ := h; rfl) | (simp [seqW] at h)
  | c n => rw [v_listC, ← v_seqW, h]; rfl
  | s ns => simp [seqW] at h
theorem v_popAtO {xs : List D} {p : Nat} (hp : p < xs.length) (hl : xs.length ≤ 16777216) (n : Nat) : popAtO (p : Int) μ (some (n, xs)) = some (.d xs[p], setC n (xs.eraseIdx p) μ) := by
  unfold popAtO
  dsimp only
  rw [ixN_nat hp]
  dsimp only
  rw [List.getElem?_eq_getElem hp]
  exact if_pos hl
theorem v_setCS (n : Nat) (c : Cell) (xs : List D) : setC (n + 1) xs (c :: μ) = c :: setC n xs μ := (rfl)
theorem get_setC {n : Nat} (xs : List D) (h : n < μ.length) : (setC n xs μ)[n]? = some ⟨false, xs⟩ := by
  unfold setC; rw [List.getElem?_set_self h]
theorem len_setC (n : Nat) (xs : List D) : (setC n xs μ).length = μ.length := by unfold setC; simp
end
theorem far0 (ν : MH) (a b c : Cell) : (c :: (ν ++ [a, b]))[ν.length + 1]? = some a := by simp
theorem far1 (ν : MH) (a b c : Cell) : (c :: (ν ++ [a, b]))[ν.length + 2]? = some b := by
  rw [List.getElem?_cons_succ, List.getElem?_append_right (by omega)]
  simp
theorem far0r (ν : MH) (a b : Cell) : (ν ++ [a, b])[ν.length]? = some a := by simp
theorem far1r (ν : MH) (a b : Cell) : (ν ++ [a, b])[ν.length + 1]? = some b := by rw [List.getElem?_append_right (by omega)]; simp
theorem farS0 (ν : MH) (a b c : Cell) (xs : List D) : setC (ν.length + 1) xs (c :: (ν ++ [a, b])) = c :: (ν ++ [⟨false, xs⟩, b]) := by
  rw [v_setCS]; unfold setC
  rw [List.set_append_right _ _ (Nat.le_refl _), Nat.sub_self]; rfl
theorem farS1 (ν : MH) (a b c : Cell) (xs : List D) : setC (ν.length + 2) xs (c :: (ν ++ [a, b])) = c :: (ν ++ [a, ⟨false, xs⟩]) := by
  rw [show ν.length + 2 = (ν.length + 1) + 1 from rfl, v_setCS]; unfold setC
  rw [List.set_append_right _ _ (by omega), show ν.length + 1 - ν.length = 1 by omega]; rfl
theorem far_leave (ν : MH) (a b c : Cell) : leave (ν.length + 1) (some (.ret (.c (ν.length + 2)) (c :: (ν ++ [a, b])))) = some (.c (ν.length + 1), c :: (ν ++ [b])) := by
  simp only [leave]
  rw [if_neg (by omega), far1]
  simp
theorem far_leave1 (ν : MH) (b c : Cell) : leave 1 (some (.ret (.c (ν.length + 1)) (c :: (ν ++ [b])))) = some (.c 1, [c, b]) := by
  simp only [leave]
  rw [if_neg (by omega)]
  simp
theorem eqDs_self {xs : List D} (h : ∀ x ∈ xs, eqD x x = true) : eqDs xs xs = true := by
  induction xs with
  | nil => rfl
  | cons x xs ih => simp only [eqDs, h x List.mem_cons_self, ih fun y hy => h y (List.mem_cons_of_mem _ hy)]; rfl
theorem eqD_wy (w : Wy) : eqD (wy w) (wy w) = true := by simp [wy, dt, eqD, eqDs]
theorem okSrc_at {n : Nat} {c : Cell} {μ : MH} (h : μ[n]? = some c) (he : ∀ x ∈ c.xs, eqD x x = true) : okSrc (some n) c.xs μ = true := by
  unfold okSrc; dsimp only; rw [h]; exact eqDs_self he
/-- a comprehension without a test over a list of one's own, which stays -/
theorem compL_P {asg : W → En → MH → Option (En × MH)} {cond : En → MH → Option (Bool × MH)} {elt : En → MH → Option (W × MH)} {src : Option Nat} {all : List D} {env : En} {μ : MH} (P : D → Prop) (ho : okSrc src all μ = true) : ∀ {xs : List D},
    (∀ x ∈ xs, ∃ env1 z, asg (.d x) env μ = some (env1, μ) ∧ cond env1 μ = some (true, μ) ∧ elt env1 μ = some (.d z, μ) ∧ P z) →
    ∃ zs, compL asg cond elt src all xs env μ = some (zs, μ) ∧ zs.length = xs.length ∧ ∀ z ∈ zs, P z
  | [], _ => ⟨[], by rw [compL, if_pos ho], rfl, by simp⟩
  | x :: xs, h => by
    obtain ⟨env1, z, h1, h2, h3, h4⟩ := h x List.mem_cons_self
    obtain ⟨zs, g1, g2, g3⟩ := compL_P (asg := asg) (cond := cond) (elt := elt) (src := src) (all := all) (env := env) (μ := μ) P ho (xs := xs) fun y hy => h y (List.mem_cons_of_mem _ hy)
    refine ⟨z :: zs, ?_, by simp [g2], ?_⟩
    · rw [compL, if_pos ho, h1, bnd_some, h2, bnd_some]
      simp only [if_true]
      rw [h3, bnd_some, v_toD, bnd_some, g1, bnd_some]
    · intro y hy
      cases hy with
      | head => exact h4
      | tail _ hy => exact g3 y hy
theorem divInt_cancel {x y w : Int} (hw : w ≠ 0) (h : Rat.divInt x w = Rat.divInt y w) : x = y := by
  rw [Rat.divInt_eq_div, Rat.divInt_eq_div] at h
  have hw' : (w : Rat) ≠ 0 := by simpa using hw
  have : (x : Rat) = y := by grind
  exact Rat.intCast_inj.mp this
theorem mvd_inj {r : Frm} (hr : r.Ok) {p q : Int × Int} (h : p ≠ q) : mvd r p 1 ≠ mvd r q 1 := by
  intro e
  obtain ⟨-, -, -, -, -, -, -, w0, hd⟩ := hr
  have e1 := divInt_cancel (Int.mul_ne_zero (by omega) (by decide)) (congrArg Prod.fst e)
  have e2 := divInt_cancel (Int.mul_ne_zero (by omega) (by decide)) (congrArg Prod.snd e)
  have f1 : (r.a * r.e - r.b * r.d) * (p.1 - q.1) = 0 := by grind
  have f2 : (r.a * r.e - r.b * r.d) * (p.2 - q.2) = 0 := by grind
  apply h
  refine Prod.ext ?_ ?_
  · rcases Int.mul_eq_zero.mp f1 with z | z
    · exact absurd z hd
    · omega
  · rcases Int.mul_eq_zero.mp f2 with z | z
    · exact absurd z hd
    · omega
/-- a segment of the laws: its ends in order, of some size -/
structure SgOk (s : Pt × Pt) (n : Nat) : Prop where
  lt : bef s.1 s.2 = true
  a : SzQ s.1.1 n
  b : SzQ s.1.2 n
  c : SzQ s.2.1 n
  d : SzQ s.2.2 n
theorem btw_ok {p q : Pt} {n : Nat} (h : p ≠ q) (a : SzQ p.1 n) (b : SzQ p.2 n) (c : SzQ q.1 n) (d : SzQ q.2 n) : SgOk (btw p q) n := by
  unfold btw
  cases hb : bef p q with
  | true => exact ⟨hb, a, b, c, d⟩
  | false =>
    refine ⟨?_, c, d, a, b⟩
    cases hc : bef q p with
    | true => exact hc
    | false => exact absurd (bef_total p q hb hc) h
theorem list_of {α : Type} {f : α → D} {P : α → Prop} : ∀ {ts : List D}, (∀ z ∈ ts, ∃ w, P w ∧ z = f w) → ∃ ws : List α, (∀ w ∈ ws, P w) ∧ ts = ws.map f
  | [], _ => ⟨[], by simp, rfl⟩
  | t :: ts, h => by
    obtain ⟨w, hw, rfl⟩ := h t List.mem_cons_self
    obtain ⟨ws, h1, rfl⟩ := list_of (f := f) (P := P) (ts := ts) fun y hy => h y (List.mem_cons_of_mem _ hy)
    refine ⟨w :: ws, ?_, rfl⟩
    intro y hy
    cases hy with
    | head => exact hw
    | tail _ hy => exact h1 y hy
end MI
namespace MI
open PySem PySem.Spec L2
theorem unit_frac {n d : Int} (hd : 0 < d) (h0 : 0 ≤ n) (h1 : n ≤ d) : 0 ≤ Rat.divInt n d ∧ Rat.divInt n d ≤ 1 := by
  rw [Rat.divInt_eq_div]
  have hq : (0 : Rat) < (d : Rat) := Rat.intCast_pos.mpr hd
  have a : (0 : Rat) ≤ (n : Rat) := Rat.intCast_nonneg.mpr h0
  have b : (n : Rat) ≤ (d : Rat) := Rat.intCast_le_intCast.mpr h1
  generalize hx : (n : Rat) / (d : Rat) = x
  have e : x * d = n := by subst hx; grind
  refine ⟨?_, ?_⟩
  · apply Classical.byContradiction
    intro h
    have := lt_mul (show (0 : Rat) < -x by grind) hq
    grind
  · apply Classical.byContradiction
    intro h
    have := lt_mul (show (0 : Rat) < x - 1 by grind) hq
    grind
end MI

-- MiX
/-! what two segments have in common -/
namespace MI
open PySem PySem.Spec L2
theorem cmpP_zero (p q : Pt) : cmpP p q = 0 ↔ p = q := by
  have h1 := cmpP_bef p q
  have h2 := cmpP_gt p q
  constructor
  · intro h
    have a : bef p q = false := by cases hb : bef p q with
      | false => rfl
      | true => have := h1.mpr hb; omega
    have b : bef q p = false := by cases hb : bef q p with
      | false => rfl
      | true => have := h2.mpr hb; omega
    exact bef_total p q a b
  · rintro rfl
    have : bef p p = false := by
      cases hb : bef p p with
      | false => rfl
      | true => have := bef_asymm p p hb; rw [hb] at this; exact this
    have a : ¬ cmpP p p < 0 := fun h => by have := h1.mp h; simp_all
    have b : ¬ 0 < cmpP p p := fun h => by have := h2.mp h; simp_all
    omega
def lowP (p q : Pt) : Pt := if bef p q then q else p
def higP (p q : Pt) : Pt := if bef q p then q else p
def comm (s t : Pt × Pt) : Option (Pt × Option Pt) :=
  if det s.1 s.2 t.1 = 0 ∧ det s.1 s.2 t.2 = 0 then
    if bef (higP s.2 t.2) (lowP s.1 t.1) then none else if lowP s.1 t.1 = higP s.2 t.2 then some (lowP s.1 t.1, none) else some (lowP s.1 t.1, some (higP s.2 t.2))
  else if 0 < sg (det s.1 s.2 t.1) * sg (det s.1 s.2 t.2) then none
  else if 0 < sg (det t.1 t.2 s.1) * sg (det t.1 t.2 s.2) then none
  else some (pat t (det s.1 s.2 t.1 / (det s.1 s.2 t.1 - det s.1 s.2 t.2)), none)
def commD : Option (Pt × Option Pt) → D
  | none => .none
  | some (p, none) => pt p
  | some (p, some q) => sgT (p, q)
theorem okS_commD (n : Nat) (c : Option (Pt × Option Pt)) : okS (n + 3) (commD c) = true := by
  cases c with
  | none => rfl
  | some p =>
    obtain ⟨p, q⟩ := p
    cases q with
    | none => exact okS_pt _ p
    | some q => simp [commD, sgT, okS, okS_pt]
theorem comm_self (s : Pt × Pt) (h : bef s.1 s.2 = true) : commD (comm s s) = sgT s := by
  have hb : ∀ p : Pt, bef p p = false := fun p => by
    cases hb : bef p p with
    | false => rfl
    | true => have := bef_asymm p p hb; rw [hb] at this; exact this
  have l : ∀ p : Pt, lowP p p = p := fun p => by unfold lowP; split <;> rfl
  have hg : ∀ p : Pt, higP p p = p := fun p => by unfold higP; split <;> rfl
  unfold comm
  rw [if_pos ⟨by unfold det; grind, by unfold det; grind⟩, l, hg, bef_asymm _ _ h, if_neg (by decide), if_neg (fun e => by rw [e, hb] at h; exact absurd h (by decide))]
  rfl
theorem sg_mul_pos {a b : Rat} : 0 < sg a * sg b ↔ 0 < a * b := by
  unfold sg
  by_cases h1 : a = 0
  · subst h1; simp
  · by_cases h2 : b = 0
    · subst h2; simp
    · rw [if_neg h1, if_neg h2]
      by_cases h3 : 0 < a
      · by_cases h4 : 0 < b
        · rw [if_pos h3, if_pos h4]; have := lt_mul h3 h4; constructor <;> intro _ <;> first | exact this | decide
        · rw [if_pos h3, if_neg h4]
          have := lt_mul h3 (show (0 : Rat) < -b by grind)
          constructor
          · intro h; omega
          · intro h; grind
      · by_cases h4 : 0 < b
        · rw [if_neg h3, if_pos h4]
          have := lt_mul (show (0 : Rat) < -a by grind) h4
          constructor
          · intro h; omega
          · intro h; grind
        · rw [if_neg h3, if_neg h4]
          have := lt_mul (show (0 : Rat) < -a by grind) (show (0 : Rat) < -b by grind)
          constructor
          · intro _; grind
          · intro _; decide
theorem dets_ne {s t : Pt × Pt} (h1 : ¬ (det s.1 s.2 t.1 = 0 ∧ det s.1 s.2 t.2 = 0)) (h2 : ¬ 0 < sg (det s.1 s.2 t.1) * sg (det s.1 s.2 t.2)) : det s.1 s.2 t.1 - det s.1 s.2 t.2 ≠ 0 := by
  rw [sg_mul_pos] at h2
  intro h
  have e : det s.1 s.2 t.1 = det s.1 s.2 t.2 := by grind
  rw [e] at h1 h2
  by_cases h3 : det s.1 s.2 t.2 = 0
  · exact h1 ⟨h3, h3⟩
  · by_cases h4 : 0 < det s.1 s.2 t.2
    · exact h2 (lt_mul h4 h4)
    · have := lt_mul (show (0 : Rat) < -det s.1 s.2 t.2 by grind) (show (0 : Rat) < -det s.1 s.2 t.2 by grind)
      apply h2; grind
/-- the lines' numbers -/
def ln0 (p q : Pt) : Int := p.2.num * p.1.den * (q.1.den * q.2.den) - p.1.den * p.2.den * (q.2.num * q.1.den)
def ln1 (p q : Pt) : Int := p.1.den * p.2.den * (q.1.num * q.2.den) - p.1.num * p.2.den * (q.1.den * q.2.den)
def ln2 (p q : Pt) : Int := p.1.num * p.2.den * (q.2.num * q.1.den) - p.2.num * p.1.den * (q.1.num * q.2.den)
def dn (p q : Pt) : Rat := (((p.1.den : Int) : Rat) * ((p.2.den : Int) : Rat)) * (((q.1.den : Int) : Rat) * ((q.2.den : Int) : Rat))
theorem dn_pos (p q : Pt) : 0 < dn p q := Rat.mul_pos (Rat.mul_pos (den_posQ _) (den_posQ _)) (Rat.mul_pos (den_posQ _) (den_posQ _))
theorem ln0_eq (p q : Pt) : (ln0 p q : Rat) = dn p q * (p.2 - q.2) := by
  unfold ln0 dn; simp only [Rat.intCast_sub, Rat.intCast_mul, num_eq p.1, num_eq p.2, num_eq q.1, num_eq q.2]; grind
theorem ln1_eq (p q : Pt) : (ln1 p q : Rat) = dn p q * (q.1 - p.1) := by
  unfold ln1 dn; simp only [Rat.intCast_sub, Rat.intCast_mul, num_eq p.1, num_eq p.2, num_eq q.1, num_eq q.2]; grind
theorem ln2_eq (p q : Pt) : (ln2 p q : Rat) = dn p q * (p.1 * q.2 - p.2 * q.1) := by
  unfold ln2 dn; simp only [Rat.intCast_sub, Rat.intCast_mul, num_eq p.1, num_eq p.2, num_eq q.1, num_eq q.2]; grind
theorem meet_w (s t : Pt × Pt) : ((ln0 s.1 s.2 * ln1 t.1 t.2 - ln1 s.1 s.2 * ln0 t.1 t.2 : Int) : Rat) = -(dn s.1 s.2 * dn t.1 t.2 * (det s.1 s.2 t.1 - det s.1 s.2 t.2)) := by
  simp only [Rat.intCast_sub, Rat.intCast_mul, ln0_eq, ln1_eq, det]
  grind
theorem meet_x (s t : Pt × Pt) : ((ln1 s.1 s.2 * ln2 t.1 t.2 - ln2 s.1 s.2 * ln1 t.1 t.2 : Int) : Rat) = -(dn s.1 s.2 * dn t.1 t.2 * (t.1.1 * (det s.1 s.2 t.1 - det s.1 s.2 t.2) + det s.1 s.2 t.1 * (t.2.1 - t.1.1))) := by
  simp only [Rat.intCast_sub, Rat.intCast_mul, ln1_eq, ln2_eq, det]
  grind
theorem meet_y (s t : Pt × Pt) : ((ln2 s.1 s.2 * ln0 t.1 t.2 - ln0 s.1 s.2 * ln2 t.1 t.2 : Int) : Rat) = -(dn s.1 s.2 * dn t.1 t.2 * (t.1.2 * (det s.1 s.2 t.1 - det s.1 s.2 t.2) + det s.1 s.2 t.1 * (t.2.2 - t.1.2))) := by
  simp only [Rat.intCast_sub, Rat.intCast_mul, ln0_eq, ln2_eq, det]
  grind
theorem meet_pt {s t : Pt × Pt} (h : det s.1 s.2 t.1 - det s.1 s.2 t.2 ≠ 0) :
    (ln0 s.1 s.2 * ln1 t.1 t.2 - ln1 s.1 s.2 * ln0 t.1 t.2 ≠ 0) ∧
    Rat.divInt (ln1 s.1 s.2 * ln2 t.1 t.2 - ln2 s.1 s.2 * ln1 t.1 t.2) (ln0 s.1 s.2 * ln1 t.1 t.2 - ln1 s.1 s.2 * ln0 t.1 t.2) = (pat t (det s.1 s.2 t.1 / (det s.1 s.2 t.1 - det s.1 s.2 t.2))).1 ∧
    Rat.divInt (ln2 s.1 s.2 * ln0 t.1 t.2 - ln0 s.1 s.2 * ln2 t.1 t.2) (ln0 s.1 s.2 * ln1 t.1 t.2 - ln1 s.1 s.2 * ln0 t.1 t.2) = (pat t (det s.1 s.2 t.1 / (det s.1 s.2 t.1 - det s.1 s.2 t.2))).2 := by
  have c := lt_mul (dn_pos s.1 s.2) (dn_pos t.1 t.2)
  refine ⟨?_, ?_, ?_⟩
  · intro e
    have w := meet_w s t
    rw [e] at w
    generalize dn s.1 s.2 * dn t.1 t.2 = d at *
    generalize det s.1 s.2 t.1 - det s.1 s.2 t.2 = z at *
    have : d * z = 0 := by have : ((0 : Int) : Rat) = 0 := rfl; grind
    rcases Rat.mul_eq_zero.mp this with q | q
    · grind
    · exact h q
  · rw [Rat.divInt_eq_div, meet_x, meet_w]
    unfold pat
    dsimp only
    generalize dn s.1 s.2 * dn t.1 t.2 = d at *
    generalize det s.1 s.2 t.2 = g at *
    generalize det s.1 s.2 t.1 = f at *
    have : d ≠ 0 := by grind
    grind
  · rw [Rat.divInt_eq_div, meet_y, meet_w]
    unfold pat
    dsimp only
    generalize dn s.1 s.2 * dn t.1 t.2 = d at *
    generalize det s.1 s.2 t.2 = g at *
    generalize det s.1 s.2 t.1 = f at *
    have : d ≠ 0 := by grind
    grind
end MI

-- MiY
namespace MI
open PySem PySem.Spec L2
def arN (p q r : Pt) : Int := (q.1.num * p.1.den - p.1.num * q.1.den) * (r.2.num * p.2.den - p.2.num * r.2.den) * (p.2.den * q.2.den * (p.1.den * r.1.den)) - (q.2.num * p.2.den - p.2.num * q.2.den) * (r.1.num * p.1.den - p.1.num * r.1.den) * (p.1.den * q.1.den * (p.2.den * r.2.den))
def arD (p q r : Pt) : Int := p.2.den * q.2.den * (p.1.den * r.1.den) * (p.1.den * q.1.den * (p.2.den * r.2.den))
theorem arD_pos (p q r : Pt) : 0 < arD p q r := Int.mul_pos (Int.mul_pos (Int.mul_pos (den_pos _) (den_pos _)) (Int.mul_pos (den_pos _) (den_pos _))) (Int.mul_pos (Int.mul_pos (den_pos _) (den_pos _)) (Int.mul_pos (den_pos _) (den_pos _)))
theorem arN_eq (p q r : Pt) : (arN p q r : Rat) = det p q r * (arD p q r : Rat) := by
  unfold arN arD det
  simp only [Rat.intCast_add, Rat.intCast_sub, Rat.intCast_mul, num_eq p.1, num_eq p.2, num_eq q.1, num_eq q.2, num_eq r.1, num_eq r.2]
  grind
theorem arN_sign (p q r : Pt) : (arN p q r).sign = sg (det p q r) := area_sg p q r
theorem arN_zero (p q r : Pt) : arN p q r = 0 ↔ det p q r = 0 := by
  have h := arN_sign p q r
  rw [← sg_zero, ← h, Int.sign_eq_zero_iff_zero]
theorem arN_pos (p q r p' q' r' : Pt) : 0 < arN p q r * arN p' q' r' ↔ 0 < sg (det p q r) * sg (det p' q' r') := by
  rw [← arN_sign, ← arN_sign, ← Int.sign_mul, Int.sign_pos_iff]
theorem ar_frac (p q r : Pt) : Rat.divInt (arN p q r) (arD p q r) = det p q r := by
  rw [Rat.divInt_eq_div, arN_eq]
  have : (0 : Rat) < (arD p q r : Rat) := Rat.intCast_pos.mpr (arD_pos p q r)
  grind
theorem ar_sub (p q r r' : Pt) : Rat.divInt (arN p q r * arD p q r' - arN p q r' * arD p q r) (arD p q r * arD p q r') = det p q r - det p q r' := by
  rw [← Rat.divInt_sub_divInt _ _ (by have := arD_pos p q r; omega) (by have := arD_pos p q r'; omega), ar_frac, ar_frac]
theorem ar_quo (p q r : Pt) {z : Rat} (hz : z ≠ 0) : Rat.divInt (arN p q r * z.den) (arD p q r * z.num) = det p q r / z := by
  rw [Rat.divInt_eq_div, Rat.intCast_mul, Rat.intCast_mul, num_eq z, arN_eq]
  have h1 : (0 : Rat) < (arD p q r : Rat) := Rat.intCast_pos.mpr (arD_pos p q r)
  have h2 : (0 : Rat) < ((z.den : Int) : Rat) := den_posQ z
  generalize (arD p q r : Rat) = a at *
  generalize ((z.den : Int) : Rat) = d at *
  generalize det p q r = f at *
  have h3 : a * (z * d) ≠ 0 := fun h => by
    rcases Rat.mul_eq_zero.mp h with e | e
    · grind
    · rcases Rat.mul_eq_zero.mp e with e | e
      · exact hz e
      · grind
  have h4 : f * a * d = (f / z) * (a * (z * d)) := by grind
  rw [h4]
  generalize a * (z * d) = y at *
  grind
theorem ar_sz (p q r : Pt) [SzQ p.1 150] [SzQ p.2 150] [SzQ q.1 150] [SzQ q.2 150] [SzQ r.1 150] [SzQ r.2 150] : Sz (arN p q r) 1203 ∧ Sz (arD p q r) 1203 :=
  ⟨inferInstanceAs (Sz ((q.1.num * p.1.den - p.1.num * q.1.den) * (r.2.num * p.2.den - p.2.num * r.2.den) * (p.2.den * q.2.den * (p.1.den * r.1.den)) - (q.2.num * p.2.den - p.2.num * q.2.den) * (r.1.num * p.1.den - p.1.num * r.1.den) * (p.1.den * q.1.den * (p.2.den * r.2.den))) _),
   by
    have h : Sz ((p.2.den : Int) * q.2.den * (p.1.den * r.1.den) * (p.1.den * q.1.den * (p.2.den * r.2.den))) (150 + 150 + (150 + 150) + (150 + 150 + (150 + 150))) := inferInstance
    exact h.mono (by decide)⟩
end MI
namespace MI
open PySem PySem.Spec L2
theorem outH_loop {call : Nat → List W → MH → Option (W × MH)} {r : Ss} {o : Option Out} {I B : En → MH → Prop} {R : W → MH → Prop} (N : En → MH → Prop) (h : ∃ e m, o = some (.next e m) ∧ N e m)
    (h2 : ∀ e m, N e m → OutH I B R (evSs call r e m)) : OutH I B R (sq call r o) := by
  obtain ⟨e, m, rfl, hN⟩ := h
  exact h2 e m hN
def sgI (a b c d : Int) : Pt × Pt := (((a : Rat), (b : Rat)), ((c : Rat), (d : Rat)))
theorem sgI_sz {a b c d : Int} (ha : a.natAbs < 2 ^ 8) (hb : b.natAbs < 2 ^ 8) (hc : c.natAbs < 2 ^ 8) (hd : d.natAbs < 2 ^ 8) : SzQ (sgI a b c d).1.1 150 ∧ SzQ (sgI a b c d).1.2 150 ∧ SzQ (sgI a b c d).2.1 150 ∧ SzQ (sgI a b c d).2.2 150 := by
  have : ∀ i : Int, i.natAbs < 2 ^ 8 → SzQ (i : Rat) 150 := fun i h => SzQ.mono (n := 8) ⟨by rw [Rat.num_intCast]; exact h, by rw [Rat.den_intCast]; decide⟩ (by decide)
  exact ⟨this a ha, this b hb, this c hc, this d hd⟩
end MI

-- MiZ
/-! images -/
namespace MI
open PySem PySem.Spec L2
theorem compL_mapM {α : Type} {asg : W → En → MH → Option (En × MH)} {cond : En → MH → Option (Bool × MH)} {elt : En → MH → Option (W × MH)} {all : List D} {env : En} {μ : MH} {g h : α → D} : ∀ {ss : List α},
    (∀ s ∈ ss, ∃ env1, asg (.d (g s)) env μ = some (env1, μ) ∧ cond env1 μ = some (true, μ) ∧ elt env1 μ = some (.d (h s), μ)) → compL asg cond elt none all (ss.map g) env μ = some (ss.map h, μ)
  | [], _ => rfl
  | s :: ss, H => by
    obtain ⟨env1, h1, h2, h3⟩ := H s List.mem_cons_self
    have ih := compL_mapM (asg := asg) (cond := cond) (elt := elt) (all := all) (env := env) (μ := μ) (g := g) (h := h) (ss := ss) fun y hy => H y (List.mem_cons_of_mem _ hy)
    rw [List.map_cons, compL_cons, h1, bnd_some, v_Cl0, h2, bnd_some, v_Cl1t, h3, bnd_some, v_Cl2, v_toD, bnd_some, v_Cl3, ih, bnd_some, v_Cl4]
    rfl
theorem cutD_map {α β : Type} (f : α → β) (xs : List α) (lo hi : Option Int) : cutD (xs.map f) lo hi = (cutD xs lo hi).map f := by
  unfold cutD; rw [List.length_map, List.map_take, List.map_drop]
theorem cutD_mem {α : Type} {xs : List α} {lo hi : Option Int} {x : α} (h : x ∈ cutD xs lo hi) : x ∈ xs := by
  unfold cutD at h; exact List.mem_of_mem_drop (List.mem_of_mem_take h)
theorem cutD_len {α : Type} (xs : List α) (lo hi : Option Int) : (cutD xs lo hi).length ≤ xs.length := by
  unfold cutD; rw [List.length_take, List.length_drop]; omega
theorem v_slW {μ : MH} {n : Nat} {c : Cell} (l : Bool) (lo hi : Option Int) (h : μ[n]? = some c) : slW l (.c n) lo hi μ = newL l (cutD c.xs lo hi) μ := by
  simp only [slW, seqW]
  rw [h]
/-- an affine map's six numbers -/
structure Mx where
  a : Rat
  b : Rat
  c : Rat
  d : Rat
  e : Rat
  f : Rat
def Mx.D (m : Mx) : D := .tuple [.tuple [enc m.a, enc m.b, enc m.c], .tuple [enc m.d, enc m.e, enc m.f]]
structure Mx.Ok (m : Mx) (n : Nat) : Prop where
  a : SzQ m.a n
  b : SzQ m.b n
  c : SzQ m.c n
  d : SzQ m.d n
  e : SzQ m.e n
  f : SzQ m.f n
def Mx.im (m : Mx) (p : Pt) : Pt := (m.a * p.1 + m.b * p.2 + m.c, m.d * p.1 + m.e * p.2 + m.f)
theorem v_mxS (m : Mx) {μ : MH} : seqW (.d m.D) μ = some (true, [.tuple [enc m.a, enc m.b, enc m.c], .tuple [enc m.d, enc m.e, enc m.f]]) := (rfl)
theorem v_mxI (m : Mx) {μ : MH} : itW (.d m.D) μ = some (none, [.tuple [enc m.a, enc m.b, enc m.c], .tuple [enc m.d, enc m.e, enc m.f]]) := (rfl)
/-- one more -/
def stp (q : Rat) : Rat := ⟨q.num + 1 * q.den, q.den, q.den_nz, by
  have h := q.reduced
  rw [Int.one_mul]
  have : Int.gcd (q.num + q.den) q.den = 1 := by
    rw [Int.gcd_add_self_left]; exact h
  exact this⟩
theorem stp_sz {q : Rat} [s : SzQ q 100] : SzQ (stp q) 101 := by
  have h : Sz (q.num + 1 * q.den) (max 100 (1 + 100) + 1) := by
    have : Sz (1 : Int) 1 := ⟨by decide⟩
    infer_instance
  refine ⟨?_, Nat.lt_of_lt_of_le s.hd (Nat.pow_le_pow_right (by decide) (by decide))⟩
  show (q.num + 1 * q.den).natAbs < 2 ^ 101
  have a := s.hn
  have b := s.hd
  have c := Int.natAbs_add_le q.num (1 * q.den)
  rw [Int.one_mul, Int.natAbs_natCast] at c
  rw [Int.one_mul, Nat.pow_succ]
  omega
theorem Mx.Ok.mono {m : Mx} {a b : Nat} (h : m.Ok a) (hb : a ≤ b) : m.Ok b := ⟨h.a.mono hb, h.b.mono hb, h.c.mono hb, h.d.mono hb, h.e.mono hb, h.f.mono hb⟩
theorem ixN6_0 : ixN 6 0 = some 0 := rfl
theorem ixN6_1 : ixN 6 1 = some 1 := rfl
theorem ixN6_2 : ixN 6 2 = some 2 := rfl
theorem ixN6_3 : ixN 6 3 = some 3 := rfl
theorem ixN6_4 : ixN 6 4 = some 4 := rfl
theorem ixN6_5 : ixN 6 5 = some 5 := rfl
theorem cut3a (a b c d e f : D) : cutD [a, b, c, d, e, f] none (some 3) = [a, b, c] := rfl
theorem cut3b (a b c d e f : D) : cutD [a, b, c, d, e, f] (some 3) none = [d, e, f] := rfl
theorem six {P : Rat → Prop} {zs : List D} (hl : zs.length = 6) (h : ∀ z ∈ zs, ∃ q, P q ∧ z = enc q) : ∃ a b c d e f : Rat, (P a ∧ P b ∧ P c ∧ P d ∧ P e ∧ P f) ∧ zs = [enc a, enc b, enc c, enc d, enc e, enc f] := by
  match zs, hl, h with
  | [z1, z2, z3, z4, z5, z6], _, h =>
    obtain ⟨a, ha, rfl⟩ := h z1 (by simp)
    obtain ⟨b, hb, rfl⟩ := h z2 (by simp)
    obtain ⟨c, hc, rfl⟩ := h z3 (by simp)
    obtain ⟨d, hd, rfl⟩ := h z4 (by simp)
    obtain ⟨e, he, rfl⟩ := h z5 (by simp)
    obtain ⟨f, hf, rfl⟩ := h z6 (by simp)
    exact ⟨a, b, c, d, e, f, ⟨ha, hb, hc, hd, he, hf⟩, rfl⟩
end MI

-- K76_P
namespace K76
open PySem PySem.Spec L2 MI
def topS (i : Nat) : Stmt := PySem.Challenge.pw_planelaidout_k76_images_of_segments.main.body.getD i (.Pass ⟨0, 0, 0, 0⟩)
/-- 0 -/
def dp_fraction : FD := ⟨"fraction", 2, ["n", "d", "divisor"],
  (.cons (.iff (.cmp .lt (.var 1) (.cst (.int 0))) (.cons (.par 0 1 (.neg (.var 0)) (.neg (.var 1)))
  .nil) .nil)
  (.cons (.asg (.name 2) (.bi .gcd false (.cons (.var 0) (.cons (.var 1) .nil))))
  (.cons (.ret (.tup (.cons (.bop false .fdiv (.var 0) (.var 2)) (.cons (.bop false .fdiv (.var 1) (.var 2)) .nil))))
  .nil)))⟩
abbrev sp_fraction : Stmt := topS 2
/-- 1 -/
def dp_add : FD := ⟨"add", 2, ["f", "g"],
  (.cons (.ret (.call 0 (.cons (.bop false .add (.bop false .mul (.ix (.var 0) (.cst (.int 0))) (.ix (.var 1) (.cst (.int 1)))) (.bop false .mul (.ix (.var 1) (.cst (.int 0))) (.ix (.var 0) (.cst (.int 1))))) (.cons (.bop false .mul (.ix (.var 0) (.cst (.int 1))) (.ix (.var 1) (.cst (.int 1)))) .nil))))
  .nil)⟩
abbrev sp_add : Stmt := topS 3
/-- 2 -/
def dp_multiply : FD := ⟨"multiply", 2, ["f", "g"],
  (.cons (.ret (.call 0 (.cons (.bop false .mul (.ix (.var 0) (.cst (.int 0))) (.ix (.var 1) (.cst (.int 0)))) (.cons (.bop false .mul (.ix (.var 0) (.cst (.int 1))) (.ix (.var 1) (.cst (.int 1)))) .nil))))
  .nil)⟩
abbrev sp_multiply : Stmt := topS 4
/-- 3 -/
def dp_sign : FD := ⟨"sign", 1, ["n"],
  (.cons (.iff (.cmp .eq (.var 0) (.cst (.int 0))) (.cons (.ret (.cst (.int 0)))
  .nil) .nil)
  (.cons (.ret (.ite (.cmp .gt (.var 0) (.cst (.int 0))) (.cst (.int 1)) (.neg (.cst (.int 1)))))
  .nil))⟩
abbrev sp_sign : Stmt := topS 5
/-- 4 -/
def dp_compare_fractions : FD := ⟨"compare_fractions", 2, ["f", "g"],
  (.cons (.ret (.call 3 (.cons (.bop false .sub (.bop false .mul (.ix (.var 0) (.cst (.int 0))) (.ix (.var 1) (.cst (.int 1)))) (.bop false .mul (.ix (.var 1) (.cst (.int 0))) (.ix (.var 0) (.cst (.int 1))))) .nil)))
  .nil)⟩
abbrev sp_compare_fractions : Stmt := topS 6
/-- 5 -/
def dp_compare_points : FD := ⟨"compare_points", 2, ["p", "q", "first"],
  (.cons (.asg (.name 2) (.call 4 (.cons (.ix (.var 0) (.cst (.int 0))) (.cons (.ix (.var 1) (.cst (.int 0))) .nil))))
  (.cons (.iff (.cmp .ne (.var 2) (.cst (.int 0))) (.cons (.ret (.var 2))
  .nil) .nil)
  (.cons (.ret (.call 4 (.cons (.ix (.var 0) (.cst (.int 1))) (.cons (.ix (.var 1) (.cst (.int 1))) .nil))))
  .nil)))⟩
abbrev sp_compare_points : Stmt := topS 8
/-- 6 -/
def dp_segment : FD := ⟨"segment", 2, ["p", "q"],
  (.cons (.ret (.ite (.cmp .lt (.call 5 (.cons (.var 0) (.cons (.var 1) .nil))) (.cst (.int 0))) (.tup (.cons (.var 0) (.cons (.var 1) .nil))) (.tup (.cons (.var 1) (.cons (.var 0) .nil)))))
  .nil)⟩
abbrev sp_segment : Stmt := topS 10
/-- 7 -/
def dp_image_of_point : FD := ⟨"image_of_point", 2, ["matrix", "point", "a", "b", "c"],
  (.cons (.ret (.bi .tuple false (.cons (.comp false (.call 1 (.cons (.call 1 (.cons (.call 2 (.cons (.var 2) (.cons (.ix (.var 1) (.cst (.int 0))) .nil))) (.cons (.call 2 (.cons (.var 3) (.cons (.ix (.var 1) (.cst (.int 1))) .nil))) .nil))) (.cons (.var 4) .nil))) (.tup (.cons (.name 2) (.cons (.name 3) (.cons (.name 4) .nil)))) (.val (.var 0)) .none [("a", 2), ("b", 3), ("c", 4)]) .nil)))
  .nil)⟩
abbrev sp_image_of_point : Stmt := topS 12
/-- 8 -/
def dp_image_of_segments : FD := ⟨"image_of_segments", 2, ["matrix", "segments", "low", "high"],
  (.cons (.ret (.bi .tuple false (.cons (.comp false (.call 6 (.cons (.call 7 (.cons (.var 0) (.cons (.var 2) .nil))) (.cons (.call 7 (.cons (.var 0) (.cons (.var 3) .nil))) .nil))) (.tup (.cons (.name 2) (.cons (.name 3) .nil))) (.val (.var 1)) .none [("low", 2), ("high", 3)]) .nil)))
  .nil)⟩
abbrev sp_image_of_segments : Stmt := topS 13
/-- 9 -/
def df_law_draws : FD := ⟨"_law_draws", 2, ["script", "many", "cells", "left", "draws", "k", "place", "cell", "mixed"],
  (.cons (.asg (.name 2) (.comp true (.bop false .mod (.bi .int false (.cons (.var 7) .nil)) (.bop false .shl (.cst (.int 1)) (.cst (.int 7200)))) (.name 7) (.val (.sl false (.var 0) .none (.some (.cst (.int 63))))) .none [("cell", 7)]))
  (.cons (.iff (.cmp .eq (.bi .len false (.cons (.var 2) .nil)) (.cst (.int 0))) (.cons (.expr (.meth .append (.var 2) (.cons (.cst (.int 0)) .nil)))
  .nil) .nil)
  (.cons (.asg (.name 3) (.bi .list true (.cons (.var 2) .nil)))
  (.cons (.asg (.name 4) (.lst true .nil))
  (.cons (.forr (.name 5) (.rng1 (.var 1)) (.cons (.asg (.name 6) (.bop false .mod (.bi .int false (.cons (.var 5) .nil)) (.bi .len false (.cons (.var 2) .nil))))
  (.cons (.iff (.boo true (.cons (.cmp .ge (.ix (.var 2) (.var 6)) (.bop false .pow (.cst (.int 10)) (.cst (.int 18)))) (.cons (.cmp .gt (.ix (.var 3) (.var 6)) (.cst (.int 0))) .nil))) (.cons (.expr (.meth .append (.var 4) (.cons (.bop false .mod (.bi .int false (.cons (.ix (.var 3) (.var 6)) .nil)) (.cst (.int 1000))) .nil)))
  (.cons (.asg (.sub (.var 3) (.var 6)) (.bop false .fdiv (.ix (.var 3) (.var 6)) (.cst (.int 1000))))
  .nil)) (.cons (.asg (.name 8) (.bop false .mod (.bi .int false (.cons (.bop false .add (.bop false .add (.bop false .mul (.ix (.var 2) (.var 6)) (.cst (.int 48271))) (.bop false .mul (.var 5) (.cst (.int 69621)))) (.cst (.int 11))) .nil)) (.cst (.int 2147483647))))
  (.cons (.expr (.meth .append (.var 4) (.cons (.bop false .mod (.bi .int false (.cons (.bop false .add (.bop false .add (.bop false .mul (.var 8) (.var 8)) (.bop false .mul (.cst (.int 3)) (.var 8))) (.var 5)) .nil)) (.cst (.int 1000003))) .nil)))
  .nil)))
  .nil)))
  (.cons (.expr (.meth .reverse (.var 4) .nil))
  (.cons (.ret (.var 4))
  .nil)))))))⟩
abbrev sf_law_draws : Stmt := topS 15
/-- 10 -/
def df_law_take : FD := ⟨"_law_take", 2, ["draws", "many"],
  (.cons (.iff (.cmp .eq (.bi .len false (.cons (.var 0) .nil)) (.cst (.int 0))) (.cons (.ret (.cst (.int 0)))
  .nil) .nil)
  (.cons (.ret (.bop false .mod (.bi .int false (.cons (.meth .pop (.var 0) .nil) .nil)) (.var 1)))
  .nil))⟩
abbrev sf_law_take : Stmt := topS 16
/-- 11 -/
def df_law_pick : FD := ⟨"_law_pick", 2, ["draws", "row"],
  (.cons (.ret (.ix (.var 1) (.call 10 (.cons (.var 0) (.cons (.bi .len false (.cons (.var 1) .nil)) .nil)))))
  .nil)⟩
abbrev sf_law_pick : Stmt := topS 17
/-- 12 -/
def df_law_same : FD := ⟨"_law_same", 2, ["actual", "due", "k"],
  (.cons (.iff (.isi (.var 1) [.tuple, .list]) (.cons (.iff (.boo false (.cons (.cmp .ne (.isi (.var 0) [.tuple]) (.isi (.var 1) [.tuple])) (.cons (.cmp .ne (.isi (.var 0) [.list]) (.isi (.var 1) [.list])) .nil))) (.cons (.ret (.cst (.bool false)))
  .nil) .nil)
  (.cons (.iff (.cmp .ne (.bi .len false (.cons (.var 0) .nil)) (.bi .len false (.cons (.var 1) .nil))) (.cons (.ret (.cst (.bool false)))
  .nil) .nil)
  (.cons (.ret (.cmp .nin (.cst (.bool false)) (.comp false (.call 12 (.cons (.ix (.var 0) (.var 2)) (.cons (.ix (.var 1) (.var 2)) .nil))) (.name 2) (.rng1 (.bi .len false (.cons (.var 1) .nil))) .none [("k", 2)])))
  .nil))) .nil)
  (.cons (.iff (.boo false (.cons (.cmp .ne (.isi (.var 0) [.bool]) (.isi (.var 1) [.bool])) (.cons (.cmp .ne (.isi (.var 0) [.int]) (.isi (.var 1) [.int])) .nil))) (.cons (.ret (.cst (.bool false)))
  .nil) .nil)
  (.cons (.iff (.boo false (.cons (.cmp .ne (.isi (.var 0) [.str]) (.isi (.var 1) [.str])) (.cons (.cmp .ne (.cmp .is (.var 0) (.cst .none)) (.cmp .is (.var 1) (.cst .none))) .nil))) (.cons (.ret (.cst (.bool false)))
  .nil) .nil)
  (.cons (.ret (.cmp .eq (.var 0) (.var 1)))
  .nil))))⟩
abbrev sf_law_same : Stmt := topS 18
/-- 13 -/
def df_law_gcd : FD := ⟨"_law_gcd", 2, ["one", "other", "a", "b", "turn", "c"],
  (.cons (.asg (.name 2) (.bi .abs false (.cons (.var 0) .nil)))
  (.cons (.asg (.name 3) (.bi .abs false (.cons (.var 1) .nil)))
  (.cons (.forr (.name 4) (.rng1 (.cst (.int 20000))) (.cons (.iff (.cmp .eq (.var 3) (.cst (.int 0))) (.cons .brk
  .nil) .nil)
  (.cons (.asg (.name 5) (.bop false .mod (.bi .int false (.cons (.var 2) .nil)) (.var 3)))
  (.cons (.asg (.name 2) (.var 3))
  (.cons (.asg (.name 3) (.var 5))
  .nil)))))
  (.cons (.ret (.var 2))
  .nil))))⟩
abbrev sf_law_gcd : Stmt := topS 19
/-- 14 -/
def df_law_frac : FD := ⟨"_law_frac", 2, ["n", "d", "c"],
  (.cons (.asg (.name 2) (.bi .max false (.cons (.cst (.int 1)) (.cons (.call 13 (.cons (.var 0) (.cons (.var 1) .nil))) .nil))))
  (.cons (.iff (.cmp .lt (.var 1) (.cst (.int 0))) (.cons (.asg (.name 2) (.bop false .sub (.cst (.int 0)) (.var 2)))
  .nil) .nil)
  (.cons (.ret (.tup (.cons (.bop false .fdiv (.var 0) (.var 2)) (.cons (.bop false .fdiv (.var 1) (.var 2)) .nil))))
  .nil)))⟩
abbrev sf_law_frac : Stmt := topS 20
/-- 15 -/
def df_law_plus : FD := ⟨"_law_plus", 2, ["one", "other"],
  (.cons (.ret (.call 14 (.cons (.bop false .add (.bop false .mul (.ix (.var 0) (.cst (.int 0))) (.ix (.var 1) (.cst (.int 1)))) (.bop false .mul (.ix (.var 1) (.cst (.int 0))) (.ix (.var 0) (.cst (.int 1))))) (.cons (.bop false .mul (.ix (.var 0) (.cst (.int 1))) (.ix (.var 1) (.cst (.int 1)))) .nil))))
  .nil)⟩
abbrev sf_law_plus : Stmt := topS 21
/-- 16 -/
def df_law_minus : FD := ⟨"_law_minus", 2, ["one", "other"],
  (.cons (.ret (.call 14 (.cons (.bop false .sub (.bop false .mul (.ix (.var 0) (.cst (.int 0))) (.ix (.var 1) (.cst (.int 1)))) (.bop false .mul (.ix (.var 1) (.cst (.int 0))) (.ix (.var 0) (.cst (.int 1))))) (.cons (.bop false .mul (.ix (.var 0) (.cst (.int 1))) (.ix (.var 1) (.cst (.int 1)))) .nil))))
  .nil)⟩
abbrev sf_law_minus : Stmt := topS 22
/-- 17 -/
def df_law_product : FD := ⟨"_law_product", 2, ["one", "other"],
  (.cons (.ret (.call 14 (.cons (.bop false .mul (.ix (.var 0) (.cst (.int 0))) (.ix (.var 1) (.cst (.int 0)))) (.cons (.bop false .mul (.ix (.var 0) (.cst (.int 1))) (.ix (.var 1) (.cst (.int 1)))) .nil))))
  .nil)⟩
abbrev sf_law_product : Stmt := topS 23
/-- 18 -/
def df_law_less : FD := ⟨"_law_less", 2, ["one", "other"],
  (.cons (.ret (.cmp .lt (.bop false .mul (.ix (.var 0) (.cst (.int 0))) (.ix (.var 1) (.cst (.int 1)))) (.bop false .mul (.ix (.var 1) (.cst (.int 0))) (.ix (.var 0) (.cst (.int 1))))))
  .nil)⟩
abbrev sf_law_less : Stmt := topS 24
/-- 19 -/
def df_law_ahead : FD := ⟨"_law_ahead", 2, ["p", "q"],
  (.cons (.iff (.cmp .ne (.ix (.var 0) (.cst (.int 0))) (.ix (.var 1) (.cst (.int 0)))) (.cons (.ret (.call 18 (.cons (.ix (.var 0) (.cst (.int 0))) (.cons (.ix (.var 1) (.cst (.int 0))) .nil))))
  .nil) .nil)
  (.cons (.ret (.call 18 (.cons (.ix (.var 0) (.cst (.int 1))) (.cons (.ix (.var 1) (.cst (.int 1))) .nil))))
  .nil))⟩
abbrev sf_law_ahead : Stmt := topS 25
/-- 20 -/
def df_law_joining : FD := ⟨"_law_joining", 2, ["p", "q"],
  (.cons (.ret (.ite (.call 19 (.cons (.var 0) (.cons (.var 1) .nil))) (.tup (.cons (.var 0) (.cons (.var 1) .nil))) (.tup (.cons (.var 1) (.cons (.var 0) .nil)))))
  .nil)⟩
abbrev sf_law_joining : Stmt := topS 26
/-- 21 -/
def df_law_step : FD := ⟨"_law_step", 2, ["a", "n"],
  (.cons (.ret (.tup (.cons (.bop false .add (.ix (.var 0) (.cst (.int 0))) (.bop false .mul (.var 1) (.ix (.var 0) (.cst (.int 1))))) (.cons (.ix (.var 0) (.cst (.int 1))) .nil))))
  .nil)⟩
abbrev sf_law_step : Stmt := topS 27
/-- 22 -/
def df_law_corner : FD := ⟨"_law_corner", 3, ["draws", "size", "den", "x"],
  (.cons (.asg (.name 3) (.call 14 (.cons (.call 10 (.cons (.var 0) (.cons (.bop false .add (.bop false .mul (.var 1) (.var 2)) (.cst (.int 1))) .nil))) (.cons (.var 2) .nil))))
  (.cons (.ret (.tup (.cons (.var 3) (.cons (.call 14 (.cons (.call 10 (.cons (.var 0) (.cons (.bop false .add (.bop false .mul (.var 1) (.var 2)) (.cst (.int 1))) .nil))) (.cons (.var 2) .nil))) .nil))))
  .nil))⟩
abbrev sf_law_corner : Stmt := topS 28
/-- 23 -/
def df_law_drawn_one : FD := ⟨"_law_drawn_one", 3, ["draws", "size", "den", "p", "q"],
  (.cons (.asg (.name 3) (.call 22 (.cons (.var 0) (.cons (.var 1) (.cons (.var 2) .nil)))))
  (.cons (.asg (.name 4) (.call 22 (.cons (.var 0) (.cons (.var 1) (.cons (.var 2) .nil)))))
  (.cons (.iff (.cmp .eq (.var 3) (.var 4)) (.cons (.asg (.name 4) (.tup (.cons (.call 21 (.cons (.ix (.var 4) (.cst (.int 0))) (.cons (.cst (.int 1)) .nil))) (.cons (.ix (.var 4) (.cst (.int 1))) .nil))))
  .nil) .nil)
  (.cons (.ret (.call 20 (.cons (.var 3) (.cons (.var 4) .nil))))
  .nil))))⟩
abbrev sf_law_drawn_one : Stmt := topS 29
/-- 24 -/
def df_law_moved_spot : FD := ⟨"_law_moved_spot", 3, ["point", "factor", "shift", "x"],
  (.cons (.asg (.name 3) (.call 15 (.cons (.call 17 (.cons (.ix (.var 0) (.cst (.int 0))) (.cons (.tup (.cons (.var 1) (.cons (.cst (.int 1)) .nil))) .nil))) (.cons (.tup (.cons (.var 2) (.cons (.cst (.int 1)) .nil))) .nil))))
  (.cons (.ret (.tup (.cons (.var 3) (.cons (.call 15 (.cons (.call 17 (.cons (.ix (.var 0) (.cst (.int 1))) (.cons (.tup (.cons (.var 1) (.cons (.cst (.int 1)) .nil))) .nil))) (.cons (.tup (.cons (.bop false .sub (.cst (.int 0)) (.var 2)) (.cons (.cst (.int 1)) .nil))) .nil))) .nil))))
  .nil))⟩
abbrev sf_law_moved_spot : Stmt := topS 30
/-- 25 -/
def df_law_drawn : FD := ⟨"_law_drawn", 2, ["draws", "many", "size", "den", "told", "factor", "shift", "k", "one"],
  (.cons (.asg (.name 2) (.call 11 (.cons (.var 0) (.cons (.lst false (.cons (.cst (.int 2)) (.cons (.cst (.int 3)) (.cons (.cst (.int 3)) (.cons (.cst (.int 5)) .nil))))) .nil))))
  (.cons (.asg (.name 3) (.call 11 (.cons (.var 0) (.cons (.lst false (.cons (.cst (.int 1)) (.cons (.cst (.int 1)) (.cons (.cst (.int 2)) (.cons (.cst (.int 3)) .nil))))) .nil))))
  (.cons (.asg (.name 4) (.comp false (.call 23 (.cons (.var 0) (.cons (.var 2) (.cons (.var 3) .nil)))) (.name 7) (.rng1 (.var 1)) .none [("k", 7)]))
  (.cons (.asg (.name 5) (.cst (.int 1)))
  (.cons (.iff (.cmp .eq (.call 10 (.cons (.var 0) (.cons (.cst (.int 6)) .nil))) (.cst (.int 0))) (.cons (.asg (.name 5) (.call 11 (.cons (.var 0) (.cons (.lst false (.cons (.cst (.int 7)) (.cons (.bop false .add (.bop false .pow (.cst (.int 10)) (.cst (.int 9))) (.cst (.int 7))) (.cons (.bop false .add (.bop false .pow (.cst (.int 10)) (.cst (.int 20))) (.cst (.int 39))) .nil)))) .nil))))
  .nil) .nil)
  (.cons (.asg (.name 6) (.call 11 (.cons (.var 0) (.cons (.lst false (.cons (.cst (.int 0)) (.cons (.cst (.int 0)) (.cons (.neg (.cst (.int 2))) (.cons (.neg (.cst (.int 1))) (.cons (.bop false .pow (.cst (.int 10)) (.cst (.int 6))) .nil)))))) .nil))))
  (.cons (.iff (.boo true (.cons (.cmp .eq (.var 5) (.cst (.int 1))) (.cons (.cmp .eq (.var 6) (.cst (.int 0))) .nil))) (.cons (.ret (.bi .tuple false (.cons (.var 4) .nil)))
  .nil) .nil)
  (.cons (.ret (.bi .tuple false (.cons (.comp false (.tup (.cons (.call 24 (.cons (.ix (.var 8) (.cst (.int 0))) (.cons (.var 5) (.cons (.var 6) .nil)))) (.cons (.call 24 (.cons (.ix (.var 8) (.cst (.int 1))) (.cons (.var 5) (.cons (.var 6) .nil)))) .nil))) (.name 8) (.val (.var 4)) .none [("one", 8)]) .nil)))
  .nil))))))))⟩
abbrev sf_law_drawn : Stmt := topS 31
/-- 26 -/
def df_law_drawn_matrix : FD := ⟨"_law_drawn_matrix", 1, ["draws", "row", "way", "k"],
  (.cons (.asg (.name 1) (.comp true (.call 14 (.cons (.bop false .sub (.call 10 (.cons (.var 0) (.cons (.cst (.int 7)) .nil))) (.cst (.int 3))) (.cons (.bop false .add (.cst (.int 1)) (.call 10 (.cons (.var 0) (.cons (.cst (.int 2)) .nil)))) .nil))) (.name 3) (.rng1 (.cst (.int 6))) .none [("k", 3)]))
  (.cons (.iff (.cmp .eq (.call 10 (.cons (.var 0) (.cons (.cst (.int 5)) .nil))) (.cst (.int 0))) (.cons (.asg (.sub (.var 1) (.cst (.int 2))) (.tup (.cons (.bop false .add (.bop false .pow (.cst (.int 10)) (.cst (.int 12))) (.cst (.int 39))) (.cons (.cst (.int 7)) .nil))))
  .nil) .nil)
  (.cons (.iff (.cmp .eq (.ix (.call 16 (.cons (.call 17 (.cons (.ix (.var 1) (.cst (.int 0))) (.cons (.ix (.var 1) (.cst (.int 4))) .nil))) (.cons (.call 17 (.cons (.ix (.var 1) (.cst (.int 1))) (.cons (.ix (.var 1) (.cst (.int 3))) .nil))) .nil))) (.cst (.int 0))) (.cst (.int 0))) (.cons (.asg (.name 2) (.call 10 (.cons (.var 0) (.cons (.cst (.int 2)) .nil))))
  (.cons (.asg (.tup (.cons (.sub (.var 1) (.cst (.int 0))) (.cons (.sub (.var 1) (.cst (.int 1))) .nil))) (.tup (.cons (.tup (.cons (.bop false .sub (.cst (.int 1)) (.var 2)) (.cons (.cst (.int 1)) .nil))) (.cons (.tup (.cons (.var 2) (.cons (.cst (.int 1)) .nil))) .nil))))
  (.cons (.asg (.tup (.cons (.sub (.var 1) (.cst (.int 3))) (.cons (.sub (.var 1) (.cst (.int 4))) .nil))) (.tup (.cons (.tup (.cons (.var 2) (.cons (.cst (.int 1)) .nil))) (.cons (.tup (.cons (.bop false .sub (.var 2) (.cst (.int 1))) (.cons (.cst (.int 1)) .nil))) .nil))))
  .nil))) .nil)
  (.cons (.ret (.tup (.cons (.bi .tuple false (.cons (.sl false (.var 1) .none (.some (.cst (.int 3)))) .nil)) (.cons (.bi .tuple false (.cons (.sl false (.var 1) (.some (.cst (.int 3))) .none) .nil)) .nil))))
  .nil))))⟩
abbrev sf_law_drawn_matrix : Stmt := topS 32
/-- 27 -/
def df_law_imaged : FD := ⟨"_law_imaged", 2, ["matrix", "point", "told", "a", "b", "c"],
  (.cons (.asg (.name 2) (.lst true .nil))
  (.cons (.forr (.tup (.cons (.name 3) (.cons (.name 4) (.cons (.name 5) .nil)))) (.val (.var 0)) (.cons (.expr (.meth .append (.var 2) (.cons (.call 15 (.cons (.call 15 (.cons (.call 17 (.cons (.var 3) (.cons (.ix (.var 1) (.cst (.int 0))) .nil))) (.cons (.call 17 (.cons (.var 4) (.cons (.ix (.var 1) (.cst (.int 1))) .nil))) .nil))) (.cons (.var 5) .nil))) .nil)))
  .nil))
  (.cons (.ret (.bi .tuple false (.cons (.var 2) .nil)))
  .nil)))⟩
abbrev sf_law_imaged : Stmt := topS 33
/-- 28 -/
def df_law_imaged_all : FD := ⟨"_law_imaged_all", 2, ["matrix", "segments", "one"],
  (.cons (.ret (.bi .tuple false (.cons (.comp false (.call 20 (.cons (.call 27 (.cons (.var 0) (.cons (.ix (.var 2) (.cst (.int 0))) .nil))) (.cons (.call 27 (.cons (.var 0) (.cons (.ix (.var 2) (.cst (.int 1))) .nil))) .nil))) (.name 2) (.val (.var 1)) .none [("one", 2)]) .nil)))
  .nil)⟩
abbrev sf_law_imaged_all : Stmt := topS 34
/-- 29 -/
def dp_law : FD := ⟨"law", 1, ["script", "draws", "many", "one", "matrix", "segments", "turn"],
  (.cons (.asg (.name 1) (.call 9 (.cons (.var 0) (.cons (.cst (.int 400)) .nil))))
  (.cons (.forr (.name 2) (.val (.lst false (.cons (.cst (.int 0)) (.cons (.cst (.int 1)) (.cons (.cst (.int 3)) (.cons (.bop false .add (.cst (.int 1)) (.call 10 (.cons (.var 1) (.cons (.cst (.int 8)) .nil)))) .nil)))))) (.cons (.asg (.name 5) (.call 25 (.cons (.var 1) (.cons (.var 2) .nil))))
  (.cons (.asg (.name 5) (.bop false .add (.var 5) (.sl false (.var 5) .none (.some (.cst (.int 1))))))
  (.cons (.forr (.name 6) (.rng1 (.cst (.int 2))) (.cons (.asg (.name 4) (.call 26 (.cons (.var 1) .nil)))
  (.cons (.iff (.not (.call 12 (.cons (.call 8 (.cons (.var 4) (.cons (.var 5) .nil))) (.cons (.call 28 (.cons (.var 4) (.cons (.var 5) .nil))) .nil)))) (.cons (.ret (.cst (.bool false)))
  .nil) .nil)
  .nil)))
  .nil))))
  (.cons (.asg (.name 3) (.tup (.cons (.tup (.cons (.tup (.cons (.cst (.int 0)) (.cons (.cst (.int 1)) .nil))) (.cons (.tup (.cons (.cst (.int 0)) (.cons (.cst (.int 1)) .nil))) .nil))) (.cons (.tup (.cons (.tup (.cons (.cst (.int 2)) (.cons (.cst (.int 1)) .nil))) (.cons (.tup (.cons (.cst (.int 1)) (.cons (.cst (.int 1)) .nil))) .nil))) .nil))))
  (.cons (.asg (.name 4) (.tup (.cons (.tup (.cons (.tup (.cons (.neg (.cst (.int 1))) (.cons (.cst (.int 2)) .nil))) (.cons (.tup (.cons (.cst (.int 0)) (.cons (.cst (.int 1)) .nil))) (.cons (.tup (.cons (.cst (.int 1)) (.cons (.cst (.int 1)) .nil))) .nil)))) (.cons (.tup (.cons (.tup (.cons (.cst (.int 0)) (.cons (.cst (.int 1)) .nil))) (.cons (.tup (.cons (.cst (.int 3)) (.cons (.cst (.int 1)) .nil))) (.cons (.tup (.cons (.cst (.int 0)) (.cons (.cst (.int 1)) .nil))) .nil)))) .nil))))
  (.cons (.ret (.call 12 (.cons (.call 8 (.cons (.var 4) (.cons (.tup (.cons (.var 3) .nil)) .nil))) (.cons (.tup (.cons (.tup (.cons (.tup (.cons (.tup (.cons (.cst (.int 0)) (.cons (.cst (.int 1)) .nil))) (.cons (.tup (.cons (.cst (.int 3)) (.cons (.cst (.int 1)) .nil))) .nil))) (.cons (.tup (.cons (.tup (.cons (.cst (.int 1)) (.cons (.cst (.int 1)) .nil))) (.cons (.tup (.cons (.cst (.int 0)) (.cons (.cst (.int 1)) .nil))) .nil))) .nil))) .nil)) .nil))))
  .nil)))))⟩
abbrev sp_law : Stmt := topS 35
def T : List FD := [dp_fraction, dp_add, dp_multiply, dp_sign, dp_compare_fractions, dp_compare_points, dp_segment, dp_image_of_point, dp_image_of_segments, df_law_draws, df_law_take, df_law_pick, df_law_same, df_law_gcd, df_law_frac, df_law_plus, df_law_minus, df_law_product, df_law_less, df_law_ahead, df_law_joining, df_law_step, df_law_corner, df_law_drawn_one, df_law_moved_spot, df_law_drawn, df_law_drawn_matrix, df_law_imaged, df_law_imaged_all, dp_law]
def pg : Pg := ⟨(["fraction", "add", "multiply", "sign", "compare_fractions", "compare_points", "segment", "image_of_point", "image_of_segments", "_law_draws", "_law_take", "_law_pick", "_law_same", "_law_gcd", "_law_frac", "_law_plus", "_law_minus", "_law_product", "_law_less", "_law_ahead", "_law_joining", "_law_step", "_law_corner", "_law_drawn_one", "_law_moved_spot", "_law_drawn", "_law_drawn_matrix", "_law_imaged", "_law_imaged_all", "law"] : List String).map Str.ofString, true⟩
theorem cp_fraction : chkD pg dp_fraction sp_fraction = true := by decide +kernel
theorem cp_add : chkD pg dp_add sp_add = true := by decide +kernel
theorem cp_multiply : chkD pg dp_multiply sp_multiply = true := by decide +kernel
theorem cp_sign : chkD pg dp_sign sp_sign = true := by decide +kernel
theorem cp_compare_fractions : chkD pg dp_compare_fractions sp_compare_fractions = true := by decide +kernel
theorem cp_compare_points : chkD pg dp_compare_points sp_compare_points = true := by decide +kernel
theorem cp_segment : chkD pg dp_segment sp_segment = true := by decide +kernel
theorem cp_image_of_point : chkD pg dp_image_of_point sp_image_of_point = true := by decide +kernel
theorem cp_image_of_segments : chkD pg dp_image_of_segments sp_image_of_segments = true := by decide +kernel
theorem cf_law_draws : chkD pg df_law_draws sf_law_draws = true := by decide +kernel
theorem cf_law_take : chkD pg df_law_take sf_law_take = true := by decide +kernel
theorem cf_law_pick : chkD pg df_law_pick sf_law_pick = true := by decide +kernel
theorem cf_law_same : chkD pg df_law_same sf_law_same = true := by decide +kernel
theorem cf_law_gcd : chkD pg df_law_gcd sf_law_gcd = true := by decide +kernel
theorem cf_law_frac : chkD pg df_law_frac sf_law_frac = true := by decide +kernel
theorem cf_law_plus : chkD pg df_law_plus sf_law_plus = true := by decide +kernel
theorem cf_law_minus : chkD pg df_law_minus sf_law_minus = true := by decide +kernel
theorem cf_law_product : chkD pg df_law_product sf_law_product = true := by decide +kernel
theorem cf_law_less : chkD pg df_law_less sf_law_less = true := by decide +kernel
theorem cf_law_ahead : chkD pg df_law_ahead sf_law_ahead = true := by decide +kernel
theorem cf_law_joining : chkD pg df_law_joining sf_law_joining = true := by decide +kernel
theorem cf_law_step : chkD pg df_law_step sf_law_step = true := by decide +kernel
theorem cf_law_corner : chkD pg df_law_corner sf_law_corner = true := by decide +kernel
theorem cf_law_drawn_one : chkD pg df_law_drawn_one sf_law_drawn_one = true := by decide +kernel
theorem cf_law_moved_spot : chkD pg df_law_moved_spot sf_law_moved_spot = true := by decide +kernel
theorem cf_law_drawn : chkD pg df_law_drawn sf_law_drawn = true := by decide +kernel
theorem cf_law_drawn_matrix : chkD pg df_law_drawn_matrix sf_law_drawn_matrix = true := by decide +kernel
theorem cf_law_imaged : chkD pg df_law_imaged sf_law_imaged = true := by decide +kernel
theorem cf_law_imaged_all : chkD pg df_law_imaged_all sf_law_imaged_all = true := by decide +kernel
theorem cp_law : chkD pg dp_law sp_law = true := by decide +kernel
theorem bp_fraction {K : PySem.W.Frag} {f : Addr} {fd : FuncData} (F : Fun K "fraction" "fraction" sp_fraction f fd) : Binds K fd ((dp_fraction).names.take (dp_fraction).np) [] := F.binds (ps := ["n", "d"]) fun _ _ _ _ _ _ us hl => match us, hl with | [_, _], _ => rfl
theorem bp_add {K : PySem.W.Frag} {f : Addr} {fd : FuncData} (F : Fun K "add" "add" sp_add f fd) : Binds K fd ((dp_add).names.take (dp_add).np) [] := F.binds (ps := ["f", "g"]) fun _ _ _ _ _ _ us hl => match us, hl with | [_, _], _ => rfl
theorem bp_multiply {K : PySem.W.Frag} {f : Addr} {fd : FuncData} (F : Fun K "multiply" "multiply" sp_multiply f fd) : Binds K fd ((dp_multiply).names.take (dp_multiply).np) [] := F.binds (ps := ["f", "g"]) fun _ _ _ _ _ _ us hl => match us, hl with | [_, _], _ => rfl
theorem bp_sign {K : PySem.W.Frag} {f : Addr} {fd : FuncData} (F : Fun K "sign" "sign" sp_sign f fd) : Binds K fd ((dp_sign).names.take (dp_sign).np) [] := F.binds (ps := ["n"]) fun _ _ _ _ _ _ us hl => match us, hl with | [_], _ => rfl
theorem bp_compare_fractions {K : PySem.W.Frag} {f : Addr} {fd : FuncData} (F : Fun K "compare_fractions" "compare_fractions" sp_compare_fractions f fd) : Binds K fd ((dp_compare_fractions).names.take (dp_compare_fractions).np) [] := F.binds (ps := ["f", "g"]) fun _ _ _ _ _ _ us hl => match us, hl with | [_, _], _ => rfl
theorem bp_compare_points {K : PySem.W.Frag} {f : Addr} {fd : FuncData} (F : Fun K "compare_points" "compare_points" sp_compare_points f fd) : Binds K fd ((dp_compare_points).names.take (dp_compare_points).np) [] := F.binds (ps := ["p", "q"]) fun _ _ _ _ _ _ us hl => match us, hl with | [_, _], _ => rfl
theorem bp_segment {K : PySem.W.Frag} {f : Addr} {fd : FuncData} (F : Fun K "segment" "segment" sp_segment f fd) : Binds K fd ((dp_segment).names.take (dp_segment).np) [] := F.binds (ps := ["p", "q"]) fun _ _ _ _ _ _ us hl => match us, hl with | [_, _], _ => rfl
theorem bp_image_of_point {K : PySem.W.Frag} {f : Addr} {fd : FuncData} (F : Fun K "image_of_point" "image_of_point" sp_image_of_point f fd) : Binds K fd ((dp_image_of_point).names.take (dp_image_of_point).np) [] := F.binds (ps := ["matrix", "point"]) fun _ _ _ _ _ _ us hl => match us, hl with | [_, _], _ => rfl
theorem bp_image_of_segments {K : PySem.W.Frag} {f : Addr} {fd : FuncData} (F : Fun K "image_of_segments" "image_of_segments" sp_image_of_segments f fd) : Binds K fd ((dp_image_of_segments).names.take (dp_image_of_segments).np) [] := F.binds (ps := ["matrix", "segments"]) fun _ _ _ _ _ _ us hl => match us, hl with | [_, _], _ => rfl
theorem bf_law_draws {K : PySem.W.Frag} {f : Addr} {fd : FuncData} (F : Fun K "_law_draws" "_law_draws" sf_law_draws f fd) : Binds K fd ((df_law_draws).names.take (df_law_draws).np) [] := F.binds (ps := ["script", "many"]) fun _ _ _ _ _ _ us hl => match us, hl with | [_, _], _ => rfl
theorem bf_law_take {K : PySem.W.Frag} {f : Addr} {fd : FuncData} (F : Fun K "_law_take" "_law_take" sf_law_take f fd) : Binds K fd ((df_law_take).names.take (df_law_take).np) [] := F.binds (ps := ["draws", "many"]) fun _ _ _ _ _ _ us hl => match us, hl with | [_, _], _ => rfl
theorem bf_law_pick {K : PySem.W.Frag} {f : Addr} {fd : FuncData} (F : Fun K "_law_pick" "_law_pick" sf_law_pick f fd) : Binds K fd ((df_law_pick).names.take (df_law_pick).np) [] := F.binds (ps := ["draws", "row"]) fun _ _ _ _ _ _ us hl => match us, hl with | [_, _], _ => rfl
theorem bf_law_same {K : PySem.W.Frag} {f : Addr} {fd : FuncData} (F : Fun K "_law_same" "_law_same" sf_law_same f fd) : Binds K fd ((df_law_same).names.take (df_law_same).np) [] := F.binds (ps := ["actual", "due"]) fun _ _ _ _ _ _ us hl => match us, hl with | [_, _], _ => rfl
theorem bf_law_gcd {K : PySem.W.Frag} {f : Addr} {fd : FuncData} (F : Fun K "_law_gcd" "_law_gcd" sf_law_gcd f fd) : Binds K fd ((df_law_gcd).names.take (df_law_gcd).np) [] := F.binds (ps := ["one", "other"]) fun _ _ _ _ _ _ us hl => match us, hl with | [_, _], _ => rfl
theorem bf_law_frac {K : PySem.W.Frag} {f : Addr} {fd : FuncData} (F : Fun K "_law_frac" "_law_frac" sf_law_frac f fd) : Binds K fd ((df_law_frac).names.take (df_law_frac).np) [] := F.binds (ps := ["n", "d"]) fun _ _ _ _ _ _ us hl => match us, hl with | [_, _], _ => rfl
theorem bf_law_plus {K : PySem.W.Frag} {f : Addr} {fd : FuncData} (F : Fun K "_law_plus" "_law_plus" sf_law_plus f fd) : Binds K fd ((df_law_plus).names.take (df_law_plus).np) [] := F.binds (ps := ["one", "other"]) fun _ _ _ _ _ _ us hl => match us, hl with | [_, _], _ => rfl
theorem bf_law_minus {K : PySem.W.Frag} {f : Addr} {fd : FuncData} (F : Fun K "_law_minus" "_law_minus" sf_law_minus f fd) : Binds K fd ((df_law_minus).names.take (df_law_minus).np) [] := F.binds (ps := ["one", "other"]) fun _ _ _ _ _ _ us hl => match us, hl with | [_, _], _ => rfl
theorem bf_law_product {K : PySem.W.Frag} {f : Addr} {fd : FuncData} (F : Fun K "_law_product" "_law_product" sf_law_product f fd) : Binds K fd ((df_law_product).names.take (df_law_product).np) [] := F.binds (ps := ["one", "other"]) fun _ _ _ _ _ _ us hl => match us, hl with | [_, _], _ => rfl
theorem bf_law_less {K : PySem.W.Frag} {f : Addr} {fd : FuncData} (F : Fun K "_law_less" "_law_less" sf_law_less f fd) : Binds K fd ((df_law_less).names.take (df_law_less).np) [] := F.binds (ps := ["one", "other"]) fun _ _ _ _ _ _ us hl => match us, hl with | [_, _], _ => rfl
theorem bf_law_ahead {K : PySem.W.Frag} {f : Addr} {fd : FuncData} (F : Fun K "_law_ahead" "_law_ahead" sf_law_ahead f fd) : Binds K fd ((df_law_ahead).names.take (df_law_ahead).np) [] := F.binds (ps := ["p", "q"]) fun _ _ _ _ _ _ us hl => match us, hl with | [_, _], _ => rfl
theorem bf_law_joining {K : PySem.W.Frag} {f : Addr} {fd : FuncData} (F : Fun K "_law_joining" "_law_joining" sf_law_joining f fd) : Binds K fd ((df_law_joining).names.take (df_law_joining).np) [] := F.binds (ps := ["p", "q"]) fun _ _ _ _ _ _ us hl => match us, hl with | [_, _], _ => rfl
theorem bf_law_step {K : PySem.W.Frag} {f : Addr} {fd : FuncData} (F : Fun K "_law_step" "_law_step" sf_law_step f fd) : Binds K fd ((df_law_step).names.take (df_law_step).np) [] := F.binds (ps := ["a", "n"]) fun _ _ _ _ _ _ us hl => match us, hl with | [_, _], _ => rfl
theorem bf_law_corner {K : PySem.W.Frag} {f : Addr} {fd : FuncData} (F : Fun K "_law_corner" "_law_corner" sf_law_corner f fd) : Binds K fd ((df_law_corner).names.take (df_law_corner).np) [] := F.binds (ps := ["draws", "size", "den"]) fun _ _ _ _ _ _ us hl => match us, hl with | [_, _, _], _ => rfl
theorem bf_law_drawn_one {K : PySem.W.Frag} {f : Addr} {fd : FuncData} (F : Fun K "_law_drawn_one" "_law_drawn_one" sf_law_drawn_one f fd) : Binds K fd ((df_law_drawn_one).names.take (df_law_drawn_one).np) [] := F.binds (ps := ["draws", "size", "den"]) fun _ _ _ _ _ _ us hl => match us, hl with | [_, _, _], _ => rfl
theorem bf_law_moved_spot {K : PySem.W.Frag} {f : Addr} {fd : FuncData} (F : Fun K "_law_moved_spot" "_law_moved_spot" sf_law_moved_spot f fd) : Binds K fd ((df_law_moved_spot).names.take (df_law_moved_spot).np) [] := F.binds (ps := ["point", "factor", "shift"]) fun _ _ _ _ _ _ us hl => match us, hl with | [_, _, _], _ => rfl
theorem bf_law_drawn {K : PySem.W.Frag} {f : Addr} {fd : FuncData} (F : Fun K "_law_drawn" "_law_drawn" sf_law_drawn f fd) : Binds K fd ((df_law_drawn).names.take (df_law_drawn).np) [] := F.binds (ps := ["draws", "many"]) fun _ _ _ _ _ _ us hl => match us, hl with | [_, _], _ => rfl
theorem bf_law_drawn_matrix {K : PySem.W.Frag} {f : Addr} {fd : FuncData} (F : Fun K "_law_drawn_matrix" "_law_drawn_matrix" sf_law_drawn_matrix f fd) : Binds K fd ((df_law_drawn_matrix).names.take (df_law_drawn_matrix).np) [] := F.binds (ps := ["draws"]) fun _ _ _ _ _ _ us hl => match us, hl with | [_], _ => rfl
theorem bf_law_imaged {K : PySem.W.Frag} {f : Addr} {fd : FuncData} (F : Fun K "_law_imaged" "_law_imaged" sf_law_imaged f fd) : Binds K fd ((df_law_imaged).names.take (df_law_imaged).np) [] := F.binds (ps := ["matrix", "point"]) fun _ _ _ _ _ _ us hl => match us, hl with | [_, _], _ => rfl
theorem bf_law_imaged_all {K : PySem.W.Frag} {f : Addr} {fd : FuncData} (F : Fun K "_law_imaged_all" "_law_imaged_all" sf_law_imaged_all f fd) : Binds K fd ((df_law_imaged_all).names.take (df_law_imaged_all).np) [] := F.binds (ps := ["matrix", "segments"]) fun _ _ _ _ _ _ us hl => match us, hl with | [_, _], _ => rfl
theorem bp_law {K : PySem.W.Frag} {f : Addr} {fd : FuncData} (F : Fun K "law" "law" sp_law f fd) : Binds K fd ((dp_law).names.take (dp_law).np) [] := F.binds (ps := ["script"]) fun _ _ _ _ _ _ us hl => match us, hl with | [_], _ => rfl
section
variable {w : World} {K : PySem.W.Frag} {h : Heap} {mg : Str → Option Value} {fa : Addr}
theorem md (X : K.In h) (G : h.Ns mainGlobals mg)
    {f0 : Addr} {oc0 kV0 dc0 pm0 cd0 ct0 : Value} {od0 an0 : Option Addr} {sl0 : Array (Option Value)}
    {f1 : Addr} {oc1 kV1 dc1 pm1 cd1 ct1 : Value} {od1 an1 : Option Addr} {sl1 : Array (Option Value)}
    {f2 : Addr} {oc2 kV2 dc2 pm2 cd2 ct2 : Value} {od2 an2 : Option Addr} {sl2 : Array (Option Value)}
    {f3 : Addr} {oc3 kV3 dc3 pm3 cd3 ct3 : Value} {od3 an3 : Option Addr} {sl3 : Array (Option Value)}
    {f4 : Addr} {oc4 kV4 dc4 pm4 cd4 ct4 : Value} {od4 an4 : Option Addr} {sl4 : Array (Option Value)}
    {f5 : Addr} {oc5 kV5 dc5 pm5 cd5 ct5 : Value} {od5 an5 : Option Addr} {sl5 : Array (Option Value)}
    {f6 : Addr} {oc6 kV6 dc6 pm6 cd6 ct6 : Value} {od6 an6 : Option Addr} {sl6 : Array (Option Value)}
    {f7 : Addr} {oc7 kV7 dc7 pm7 cd7 ct7 : Value} {od7 an7 : Option Addr} {sl7 : Array (Option Value)}
    {f8 : Addr} {oc8 kV8 dc8 pm8 cd8 ct8 : Value} {od8 an8 : Option Addr} {sl8 : Array (Option Value)}
    {f9 : Addr} {oc9 kV9 dc9 pm9 cd9 ct9 : Value} {od9 an9 : Option Addr} {sl9 : Array (Option Value)}
    {f10 : Addr} {oc10 kV10 dc10 pm10 cd10 ct10 : Value} {od10 an10 : Option Addr} {sl10 : Array (Option Value)}
    {f11 : Addr} {oc11 kV11 dc11 pm11 cd11 ct11 : Value} {od11 an11 : Option Addr} {sl11 : Array (Option Value)}
    {f12 : Addr} {oc12 kV12 dc12 pm12 cd12 ct12 : Value} {od12 an12 : Option Addr} {sl12 : Array (Option Value)}
    {f13 : Addr} {oc13 kV13 dc13 pm13 cd13 ct13 : Value} {od13 an13 : Option Addr} {sl13 : Array (Option Value)}
    {f14 : Addr} {oc14 kV14 dc14 pm14 cd14 ct14 : Value} {od14 an14 : Option Addr} {sl14 : Array (Option Value)}
    {f15 : Addr} {oc15 kV15 dc15 pm15 cd15 ct15 : Value} {od15 an15 : Option Addr} {sl15 : Array (Option Value)}
    {f16 : Addr} {oc16 kV16 dc16 pm16 cd16 ct16 : Value} {od16 an16 : Option Addr} {sl16 : Array (Option Value)}
    {f17 : Addr} {oc17 kV17 dc17 pm17 cd17 ct17 : Value} {od17 an17 : Option Addr} {sl17 : Array (Option Value)}
    {f18 : Addr} {oc18 kV18 dc18 pm18 cd18 ct18 : Value} {od18 an18 : Option Addr} {sl18 : Array (Option Value)}
    {f19 : Addr} {oc19 kV19 dc19 pm19 cd19 ct19 : Value} {od19 an19 : Option Addr} {sl19 : Array (Option Value)}
    {f20 : Addr} {oc20 kV20 dc20 pm20 cd20 ct20 : Value} {od20 an20 : Option Addr} {sl20 : Array (Option Value)}
    {f21 : Addr} {oc21 kV21 dc21 pm21 cd21 ct21 : Value} {od21 an21 : Option Addr} {sl21 : Array (Option Value)}
    {f22 : Addr} {oc22 kV22 dc22 pm22 cd22 ct22 : Value} {od22 an22 : Option Addr} {sl22 : Array (Option Value)}
    {f23 : Addr} {oc23 kV23 dc23 pm23 cd23 ct23 : Value} {od23 an23 : Option Addr} {sl23 : Array (Option Value)}
    {f24 : Addr} {oc24 kV24 dc24 pm24 cd24 ct24 : Value} {od24 an24 : Option Addr} {sl24 : Array (Option Value)}
    {f25 : Addr} {oc25 kV25 dc25 pm25 cd25 ct25 : Value} {od25 an25 : Option Addr} {sl25 : Array (Option Value)}
    {f26 : Addr} {oc26 kV26 dc26 pm26 cd26 ct26 : Value} {od26 an26 : Option Addr} {sl26 : Array (Option Value)}
    {f27 : Addr} {oc27 kV27 dc27 pm27 cd27 ct27 : Value} {od27 an27 : Option Addr} {sl27 : Array (Option Value)}
    {f28 : Addr} {oc28 kV28 dc28 pm28 cd28 ct28 : Value} {od28 an28 : Option Addr} {sl28 : Array (Option Value)}
    {f29 : Addr} {oc29 kV29 dc29 pm29 cd29 ct29 : Value} {od29 an29 : Option Addr} {sl29 : Array (Option Value)}
    (a0 : PySem.W.nsIn K mainGlobals "fraction" = some (some (.ref f0))) (l0 : K.lookup f0 = some ⟨oc0, od0, .func (PySem.W.fnOf "fraction" "fraction" (defArgs sp_fraction) (defBody sp_fraction) (defScope sp_fraction) .none kV0 dc0 pm0 an0 cd0 ct0), sl0⟩) (c0 : PySem.W.codeIn K cd0 "fraction" = true) (k0 : PySem.W.keepIn K (.ref f0) = true)
    (a1 : PySem.W.nsIn K mainGlobals "add" = some (some (.ref f1))) (l1 : K.lookup f1 = some ⟨oc1, od1, .func (PySem.W.fnOf "add" "add" (defArgs sp_add) (defBody sp_add) (defScope sp_add) .none kV1 dc1 pm1 an1 cd1 ct1), sl1⟩) (c1 : PySem.W.codeIn K cd1 "add" = true) (k1 : PySem.W.keepIn K (.ref f1) = true)
    (a2 : PySem.W.nsIn K mainGlobals "multiply" = some (some (.ref f2))) (l2 : K.lookup f2 = some ⟨oc2, od2, .func (PySem.W.fnOf "multiply" "multiply" (defArgs sp_multiply) (defBody sp_multiply) (defScope sp_multiply) .none kV2 dc2 pm2 an2 cd2 ct2), sl2⟩) (c2 : PySem.W.codeIn K cd2 "multiply" = true) (k2 : PySem.W.keepIn K (.ref f2) = true)
    (a3 : PySem.W.nsIn K mainGlobals "sign" = some (some (.ref f3))) (l3 : K.lookup f3 = some ⟨oc3, od3, .func (PySem.W.fnOf "sign" "sign" (defArgs sp_sign) (defBody sp_sign) (defScope sp_sign) .none kV3 dc3 pm3 an3 cd3 ct3), sl3⟩) (c3 : PySem.W.codeIn K cd3 "sign" = true) (k3 : PySem.W.keepIn K (.ref f3) = true)
    (a4 : PySem.W.nsIn K mainGlobals "compare_fractions" = some (some (.ref f4))) (l4 : K.lookup f4 = some ⟨oc4, od4, .func (PySem.W.fnOf "compare_fractions" "compare_fractions" (defArgs sp_compare_fractions) (defBody sp_compare_fractions) (defScope sp_compare_fractions) .none kV4 dc4 pm4 an4 cd4 ct4), sl4⟩) (c4 : PySem.W.codeIn K cd4 "compare_fractions" = true) (k4 : PySem.W.keepIn K (.ref f4) = true)
    (a5 : PySem.W.nsIn K mainGlobals "compare_points" = some (some (.ref f5))) (l5 : K.lookup f5 = some ⟨oc5, od5, .func (PySem.W.fnOf "compare_points" "compare_points" (defArgs sp_compare_points) (defBody sp_compare_points) (defScope sp_compare_points) .none kV5 dc5 pm5 an5 cd5 ct5), sl5⟩) (c5 : PySem.W.codeIn K cd5 "compare_points" = true) (k5 : PySem.W.keepIn K (.ref f5) = true)
    (a6 : PySem.W.nsIn K mainGlobals "segment" = some (some (.ref f6))) (l6 : K.lookup f6 = some ⟨oc6, od6, .func (PySem.W.fnOf "segment" "segment" (defArgs sp_segment) (defBody sp_segment) (defScope sp_segment) .none kV6 dc6 pm6 an6 cd6 ct6), sl6⟩) (c6 : PySem.W.codeIn K cd6 "segment" = true) (k6 : PySem.W.keepIn K (.ref f6) = true)
    (a7 : PySem.W.nsIn K mainGlobals "image_of_point" = some (some (.ref f7))) (l7 : K.lookup f7 = some ⟨oc7, od7, .func (PySem.W.fnOf "image_of_point" "image_of_point" (defArgs sp_image_of_point) (defBody sp_image_of_point) (defScope sp_image_of_point) .none kV7 dc7 pm7 an7 cd7 ct7), sl7⟩) (c7 : PySem.W.codeIn K cd7 "image_of_point" = true) (k7 : PySem.W.keepIn K (.ref f7) = true)
    (a8 : PySem.W.nsIn K mainGlobals "image_of_segments" = some (some (.ref f8))) (l8 : K.lookup f8 = some ⟨oc8, od8, .func (PySem.W.fnOf "image_of_segments" "image_of_segments" (defArgs sp_image_of_segments) (defBody sp_image_of_segments) (defScope sp_image_of_segments) .none kV8 dc8 pm8 an8 cd8 ct8), sl8⟩) (c8 : PySem.W.codeIn K cd8 "image_of_segments" = true) (k8 : PySem.W.keepIn K (.ref f8) = true)
    (a9 : PySem.W.nsIn K mainGlobals "_law_draws" = some (some (.ref f9))) (l9 : K.lookup f9 = some ⟨oc9, od9, .func (PySem.W.fnOf "_law_draws" "_law_draws" (defArgs sf_law_draws) (defBody sf_law_draws) (defScope sf_law_draws) .none kV9 dc9 pm9 an9 cd9 ct9), sl9⟩) (c9 : PySem.W.codeIn K cd9 "_law_draws" = true) (k9 : PySem.W.keepIn K (.ref f9) = true)
    (a10 : PySem.W.nsIn K mainGlobals "_law_take" = some (some (.ref f10))) (l10 : K.lookup f10 = some ⟨oc10, od10, .func (PySem.W.fnOf "_law_take" "_law_take" (defArgs sf_law_take) (defBody sf_law_take) (defScope sf_law_take) .none kV10 dc10 pm10 an10 cd10 ct10), sl10⟩) (c10 : PySem.W.codeIn K cd10 "_law_take" = true) (k10 : PySem.W.keepIn K (.ref f10) = true)
    (a11 : PySem.W.nsIn K mainGlobals "_law_pick" = some (some (.ref f11))) (l11 : K.lookup f11 = some ⟨oc11, od11, .func (PySem.W.fnOf "_law_pick" "_law_pick" (defArgs sf_law_pick) (defBody sf_law_pick) (defScope sf_law_pick) .none kV11 dc11 pm11 an11 cd11 ct11), sl11⟩) (c11 : PySem.W.codeIn K cd11 "_law_pick" = true) (k11 : PySem.W.keepIn K (.ref f11) = true)
    (a12 : PySem.W.nsIn K mainGlobals "_law_same" = some (some (.ref f12))) (l12 : K.lookup f12 = some ⟨oc12, od12, .func (PySem.W.fnOf "_law_same" "_law_same" (defArgs sf_law_same) (defBody sf_law_same) (defScope sf_law_same) .none kV12 dc12 pm12 an12 cd12 ct12), sl12⟩) (c12 : PySem.W.codeIn K cd12 "_law_same" = true) (k12 : PySem.W.keepIn K (.ref f12) = true)
    (a13 : PySem.W.nsIn K mainGlobals "_law_gcd" = some (some (.ref f13))) (l13 : K.lookup f13 = some ⟨oc13, od13, .func (PySem.W.fnOf "_law_gcd" "_law_gcd" (defArgs sf_law_gcd) (defBody sf_law_gcd) (defScope sf_law_gcd) .none kV13 dc13 pm13 an13 cd13 ct13), sl13⟩) (c13 : PySem.W.codeIn K cd13 "_law_gcd" = true) (k13 : PySem.W.keepIn K (.ref f13) = true)
    (a14 : PySem.W.nsIn K mainGlobals "_law_frac" = some (some (.ref f14))) (l14 : K.lookup f14 = some ⟨oc14, od14, .func (PySem.W.fnOf "_law_frac" "_law_frac" (defArgs sf_law_frac) (defBody sf_law_frac) (defScope sf_law_frac) .none kV14 dc14 pm14 an14 cd14 ct14), sl14⟩) (c14 : PySem.W.codeIn K cd14 "_law_frac" = true) (k14 : PySem.W.keepIn K (.ref f14) = true)
    (a15 : PySem.W.nsIn K mainGlobals "_law_plus" = some (some (.ref f15))) (l15 : K.lookup f15 = some ⟨oc15, od15, .func (PySem.W.fnOf "_law_plus" "_law_plus" (defArgs sf_law_plus) (defBody sf_law_plus) (defScope sf_law_plus) .none kV15 dc15 pm15 an15 cd15 ct15), sl15⟩) (c15 : PySem.W.codeIn K cd15 "_law_plus" = true) (k15 : PySem.W.keepIn K (.ref f15) = true)
    (a16 : PySem.W.nsIn K mainGlobals "_law_minus" = some (some (.ref f16))) (l16 : K.lookup f16 = some ⟨oc16, od16, .func (PySem.W.fnOf "_law_minus" "_law_minus" (defArgs sf_law_minus) (defBody sf_law_minus) (defScope sf_law_minus) .none kV16 dc16 pm16 an16 cd16 ct16), sl16⟩) (c16 : PySem.W.codeIn K cd16 "_law_minus" = true) (k16 : PySem.W.keepIn K (.ref f16) = true)
    (a17 : PySem.W.nsIn K mainGlobals "_law_product" = some (some (.ref f17))) (l17 : K.lookup f17 = some ⟨oc17, od17, .func (PySem.W.fnOf "_law_product" "_law_product" (defArgs sf_law_product) (defBody sf_law_product) (defScope sf_law_product) .none kV17 dc17 pm17 an17 cd17 ct17), sl17⟩) (c17 : PySem.W.codeIn K cd17 "_law_product" = true) (k17 : PySem.W.keepIn K (.ref f17) = true)
    (a18 : PySem.W.nsIn K mainGlobals "_law_less" = some (some (.ref f18))) (l18 : K.lookup f18 = some ⟨oc18, od18, .func (PySem.W.fnOf "_law_less" "_law_less" (defArgs sf_law_less) (defBody sf_law_less) (defScope sf_law_less) .none kV18 dc18 pm18 an18 cd18 ct18), sl18⟩) (c18 : PySem.W.codeIn K cd18 "_law_less" = true) (k18 : PySem.W.keepIn K (.ref f18) = true)
    (a19 : PySem.W.nsIn K mainGlobals "_law_ahead" = some (some (.ref f19))) (l19 : K.lookup f19 = some ⟨oc19, od19, .func (PySem.W.fnOf "_law_ahead" "_law_ahead" (defArgs sf_law_ahead) (defBody sf_law_ahead) (defScope sf_law_ahead) .none kV19 dc19 pm19 an19 cd19 ct19), sl19⟩) (c19 : PySem.W.codeIn K cd19 "_law_ahead" = true) (k19 : PySem.W.keepIn K (.ref f19) = true)
    (a20 : PySem.W.nsIn K mainGlobals "_law_joining" = some (some (.ref f20))) (l20 : K.lookup f20 = some ⟨oc20, od20, .func (PySem.W.fnOf "_law_joining" "_law_joining" (defArgs sf_law_joining) (defBody sf_law_joining) (defScope sf_law_joining) .none kV20 dc20 pm20 an20 cd20 ct20), sl20⟩) (c20 : PySem.W.codeIn K cd20 "_law_joining" = true) (k20 : PySem.W.keepIn K (.ref f20) = true)
    (a21 : PySem.W.nsIn K mainGlobals "_law_step" = some (some (.ref f21))) (l21 : K.lookup f21 = some ⟨oc21, od21, .func (PySem.W.fnOf "_law_step" "_law_step" (defArgs sf_law_step) (defBody sf_law_step) (defScope sf_law_step) .none kV21 dc21 pm21 an21 cd21 ct21), sl21⟩) (c21 : PySem.W.codeIn K cd21 "_law_step" = true) (k21 : PySem.W.keepIn K (.ref f21) = true)
    (a22 : PySem.W.nsIn K mainGlobals "_law_corner" = some (some (.ref f22))) (l22 : K.lookup f22 = some ⟨oc22, od22, .func (PySem.W.fnOf "_law_corner" "_law_corner" (defArgs sf_law_corner) (defBody sf_law_corner) (defScope sf_law_corner) .none kV22 dc22 pm22 an22 cd22 ct22), sl22⟩) (c22 : PySem.W.codeIn K cd22 "_law_corner" = true) (k22 : PySem.W.keepIn K (.ref f22) = true)
    (a23 : PySem.W.nsIn K mainGlobals "_law_drawn_one" = some (some (.ref f23))) (l23 : K.lookup f23 = some ⟨oc23, od23, .func (PySem.W.fnOf "_law_drawn_one" "_law_drawn_one" (defArgs sf_law_drawn_one) (defBody sf_law_drawn_one) (defScope sf_law_drawn_one) .none kV23 dc23 pm23 an23 cd23 ct23), sl23⟩) (c23 : PySem.W.codeIn K cd23 "_law_drawn_one" = true) (k23 : PySem.W.keepIn K (.ref f23) = true)
    (a24 : PySem.W.nsIn K mainGlobals "_law_moved_spot" = some (some (.ref f24))) (l24 : K.lookup f24 = some ⟨oc24, od24, .func (PySem.W.fnOf "_law_moved_spot" "_law_moved_spot" (defArgs sf_law_moved_spot) (defBody sf_law_moved_spot) (defScope sf_law_moved_spot) .none kV24 dc24 pm24 an24 cd24 ct24), sl24⟩) (c24 : PySem.W.codeIn K cd24 "_law_moved_spot" = true) (k24 : PySem.W.keepIn K (.ref f24) = true)
    (a25 : PySem.W.nsIn K mainGlobals "_law_drawn" = some (some (.ref f25))) (l25 : K.lookup f25 = some ⟨oc25, od25, .func (PySem.W.fnOf "_law_drawn" "_law_drawn" (defArgs sf_law_drawn) (defBody sf_law_drawn) (defScope sf_law_drawn) .none kV25 dc25 pm25 an25 cd25 ct25), sl25⟩) (c25 : PySem.W.codeIn K cd25 "_law_drawn" = true) (k25 : PySem.W.keepIn K (.ref f25) = true)
    (a26 : PySem.W.nsIn K mainGlobals "_law_drawn_matrix" = some (some (.ref f26))) (l26 : K.lookup f26 = some ⟨oc26, od26, .func (PySem.W.fnOf "_law_drawn_matrix" "_law_drawn_matrix" (defArgs sf_law_drawn_matrix) (defBody sf_law_drawn_matrix) (defScope sf_law_drawn_matrix) .none kV26 dc26 pm26 an26 cd26 ct26), sl26⟩) (c26 : PySem.W.codeIn K cd26 "_law_drawn_matrix" = true) (k26 : PySem.W.keepIn K (.ref f26) = true)
    (a27 : PySem.W.nsIn K mainGlobals "_law_imaged" = some (some (.ref f27))) (l27 : K.lookup f27 = some ⟨oc27, od27, .func (PySem.W.fnOf "_law_imaged" "_law_imaged" (defArgs sf_law_imaged) (defBody sf_law_imaged) (defScope sf_law_imaged) .none kV27 dc27 pm27 an27 cd27 ct27), sl27⟩) (c27 : PySem.W.codeIn K cd27 "_law_imaged" = true) (k27 : PySem.W.keepIn K (.ref f27) = true)
    (a28 : PySem.W.nsIn K mainGlobals "_law_imaged_all" = some (some (.ref f28))) (l28 : K.lookup f28 = some ⟨oc28, od28, .func (PySem.W.fnOf "_law_imaged_all" "_law_imaged_all" (defArgs sf_law_imaged_all) (defBody sf_law_imaged_all) (defScope sf_law_imaged_all) .none kV28 dc28 pm28 an28 cd28 ct28), sl28⟩) (c28 : PySem.W.codeIn K cd28 "_law_imaged_all" = true) (k28 : PySem.W.keepIn K (.ref f28) = true)
    (a29 : PySem.W.nsIn K mainGlobals "law" = some (some (.ref f29))) (l29 : K.lookup f29 = some ⟨oc29, od29, .func (PySem.W.fnOf "law" "law" (defArgs sp_law) (defBody sp_law) (defScope sp_law) .none kV29 dc29 pm29 an29 cd29 ct29), sl29⟩) (c29 : PySem.W.codeIn K cd29 "law" = true) (k29 : PySem.W.keepIn K (.ref f29) = true)
    (z_len : PySem.W.nsIn K mainGlobals "len" = some none)
    (z_int : PySem.W.nsIn K mainGlobals "int" = some none)
    (z_abs : PySem.W.nsIn K mainGlobals "abs" = some none)
    (z_max : PySem.W.nsIn K mainGlobals "max" = some none)
    (z_min : PySem.W.nsIn K mainGlobals "min" = some none)
    (z_list : PySem.W.nsIn K mainGlobals "list" = some none)
    (z_tuple : PySem.W.nsIn K mainGlobals "tuple" = some none)
    (z_sum : PySem.W.nsIn K mainGlobals "sum" = some none)
    (z_any : PySem.W.nsIn K mainGlobals "any" = some none)
    (z_all : PySem.W.nsIn K mainGlobals "all" = some none)
    (z_range : PySem.W.nsIn K mainGlobals "range" = some none)
    (z_isinstance : PySem.W.nsIn K mainGlobals "isinstance" = some none)
    (z_bool : PySem.W.nsIn K mainGlobals "bool" = some none)
    (z_str : PySem.W.nsIn K mainGlobals "str" = some none) (z_gcd : PySem.W.nsIn K mainGlobals "gcd" = some (some (.builtin "math.gcd"))) : Md T pg K mg where
  fn := rfl
  defs := fun f fd hT => by
    match f, hT with
    | 0, hT => cases hT; exact ⟨sp_fraction, f0, _, fun_mk l0 c0 k0, PySem.W.mg_of X G a0, bp_fraction (fun_mk l0 c0 k0), cp_fraction⟩
    | 1, hT => cases hT; exact ⟨sp_add, f1, _, fun_mk l1 c1 k1, PySem.W.mg_of X G a1, bp_add (fun_mk l1 c1 k1), cp_add⟩
    | 2, hT => cases hT; exact ⟨sp_multiply, f2, _, fun_mk l2 c2 k2, PySem.W.mg_of X G a2, bp_multiply (fun_mk l2 c2 k2), cp_multiply⟩
    | 3, hT => cases hT; exact ⟨sp_sign, f3, _, fun_mk l3 c3 k3, PySem.W.mg_of X G a3, bp_sign (fun_mk l3 c3 k3), cp_sign⟩
    | 4, hT => cases hT; exact ⟨sp_compare_fractions, f4, _, fun_mk l4 c4 k4, PySem.W.mg_of X G a4, bp_compare_fractions (fun_mk l4 c4 k4), cp_compare_fractions⟩
    | 5, hT => cases hT; exact ⟨sp_compare_points, f5, _, fun_mk l5 c5 k5, PySem.W.mg_of X G a5, bp_compare_points (fun_mk l5 c5 k5), cp_compare_points⟩
    | 6, hT => cases hT; exact ⟨sp_segment, f6, _, fun_mk l6 c6 k6, PySem.W.mg_of X G a6, bp_segment (fun_mk l6 c6 k6), cp_segment⟩
    | 7, hT => cases hT; exact ⟨sp_image_of_point, f7, _, fun_mk l7 c7 k7, PySem.W.mg_of X G a7, bp_image_of_point (fun_mk l7 c7 k7), cp_image_of_point⟩
    | 8, hT => cases hT; exact ⟨sp_image_of_segments, f8, _, fun_mk l8 c8 k8, PySem.W.mg_of X G a8, bp_image_of_segments (fun_mk l8 c8 k8), cp_image_of_segments⟩
    | 9, hT => cases hT; exact ⟨sf_law_draws, f9, _, fun_mk l9 c9 k9, PySem.W.mg_of X G a9, bf_law_draws (fun_mk l9 c9 k9), cf_law_draws⟩
    | 10, hT => cases hT; exact ⟨sf_law_take, f10, _, fun_mk l10 c10 k10, PySem.W.mg_of X G a10, bf_law_take (fun_mk l10 c10 k10), cf_law_take⟩
    | 11, hT => cases hT; exact ⟨sf_law_pick, f11, _, fun_mk l11 c11 k11, PySem.W.mg_of X G a11, bf_law_pick (fun_mk l11 c11 k11), cf_law_pick⟩
    | 12, hT => cases hT; exact ⟨sf_law_same, f12, _, fun_mk l12 c12 k12, PySem.W.mg_of X G a12, bf_law_same (fun_mk l12 c12 k12), cf_law_same⟩
    | 13, hT => cases hT; exact ⟨sf_law_gcd, f13, _, fun_mk l13 c13 k13, PySem.W.mg_of X G a13, bf_law_gcd (fun_mk l13 c13 k13), cf_law_gcd⟩
    | 14, hT => cases hT; exact ⟨sf_law_frac, f14, _, fun_mk l14 c14 k14, PySem.W.mg_of X G a14, bf_law_frac (fun_mk l14 c14 k14), cf_law_frac⟩
    | 15, hT => cases hT; exact ⟨sf_law_plus, f15, _, fun_mk l15 c15 k15, PySem.W.mg_of X G a15, bf_law_plus (fun_mk l15 c15 k15), cf_law_plus⟩
    | 16, hT => cases hT; exact ⟨sf_law_minus, f16, _, fun_mk l16 c16 k16, PySem.W.mg_of X G a16, bf_law_minus (fun_mk l16 c16 k16), cf_law_minus⟩
    | 17, hT => cases hT; exact ⟨sf_law_product, f17, _, fun_mk l17 c17 k17, PySem.W.mg_of X G a17, bf_law_product (fun_mk l17 c17 k17), cf_law_product⟩
    | 18, hT => cases hT; exact ⟨sf_law_less, f18, _, fun_mk l18 c18 k18, PySem.W.mg_of X G a18, bf_law_less (fun_mk l18 c18 k18), cf_law_less⟩
    | 19, hT => cases hT; exact ⟨sf_law_ahead, f19, _, fun_mk l19 c19 k19, PySem.W.mg_of X G a19, bf_law_ahead (fun_mk l19 c19 k19), cf_law_ahead⟩
    | 20, hT => cases hT; exact ⟨sf_law_joining, f20, _, fun_mk l20 c20 k20, PySem.W.mg_of X G a20, bf_law_joining (fun_mk l20 c20 k20), cf_law_joining⟩
    | 21, hT => cases hT; exact ⟨sf_law_step, f21, _, fun_mk l21 c21 k21, PySem.W.mg_of X G a21, bf_law_step (fun_mk l21 c21 k21), cf_law_step⟩
    | 22, hT => cases hT; exact ⟨sf_law_corner, f22, _, fun_mk l22 c22 k22, PySem.W.mg_of X G a22, bf_law_corner (fun_mk l22 c22 k22), cf_law_corner⟩
    | 23, hT => cases hT; exact ⟨sf_law_drawn_one, f23, _, fun_mk l23 c23 k23, PySem.W.mg_of X G a23, bf_law_drawn_one (fun_mk l23 c23 k23), cf_law_drawn_one⟩
    | 24, hT => cases hT; exact ⟨sf_law_moved_spot, f24, _, fun_mk l24 c24 k24, PySem.W.mg_of X G a24, bf_law_moved_spot (fun_mk l24 c24 k24), cf_law_moved_spot⟩
    | 25, hT => cases hT; exact ⟨sf_law_drawn, f25, _, fun_mk l25 c25 k25, PySem.W.mg_of X G a25, bf_law_drawn (fun_mk l25 c25 k25), cf_law_drawn⟩
    | 26, hT => cases hT; exact ⟨sf_law_drawn_matrix, f26, _, fun_mk l26 c26 k26, PySem.W.mg_of X G a26, bf_law_drawn_matrix (fun_mk l26 c26 k26), cf_law_drawn_matrix⟩
    | 27, hT => cases hT; exact ⟨sf_law_imaged, f27, _, fun_mk l27 c27 k27, PySem.W.mg_of X G a27, bf_law_imaged (fun_mk l27 c27 k27), cf_law_imaged⟩
    | 28, hT => cases hT; exact ⟨sf_law_imaged_all, f28, _, fun_mk l28 c28 k28, PySem.W.mg_of X G a28, bf_law_imaged_all (fun_mk l28 c28 k28), cf_law_imaged_all⟩
    | 29, hT => cases hT; exact ⟨sp_law, f29, _, fun_mk l29 c29 k29, PySem.W.mg_of X G a29, bp_law (fun_mk l29 c29 k29), cp_law⟩
    | _ + 30, hT => cases hT
  bl := fun b hb => by
    cases b <;> first | exact (hb rfl).elim | skip
    · exact PySem.W.mg_none_of X G z_len
    · exact PySem.W.mg_none_of X G z_int
    · exact PySem.W.mg_none_of X G z_abs
    · exact PySem.W.mg_none_of X G z_max
    · exact PySem.W.mg_none_of X G z_min
    · exact PySem.W.mg_none_of X G z_list
    · exact PySem.W.mg_none_of X G z_tuple
    · exact PySem.W.mg_none_of X G z_sum
    · exact PySem.W.mg_none_of X G z_any
    · exact PySem.W.mg_none_of X G z_all
    · exact PySem.W.mg_none_of X G z_range
  isi := PySem.W.mg_none_of X G z_isinstance
  tys := fun t => by
    cases t
    · exact PySem.W.mg_none_of X G z_int
    · exact PySem.W.mg_none_of X G z_bool
    · exact PySem.W.mg_none_of X G z_str
    · exact PySem.W.mg_none_of X G z_list
    · exact PySem.W.mg_none_of X G z_tuple
  gc := fun _ => PySem.W.mg_of X G z_gcd
theorem mk {P : Program} (X : K.In h) (G : h.Ns mainGlobals mg) (hfa : mg "law" = some (.ref fa))
    {f0 : Addr} {oc0 kV0 dc0 pm0 cd0 ct0 : Value} {od0 an0 : Option Addr} {sl0 : Array (Option Value)}
    {f1 : Addr} {oc1 kV1 dc1 pm1 cd1 ct1 : Value} {od1 an1 : Option Addr} {sl1 : Array (Option Value)}
    {f2 : Addr} {oc2 kV2 dc2 pm2 cd2 ct2 : Value} {od2 an2 : Option Addr} {sl2 : Array (Option Value)}
    {f3 : Addr} {oc3 kV3 dc3 pm3 cd3 ct3 : Value} {od3 an3 : Option Addr} {sl3 : Array (Option Value)}
    {f4 : Addr} {oc4 kV4 dc4 pm4 cd4 ct4 : Value} {od4 an4 : Option Addr} {sl4 : Array (Option Value)}
    {f5 : Addr} {oc5 kV5 dc5 pm5 cd5 ct5 : Value} {od5 an5 : Option Addr} {sl5 : Array (Option Value)}
    {f6 : Addr} {oc6 kV6 dc6 pm6 cd6 ct6 : Value} {od6 an6 : Option Addr} {sl6 : Array (Option Value)}
    {f7 : Addr} {oc7 kV7 dc7 pm7 cd7 ct7 : Value} {od7 an7 : Option Addr} {sl7 : Array (Option Value)}
    {f8 : Addr} {oc8 kV8 dc8 pm8 cd8 ct8 : Value} {od8 an8 : Option Addr} {sl8 : Array (Option Value)}
    {f9 : Addr} {oc9 kV9 dc9 pm9 cd9 ct9 : Value} {od9 an9 : Option Addr} {sl9 : Array (Option Value)}
    {f10 : Addr} {oc10 kV10 dc10 pm10 cd10 ct10 : Value} {od10 an10 : Option Addr} {sl10 : Array (Option Value)}
    {f11 : Addr} {oc11 kV11 dc11 pm11 cd11 ct11 : Value} {od11 an11 : Option Addr} {sl11 : Array (Option Value)}
    {f12 : Addr} {oc12 kV12 dc12 pm12 cd12 ct12 : Value} {od12 an12 : Option Addr} {sl12 : Array (Option Value)}
    {f13 : Addr} {oc13 kV13 dc13 pm13 cd13 ct13 : Value} {od13 an13 : Option Addr} {sl13 : Array (Option Value)}
    {f14 : Addr} {oc14 kV14 dc14 pm14 cd14 ct14 : Value} {od14 an14 : Option Addr} {sl14 : Array (Option Value)}
    {f15 : Addr} {oc15 kV15 dc15 pm15 cd15 ct15 : Value} {od15 an15 : Option Addr} {sl15 : Array (Option Value)}
    {f16 : Addr} {oc16 kV16 dc16 pm16 cd16 ct16 : Value} {od16 an16 : Option Addr} {sl16 : Array (Option Value)}
    {f17 : Addr} {oc17 kV17 dc17 pm17 cd17 ct17 : Value} {od17 an17 : Option Addr} {sl17 : Array (Option Value)}
    {f18 : Addr} {oc18 kV18 dc18 pm18 cd18 ct18 : Value} {od18 an18 : Option Addr} {sl18 : Array (Option Value)}
    {f19 : Addr} {oc19 kV19 dc19 pm19 cd19 ct19 : Value} {od19 an19 : Option Addr} {sl19 : Array (Option Value)}
    {f20 : Addr} {oc20 kV20 dc20 pm20 cd20 ct20 : Value} {od20 an20 : Option Addr} {sl20 : Array (Option Value)}
    {f21 : Addr} {oc21 kV21 dc21 pm21 cd21 ct21 : Value} {od21 an21 : Option Addr} {sl21 : Array (Option Value)}
    {f22 : Addr} {oc22 kV22 dc22 pm22 cd22 ct22 : Value} {od22 an22 : Option Addr} {sl22 : Array (Option Value)}
    {f23 : Addr} {oc23 kV23 dc23 pm23 cd23 ct23 : Value} {od23 an23 : Option Addr} {sl23 : Array (Option Value)}
    {f24 : Addr} {oc24 kV24 dc24 pm24 cd24 ct24 : Value} {od24 an24 : Option Addr} {sl24 : Array (Option Value)}
    {f25 : Addr} {oc25 kV25 dc25 pm25 cd25 ct25 : Value} {od25 an25 : Option Addr} {sl25 : Array (Option Value)}
    {f26 : Addr} {oc26 kV26 dc26 pm26 cd26 ct26 : Value} {od26 an26 : Option Addr} {sl26 : Array (Option Value)}
    {f27 : Addr} {oc27 kV27 dc27 pm27 cd27 ct27 : Value} {od27 an27 : Option Addr} {sl27 : Array (Option Value)}
    {f28 : Addr} {oc28 kV28 dc28 pm28 cd28 ct28 : Value} {od28 an28 : Option Addr} {sl28 : Array (Option Value)}
    {f29 : Addr} {oc29 kV29 dc29 pm29 cd29 ct29 : Value} {od29 an29 : Option Addr} {sl29 : Array (Option Value)}
    (a0 : PySem.W.nsIn K mainGlobals "fraction" = some (some (.ref f0))) (l0 : K.lookup f0 = some ⟨oc0, od0, .func (PySem.W.fnOf "fraction" "fraction" (defArgs sp_fraction) (defBody sp_fraction) (defScope sp_fraction) .none kV0 dc0 pm0 an0 cd0 ct0), sl0⟩) (c0 : PySem.W.codeIn K cd0 "fraction" = true) (k0 : PySem.W.keepIn K (.ref f0) = true)
    (a1 : PySem.W.nsIn K mainGlobals "add" = some (some (.ref f1))) (l1 : K.lookup f1 = some ⟨oc1, od1, .func (PySem.W.fnOf "add" "add" (defArgs sp_add) (defBody sp_add) (defScope sp_add) .none kV1 dc1 pm1 an1 cd1 ct1), sl1⟩) (c1 : PySem.W.codeIn K cd1 "add" = true) (k1 : PySem.W.keepIn K (.ref f1) = true)
    (a2 : PySem.W.nsIn K mainGlobals "multiply" = some (some (.ref f2))) (l2 : K.lookup f2 = some ⟨oc2, od2, .func (PySem.W.fnOf "multiply" "multiply" (defArgs sp_multiply) (defBody sp_multiply) (defScope sp_multiply) .none kV2 dc2 pm2 an2 cd2 ct2), sl2⟩) (c2 : PySem.W.codeIn K cd2 "multiply" = true) (k2 : PySem.W.keepIn K (.ref f2) = true)
    (a3 : PySem.W.nsIn K mainGlobals "sign" = some (some (.ref f3))) (l3 : K.lookup f3 = some ⟨oc3, od3, .func (PySem.W.fnOf "sign" "sign" (defArgs sp_sign) (defBody sp_sign) (defScope sp_sign) .none kV3 dc3 pm3 an3 cd3 ct3), sl3⟩) (c3 : PySem.W.codeIn K cd3 "sign" = true) (k3 : PySem.W.keepIn K (.ref f3) = true)
    (a4 : PySem.W.nsIn K mainGlobals "compare_fractions" = some (some (.ref f4))) (l4 : K.lookup f4 = some ⟨oc4, od4, .func (PySem.W.fnOf "compare_fractions" "compare_fractions" (defArgs sp_compare_fractions) (defBody sp_compare_fractions) (defScope sp_compare_fractions) .none kV4 dc4 pm4 an4 cd4 ct4), sl4⟩) (c4 : PySem.W.codeIn K cd4 "compare_fractions" = true) (k4 : PySem.W.keepIn K (.ref f4) = true)
    (a5 : PySem.W.nsIn K mainGlobals "compare_points" = some (some (.ref f5))) (l5 : K.lookup f5 = some ⟨oc5, od5, .func (PySem.W.fnOf "compare_points" "compare_points" (defArgs sp_compare_points) (defBody sp_compare_points) (defScope sp_compare_points) .none kV5 dc5 pm5 an5 cd5 ct5), sl5⟩) (c5 : PySem.W.codeIn K cd5 "compare_points" = true) (k5 : PySem.W.keepIn K (.ref f5) = true)
    (a6 : PySem.W.nsIn K mainGlobals "segment" = some (some (.ref f6))) (l6 : K.lookup f6 = some ⟨oc6, od6, .func (PySem.W.fnOf "segment" "segment" (defArgs sp_segment) (defBody sp_segment) (defScope sp_segment) .none kV6 dc6 pm6 an6 cd6 ct6), sl6⟩) (c6 : PySem.W.codeIn K cd6 "segment" = true) (k6 : PySem.W.keepIn K (.ref f6) = true)
    (a7 : PySem.W.nsIn K mainGlobals "image_of_point" = some (some (.ref f7))) (l7 : K.lookup f7 = some ⟨oc7, od7, .func (PySem.W.fnOf "image_of_point" "image_of_point" (defArgs sp_image_of_point) (defBody sp_image_of_point) (defScope sp_image_of_point) .none kV7 dc7 pm7 an7 cd7 ct7), sl7⟩) (c7 : PySem.W.codeIn K cd7 "image_of_point" = true) (k7 : PySem.W.keepIn K (.ref f7) = true)
    (a8 : PySem.W.nsIn K mainGlobals "image_of_segments" = some (some (.ref f8))) (l8 : K.lookup f8 = some ⟨oc8, od8, .func (PySem.W.fnOf "image_of_segments" "image_of_segments" (defArgs sp_image_of_segments) (defBody sp_image_of_segments) (defScope sp_image_of_segments) .none kV8 dc8 pm8 an8 cd8 ct8), sl8⟩) (c8 : PySem.W.codeIn K cd8 "image_of_segments" = true) (k8 : PySem.W.keepIn K (.ref f8) = true)
    (a9 : PySem.W.nsIn K mainGlobals "_law_draws" = some (some (.ref f9))) (l9 : K.lookup f9 = some ⟨oc9, od9, .func (PySem.W.fnOf "_law_draws" "_law_draws" (defArgs sf_law_draws) (defBody sf_law_draws) (defScope sf_law_draws) .none kV9 dc9 pm9 an9 cd9 ct9), sl9⟩) (c9 : PySem.W.codeIn K cd9 "_law_draws" = true) (k9 : PySem.W.keepIn K (.ref f9) = true)
    (a10 : PySem.W.nsIn K mainGlobals "_law_take" = some (some (.ref f10))) (l10 : K.lookup f10 = some ⟨oc10, od10, .func (PySem.W.fnOf "_law_take" "_law_take" (defArgs sf_law_take) (defBody sf_law_take) (defScope sf_law_take) .none kV10 dc10 pm10 an10 cd10 ct10), sl10⟩) (c10 : PySem.W.codeIn K cd10 "_law_take" = true) (k10 : PySem.W.keepIn K (.ref f10) = true)
    (a11 : PySem.W.nsIn K mainGlobals "_law_pick" = some (some (.ref f11))) (l11 : K.lookup f11 = some ⟨oc11, od11, .func (PySem.W.fnOf "_law_pick" "_law_pick" (defArgs sf_law_pick) (defBody sf_law_pick) (defScope sf_law_pick) .none kV11 dc11 pm11 an11 cd11 ct11), sl11⟩) (c11 : PySem.W.codeIn K cd11 "_law_pick" = true) (k11 : PySem.W.keepIn K (.ref f11) = true)
    (a12 : PySem.W.nsIn K mainGlobals "_law_same" = some (some (.ref f12))) (l12 : K.lookup f12 = some ⟨oc12, od12, .func (PySem.W.fnOf "_law_same" "_law_same" (defArgs sf_law_same) (defBody sf_law_same) (defScope sf_law_same) .none kV12 dc12 pm12 an12 cd12 ct12), sl12⟩) (c12 : PySem.W.codeIn K cd12 "_law_same" = true) (k12 : PySem.W.keepIn K (.ref f12) = true)
    (a13 : PySem.W.nsIn K mainGlobals "_law_gcd" = some (some (.ref f13))) (l13 : K.lookup f13 = some ⟨oc13, od13, .func (PySem.W.fnOf "_law_gcd" "_law_gcd" (defArgs sf_law_gcd) (defBody sf_law_gcd) (defScope sf_law_gcd) .none kV13 dc13 pm13 an13 cd13 ct13), sl13⟩) (c13 : PySem.W.codeIn K cd13 "_law_gcd" = true) (k13 : PySem.W.keepIn K (.ref f13) = true)
    (a14 : PySem.W.nsIn K mainGlobals "_law_frac" = some (some (.ref f14))) (l14 : K.lookup f14 = some ⟨oc14, od14, .func (PySem.W.fnOf "_law_frac" "_law_frac" (defArgs sf_law_frac) (defBody sf_law_frac) (defScope sf_law_frac) .none kV14 dc14 pm14 an14 cd14 ct14), sl14⟩) (c14 : PySem.W.codeIn K cd14 "_law_frac" = true) (k14 : PySem.W.keepIn K (.ref f14) = true)
    (a15 : PySem.W.nsIn K mainGlobals "_law_plus" = some (some (.ref f15))) (l15 : K.lookup f15 = some ⟨oc15, od15, .func (PySem.W.fnOf "_law_plus" "_law_plus" (defArgs sf_law_plus) (defBody sf_law_plus) (defScope sf_law_plus) .none kV15 dc15 pm15 an15 cd15 ct15), sl15⟩) (c15 : PySem.W.codeIn K cd15 "_law_plus" = true) (k15 : PySem.W.keepIn K (.ref f15) = true)
    (a16 : PySem.W.nsIn K mainGlobals "_law_minus" = some (some (.ref f16))) (l16 : K.lookup f16 = some ⟨oc16, od16, .func (PySem.W.fnOf "_law_minus" "_law_minus" (defArgs sf_law_minus) (defBody sf_law_minus) (defScope sf_law_minus) .none kV16 dc16 pm16 an16 cd16 ct16), sl16⟩) (c16 : PySem.W.codeIn K cd16 "_law_minus" = true) (k16 : PySem.W.keepIn K (.ref f16) = true)
    (a17 : PySem.W.nsIn K mainGlobals "_law_product" = some (some (.ref f17))) (l17 : K.lookup f17 = some ⟨oc17, od17, .func (PySem.W.fnOf "_law_product" "_law_product" (defArgs sf_law_product) (defBody sf_law_product) (defScope sf_law_product) .none kV17 dc17 pm17 an17 cd17 ct17), sl17⟩) (c17 : PySem.W.codeIn K cd17 "_law_product" = true) (k17 : PySem.W.keepIn K (.ref f17) = true)
    (a18 : PySem.W.nsIn K mainGlobals "_law_less" = some (some (.ref f18))) (l18 : K.lookup f18 = some ⟨oc18, od18, .func (PySem.W.fnOf "_law_less" "_law_less" (defArgs sf_law_less) (defBody sf_law_less) (defScope sf_law_less) .none kV18 dc18 pm18 an18 cd18 ct18), sl18⟩) (c18 : PySem.W.codeIn K cd18 "_law_less" = true) (k18 : PySem.W.keepIn K (.ref f18) = true)
    (a19 : PySem.W.nsIn K mainGlobals "_law_ahead" = some (some (.ref f19))) (l19 : K.lookup f19 = some ⟨oc19, od19, .func (PySem.W.fnOf "_law_ahead" "_law_ahead" (defArgs sf_law_ahead) (defBody sf_law_ahead) (defScope sf_law_ahead) .none kV19 dc19 pm19 an19 cd19 ct19), sl19⟩) (c19 : PySem.W.codeIn K cd19 "_law_ahead" = true) (k19 : PySem.W.keepIn K (.ref f19) = true)
    (a20 : PySem.W.nsIn K mainGlobals "_law_joining" = some (some (.ref f20))) (l20 : K.lookup f20 = some ⟨oc20, od20, .func (PySem.W.fnOf "_law_joining" "_law_joining" (defArgs sf_law_joining) (defBody sf_law_joining) (defScope sf_law_joining) .none kV20 dc20 pm20 an20 cd20 ct20), sl20⟩) (c20 : PySem.W.codeIn K cd20 "_law_joining" = true) (k20 : PySem.W.keepIn K (.ref f20) = true)
    (a21 : PySem.W.nsIn K mainGlobals "_law_step" = some (some (.ref f21))) (l21 : K.lookup f21 = some ⟨oc21, od21, .func (PySem.W.fnOf "_law_step" "_law_step" (defArgs sf_law_step) (defBody sf_law_step) (defScope sf_law_step) .none kV21 dc21 pm21 an21 cd21 ct21), sl21⟩) (c21 : PySem.W.codeIn K cd21 "_law_step" = true) (k21 : PySem.W.keepIn K (.ref f21) = true)
    (a22 : PySem.W.nsIn K mainGlobals "_law_corner" = some (some (.ref f22))) (l22 : K.lookup f22 = some ⟨oc22, od22, .func (PySem.W.fnOf "_law_corner" "_law_corner" (defArgs sf_law_corner) (defBody sf_law_corner) (defScope sf_law_corner) .none kV22 dc22 pm22 an22 cd22 ct22), sl22⟩) (c22 : PySem.W.codeIn K cd22 "_law_corner" = true) (k22 : PySem.W.keepIn K (.ref f22) = true)
    (a23 : PySem.W.nsIn K mainGlobals "_law_drawn_one" = some (some (.ref f23))) (l23 : K.lookup f23 = some ⟨oc23, od23, .func (PySem.W.fnOf "_law_drawn_one" "_law_drawn_one" (defArgs sf_law_drawn_one) (defBody sf_law_drawn_one) (defScope sf_law_drawn_one) .none kV23 dc23 pm23 an23 cd23 ct23), sl23⟩) (c23 : PySem.W.codeIn K cd23 "_law_drawn_one" = true) (k23 : PySem.W.keepIn K (.ref f23) = true)
    (a24 : PySem.W.nsIn K mainGlobals "_law_moved_spot" = some (some (.ref f24))) (l24 : K.lookup f24 = some ⟨oc24, od24, .func (PySem.W.fnOf "_law_moved_spot" "_law_moved_spot" (defArgs sf_law_moved_spot) (defBody sf_law_moved_spot) (defScope sf_law_moved_spot) .none kV24 dc24 pm24 an24 cd24 ct24), sl24⟩) (c24 : PySem.W.codeIn K cd24 "_law_moved_spot" = true) (k24 : PySem.W.keepIn K (.ref f24) = true)
    (a25 : PySem.W.nsIn K mainGlobals "_law_drawn" = some (some (.ref f25))) (l25 : K.lookup f25 = some ⟨oc25, od25, .func (PySem.W.fnOf "_law_drawn" "_law_drawn" (defArgs sf_law_drawn) (defBody sf_law_drawn) (defScope sf_law_drawn) .none kV25 dc25 pm25 an25 cd25 ct25), sl25⟩) (c25 : PySem.W.codeIn K cd25 "_law_drawn" = true) (k25 : PySem.W.keepIn K (.ref f25) = true)
    (a26 : PySem.W.nsIn K mainGlobals "_law_drawn_matrix" = some (some (.ref f26))) (l26 : K.lookup f26 = some ⟨oc26, od26, .func (PySem.W.fnOf "_law_drawn_matrix" "_law_drawn_matrix" (defArgs sf_law_drawn_matrix) (defBody sf_law_drawn_matrix) (defScope sf_law_drawn_matrix) .none kV26 dc26 pm26 an26 cd26 ct26), sl26⟩) (c26 : PySem.W.codeIn K cd26 "_law_drawn_matrix" = true) (k26 : PySem.W.keepIn K (.ref f26) = true)
    (a27 : PySem.W.nsIn K mainGlobals "_law_imaged" = some (some (.ref f27))) (l27 : K.lookup f27 = some ⟨oc27, od27, .func (PySem.W.fnOf "_law_imaged" "_law_imaged" (defArgs sf_law_imaged) (defBody sf_law_imaged) (defScope sf_law_imaged) .none kV27 dc27 pm27 an27 cd27 ct27), sl27⟩) (c27 : PySem.W.codeIn K cd27 "_law_imaged" = true) (k27 : PySem.W.keepIn K (.ref f27) = true)
    (a28 : PySem.W.nsIn K mainGlobals "_law_imaged_all" = some (some (.ref f28))) (l28 : K.lookup f28 = some ⟨oc28, od28, .func (PySem.W.fnOf "_law_imaged_all" "_law_imaged_all" (defArgs sf_law_imaged_all) (defBody sf_law_imaged_all) (defScope sf_law_imaged_all) .none kV28 dc28 pm28 an28 cd28 ct28), sl28⟩) (c28 : PySem.W.codeIn K cd28 "_law_imaged_all" = true) (k28 : PySem.W.keepIn K (.ref f28) = true)
    (a29 : PySem.W.nsIn K mainGlobals "law" = some (some (.ref f29))) (l29 : K.lookup f29 = some ⟨oc29, od29, .func (PySem.W.fnOf "law" "law" (defArgs sp_law) (defBody sp_law) (defScope sp_law) .none kV29 dc29 pm29 an29 cd29 ct29), sl29⟩) (c29 : PySem.W.codeIn K cd29 "law" = true) (k29 : PySem.W.keepIn K (.ref f29) = true)
    (z_len : PySem.W.nsIn K mainGlobals "len" = some none)
    (z_int : PySem.W.nsIn K mainGlobals "int" = some none)
    (z_abs : PySem.W.nsIn K mainGlobals "abs" = some none)
    (z_max : PySem.W.nsIn K mainGlobals "max" = some none)
    (z_min : PySem.W.nsIn K mainGlobals "min" = some none)
    (z_list : PySem.W.nsIn K mainGlobals "list" = some none)
    (z_tuple : PySem.W.nsIn K mainGlobals "tuple" = some none)
    (z_sum : PySem.W.nsIn K mainGlobals "sum" = some none)
    (z_any : PySem.W.nsIn K mainGlobals "any" = some none)
    (z_all : PySem.W.nsIn K mainGlobals "all" = some none)
    (z_range : PySem.W.nsIn K mainGlobals "range" = some none)
    (z_isinstance : PySem.W.nsIn K mainGlobals "isinstance" = some none)
    (z_bool : PySem.W.nsIn K mainGlobals "bool" = some none)
    (z_str : PySem.W.nsIn K mainGlobals "str" = some none) (z_gcd : PySem.W.nsIn K mainGlobals "gcd" = some (some (.builtin "math.gcd"))) :
    ∃ fd : FuncData, (∀ (s : Shared) (v : Value), BindsTo s fd ⟨[v], []⟩ [("script", v)]) ∧ ∀ base : Heap, K.In base → base.Ns mainGlobals mg → FnOk P w K mg base CX0 80 fa fd ["script"] (spM K (evF T 80 29)) := by
  have M : Md T pg K mg := md X G a0 l0 c0 k0 a1 l1 c1 k1 a2 l2 c2 k2 a3 l3 c3 k3 a4 l4 c4 k4 a5 l5 c5 k5 a6 l6 c6 k6 a7 l7 c7 k7 a8 l8 c8 k8 a9 l9 c9 k9 a10 l10 c10 k10 a11 l11 c11 k11 a12 l12 c12 k12 a13 l13 c13 k13 a14 l14 c14 k14 a15 l15 c15 k15 a16 l16 c16 k16 a17 l17 c17 k17 a18 l18 c18 k18 a19 l19 c19 k19 a20 l20 c20 k20 a21 l21 c21 k21 a22 l22 c22 k22 a23 l23 c23 k23 a24 l24 c24 k24 a25 l25 c25 k25 a26 l26 c26 k26 a27 l27 c27 k27 a28 l28 c28 k28 a29 l29 c29 k29 z_len z_int z_abs z_max z_min z_list z_tuple z_sum z_any z_all z_range z_isinstance z_bool z_str z_gcd
  have e := hfa.symm.trans (PySem.W.mg_of X G a29)
  cases e
  exact ⟨_, fun s v => .of_eq rfl, fun base _ _ => fn_step M (fn_all M 79) (f := 29) (fd := dp_law) rfl (fun_mk l29 c29 k29) cp_law⟩
end
-- END
end K76

-- K76_C
set_option maxHeartbeats 4000000
namespace K76
open PySem PySem.Spec L2 MI
theorem T_0 : T[0]? = some dp_fraction := rfl
theorem T_1 : T[1]? = some dp_add := rfl
theorem T_2 : T[2]? = some dp_multiply := rfl
theorem T_3 : T[3]? = some dp_sign := rfl
theorem T_4 : T[4]? = some dp_compare_fractions := rfl
theorem T_5 : T[5]? = some dp_compare_points := rfl
theorem T_6 : T[6]? = some dp_segment := rfl
theorem T_7 : T[7]? = some dp_image_of_point := rfl
theorem T_8 : T[8]? = some dp_image_of_segments := rfl
theorem T_9 : T[9]? = some df_law_draws := rfl
theorem T_10 : T[10]? = some df_law_take := rfl
theorem T_11 : T[11]? = some df_law_pick := rfl
theorem T_12 : T[12]? = some df_law_same := rfl
theorem T_13 : T[13]? = some df_law_gcd := rfl
theorem T_14 : T[14]? = some df_law_frac := rfl
theorem T_15 : T[15]? = some df_law_plus := rfl
theorem T_16 : T[16]? = some df_law_minus := rfl
theorem T_17 : T[17]? = some df_law_product := rfl
theorem T_18 : T[18]? = some df_law_less := rfl
theorem T_19 : T[19]? = some df_law_ahead := rfl
theorem T_20 : T[20]? = some df_law_joining := rfl
theorem T_21 : T[21]? = some df_law_step := rfl
theorem T_22 : T[22]? = some df_law_corner := rfl
theorem T_23 : T[23]? = some df_law_drawn_one := rfl
theorem T_24 : T[24]? = some df_law_moved_spot := rfl
theorem T_25 : T[25]? = some df_law_drawn := rfl
theorem T_26 : T[26]? = some df_law_drawn_matrix := rfl
theorem T_27 : T[27]? = some df_law_imaged := rfl
theorem T_28 : T[28]? = some df_law_imaged_all := rfl
theorem T_29 : T[29]? = some dp_law := rfl
-- sign
theorem sign_eq (k : Nat) (n : Int) (μ : MH) : evF T (k+1) 3 [.d (.int n)] μ = some (.d (.int n.sign), μ) := by
  rw [sign_if]
  rw [evF_run T_3 rfl]; simp only [dp_sign, e_var, e_cst, e_bop, e_neg, e_not, e_boo, e_cmp, e_chain, e_ite, e_call, e_bi, e_isi, e_ix, e_sl, e_tup, e_lst, e_comp, e_meth, es_nil, es_cons, bv_one, bv_cons, bt_one, bt_cons, o_none, o_some, c_none, c_some, t_var, t_not, t_boo, t_cmp, t_chain, t_call, t_isi, t_ix, i_val, i_rng1, i_rng2, g_name, g_tup, g_sub, gs_nil, gs_cons, s_asg, s_par, s_aug, s_expr, s_iff, s_for, s_ret, s_retN, s_brk, s_cont, s_pass, ss_nil, ss_cons, leave_next, leave_d, take_all, v_getV, v_bop2, v_bop, v_neg, v_not, v_cmp2, v_cmp, v_bT, v_bV, v_chV3, v_chV2t, v_chV2f, v_chV1, v_chV, v_iteT, v_iteF, v_call, v_bi, v_isi, v_ix2, v_ix, v_sl3, v_sl2, v_sl, v_tup2, v_tup, v_lst, v_asgn, v_comp, v_meth2, v_meth, v_es2, v_es, v_BVt, v_BVtf, v_BVf, v_BVft, v_BTt, v_BTtf, v_BTf, v_BTft, v_O, v_tru, v_cmpT2, v_cmpT, v_chT3, v_chT2t, v_chT2f, v_chT1, v_chT, v_notT, v_isiT, v_pW, v_itV, v_R1, v_R2b, v_R2, v_asgSeq, v_setIx, v_setIx2, v_sub3, v_sub2, v_sub, v_Ts, v_asg2, v_asg, v_par2, v_par, v_augO, v_aug, v_augV, v_augA, v_augS, v_exp, v_ifT, v_ifF, v_for, v_ret, v_sqN, v_sqR, v_sqB, v_sqC, v_callT, v_ixT2, v_ixT, v_seqL, v_seqT, v_seqW, v_seqC, v_liveW, v_liveC, v_toD, v_toDc, v_frC, v_toDs0, v_toDs, v_Ds, v_Ds2, v_newF, v_newT, v_add, v_subI, v_catT, v_catLL, v_eqI, v_neI, v_eqB, v_neB, v_lt, v_le, v_gt, v_ge, v_is, v_isnot, v_nonN, v_nonI, v_nonB, v_nonT, v_nonL, v_nonC, v_truN, v_truB, v_ixO, v_ixS, v_ixTu, v_ixL, v_ixC, v_at0, v_at1, v_at2, v_at3, v_at4, v_at5, v_at6, v_at7, v_lenO, v_lenS, v_lenL, v_lenT, v_lenC, v_intI, v_intB, v_abs, v_max2, v_min2, v_gcd, v_listL, v_listT, v_listO, v_listC, v_tupleL, v_tupleT, v_tupO, v_tupleC, v_slS, v_slL, v_slT, v_itS, v_itL, v_itT, v_itW, v_itC, v_append, v_app, v_appO, v_pop, v_popO, v_popAt, v_reverse, v_revO, v_isiI, v_isiB, v_isiL, v_isiTu, v_isiS, v_isiN, v_isiC, v_Fb, v_FlN, v_FlC, v_FlB, v_FlR, v_Cl4, v_Cl3, v_Cl2, v_Cl1t, v_Cl1f, v_Cl0, v_encS, v_ptS, v_encI, v_ptI, v_eqE, v_neE, v_eqP, v_neP, v_nonE, v_nonP, v_mulS, v_setC0, v_DC, v_seqDC, v_DCxs, v_mxS, v_mxI, v_sgS, v_sgI, v_setC1, v_setC2, v_setC3, leave_c02, v_frmI, v_dtS, v_dtI, v_eqDt, v_neDt, v_neDt2, v_minDt, v_maxDt, pw_10_9, pw_10_18, pw_10_30, pw_10_12, pw_10_20, pw_10_6, pw_shl, initE, bnd_some, List.getElem?_cons_zero, List.getElem?_cons_succ, List.set_cons_zero, List.set_cons_succ, List.map_cons, List.map_nil, List.length_cons, List.length_nil, List.cons_append, List.nil_append, List.replicate, Nat.reduceAdd, Nat.reduceSub, Nat.reduceLT, Nat.reduceLeDiff, Nat.zero_add, if_true, Bool.false_eq_true, if_false, reduceCtorEq, sizeLine_eq, lBody_eq, lElt_eq, lCnd_eq, List.take_succ_cons, List.take_zero, Int.natCast_zero, Nat.max_def, List.any_cons, List.any_nil, Bool.or_false, Bool.false_or, Bool.and_false, Bool.false_and, Bool.or_true, Bool.true_or, Bool.true_and, Bool.and_true, eq_self, ne_eq, not_true, not_false_eq_true, beq_self_eq_true, Int.lt_irrefl, Int.reduceLT, Int.reduceLE, Int.reduceEq, Bool.true_beq, Bool.false_beq, decide_true, decide_false, Bool.not_true, Bool.not_false]
  by_cases h : n = 0
  · simp only [h, e_var, e_cst, e_bop, e_neg, e_not, e_boo, e_cmp, e_chain, e_ite, e_call, e_bi, e_isi, e_ix, e_sl, e_tup, e_lst, e_comp, e_meth, es_nil, es_cons, bv_one, bv_cons, bt_one, bt_cons, o_none, o_some, c_none, c_some, t_var, t_not, t_boo, t_cmp, t_chain, t_call, t_isi, t_ix, i_val, i_rng1, i_rng2, g_name, g_tup, g_sub, gs_nil, gs_cons, s_asg, s_par, s_aug, s_expr, s_iff, s_for, s_ret, s_retN, s_brk, s_cont, s_pass, ss_nil, ss_cons, leave_next, leave_d, take_all, v_getV, v_bop2, v_bop, v_neg, v_not, v_cmp2, v_cmp, v_bT, v_bV, v_chV3, v_chV2t, v_chV2f, v_chV1, v_chV, v_iteT, v_iteF, v_call, v_bi, v_isi, v_ix2, v_ix, v_sl3, v_sl2, v_sl, v_tup2, v_tup, v_lst, v_asgn, v_comp, v_meth2, v_meth, v_es2, v_es, v_BVt, v_BVtf, v_BVf, v_BVft, v_BTt, v_BTtf, v_BTf, v_BTft, v_O, v_tru, v_cmpT2, v_cmpT, v_chT3, v_chT2t, v_chT2f, v_chT1, v_chT, v_notT, v_isiT, v_pW, v_itV, v_R1, v_R2b, v_R2, v_asgSeq, v_setIx, v_setIx2, v_sub3, v_sub2, v_sub, v_Ts, v_asg2, v_asg, v_par2, v_par, v_augO, v_aug, v_augV, v_augA, v_augS, v_exp, v_ifT, v_ifF, v_for, v_ret, v_sqN, v_sqR, v_sqB, v_sqC, v_callT, v_ixT2, v_ixT, v_seqL, v_seqT, v_seqW, v_seqC, v_liveW, v_liveC, v_toD, v_toDc, v_frC, v_toDs0, v_toDs, v_Ds, v_Ds2, v_newF, v_newT, v_add, v_subI, v_catT, v_catLL, v_eqI, v_neI, v_eqB, v_neB, v_lt, v_le, v_gt, v_ge, v_is, v_isnot, v_nonN, v_nonI, v_nonB, v_nonT, v_nonL, v_nonC, v_truN, v_truB, v_ixO, v_ixS, v_ixTu, v_ixL, v_ixC, v_at0, v_at1, v_at2, v_at3, v_at4, v_at5, v_at6, v_at7, v_lenO, v_lenS, v_lenL, v_lenT, v_lenC, v_intI, v_intB, v_abs, v_max2, v_min2, v_gcd, v_listL, v_listT, v_listO, v_listC, v_tupleL, v_tupleT, v_tupO, v_tupleC, v_slS, v_slL, v_slT, v_itS, v_itL, v_itT, v_itW, v_itC, v_append, v_app, v_appO, v_pop, v_popO, v_popAt, v_reverse, v_revO, v_isiI, v_isiB, v_isiL, v_isiTu, v_isiS, v_isiN, v_isiC, v_Fb, v_FlN, v_FlC, v_FlB, v_FlR, v_Cl4, v_Cl3, v_Cl2, v_Cl1t, v_Cl1f, v_Cl0, v_encS, v_ptS, v_encI, v_ptI, v_eqE, v_neE, v_eqP, v_neP, v_nonE, v_nonP, v_mulS, v_setC0, v_DC, v_seqDC, v_DCxs, v_mxS, v_mxI, v_sgS, v_sgI, v_setC1, v_setC2, v_setC3, leave_c02, v_frmI, v_dtS, v_dtI, v_eqDt, v_neDt, v_neDt2, v_minDt, v_maxDt, pw_10_9, pw_10_18, pw_10_30, pw_10_12, pw_10_20, pw_10_6, pw_shl, initE, bnd_some, List.getElem?_cons_zero, List.getElem?_cons_succ, List.set_cons_zero, List.set_cons_succ, List.map_cons, List.map_nil, List.length_cons, List.length_nil, List.cons_append, List.nil_append, List.replicate, Nat.reduceAdd, Nat.reduceSub, Nat.reduceLT, Nat.reduceLeDiff, Nat.zero_add, if_true, Bool.false_eq_true, if_false, reduceCtorEq, sizeLine_eq, lBody_eq, lElt_eq, lCnd_eq, List.take_succ_cons, List.take_zero, Int.natCast_zero, Nat.max_def, List.any_cons, List.any_nil, Bool.or_false, Bool.false_or, Bool.and_false, Bool.false_and, Bool.or_true, Bool.true_or, Bool.true_and, Bool.and_true, eq_self, ne_eq, not_true, not_false_eq_true, beq_self_eq_true, Int.lt_irrefl, Int.reduceLT, Int.reduceLE, Int.reduceEq, Bool.true_beq, Bool.false_beq, decide_true, decide_false, Bool.not_true, Bool.not_false]
  · by_cases h2 : 0 < n <;> simp only [h, h2, e_var, e_cst, e_bop, e_neg, e_not, e_boo, e_cmp, e_chain, e_ite, e_call, e_bi, e_isi, e_ix, e_sl, e_tup, e_lst, e_comp, e_meth, es_nil, es_cons, bv_one, bv_cons, bt_one, bt_cons, o_none, o_some, c_none, c_some, t_var, t_not, t_boo, t_cmp, t_chain, t_call, t_isi, t_ix, i_val, i_rng1, i_rng2, g_name, g_tup, g_sub, gs_nil, gs_cons, s_asg, s_par, s_aug, s_expr, s_iff, s_for, s_ret, s_retN, s_brk, s_cont, s_pass, ss_nil, ss_cons, leave_next, leave_d, take_all, v_getV, v_bop2, v_bop, v_neg, v_not, v_cmp2, v_cmp, v_bT, v_bV, v_chV3, v_chV2t, v_chV2f, v_chV1, v_chV, v_iteT, v_iteF, v_call, v_bi, v_isi, v_ix2, v_ix, v_sl3, v_sl2, v_sl, v_tup2, v_tup, v_lst, v_asgn, v_comp, v_meth2, v_meth, v_es2, v_es, v_BVt, v_BVtf, v_BVf, v_BVft, v_BTt, v_BTtf, v_BTf, v_BTft, v_O, v_tru, v_cmpT2, v_cmpT, v_chT3, v_chT2t, v_chT2f, v_chT1, v_chT, v_notT, v_isiT, v_pW, v_itV, v_R1, v_R2b, v_R2, v_asgSeq, v_setIx, v_setIx2, v_sub3, v_sub2, v_sub, v_Ts, v_asg2, v_asg, v_par2, v_par, v_augO, v_aug, v_augV, v_augA, v_augS, v_exp, v_ifT, v_ifF, v_for, v_ret, v_sqN, v_sqR, v_sqB, v_sqC, v_callT, v_ixT2, v_ixT, v_seqL, v_seqT, v_seqW, v_seqC, v_liveW, v_liveC, v_toD, v_toDc, v_frC, v_toDs0, v_toDs, v_Ds, v_Ds2, v_newF, v_newT, v_add, v_subI, v_catT, v_catLL, v_eqI, v_neI, v_eqB, v_neB, v_lt, v_le, v_gt, v_ge, v_is, v_isnot, v_nonN, v_nonI, v_nonB, v_nonT, v_nonL, v_nonC, v_truN, v_truB, v_ixO, v_ixS, v_ixTu, v_ixL, v_ixC, v_at0, v_at1, v_at2, v_at3, v_at4, v_at5, v_at6, v_at7, v_lenO, v_lenS, v_lenL, v_lenT, v_lenC, v_intI, v_intB, v_abs, v_max2, v_min2, v_gcd, v_listL, v_listT, v_listO, v_listC, v_tupleL, v_tupleT, v_tupO, v_tupleC, v_slS, v_slL, v_slT, v_itS, v_itL, v_itT, v_itW, v_itC, v_append, v_app, v_appO, v_pop, v_popO, v_popAt, v_reverse, v_revO, v_isiI, v_isiB, v_isiL, v_isiTu, v_isiS, v_isiN, v_isiC, v_Fb, v_FlN, v_FlC, v_FlB, v_FlR, v_Cl4, v_Cl3, v_Cl2, v_Cl1t, v_Cl1f, v_Cl0, v_encS, v_ptS, v_encI, v_ptI, v_eqE, v_neE, v_eqP, v_neP, v_nonE, v_nonP, v_mulS, v_setC0, v_DC, v_seqDC, v_DCxs, v_mxS, v_mxI, v_sgS, v_sgI, v_setC1, v_setC2, v_setC3, leave_c02, v_frmI, v_dtS, v_dtI, v_eqDt, v_neDt, v_neDt2, v_minDt, v_maxDt, pw_10_9, pw_10_18, pw_10_30, pw_10_12, pw_10_20, pw_10_6, pw_shl, initE, bnd_some, List.getElem?_cons_zero, List.getElem?_cons_succ, List.set_cons_zero, List.set_cons_succ, List.map_cons, List.map_nil, List.length_cons, List.length_nil, List.cons_append, List.nil_append, List.replicate, Nat.reduceAdd, Nat.reduceSub, Nat.reduceLT, Nat.reduceLeDiff, Nat.zero_add, if_true, Bool.false_eq_true, if_false, reduceCtorEq, sizeLine_eq, lBody_eq, lElt_eq, lCnd_eq, List.take_succ_cons, List.take_zero, Int.natCast_zero, Nat.max_def, List.any_cons, List.any_nil, Bool.or_false, Bool.false_or, Bool.and_false, Bool.false_and, Bool.or_true, Bool.true_or, Bool.true_and, Bool.and_true, eq_self, ne_eq, not_true, not_false_eq_true, beq_self_eq_true, Int.lt_irrefl, Int.reduceLT, Int.reduceLE, Int.reduceEq, Bool.true_beq, Bool.false_beq, decide_true, decide_false, Bool.not_true, Bool.not_false] <;> rfl
-- compare_fractions
theorem cmpf_eq (k : Nat) (p q : Rat) (μ : MH) [SzQ p 1000] [SzQ q 1000] : evF T (k+2) 4 [.d (enc p), .d (enc q)] μ = some (.d (.int (cmpQ p q)), μ) := by
  rw [← cmpf_sg]
  rw [evF_run T_4 rfl]; simp only [dp_compare_fractions, sign_eq, e_var, e_cst, e_bop, e_neg, e_not, e_boo, e_cmp, e_chain, e_ite, e_call, e_bi, e_isi, e_ix, e_sl, e_tup, e_lst, e_comp, e_meth, es_nil, es_cons, bv_one, bv_cons, bt_one, bt_cons, o_none, o_some, c_none, c_some, t_var, t_not, t_boo, t_cmp, t_chain, t_call, t_isi, t_ix, i_val, i_rng1, i_rng2, g_name, g_tup, g_sub, gs_nil, gs_cons, s_asg, s_par, s_aug, s_expr, s_iff, s_for, s_ret, s_retN, s_brk, s_cont, s_pass, ss_nil, ss_cons, leave_next, leave_d, take_all, v_getV, v_bop2, v_bop, v_neg, v_not, v_cmp2, v_cmp, v_bT, v_bV, v_chV3, v_chV2t, v_chV2f, v_chV1, v_chV, v_iteT, v_iteF, v_call, v_bi, v_isi, v_ix2, v_ix, v_sl3, v_sl2, v_sl, v_tup2, v_tup, v_lst, v_asgn, v_comp, v_meth2, v_meth, v_es2, v_es, v_BVt, v_BVtf, v_BVf, v_BVft, v_BTt, v_BTtf, v_BTf, v_BTft, v_O, v_tru, v_cmpT2, v_cmpT, v_chT3, v_chT2t, v_chT2f, v_chT1, v_chT, v_notT, v_isiT, v_pW, v_itV, v_R1, v_R2b, v_R2, v_asgSeq, v_setIx, v_setIx2, v_sub3, v_sub2, v_sub, v_Ts, v_asg2, v_asg, v_par2, v_par, v_augO, v_aug, v_augV, v_augA, v_augS, v_exp, v_ifT, v_ifF, v_for, v_ret, v_sqN, v_sqR, v_sqB, v_sqC, v_callT, v_ixT2, v_ixT, v_seqL, v_seqT, v_seqW, v_seqC, v_liveW, v_liveC, v_toD, v_toDc, v_frC, v_toDs0, v_toDs, v_Ds, v_Ds2, v_newF, v_newT, v_add, v_subI, v_catT, v_catLL, v_eqI, v_neI, v_eqB, v_neB, v_lt, v_le, v_gt, v_ge, v_is, v_isnot, v_nonN, v_nonI, v_nonB, v_nonT, v_nonL, v_nonC, v_truN, v_truB, v_ixO, v_ixS, v_ixTu, v_ixL, v_ixC, v_at0, v_at1, v_at2, v_at3, v_at4, v_at5, v_at6, v_at7, v_lenO, v_lenS, v_lenL, v_lenT, v_lenC, v_intI, v_intB, v_abs, v_max2, v_min2, v_gcd, v_listL, v_listT, v_listO, v_listC, v_tupleL, v_tupleT, v_tupO, v_tupleC, v_slS, v_slL, v_slT, v_itS, v_itL, v_itT, v_itW, v_itC, v_append, v_app, v_appO, v_pop, v_popO, v_popAt, v_reverse, v_revO, v_isiI, v_isiB, v_isiL, v_isiTu, v_isiS, v_isiN, v_isiC, v_Fb, v_FlN, v_FlC, v_FlB, v_FlR, v_Cl4, v_Cl3, v_Cl2, v_Cl1t, v_Cl1f, v_Cl0, v_encS, v_ptS, v_encI, v_ptI, v_eqE, v_neE, v_eqP, v_neP, v_nonE, v_nonP, v_mulS, v_setC0, v_DC, v_seqDC, v_DCxs, v_mxS, v_mxI, v_sgS, v_sgI, v_setC1, v_setC2, v_setC3, leave_c02, v_frmI, v_dtS, v_dtI, v_eqDt, v_neDt, v_neDt2, v_minDt, v_maxDt, pw_10_9, pw_10_18, pw_10_30, pw_10_12, pw_10_20, pw_10_6, pw_shl, initE, bnd_some, List.getElem?_cons_zero, List.getElem?_cons_succ, List.set_cons_zero, List.set_cons_succ, List.map_cons, List.map_nil, List.length_cons, List.length_nil, List.cons_append, List.nil_append, List.replicate, Nat.reduceAdd, Nat.reduceSub, Nat.reduceLT, Nat.reduceLeDiff, Nat.zero_add, if_true, Bool.false_eq_true, if_false, reduceCtorEq, sizeLine_eq, lBody_eq, lElt_eq, lCnd_eq, List.take_succ_cons, List.take_zero, Int.natCast_zero, Nat.max_def, List.any_cons, List.any_nil, Bool.or_false, Bool.false_or, Bool.and_false, Bool.false_and, Bool.or_true, Bool.true_or, Bool.true_and, Bool.and_true, eq_self, ne_eq, not_true, not_false_eq_true, beq_self_eq_true, Int.lt_irrefl, Int.reduceLT, Int.reduceLE, Int.reduceEq, Bool.true_beq, Bool.false_beq, decide_true, decide_false, Bool.not_true, Bool.not_false]
-- compare_points
theorem cmpp_eq (k : Nat) (p q : Pt) (μ : MH) [SzQ p.1 1000] [SzQ p.2 1000] [SzQ q.1 1000] [SzQ q.2 1000] : evF T (k+3) 5 [.d (pt p), .d (pt q)] μ = some (.d (.int (cmpP p q)), μ) := by
  unfold cmpP
  rw [evF_run T_5 rfl]; simp only [dp_compare_points, cmpf_eq, e_var, e_cst, e_bop, e_neg, e_not, e_boo, e_cmp, e_chain, e_ite, e_call, e_bi, e_isi, e_ix, e_sl, e_tup, e_lst, e_comp, e_meth, es_nil, es_cons, bv_one, bv_cons, bt_one, bt_cons, o_none, o_some, c_none, c_some, t_var, t_not, t_boo, t_cmp, t_chain, t_call, t_isi, t_ix, i_val, i_rng1, i_rng2, g_name, g_tup, g_sub, gs_nil, gs_cons, s_asg, s_par, s_aug, s_expr, s_iff, s_for, s_ret, s_retN, s_brk, s_cont, s_pass, ss_nil, ss_cons, leave_next, leave_d, take_all, v_getV, v_bop2, v_bop, v_neg, v_not, v_cmp2, v_cmp, v_bT, v_bV, v_chV3, v_chV2t, v_chV2f, v_chV1, v_chV, v_iteT, v_iteF, v_call, v_bi, v_isi, v_ix2, v_ix, v_sl3, v_sl2, v_sl, v_tup2, v_tup, v_lst, v_asgn, v_comp, v_meth2, v_meth, v_es2, v_es, v_BVt, v_BVtf, v_BVf, v_BVft, v_BTt, v_BTtf, v_BTf, v_BTft, v_O, v_tru, v_cmpT2, v_cmpT, v_chT3, v_chT2t, v_chT2f, v_chT1, v_chT, v_notT, v_isiT, v_pW, v_itV, v_R1, v_R2b, v_R2, v_asgSeq, v_setIx, v_setIx2, v_sub3, v_sub2, v_sub, v_Ts, v_asg2, v_asg, v_par2, v_par, v_augO, v_aug, v_augV, v_augA, v_augS, v_exp, v_ifT, v_ifF, v_for, v_ret, v_sqN, v_sqR, v_sqB, v_sqC, v_callT, v_ixT2, v_ixT, v_seqL, v_seqT, v_seqW, v_seqC, v_liveW, v_liveC, v_toD, v_toDc, v_frC, v_toDs0, v_toDs, v_Ds, v_Ds2, v_newF, v_newT, v_add, v_subI, v_catT, v_catLL, v_eqI, v_neI, v_eqB, v_neB, v_lt, v_le, v_gt, v_ge, v_is, v_isnot, v_nonN, v_nonI, v_nonB, v_nonT, v_nonL, v_nonC, v_truN, v_truB, v_ixO, v_ixS, v_ixTu, v_ixL, v_ixC, v_at0, v_at1, v_at2, v_at3, v_at4, v_at5, v_at6, v_at7, v_lenO, v_lenS, v_lenL, v_lenT, v_lenC, v_intI, v_intB, v_abs, v_max2, v_min2, v_gcd, v_listL, v_listT, v_listO, v_listC, v_tupleL, v_tupleT, v_tupO, v_tupleC, v_slS, v_slL, v_slT, v_itS, v_itL, v_itT, v_itW, v_itC, v_append, v_app, v_appO, v_pop, v_popO, v_popAt, v_reverse, v_revO, v_isiI, v_isiB, v_isiL, v_isiTu, v_isiS, v_isiN, v_isiC, v_Fb, v_FlN, v_FlC, v_FlB, v_FlR, v_Cl4, v_Cl3, v_Cl2, v_Cl1t, v_Cl1f, v_Cl0, v_encS, v_ptS, v_encI, v_ptI, v_eqE, v_neE, v_eqP, v_neP, v_nonE, v_nonP, v_mulS, v_setC0, v_DC, v_seqDC, v_DCxs, v_mxS, v_mxI, v_sgS, v_sgI, v_setC1, v_setC2, v_setC3, leave_c02, v_frmI, v_dtS, v_dtI, v_eqDt, v_neDt, v_neDt2, v_minDt, v_maxDt, pw_10_9, pw_10_18, pw_10_30, pw_10_12, pw_10_20, pw_10_6, pw_shl, initE, bnd_some, List.getElem?_cons_zero, List.getElem?_cons_succ, List.set_cons_zero, List.set_cons_succ, List.map_cons, List.map_nil, List.length_cons, List.length_nil, List.cons_append, List.nil_append, List.replicate, Nat.reduceAdd, Nat.reduceSub, Nat.reduceLT, Nat.reduceLeDiff, Nat.zero_add, if_true, Bool.false_eq_true, if_false, reduceCtorEq, sizeLine_eq, lBody_eq, lElt_eq, lCnd_eq, List.take_succ_cons, List.take_zero, Int.natCast_zero, Nat.max_def, List.any_cons, List.any_nil, Bool.or_false, Bool.false_or, Bool.and_false, Bool.false_and, Bool.or_true, Bool.true_or, Bool.true_and, Bool.and_true, eq_self, ne_eq, not_true, not_false_eq_true, beq_self_eq_true, Int.lt_irrefl, Int.reduceLT, Int.reduceLE, Int.reduceEq, Bool.true_beq, Bool.false_beq, decide_true, decide_false, Bool.not_true, Bool.not_false]
  by_cases h : cmpQ p.1 q.1 = 0 <;> simp only [h, cmpf_eq, ne_eq, not_true, not_false_eq_true, e_var, e_cst, e_bop, e_neg, e_not, e_boo, e_cmp, e_chain, e_ite, e_call, e_bi, e_isi, e_ix, e_sl, e_tup, e_lst, e_comp, e_meth, es_nil, es_cons, bv_one, bv_cons, bt_one, bt_cons, o_none, o_some, c_none, c_some, t_var, t_not, t_boo, t_cmp, t_chain, t_call, t_isi, t_ix, i_val, i_rng1, i_rng2, g_name, g_tup, g_sub, gs_nil, gs_cons, s_asg, s_par, s_aug, s_expr, s_iff, s_for, s_ret, s_retN, s_brk, s_cont, s_pass, ss_nil, ss_cons, leave_next, leave_d, take_all, v_getV, v_bop2, v_bop, v_neg, v_not, v_cmp2, v_cmp, v_bT, v_bV, v_chV3, v_chV2t, v_chV2f, v_chV1, v_chV, v_iteT, v_iteF, v_call, v_bi, v_isi, v_ix2, v_ix, v_sl3, v_sl2, v_sl, v_tup2, v_tup, v_lst, v_asgn, v_comp, v_meth2, v_meth, v_es2, v_es, v_BVt, v_BVtf, v_BVf, v_BVft, v_BTt, v_BTtf, v_BTf, v_BTft, v_O, v_tru, v_cmpT2, v_cmpT, v_chT3, v_chT2t, v_chT2f, v_chT1, v_chT, v_notT, v_isiT, v_pW, v_itV, v_R1, v_R2b, v_R2, v_asgSeq, v_setIx, v_setIx2, v_sub3, v_sub2, v_sub, v_Ts, v_asg2, v_asg, v_par2, v_par, v_augO, v_aug, v_augV, v_augA, v_augS, v_exp, v_ifT, v_ifF, v_for, v_ret, v_sqN, v_sqR, v_sqB, v_sqC, v_callT, v_ixT2, v_ixT, v_seqL, v_seqT, v_seqW, v_seqC, v_liveW, v_liveC, v_toD, v_toDc, v_frC, v_toDs0, v_toDs, v_Ds, v_Ds2, v_newF, v_newT, v_add, v_subI, v_catT, v_catLL, v_eqI, v_neI, v_eqB, v_neB, v_lt, v_le, v_gt, v_ge, v_is, v_isnot, v_nonN, v_nonI, v_nonB, v_nonT, v_nonL, v_nonC, v_truN, v_truB, v_ixO, v_ixS, v_ixTu, v_ixL, v_ixC, v_at0, v_at1, v_at2, v_at3, v_at4, v_at5, v_at6, v_at7, v_lenO, v_lenS, v_lenL, v_lenT, v_lenC, v_intI, v_intB, v_abs, v_max2, v_min2, v_gcd, v_listL, v_listT, v_listO, v_listC, v_tupleL, v_tupleT, v_tupO, v_tupleC, v_slS, v_slL, v_slT, v_itS, v_itL, v_itT, v_itW, v_itC, v_append, v_app, v_appO, v_pop, v_popO, v_popAt, v_reverse, v_revO, v_isiI, v_isiB, v_isiL, v_isiTu, v_isiS, v_isiN, v_isiC, v_Fb, v_FlN, v_FlC, v_FlB, v_FlR, v_Cl4, v_Cl3, v_Cl2, v_Cl1t, v_Cl1f, v_Cl0, v_encS, v_ptS, v_encI, v_ptI, v_eqE, v_neE, v_eqP, v_neP, v_nonE, v_nonP, v_mulS, v_setC0, v_DC, v_seqDC, v_DCxs, v_mxS, v_mxI, v_sgS, v_sgI, v_setC1, v_setC2, v_setC3, leave_c02, v_frmI, v_dtS, v_dtI, v_eqDt, v_neDt, v_neDt2, v_minDt, v_maxDt, pw_10_9, pw_10_18, pw_10_30, pw_10_12, pw_10_20, pw_10_6, pw_shl, initE, bnd_some, List.getElem?_cons_zero, List.getElem?_cons_succ, List.set_cons_zero, List.set_cons_succ, List.map_cons, List.map_nil, List.length_cons, List.length_nil, List.cons_append, List.nil_append, List.replicate, Nat.reduceAdd, Nat.reduceSub, Nat.reduceLT, Nat.reduceLeDiff, Nat.zero_add, if_true, Bool.false_eq_true, if_false, reduceCtorEq, sizeLine_eq, lBody_eq, lElt_eq, lCnd_eq, List.take_succ_cons, List.take_zero, Int.natCast_zero, Nat.max_def, List.any_cons, List.any_nil, Bool.or_false, Bool.false_or, Bool.and_false, Bool.false_and, Bool.or_true, Bool.true_or, Bool.true_and, Bool.and_true, eq_self, ne_eq, not_true, not_false_eq_true, beq_self_eq_true, Int.lt_irrefl, Int.reduceLT, Int.reduceLE, Int.reduceEq, Bool.true_beq, Bool.false_beq, decide_true, decide_false, Bool.not_true, Bool.not_false]
-- segment
theorem segment_eq (k : Nat) (p q : Pt) (μ : MH) [SzQ p.1 1000] [SzQ p.2 1000] [SzQ q.1 1000] [SzQ q.2 1000] : evF T (k+4) 6 [.d (pt p), .d (pt q)] μ = some (.d (sgT (sgm p q)), μ) := by
  unfold sgm sgT
  rw [evF_run T_6 rfl]; simp only [dp_segment, cmpp_eq, e_var, e_cst, e_bop, e_neg, e_not, e_boo, e_cmp, e_chain, e_ite, e_call, e_bi, e_isi, e_ix, e_sl, e_tup, e_lst, e_comp, e_meth, es_nil, es_cons, bv_one, bv_cons, bt_one, bt_cons, o_none, o_some, c_none, c_some, t_var, t_not, t_boo, t_cmp, t_chain, t_call, t_isi, t_ix, i_val, i_rng1, i_rng2, g_name, g_tup, g_sub, gs_nil, gs_cons, s_asg, s_par, s_aug, s_expr, s_iff, s_for, s_ret, s_retN, s_brk, s_cont, s_pass, ss_nil, ss_cons, leave_next, leave_d, take_all, v_getV, v_bop2, v_bop, v_neg, v_not, v_cmp2, v_cmp, v_bT, v_bV, v_chV3, v_chV2t, v_chV2f, v_chV1, v_chV, v_iteT, v_iteF, v_call, v_bi, v_isi, v_ix2, v_ix, v_sl3, v_sl2, v_sl, v_tup2, v_tup, v_lst, v_asgn, v_comp, v_meth2, v_meth, v_es2, v_es, v_BVt, v_BVtf, v_BVf, v_BVft, v_BTt, v_BTtf, v_BTf, v_BTft, v_O, v_tru, v_cmpT2, v_cmpT, v_chT3, v_chT2t, v_chT2f, v_chT1, v_chT, v_notT, v_isiT, v_pW, v_itV, v_R1, v_R2b, v_R2, v_asgSeq, v_setIx, v_setIx2, v_sub3, v_sub2, v_sub, v_Ts, v_asg2, v_asg, v_par2, v_par, v_augO, v_aug, v_augV, v_augA, v_augS, v_exp, v_ifT, v_ifF, v_for, v_ret, v_sqN, v_sqR, v_sqB, v_sqC, v_callT, v_ixT2, v_ixT, v_seqL, v_seqT, v_seqW, v_seqC, v_liveW, v_liveC, v_toD, v_toDc, v_frC, v_toDs0, v_toDs, v_Ds, v_Ds2, v_newF, v_newT, v_add, v_subI, v_catT, v_catLL, v_eqI, v_neI, v_eqB, v_neB, v_lt, v_le, v_gt, v_ge, v_is, v_isnot, v_nonN, v_nonI, v_nonB, v_nonT, v_nonL, v_nonC, v_truN, v_truB, v_ixO, v_ixS, v_ixTu, v_ixL, v_ixC, v_at0, v_at1, v_at2, v_at3, v_at4, v_at5, v_at6, v_at7, v_lenO, v_lenS, v_lenL, v_lenT, v_lenC, v_intI, v_intB, v_abs, v_max2, v_min2, v_gcd, v_listL, v_listT, v_listO, v_listC, v_tupleL, v_tupleT, v_tupO, v_tupleC, v_slS, v_slL, v_slT, v_itS, v_itL, v_itT, v_itW, v_itC, v_append, v_app, v_appO, v_pop, v_popO, v_popAt, v_reverse, v_revO, v_isiI, v_isiB, v_isiL, v_isiTu, v_isiS, v_isiN, v_isiC, v_Fb, v_FlN, v_FlC, v_FlB, v_FlR, v_Cl4, v_Cl3, v_Cl2, v_Cl1t, v_Cl1f, v_Cl0, v_encS, v_ptS, v_encI, v_ptI, v_eqE, v_neE, v_eqP, v_neP, v_nonE, v_nonP, v_mulS, v_setC0, v_DC, v_seqDC, v_DCxs, v_mxS, v_mxI, v_sgS, v_sgI, v_setC1, v_setC2, v_setC3, leave_c02, v_frmI, v_dtS, v_dtI, v_eqDt, v_neDt, v_neDt2, v_minDt, v_maxDt, pw_10_9, pw_10_18, pw_10_30, pw_10_12, pw_10_20, pw_10_6, pw_shl, initE, bnd_some, List.getElem?_cons_zero, List.getElem?_cons_succ, List.set_cons_zero, List.set_cons_succ, List.map_cons, List.map_nil, List.length_cons, List.length_nil, List.cons_append, List.nil_append, List.replicate, Nat.reduceAdd, Nat.reduceSub, Nat.reduceLT, Nat.reduceLeDiff, Nat.zero_add, if_true, Bool.false_eq_true, if_false, reduceCtorEq, sizeLine_eq, lBody_eq, lElt_eq, lCnd_eq, List.take_succ_cons, List.take_zero, Int.natCast_zero, Nat.max_def, List.any_cons, List.any_nil, Bool.or_false, Bool.false_or, Bool.and_false, Bool.false_and, Bool.or_true, Bool.true_or, Bool.true_and, Bool.and_true, eq_self, ne_eq, not_true, not_false_eq_true, beq_self_eq_true, Int.lt_irrefl, Int.reduceLT, Int.reduceLE, Int.reduceEq, Bool.true_beq, Bool.false_beq, decide_true, decide_false, Bool.not_true, Bool.not_false]
  by_cases h : cmpP p q < 0 <;> simp only [h, e_var, e_cst, e_bop, e_neg, e_not, e_boo, e_cmp, e_chain, e_ite, e_call, e_bi, e_isi, e_ix, e_sl, e_tup, e_lst, e_comp, e_meth, es_nil, es_cons, bv_one, bv_cons, bt_one, bt_cons, o_none, o_some, c_none, c_some, t_var, t_not, t_boo, t_cmp, t_chain, t_call, t_isi, t_ix, i_val, i_rng1, i_rng2, g_name, g_tup, g_sub, gs_nil, gs_cons, s_asg, s_par, s_aug, s_expr, s_iff, s_for, s_ret, s_retN, s_brk, s_cont, s_pass, ss_nil, ss_cons, leave_next, leave_d, take_all, v_getV, v_bop2, v_bop, v_neg, v_not, v_cmp2, v_cmp, v_bT, v_bV, v_chV3, v_chV2t, v_chV2f, v_chV1, v_chV, v_iteT, v_iteF, v_call, v_bi, v_isi, v_ix2, v_ix, v_sl3, v_sl2, v_sl, v_tup2, v_tup, v_lst, v_asgn, v_comp, v_meth2, v_meth, v_es2, v_es, v_BVt, v_BVtf, v_BVf, v_BVft, v_BTt, v_BTtf, v_BTf, v_BTft, v_O, v_tru, v_cmpT2, v_cmpT, v_chT3, v_chT2t, v_chT2f, v_chT1, v_chT, v_notT, v_isiT, v_pW, v_itV, v_R1, v_R2b, v_R2, v_asgSeq, v_setIx, v_setIx2, v_sub3, v_sub2, v_sub, v_Ts, v_asg2, v_asg, v_par2, v_par, v_augO, v_aug, v_augV, v_augA, v_augS, v_exp, v_ifT, v_ifF, v_for, v_ret, v_sqN, v_sqR, v_sqB, v_sqC, v_callT, v_ixT2, v_ixT, v_seqL, v_seqT, v_seqW, v_seqC, v_liveW, v_liveC, v_toD, v_toDc, v_frC, v_toDs0, v_toDs, v_Ds, v_Ds2, v_newF, v_newT, v_add, v_subI, v_catT, v_catLL, v_eqI, v_neI, v_eqB, v_neB, v_lt, v_le, v_gt, v_ge, v_is, v_isnot, v_nonN, v_nonI, v_nonB, v_nonT, v_nonL, v_nonC, v_truN, v_truB, v_ixO, v_ixS, v_ixTu, v_ixL, v_ixC, v_at0, v_at1, v_at2, v_at3, v_at4, v_at5, v_at6, v_at7, v_lenO, v_lenS, v_lenL, v_lenT, v_lenC, v_intI, v_intB, v_abs, v_max2, v_min2, v_gcd, v_listL, v_listT, v_listO, v_listC, v_tupleL, v_tupleT, v_tupO, v_tupleC, v_slS, v_slL, v_slT, v_itS, v_itL, v_itT, v_itW, v_itC, v_append, v_app, v_appO, v_pop, v_popO, v_popAt, v_reverse, v_revO, v_isiI, v_isiB, v_isiL, v_isiTu, v_isiS, v_isiN, v_isiC, v_Fb, v_FlN, v_FlC, v_FlB, v_FlR, v_Cl4, v_Cl3, v_Cl2, v_Cl1t, v_Cl1f, v_Cl0, v_encS, v_ptS, v_encI, v_ptI, v_eqE, v_neE, v_eqP, v_neP, v_nonE, v_nonP, v_mulS, v_setC0, v_DC, v_seqDC, v_DCxs, v_mxS, v_mxI, v_sgS, v_sgI, v_setC1, v_setC2, v_setC3, leave_c02, v_frmI, v_dtS, v_dtI, v_eqDt, v_neDt, v_neDt2, v_minDt, v_maxDt, pw_10_9, pw_10_18, pw_10_30, pw_10_12, pw_10_20, pw_10_6, pw_shl, initE, bnd_some, List.getElem?_cons_zero, List.getElem?_cons_succ, List.set_cons_zero, List.set_cons_succ, List.map_cons, List.map_nil, List.length_cons, List.length_nil, List.cons_append, List.nil_append, List.replicate, Nat.reduceAdd, Nat.reduceSub, Nat.reduceLT, Nat.reduceLeDiff, Nat.zero_add, if_true, Bool.false_eq_true, if_false, reduceCtorEq, sizeLine_eq, lBody_eq, lElt_eq, lCnd_eq, List.take_succ_cons, List.take_zero, Int.natCast_zero, Nat.max_def, List.any_cons, List.any_nil, Bool.or_false, Bool.false_or, Bool.and_false, Bool.false_and, Bool.or_true, Bool.true_or, Bool.true_and, Bool.and_true, eq_self, ne_eq, not_true, not_false_eq_true, beq_self_eq_true, Int.lt_irrefl, Int.reduceLT, Int.reduceLE, Int.reduceEq, Bool.true_beq, Bool.false_beq, decide_true, decide_false, Bool.not_true, Bool.not_false]
-- fraction
theorem fraction_eq (k : Nat) (n d : Int) (μ : MH) (hd : d ≠ 0) [sn : Sz n 8000] [sd : Sz d 8000] : evF T (k+1) 0 [.d (.int n), .d (.int d)] μ = some (.d (enc (Rat.divInt n d)), μ) := by
  have gl : Int.gcd n d ≤ d.natAbs := Int.gcd_le_natAbs_right _ hd
  have gp := gcd_pos' (n := n) hd
  have sg1 : Sz ((Int.gcd n d : Nat) : Int) 8000 := ⟨by have := sd.h; rw [Int.natAbs_natCast]; omega⟩
  have g0 : ((Int.gcd n d : Nat) : Int) ≠ 0 := by omega
  by_cases h : d < 0
  · have h' : 0 < -d := by omega
    obtain ⟨a, b⟩ := frac_pos (n := -n) h'
    have e1 : Int.gcd (-n) (-d) = Int.gcd n d := by rw [Int.gcd_neg, Int.neg_gcd]
    have e2 : Rat.divInt (-n) (-d) = Rat.divInt n d := Rat.neg_divInt_neg n d
    rw [e1, e2] at a b
    have e3 : (Nat.gcd (-n).natAbs (-d).natAbs : Nat) = Int.gcd n d := e1
    have f1 := fun (μ : MH) (l : Bool) => @v_fdivS μ l (-n) ((Int.gcd n d : Nat) : Int) 8000 sg1 g0 (by decide)
    have f2 := fun (μ : MH) (l : Bool) => @v_fdivS μ l (-d) ((Int.gcd n d : Nat) : Int) 8000 sg1 g0 (by decide)
    rw [evF_run T_0 rfl]; simp only [dp_fraction, h, e3, f1, f2, a, b, e_var, e_cst, e_bop, e_neg, e_not, e_boo, e_cmp, e_chain, e_ite, e_call, e_bi, e_isi, e_ix, e_sl, e_tup, e_lst, e_comp, e_meth, es_nil, es_cons, bv_one, bv_cons, bt_one, bt_cons, o_none, o_some, c_none, c_some, t_var, t_not, t_boo, t_cmp, t_chain, t_call, t_isi, t_ix, i_val, i_rng1, i_rng2, g_name, g_tup, g_sub, gs_nil, gs_cons, s_asg, s_par, s_aug, s_expr, s_iff, s_for, s_ret, s_retN, s_brk, s_cont, s_pass, ss_nil, ss_cons, leave_next, leave_d, take_all, v_getV, v_bop2, v_bop, v_neg, v_not, v_cmp2, v_cmp, v_bT, v_bV, v_chV3, v_chV2t, v_chV2f, v_chV1, v_chV, v_iteT, v_iteF, v_call, v_bi, v_isi, v_ix2, v_ix, v_sl3, v_sl2, v_sl, v_tup2, v_tup, v_lst, v_asgn, v_comp, v_meth2, v_meth, v_es2, v_es, v_BVt, v_BVtf, v_BVf, v_BVft, v_BTt, v_BTtf, v_BTf, v_BTft, v_O, v_tru, v_cmpT2, v_cmpT, v_chT3, v_chT2t, v_chT2f, v_chT1, v_chT, v_notT, v_isiT, v_pW, v_itV, v_R1, v_R2b, v_R2, v_asgSeq, v_setIx, v_setIx2, v_sub3, v_sub2, v_sub, v_Ts, v_asg2, v_asg, v_par2, v_par, v_augO, v_aug, v_augV, v_augA, v_augS, v_exp, v_ifT, v_ifF, v_for, v_ret, v_sqN, v_sqR, v_sqB, v_sqC, v_callT, v_ixT2, v_ixT, v_seqL, v_seqT, v_seqW, v_seqC, v_liveW, v_liveC, v_toD, v_toDc, v_frC, v_toDs0, v_toDs, v_Ds, v_Ds2, v_newF, v_newT, v_add, v_subI, v_catT, v_catLL, v_eqI, v_neI, v_eqB, v_neB, v_lt, v_le, v_gt, v_ge, v_is, v_isnot, v_nonN, v_nonI, v_nonB, v_nonT, v_nonL, v_nonC, v_truN, v_truB, v_ixO, v_ixS, v_ixTu, v_ixL, v_ixC, v_at0, v_at1, v_at2, v_at3, v_at4, v_at5, v_at6, v_at7, v_lenO, v_lenS, v_lenL, v_lenT, v_lenC, v_intI, v_intB, v_abs, v_max2, v_min2, v_gcd, v_listL, v_listT, v_listO, v_listC, v_tupleL, v_tupleT, v_tupO, v_tupleC, v_slS, v_slL, v_slT, v_itS, v_itL, v_itT, v_itW, v_itC, v_append, v_app, v_appO, v_pop, v_popO, v_popAt, v_reverse, v_revO, v_isiI, v_isiB, v_isiL, v_isiTu, v_isiS, v_isiN, v_isiC, v_Fb, v_FlN, v_FlC, v_FlB, v_FlR, v_Cl4, v_Cl3, v_Cl2, v_Cl1t, v_Cl1f, v_Cl0, v_encS, v_ptS, v_encI, v_ptI, v_eqE, v_neE, v_eqP, v_neP, v_nonE, v_nonP, v_mulS, v_setC0, v_DC, v_seqDC, v_DCxs, v_mxS, v_mxI, v_sgS, v_sgI, v_setC1, v_setC2, v_setC3, leave_c02, v_frmI, v_dtS, v_dtI, v_eqDt, v_neDt, v_neDt2, v_minDt, v_maxDt, pw_10_9, pw_10_18, pw_10_30, pw_10_12, pw_10_20, pw_10_6, pw_shl, initE, bnd_some, List.getElem?_cons_zero, List.getElem?_cons_succ, List.set_cons_zero, List.set_cons_succ, List.map_cons, List.map_nil, List.length_cons, List.length_nil, List.cons_append, List.nil_append, List.replicate, Nat.reduceAdd, Nat.reduceSub, Nat.reduceLT, Nat.reduceLeDiff, Nat.zero_add, if_true, Bool.false_eq_true, if_false, reduceCtorEq, sizeLine_eq, lBody_eq, lElt_eq, lCnd_eq, List.take_succ_cons, List.take_zero, Int.natCast_zero, Nat.max_def, List.any_cons, List.any_nil, Bool.or_false, Bool.false_or, Bool.and_false, Bool.false_and, Bool.or_true, Bool.true_or, Bool.true_and, Bool.and_true, eq_self, ne_eq, not_true, not_false_eq_true, beq_self_eq_true, Int.lt_irrefl, Int.reduceLT, Int.reduceLE, Int.reduceEq, Bool.true_beq, Bool.false_beq, decide_true, decide_false, Bool.not_true, Bool.not_false]
    rfl
  · obtain ⟨a, b⟩ := frac_pos (n := n) (d := d) (by omega)
    have e3 : (Nat.gcd n.natAbs d.natAbs : Nat) = Int.gcd n d := rfl
    have f1 := fun (μ : MH) (l : Bool) => @v_fdivS μ l n ((Int.gcd n d : Nat) : Int) 8000 sg1 g0 (by decide)
    have f2 := fun (μ : MH) (l : Bool) => @v_fdivS μ l d ((Int.gcd n d : Nat) : Int) 8000 sg1 g0 (by decide)
    rw [evF_run T_0 rfl]; simp only [dp_fraction, h, e3, f1, f2, a, b, e_var, e_cst, e_bop, e_neg, e_not, e_boo, e_cmp, e_chain, e_ite, e_call, e_bi, e_isi, e_ix, e_sl, e_tup, e_lst, e_comp, e_meth, es_nil, es_cons, bv_one, bv_cons, bt_one, bt_cons, o_none, o_some, c_none, c_some, t_var, t_not, t_boo, t_cmp, t_chain, t_call, t_isi, t_ix, i_val, i_rng1, i_rng2, g_name, g_tup, g_sub, gs_nil, gs_cons, s_asg, s_par, s_aug, s_expr, s_iff, s_for, s_ret, s_retN, s_brk, s_cont, s_pass, ss_nil, ss_cons, leave_next, leave_d, take_all, v_getV, v_bop2, v_bop, v_neg, v_not, v_cmp2, v_cmp, v_bT, v_bV, v_chV3, v_chV2t, v_chV2f, v_chV1, v_chV, v_iteT, v_iteF, v_call, v_bi, v_isi, v_ix2, v_ix, v_sl3, v_sl2, v_sl, v_tup2, v_tup, v_lst, v_asgn, v_comp, v_meth2, v_meth, v_es2, v_es, v_BVt, v_BVtf, v_BVf, v_BVft, v_BTt, v_BTtf, v_BTf, v_BTft, v_O, v_tru, v_cmpT2, v_cmpT, v_chT3, v_chT2t, v_chT2f, v_chT1, v_chT, v_notT, v_isiT, v_pW, v_itV, v_R1, v_R2b, v_R2, v_asgSeq, v_setIx, v_setIx2, v_sub3, v_sub2, v_sub, v_Ts, v_asg2, v_asg, v_par2, v_par, v_augO, v_aug, v_augV, v_augA, v_augS, v_exp, v_ifT, v_ifF, v_for, v_ret, v_sqN, v_sqR, v_sqB, v_sqC, v_callT, v_ixT2, v_ixT, v_seqL, v_seqT, v_seqW, v_seqC, v_liveW, v_liveC, v_toD, v_toDc, v_frC, v_toDs0, v_toDs, v_Ds, v_Ds2, v_newF, v_newT, v_add, v_subI, v_catT, v_catLL, v_eqI, v_neI, v_eqB, v_neB, v_lt, v_le, v_gt, v_ge, v_is, v_isnot, v_nonN, v_nonI, v_nonB, v_nonT, v_nonL, v_nonC, v_truN, v_truB, v_ixO, v_ixS, v_ixTu, v_ixL, v_ixC, v_at0, v_at1, v_at2, v_at3, v_at4, v_at5, v_at6, v_at7, v_lenO, v_lenS, v_lenL, v_lenT, v_lenC, v_intI, v_intB, v_abs, v_max2, v_min2, v_gcd, v_listL, v_listT, v_listO, v_listC, v_tupleL, v_tupleT, v_tupO, v_tupleC, v_slS, v_slL, v_slT, v_itS, v_itL, v_itT, v_itW, v_itC, v_append, v_app, v_appO, v_pop, v_popO, v_popAt, v_reverse, v_revO, v_isiI, v_isiB, v_isiL, v_isiTu, v_isiS, v_isiN, v_isiC, v_Fb, v_FlN, v_FlC, v_FlB, v_FlR, v_Cl4, v_Cl3, v_Cl2, v_Cl1t, v_Cl1f, v_Cl0, v_encS, v_ptS, v_encI, v_ptI, v_eqE, v_neE, v_eqP, v_neP, v_nonE, v_nonP, v_mulS, v_setC0, v_DC, v_seqDC, v_DCxs, v_mxS, v_mxI, v_sgS, v_sgI, v_setC1, v_setC2, v_setC3, leave_c02, v_frmI, v_dtS, v_dtI, v_eqDt, v_neDt, v_neDt2, v_minDt, v_maxDt, pw_10_9, pw_10_18, pw_10_30, pw_10_12, pw_10_20, pw_10_6, pw_shl, initE, bnd_some, List.getElem?_cons_zero, List.getElem?_cons_succ, List.set_cons_zero, List.set_cons_succ, List.map_cons, List.map_nil, List.length_cons, List.length_nil, List.cons_append, List.nil_append, List.replicate, Nat.reduceAdd, Nat.reduceSub, Nat.reduceLT, Nat.reduceLeDiff, Nat.zero_add, if_true, Bool.false_eq_true, if_false, reduceCtorEq, sizeLine_eq, lBody_eq, lElt_eq, lCnd_eq, List.take_succ_cons, List.take_zero, Int.natCast_zero, Nat.max_def, List.any_cons, List.any_nil, Bool.or_false, Bool.false_or, Bool.and_false, Bool.false_and, Bool.or_true, Bool.true_or, Bool.true_and, Bool.and_true, eq_self, ne_eq, not_true, not_false_eq_true, beq_self_eq_true, Int.lt_irrefl, Int.reduceLT, Int.reduceLE, Int.reduceEq, Bool.true_beq, Bool.false_beq, decide_true, decide_false, Bool.not_true, Bool.not_false]
    rfl
-- add
theorem add_eq (k : Nat) (p q : Rat) (μ : MH) [SzQ p 2000] [SzQ q 2000] : evF T (k+2) 1 [.d (enc p), .d (enc q)] μ = some (.d (enc (p + q)), μ) := by
  rw [← add_frac]
  have s1 : Sz (p.num * q.den + q.num * p.den) 8000 := Sz.mono inferInstance (by decide)
  have s2 : Sz ((p.den : Int) * q.den) 8000 := Sz.mono inferInstance (by decide)
  have e := fun μ => @fraction_eq k _ _ μ (den2_ne p q) s1 s2
  rw [evF_run T_1 rfl]; simp only [dp_add, e, e_var, e_cst, e_bop, e_neg, e_not, e_boo, e_cmp, e_chain, e_ite, e_call, e_bi, e_isi, e_ix, e_sl, e_tup, e_lst, e_comp, e_meth, es_nil, es_cons, bv_one, bv_cons, bt_one, bt_cons, o_none, o_some, c_none, c_some, t_var, t_not, t_boo, t_cmp, t_chain, t_call, t_isi, t_ix, i_val, i_rng1, i_rng2, g_name, g_tup, g_sub, gs_nil, gs_cons, s_asg, s_par, s_aug, s_expr, s_iff, s_for, s_ret, s_retN, s_brk, s_cont, s_pass, ss_nil, ss_cons, leave_next, leave_d, take_all, v_getV, v_bop2, v_bop, v_neg, v_not, v_cmp2, v_cmp, v_bT, v_bV, v_chV3, v_chV2t, v_chV2f, v_chV1, v_chV, v_iteT, v_iteF, v_call, v_bi, v_isi, v_ix2, v_ix, v_sl3, v_sl2, v_sl, v_tup2, v_tup, v_lst, v_asgn, v_comp, v_meth2, v_meth, v_es2, v_es, v_BVt, v_BVtf, v_BVf, v_BVft, v_BTt, v_BTtf, v_BTf, v_BTft, v_O, v_tru, v_cmpT2, v_cmpT, v_chT3, v_chT2t, v_chT2f, v_chT1, v_chT, v_notT, v_isiT, v_pW, v_itV, v_R1, v_R2b, v_R2, v_asgSeq, v_setIx, v_setIx2, v_sub3, v_sub2, v_sub, v_Ts, v_asg2, v_asg, v_par2, v_par, v_augO, v_aug, v_augV, v_augA, v_augS, v_exp, v_ifT, v_ifF, v_for, v_ret, v_sqN, v_sqR, v_sqB, v_sqC, v_callT, v_ixT2, v_ixT, v_seqL, v_seqT, v_seqW, v_seqC, v_liveW, v_liveC, v_toD, v_toDc, v_frC, v_toDs0, v_toDs, v_Ds, v_Ds2, v_newF, v_newT, v_add, v_subI, v_catT, v_catLL, v_eqI, v_neI, v_eqB, v_neB, v_lt, v_le, v_gt, v_ge, v_is, v_isnot, v_nonN, v_nonI, v_nonB, v_nonT, v_nonL, v_nonC, v_truN, v_truB, v_ixO, v_ixS, v_ixTu, v_ixL, v_ixC, v_at0, v_at1, v_at2, v_at3, v_at4, v_at5, v_at6, v_at7, v_lenO, v_lenS, v_lenL, v_lenT, v_lenC, v_intI, v_intB, v_abs, v_max2, v_min2, v_gcd, v_listL, v_listT, v_listO, v_listC, v_tupleL, v_tupleT, v_tupO, v_tupleC, v_slS, v_slL, v_slT, v_itS, v_itL, v_itT, v_itW, v_itC, v_append, v_app, v_appO, v_pop, v_popO, v_popAt, v_reverse, v_revO, v_isiI, v_isiB, v_isiL, v_isiTu, v_isiS, v_isiN, v_isiC, v_Fb, v_FlN, v_FlC, v_FlB, v_FlR, v_Cl4, v_Cl3, v_Cl2, v_Cl1t, v_Cl1f, v_Cl0, v_encS, v_ptS, v_encI, v_ptI, v_eqE, v_neE, v_eqP, v_neP, v_nonE, v_nonP, v_mulS, v_setC0, v_DC, v_seqDC, v_DCxs, v_mxS, v_mxI, v_sgS, v_sgI, v_setC1, v_setC2, v_setC3, leave_c02, v_frmI, v_dtS, v_dtI, v_eqDt, v_neDt, v_neDt2, v_minDt, v_maxDt, pw_10_9, pw_10_18, pw_10_30, pw_10_12, pw_10_20, pw_10_6, pw_shl, initE, bnd_some, List.getElem?_cons_zero, List.getElem?_cons_succ, List.set_cons_zero, List.set_cons_succ, List.map_cons, List.map_nil, List.length_cons, List.length_nil, List.cons_append, List.nil_append, List.replicate, Nat.reduceAdd, Nat.reduceSub, Nat.reduceLT, Nat.reduceLeDiff, Nat.zero_add, if_true, Bool.false_eq_true, if_false, reduceCtorEq, sizeLine_eq, lBody_eq, lElt_eq, lCnd_eq, List.take_succ_cons, List.take_zero, Int.natCast_zero, Nat.max_def, List.any_cons, List.any_nil, Bool.or_false, Bool.false_or, Bool.and_false, Bool.false_and, Bool.or_true, Bool.true_or, Bool.true_and, Bool.and_true, eq_self, ne_eq, not_true, not_false_eq_true, beq_self_eq_true, Int.lt_irrefl, Int.reduceLT, Int.reduceLE, Int.reduceEq, Bool.true_beq, Bool.false_beq, decide_true, decide_false, Bool.not_true, Bool.not_false]
-- multiply
theorem multiply_eq (k : Nat) (p q : Rat) (μ : MH) [SzQ p 2000] [SzQ q 2000] : evF T (k+2) 2 [.d (enc p), .d (enc q)] μ = some (.d (enc (p * q)), μ) := by
  rw [← mul_frac]
  have s1 : Sz (p.num * q.num) 8000 := Sz.mono inferInstance (by decide)
  have s2 : Sz ((p.den : Int) * q.den) 8000 := Sz.mono inferInstance (by decide)
  have e := fun μ => @fraction_eq k _ _ μ (den2_ne p q) s1 s2
  rw [evF_run T_2 rfl]; simp only [dp_multiply, e, e_var, e_cst, e_bop, e_neg, e_not, e_boo, e_cmp, e_chain, e_ite, e_call, e_bi, e_isi, e_ix, e_sl, e_tup, e_lst, e_comp, e_meth, es_nil, es_cons, bv_one, bv_cons, bt_one, bt_cons, o_none, o_some, c_none, c_some, t_var, t_not, t_boo, t_cmp, t_chain, t_call, t_isi, t_ix, i_val, i_rng1, i_rng2, g_name, g_tup, g_sub, gs_nil, gs_cons, s_asg, s_par, s_aug, s_expr, s_iff, s_for, s_ret, s_retN, s_brk, s_cont, s_pass, ss_nil, ss_cons, leave_next, leave_d, take_all, v_getV, v_bop2, v_bop, v_neg, v_not, v_cmp2, v_cmp, v_bT, v_bV, v_chV3, v_chV2t, v_chV2f, v_chV1, v_chV, v_iteT, v_iteF, v_call, v_bi, v_isi, v_ix2, v_ix, v_sl3, v_sl2, v_sl, v_tup2, v_tup, v_lst, v_asgn, v_comp, v_meth2, v_meth, v_es2, v_es, v_BVt, v_BVtf, v_BVf, v_BVft, v_BTt, v_BTtf, v_BTf, v_BTft, v_O, v_tru, v_cmpT2, v_cmpT, v_chT3, v_chT2t, v_chT2f, v_chT1, v_chT, v_notT, v_isiT, v_pW, v_itV, v_R1, v_R2b, v_R2, v_asgSeq, v_setIx, v_setIx2, v_sub3, v_sub2, v_sub, v_Ts, v_asg2, v_asg, v_par2, v_par, v_augO, v_aug, v_augV, v_augA, v_augS, v_exp, v_ifT, v_ifF, v_for, v_ret, v_sqN, v_sqR, v_sqB, v_sqC, v_callT, v_ixT2, v_ixT, v_seqL, v_seqT, v_seqW, v_seqC, v_liveW, v_liveC, v_toD, v_toDc, v_frC, v_toDs0, v_toDs, v_Ds, v_Ds2, v_newF, v_newT, v_add, v_subI, v_catT, v_catLL, v_eqI, v_neI, v_eqB, v_neB, v_lt, v_le, v_gt, v_ge, v_is, v_isnot, v_nonN, v_nonI, v_nonB, v_nonT, v_nonL, v_nonC, v_truN, v_truB, v_ixO, v_ixS, v_ixTu, v_ixL, v_ixC, v_at0, v_at1, v_at2, v_at3, v_at4, v_at5, v_at6, v_at7, v_lenO, v_lenS, v_lenL, v_lenT, v_lenC, v_intI, v_intB, v_abs, v_max2, v_min2, v_gcd, v_listL, v_listT, v_listO, v_listC, v_tupleL, v_tupleT, v_tupO, v_tupleC, v_slS, v_slL, v_slT, v_itS, v_itL, v_itT, v_itW, v_itC, v_append, v_app, v_appO, v_pop, v_popO, v_popAt, v_reverse, v_revO, v_isiI, v_isiB, v_isiL, v_isiTu, v_isiS, v_isiN, v_isiC, v_Fb, v_FlN, v_FlC, v_FlB, v_FlR, v_Cl4, v_Cl3, v_Cl2, v_Cl1t, v_Cl1f, v_Cl0, v_encS, v_ptS, v_encI, v_ptI, v_eqE, v_neE, v_eqP, v_neP, v_nonE, v_nonP, v_mulS, v_setC0, v_DC, v_seqDC, v_DCxs, v_mxS, v_mxI, v_sgS, v_sgI, v_setC1, v_setC2, v_setC3, leave_c02, v_frmI, v_dtS, v_dtI, v_eqDt, v_neDt, v_neDt2, v_minDt, v_maxDt, pw_10_9, pw_10_18, pw_10_30, pw_10_12, pw_10_20, pw_10_6, pw_shl, initE, bnd_some, List.getElem?_cons_zero, List.getElem?_cons_succ, List.set_cons_zero, List.set_cons_succ, List.map_cons, List.map_nil, List.length_cons, List.length_nil, List.cons_append, List.nil_append, List.replicate, Nat.reduceAdd, Nat.reduceSub, Nat.reduceLT, Nat.reduceLeDiff, Nat.zero_add, if_true, Bool.false_eq_true, if_false, reduceCtorEq, sizeLine_eq, lBody_eq, lElt_eq, lCnd_eq, List.take_succ_cons, List.take_zero, Int.natCast_zero, Nat.max_def, List.any_cons, List.any_nil, Bool.or_false, Bool.false_or, Bool.and_false, Bool.false_and, Bool.or_true, Bool.true_or, Bool.true_and, Bool.and_true, eq_self, ne_eq, not_true, not_false_eq_true, beq_self_eq_true, Int.lt_irrefl, Int.reduceLT, Int.reduceLE, Int.reduceEq, Bool.true_beq, Bool.false_beq, decide_true, decide_false, Bool.not_true, Bool.not_false]
-- _law_take
theorem take_eq (k : Nat) (xs : List Int) (m : Int) (hm : m ≠ 0) (ν : MH) : evF T (k+1) 10 [.c 0, .d (.int m)] (DC xs :: ν) = some (.d (.int (tk xs m)), DC xs.dropLast :: ν) := by
  rcases List.eq_nil_or_concat xs with rfl | ⟨ys, y, rfl⟩
  · rw [evF_run T_10 rfl]; simp only [df_law_take, e_var, e_cst, e_bop, e_neg, e_not, e_boo, e_cmp, e_chain, e_ite, e_call, e_bi, e_isi, e_ix, e_sl, e_tup, e_lst, e_comp, e_meth, es_nil, es_cons, bv_one, bv_cons, bt_one, bt_cons, o_none, o_some, c_none, c_some, t_var, t_not, t_boo, t_cmp, t_chain, t_call, t_isi, t_ix, i_val, i_rng1, i_rng2, g_name, g_tup, g_sub, gs_nil, gs_cons, s_asg, s_par, s_aug, s_expr, s_iff, s_for, s_ret, s_retN, s_brk, s_cont, s_pass, ss_nil, ss_cons, leave_next, leave_d, take_all, v_getV, v_bop2, v_bop, v_neg, v_not, v_cmp2, v_cmp, v_bT, v_bV, v_chV3, v_chV2t, v_chV2f, v_chV1, v_chV, v_iteT, v_iteF, v_call, v_bi, v_isi, v_ix2, v_ix, v_sl3, v_sl2, v_sl, v_tup2, v_tup, v_lst, v_asgn, v_comp, v_meth2, v_meth, v_es2, v_es, v_BVt, v_BVtf, v_BVf, v_BVft, v_BTt, v_BTtf, v_BTf, v_BTft, v_O, v_tru, v_cmpT2, v_cmpT, v_chT3, v_chT2t, v_chT2f, v_chT1, v_chT, v_notT, v_isiT, v_pW, v_itV, v_R1, v_R2b, v_R2, v_asgSeq, v_setIx, v_setIx2, v_sub3, v_sub2, v_sub, v_Ts, v_asg2, v_asg, v_par2, v_par, v_augO, v_aug, v_augV, v_augA, v_augS, v_exp, v_ifT, v_ifF, v_for, v_ret, v_sqN, v_sqR, v_sqB, v_sqC, v_callT, v_ixT2, v_ixT, v_seqL, v_seqT, v_seqW, v_seqC, v_liveW, v_liveC, v_toD, v_toDc, v_frC, v_toDs0, v_toDs, v_Ds, v_Ds2, v_newF, v_newT, v_add, v_subI, v_catT, v_catLL, v_eqI, v_neI, v_eqB, v_neB, v_lt, v_le, v_gt, v_ge, v_is, v_isnot, v_nonN, v_nonI, v_nonB, v_nonT, v_nonL, v_nonC, v_truN, v_truB, v_ixO, v_ixS, v_ixTu, v_ixL, v_ixC, v_at0, v_at1, v_at2, v_at3, v_at4, v_at5, v_at6, v_at7, v_lenO, v_lenS, v_lenL, v_lenT, v_lenC, v_intI, v_intB, v_abs, v_max2, v_min2, v_gcd, v_listL, v_listT, v_listO, v_listC, v_tupleL, v_tupleT, v_tupO, v_tupleC, v_slS, v_slL, v_slT, v_itS, v_itL, v_itT, v_itW, v_itC, v_append, v_app, v_appO, v_pop, v_popO, v_popAt, v_reverse, v_revO, v_isiI, v_isiB, v_isiL, v_isiTu, v_isiS, v_isiN, v_isiC, v_Fb, v_FlN, v_FlC, v_FlB, v_FlR, v_Cl4, v_Cl3, v_Cl2, v_Cl1t, v_Cl1f, v_Cl0, v_encS, v_ptS, v_encI, v_ptI, v_eqE, v_neE, v_eqP, v_neP, v_nonE, v_nonP, v_mulS, v_setC0, v_DC, v_seqDC, v_DCxs, v_mxS, v_mxI, v_sgS, v_sgI, v_setC1, v_setC2, v_setC3, leave_c02, v_frmI, v_dtS, v_dtI, v_eqDt, v_neDt, v_neDt2, v_minDt, v_maxDt, pw_10_9, pw_10_18, pw_10_30, pw_10_12, pw_10_20, pw_10_6, pw_shl, initE, bnd_some, List.getElem?_cons_zero, List.getElem?_cons_succ, List.set_cons_zero, List.set_cons_succ, List.map_cons, List.map_nil, List.length_cons, List.length_nil, List.cons_append, List.nil_append, List.replicate, Nat.reduceAdd, Nat.reduceSub, Nat.reduceLT, Nat.reduceLeDiff, Nat.zero_add, if_true, Bool.false_eq_true, if_false, reduceCtorEq, sizeLine_eq, lBody_eq, lElt_eq, lCnd_eq, List.take_succ_cons, List.take_zero, Int.natCast_zero, Nat.max_def, List.any_cons, List.any_nil, Bool.or_false, Bool.false_or, Bool.and_false, Bool.false_and, Bool.or_true, Bool.true_or, Bool.true_and, Bool.and_true, eq_self, ne_eq, not_true, not_false_eq_true, beq_self_eq_true, Int.lt_irrefl, Int.reduceLT, Int.reduceLE, Int.reduceEq, Bool.true_beq, Bool.false_beq, decide_true, decide_false, Bool.not_true, Bool.not_false]
    rfl
  · have hl : (((ys.map PyData.int ++ [PyData.int y]).length : Nat) : Int) ≠ 0 := by simp; omega
    rw [evF_run T_10 rfl]; simp only [df_law_take, List.concat_eq_append, List.map_append, hl, e_var, e_cst, e_bop, e_neg, e_not, e_boo, e_cmp, e_chain, e_ite, e_call, e_bi, e_isi, e_ix, e_sl, e_tup, e_lst, e_comp, e_meth, es_nil, es_cons, bv_one, bv_cons, bt_one, bt_cons, o_none, o_some, c_none, c_some, t_var, t_not, t_boo, t_cmp, t_chain, t_call, t_isi, t_ix, i_val, i_rng1, i_rng2, g_name, g_tup, g_sub, gs_nil, gs_cons, s_asg, s_par, s_aug, s_expr, s_iff, s_for, s_ret, s_retN, s_brk, s_cont, s_pass, ss_nil, ss_cons, leave_next, leave_d, take_all, v_getV, v_bop2, v_bop, v_neg, v_not, v_cmp2, v_cmp, v_bT, v_bV, v_chV3, v_chV2t, v_chV2f, v_chV1, v_chV, v_iteT, v_iteF, v_call, v_bi, v_isi, v_ix2, v_ix, v_sl3, v_sl2, v_sl, v_tup2, v_tup, v_lst, v_asgn, v_comp, v_meth2, v_meth, v_es2, v_es, v_BVt, v_BVtf, v_BVf, v_BVft, v_BTt, v_BTtf, v_BTf, v_BTft, v_O, v_tru, v_cmpT2, v_cmpT, v_chT3, v_chT2t, v_chT2f, v_chT1, v_chT, v_notT, v_isiT, v_pW, v_itV, v_R1, v_R2b, v_R2, v_asgSeq, v_setIx, v_setIx2, v_sub3, v_sub2, v_sub, v_Ts, v_asg2, v_asg, v_par2, v_par, v_augO, v_aug, v_augV, v_augA, v_augS, v_exp, v_ifT, v_ifF, v_for, v_ret, v_sqN, v_sqR, v_sqB, v_sqC, v_callT, v_ixT2, v_ixT, v_seqL, v_seqT, v_seqW, v_seqC, v_liveW, v_liveC, v_toD, v_toDc, v_frC, v_toDs0, v_toDs, v_Ds, v_Ds2, v_newF, v_newT, v_add, v_subI, v_catT, v_catLL, v_eqI, v_neI, v_eqB, v_neB, v_lt, v_le, v_gt, v_ge, v_is, v_isnot, v_nonN, v_nonI, v_nonB, v_nonT, v_nonL, v_nonC, v_truN, v_truB, v_ixO, v_ixS, v_ixTu, v_ixL, v_ixC, v_at0, v_at1, v_at2, v_at3, v_at4, v_at5, v_at6, v_at7, v_lenO, v_lenS, v_lenL, v_lenT, v_lenC, v_intI, v_intB, v_abs, v_max2, v_min2, v_gcd, v_listL, v_listT, v_listO, v_listC, v_tupleL, v_tupleT, v_tupO, v_tupleC, v_slS, v_slL, v_slT, v_itS, v_itL, v_itT, v_itW, v_itC, v_append, v_app, v_appO, v_pop, v_popO, v_popAt, v_reverse, v_revO, v_isiI, v_isiB, v_isiL, v_isiTu, v_isiS, v_isiN, v_isiC, v_Fb, v_FlN, v_FlC, v_FlB, v_FlR, v_Cl4, v_Cl3, v_Cl2, v_Cl1t, v_Cl1f, v_Cl0, v_encS, v_ptS, v_encI, v_ptI, v_eqE, v_neE, v_eqP, v_neP, v_nonE, v_nonP, v_mulS, v_setC0, v_DC, v_seqDC, v_DCxs, v_mxS, v_mxI, v_sgS, v_sgI, v_setC1, v_setC2, v_setC3, leave_c02, v_frmI, v_dtS, v_dtI, v_eqDt, v_neDt, v_neDt2, v_minDt, v_maxDt, pw_10_9, pw_10_18, pw_10_30, pw_10_12, pw_10_20, pw_10_6, pw_shl, initE, bnd_some, List.getElem?_cons_zero, List.getElem?_cons_succ, List.set_cons_zero, List.set_cons_succ, List.map_cons, List.map_nil, List.length_cons, List.length_nil, List.cons_append, List.nil_append, List.replicate, Nat.reduceAdd, Nat.reduceSub, Nat.reduceLT, Nat.reduceLeDiff, Nat.zero_add, if_true, Bool.false_eq_true, if_false, reduceCtorEq, sizeLine_eq, lBody_eq, lElt_eq, lCnd_eq, List.take_succ_cons, List.take_zero, Int.natCast_zero, Nat.max_def, List.any_cons, List.any_nil, Bool.or_false, Bool.false_or, Bool.and_false, Bool.false_and, Bool.or_true, Bool.true_or, Bool.true_and, Bool.and_true, eq_self, ne_eq, not_true, not_false_eq_true, beq_self_eq_true, Int.lt_irrefl, Int.reduceLT, Int.reduceLE, Int.reduceEq, Bool.true_beq, Bool.false_beq, decide_true, decide_false, Bool.not_true, Bool.not_false]
    rw [v_mod _ _ _ hm]
    simp only [e_var, e_cst, e_bop, e_neg, e_not, e_boo, e_cmp, e_chain, e_ite, e_call, e_bi, e_isi, e_ix, e_sl, e_tup, e_lst, e_comp, e_meth, es_nil, es_cons, bv_one, bv_cons, bt_one, bt_cons, o_none, o_some, c_none, c_some, t_var, t_not, t_boo, t_cmp, t_chain, t_call, t_isi, t_ix, i_val, i_rng1, i_rng2, g_name, g_tup, g_sub, gs_nil, gs_cons, s_asg, s_par, s_aug, s_expr, s_iff, s_for, s_ret, s_retN, s_brk, s_cont, s_pass, ss_nil, ss_cons, leave_next, leave_d, take_all, v_getV, v_bop2, v_bop, v_neg, v_not, v_cmp2, v_cmp, v_bT, v_bV, v_chV3, v_chV2t, v_chV2f, v_chV1, v_chV, v_iteT, v_iteF, v_call, v_bi, v_isi, v_ix2, v_ix, v_sl3, v_sl2, v_sl, v_tup2, v_tup, v_lst, v_asgn, v_comp, v_meth2, v_meth, v_es2, v_es, v_BVt, v_BVtf, v_BVf, v_BVft, v_BTt, v_BTtf, v_BTf, v_BTft, v_O, v_tru, v_cmpT2, v_cmpT, v_chT3, v_chT2t, v_chT2f, v_chT1, v_chT, v_notT, v_isiT, v_pW, v_itV, v_R1, v_R2b, v_R2, v_asgSeq, v_setIx, v_setIx2, v_sub3, v_sub2, v_sub, v_Ts, v_asg2, v_asg, v_par2, v_par, v_augO, v_aug, v_augV, v_augA, v_augS, v_exp, v_ifT, v_ifF, v_for, v_ret, v_sqN, v_sqR, v_sqB, v_sqC, v_callT, v_ixT2, v_ixT, v_seqL, v_seqT, v_seqW, v_seqC, v_liveW, v_liveC, v_toD, v_toDc, v_frC, v_toDs0, v_toDs, v_Ds, v_Ds2, v_newF, v_newT, v_add, v_subI, v_catT, v_catLL, v_eqI, v_neI, v_eqB, v_neB, v_lt, v_le, v_gt, v_ge, v_is, v_isnot, v_nonN, v_nonI, v_nonB, v_nonT, v_nonL, v_nonC, v_truN, v_truB, v_ixO, v_ixS, v_ixTu, v_ixL, v_ixC, v_at0, v_at1, v_at2, v_at3, v_at4, v_at5, v_at6, v_at7, v_lenO, v_lenS, v_lenL, v_lenT, v_lenC, v_intI, v_intB, v_abs, v_max2, v_min2, v_gcd, v_listL, v_listT, v_listO, v_listC, v_tupleL, v_tupleT, v_tupO, v_tupleC, v_slS, v_slL, v_slT, v_itS, v_itL, v_itT, v_itW, v_itC, v_append, v_app, v_appO, v_pop, v_popO, v_popAt, v_reverse, v_revO, v_isiI, v_isiB, v_isiL, v_isiTu, v_isiS, v_isiN, v_isiC, v_Fb, v_FlN, v_FlC, v_FlB, v_FlR, v_Cl4, v_Cl3, v_Cl2, v_Cl1t, v_Cl1f, v_Cl0, v_encS, v_ptS, v_encI, v_ptI, v_eqE, v_neE, v_eqP, v_neP, v_nonE, v_nonP, v_mulS, v_setC0, v_DC, v_seqDC, v_DCxs, v_mxS, v_mxI, v_sgS, v_sgI, v_setC1, v_setC2, v_setC3, leave_c02, v_frmI, v_dtS, v_dtI, v_eqDt, v_neDt, v_neDt2, v_minDt, v_maxDt, pw_10_9, pw_10_18, pw_10_30, pw_10_12, pw_10_20, pw_10_6, pw_shl, initE, bnd_some, List.getElem?_cons_zero, List.getElem?_cons_succ, List.set_cons_zero, List.set_cons_succ, List.map_cons, List.map_nil, List.length_cons, List.length_nil, List.cons_append, List.nil_append, List.replicate, Nat.reduceAdd, Nat.reduceSub, Nat.reduceLT, Nat.reduceLeDiff, Nat.zero_add, if_true, Bool.false_eq_true, if_false, reduceCtorEq, sizeLine_eq, lBody_eq, lElt_eq, lCnd_eq, List.take_succ_cons, List.take_zero, Int.natCast_zero, Nat.max_def, List.any_cons, List.any_nil, Bool.or_false, Bool.false_or, Bool.and_false, Bool.false_and, Bool.or_true, Bool.true_or, Bool.true_and, Bool.and_true, eq_self, ne_eq, not_true, not_false_eq_true, beq_self_eq_true, Int.lt_irrefl, Int.reduceLT, Int.reduceLE, Int.reduceEq, Bool.true_beq, Bool.false_beq, decide_true, decide_false, Bool.not_true, Bool.not_false]
    simp [tk, DC]
theorem take_ex (k : Nat) (xs : List Int) (m : Int) (hm : 0 < m) (ν : MH) : ∃ v, 0 ≤ v ∧ v < m ∧ evF T (k+1) 10 [.c 0, .d (.int m)] (DC xs :: ν) = some (.d (.int v), DC xs.dropLast :: ν) :=
  ⟨tk xs m, (tk_pos hm).1, (tk_pos hm).2, take_eq k xs m (by omega) ν⟩
-- _law_pick
theorem pick_ex (k : Nat) (xs : List Int) (row : List D) (P : D → Prop) (h : ∀ z ∈ row, P z) (h0 : row ≠ []) (ν : MH) : ∃ z, P z ∧ evF T (k+2) 11 [.c 0, .d (.list row)] (DC xs :: ν) = some (.d z, DC xs.dropLast :: ν) := by
  have hl : 0 < row.length := List.length_pos_iff.mpr h0
  obtain ⟨v, h1, h2, e⟩ := take_ex k xs row.length (by omega) ν
  obtain ⟨n, rfl⟩ := Int.eq_ofNat_of_zero_le h1
  have hn : n < row.length := by omega
  refine ⟨row[n], h _ (List.getElem_mem hn), ?_⟩
  rw [evF_run T_11 rfl]; simp only [df_law_pick, e, at_nat, List.getElem?_eq_getElem hn, e_var, e_cst, e_bop, e_neg, e_not, e_boo, e_cmp, e_chain, e_ite, e_call, e_bi, e_isi, e_ix, e_sl, e_tup, e_lst, e_comp, e_meth, es_nil, es_cons, bv_one, bv_cons, bt_one, bt_cons, o_none, o_some, c_none, c_some, t_var, t_not, t_boo, t_cmp, t_chain, t_call, t_isi, t_ix, i_val, i_rng1, i_rng2, g_name, g_tup, g_sub, gs_nil, gs_cons, s_asg, s_par, s_aug, s_expr, s_iff, s_for, s_ret, s_retN, s_brk, s_cont, s_pass, ss_nil, ss_cons, leave_next, leave_d, take_all, v_getV, v_bop2, v_bop, v_neg, v_not, v_cmp2, v_cmp, v_bT, v_bV, v_chV3, v_chV2t, v_chV2f, v_chV1, v_chV, v_iteT, v_iteF, v_call, v_bi, v_isi, v_ix2, v_ix, v_sl3, v_sl2, v_sl, v_tup2, v_tup, v_lst, v_asgn, v_comp, v_meth2, v_meth, v_es2, v_es, v_BVt, v_BVtf, v_BVf, v_BVft, v_BTt, v_BTtf, v_BTf, v_BTft, v_O, v_tru, v_cmpT2, v_cmpT, v_chT3, v_chT2t, v_chT2f, v_chT1, v_chT, v_notT, v_isiT, v_pW, v_itV, v_R1, v_R2b, v_R2, v_asgSeq, v_setIx, v_setIx2, v_sub3, v_sub2, v_sub, v_Ts, v_asg2, v_asg, v_par2, v_par, v_augO, v_aug, v_augV, v_augA, v_augS, v_exp, v_ifT, v_ifF, v_for, v_ret, v_sqN, v_sqR, v_sqB, v_sqC, v_callT, v_ixT2, v_ixT, v_seqL, v_seqT, v_seqW, v_seqC, v_liveW, v_liveC, v_toD, v_toDc, v_frC, v_toDs0, v_toDs, v_Ds, v_Ds2, v_newF, v_newT, v_add, v_subI, v_catT, v_catLL, v_eqI, v_neI, v_eqB, v_neB, v_lt, v_le, v_gt, v_ge, v_is, v_isnot, v_nonN, v_nonI, v_nonB, v_nonT, v_nonL, v_nonC, v_truN, v_truB, v_ixO, v_ixS, v_ixTu, v_ixL, v_ixC, v_at0, v_at1, v_at2, v_at3, v_at4, v_at5, v_at6, v_at7, v_lenO, v_lenS, v_lenL, v_lenT, v_lenC, v_intI, v_intB, v_abs, v_max2, v_min2, v_gcd, v_listL, v_listT, v_listO, v_listC, v_tupleL, v_tupleT, v_tupO, v_tupleC, v_slS, v_slL, v_slT, v_itS, v_itL, v_itT, v_itW, v_itC, v_append, v_app, v_appO, v_pop, v_popO, v_popAt, v_reverse, v_revO, v_isiI, v_isiB, v_isiL, v_isiTu, v_isiS, v_isiN, v_isiC, v_Fb, v_FlN, v_FlC, v_FlB, v_FlR, v_Cl4, v_Cl3, v_Cl2, v_Cl1t, v_Cl1f, v_Cl0, v_encS, v_ptS, v_encI, v_ptI, v_eqE, v_neE, v_eqP, v_neP, v_nonE, v_nonP, v_mulS, v_setC0, v_DC, v_seqDC, v_DCxs, v_mxS, v_mxI, v_sgS, v_sgI, v_setC1, v_setC2, v_setC3, leave_c02, v_frmI, v_dtS, v_dtI, v_eqDt, v_neDt, v_neDt2, v_minDt, v_maxDt, pw_10_9, pw_10_18, pw_10_30, pw_10_12, pw_10_20, pw_10_6, pw_shl, initE, bnd_some, List.getElem?_cons_zero, List.getElem?_cons_succ, List.set_cons_zero, List.set_cons_succ, List.map_cons, List.map_nil, List.length_cons, List.length_nil, List.cons_append, List.nil_append, List.replicate, Nat.reduceAdd, Nat.reduceSub, Nat.reduceLT, Nat.reduceLeDiff, Nat.zero_add, if_true, Bool.false_eq_true, if_false, reduceCtorEq, sizeLine_eq, lBody_eq, lElt_eq, lCnd_eq, List.take_succ_cons, List.take_zero, Int.natCast_zero, Nat.max_def, List.any_cons, List.any_nil, Bool.or_false, Bool.false_or, Bool.and_false, Bool.false_and, Bool.or_true, Bool.true_or, Bool.true_and, Bool.and_true, eq_self, ne_eq, not_true, not_false_eq_true, beq_self_eq_true, Int.lt_irrefl, Int.reduceLT, Int.reduceLE, Int.reduceEq, Bool.true_beq, Bool.false_beq, decide_true, decide_false, Bool.not_true, Bool.not_false]
theorem pickT_ex (k : Nat) (xs : List Int) (row : List D) (P : D → Prop) (h : ∀ z ∈ row, P z) (h0 : row ≠ []) (ν : MH) : ∃ z, P z ∧ evF T (k+2) 11 [.c 0, .d (.tuple row)] (DC xs :: ν) = some (.d z, DC xs.dropLast :: ν) := by
  have hl : 0 < row.length := List.length_pos_iff.mpr h0
  obtain ⟨v, h1, h2, e⟩ := take_ex k xs row.length (by omega) ν
  obtain ⟨n, rfl⟩ := Int.eq_ofNat_of_zero_le h1
  have hn : n < row.length := by omega
  refine ⟨row[n], h _ (List.getElem_mem hn), ?_⟩
  rw [evF_run T_11 rfl]; simp only [df_law_pick, e, at_nat, List.getElem?_eq_getElem hn, e_var, e_cst, e_bop, e_neg, e_not, e_boo, e_cmp, e_chain, e_ite, e_call, e_bi, e_isi, e_ix, e_sl, e_tup, e_lst, e_comp, e_meth, es_nil, es_cons, bv_one, bv_cons, bt_one, bt_cons, o_none, o_some, c_none, c_some, t_var, t_not, t_boo, t_cmp, t_chain, t_call, t_isi, t_ix, i_val, i_rng1, i_rng2, g_name, g_tup, g_sub, gs_nil, gs_cons, s_asg, s_par, s_aug, s_expr, s_iff, s_for, s_ret, s_retN, s_brk, s_cont, s_pass, ss_nil, ss_cons, leave_next, leave_d, take_all, v_getV, v_bop2, v_bop, v_neg, v_not, v_cmp2, v_cmp, v_bT, v_bV, v_chV3, v_chV2t, v_chV2f, v_chV1, v_chV, v_iteT, v_iteF, v_call, v_bi, v_isi, v_ix2, v_ix, v_sl3, v_sl2, v_sl, v_tup2, v_tup, v_lst, v_asgn, v_comp, v_meth2, v_meth, v_es2, v_es, v_BVt, v_BVtf, v_BVf, v_BVft, v_BTt, v_BTtf, v_BTf, v_BTft, v_O, v_tru, v_cmpT2, v_cmpT, v_chT3, v_chT2t, v_chT2f, v_chT1, v_chT, v_notT, v_isiT, v_pW, v_itV, v_R1, v_R2b, v_R2, v_asgSeq, v_setIx, v_setIx2, v_sub3, v_sub2, v_sub, v_Ts, v_asg2, v_asg, v_par2, v_par, v_augO, v_aug, v_augV, v_augA, v_augS, v_exp, v_ifT, v_ifF, v_for, v_ret, v_sqN, v_sqR, v_sqB, v_sqC, v_callT, v_ixT2, v_ixT, v_seqL, v_seqT, v_seqW, v_seqC, v_liveW, v_liveC, v_toD, v_toDc, v_frC, v_toDs0, v_toDs, v_Ds, v_Ds2, v_newF, v_newT, v_add, v_subI, v_catT, v_catLL, v_eqI, v_neI, v_eqB, v_neB, v_lt, v_le, v_gt, v_ge, v_is, v_isnot, v_nonN, v_nonI, v_nonB, v_nonT, v_nonL, v_nonC, v_truN, v_truB, v_ixO, v_ixS, v_ixTu, v_ixL, v_ixC, v_at0, v_at1, v_at2, v_at3, v_at4, v_at5, v_at6, v_at7, v_lenO, v_lenS, v_lenL, v_lenT, v_lenC, v_intI, v_intB, v_abs, v_max2, v_min2, v_gcd, v_listL, v_listT, v_listO, v_listC, v_tupleL, v_tupleT, v_tupO, v_tupleC, v_slS, v_slL, v_slT, v_itS, v_itL, v_itT, v_itW, v_itC, v_append, v_app, v_appO, v_pop, v_popO, v_popAt, v_reverse, v_revO, v_isiI, v_isiB, v_isiL, v_isiTu, v_isiS, v_isiN, v_isiC, v_Fb, v_FlN, v_FlC, v_FlB, v_FlR, v_Cl4, v_Cl3, v_Cl2, v_Cl1t, v_Cl1f, v_Cl0, v_encS, v_ptS, v_encI, v_ptI, v_eqE, v_neE, v_eqP, v_neP, v_nonE, v_nonP, v_mulS, v_setC0, v_DC, v_seqDC, v_DCxs, v_mxS, v_mxI, v_sgS, v_sgI, v_setC1, v_setC2, v_setC3, leave_c02, v_frmI, v_dtS, v_dtI, v_eqDt, v_neDt, v_neDt2, v_minDt, v_maxDt, pw_10_9, pw_10_18, pw_10_30, pw_10_12, pw_10_20, pw_10_6, pw_shl, initE, bnd_some, List.getElem?_cons_zero, List.getElem?_cons_succ, List.set_cons_zero, List.set_cons_succ, List.map_cons, List.map_nil, List.length_cons, List.length_nil, List.cons_append, List.nil_append, List.replicate, Nat.reduceAdd, Nat.reduceSub, Nat.reduceLT, Nat.reduceLeDiff, Nat.zero_add, if_true, Bool.false_eq_true, if_false, reduceCtorEq, sizeLine_eq, lBody_eq, lElt_eq, lCnd_eq, List.take_succ_cons, List.take_zero, Int.natCast_zero, Nat.max_def, List.any_cons, List.any_nil, Bool.or_false, Bool.false_or, Bool.and_false, Bool.false_and, Bool.or_true, Bool.true_or, Bool.true_and, Bool.and_true, eq_self, ne_eq, not_true, not_false_eq_true, beq_self_eq_true, Int.lt_irrefl, Int.reduceLT, Int.reduceLE, Int.reduceEq, Bool.true_beq, Bool.false_beq, decide_true, decide_false, Bool.not_true, Bool.not_false]
theorem pickW_ex (k : Nat) (xs : List Int) (w : W) (t : Bool) (row : List D) (P : D → Prop) (h : ∀ z ∈ row, P z) (h0 : row ≠ []) (ν : MH) (hw : ∀ xs, seqW w (DC xs :: ν) = some (t, row)) : ∃ z, P z ∧ evF T (k+2) 11 [.c 0, w] (DC xs :: ν) = some (.d z, DC xs.dropLast :: ν) := by
  have hl : 0 < row.length := List.length_pos_iff.mpr h0
  obtain ⟨v, h1, h2, e⟩ := take_ex k xs row.length (by omega) ν
  obtain ⟨n, rfl⟩ := Int.eq_ofNat_of_zero_le h1
  have hn : n < row.length := by omega
  refine ⟨row[n], h _ (List.getElem_mem hn), ?_⟩
  have e1 := fun (l : Bool) => v_lenW l (hw xs)
  have e2 := fun (i : Int) => v_ixW (hw xs.dropLast) i
  rw [evF_run T_11 rfl]; simp only [df_law_pick, e, e1, e2, at_nat, List.getElem?_eq_getElem hn, e_var, e_cst, e_bop, e_neg, e_not, e_boo, e_cmp, e_chain, e_ite, e_call, e_bi, e_isi, e_ix, e_sl, e_tup, e_lst, e_comp, e_meth, es_nil, es_cons, bv_one, bv_cons, bt_one, bt_cons, o_none, o_some, c_none, c_some, t_var, t_not, t_boo, t_cmp, t_chain, t_call, t_isi, t_ix, i_val, i_rng1, i_rng2, g_name, g_tup, g_sub, gs_nil, gs_cons, s_asg, s_par, s_aug, s_expr, s_iff, s_for, s_ret, s_retN, s_brk, s_cont, s_pass, ss_nil, ss_cons, leave_next, leave_d, take_all, v_getV, v_bop2, v_bop, v_neg, v_not, v_cmp2, v_cmp, v_bT, v_bV, v_chV3, v_chV2t, v_chV2f, v_chV1, v_chV, v_iteT, v_iteF, v_call, v_bi, v_isi, v_ix2, v_ix, v_sl3, v_sl2, v_sl, v_tup2, v_tup, v_lst, v_asgn, v_comp, v_meth2, v_meth, v_es2, v_es, v_BVt, v_BVtf, v_BVf, v_BVft, v_BTt, v_BTtf, v_BTf, v_BTft, v_O, v_tru, v_cmpT2, v_cmpT, v_chT3, v_chT2t, v_chT2f, v_chT1, v_chT, v_notT, v_isiT, v_pW, v_itV, v_R1, v_R2b, v_R2, v_asgSeq, v_setIx, v_setIx2, v_sub3, v_sub2, v_sub, v_Ts, v_asg2, v_asg, v_par2, v_par, v_augO, v_aug, v_augV, v_augA, v_augS, v_exp, v_ifT, v_ifF, v_for, v_ret, v_sqN, v_sqR, v_sqB, v_sqC, v_callT, v_ixT2, v_ixT, v_seqL, v_seqT, v_seqW, v_seqC, v_liveW, v_liveC, v_toD, v_toDc, v_frC, v_toDs0, v_toDs, v_Ds, v_Ds2, v_newF, v_newT, v_add, v_subI, v_catT, v_catLL, v_eqI, v_neI, v_eqB, v_neB, v_lt, v_le, v_gt, v_ge, v_is, v_isnot, v_nonN, v_nonI, v_nonB, v_nonT, v_nonL, v_nonC, v_truN, v_truB, v_ixO, v_ixS, v_ixTu, v_ixL, v_ixC, v_at0, v_at1, v_at2, v_at3, v_at4, v_at5, v_at6, v_at7, v_lenO, v_lenS, v_lenL, v_lenT, v_lenC, v_intI, v_intB, v_abs, v_max2, v_min2, v_gcd, v_listL, v_listT, v_listO, v_listC, v_tupleL, v_tupleT, v_tupO, v_tupleC, v_slS, v_slL, v_slT, v_itS, v_itL, v_itT, v_itW, v_itC, v_append, v_app, v_appO, v_pop, v_popO, v_popAt, v_reverse, v_revO, v_isiI, v_isiB, v_isiL, v_isiTu, v_isiS, v_isiN, v_isiC, v_Fb, v_FlN, v_FlC, v_FlB, v_FlR, v_Cl4, v_Cl3, v_Cl2, v_Cl1t, v_Cl1f, v_Cl0, v_encS, v_ptS, v_encI, v_ptI, v_eqE, v_neE, v_eqP, v_neP, v_nonE, v_nonP, v_mulS, v_setC0, v_DC, v_seqDC, v_DCxs, v_mxS, v_mxI, v_sgS, v_sgI, v_setC1, v_setC2, v_setC3, leave_c02, v_frmI, v_dtS, v_dtI, v_eqDt, v_neDt, v_neDt2, v_minDt, v_maxDt, pw_10_9, pw_10_18, pw_10_30, pw_10_12, pw_10_20, pw_10_6, pw_shl, initE, bnd_some, List.getElem?_cons_zero, List.getElem?_cons_succ, List.set_cons_zero, List.set_cons_succ, List.map_cons, List.map_nil, List.length_cons, List.length_nil, List.cons_append, List.nil_append, List.replicate, Nat.reduceAdd, Nat.reduceSub, Nat.reduceLT, Nat.reduceLeDiff, Nat.zero_add, if_true, Bool.false_eq_true, if_false, reduceCtorEq, sizeLine_eq, lBody_eq, lElt_eq, lCnd_eq, List.take_succ_cons, List.take_zero, Int.natCast_zero, Nat.max_def, List.any_cons, List.any_nil, Bool.or_false, Bool.false_or, Bool.and_false, Bool.false_and, Bool.or_true, Bool.true_or, Bool.true_and, Bool.and_true, eq_self, ne_eq, not_true, not_false_eq_true, beq_self_eq_true, Int.lt_irrefl, Int.reduceLT, Int.reduceLE, Int.reduceEq, Bool.true_beq, Bool.false_beq, decide_true, decide_false, Bool.not_true, Bool.not_false]
-- _law_gcd
theorem gcd_eq (k : Nat) (n d : Int) (μ : MH) (hs : n.natAbs * d.natAbs < 2 ^ 19990) : evF T (k+1) 13 [.d (.int n), .d (.int d)] μ = some (.d (.int (Int.gcd n d : Nat)), μ) := by
  have abn : ∀ z : Int, (if z < 0 then -z else z) = (z.natAbs : Int) := fun z => by split <;> omega
  rw [evF_run T_13 rfl]; simp only [df_law_gcd, abn, v_R1 20000 rfl, e_var, e_cst, e_bop, e_neg, e_not, e_boo, e_cmp, e_chain, e_ite, e_call, e_bi, e_isi, e_ix, e_sl, e_tup, e_lst, e_comp, e_meth, es_nil, es_cons, bv_one, bv_cons, bt_one, bt_cons, o_none, o_some, c_none, c_some, t_var, t_not, t_boo, t_cmp, t_chain, t_call, t_isi, t_ix, i_val, i_rng1, i_rng2, g_name, g_tup, g_sub, gs_nil, gs_cons, s_asg, s_par, s_aug, s_expr, s_iff, s_for, s_ret, s_retN, s_brk, s_cont, s_pass, ss_nil, ss_cons, leave_next, leave_d, take_all, v_getV, v_bop2, v_bop, v_neg, v_not, v_cmp2, v_cmp, v_bT, v_bV, v_chV3, v_chV2t, v_chV2f, v_chV1, v_chV, v_iteT, v_iteF, v_call, v_bi, v_isi, v_ix2, v_ix, v_sl3, v_sl2, v_sl, v_tup2, v_tup, v_lst, v_asgn, v_comp, v_meth2, v_meth, v_es2, v_es, v_BVt, v_BVtf, v_BVf, v_BVft, v_BTt, v_BTtf, v_BTf, v_BTft, v_O, v_tru, v_cmpT2, v_cmpT, v_chT3, v_chT2t, v_chT2f, v_chT1, v_chT, v_notT, v_isiT, v_pW, v_itV, v_R1, v_R2b, v_R2, v_asgSeq, v_setIx, v_setIx2, v_sub3, v_sub2, v_sub, v_Ts, v_asg2, v_asg, v_par2, v_par, v_augO, v_aug, v_augV, v_augA, v_augS, v_exp, v_ifT, v_ifF, v_for, v_ret, v_sqN, v_sqR, v_sqB, v_sqC, v_callT, v_ixT2, v_ixT, v_seqL, v_seqT, v_seqW, v_seqC, v_liveW, v_liveC, v_toD, v_toDc, v_frC, v_toDs0, v_toDs, v_Ds, v_Ds2, v_newF, v_newT, v_add, v_subI, v_catT, v_catLL, v_eqI, v_neI, v_eqB, v_neB, v_lt, v_le, v_gt, v_ge, v_is, v_isnot, v_nonN, v_nonI, v_nonB, v_nonT, v_nonL, v_nonC, v_truN, v_truB, v_ixO, v_ixS, v_ixTu, v_ixL, v_ixC, v_at0, v_at1, v_at2, v_at3, v_at4, v_at5, v_at6, v_at7, v_lenO, v_lenS, v_lenL, v_lenT, v_lenC, v_intI, v_intB, v_abs, v_max2, v_min2, v_gcd, v_listL, v_listT, v_listO, v_listC, v_tupleL, v_tupleT, v_tupO, v_tupleC, v_slS, v_slL, v_slT, v_itS, v_itL, v_itT, v_itW, v_itC, v_append, v_app, v_appO, v_pop, v_popO, v_popAt, v_reverse, v_revO, v_isiI, v_isiB, v_isiL, v_isiTu, v_isiS, v_isiN, v_isiC, v_Fb, v_FlN, v_FlC, v_FlB, v_FlR, v_Cl4, v_Cl3, v_Cl2, v_Cl1t, v_Cl1f, v_Cl0, v_encS, v_ptS, v_encI, v_ptI, v_eqE, v_neE, v_eqP, v_neP, v_nonE, v_nonP, v_mulS, v_setC0, v_DC, v_seqDC, v_DCxs, v_mxS, v_mxI, v_sgS, v_sgI, v_setC1, v_setC2, v_setC3, leave_c02, v_frmI, v_dtS, v_dtI, v_eqDt, v_neDt, v_neDt2, v_minDt, v_maxDt, pw_10_9, pw_10_18, pw_10_30, pw_10_12, pw_10_20, pw_10_6, pw_shl, initE, bnd_some, List.getElem?_cons_zero, List.getElem?_cons_succ, List.set_cons_zero, List.set_cons_succ, List.map_cons, List.map_nil, List.length_cons, List.length_nil, List.cons_append, List.nil_append, List.replicate, Nat.reduceAdd, Nat.reduceSub, Nat.reduceLT, Nat.reduceLeDiff, Nat.zero_add, if_true, Bool.false_eq_true, if_false, reduceCtorEq, sizeLine_eq, lBody_eq, lElt_eq, lCnd_eq, List.take_succ_cons, List.take_zero, Int.natCast_zero, Nat.max_def, List.any_cons, List.any_nil, Bool.or_false, Bool.false_or, Bool.and_false, Bool.false_and, Bool.or_true, Bool.true_or, Bool.true_and, Bool.and_true, eq_self, ne_eq, not_true, not_false_eq_true, beq_self_eq_true, Int.lt_irrefl, Int.reduceLT, Int.reduceLE, Int.reduceEq, Bool.true_beq, Bool.false_beq, decide_true, decide_false, Bool.not_true, Bool.not_false]
  refine sq_loop (fun e m => m = μ ∧ ∃ v3 v4 v5, e = [some (.d (.int n)), some (.d (.int d)), some (.d (.int ((Int.gcd n d : Nat) : Int))), v3, v4, v5])
    (forL_inv (fun i e m => m = μ ∧ ∃ x y v4 v5, e = [some (.d (.int n)), some (.d (.int d)), some (.d (.int ((x : Nat) : Int))), some (.d (.int ((y : Nat) : Int))), v4, v5] ∧ EgI (Int.gcd n d) 19990 i x y)
      _ _ 0 _ _ ⟨rfl, n.natAbs, d.natAbs, none, none, rfl, rfl, .inl ⟨rfl, hs⟩⟩ ?_ ?_) ?_
  · rintro j x e m - ⟨rfl, a, b, v4, v5, rfl, hE⟩
    refine ⟨_, _, by simp only [e_var, e_cst, e_bop, e_neg, e_not, e_boo, e_cmp, e_chain, e_ite, e_call, e_bi, e_isi, e_ix, e_sl, e_tup, e_lst, e_comp, e_meth, es_nil, es_cons, bv_one, bv_cons, bt_one, bt_cons, o_none, o_some, c_none, c_some, t_var, t_not, t_boo, t_cmp, t_chain, t_call, t_isi, t_ix, i_val, i_rng1, i_rng2, g_name, g_tup, g_sub, gs_nil, gs_cons, s_asg, s_par, s_aug, s_expr, s_iff, s_for, s_ret, s_retN, s_brk, s_cont, s_pass, ss_nil, ss_cons, leave_next, leave_d, take_all, v_getV, v_bop2, v_bop, v_neg, v_not, v_cmp2, v_cmp, v_bT, v_bV, v_chV3, v_chV2t, v_chV2f, v_chV1, v_chV, v_iteT, v_iteF, v_call, v_bi, v_isi, v_ix2, v_ix, v_sl3, v_sl2, v_sl, v_tup2, v_tup, v_lst, v_asgn, v_comp, v_meth2, v_meth, v_es2, v_es, v_BVt, v_BVtf, v_BVf, v_BVft, v_BTt, v_BTtf, v_BTf, v_BTft, v_O, v_tru, v_cmpT2, v_cmpT, v_chT3, v_chT2t, v_chT2f, v_chT1, v_chT, v_notT, v_isiT, v_pW, v_itV, v_R1, v_R2b, v_R2, v_asgSeq, v_setIx, v_setIx2, v_sub3, v_sub2, v_sub, v_Ts, v_asg2, v_asg, v_par2, v_par, v_augO, v_aug, v_augV, v_augA, v_augS, v_exp, v_ifT, v_ifF, v_for, v_ret, v_sqN, v_sqR, v_sqB, v_sqC, v_callT, v_ixT2, v_ixT, v_seqL, v_seqT, v_seqW, v_seqC, v_liveW, v_liveC, v_toD, v_toDc, v_frC, v_toDs0, v_toDs, v_Ds, v_Ds2, v_newF, v_newT, v_add, v_subI, v_catT, v_catLL, v_eqI, v_neI, v_eqB, v_neB, v_lt, v_le, v_gt, v_ge, v_is, v_isnot, v_nonN, v_nonI, v_nonB, v_nonT, v_nonL, v_nonC, v_truN, v_truB, v_ixO, v_ixS, v_ixTu, v_ixL, v_ixC, v_at0, v_at1, v_at2, v_at3, v_at4, v_at5, v_at6, v_at7, v_lenO, v_lenS, v_lenL, v_lenT, v_lenC, v_intI, v_intB, v_abs, v_max2, v_min2, v_gcd, v_listL, v_listT, v_listO, v_listC, v_tupleL, v_tupleT, v_tupO, v_tupleC, v_slS, v_slL, v_slT, v_itS, v_itL, v_itT, v_itW, v_itC, v_append, v_app, v_appO, v_pop, v_popO, v_popAt, v_reverse, v_revO, v_isiI, v_isiB, v_isiL, v_isiTu, v_isiS, v_isiN, v_isiC, v_Fb, v_FlN, v_FlC, v_FlB, v_FlR, v_Cl4, v_Cl3, v_Cl2, v_Cl1t, v_Cl1f, v_Cl0, v_encS, v_ptS, v_encI, v_ptI, v_eqE, v_neE, v_eqP, v_neP, v_nonE, v_nonP, v_mulS, v_setC0, v_DC, v_seqDC, v_DCxs, v_mxS, v_mxI, v_sgS, v_sgI, v_setC1, v_setC2, v_setC3, leave_c02, v_frmI, v_dtS, v_dtI, v_eqDt, v_neDt, v_neDt2, v_minDt, v_maxDt, pw_10_9, pw_10_18, pw_10_30, pw_10_12, pw_10_20, pw_10_6, pw_shl, initE, bnd_some, List.getElem?_cons_zero, List.getElem?_cons_succ, List.set_cons_zero, List.set_cons_succ, List.map_cons, List.map_nil, List.length_cons, List.length_nil, List.cons_append, List.nil_append, List.replicate, Nat.reduceAdd, Nat.reduceSub, Nat.reduceLT, Nat.reduceLeDiff, Nat.zero_add, if_true, Bool.false_eq_true, if_false, reduceCtorEq, sizeLine_eq, lBody_eq, lElt_eq, lCnd_eq, List.take_succ_cons, List.take_zero, Int.natCast_zero, Nat.max_def, List.any_cons, List.any_nil, Bool.or_false, Bool.false_or, Bool.and_false, Bool.false_and, Bool.or_true, Bool.true_or, Bool.true_and, Bool.and_true, eq_self, ne_eq, not_true, not_false_eq_true, beq_self_eq_true, Int.lt_irrefl, Int.reduceLT, Int.reduceLE, Int.reduceEq, Bool.true_beq, Bool.false_beq, decide_true, decide_false, Bool.not_true, Bool.not_false]; rfl, ?_⟩
    by_cases hb : b = 0
    · subst hb
      simp only [e_var, e_cst, e_bop, e_neg, e_not, e_boo, e_cmp, e_chain, e_ite, e_call, e_bi, e_isi, e_ix, e_sl, e_tup, e_lst, e_comp, e_meth, es_nil, es_cons, bv_one, bv_cons, bt_one, bt_cons, o_none, o_some, c_none, c_some, t_var, t_not, t_boo, t_cmp, t_chain, t_call, t_isi, t_ix, i_val, i_rng1, i_rng2, g_name, g_tup, g_sub, gs_nil, gs_cons, s_asg, s_par, s_aug, s_expr, s_iff, s_for, s_ret, s_retN, s_brk, s_cont, s_pass, ss_nil, ss_cons, leave_next, leave_d, take_all, v_getV, v_bop2, v_bop, v_neg, v_not, v_cmp2, v_cmp, v_bT, v_bV, v_chV3, v_chV2t, v_chV2f, v_chV1, v_chV, v_iteT, v_iteF, v_call, v_bi, v_isi, v_ix2, v_ix, v_sl3, v_sl2, v_sl, v_tup2, v_tup, v_lst, v_asgn, v_comp, v_meth2, v_meth, v_es2, v_es, v_BVt, v_BVtf, v_BVf, v_BVft, v_BTt, v_BTtf, v_BTf, v_BTft, v_O, v_tru, v_cmpT2, v_cmpT, v_chT3, v_chT2t, v_chT2f, v_chT1, v_chT, v_notT, v_isiT, v_pW, v_itV, v_R1, v_R2b, v_R2, v_asgSeq, v_setIx, v_setIx2, v_sub3, v_sub2, v_sub, v_Ts, v_asg2, v_asg, v_par2, v_par, v_augO, v_aug, v_augV, v_augA, v_augS, v_exp, v_ifT, v_ifF, v_for, v_ret, v_sqN, v_sqR, v_sqB, v_sqC, v_callT, v_ixT2, v_ixT, v_seqL, v_seqT, v_seqW, v_seqC, v_liveW, v_liveC, v_toD, v_toDc, v_frC, v_toDs0, v_toDs, v_Ds, v_Ds2, v_newF, v_newT, v_add, v_subI, v_catT, v_catLL, v_eqI, v_neI, v_eqB, v_neB, v_lt, v_le, v_gt, v_ge, v_is, v_isnot, v_nonN, v_nonI, v_nonB, v_nonT, v_nonL, v_nonC, v_truN, v_truB, v_ixO, v_ixS, v_ixTu, v_ixL, v_ixC, v_at0, v_at1, v_at2, v_at3, v_at4, v_at5, v_at6, v_at7, v_lenO, v_lenS, v_lenL, v_lenT, v_lenC, v_intI, v_intB, v_abs, v_max2, v_min2, v_gcd, v_listL, v_listT, v_listO, v_listC, v_tupleL, v_tupleT, v_tupO, v_tupleC, v_slS, v_slL, v_slT, v_itS, v_itL, v_itT, v_itW, v_itC, v_append, v_app, v_appO, v_pop, v_popO, v_popAt, v_reverse, v_revO, v_isiI, v_isiB, v_isiL, v_isiTu, v_isiS, v_isiN, v_isiC, v_Fb, v_FlN, v_FlC, v_FlB, v_FlR, v_Cl4, v_Cl3, v_Cl2, v_Cl1t, v_Cl1f, v_Cl0, v_encS, v_ptS, v_encI, v_ptI, v_eqE, v_neE, v_eqP, v_neP, v_nonE, v_nonP, v_mulS, v_setC0, v_DC, v_seqDC, v_DCxs, v_mxS, v_mxI, v_sgS, v_sgI, v_setC1, v_setC2, v_setC3, leave_c02, v_frmI, v_dtS, v_dtI, v_eqDt, v_neDt, v_neDt2, v_minDt, v_maxDt, pw_10_9, pw_10_18, pw_10_30, pw_10_12, pw_10_20, pw_10_6, pw_shl, initE, bnd_some, List.getElem?_cons_zero, List.getElem?_cons_succ, List.set_cons_zero, List.set_cons_succ, List.map_cons, List.map_nil, List.length_cons, List.length_nil, List.cons_append, List.nil_append, List.replicate, Nat.reduceAdd, Nat.reduceSub, Nat.reduceLT, Nat.reduceLeDiff, Nat.zero_add, if_true, Bool.false_eq_true, if_false, reduceCtorEq, sizeLine_eq, lBody_eq, lElt_eq, lCnd_eq, List.take_succ_cons, List.take_zero, Int.natCast_zero, Nat.max_def, List.any_cons, List.any_nil, Bool.or_false, Bool.false_or, Bool.and_false, Bool.false_and, Bool.or_true, Bool.true_or, Bool.true_and, Bool.and_true, eq_self, ne_eq, not_true, not_false_eq_true, beq_self_eq_true, Int.lt_irrefl, Int.reduceLT, Int.reduceLE, Int.reduceEq, Bool.true_beq, Bool.false_beq, decide_true, decide_false, Bool.not_true, Bool.not_false, Int.natCast_zero]
      have hz : a = Int.gcd n d := by have := hE.1; rw [Nat.gcd_zero_right] at this; exact this
      subst hz
      exact ⟨rfl, _, _, _, rfl⟩
    · have hb' : (b : Int) ≠ 0 := by omega
      simp only [hb', v_mod _ _ _ hb', fmod_nat, e_var, e_cst, e_bop, e_neg, e_not, e_boo, e_cmp, e_chain, e_ite, e_call, e_bi, e_isi, e_ix, e_sl, e_tup, e_lst, e_comp, e_meth, es_nil, es_cons, bv_one, bv_cons, bt_one, bt_cons, o_none, o_some, c_none, c_some, t_var, t_not, t_boo, t_cmp, t_chain, t_call, t_isi, t_ix, i_val, i_rng1, i_rng2, g_name, g_tup, g_sub, gs_nil, gs_cons, s_asg, s_par, s_aug, s_expr, s_iff, s_for, s_ret, s_retN, s_brk, s_cont, s_pass, ss_nil, ss_cons, leave_next, leave_d, take_all, v_getV, v_bop2, v_bop, v_neg, v_not, v_cmp2, v_cmp, v_bT, v_bV, v_chV3, v_chV2t, v_chV2f, v_chV1, v_chV, v_iteT, v_iteF, v_call, v_bi, v_isi, v_ix2, v_ix, v_sl3, v_sl2, v_sl, v_tup2, v_tup, v_lst, v_asgn, v_comp, v_meth2, v_meth, v_es2, v_es, v_BVt, v_BVtf, v_BVf, v_BVft, v_BTt, v_BTtf, v_BTf, v_BTft, v_O, v_tru, v_cmpT2, v_cmpT, v_chT3, v_chT2t, v_chT2f, v_chT1, v_chT, v_notT, v_isiT, v_pW, v_itV, v_R1, v_R2b, v_R2, v_asgSeq, v_setIx, v_setIx2, v_sub3, v_sub2, v_sub, v_Ts, v_asg2, v_asg, v_par2, v_par, v_augO, v_aug, v_augV, v_augA, v_augS, v_exp, v_ifT, v_ifF, v_for, v_ret, v_sqN, v_sqR, v_sqB, v_sqC, v_callT, v_ixT2, v_ixT, v_seqL, v_seqT, v_seqW, v_seqC, v_liveW, v_liveC, v_toD, v_toDc, v_frC, v_toDs0, v_toDs, v_Ds, v_Ds2, v_newF, v_newT, v_add, v_subI, v_catT, v_catLL, v_eqI, v_neI, v_eqB, v_neB, v_lt, v_le, v_gt, v_ge, v_is, v_isnot, v_nonN, v_nonI, v_nonB, v_nonT, v_nonL, v_nonC, v_truN, v_truB, v_ixO, v_ixS, v_ixTu, v_ixL, v_ixC, v_at0, v_at1, v_at2, v_at3, v_at4, v_at5, v_at6, v_at7, v_lenO, v_lenS, v_lenL, v_lenT, v_lenC, v_intI, v_intB, v_abs, v_max2, v_min2, v_gcd, v_listL, v_listT, v_listO, v_listC, v_tupleL, v_tupleT, v_tupO, v_tupleC, v_slS, v_slL, v_slT, v_itS, v_itL, v_itT, v_itW, v_itC, v_append, v_app, v_appO, v_pop, v_popO, v_popAt, v_reverse, v_revO, v_isiI, v_isiB, v_isiL, v_isiTu, v_isiS, v_isiN, v_isiC, v_Fb, v_FlN, v_FlC, v_FlB, v_FlR, v_Cl4, v_Cl3, v_Cl2, v_Cl1t, v_Cl1f, v_Cl0, v_encS, v_ptS, v_encI, v_ptI, v_eqE, v_neE, v_eqP, v_neP, v_nonE, v_nonP, v_mulS, v_setC0, v_DC, v_seqDC, v_DCxs, v_mxS, v_mxI, v_sgS, v_sgI, v_setC1, v_setC2, v_setC3, leave_c02, v_frmI, v_dtS, v_dtI, v_eqDt, v_neDt, v_neDt2, v_minDt, v_maxDt, pw_10_9, pw_10_18, pw_10_30, pw_10_12, pw_10_20, pw_10_6, pw_shl, initE, bnd_some, List.getElem?_cons_zero, List.getElem?_cons_succ, List.set_cons_zero, List.set_cons_succ, List.map_cons, List.map_nil, List.length_cons, List.length_nil, List.cons_append, List.nil_append, List.replicate, Nat.reduceAdd, Nat.reduceSub, Nat.reduceLT, Nat.reduceLeDiff, Nat.zero_add, if_true, Bool.false_eq_true, if_false, reduceCtorEq, sizeLine_eq, lBody_eq, lElt_eq, lCnd_eq, List.take_succ_cons, List.take_zero, Int.natCast_zero, Nat.max_def, List.any_cons, List.any_nil, Bool.or_false, Bool.false_or, Bool.and_false, Bool.false_and, Bool.or_true, Bool.true_or, Bool.true_and, Bool.and_true, eq_self, ne_eq, not_true, not_false_eq_true, beq_self_eq_true, Int.lt_irrefl, Int.reduceLT, Int.reduceLE, Int.reduceEq, Bool.true_beq, Bool.false_beq, decide_true, decide_false, Bool.not_true, Bool.not_false]
      exact ⟨rfl, b, a % b, _, _, rfl, by have := hE.step hb; rw [Nat.zero_add] at this; exact this⟩
  · rintro e m ⟨rfl, a, b, v4, v5, rfl, hE⟩
    rw [rngD_length] at hE
    have hz : a = Int.gcd n d := hE.done (by decide)
    subst hz
    exact ⟨rfl, _, _, _, rfl⟩
  · rintro e m ⟨rfl, v3, v4, v5, rfl⟩
    simp only [e_var, e_cst, e_bop, e_neg, e_not, e_boo, e_cmp, e_chain, e_ite, e_call, e_bi, e_isi, e_ix, e_sl, e_tup, e_lst, e_comp, e_meth, es_nil, es_cons, bv_one, bv_cons, bt_one, bt_cons, o_none, o_some, c_none, c_some, t_var, t_not, t_boo, t_cmp, t_chain, t_call, t_isi, t_ix, i_val, i_rng1, i_rng2, g_name, g_tup, g_sub, gs_nil, gs_cons, s_asg, s_par, s_aug, s_expr, s_iff, s_for, s_ret, s_retN, s_brk, s_cont, s_pass, ss_nil, ss_cons, leave_next, leave_d, take_all, v_getV, v_bop2, v_bop, v_neg, v_not, v_cmp2, v_cmp, v_bT, v_bV, v_chV3, v_chV2t, v_chV2f, v_chV1, v_chV, v_iteT, v_iteF, v_call, v_bi, v_isi, v_ix2, v_ix, v_sl3, v_sl2, v_sl, v_tup2, v_tup, v_lst, v_asgn, v_comp, v_meth2, v_meth, v_es2, v_es, v_BVt, v_BVtf, v_BVf, v_BVft, v_BTt, v_BTtf, v_BTf, v_BTft, v_O, v_tru, v_cmpT2, v_cmpT, v_chT3, v_chT2t, v_chT2f, v_chT1, v_chT, v_notT, v_isiT, v_pW, v_itV, v_R1, v_R2b, v_R2, v_asgSeq, v_setIx, v_setIx2, v_sub3, v_sub2, v_sub, v_Ts, v_asg2, v_asg, v_par2, v_par, v_augO, v_aug, v_augV, v_augA, v_augS, v_exp, v_ifT, v_ifF, v_for, v_ret, v_sqN, v_sqR, v_sqB, v_sqC, v_callT, v_ixT2, v_ixT, v_seqL, v_seqT, v_seqW, v_seqC, v_liveW, v_liveC, v_toD, v_toDc, v_frC, v_toDs0, v_toDs, v_Ds, v_Ds2, v_newF, v_newT, v_add, v_subI, v_catT, v_catLL, v_eqI, v_neI, v_eqB, v_neB, v_lt, v_le, v_gt, v_ge, v_is, v_isnot, v_nonN, v_nonI, v_nonB, v_nonT, v_nonL, v_nonC, v_truN, v_truB, v_ixO, v_ixS, v_ixTu, v_ixL, v_ixC, v_at0, v_at1, v_at2, v_at3, v_at4, v_at5, v_at6, v_at7, v_lenO, v_lenS, v_lenL, v_lenT, v_lenC, v_intI, v_intB, v_abs, v_max2, v_min2, v_gcd, v_listL, v_listT, v_listO, v_listC, v_tupleL, v_tupleT, v_tupO, v_tupleC, v_slS, v_slL, v_slT, v_itS, v_itL, v_itT, v_itW, v_itC, v_append, v_app, v_appO, v_pop, v_popO, v_popAt, v_reverse, v_revO, v_isiI, v_isiB, v_isiL, v_isiTu, v_isiS, v_isiN, v_isiC, v_Fb, v_FlN, v_FlC, v_FlB, v_FlR, v_Cl4, v_Cl3, v_Cl2, v_Cl1t, v_Cl1f, v_Cl0, v_encS, v_ptS, v_encI, v_ptI, v_eqE, v_neE, v_eqP, v_neP, v_nonE, v_nonP, v_mulS, v_setC0, v_DC, v_seqDC, v_DCxs, v_mxS, v_mxI, v_sgS, v_sgI, v_setC1, v_setC2, v_setC3, leave_c02, v_frmI, v_dtS, v_dtI, v_eqDt, v_neDt, v_neDt2, v_minDt, v_maxDt, pw_10_9, pw_10_18, pw_10_30, pw_10_12, pw_10_20, pw_10_6, pw_shl, initE, bnd_some, List.getElem?_cons_zero, List.getElem?_cons_succ, List.set_cons_zero, List.set_cons_succ, List.map_cons, List.map_nil, List.length_cons, List.length_nil, List.cons_append, List.nil_append, List.replicate, Nat.reduceAdd, Nat.reduceSub, Nat.reduceLT, Nat.reduceLeDiff, Nat.zero_add, if_true, Bool.false_eq_true, if_false, reduceCtorEq, sizeLine_eq, lBody_eq, lElt_eq, lCnd_eq, List.take_succ_cons, List.take_zero, Int.natCast_zero, Nat.max_def, List.any_cons, List.any_nil, Bool.or_false, Bool.false_or, Bool.and_false, Bool.false_and, Bool.or_true, Bool.true_or, Bool.true_and, Bool.and_true, eq_self, ne_eq, not_true, not_false_eq_true, beq_self_eq_true, Int.lt_irrefl, Int.reduceLT, Int.reduceLE, Int.reduceEq, Bool.true_beq, Bool.false_beq, decide_true, decide_false, Bool.not_true, Bool.not_false]
-- _law_frac
theorem frac_eq (k : Nat) (n d : Int) (μ : MH) (hd : d ≠ 0) [sn : Sz n 8000] [sd : Sz d 8000] : evF T (k+2) 14 [.d (.int n), .d (.int d)] μ = some (.d (enc (Rat.divInt n d)), μ) := by
  have hs : n.natAbs * d.natAbs < 2 ^ 19990 := by
    have h := Nat.mul_lt_mul'' sn.h sd.h
    rw [← Nat.pow_add] at h
    exact Nat.lt_of_lt_of_le h (Nat.pow_le_pow_right (by decide) (by decide))
  have g : ∀ μ, evF T (k + 1) 13 [.d (.int n), .d (.int d)] μ = some (.d (.int (Int.gcd n d : Nat)), μ) := fun μ => gcd_eq k n d μ hs
  have gp := gcd_pos' (n := n) hd
  have g1 : (if ((Int.gcd n d : Nat) : Int) > 1 then ((Int.gcd n d : Nat) : Int) else 1) = ((Int.gcd n d : Nat) : Int) := by split <;> omega
  have gl : Int.gcd n d ≤ d.natAbs := Int.gcd_le_natAbs_right _ hd
  have sg1 : Sz ((Int.gcd n d : Nat) : Int) 8000 := ⟨by have := sd.h; rw [Int.natAbs_natCast]; omega⟩
  have g0 : ((Int.gcd n d : Nat) : Int) ≠ 0 := by omega
  have g2 : 0 - ((Int.gcd n d : Nat) : Int) = -((Int.gcd n d : Nat) : Int) := by omega
  have g3 : -((Int.gcd n d : Nat) : Int) ≠ 0 := by omega
  by_cases h : d < 0
  · obtain ⟨a, b⟩ := frac_neg (n := n) h
    rw [evF_run T_14 rfl]; simp only [df_law_frac, g, g1, h, g2, e_var, e_cst, e_bop, e_neg, e_not, e_boo, e_cmp, e_chain, e_ite, e_call, e_bi, e_isi, e_ix, e_sl, e_tup, e_lst, e_comp, e_meth, es_nil, es_cons, bv_one, bv_cons, bt_one, bt_cons, o_none, o_some, c_none, c_some, t_var, t_not, t_boo, t_cmp, t_chain, t_call, t_isi, t_ix, i_val, i_rng1, i_rng2, g_name, g_tup, g_sub, gs_nil, gs_cons, s_asg, s_par, s_aug, s_expr, s_iff, s_for, s_ret, s_retN, s_brk, s_cont, s_pass, ss_nil, ss_cons, leave_next, leave_d, take_all, v_getV, v_bop2, v_bop, v_neg, v_not, v_cmp2, v_cmp, v_bT, v_bV, v_chV3, v_chV2t, v_chV2f, v_chV1, v_chV, v_iteT, v_iteF, v_call, v_bi, v_isi, v_ix2, v_ix, v_sl3, v_sl2, v_sl, v_tup2, v_tup, v_lst, v_asgn, v_comp, v_meth2, v_meth, v_es2, v_es, v_BVt, v_BVtf, v_BVf, v_BVft, v_BTt, v_BTtf, v_BTf, v_BTft, v_O, v_tru, v_cmpT2, v_cmpT, v_chT3, v_chT2t, v_chT2f, v_chT1, v_chT, v_notT, v_isiT, v_pW, v_itV, v_R1, v_R2b, v_R2, v_asgSeq, v_setIx, v_setIx2, v_sub3, v_sub2, v_sub, v_Ts, v_asg2, v_asg, v_par2, v_par, v_augO, v_aug, v_augV, v_augA, v_augS, v_exp, v_ifT, v_ifF, v_for, v_ret, v_sqN, v_sqR, v_sqB, v_sqC, v_callT, v_ixT2, v_ixT, v_seqL, v_seqT, v_seqW, v_seqC, v_liveW, v_liveC, v_toD, v_toDc, v_frC, v_toDs0, v_toDs, v_Ds, v_Ds2, v_newF, v_newT, v_add, v_subI, v_catT, v_catLL, v_eqI, v_neI, v_eqB, v_neB, v_lt, v_le, v_gt, v_ge, v_is, v_isnot, v_nonN, v_nonI, v_nonB, v_nonT, v_nonL, v_nonC, v_truN, v_truB, v_ixO, v_ixS, v_ixTu, v_ixL, v_ixC, v_at0, v_at1, v_at2, v_at3, v_at4, v_at5, v_at6, v_at7, v_lenO, v_lenS, v_lenL, v_lenT, v_lenC, v_intI, v_intB, v_abs, v_max2, v_min2, v_gcd, v_listL, v_listT, v_listO, v_listC, v_tupleL, v_tupleT, v_tupO, v_tupleC, v_slS, v_slL, v_slT, v_itS, v_itL, v_itT, v_itW, v_itC, v_append, v_app, v_appO, v_pop, v_popO, v_popAt, v_reverse, v_revO, v_isiI, v_isiB, v_isiL, v_isiTu, v_isiS, v_isiN, v_isiC, v_Fb, v_FlN, v_FlC, v_FlB, v_FlR, v_Cl4, v_Cl3, v_Cl2, v_Cl1t, v_Cl1f, v_Cl0, v_encS, v_ptS, v_encI, v_ptI, v_eqE, v_neE, v_eqP, v_neP, v_nonE, v_nonP, v_mulS, v_setC0, v_DC, v_seqDC, v_DCxs, v_mxS, v_mxI, v_sgS, v_sgI, v_setC1, v_setC2, v_setC3, leave_c02, v_frmI, v_dtS, v_dtI, v_eqDt, v_neDt, v_neDt2, v_minDt, v_maxDt, pw_10_9, pw_10_18, pw_10_30, pw_10_12, pw_10_20, pw_10_6, pw_shl, initE, bnd_some, List.getElem?_cons_zero, List.getElem?_cons_succ, List.set_cons_zero, List.set_cons_succ, List.map_cons, List.map_nil, List.length_cons, List.length_nil, List.cons_append, List.nil_append, List.replicate, Nat.reduceAdd, Nat.reduceSub, Nat.reduceLT, Nat.reduceLeDiff, Nat.zero_add, if_true, Bool.false_eq_true, if_false, reduceCtorEq, sizeLine_eq, lBody_eq, lElt_eq, lCnd_eq, List.take_succ_cons, List.take_zero, Int.natCast_zero, Nat.max_def, List.any_cons, List.any_nil, Bool.or_false, Bool.false_or, Bool.and_false, Bool.false_and, Bool.or_true, Bool.true_or, Bool.true_and, Bool.and_true, eq_self, ne_eq, not_true, not_false_eq_true, beq_self_eq_true, Int.lt_irrefl, Int.reduceLT, Int.reduceLE, Int.reduceEq, Bool.true_beq, Bool.false_beq, decide_true, decide_false, Bool.not_true, Bool.not_false]
    rw [v_fdivS (b := 8000) _ g3 (by decide)]
    simp only [e_var, e_cst, e_bop, e_neg, e_not, e_boo, e_cmp, e_chain, e_ite, e_call, e_bi, e_isi, e_ix, e_sl, e_tup, e_lst, e_comp, e_meth, es_nil, es_cons, bv_one, bv_cons, bt_one, bt_cons, o_none, o_some, c_none, c_some, t_var, t_not, t_boo, t_cmp, t_chain, t_call, t_isi, t_ix, i_val, i_rng1, i_rng2, g_name, g_tup, g_sub, gs_nil, gs_cons, s_asg, s_par, s_aug, s_expr, s_iff, s_for, s_ret, s_retN, s_brk, s_cont, s_pass, ss_nil, ss_cons, leave_next, leave_d, take_all, v_getV, v_bop2, v_bop, v_neg, v_not, v_cmp2, v_cmp, v_bT, v_bV, v_chV3, v_chV2t, v_chV2f, v_chV1, v_chV, v_iteT, v_iteF, v_call, v_bi, v_isi, v_ix2, v_ix, v_sl3, v_sl2, v_sl, v_tup2, v_tup, v_lst, v_asgn, v_comp, v_meth2, v_meth, v_es2, v_es, v_BVt, v_BVtf, v_BVf, v_BVft, v_BTt, v_BTtf, v_BTf, v_BTft, v_O, v_tru, v_cmpT2, v_cmpT, v_chT3, v_chT2t, v_chT2f, v_chT1, v_chT, v_notT, v_isiT, v_pW, v_itV, v_R1, v_R2b, v_R2, v_asgSeq, v_setIx, v_setIx2, v_sub3, v_sub2, v_sub, v_Ts, v_asg2, v_asg, v_par2, v_par, v_augO, v_aug, v_augV, v_augA, v_augS, v_exp, v_ifT, v_ifF, v_for, v_ret, v_sqN, v_sqR, v_sqB, v_sqC, v_callT, v_ixT2, v_ixT, v_seqL, v_seqT, v_seqW, v_seqC, v_liveW, v_liveC, v_toD, v_toDc, v_frC, v_toDs0, v_toDs, v_Ds, v_Ds2, v_newF, v_newT, v_add, v_subI, v_catT, v_catLL, v_eqI, v_neI, v_eqB, v_neB, v_lt, v_le, v_gt, v_ge, v_is, v_isnot, v_nonN, v_nonI, v_nonB, v_nonT, v_nonL, v_nonC, v_truN, v_truB, v_ixO, v_ixS, v_ixTu, v_ixL, v_ixC, v_at0, v_at1, v_at2, v_at3, v_at4, v_at5, v_at6, v_at7, v_lenO, v_lenS, v_lenL, v_lenT, v_lenC, v_intI, v_intB, v_abs, v_max2, v_min2, v_gcd, v_listL, v_listT, v_listO, v_listC, v_tupleL, v_tupleT, v_tupO, v_tupleC, v_slS, v_slL, v_slT, v_itS, v_itL, v_itT, v_itW, v_itC, v_append, v_app, v_appO, v_pop, v_popO, v_popAt, v_reverse, v_revO, v_isiI, v_isiB, v_isiL, v_isiTu, v_isiS, v_isiN, v_isiC, v_Fb, v_FlN, v_FlC, v_FlB, v_FlR, v_Cl4, v_Cl3, v_Cl2, v_Cl1t, v_Cl1f, v_Cl0, v_encS, v_ptS, v_encI, v_ptI, v_eqE, v_neE, v_eqP, v_neP, v_nonE, v_nonP, v_mulS, v_setC0, v_DC, v_seqDC, v_DCxs, v_mxS, v_mxI, v_sgS, v_sgI, v_setC1, v_setC2, v_setC3, leave_c02, v_frmI, v_dtS, v_dtI, v_eqDt, v_neDt, v_neDt2, v_minDt, v_maxDt, pw_10_9, pw_10_18, pw_10_30, pw_10_12, pw_10_20, pw_10_6, pw_shl, initE, bnd_some, List.getElem?_cons_zero, List.getElem?_cons_succ, List.set_cons_zero, List.set_cons_succ, List.map_cons, List.map_nil, List.length_cons, List.length_nil, List.cons_append, List.nil_append, List.replicate, Nat.reduceAdd, Nat.reduceSub, Nat.reduceLT, Nat.reduceLeDiff, Nat.zero_add, if_true, Bool.false_eq_true, if_false, reduceCtorEq, sizeLine_eq, lBody_eq, lElt_eq, lCnd_eq, List.take_succ_cons, List.take_zero, Int.natCast_zero, Nat.max_def, List.any_cons, List.any_nil, Bool.or_false, Bool.false_or, Bool.and_false, Bool.false_and, Bool.or_true, Bool.true_or, Bool.true_and, Bool.and_true, eq_self, ne_eq, not_true, not_false_eq_true, beq_self_eq_true, Int.lt_irrefl, Int.reduceLT, Int.reduceLE, Int.reduceEq, Bool.true_beq, Bool.false_beq, decide_true, decide_false, Bool.not_true, Bool.not_false]
    rw [v_fdivS (b := 8000) _ g3 (by decide)]
    simp only [e_var, e_cst, e_bop, e_neg, e_not, e_boo, e_cmp, e_chain, e_ite, e_call, e_bi, e_isi, e_ix, e_sl, e_tup, e_lst, e_comp, e_meth, es_nil, es_cons, bv_one, bv_cons, bt_one, bt_cons, o_none, o_some, c_none, c_some, t_var, t_not, t_boo, t_cmp, t_chain, t_call, t_isi, t_ix, i_val, i_rng1, i_rng2, g_name, g_tup, g_sub, gs_nil, gs_cons, s_asg, s_par, s_aug, s_expr, s_iff, s_for, s_ret, s_retN, s_brk, s_cont, s_pass, ss_nil, ss_cons, leave_next, leave_d, take_all, v_getV, v_bop2, v_bop, v_neg, v_not, v_cmp2, v_cmp, v_bT, v_bV, v_chV3, v_chV2t, v_chV2f, v_chV1, v_chV, v_iteT, v_iteF, v_call, v_bi, v_isi, v_ix2, v_ix, v_sl3, v_sl2, v_sl, v_tup2, v_tup, v_lst, v_asgn, v_comp, v_meth2, v_meth, v_es2, v_es, v_BVt, v_BVtf, v_BVf, v_BVft, v_BTt, v_BTtf, v_BTf, v_BTft, v_O, v_tru, v_cmpT2, v_cmpT, v_chT3, v_chT2t, v_chT2f, v_chT1, v_chT, v_notT, v_isiT, v_pW, v_itV, v_R1, v_R2b, v_R2, v_asgSeq, v_setIx, v_setIx2, v_sub3, v_sub2, v_sub, v_Ts, v_asg2, v_asg, v_par2, v_par, v_augO, v_aug, v_augV, v_augA, v_augS, v_exp, v_ifT, v_ifF, v_for, v_ret, v_sqN, v_sqR, v_sqB, v_sqC, v_callT, v_ixT2, v_ixT, v_seqL, v_seqT, v_seqW, v_seqC, v_liveW, v_liveC, v_toD, v_toDc, v_frC, v_toDs0, v_toDs, v_Ds, v_Ds2, v_newF, v_newT, v_add, v_subI, v_catT, v_catLL, v_eqI, v_neI, v_eqB, v_neB, v_lt, v_le, v_gt, v_ge, v_is, v_isnot, v_nonN, v_nonI, v_nonB, v_nonT, v_nonL, v_nonC, v_truN, v_truB, v_ixO, v_ixS, v_ixTu, v_ixL, v_ixC, v_at0, v_at1, v_at2, v_at3, v_at4, v_at5, v_at6, v_at7, v_lenO, v_lenS, v_lenL, v_lenT, v_lenC, v_intI, v_intB, v_abs, v_max2, v_min2, v_gcd, v_listL, v_listT, v_listO, v_listC, v_tupleL, v_tupleT, v_tupO, v_tupleC, v_slS, v_slL, v_slT, v_itS, v_itL, v_itT, v_itW, v_itC, v_append, v_app, v_appO, v_pop, v_popO, v_popAt, v_reverse, v_revO, v_isiI, v_isiB, v_isiL, v_isiTu, v_isiS, v_isiN, v_isiC, v_Fb, v_FlN, v_FlC, v_FlB, v_FlR, v_Cl4, v_Cl3, v_Cl2, v_Cl1t, v_Cl1f, v_Cl0, v_encS, v_ptS, v_encI, v_ptI, v_eqE, v_neE, v_eqP, v_neP, v_nonE, v_nonP, v_mulS, v_setC0, v_DC, v_seqDC, v_DCxs, v_mxS, v_mxI, v_sgS, v_sgI, v_setC1, v_setC2, v_setC3, leave_c02, v_frmI, v_dtS, v_dtI, v_eqDt, v_neDt, v_neDt2, v_minDt, v_maxDt, pw_10_9, pw_10_18, pw_10_30, pw_10_12, pw_10_20, pw_10_6, pw_shl, initE, bnd_some, List.getElem?_cons_zero, List.getElem?_cons_succ, List.set_cons_zero, List.set_cons_succ, List.map_cons, List.map_nil, List.length_cons, List.length_nil, List.cons_append, List.nil_append, List.replicate, Nat.reduceAdd, Nat.reduceSub, Nat.reduceLT, Nat.reduceLeDiff, Nat.zero_add, if_true, Bool.false_eq_true, if_false, reduceCtorEq, sizeLine_eq, lBody_eq, lElt_eq, lCnd_eq, List.take_succ_cons, List.take_zero, Int.natCast_zero, Nat.max_def, List.any_cons, List.any_nil, Bool.or_false, Bool.false_or, Bool.and_false, Bool.false_and, Bool.or_true, Bool.true_or, Bool.true_and, Bool.and_true, eq_self, ne_eq, not_true, not_false_eq_true, beq_self_eq_true, Int.lt_irrefl, Int.reduceLT, Int.reduceLE, Int.reduceEq, Bool.true_beq, Bool.false_beq, decide_true, decide_false, Bool.not_true, Bool.not_false, a, b]
    rfl
  · obtain ⟨a, b⟩ := frac_pos (n := n) (d := d) (by omega)
    rw [evF_run T_14 rfl]; simp only [df_law_frac, g, g1, h, g2, e_var, e_cst, e_bop, e_neg, e_not, e_boo, e_cmp, e_chain, e_ite, e_call, e_bi, e_isi, e_ix, e_sl, e_tup, e_lst, e_comp, e_meth, es_nil, es_cons, bv_one, bv_cons, bt_one, bt_cons, o_none, o_some, c_none, c_some, t_var, t_not, t_boo, t_cmp, t_chain, t_call, t_isi, t_ix, i_val, i_rng1, i_rng2, g_name, g_tup, g_sub, gs_nil, gs_cons, s_asg, s_par, s_aug, s_expr, s_iff, s_for, s_ret, s_retN, s_brk, s_cont, s_pass, ss_nil, ss_cons, leave_next, leave_d, take_all, v_getV, v_bop2, v_bop, v_neg, v_not, v_cmp2, v_cmp, v_bT, v_bV, v_chV3, v_chV2t, v_chV2f, v_chV1, v_chV, v_iteT, v_iteF, v_call, v_bi, v_isi, v_ix2, v_ix, v_sl3, v_sl2, v_sl, v_tup2, v_tup, v_lst, v_asgn, v_comp, v_meth2, v_meth, v_es2, v_es, v_BVt, v_BVtf, v_BVf, v_BVft, v_BTt, v_BTtf, v_BTf, v_BTft, v_O, v_tru, v_cmpT2, v_cmpT, v_chT3, v_chT2t, v_chT2f, v_chT1, v_chT, v_notT, v_isiT, v_pW, v_itV, v_R1, v_R2b, v_R2, v_asgSeq, v_setIx, v_setIx2, v_sub3, v_sub2, v_sub, v_Ts, v_asg2, v_asg, v_par2, v_par, v_augO, v_aug, v_augV, v_augA, v_augS, v_exp, v_ifT, v_ifF, v_for, v_ret, v_sqN, v_sqR, v_sqB, v_sqC, v_callT, v_ixT2, v_ixT, v_seqL, v_seqT, v_seqW, v_seqC, v_liveW, v_liveC, v_toD, v_toDc, v_frC, v_toDs0, v_toDs, v_Ds, v_Ds2, v_newF, v_newT, v_add, v_subI, v_catT, v_catLL, v_eqI, v_neI, v_eqB, v_neB, v_lt, v_le, v_gt, v_ge, v_is, v_isnot, v_nonN, v_nonI, v_nonB, v_nonT, v_nonL, v_nonC, v_truN, v_truB, v_ixO, v_ixS, v_ixTu, v_ixL, v_ixC, v_at0, v_at1, v_at2, v_at3, v_at4, v_at5, v_at6, v_at7, v_lenO, v_lenS, v_lenL, v_lenT, v_lenC, v_intI, v_intB, v_abs, v_max2, v_min2, v_gcd, v_listL, v_listT, v_listO, v_listC, v_tupleL, v_tupleT, v_tupO, v_tupleC, v_slS, v_slL, v_slT, v_itS, v_itL, v_itT, v_itW, v_itC, v_append, v_app, v_appO, v_pop, v_popO, v_popAt, v_reverse, v_revO, v_isiI, v_isiB, v_isiL, v_isiTu, v_isiS, v_isiN, v_isiC, v_Fb, v_FlN, v_FlC, v_FlB, v_FlR, v_Cl4, v_Cl3, v_Cl2, v_Cl1t, v_Cl1f, v_Cl0, v_encS, v_ptS, v_encI, v_ptI, v_eqE, v_neE, v_eqP, v_neP, v_nonE, v_nonP, v_mulS, v_setC0, v_DC, v_seqDC, v_DCxs, v_mxS, v_mxI, v_sgS, v_sgI, v_setC1, v_setC2, v_setC3, leave_c02, v_frmI, v_dtS, v_dtI, v_eqDt, v_neDt, v_neDt2, v_minDt, v_maxDt, pw_10_9, pw_10_18, pw_10_30, pw_10_12, pw_10_20, pw_10_6, pw_shl, initE, bnd_some, List.getElem?_cons_zero, List.getElem?_cons_succ, List.set_cons_zero, List.set_cons_succ, List.map_cons, List.map_nil, List.length_cons, List.length_nil, List.cons_append, List.nil_append, List.replicate, Nat.reduceAdd, Nat.reduceSub, Nat.reduceLT, Nat.reduceLeDiff, Nat.zero_add, if_true, Bool.false_eq_true, if_false, reduceCtorEq, sizeLine_eq, lBody_eq, lElt_eq, lCnd_eq, List.take_succ_cons, List.take_zero, Int.natCast_zero, Nat.max_def, List.any_cons, List.any_nil, Bool.or_false, Bool.false_or, Bool.and_false, Bool.false_and, Bool.or_true, Bool.true_or, Bool.true_and, Bool.and_true, eq_self, ne_eq, not_true, not_false_eq_true, beq_self_eq_true, Int.lt_irrefl, Int.reduceLT, Int.reduceLE, Int.reduceEq, Bool.true_beq, Bool.false_beq, decide_true, decide_false, Bool.not_true, Bool.not_false]
    rw [v_fdivS (b := 8000) _ g0 (by decide)]
    simp only [e_var, e_cst, e_bop, e_neg, e_not, e_boo, e_cmp, e_chain, e_ite, e_call, e_bi, e_isi, e_ix, e_sl, e_tup, e_lst, e_comp, e_meth, es_nil, es_cons, bv_one, bv_cons, bt_one, bt_cons, o_none, o_some, c_none, c_some, t_var, t_not, t_boo, t_cmp, t_chain, t_call, t_isi, t_ix, i_val, i_rng1, i_rng2, g_name, g_tup, g_sub, gs_nil, gs_cons, s_asg, s_par, s_aug, s_expr, s_iff, s_for, s_ret, s_retN, s_brk, s_cont, s_pass, ss_nil, ss_cons, leave_next, leave_d, take_all, v_getV, v_bop2, v_bop, v_neg, v_not, v_cmp2, v_cmp, v_bT, v_bV, v_chV3, v_chV2t, v_chV2f, v_chV1, v_chV, v_iteT, v_iteF, v_call, v_bi, v_isi, v_ix2, v_ix, v_sl3, v_sl2, v_sl, v_tup2, v_tup, v_lst, v_asgn, v_comp, v_meth2, v_meth, v_es2, v_es, v_BVt, v_BVtf, v_BVf, v_BVft, v_BTt, v_BTtf, v_BTf, v_BTft, v_O, v_tru, v_cmpT2, v_cmpT, v_chT3, v_chT2t, v_chT2f, v_chT1, v_chT, v_notT, v_isiT, v_pW, v_itV, v_R1, v_R2b, v_R2, v_asgSeq, v_setIx, v_setIx2, v_sub3, v_sub2, v_sub, v_Ts, v_asg2, v_asg, v_par2, v_par, v_augO, v_aug, v_augV, v_augA, v_augS, v_exp, v_ifT, v_ifF, v_for, v_ret, v_sqN, v_sqR, v_sqB, v_sqC, v_callT, v_ixT2, v_ixT, v_seqL, v_seqT, v_seqW, v_seqC, v_liveW, v_liveC, v_toD, v_toDc, v_frC, v_toDs0, v_toDs, v_Ds, v_Ds2, v_newF, v_newT, v_add, v_subI, v_catT, v_catLL, v_eqI, v_neI, v_eqB, v_neB, v_lt, v_le, v_gt, v_ge, v_is, v_isnot, v_nonN, v_nonI, v_nonB, v_nonT, v_nonL, v_nonC, v_truN, v_truB, v_ixO, v_ixS, v_ixTu, v_ixL, v_ixC, v_at0, v_at1, v_at2, v_at3, v_at4, v_at5, v_at6, v_at7, v_lenO, v_lenS, v_lenL, v_lenT, v_lenC, v_intI, v_intB, v_abs, v_max2, v_min2, v_gcd, v_listL, v_listT, v_listO, v_listC, v_tupleL, v_tupleT, v_tupO, v_tupleC, v_slS, v_slL, v_slT, v_itS, v_itL, v_itT, v_itW, v_itC, v_append, v_app, v_appO, v_pop, v_popO, v_popAt, v_reverse, v_revO, v_isiI, v_isiB, v_isiL, v_isiTu, v_isiS, v_isiN, v_isiC, v_Fb, v_FlN, v_FlC, v_FlB, v_FlR, v_Cl4, v_Cl3, v_Cl2, v_Cl1t, v_Cl1f, v_Cl0, v_encS, v_ptS, v_encI, v_ptI, v_eqE, v_neE, v_eqP, v_neP, v_nonE, v_nonP, v_mulS, v_setC0, v_DC, v_seqDC, v_DCxs, v_mxS, v_mxI, v_sgS, v_sgI, v_setC1, v_setC2, v_setC3, leave_c02, v_frmI, v_dtS, v_dtI, v_eqDt, v_neDt, v_neDt2, v_minDt, v_maxDt, pw_10_9, pw_10_18, pw_10_30, pw_10_12, pw_10_20, pw_10_6, pw_shl, initE, bnd_some, List.getElem?_cons_zero, List.getElem?_cons_succ, List.set_cons_zero, List.set_cons_succ, List.map_cons, List.map_nil, List.length_cons, List.length_nil, List.cons_append, List.nil_append, List.replicate, Nat.reduceAdd, Nat.reduceSub, Nat.reduceLT, Nat.reduceLeDiff, Nat.zero_add, if_true, Bool.false_eq_true, if_false, reduceCtorEq, sizeLine_eq, lBody_eq, lElt_eq, lCnd_eq, List.take_succ_cons, List.take_zero, Int.natCast_zero, Nat.max_def, List.any_cons, List.any_nil, Bool.or_false, Bool.false_or, Bool.and_false, Bool.false_and, Bool.or_true, Bool.true_or, Bool.true_and, Bool.and_true, eq_self, ne_eq, not_true, not_false_eq_true, beq_self_eq_true, Int.lt_irrefl, Int.reduceLT, Int.reduceLE, Int.reduceEq, Bool.true_beq, Bool.false_beq, decide_true, decide_false, Bool.not_true, Bool.not_false]
    rw [v_fdivS (b := 8000) _ g0 (by decide)]
    simp only [e_var, e_cst, e_bop, e_neg, e_not, e_boo, e_cmp, e_chain, e_ite, e_call, e_bi, e_isi, e_ix, e_sl, e_tup, e_lst, e_comp, e_meth, es_nil, es_cons, bv_one, bv_cons, bt_one, bt_cons, o_none, o_some, c_none, c_some, t_var, t_not, t_boo, t_cmp, t_chain, t_call, t_isi, t_ix, i_val, i_rng1, i_rng2, g_name, g_tup, g_sub, gs_nil, gs_cons, s_asg, s_par, s_aug, s_expr, s_iff, s_for, s_ret, s_retN, s_brk, s_cont, s_pass, ss_nil, ss_cons, leave_next, leave_d, take_all, v_getV, v_bop2, v_bop, v_neg, v_not, v_cmp2, v_cmp, v_bT, v_bV, v_chV3, v_chV2t, v_chV2f, v_chV1, v_chV, v_iteT, v_iteF, v_call, v_bi, v_isi, v_ix2, v_ix, v_sl3, v_sl2, v_sl, v_tup2, v_tup, v_lst, v_asgn, v_comp, v_meth2, v_meth, v_es2, v_es, v_BVt, v_BVtf, v_BVf, v_BVft, v_BTt, v_BTtf, v_BTf, v_BTft, v_O, v_tru, v_cmpT2, v_cmpT, v_chT3, v_chT2t, v_chT2f, v_chT1, v_chT, v_notT, v_isiT, v_pW, v_itV, v_R1, v_R2b, v_R2, v_asgSeq, v_setIx, v_setIx2, v_sub3, v_sub2, v_sub, v_Ts, v_asg2, v_asg, v_par2, v_par, v_augO, v_aug, v_augV, v_augA, v_augS, v_exp, v_ifT, v_ifF, v_for, v_ret, v_sqN, v_sqR, v_sqB, v_sqC, v_callT, v_ixT2, v_ixT, v_seqL, v_seqT, v_seqW, v_seqC, v_liveW, v_liveC, v_toD, v_toDc, v_frC, v_toDs0, v_toDs, v_Ds, v_Ds2, v_newF, v_newT, v_add, v_subI, v_catT, v_catLL, v_eqI, v_neI, v_eqB, v_neB, v_lt, v_le, v_gt, v_ge, v_is, v_isnot, v_nonN, v_nonI, v_nonB, v_nonT, v_nonL, v_nonC, v_truN, v_truB, v_ixO, v_ixS, v_ixTu, v_ixL, v_ixC, v_at0, v_at1, v_at2, v_at3, v_at4, v_at5, v_at6, v_at7, v_lenO, v_lenS, v_lenL, v_lenT, v_lenC, v_intI, v_intB, v_abs, v_max2, v_min2, v_gcd, v_listL, v_listT, v_listO, v_listC, v_tupleL, v_tupleT, v_tupO, v_tupleC, v_slS, v_slL, v_slT, v_itS, v_itL, v_itT, v_itW, v_itC, v_append, v_app, v_appO, v_pop, v_popO, v_popAt, v_reverse, v_revO, v_isiI, v_isiB, v_isiL, v_isiTu, v_isiS, v_isiN, v_isiC, v_Fb, v_FlN, v_FlC, v_FlB, v_FlR, v_Cl4, v_Cl3, v_Cl2, v_Cl1t, v_Cl1f, v_Cl0, v_encS, v_ptS, v_encI, v_ptI, v_eqE, v_neE, v_eqP, v_neP, v_nonE, v_nonP, v_mulS, v_setC0, v_DC, v_seqDC, v_DCxs, v_mxS, v_mxI, v_sgS, v_sgI, v_setC1, v_setC2, v_setC3, leave_c02, v_frmI, v_dtS, v_dtI, v_eqDt, v_neDt, v_neDt2, v_minDt, v_maxDt, pw_10_9, pw_10_18, pw_10_30, pw_10_12, pw_10_20, pw_10_6, pw_shl, initE, bnd_some, List.getElem?_cons_zero, List.getElem?_cons_succ, List.set_cons_zero, List.set_cons_succ, List.map_cons, List.map_nil, List.length_cons, List.length_nil, List.cons_append, List.nil_append, List.replicate, Nat.reduceAdd, Nat.reduceSub, Nat.reduceLT, Nat.reduceLeDiff, Nat.zero_add, if_true, Bool.false_eq_true, if_false, reduceCtorEq, sizeLine_eq, lBody_eq, lElt_eq, lCnd_eq, List.take_succ_cons, List.take_zero, Int.natCast_zero, Nat.max_def, List.any_cons, List.any_nil, Bool.or_false, Bool.false_or, Bool.and_false, Bool.false_and, Bool.or_true, Bool.true_or, Bool.true_and, Bool.and_true, eq_self, ne_eq, not_true, not_false_eq_true, beq_self_eq_true, Int.lt_irrefl, Int.reduceLT, Int.reduceLE, Int.reduceEq, Bool.true_beq, Bool.false_beq, decide_true, decide_false, Bool.not_true, Bool.not_false, a, b]
    rfl
-- _law_plus
theorem plus_eq (k : Nat) (p q : Rat) (μ : MH) [SzQ p 2000] [SzQ q 2000] : evF T (k+3) 15 [.d (enc p), .d (enc q)] μ = some (.d (enc (p + q)), μ) := by
  rw [← add_frac]
  have s1 : Sz (p.num * q.den + q.num * p.den) 8000 := Sz.mono inferInstance (by decide)
  have s2 : Sz ((p.den : Int) * q.den) 8000 := Sz.mono inferInstance (by decide)
  have e := fun μ => @frac_eq k _ _ μ (den2_ne p q) s1 s2
  rw [evF_run T_15 rfl]; simp only [df_law_plus, e, e_var, e_cst, e_bop, e_neg, e_not, e_boo, e_cmp, e_chain, e_ite, e_call, e_bi, e_isi, e_ix, e_sl, e_tup, e_lst, e_comp, e_meth, es_nil, es_cons, bv_one, bv_cons, bt_one, bt_cons, o_none, o_some, c_none, c_some, t_var, t_not, t_boo, t_cmp, t_chain, t_call, t_isi, t_ix, i_val, i_rng1, i_rng2, g_name, g_tup, g_sub, gs_nil, gs_cons, s_asg, s_par, s_aug, s_expr, s_iff, s_for, s_ret, s_retN, s_brk, s_cont, s_pass, ss_nil, ss_cons, leave_next, leave_d, take_all, v_getV, v_bop2, v_bop, v_neg, v_not, v_cmp2, v_cmp, v_bT, v_bV, v_chV3, v_chV2t, v_chV2f, v_chV1, v_chV, v_iteT, v_iteF, v_call, v_bi, v_isi, v_ix2, v_ix, v_sl3, v_sl2, v_sl, v_tup2, v_tup, v_lst, v_asgn, v_comp, v_meth2, v_meth, v_es2, v_es, v_BVt, v_BVtf, v_BVf, v_BVft, v_BTt, v_BTtf, v_BTf, v_BTft, v_O, v_tru, v_cmpT2, v_cmpT, v_chT3, v_chT2t, v_chT2f, v_chT1, v_chT, v_notT, v_isiT, v_pW, v_itV, v_R1, v_R2b, v_R2, v_asgSeq, v_setIx, v_setIx2, v_sub3, v_sub2, v_sub, v_Ts, v_asg2, v_asg, v_par2, v_par, v_augO, v_aug, v_augV, v_augA, v_augS, v_exp, v_ifT, v_ifF, v_for, v_ret, v_sqN, v_sqR, v_sqB, v_sqC, v_callT, v_ixT2, v_ixT, v_seqL, v_seqT, v_seqW, v_seqC, v_liveW, v_liveC, v_toD, v_toDc, v_frC, v_toDs0, v_toDs, v_Ds, v_Ds2, v_newF, v_newT, v_add, v_subI, v_catT, v_catLL, v_eqI, v_neI, v_eqB, v_neB, v_lt, v_le, v_gt, v_ge, v_is, v_isnot, v_nonN, v_nonI, v_nonB, v_nonT, v_nonL, v_nonC, v_truN, v_truB, v_ixO, v_ixS, v_ixTu, v_ixL, v_ixC, v_at0, v_at1, v_at2, v_at3, v_at4, v_at5, v_at6, v_at7, v_lenO, v_lenS, v_lenL, v_lenT, v_lenC, v_intI, v_intB, v_abs, v_max2, v_min2, v_gcd, v_listL, v_listT, v_listO, v_listC, v_tupleL, v_tupleT, v_tupO, v_tupleC, v_slS, v_slL, v_slT, v_itS, v_itL, v_itT, v_itW, v_itC, v_append, v_app, v_appO, v_pop, v_popO, v_popAt, v_reverse, v_revO, v_isiI, v_isiB, v_isiL, v_isiTu, v_isiS, v_isiN, v_isiC, v_Fb, v_FlN, v_FlC, v_FlB, v_FlR, v_Cl4, v_Cl3, v_Cl2, v_Cl1t, v_Cl1f, v_Cl0, v_encS, v_ptS, v_encI, v_ptI, v_eqE, v_neE, v_eqP, v_neP, v_nonE, v_nonP, v_mulS, v_setC0, v_DC, v_seqDC, v_DCxs, v_mxS, v_mxI, v_sgS, v_sgI, v_setC1, v_setC2, v_setC3, leave_c02, v_frmI, v_dtS, v_dtI, v_eqDt, v_neDt, v_neDt2, v_minDt, v_maxDt, pw_10_9, pw_10_18, pw_10_30, pw_10_12, pw_10_20, pw_10_6, pw_shl, initE, bnd_some, List.getElem?_cons_zero, List.getElem?_cons_succ, List.set_cons_zero, List.set_cons_succ, List.map_cons, List.map_nil, List.length_cons, List.length_nil, List.cons_append, List.nil_append, List.replicate, Nat.reduceAdd, Nat.reduceSub, Nat.reduceLT, Nat.reduceLeDiff, Nat.zero_add, if_true, Bool.false_eq_true, if_false, reduceCtorEq, sizeLine_eq, lBody_eq, lElt_eq, lCnd_eq, List.take_succ_cons, List.take_zero, Int.natCast_zero, Nat.max_def, List.any_cons, List.any_nil, Bool.or_false, Bool.false_or, Bool.and_false, Bool.false_and, Bool.or_true, Bool.true_or, Bool.true_and, Bool.and_true, eq_self, ne_eq, not_true, not_false_eq_true, beq_self_eq_true, Int.lt_irrefl, Int.reduceLT, Int.reduceLE, Int.reduceEq, Bool.true_beq, Bool.false_beq, decide_true, decide_false, Bool.not_true, Bool.not_false]
-- _law_minus
theorem minus_eq (k : Nat) (p q : Rat) (μ : MH) [SzQ p 2000] [SzQ q 2000] : evF T (k+3) 16 [.d (enc p), .d (enc q)] μ = some (.d (enc (p - q)), μ) := by
  rw [← sub_frac]
  have s1 : Sz (p.num * q.den - q.num * p.den) 8000 := Sz.mono inferInstance (by decide)
  have s2 : Sz ((p.den : Int) * q.den) 8000 := Sz.mono inferInstance (by decide)
  have e := fun μ => @frac_eq k _ _ μ (den2_ne p q) s1 s2
  rw [evF_run T_16 rfl]; simp only [df_law_minus, e, e_var, e_cst, e_bop, e_neg, e_not, e_boo, e_cmp, e_chain, e_ite, e_call, e_bi, e_isi, e_ix, e_sl, e_tup, e_lst, e_comp, e_meth, es_nil, es_cons, bv_one, bv_cons, bt_one, bt_cons, o_none, o_some, c_none, c_some, t_var, t_not, t_boo, t_cmp, t_chain, t_call, t_isi, t_ix, i_val, i_rng1, i_rng2, g_name, g_tup, g_sub, gs_nil, gs_cons, s_asg, s_par, s_aug, s_expr, s_iff, s_for, s_ret, s_retN, s_brk, s_cont, s_pass, ss_nil, ss_cons, leave_next, leave_d, take_all, v_getV, v_bop2, v_bop, v_neg, v_not, v_cmp2, v_cmp, v_bT, v_bV, v_chV3, v_chV2t, v_chV2f, v_chV1, v_chV, v_iteT, v_iteF, v_call, v_bi, v_isi, v_ix2, v_ix, v_sl3, v_sl2, v_sl, v_tup2, v_tup, v_lst, v_asgn, v_comp, v_meth2, v_meth, v_es2, v_es, v_BVt, v_BVtf, v_BVf, v_BVft, v_BTt, v_BTtf, v_BTf, v_BTft, v_O, v_tru, v_cmpT2, v_cmpT, v_chT3, v_chT2t, v_chT2f, v_chT1, v_chT, v_notT, v_isiT, v_pW, v_itV, v_R1, v_R2b, v_R2, v_asgSeq, v_setIx, v_setIx2, v_sub3, v_sub2, v_sub, v_Ts, v_asg2, v_asg, v_par2, v_par, v_augO, v_aug, v_augV, v_augA, v_augS, v_exp, v_ifT, v_ifF, v_for, v_ret, v_sqN, v_sqR, v_sqB, v_sqC, v_callT, v_ixT2, v_ixT, v_seqL, v_seqT, v_seqW, v_seqC, v_liveW, v_liveC, v_toD, v_toDc, v_frC, v_toDs0, v_toDs, v_Ds, v_Ds2, v_newF, v_newT, v_add, v_subI, v_catT, v_catLL, v_eqI, v_neI, v_eqB, v_neB, v_lt, v_le, v_gt, v_ge, v_is, v_isnot, v_nonN, v_nonI, v_nonB, v_nonT, v_nonL, v_nonC, v_truN, v_truB, v_ixO, v_ixS, v_ixTu, v_ixL, v_ixC, v_at0, v_at1, v_at2, v_at3, v_at4, v_at5, v_at6, v_at7, v_lenO, v_lenS, v_lenL, v_lenT, v_lenC, v_intI, v_intB, v_abs, v_max2, v_min2, v_gcd, v_listL, v_listT, v_listO, v_listC, v_tupleL, v_tupleT, v_tupO, v_tupleC, v_slS, v_slL, v_slT, v_itS, v_itL, v_itT, v_itW, v_itC, v_append, v_app, v_appO, v_pop, v_popO, v_popAt, v_reverse, v_revO, v_isiI, v_isiB, v_isiL, v_isiTu, v_isiS, v_isiN, v_isiC, v_Fb, v_FlN, v_FlC, v_FlB, v_FlR, v_Cl4, v_Cl3, v_Cl2, v_Cl1t, v_Cl1f, v_Cl0, v_encS, v_ptS, v_encI, v_ptI, v_eqE, v_neE, v_eqP, v_neP, v_nonE, v_nonP, v_mulS, v_setC0, v_DC, v_seqDC, v_DCxs, v_mxS, v_mxI, v_sgS, v_sgI, v_setC1, v_setC2, v_setC3, leave_c02, v_frmI, v_dtS, v_dtI, v_eqDt, v_neDt, v_neDt2, v_minDt, v_maxDt, pw_10_9, pw_10_18, pw_10_30, pw_10_12, pw_10_20, pw_10_6, pw_shl, initE, bnd_some, List.getElem?_cons_zero, List.getElem?_cons_succ, List.set_cons_zero, List.set_cons_succ, List.map_cons, List.map_nil, List.length_cons, List.length_nil, List.cons_append, List.nil_append, List.replicate, Nat.reduceAdd, Nat.reduceSub, Nat.reduceLT, Nat.reduceLeDiff, Nat.zero_add, if_true, Bool.false_eq_true, if_false, reduceCtorEq, sizeLine_eq, lBody_eq, lElt_eq, lCnd_eq, List.take_succ_cons, List.take_zero, Int.natCast_zero, Nat.max_def, List.any_cons, List.any_nil, Bool.or_false, Bool.false_or, Bool.and_false, Bool.false_and, Bool.or_true, Bool.true_or, Bool.true_and, Bool.and_true, eq_self, ne_eq, not_true, not_false_eq_true, beq_self_eq_true, Int.lt_irrefl, Int.reduceLT, Int.reduceLE, Int.reduceEq, Bool.true_beq, Bool.false_beq, decide_true, decide_false, Bool.not_true, Bool.not_false]
-- _law_product
theorem product_eq (k : Nat) (p q : Rat) (μ : MH) [SzQ p 2000] [SzQ q 2000] : evF T (k+3) 17 [.d (enc p), .d (enc q)] μ = some (.d (enc (p * q)), μ) := by
  rw [← mul_frac]
  have s1 : Sz (p.num * q.num) 8000 := Sz.mono inferInstance (by decide)
  have s2 : Sz ((p.den : Int) * q.den) 8000 := Sz.mono inferInstance (by decide)
  have e := fun μ => @frac_eq k _ _ μ (den2_ne p q) s1 s2
  rw [evF_run T_17 rfl]; simp only [df_law_product, e, e_var, e_cst, e_bop, e_neg, e_not, e_boo, e_cmp, e_chain, e_ite, e_call, e_bi, e_isi, e_ix, e_sl, e_tup, e_lst, e_comp, e_meth, es_nil, es_cons, bv_one, bv_cons, bt_one, bt_cons, o_none, o_some, c_none, c_some, t_var, t_not, t_boo, t_cmp, t_chain, t_call, t_isi, t_ix, i_val, i_rng1, i_rng2, g_name, g_tup, g_sub, gs_nil, gs_cons, s_asg, s_par, s_aug, s_expr, s_iff, s_for, s_ret, s_retN, s_brk, s_cont, s_pass, ss_nil, ss_cons, leave_next, leave_d, take_all, v_getV, v_bop2, v_bop, v_neg, v_not, v_cmp2, v_cmp, v_bT, v_bV, v_chV3, v_chV2t, v_chV2f, v_chV1, v_chV, v_iteT, v_iteF, v_call, v_bi, v_isi, v_ix2, v_ix, v_sl3, v_sl2, v_sl, v_tup2, v_tup, v_lst, v_asgn, v_comp, v_meth2, v_meth, v_es2, v_es, v_BVt, v_BVtf, v_BVf, v_BVft, v_BTt, v_BTtf, v_BTf, v_BTft, v_O, v_tru, v_cmpT2, v_cmpT, v_chT3, v_chT2t, v_chT2f, v_chT1, v_chT, v_notT, v_isiT, v_pW, v_itV, v_R1, v_R2b, v_R2, v_asgSeq, v_setIx, v_setIx2, v_sub3, v_sub2, v_sub, v_Ts, v_asg2, v_asg, v_par2, v_par, v_augO, v_aug, v_augV, v_augA, v_augS, v_exp, v_ifT, v_ifF, v_for, v_ret, v_sqN, v_sqR, v_sqB, v_sqC, v_callT, v_ixT2, v_ixT, v_seqL, v_seqT, v_seqW, v_seqC, v_liveW, v_liveC, v_toD, v_toDc, v_frC, v_toDs0, v_toDs, v_Ds, v_Ds2, v_newF, v_newT, v_add, v_subI, v_catT, v_catLL, v_eqI, v_neI, v_eqB, v_neB, v_lt, v_le, v_gt, v_ge, v_is, v_isnot, v_nonN, v_nonI, v_nonB, v_nonT, v_nonL, v_nonC, v_truN, v_truB, v_ixO, v_ixS, v_ixTu, v_ixL, v_ixC, v_at0, v_at1, v_at2, v_at3, v_at4, v_at5, v_at6, v_at7, v_lenO, v_lenS, v_lenL, v_lenT, v_lenC, v_intI, v_intB, v_abs, v_max2, v_min2, v_gcd, v_listL, v_listT, v_listO, v_listC, v_tupleL, v_tupleT, v_tupO, v_tupleC, v_slS, v_slL, v_slT, v_itS, v_itL, v_itT, v_itW, v_itC, v_append, v_app, v_appO, v_pop, v_popO, v_popAt, v_reverse, v_revO, v_isiI, v_isiB, v_isiL, v_isiTu, v_isiS, v_isiN, v_isiC, v_Fb, v_FlN, v_FlC, v_FlB, v_FlR, v_Cl4, v_Cl3, v_Cl2, v_Cl1t, v_Cl1f, v_Cl0, v_encS, v_ptS, v_encI, v_ptI, v_eqE, v_neE, v_eqP, v_neP, v_nonE, v_nonP, v_mulS, v_setC0, v_DC, v_seqDC, v_DCxs, v_mxS, v_mxI, v_sgS, v_sgI, v_setC1, v_setC2, v_setC3, leave_c02, v_frmI, v_dtS, v_dtI, v_eqDt, v_neDt, v_neDt2, v_minDt, v_maxDt, pw_10_9, pw_10_18, pw_10_30, pw_10_12, pw_10_20, pw_10_6, pw_shl, initE, bnd_some, List.getElem?_cons_zero, List.getElem?_cons_succ, List.set_cons_zero, List.set_cons_succ, List.map_cons, List.map_nil, List.length_cons, List.length_nil, List.cons_append, List.nil_append, List.replicate, Nat.reduceAdd, Nat.reduceSub, Nat.reduceLT, Nat.reduceLeDiff, Nat.zero_add, if_true, Bool.false_eq_true, if_false, reduceCtorEq, sizeLine_eq, lBody_eq, lElt_eq, lCnd_eq, List.take_succ_cons, List.take_zero, Int.natCast_zero, Nat.max_def, List.any_cons, List.any_nil, Bool.or_false, Bool.false_or, Bool.and_false, Bool.false_and, Bool.or_true, Bool.true_or, Bool.true_and, Bool.and_true, eq_self, ne_eq, not_true, not_false_eq_true, beq_self_eq_true, Int.lt_irrefl, Int.reduceLT, Int.reduceLE, Int.reduceEq, Bool.true_beq, Bool.false_beq, decide_true, decide_false, Bool.not_true, Bool.not_false]
-- _law_less
theorem less_eq (k : Nat) (p q : Rat) (μ : MH) [SzQ p 2000] [SzQ q 2000] : evF T (k+1) 18 [.d (enc p), .d (enc q)] μ = some (.d (.bool (decide (p < q))), μ) := by
  rw [evF_run T_18 rfl]; simp only [df_law_less, e_var, e_cst, e_bop, e_neg, e_not, e_boo, e_cmp, e_chain, e_ite, e_call, e_bi, e_isi, e_ix, e_sl, e_tup, e_lst, e_comp, e_meth, es_nil, es_cons, bv_one, bv_cons, bt_one, bt_cons, o_none, o_some, c_none, c_some, t_var, t_not, t_boo, t_cmp, t_chain, t_call, t_isi, t_ix, i_val, i_rng1, i_rng2, g_name, g_tup, g_sub, gs_nil, gs_cons, s_asg, s_par, s_aug, s_expr, s_iff, s_for, s_ret, s_retN, s_brk, s_cont, s_pass, ss_nil, ss_cons, leave_next, leave_d, take_all, v_getV, v_bop2, v_bop, v_neg, v_not, v_cmp2, v_cmp, v_bT, v_bV, v_chV3, v_chV2t, v_chV2f, v_chV1, v_chV, v_iteT, v_iteF, v_call, v_bi, v_isi, v_ix2, v_ix, v_sl3, v_sl2, v_sl, v_tup2, v_tup, v_lst, v_asgn, v_comp, v_meth2, v_meth, v_es2, v_es, v_BVt, v_BVtf, v_BVf, v_BVft, v_BTt, v_BTtf, v_BTf, v_BTft, v_O, v_tru, v_cmpT2, v_cmpT, v_chT3, v_chT2t, v_chT2f, v_chT1, v_chT, v_notT, v_isiT, v_pW, v_itV, v_R1, v_R2b, v_R2, v_asgSeq, v_setIx, v_setIx2, v_sub3, v_sub2, v_sub, v_Ts, v_asg2, v_asg, v_par2, v_par, v_augO, v_aug, v_augV, v_augA, v_augS, v_exp, v_ifT, v_ifF, v_for, v_ret, v_sqN, v_sqR, v_sqB, v_sqC, v_callT, v_ixT2, v_ixT, v_seqL, v_seqT, v_seqW, v_seqC, v_liveW, v_liveC, v_toD, v_toDc, v_frC, v_toDs0, v_toDs, v_Ds, v_Ds2, v_newF, v_newT, v_add, v_subI, v_catT, v_catLL, v_eqI, v_neI, v_eqB, v_neB, v_lt, v_le, v_gt, v_ge, v_is, v_isnot, v_nonN, v_nonI, v_nonB, v_nonT, v_nonL, v_nonC, v_truN, v_truB, v_ixO, v_ixS, v_ixTu, v_ixL, v_ixC, v_at0, v_at1, v_at2, v_at3, v_at4, v_at5, v_at6, v_at7, v_lenO, v_lenS, v_lenL, v_lenT, v_lenC, v_intI, v_intB, v_abs, v_max2, v_min2, v_gcd, v_listL, v_listT, v_listO, v_listC, v_tupleL, v_tupleT, v_tupO, v_tupleC, v_slS, v_slL, v_slT, v_itS, v_itL, v_itT, v_itW, v_itC, v_append, v_app, v_appO, v_pop, v_popO, v_popAt, v_reverse, v_revO, v_isiI, v_isiB, v_isiL, v_isiTu, v_isiS, v_isiN, v_isiC, v_Fb, v_FlN, v_FlC, v_FlB, v_FlR, v_Cl4, v_Cl3, v_Cl2, v_Cl1t, v_Cl1f, v_Cl0, v_encS, v_ptS, v_encI, v_ptI, v_eqE, v_neE, v_eqP, v_neP, v_nonE, v_nonP, v_mulS, v_setC0, v_DC, v_seqDC, v_DCxs, v_mxS, v_mxI, v_sgS, v_sgI, v_setC1, v_setC2, v_setC3, leave_c02, v_frmI, v_dtS, v_dtI, v_eqDt, v_neDt, v_neDt2, v_minDt, v_maxDt, pw_10_9, pw_10_18, pw_10_30, pw_10_12, pw_10_20, pw_10_6, pw_shl, initE, bnd_some, List.getElem?_cons_zero, List.getElem?_cons_succ, List.set_cons_zero, List.set_cons_succ, List.map_cons, List.map_nil, List.length_cons, List.length_nil, List.cons_append, List.nil_append, List.replicate, Nat.reduceAdd, Nat.reduceSub, Nat.reduceLT, Nat.reduceLeDiff, Nat.zero_add, if_true, Bool.false_eq_true, if_false, reduceCtorEq, sizeLine_eq, lBody_eq, lElt_eq, lCnd_eq, List.take_succ_cons, List.take_zero, Int.natCast_zero, Nat.max_def, List.any_cons, List.any_nil, Bool.or_false, Bool.false_or, Bool.and_false, Bool.false_and, Bool.or_true, Bool.true_or, Bool.true_and, Bool.and_true, eq_self, ne_eq, not_true, not_false_eq_true, beq_self_eq_true, Int.lt_irrefl, Int.reduceLT, Int.reduceLE, Int.reduceEq, Bool.true_beq, Bool.false_beq, decide_true, decide_false, Bool.not_true, Bool.not_false]
  rw [decide_eq_decide.mpr (Rat.lt_iff p q)]
-- _law_same
theorem same_seq (k n : Nat) (t : Bool) (xs : List D) (hx : xs.length ≤ 16777216) (ih : ∀ x ∈ xs, ∀ μ, evF T (k+n+1) 12 [.d x, .d x] μ = some (.d (.bool true), μ)) (μ : MH) (w : W) (hw : w = .d (if t then .tuple xs else .list xs)) : evF T (k+n+2) 12 [w, w] μ = some (.d (.bool true), μ) := by
  have e0 : ∀ (i : Int), cmpW .ne (.d (.int i)) (.d (.int i)) μ = some false := fun i => by rw [v_neI, decide_eq_true rfl]; rfl
  have key : ∀ w', seqW w' μ = some (t, xs) → (∀ j : Nat, ixW w' (.d (.int j)) μ = ixO μ xs[j]?) → ∃ zs, compL (lAsg (evF T (k+n+1)) (.name 2)) (lCnd (evF T (k+n+1)) .none) (lElt (evF T (k+n+1)) (.call 12 (.cons (.ix (.var 0) (.var 2)) (.cons (.ix (.var 1) (.var 2)) .nil)))) none (rngD 0 (((xs.length : Nat) : Int)).toNat) (rngD 0 (((xs.length : Nat) : Int)).toNat) [some w', some w', none] μ = some (zs, μ) ∧ zs.length ≤ 16777216 ∧ ∀ z ∈ zs, z = .bool true := by
    intro w' h1 h2
    obtain ⟨zs, m, e, hm, hl, hz⟩ := compL_inv (asg := lAsg (evF T (k+n+1)) (.name 2)) (cond := lCnd (evF T (k+n+1)) .none) (elt := lElt (evF T (k+n+1)) (.call 12 (.cons (.ix (.var 0) (.var 2)) (.cons (.ix (.var 1) (.var 2)) .nil)))) (all := rngD 0 (((xs.length : Nat) : Int)).toNat) (env := [some w', some w', none]) (fun m => m = μ) (fun z => z = .bool true) (rngD 0 (((xs.length : Nat) : Int)).toNat) μ rfl (by
      rintro x hx m rfl
      obtain ⟨j, hj, rfl⟩ := rngD_mem hx
      rw [Int.toNat_natCast] at hj
      rw [Int.zero_add]
      refine ⟨[some w', some w', some (.d (.int j))], .bool true, m, by simp only [e_var, e_cst, e_bop, e_neg, e_not, e_boo, e_cmp, e_chain, e_ite, e_call, e_bi, e_isi, e_ix, e_sl, e_tup, e_lst, e_comp, e_meth, es_nil, es_cons, bv_one, bv_cons, bt_one, bt_cons, o_none, o_some, c_none, c_some, t_var, t_not, t_boo, t_cmp, t_chain, t_call, t_isi, t_ix, i_val, i_rng1, i_rng2, g_name, g_tup, g_sub, gs_nil, gs_cons, s_asg, s_par, s_aug, s_expr, s_iff, s_for, s_ret, s_retN, s_brk, s_cont, s_pass, ss_nil, ss_cons, leave_next, leave_d, take_all, v_getV, v_bop2, v_bop, v_neg, v_not, v_cmp2, v_cmp, v_bT, v_bV, v_chV3, v_chV2t, v_chV2f, v_chV1, v_chV, v_iteT, v_iteF, v_call, v_bi, v_isi, v_ix2, v_ix, v_sl3, v_sl2, v_sl, v_tup2, v_tup, v_lst, v_asgn, v_comp, v_meth2, v_meth, v_es2, v_es, v_BVt, v_BVtf, v_BVf, v_BVft, v_BTt, v_BTtf, v_BTf, v_BTft, v_O, v_tru, v_cmpT2, v_cmpT, v_chT3, v_chT2t, v_chT2f, v_chT1, v_chT, v_notT, v_isiT, v_pW, v_itV, v_R1, v_R2b, v_R2, v_asgSeq, v_setIx, v_setIx2, v_sub3, v_sub2, v_sub, v_Ts, v_asg2, v_asg, v_par2, v_par, v_augO, v_aug, v_augV, v_augA, v_augS, v_exp, v_ifT, v_ifF, v_for, v_ret, v_sqN, v_sqR, v_sqB, v_sqC, v_callT, v_ixT2, v_ixT, v_seqL, v_seqT, v_seqW, v_seqC, v_liveW, v_liveC, v_toD, v_toDc, v_frC, v_toDs0, v_toDs, v_Ds, v_Ds2, v_newF, v_newT, v_add, v_subI, v_catT, v_catLL, v_eqI, v_neI, v_eqB, v_neB, v_lt, v_le, v_gt, v_ge, v_is, v_isnot, v_nonN, v_nonI, v_nonB, v_nonT, v_nonL, v_nonC, v_truN, v_truB, v_ixO, v_ixS, v_ixTu, v_ixL, v_ixC, v_at0, v_at1, v_at2, v_at3, v_at4, v_at5, v_at6, v_at7, v_lenO, v_lenS, v_lenL, v_lenT, v_lenC, v_intI, v_intB, v_abs, v_max2, v_min2, v_gcd, v_listL, v_listT, v_listO, v_listC, v_tupleL, v_tupleT, v_tupO, v_tupleC, v_slS, v_slL, v_slT, v_itS, v_itL, v_itT, v_itW, v_itC, v_append, v_app, v_appO, v_pop, v_popO, v_popAt, v_reverse, v_revO, v_isiI, v_isiB, v_isiL, v_isiTu, v_isiS, v_isiN, v_isiC, v_Fb, v_FlN, v_FlC, v_FlB, v_FlR, v_Cl4, v_Cl3, v_Cl2, v_Cl1t, v_Cl1f, v_Cl0, v_encS, v_ptS, v_encI, v_ptI, v_eqE, v_neE, v_eqP, v_neP, v_nonE, v_nonP, v_mulS, v_setC0, v_DC, v_seqDC, v_DCxs, v_mxS, v_mxI, v_sgS, v_sgI, v_setC1, v_setC2, v_setC3, leave_c02, v_frmI, v_dtS, v_dtI, v_eqDt, v_neDt, v_neDt2, v_minDt, v_maxDt, pw_10_9, pw_10_18, pw_10_30, pw_10_12, pw_10_20, pw_10_6, pw_shl, initE, bnd_some, List.getElem?_cons_zero, List.getElem?_cons_succ, List.set_cons_zero, List.set_cons_succ, List.map_cons, List.map_nil, List.length_cons, List.length_nil, List.cons_append, List.nil_append, List.replicate, Nat.reduceAdd, Nat.reduceSub, Nat.reduceLT, Nat.reduceLeDiff, Nat.zero_add, if_true, Bool.false_eq_true, if_false, reduceCtorEq, sizeLine_eq, lBody_eq, lElt_eq, lCnd_eq, List.take_succ_cons, List.take_zero, Int.natCast_zero, Nat.max_def, List.any_cons, List.any_nil, Bool.or_false, Bool.false_or, Bool.and_false, Bool.false_and, Bool.or_true, Bool.true_or, Bool.true_and, Bool.and_true, eq_self, ne_eq, not_true, not_false_eq_true, beq_self_eq_true, Int.lt_irrefl, Int.reduceLT, Int.reduceLE, Int.reduceEq, Bool.true_beq, Bool.false_beq, decide_true, decide_false, Bool.not_true, Bool.not_false], by simp only [e_var, e_cst, e_bop, e_neg, e_not, e_boo, e_cmp, e_chain, e_ite, e_call, e_bi, e_isi, e_ix, e_sl, e_tup, e_lst, e_comp, e_meth, es_nil, es_cons, bv_one, bv_cons, bt_one, bt_cons, o_none, o_some, c_none, c_some, t_var, t_not, t_boo, t_cmp, t_chain, t_call, t_isi, t_ix, i_val, i_rng1, i_rng2, g_name, g_tup, g_sub, gs_nil, gs_cons, s_asg, s_par, s_aug, s_expr, s_iff, s_for, s_ret, s_retN, s_brk, s_cont, s_pass, ss_nil, ss_cons, leave_next, leave_d, take_all, v_getV, v_bop2, v_bop, v_neg, v_not, v_cmp2, v_cmp, v_bT, v_bV, v_chV3, v_chV2t, v_chV2f, v_chV1, v_chV, v_iteT, v_iteF, v_call, v_bi, v_isi, v_ix2, v_ix, v_sl3, v_sl2, v_sl, v_tup2, v_tup, v_lst, v_asgn, v_comp, v_meth2, v_meth, v_es2, v_es, v_BVt, v_BVtf, v_BVf, v_BVft, v_BTt, v_BTtf, v_BTf, v_BTft, v_O, v_tru, v_cmpT2, v_cmpT, v_chT3, v_chT2t, v_chT2f, v_chT1, v_chT, v_notT, v_isiT, v_pW, v_itV, v_R1, v_R2b, v_R2, v_asgSeq, v_setIx, v_setIx2, v_sub3, v_sub2, v_sub, v_Ts, v_asg2, v_asg, v_par2, v_par, v_augO, v_aug, v_augV, v_augA, v_augS, v_exp, v_ifT, v_ifF, v_for, v_ret, v_sqN, v_sqR, v_sqB, v_sqC, v_callT, v_ixT2, v_ixT, v_seqL, v_seqT, v_seqW, v_seqC, v_liveW, v_liveC, v_toD, v_toDc, v_frC, v_toDs0, v_toDs, v_Ds, v_Ds2, v_newF, v_newT, v_add, v_subI, v_catT, v_catLL, v_eqI, v_neI, v_eqB, v_neB, v_lt, v_le, v_gt, v_ge, v_is, v_isnot, v_nonN, v_nonI, v_nonB, v_nonT, v_nonL, v_nonC, v_truN, v_truB, v_ixO, v_ixS, v_ixTu, v_ixL, v_ixC, v_at0, v_at1, v_at2, v_at3, v_at4, v_at5, v_at6, v_at7, v_lenO, v_lenS, v_lenL, v_lenT, v_lenC, v_intI, v_intB, v_abs, v_max2, v_min2, v_gcd, v_listL, v_listT, v_listO, v_listC, v_tupleL, v_tupleT, v_tupO, v_tupleC, v_slS, v_slL, v_slT, v_itS, v_itL, v_itT, v_itW, v_itC, v_append, v_app, v_appO, v_pop, v_popO, v_popAt, v_reverse, v_revO, v_isiI, v_isiB, v_isiL, v_isiTu, v_isiS, v_isiN, v_isiC, v_Fb, v_FlN, v_FlC, v_FlB, v_FlR, v_Cl4, v_Cl3, v_Cl2, v_Cl1t, v_Cl1f, v_Cl0, v_encS, v_ptS, v_encI, v_ptI, v_eqE, v_neE, v_eqP, v_neP, v_nonE, v_nonP, v_mulS, v_setC0, v_DC, v_seqDC, v_DCxs, v_mxS, v_mxI, v_sgS, v_sgI, v_setC1, v_setC2, v_setC3, leave_c02, v_frmI, v_dtS, v_dtI, v_eqDt, v_neDt, v_neDt2, v_minDt, v_maxDt, pw_10_9, pw_10_18, pw_10_30, pw_10_12, pw_10_20, pw_10_6, pw_shl, initE, bnd_some, List.getElem?_cons_zero, List.getElem?_cons_succ, List.set_cons_zero, List.set_cons_succ, List.map_cons, List.map_nil, List.length_cons, List.length_nil, List.cons_append, List.nil_append, List.replicate, Nat.reduceAdd, Nat.reduceSub, Nat.reduceLT, Nat.reduceLeDiff, Nat.zero_add, if_true, Bool.false_eq_true, if_false, reduceCtorEq, sizeLine_eq, lBody_eq, lElt_eq, lCnd_eq, List.take_succ_cons, List.take_zero, Int.natCast_zero, Nat.max_def, List.any_cons, List.any_nil, Bool.or_false, Bool.false_or, Bool.and_false, Bool.false_and, Bool.or_true, Bool.true_or, Bool.true_and, Bool.and_true, eq_self, ne_eq, not_true, not_false_eq_true, beq_self_eq_true, Int.lt_irrefl, Int.reduceLT, Int.reduceLE, Int.reduceEq, Bool.true_beq, Bool.false_beq, decide_true, decide_false, Bool.not_true, Bool.not_false], ?_, rfl, rfl⟩
      simp only [h2, List.getElem?_eq_getElem hj, ih _ (List.getElem_mem hj), e_var, e_cst, e_bop, e_neg, e_not, e_boo, e_cmp, e_chain, e_ite, e_call, e_bi, e_isi, e_ix, e_sl, e_tup, e_lst, e_comp, e_meth, es_nil, es_cons, bv_one, bv_cons, bt_one, bt_cons, o_none, o_some, c_none, c_some, t_var, t_not, t_boo, t_cmp, t_chain, t_call, t_isi, t_ix, i_val, i_rng1, i_rng2, g_name, g_tup, g_sub, gs_nil, gs_cons, s_asg, s_par, s_aug, s_expr, s_iff, s_for, s_ret, s_retN, s_brk, s_cont, s_pass, ss_nil, ss_cons, leave_next, leave_d, take_all, v_getV, v_bop2, v_bop, v_neg, v_not, v_cmp2, v_cmp, v_bT, v_bV, v_chV3, v_chV2t, v_chV2f, v_chV1, v_chV, v_iteT, v_iteF, v_call, v_bi, v_isi, v_ix2, v_ix, v_sl3, v_sl2, v_sl, v_tup2, v_tup, v_lst, v_asgn, v_comp, v_meth2, v_meth, v_es2, v_es, v_BVt, v_BVtf, v_BVf, v_BVft, v_BTt, v_BTtf, v_BTf, v_BTft, v_O, v_tru, v_cmpT2, v_cmpT, v_chT3, v_chT2t, v_chT2f, v_chT1, v_chT, v_notT, v_isiT, v_pW, v_itV, v_R1, v_R2b, v_R2, v_asgSeq, v_setIx, v_setIx2, v_sub3, v_sub2, v_sub, v_Ts, v_asg2, v_asg, v_par2, v_par, v_augO, v_aug, v_augV, v_augA, v_augS, v_exp, v_ifT, v_ifF, v_for, v_ret, v_sqN, v_sqR, v_sqB, v_sqC, v_callT, v_ixT2, v_ixT, v_seqL, v_seqT, v_seqW, v_seqC, v_liveW, v_liveC, v_toD, v_toDc, v_frC, v_toDs0, v_toDs, v_Ds, v_Ds2, v_newF, v_newT, v_add, v_subI, v_catT, v_catLL, v_eqI, v_neI, v_eqB, v_neB, v_lt, v_le, v_gt, v_ge, v_is, v_isnot, v_nonN, v_nonI, v_nonB, v_nonT, v_nonL, v_nonC, v_truN, v_truB, v_ixO, v_ixS, v_ixTu, v_ixL, v_ixC, v_at0, v_at1, v_at2, v_at3, v_at4, v_at5, v_at6, v_at7, v_lenO, v_lenS, v_lenL, v_lenT, v_lenC, v_intI, v_intB, v_abs, v_max2, v_min2, v_gcd, v_listL, v_listT, v_listO, v_listC, v_tupleL, v_tupleT, v_tupO, v_tupleC, v_slS, v_slL, v_slT, v_itS, v_itL, v_itT, v_itW, v_itC, v_append, v_app, v_appO, v_pop, v_popO, v_popAt, v_reverse, v_revO, v_isiI, v_isiB, v_isiL, v_isiTu, v_isiS, v_isiN, v_isiC, v_Fb, v_FlN, v_FlC, v_FlB, v_FlR, v_Cl4, v_Cl3, v_Cl2, v_Cl1t, v_Cl1f, v_Cl0, v_encS, v_ptS, v_encI, v_ptI, v_eqE, v_neE, v_eqP, v_neP, v_nonE, v_nonP, v_mulS, v_setC0, v_DC, v_seqDC, v_DCxs, v_mxS, v_mxI, v_sgS, v_sgI, v_setC1, v_setC2, v_setC3, leave_c02, v_frmI, v_dtS, v_dtI, v_eqDt, v_neDt, v_neDt2, v_minDt, v_maxDt, pw_10_9, pw_10_18, pw_10_30, pw_10_12, pw_10_20, pw_10_6, pw_shl, initE, bnd_some, List.getElem?_cons_zero, List.getElem?_cons_succ, List.set_cons_zero, List.set_cons_succ, List.map_cons, List.map_nil, List.length_cons, List.length_nil, List.cons_append, List.nil_append, List.replicate, Nat.reduceAdd, Nat.reduceSub, Nat.reduceLT, Nat.reduceLeDiff, Nat.zero_add, if_true, Bool.false_eq_true, if_false, reduceCtorEq, sizeLine_eq, lBody_eq, lElt_eq, lCnd_eq, List.take_succ_cons, List.take_zero, Int.natCast_zero, Nat.max_def, List.any_cons, List.any_nil, Bool.or_false, Bool.false_or, Bool.and_false, Bool.false_and, Bool.or_true, Bool.true_or, Bool.true_and, Bool.and_true, eq_self, ne_eq, not_true, not_false_eq_true, beq_self_eq_true, Int.lt_irrefl, Int.reduceLT, Int.reduceLE, Int.reduceEq, Bool.true_beq, Bool.false_beq, decide_true, decide_false, Bool.not_true, Bool.not_false])
    subst hm
    exact ⟨zs, e, by rw [hl, rngD_length, Int.toNat_natCast]; exact hx, hz⟩
  subst hw
  cases t with
  | true =>
    obtain ⟨zs, e, hl, hz⟩ := key (.d (.tuple xs)) rfl (fun j => by rw [v_ixTu, at_nat])
    simp only [if_true]
    rw [evF_run T_12 rfl]; simp only [df_law_same, e0, v_R1 _ (small_nat hx), wipeE, e, hl, v_ninL (.bool false) _ rfl (shp_trues hz), any_false hz, e_var, e_cst, e_bop, e_neg, e_not, e_boo, e_cmp, e_chain, e_ite, e_call, e_bi, e_isi, e_ix, e_sl, e_tup, e_lst, e_comp, e_meth, es_nil, es_cons, bv_one, bv_cons, bt_one, bt_cons, o_none, o_some, c_none, c_some, t_var, t_not, t_boo, t_cmp, t_chain, t_call, t_isi, t_ix, i_val, i_rng1, i_rng2, g_name, g_tup, g_sub, gs_nil, gs_cons, s_asg, s_par, s_aug, s_expr, s_iff, s_for, s_ret, s_retN, s_brk, s_cont, s_pass, ss_nil, ss_cons, leave_next, leave_d, take_all, v_getV, v_bop2, v_bop, v_neg, v_not, v_cmp2, v_cmp, v_bT, v_bV, v_chV3, v_chV2t, v_chV2f, v_chV1, v_chV, v_iteT, v_iteF, v_call, v_bi, v_isi, v_ix2, v_ix, v_sl3, v_sl2, v_sl, v_tup2, v_tup, v_lst, v_asgn, v_comp, v_meth2, v_meth, v_es2, v_es, v_BVt, v_BVtf, v_BVf, v_BVft, v_BTt, v_BTtf, v_BTf, v_BTft, v_O, v_tru, v_cmpT2, v_cmpT, v_chT3, v_chT2t, v_chT2f, v_chT1, v_chT, v_notT, v_isiT, v_pW, v_itV, v_R1, v_R2b, v_R2, v_asgSeq, v_setIx, v_setIx2, v_sub3, v_sub2, v_sub, v_Ts, v_asg2, v_asg, v_par2, v_par, v_augO, v_aug, v_augV, v_augA, v_augS, v_exp, v_ifT, v_ifF, v_for, v_ret, v_sqN, v_sqR, v_sqB, v_sqC, v_callT, v_ixT2, v_ixT, v_seqL, v_seqT, v_seqW, v_seqC, v_liveW, v_liveC, v_toD, v_toDc, v_frC, v_toDs0, v_toDs, v_Ds, v_Ds2, v_newF, v_newT, v_add, v_subI, v_catT, v_catLL, v_eqI, v_eqB, v_neB, v_lt, v_le, v_gt, v_ge, v_is, v_isnot, v_nonN, v_nonI, v_nonB, v_nonT, v_nonL, v_nonC, v_truN, v_truB, v_ixO, v_ixS, v_ixTu, v_ixL, v_ixC, v_at0, v_at1, v_at2, v_at3, v_at4, v_at5, v_at6, v_at7, v_lenO, v_lenS, v_lenL, v_lenT, v_lenC, v_intI, v_intB, v_abs, v_max2, v_min2, v_gcd, v_listL, v_listT, v_listO, v_listC, v_tupleL, v_tupleT, v_tupO, v_tupleC, v_slS, v_slL, v_slT, v_itS, v_itL, v_itT, v_itW, v_itC, v_append, v_app, v_appO, v_pop, v_popO, v_popAt, v_reverse, v_revO, v_isiI, v_isiB, v_isiL, v_isiTu, v_isiS, v_isiN, v_isiC, v_Fb, v_FlN, v_FlC, v_FlB, v_FlR, v_Cl4, v_Cl3, v_Cl2, v_Cl1t, v_Cl1f, v_Cl0, v_encS, v_ptS, v_encI, v_ptI, v_eqE, v_neE, v_eqP, v_neP, v_nonE, v_nonP, v_mulS, v_setC0, v_DC, v_seqDC, v_DCxs, v_mxS, v_mxI, v_sgS, v_sgI, v_setC1, v_setC2, v_setC3, leave_c02, v_frmI, v_dtS, v_dtI, v_eqDt, v_neDt, v_neDt2, v_minDt, v_maxDt, pw_10_9, pw_10_18, pw_10_30, pw_10_12, pw_10_20, pw_10_6, pw_shl, initE, bnd_some, List.getElem?_cons_zero, List.getElem?_cons_succ, List.set_cons_zero, List.set_cons_succ, List.map_cons, List.map_nil, List.length_cons, List.length_nil, List.cons_append, List.nil_append, List.replicate, Nat.reduceAdd, Nat.reduceSub, Nat.reduceLT, Nat.reduceLeDiff, Nat.zero_add, if_true, Bool.false_eq_true, if_false, reduceCtorEq, sizeLine_eq, lBody_eq, lElt_eq, lCnd_eq, List.take_succ_cons, List.take_zero, Int.natCast_zero, Nat.max_def, List.any_cons, List.any_nil, Bool.or_false, Bool.false_or, Bool.and_false, Bool.false_and, Bool.or_true, Bool.true_or, Bool.true_and, Bool.and_true, eq_self, ne_eq, not_true, not_false_eq_true, beq_self_eq_true, Int.lt_irrefl, Int.reduceLT, Int.reduceLE, Int.reduceEq, Bool.true_beq, Bool.false_beq, decide_true, decide_false, Bool.not_true, Bool.not_false]
  | false =>
    obtain ⟨zs, e, hl, hz⟩ := key (.d (.list xs)) rfl (fun j => by rw [v_ixL, at_nat])
    simp only [Bool.false_eq_true, if_false]
    rw [evF_run T_12 rfl]; simp only [df_law_same, e0, v_R1 _ (small_nat hx), wipeE, e, hl, v_ninL (.bool false) _ rfl (shp_trues hz), any_false hz, e_var, e_cst, e_bop, e_neg, e_not, e_boo, e_cmp, e_chain, e_ite, e_call, e_bi, e_isi, e_ix, e_sl, e_tup, e_lst, e_comp, e_meth, es_nil, es_cons, bv_one, bv_cons, bt_one, bt_cons, o_none, o_some, c_none, c_some, t_var, t_not, t_boo, t_cmp, t_chain, t_call, t_isi, t_ix, i_val, i_rng1, i_rng2, g_name, g_tup, g_sub, gs_nil, gs_cons, s_asg, s_par, s_aug, s_expr, s_iff, s_for, s_ret, s_retN, s_brk, s_cont, s_pass, ss_nil, ss_cons, leave_next, leave_d, take_all, v_getV, v_bop2, v_bop, v_neg, v_not, v_cmp2, v_cmp, v_bT, v_bV, v_chV3, v_chV2t, v_chV2f, v_chV1, v_chV, v_iteT, v_iteF, v_call, v_bi, v_isi, v_ix2, v_ix, v_sl3, v_sl2, v_sl, v_tup2, v_tup, v_lst, v_asgn, v_comp, v_meth2, v_meth, v_es2, v_es, v_BVt, v_BVtf, v_BVf, v_BVft, v_BTt, v_BTtf, v_BTf, v_BTft, v_O, v_tru, v_cmpT2, v_cmpT, v_chT3, v_chT2t, v_chT2f, v_chT1, v_chT, v_notT, v_isiT, v_pW, v_itV, v_R1, v_R2b, v_R2, v_asgSeq, v_setIx, v_setIx2, v_sub3, v_sub2, v_sub, v_Ts, v_asg2, v_asg, v_par2, v_par, v_augO, v_aug, v_augV, v_augA, v_augS, v_exp, v_ifT, v_ifF, v_for, v_ret, v_sqN, v_sqR, v_sqB, v_sqC, v_callT, v_ixT2, v_ixT, v_seqL, v_seqT, v_seqW, v_seqC, v_liveW, v_liveC, v_toD, v_toDc, v_frC, v_toDs0, v_toDs, v_Ds, v_Ds2, v_newF, v_newT, v_add, v_subI, v_catT, v_catLL, v_eqI, v_eqB, v_neB, v_lt, v_le, v_gt, v_ge, v_is, v_isnot, v_nonN, v_nonI, v_nonB, v_nonT, v_nonL, v_nonC, v_truN, v_truB, v_ixO, v_ixS, v_ixTu, v_ixL, v_ixC, v_at0, v_at1, v_at2, v_at3, v_at4, v_at5, v_at6, v_at7, v_lenO, v_lenS, v_lenL, v_lenT, v_lenC, v_intI, v_intB, v_abs, v_max2, v_min2, v_gcd, v_listL, v_listT, v_listO, v_listC, v_tupleL, v_tupleT, v_tupO, v_tupleC, v_slS, v_slL, v_slT, v_itS, v_itL, v_itT, v_itW, v_itC, v_append, v_app, v_appO, v_pop, v_popO, v_popAt, v_reverse, v_revO, v_isiI, v_isiB, v_isiL, v_isiTu, v_isiS, v_isiN, v_isiC, v_Fb, v_FlN, v_FlC, v_FlB, v_FlR, v_Cl4, v_Cl3, v_Cl2, v_Cl1t, v_Cl1f, v_Cl0, v_encS, v_ptS, v_encI, v_ptI, v_eqE, v_neE, v_eqP, v_neP, v_nonE, v_nonP, v_mulS, v_setC0, v_DC, v_seqDC, v_DCxs, v_mxS, v_mxI, v_sgS, v_sgI, v_setC1, v_setC2, v_setC3, leave_c02, v_frmI, v_dtS, v_dtI, v_eqDt, v_neDt, v_neDt2, v_minDt, v_maxDt, pw_10_9, pw_10_18, pw_10_30, pw_10_12, pw_10_20, pw_10_6, pw_shl, initE, bnd_some, List.getElem?_cons_zero, List.getElem?_cons_succ, List.set_cons_zero, List.set_cons_succ, List.map_cons, List.map_nil, List.length_cons, List.length_nil, List.cons_append, List.nil_append, List.replicate, Nat.reduceAdd, Nat.reduceSub, Nat.reduceLT, Nat.reduceLeDiff, Nat.zero_add, if_true, Bool.false_eq_true, if_false, reduceCtorEq, sizeLine_eq, lBody_eq, lElt_eq, lCnd_eq, List.take_succ_cons, List.take_zero, Int.natCast_zero, Nat.max_def, List.any_cons, List.any_nil, Bool.or_false, Bool.false_or, Bool.and_false, Bool.false_and, Bool.or_true, Bool.true_or, Bool.true_and, Bool.and_true, eq_self, ne_eq, not_true, not_false_eq_true, beq_self_eq_true, Int.lt_irrefl, Int.reduceLT, Int.reduceLE, Int.reduceEq, Bool.true_beq, Bool.false_beq, decide_true, decide_false, Bool.not_true, Bool.not_false]
theorem same_ok (k : Nat) : ∀ (n : Nat) (x : D), okS n x = true → ∀ μ, evF T (k+n+1) 12 [.d x, .d x] μ = some (.d (.bool true), μ)
  | n, .int i, _, μ => by rw [evF_run T_12 rfl]; simp only [df_law_same, e_var, e_cst, e_bop, e_neg, e_not, e_boo, e_cmp, e_chain, e_ite, e_call, e_bi, e_isi, e_ix, e_sl, e_tup, e_lst, e_comp, e_meth, es_nil, es_cons, bv_one, bv_cons, bt_one, bt_cons, o_none, o_some, c_none, c_some, t_var, t_not, t_boo, t_cmp, t_chain, t_call, t_isi, t_ix, i_val, i_rng1, i_rng2, g_name, g_tup, g_sub, gs_nil, gs_cons, s_asg, s_par, s_aug, s_expr, s_iff, s_for, s_ret, s_retN, s_brk, s_cont, s_pass, ss_nil, ss_cons, leave_next, leave_d, take_all, v_getV, v_bop2, v_bop, v_neg, v_not, v_cmp2, v_cmp, v_bT, v_bV, v_chV3, v_chV2t, v_chV2f, v_chV1, v_chV, v_iteT, v_iteF, v_call, v_bi, v_isi, v_ix2, v_ix, v_sl3, v_sl2, v_sl, v_tup2, v_tup, v_lst, v_asgn, v_comp, v_meth2, v_meth, v_es2, v_es, v_BVt, v_BVtf, v_BVf, v_BVft, v_BTt, v_BTtf, v_BTf, v_BTft, v_O, v_tru, v_cmpT2, v_cmpT, v_chT3, v_chT2t, v_chT2f, v_chT1, v_chT, v_notT, v_isiT, v_pW, v_itV, v_R1, v_R2b, v_R2, v_asgSeq, v_setIx, v_setIx2, v_sub3, v_sub2, v_sub, v_Ts, v_asg2, v_asg, v_par2, v_par, v_augO, v_aug, v_augV, v_augA, v_augS, v_exp, v_ifT, v_ifF, v_for, v_ret, v_sqN, v_sqR, v_sqB, v_sqC, v_callT, v_ixT2, v_ixT, v_seqL, v_seqT, v_seqW, v_seqC, v_liveW, v_liveC, v_toD, v_toDc, v_frC, v_toDs0, v_toDs, v_Ds, v_Ds2, v_newF, v_newT, v_add, v_subI, v_catT, v_catLL, v_eqI, v_neI, v_eqB, v_neB, v_lt, v_le, v_gt, v_ge, v_is, v_isnot, v_nonN, v_nonI, v_nonB, v_nonT, v_nonL, v_nonC, v_truN, v_truB, v_ixO, v_ixS, v_ixTu, v_ixL, v_ixC, v_at0, v_at1, v_at2, v_at3, v_at4, v_at5, v_at6, v_at7, v_lenO, v_lenS, v_lenL, v_lenT, v_lenC, v_intI, v_intB, v_abs, v_max2, v_min2, v_gcd, v_listL, v_listT, v_listO, v_listC, v_tupleL, v_tupleT, v_tupO, v_tupleC, v_slS, v_slL, v_slT, v_itS, v_itL, v_itT, v_itW, v_itC, v_append, v_app, v_appO, v_pop, v_popO, v_popAt, v_reverse, v_revO, v_isiI, v_isiB, v_isiL, v_isiTu, v_isiS, v_isiN, v_isiC, v_Fb, v_FlN, v_FlC, v_FlB, v_FlR, v_Cl4, v_Cl3, v_Cl2, v_Cl1t, v_Cl1f, v_Cl0, v_encS, v_ptS, v_encI, v_ptI, v_eqE, v_neE, v_eqP, v_neP, v_nonE, v_nonP, v_mulS, v_setC0, v_DC, v_seqDC, v_DCxs, v_mxS, v_mxI, v_sgS, v_sgI, v_setC1, v_setC2, v_setC3, leave_c02, v_frmI, v_dtS, v_dtI, v_eqDt, v_neDt, v_neDt2, v_minDt, v_maxDt, pw_10_9, pw_10_18, pw_10_30, pw_10_12, pw_10_20, pw_10_6, pw_shl, initE, bnd_some, List.getElem?_cons_zero, List.getElem?_cons_succ, List.set_cons_zero, List.set_cons_succ, List.map_cons, List.map_nil, List.length_cons, List.length_nil, List.cons_append, List.nil_append, List.replicate, Nat.reduceAdd, Nat.reduceSub, Nat.reduceLT, Nat.reduceLeDiff, Nat.zero_add, if_true, Bool.false_eq_true, if_false, reduceCtorEq, sizeLine_eq, lBody_eq, lElt_eq, lCnd_eq, List.take_succ_cons, List.take_zero, Int.natCast_zero, Nat.max_def, List.any_cons, List.any_nil, Bool.or_false, Bool.false_or, Bool.and_false, Bool.false_and, Bool.or_true, Bool.true_or, Bool.true_and, Bool.and_true, eq_self, ne_eq, not_true, not_false_eq_true, beq_self_eq_true, Int.lt_irrefl, Int.reduceLT, Int.reduceLE, Int.reduceEq, Bool.true_beq, Bool.false_beq, decide_true, decide_false, Bool.not_true, Bool.not_false]
  | n, .bool i, _, μ => by rw [evF_run T_12 rfl]; simp only [df_law_same, e_var, e_cst, e_bop, e_neg, e_not, e_boo, e_cmp, e_chain, e_ite, e_call, e_bi, e_isi, e_ix, e_sl, e_tup, e_lst, e_comp, e_meth, es_nil, es_cons, bv_one, bv_cons, bt_one, bt_cons, o_none, o_some, c_none, c_some, t_var, t_not, t_boo, t_cmp, t_chain, t_call, t_isi, t_ix, i_val, i_rng1, i_rng2, g_name, g_tup, g_sub, gs_nil, gs_cons, s_asg, s_par, s_aug, s_expr, s_iff, s_for, s_ret, s_retN, s_brk, s_cont, s_pass, ss_nil, ss_cons, leave_next, leave_d, take_all, v_getV, v_bop2, v_bop, v_neg, v_not, v_cmp2, v_cmp, v_bT, v_bV, v_chV3, v_chV2t, v_chV2f, v_chV1, v_chV, v_iteT, v_iteF, v_call, v_bi, v_isi, v_ix2, v_ix, v_sl3, v_sl2, v_sl, v_tup2, v_tup, v_lst, v_asgn, v_comp, v_meth2, v_meth, v_es2, v_es, v_BVt, v_BVtf, v_BVf, v_BVft, v_BTt, v_BTtf, v_BTf, v_BTft, v_O, v_tru, v_cmpT2, v_cmpT, v_chT3, v_chT2t, v_chT2f, v_chT1, v_chT, v_notT, v_isiT, v_pW, v_itV, v_R1, v_R2b, v_R2, v_asgSeq, v_setIx, v_setIx2, v_sub3, v_sub2, v_sub, v_Ts, v_asg2, v_asg, v_par2, v_par, v_augO, v_aug, v_augV, v_augA, v_augS, v_exp, v_ifT, v_ifF, v_for, v_ret, v_sqN, v_sqR, v_sqB, v_sqC, v_callT, v_ixT2, v_ixT, v_seqL, v_seqT, v_seqW, v_seqC, v_liveW, v_liveC, v_toD, v_toDc, v_frC, v_toDs0, v_toDs, v_Ds, v_Ds2, v_newF, v_newT, v_add, v_subI, v_catT, v_catLL, v_eqI, v_neI, v_eqB, v_neB, v_lt, v_le, v_gt, v_ge, v_is, v_isnot, v_nonN, v_nonI, v_nonB, v_nonT, v_nonL, v_nonC, v_truN, v_truB, v_ixO, v_ixS, v_ixTu, v_ixL, v_ixC, v_at0, v_at1, v_at2, v_at3, v_at4, v_at5, v_at6, v_at7, v_lenO, v_lenS, v_lenL, v_lenT, v_lenC, v_intI, v_intB, v_abs, v_max2, v_min2, v_gcd, v_listL, v_listT, v_listO, v_listC, v_tupleL, v_tupleT, v_tupO, v_tupleC, v_slS, v_slL, v_slT, v_itS, v_itL, v_itT, v_itW, v_itC, v_append, v_app, v_appO, v_pop, v_popO, v_popAt, v_reverse, v_revO, v_isiI, v_isiB, v_isiL, v_isiTu, v_isiS, v_isiN, v_isiC, v_Fb, v_FlN, v_FlC, v_FlB, v_FlR, v_Cl4, v_Cl3, v_Cl2, v_Cl1t, v_Cl1f, v_Cl0, v_encS, v_ptS, v_encI, v_ptI, v_eqE, v_neE, v_eqP, v_neP, v_nonE, v_nonP, v_mulS, v_setC0, v_DC, v_seqDC, v_DCxs, v_mxS, v_mxI, v_sgS, v_sgI, v_setC1, v_setC2, v_setC3, leave_c02, v_frmI, v_dtS, v_dtI, v_eqDt, v_neDt, v_neDt2, v_minDt, v_maxDt, pw_10_9, pw_10_18, pw_10_30, pw_10_12, pw_10_20, pw_10_6, pw_shl, initE, bnd_some, List.getElem?_cons_zero, List.getElem?_cons_succ, List.set_cons_zero, List.set_cons_succ, List.map_cons, List.map_nil, List.length_cons, List.length_nil, List.cons_append, List.nil_append, List.replicate, Nat.reduceAdd, Nat.reduceSub, Nat.reduceLT, Nat.reduceLeDiff, Nat.zero_add, if_true, Bool.false_eq_true, if_false, reduceCtorEq, sizeLine_eq, lBody_eq, lElt_eq, lCnd_eq, List.take_succ_cons, List.take_zero, Int.natCast_zero, Nat.max_def, List.any_cons, List.any_nil, Bool.or_false, Bool.false_or, Bool.and_false, Bool.false_and, Bool.or_true, Bool.true_or, Bool.true_and, Bool.and_true, eq_self, ne_eq, not_true, not_false_eq_true, beq_self_eq_true, Int.lt_irrefl, Int.reduceLT, Int.reduceLE, Int.reduceEq, Bool.true_beq, Bool.false_beq, decide_true, decide_false, Bool.not_true, Bool.not_false]
  | n, .none, _, μ => by
    have e : cmpW .eq (.d .none) (.d .none) μ = some true := by rw [v_eqD _ _ rfl rfl]; rfl
    rw [evF_run T_12 rfl]; simp only [df_law_same, e, e_var, e_cst, e_bop, e_neg, e_not, e_boo, e_cmp, e_chain, e_ite, e_call, e_bi, e_isi, e_ix, e_sl, e_tup, e_lst, e_comp, e_meth, es_nil, es_cons, bv_one, bv_cons, bt_one, bt_cons, o_none, o_some, c_none, c_some, t_var, t_not, t_boo, t_cmp, t_chain, t_call, t_isi, t_ix, i_val, i_rng1, i_rng2, g_name, g_tup, g_sub, gs_nil, gs_cons, s_asg, s_par, s_aug, s_expr, s_iff, s_for, s_ret, s_retN, s_brk, s_cont, s_pass, ss_nil, ss_cons, leave_next, leave_d, take_all, v_getV, v_bop2, v_bop, v_neg, v_not, v_cmp2, v_cmp, v_bT, v_bV, v_chV3, v_chV2t, v_chV2f, v_chV1, v_chV, v_iteT, v_iteF, v_call, v_bi, v_isi, v_ix2, v_ix, v_sl3, v_sl2, v_sl, v_tup2, v_tup, v_lst, v_asgn, v_comp, v_meth2, v_meth, v_es2, v_es, v_BVt, v_BVtf, v_BVf, v_BVft, v_BTt, v_BTtf, v_BTf, v_BTft, v_O, v_tru, v_cmpT2, v_cmpT, v_chT3, v_chT2t, v_chT2f, v_chT1, v_chT, v_notT, v_isiT, v_pW, v_itV, v_R1, v_R2b, v_R2, v_asgSeq, v_setIx, v_setIx2, v_sub3, v_sub2, v_sub, v_Ts, v_asg2, v_asg, v_par2, v_par, v_augO, v_aug, v_augV, v_augA, v_augS, v_exp, v_ifT, v_ifF, v_for, v_ret, v_sqN, v_sqR, v_sqB, v_sqC, v_callT, v_ixT2, v_ixT, v_seqL, v_seqT, v_seqW, v_seqC, v_liveW, v_liveC, v_toD, v_toDc, v_frC, v_toDs0, v_toDs, v_Ds, v_Ds2, v_newF, v_newT, v_add, v_subI, v_catT, v_catLL, v_eqI, v_neI, v_eqB, v_neB, v_lt, v_le, v_gt, v_ge, v_is, v_isnot, v_nonN, v_nonI, v_nonB, v_nonT, v_nonL, v_nonC, v_truN, v_truB, v_ixO, v_ixS, v_ixTu, v_ixL, v_ixC, v_at0, v_at1, v_at2, v_at3, v_at4, v_at5, v_at6, v_at7, v_lenO, v_lenS, v_lenL, v_lenT, v_lenC, v_intI, v_intB, v_abs, v_max2, v_min2, v_gcd, v_listL, v_listT, v_listO, v_listC, v_tupleL, v_tupleT, v_tupO, v_tupleC, v_slS, v_slL, v_slT, v_itS, v_itL, v_itT, v_itW, v_itC, v_append, v_app, v_appO, v_pop, v_popO, v_popAt, v_reverse, v_revO, v_isiI, v_isiB, v_isiL, v_isiTu, v_isiS, v_isiN, v_isiC, v_Fb, v_FlN, v_FlC, v_FlB, v_FlR, v_Cl4, v_Cl3, v_Cl2, v_Cl1t, v_Cl1f, v_Cl0, v_encS, v_ptS, v_encI, v_ptI, v_eqE, v_neE, v_eqP, v_neP, v_nonE, v_nonP, v_mulS, v_setC0, v_DC, v_seqDC, v_DCxs, v_mxS, v_mxI, v_sgS, v_sgI, v_setC1, v_setC2, v_setC3, leave_c02, v_frmI, v_dtS, v_dtI, v_eqDt, v_neDt, v_neDt2, v_minDt, v_maxDt, pw_10_9, pw_10_18, pw_10_30, pw_10_12, pw_10_20, pw_10_6, pw_shl, initE, bnd_some, List.getElem?_cons_zero, List.getElem?_cons_succ, List.set_cons_zero, List.set_cons_succ, List.map_cons, List.map_nil, List.length_cons, List.length_nil, List.cons_append, List.nil_append, List.replicate, Nat.reduceAdd, Nat.reduceSub, Nat.reduceLT, Nat.reduceLeDiff, Nat.zero_add, if_true, Bool.false_eq_true, if_false, reduceCtorEq, sizeLine_eq, lBody_eq, lElt_eq, lCnd_eq, List.take_succ_cons, List.take_zero, Int.natCast_zero, Nat.max_def, List.any_cons, List.any_nil, Bool.or_false, Bool.false_or, Bool.and_false, Bool.false_and, Bool.or_true, Bool.true_or, Bool.true_and, Bool.and_true, eq_self, ne_eq, not_true, not_false_eq_true, beq_self_eq_true, Int.lt_irrefl, Int.reduceLT, Int.reduceLE, Int.reduceEq, Bool.true_beq, Bool.false_beq, decide_true, decide_false, Bool.not_true, Bool.not_false]
  | n, .str s, h, μ => by
    have hs : shp (.str s) = true := by cases n <;> exact h
    have e : cmpW .eq (.d (.str s)) (.d (.str s)) μ = some true := by rw [v_eqD _ _ hs hs]; simp [PyData.eqv]
    rw [evF_run T_12 rfl]; simp only [df_law_same, e, e_var, e_cst, e_bop, e_neg, e_not, e_boo, e_cmp, e_chain, e_ite, e_call, e_bi, e_isi, e_ix, e_sl, e_tup, e_lst, e_comp, e_meth, es_nil, es_cons, bv_one, bv_cons, bt_one, bt_cons, o_none, o_some, c_none, c_some, t_var, t_not, t_boo, t_cmp, t_chain, t_call, t_isi, t_ix, i_val, i_rng1, i_rng2, g_name, g_tup, g_sub, gs_nil, gs_cons, s_asg, s_par, s_aug, s_expr, s_iff, s_for, s_ret, s_retN, s_brk, s_cont, s_pass, ss_nil, ss_cons, leave_next, leave_d, take_all, v_getV, v_bop2, v_bop, v_neg, v_not, v_cmp2, v_cmp, v_bT, v_bV, v_chV3, v_chV2t, v_chV2f, v_chV1, v_chV, v_iteT, v_iteF, v_call, v_bi, v_isi, v_ix2, v_ix, v_sl3, v_sl2, v_sl, v_tup2, v_tup, v_lst, v_asgn, v_comp, v_meth2, v_meth, v_es2, v_es, v_BVt, v_BVtf, v_BVf, v_BVft, v_BTt, v_BTtf, v_BTf, v_BTft, v_O, v_tru, v_cmpT2, v_cmpT, v_chT3, v_chT2t, v_chT2f, v_chT1, v_chT, v_notT, v_isiT, v_pW, v_itV, v_R1, v_R2b, v_R2, v_asgSeq, v_setIx, v_setIx2, v_sub3, v_sub2, v_sub, v_Ts, v_asg2, v_asg, v_par2, v_par, v_augO, v_aug, v_augV, v_augA, v_augS, v_exp, v_ifT, v_ifF, v_for, v_ret, v_sqN, v_sqR, v_sqB, v_sqC, v_callT, v_ixT2, v_ixT, v_seqL, v_seqT, v_seqW, v_seqC, v_liveW, v_liveC, v_toD, v_toDc, v_frC, v_toDs0, v_toDs, v_Ds, v_Ds2, v_newF, v_newT, v_add, v_subI, v_catT, v_catLL, v_eqI, v_neI, v_eqB, v_neB, v_lt, v_le, v_gt, v_ge, v_is, v_isnot, v_nonN, v_nonI, v_nonB, v_nonT, v_nonL, v_nonC, v_truN, v_truB, v_ixO, v_ixS, v_ixTu, v_ixL, v_ixC, v_at0, v_at1, v_at2, v_at3, v_at4, v_at5, v_at6, v_at7, v_lenO, v_lenS, v_lenL, v_lenT, v_lenC, v_intI, v_intB, v_abs, v_max2, v_min2, v_gcd, v_listL, v_listT, v_listO, v_listC, v_tupleL, v_tupleT, v_tupO, v_tupleC, v_slS, v_slL, v_slT, v_itS, v_itL, v_itT, v_itW, v_itC, v_append, v_app, v_appO, v_pop, v_popO, v_popAt, v_reverse, v_revO, v_isiI, v_isiB, v_isiL, v_isiTu, v_isiS, v_isiN, v_isiC, v_Fb, v_FlN, v_FlC, v_FlB, v_FlR, v_Cl4, v_Cl3, v_Cl2, v_Cl1t, v_Cl1f, v_Cl0, v_encS, v_ptS, v_encI, v_ptI, v_eqE, v_neE, v_eqP, v_neP, v_nonE, v_nonP, v_mulS, v_setC0, v_DC, v_seqDC, v_DCxs, v_mxS, v_mxI, v_sgS, v_sgI, v_setC1, v_setC2, v_setC3, leave_c02, v_frmI, v_dtS, v_dtI, v_eqDt, v_neDt, v_neDt2, v_minDt, v_maxDt, pw_10_9, pw_10_18, pw_10_30, pw_10_12, pw_10_20, pw_10_6, pw_shl, initE, bnd_some, List.getElem?_cons_zero, List.getElem?_cons_succ, List.set_cons_zero, List.set_cons_succ, List.map_cons, List.map_nil, List.length_cons, List.length_nil, List.cons_append, List.nil_append, List.replicate, Nat.reduceAdd, Nat.reduceSub, Nat.reduceLT, Nat.reduceLeDiff, Nat.zero_add, if_true, Bool.false_eq_true, if_false, reduceCtorEq, sizeLine_eq, lBody_eq, lElt_eq, lCnd_eq, List.take_succ_cons, List.take_zero, Int.natCast_zero, Nat.max_def, List.any_cons, List.any_nil, Bool.or_false, Bool.false_or, Bool.and_false, Bool.false_and, Bool.or_true, Bool.true_or, Bool.true_and, Bool.and_true, eq_self, ne_eq, not_true, not_false_eq_true, beq_self_eq_true, Int.lt_irrefl, Int.reduceLT, Int.reduceLE, Int.reduceEq, Bool.true_beq, Bool.false_beq, decide_true, decide_false, Bool.not_true, Bool.not_false]
  | 0, .tuple xs, h, μ => by simp [okS] at h
  | 0, .list xs, h, μ => by simp [okS] at h
  | n, .dict xs, h, μ => by cases n <;> simp [okS] at h
  | n + 1, .tuple xs, h, μ => by
    rw [okS, Bool.and_eq_true, decide_eq_true_eq, List.all_eq_true] at h
    exact same_seq k n true xs h.1 (fun x hx μ => same_ok k n x (h.2 x hx) μ) μ _ rfl
  | n + 1, .list xs, h, μ => by
    rw [okS, Bool.and_eq_true, decide_eq_true_eq, List.all_eq_true] at h
    exact same_seq k n false xs h.1 (fun x hx μ => same_ok k n x (h.2 x hx) μ) μ _ rfl
-- _law_draws
theorem cut_len (ns : List Int) (hn : ns.length ≤ 63) : (cutD ns none (some 63)).length ≤ 63 := by
  unfold cutD
  rw [List.length_take, List.length_drop]
  omega
theorem draws_loop (k : Nat) (ns : List Int) (cs ls0 : List Int) (m : Int) (hm0 : 0 ≤ m) (hm : m ≤ 1000) (hc0 : 0 < cs.length) (hcl : ls0.length = cs.length) (hcs : ∀ x ∈ cs, Sz x 7200) :
    ∃ xs, leave 0 (evSs (evF T k) (match df_law_draws.body with | .cons _ (.cons _ (.cons _ (.cons _ r))) => r | _ => .nil) [some (.s ns), some (.d (.int m)), some (.c 0), some (.c 1), some (.c 2), none, none, none, none] [DC cs, DC ls0, DC []]) = some (.c 0, [DC xs]) := by
  have hsm : small62 m = true := by
    unfold small62
    rw [decide_eq_true (by omega), decide_eq_true (by omega)]; rfl
  simp only [df_law_draws, v_R1 m hsm, e_var, e_cst, e_bop, e_neg, e_not, e_boo, e_cmp, e_chain, e_ite, e_call, e_bi, e_isi, e_ix, e_sl, e_tup, e_lst, e_comp, e_meth, es_nil, es_cons, bv_one, bv_cons, bt_one, bt_cons, o_none, o_some, c_none, c_some, t_var, t_not, t_boo, t_cmp, t_chain, t_call, t_isi, t_ix, i_val, i_rng1, i_rng2, g_name, g_tup, g_sub, gs_nil, gs_cons, s_asg, s_par, s_aug, s_expr, s_iff, s_for, s_ret, s_retN, s_brk, s_cont, s_pass, ss_nil, ss_cons, leave_next, leave_d, take_all, v_getV, v_bop2, v_bop, v_neg, v_not, v_cmp2, v_cmp, v_bT, v_bV, v_chV3, v_chV2t, v_chV2f, v_chV1, v_chV, v_iteT, v_iteF, v_call, v_bi, v_isi, v_ix2, v_ix, v_sl3, v_sl2, v_sl, v_tup2, v_tup, v_lst, v_asgn, v_comp, v_meth2, v_meth, v_es2, v_es, v_BVt, v_BVtf, v_BVf, v_BVft, v_BTt, v_BTtf, v_BTf, v_BTft, v_O, v_tru, v_cmpT2, v_cmpT, v_chT3, v_chT2t, v_chT2f, v_chT1, v_chT, v_notT, v_isiT, v_pW, v_itV, v_R1, v_R2b, v_R2, v_asgSeq, v_setIx, v_setIx2, v_sub3, v_sub2, v_sub, v_Ts, v_asg2, v_asg, v_par2, v_par, v_augO, v_aug, v_augV, v_augA, v_augS, v_exp, v_ifT, v_ifF, v_for, v_ret, v_sqN, v_sqR, v_sqB, v_sqC, v_callT, v_ixT2, v_ixT, v_seqL, v_seqT, v_seqW, v_seqC, v_liveW, v_liveC, v_toD, v_toDc, v_frC, v_toDs0, v_toDs, v_Ds, v_Ds2, v_newF, v_newT, v_add, v_subI, v_catT, v_catLL, v_eqI, v_neI, v_eqB, v_neB, v_lt, v_le, v_gt, v_ge, v_is, v_isnot, v_nonN, v_nonI, v_nonB, v_nonT, v_nonL, v_nonC, v_truN, v_truB, v_ixO, v_ixS, v_ixTu, v_ixL, v_ixC, v_at0, v_at1, v_at2, v_at3, v_at4, v_at5, v_at6, v_at7, v_lenO, v_lenS, v_lenL, v_lenT, v_lenC, v_intI, v_intB, v_abs, v_max2, v_min2, v_gcd, v_listL, v_listT, v_listO, v_listC, v_tupleL, v_tupleT, v_tupO, v_tupleC, v_slS, v_slL, v_slT, v_itS, v_itL, v_itT, v_itW, v_itC, v_append, v_app, v_appO, v_pop, v_popO, v_popAt, v_reverse, v_revO, v_isiI, v_isiB, v_isiL, v_isiTu, v_isiS, v_isiN, v_isiC, v_Fb, v_FlN, v_FlC, v_FlB, v_FlR, v_Cl4, v_Cl3, v_Cl2, v_Cl1t, v_Cl1f, v_Cl0, v_encS, v_ptS, v_encI, v_ptI, v_eqE, v_neE, v_eqP, v_neP, v_nonE, v_nonP, v_mulS, v_setC0, v_DC, v_seqDC, v_DCxs, v_mxS, v_mxI, v_sgS, v_sgI, v_setC1, v_setC2, v_setC3, leave_c02, v_frmI, v_dtS, v_dtI, v_eqDt, v_neDt, v_neDt2, v_minDt, v_maxDt, pw_10_9, pw_10_18, pw_10_30, pw_10_12, pw_10_20, pw_10_6, pw_shl, initE, bnd_some, List.getElem?_cons_zero, List.getElem?_cons_succ, List.set_cons_zero, List.set_cons_succ, List.map_cons, List.map_nil, List.length_cons, List.length_nil, List.cons_append, List.nil_append, List.replicate, Nat.reduceAdd, Nat.reduceSub, Nat.reduceLT, Nat.reduceLeDiff, Nat.zero_add, if_true, Bool.false_eq_true, if_false, reduceCtorEq, sizeLine_eq, lBody_eq, lElt_eq, lCnd_eq, List.take_succ_cons, List.take_zero, Int.natCast_zero, Nat.max_def, List.any_cons, List.any_nil, Bool.or_false, Bool.false_or, Bool.and_false, Bool.false_and, Bool.or_true, Bool.true_or, Bool.true_and, Bool.and_true, eq_self, ne_eq, not_true, not_false_eq_true, beq_self_eq_true, Int.lt_irrefl, Int.reduceLT, Int.reduceLE, Int.reduceEq, Bool.true_beq, Bool.false_beq, decide_true, decide_false, Bool.not_true, Bool.not_false]
  obtain ⟨e, m', he, ls, ds, v5, v6, v8, rfl, rfl⟩ := forL_inv (asg := lAsg (evF T k) (.name 5)) (body := lBody (evF T k) (match df_law_draws.body with | .cons _ (.cons _ (.cons _ (.cons _ (.cons (.forr _ _ b) _)))) => b | _ => .nil)) (all := rngD 0 m.toNat)
    (fun i e μ => ∃ (ls ds : List Int) (v5 v6 v8 : Option W), e = [some (.s ns), some (.d (.int m)), some (.c 0), some (.c 1), some (.c 2), v5, v6, none, v8] ∧ μ = [DC cs, DC ls, DC ds] ∧ ls.length = cs.length ∧ ds.length ≤ i)
    (fun e μ => ∃ (ls ds : List Int) (v5 v6 v8 : Option W), e = [some (.s ns), some (.d (.int m)), some (.c 0), some (.c 1), some (.c 2), v5, v6, none, v8] ∧ μ = [DC cs, DC ls, DC ds])
    (rngD 0 m.toNat) 0 _ _ ⟨ls0, [], none, none, none, rfl, rfl, hcl, Nat.le_refl 0⟩
    (by
      rintro j x e μ hx ⟨ls, ds, v5, v6, v8, rfl, rfl, hll, hds⟩
      obtain ⟨hj, rfl⟩ := rngD_get hx
      rw [Int.zero_add]
      rw [Nat.zero_add] at hds ⊢
      have hpm : ((j : Nat) : Int).fmod (cs.length : Int) = ((j % cs.length : Nat) : Int) := fmod_nat j cs.length
      have hp : j % cs.length < cs.length := Nat.mod_lt _ hc0
      have hnz : ((cs.length : Nat) : Int) ≠ 0 := by omega
      have hca : (cs.map PyData.int)[j % cs.length]? = some (.int (cs[j % cs.length]'hp)) := by rw [List.getElem?_map, List.getElem?_eq_getElem hp]; rfl
      have hla : (ls.map PyData.int)[j % cs.length]? = some (.int (ls[j % cs.length]'(by omega))) := by rw [List.getElem?_map, List.getElem?_eq_getElem (by omega)]; rfl
      have hcz := hcs _ (List.getElem_mem hp)
      generalize cs[j % cs.length]'hp = a at *
      generalize ls[j % cs.length]'_ = b at *
      have hln : (cs.map PyData.int).length = cs.length := List.length_map _
      have hlN : ixN (ls.map PyData.int).length ((j % cs.length : Nat) : Int) = some (j % cs.length) := ixN_nat (by rw [List.length_map]; omega)
      generalize j % cs.length = p at *
      have hdl : ∀ y, appO 0 (.int y) [DC cs, DC ls, DC ds] (some (2, ds.map PyData.int)) = some (.d .none, setC 2 ((ds ++ [y]).map PyData.int) [DC cs, DC ls, DC ds]) := fun y => v_catDC ds y 2 0 (by omega)
      have m1 := fun (l : Bool) (i : Int) (μ : MH) => @v_mod μ l i 1000 (by decide)
      have m2 := fun (l : Bool) (i : Int) (μ : MH) => @v_mod μ l i 2147483647 (by decide)
      have m3 := fun (l : Bool) (i : Int) (μ : MH) => @v_mod μ l i 1000003 (by decide)
      have m4 := fun (l : Bool) (i : Int) (μ : MH) => @v_mod μ l i ((cs.length : Nat) : Int) hnz
      have m5 := fun (l : Bool) (i : Int) (μ : MH) => @v_fdiv μ l i 1000 (by decide)
      have s1 : Sz (48271 : Int) 17 := ⟨by decide⟩
      have s2 : Sz (69621 : Int) 17 := ⟨by decide⟩
      have s3 : Sz (3 : Int) 2 := ⟨by decide⟩
      have s4 : Sz ((j : Nat) : Int) 20 := sz_of (by omega) (by omega)
      have s5 : Sz ((a * 48271 + (j : Int) * 69621 + 11).fmod 2147483647) 31 := by
        have h1 := Int.fmod_nonneg_of_pos (a * 48271 + (j : Int) * 69621 + 11) (show (0 : Int) < 2147483647 by decide)
        have h2 := Int.fmod_lt_of_pos (a * 48271 + (j : Int) * 69621 + 11) (show (0 : Int) < 2147483647 by decide)
        exact sz_of (by omega) (by omega)
      refine ⟨_, _, by simp only [e_var, e_cst, e_bop, e_neg, e_not, e_boo, e_cmp, e_chain, e_ite, e_call, e_bi, e_isi, e_ix, e_sl, e_tup, e_lst, e_comp, e_meth, es_nil, es_cons, bv_one, bv_cons, bt_one, bt_cons, o_none, o_some, c_none, c_some, t_var, t_not, t_boo, t_cmp, t_chain, t_call, t_isi, t_ix, i_val, i_rng1, i_rng2, g_name, g_tup, g_sub, gs_nil, gs_cons, s_asg, s_par, s_aug, s_expr, s_iff, s_for, s_ret, s_retN, s_brk, s_cont, s_pass, ss_nil, ss_cons, leave_next, leave_d, take_all, v_getV, v_bop2, v_bop, v_neg, v_not, v_cmp2, v_cmp, v_bT, v_bV, v_chV3, v_chV2t, v_chV2f, v_chV1, v_chV, v_iteT, v_iteF, v_call, v_bi, v_isi, v_ix2, v_ix, v_sl3, v_sl2, v_sl, v_tup2, v_tup, v_lst, v_asgn, v_comp, v_meth2, v_meth, v_es2, v_es, v_BVt, v_BVtf, v_BVf, v_BVft, v_BTt, v_BTtf, v_BTf, v_BTft, v_O, v_tru, v_cmpT2, v_cmpT, v_chT3, v_chT2t, v_chT2f, v_chT1, v_chT, v_notT, v_isiT, v_pW, v_itV, v_R1, v_R2b, v_R2, v_asgSeq, v_setIx, v_setIx2, v_sub3, v_sub2, v_sub, v_Ts, v_asg2, v_asg, v_par2, v_par, v_augO, v_aug, v_augV, v_augA, v_augS, v_exp, v_ifT, v_ifF, v_for, v_ret, v_sqN, v_sqR, v_sqB, v_sqC, v_callT, v_ixT2, v_ixT, v_seqL, v_seqT, v_seqW, v_seqC, v_liveW, v_liveC, v_toD, v_toDc, v_frC, v_toDs0, v_toDs, v_Ds, v_Ds2, v_newF, v_newT, v_add, v_subI, v_catT, v_catLL, v_eqI, v_neI, v_eqB, v_neB, v_lt, v_le, v_gt, v_ge, v_is, v_isnot, v_nonN, v_nonI, v_nonB, v_nonT, v_nonL, v_nonC, v_truN, v_truB, v_ixO, v_ixS, v_ixTu, v_ixL, v_ixC, v_at0, v_at1, v_at2, v_at3, v_at4, v_at5, v_at6, v_at7, v_lenO, v_lenS, v_lenL, v_lenT, v_lenC, v_intI, v_intB, v_abs, v_max2, v_min2, v_gcd, v_listL, v_listT, v_listO, v_listC, v_tupleL, v_tupleT, v_tupO, v_tupleC, v_slS, v_slL, v_slT, v_itS, v_itL, v_itT, v_itW, v_itC, v_append, v_app, v_appO, v_pop, v_popO, v_popAt, v_reverse, v_revO, v_isiI, v_isiB, v_isiL, v_isiTu, v_isiS, v_isiN, v_isiC, v_Fb, v_FlN, v_FlC, v_FlB, v_FlR, v_Cl4, v_Cl3, v_Cl2, v_Cl1t, v_Cl1f, v_Cl0, v_encS, v_ptS, v_encI, v_ptI, v_eqE, v_neE, v_eqP, v_neP, v_nonE, v_nonP, v_mulS, v_setC0, v_DC, v_seqDC, v_DCxs, v_mxS, v_mxI, v_sgS, v_sgI, v_setC1, v_setC2, v_setC3, leave_c02, v_frmI, v_dtS, v_dtI, v_eqDt, v_neDt, v_neDt2, v_minDt, v_maxDt, pw_10_9, pw_10_18, pw_10_30, pw_10_12, pw_10_20, pw_10_6, pw_shl, initE, bnd_some, List.getElem?_cons_zero, List.getElem?_cons_succ, List.set_cons_zero, List.set_cons_succ, List.map_cons, List.map_nil, List.length_cons, List.length_nil, List.cons_append, List.nil_append, List.replicate, Nat.reduceAdd, Nat.reduceSub, Nat.reduceLT, Nat.reduceLeDiff, Nat.zero_add, if_true, Bool.false_eq_true, if_false, reduceCtorEq, sizeLine_eq, lBody_eq, lElt_eq, lCnd_eq, List.take_succ_cons, List.take_zero, Int.natCast_zero, Nat.max_def, List.any_cons, List.any_nil, Bool.or_false, Bool.false_or, Bool.and_false, Bool.false_and, Bool.or_true, Bool.true_or, Bool.true_and, Bool.and_true, eq_self, ne_eq, not_true, not_false_eq_true, beq_self_eq_true, Int.lt_irrefl, Int.reduceLT, Int.reduceLE, Int.reduceEq, Bool.true_beq, Bool.false_beq, decide_true, decide_false, Bool.not_true, Bool.not_false]; rfl, ?_⟩
      by_cases c1 : 1000000000000000000 ≤ a
      · by_cases c2 : 0 < b
        · simp only [df_law_draws, hln, hpm, hca, hla, m4, at_nat, c1, c2, hdl, m1, m5, hlN, e_var, e_cst, e_bop, e_neg, e_not, e_boo, e_cmp, e_chain, e_ite, e_call, e_bi, e_isi, e_ix, e_sl, e_tup, e_lst, e_comp, e_meth, es_nil, es_cons, bv_one, bv_cons, bt_one, bt_cons, o_none, o_some, c_none, c_some, t_var, t_not, t_boo, t_cmp, t_chain, t_call, t_isi, t_ix, i_val, i_rng1, i_rng2, g_name, g_tup, g_sub, gs_nil, gs_cons, s_asg, s_par, s_aug, s_expr, s_iff, s_for, s_ret, s_retN, s_brk, s_cont, s_pass, ss_nil, ss_cons, leave_next, leave_d, take_all, v_getV, v_bop2, v_bop, v_neg, v_not, v_cmp2, v_cmp, v_bT, v_bV, v_chV3, v_chV2t, v_chV2f, v_chV1, v_chV, v_iteT, v_iteF, v_call, v_bi, v_isi, v_ix2, v_ix, v_sl3, v_sl2, v_sl, v_tup2, v_tup, v_lst, v_asgn, v_comp, v_meth2, v_meth, v_es2, v_es, v_BVt, v_BVtf, v_BVf, v_BVft, v_BTt, v_BTtf, v_BTf, v_BTft, v_O, v_tru, v_cmpT2, v_cmpT, v_chT3, v_chT2t, v_chT2f, v_chT1, v_chT, v_notT, v_isiT, v_pW, v_itV, v_R1, v_R2b, v_R2, v_asgSeq, v_setIx, v_setIx2, v_sub3, v_sub2, v_sub, v_Ts, v_asg2, v_asg, v_par2, v_par, v_augO, v_aug, v_augV, v_augA, v_augS, v_exp, v_ifT, v_ifF, v_for, v_ret, v_sqN, v_sqR, v_sqB, v_sqC, v_callT, v_ixT2, v_ixT, v_seqL, v_seqT, v_seqW, v_seqC, v_liveW, v_liveC, v_toD, v_toDc, v_frC, v_toDs0, v_toDs, v_Ds, v_Ds2, v_newF, v_newT, v_add, v_subI, v_catT, v_catLL, v_eqI, v_neI, v_eqB, v_neB, v_lt, v_le, v_gt, v_ge, v_is, v_isnot, v_nonN, v_nonI, v_nonB, v_nonT, v_nonL, v_nonC, v_truN, v_truB, v_ixO, v_ixS, v_ixTu, v_ixL, v_ixC, v_at0, v_at1, v_at2, v_at3, v_at4, v_at5, v_at6, v_at7, v_lenO, v_lenS, v_lenL, v_lenT, v_lenC, v_intI, v_intB, v_abs, v_max2, v_min2, v_gcd, v_listL, v_listT, v_listO, v_listC, v_tupleL, v_tupleT, v_tupO, v_tupleC, v_slS, v_slL, v_slT, v_itS, v_itL, v_itT, v_itW, v_itC, v_append, v_app, v_appO, v_pop, v_popO, v_popAt, v_reverse, v_revO, v_isiI, v_isiB, v_isiL, v_isiTu, v_isiS, v_isiN, v_isiC, v_Fb, v_FlN, v_FlC, v_FlB, v_FlR, v_Cl4, v_Cl3, v_Cl2, v_Cl1t, v_Cl1f, v_Cl0, v_encS, v_ptS, v_encI, v_ptI, v_eqE, v_neE, v_eqP, v_neP, v_nonE, v_nonP, v_mulS, v_setC0, v_DC, v_seqDC, v_DCxs, v_mxS, v_mxI, v_sgS, v_sgI, v_setC1, v_setC2, v_setC3, leave_c02, v_frmI, v_dtS, v_dtI, v_eqDt, v_neDt, v_neDt2, v_minDt, v_maxDt, pw_10_9, pw_10_18, pw_10_30, pw_10_12, pw_10_20, pw_10_6, pw_shl, initE, bnd_some, List.getElem?_cons_zero, List.getElem?_cons_succ, List.set_cons_zero, List.set_cons_succ, List.map_cons, List.map_nil, List.length_cons, List.length_nil, List.cons_append, List.nil_append, List.replicate, Nat.reduceAdd, Nat.reduceSub, Nat.reduceLT, Nat.reduceLeDiff, Nat.zero_add, if_true, Bool.false_eq_true, if_false, reduceCtorEq, sizeLine_eq, lBody_eq, lElt_eq, lCnd_eq, List.take_succ_cons, List.take_zero, Int.natCast_zero, Nat.max_def, List.any_cons, List.any_nil, Bool.or_false, Bool.false_or, Bool.and_false, Bool.false_and, Bool.or_true, Bool.true_or, Bool.true_and, Bool.and_true, eq_self, ne_eq, not_true, not_false_eq_true, beq_self_eq_true, Int.lt_irrefl, Int.reduceLT, Int.reduceLE, Int.reduceEq, Bool.true_beq, Bool.false_beq, decide_true, decide_false, Bool.not_true, Bool.not_false]
          exact ⟨ls.set p (b.fdiv 1000), ds ++ [b.fmod 1000], _, _, _, rfl, by rw [← List.map_set]; rfl, by rw [List.length_set]; exact hll, by rw [List.length_append, List.length_cons, List.length_nil]; omega⟩
        · simp only [df_law_draws, hln, hpm, hca, hla, m4, at_nat, c1, c2, hdl, m2, m3, hlN, e_var, e_cst, e_bop, e_neg, e_not, e_boo, e_cmp, e_chain, e_ite, e_call, e_bi, e_isi, e_ix, e_sl, e_tup, e_lst, e_comp, e_meth, es_nil, es_cons, bv_one, bv_cons, bt_one, bt_cons, o_none, o_some, c_none, c_some, t_var, t_not, t_boo, t_cmp, t_chain, t_call, t_isi, t_ix, i_val, i_rng1, i_rng2, g_name, g_tup, g_sub, gs_nil, gs_cons, s_asg, s_par, s_aug, s_expr, s_iff, s_for, s_ret, s_retN, s_brk, s_cont, s_pass, ss_nil, ss_cons, leave_next, leave_d, take_all, v_getV, v_bop2, v_bop, v_neg, v_not, v_cmp2, v_cmp, v_bT, v_bV, v_chV3, v_chV2t, v_chV2f, v_chV1, v_chV, v_iteT, v_iteF, v_call, v_bi, v_isi, v_ix2, v_ix, v_sl3, v_sl2, v_sl, v_tup2, v_tup, v_lst, v_asgn, v_comp, v_meth2, v_meth, v_es2, v_es, v_BVt, v_BVtf, v_BVf, v_BVft, v_BTt, v_BTtf, v_BTf, v_BTft, v_O, v_tru, v_cmpT2, v_cmpT, v_chT3, v_chT2t, v_chT2f, v_chT1, v_chT, v_notT, v_isiT, v_pW, v_itV, v_R1, v_R2b, v_R2, v_asgSeq, v_setIx, v_setIx2, v_sub3, v_sub2, v_sub, v_Ts, v_asg2, v_asg, v_par2, v_par, v_augO, v_aug, v_augV, v_augA, v_augS, v_exp, v_ifT, v_ifF, v_for, v_ret, v_sqN, v_sqR, v_sqB, v_sqC, v_callT, v_ixT2, v_ixT, v_seqL, v_seqT, v_seqW, v_seqC, v_liveW, v_liveC, v_toD, v_toDc, v_frC, v_toDs0, v_toDs, v_Ds, v_Ds2, v_newF, v_newT, v_add, v_subI, v_catT, v_catLL, v_eqI, v_neI, v_eqB, v_neB, v_lt, v_le, v_gt, v_ge, v_is, v_isnot, v_nonN, v_nonI, v_nonB, v_nonT, v_nonL, v_nonC, v_truN, v_truB, v_ixO, v_ixS, v_ixTu, v_ixL, v_ixC, v_at0, v_at1, v_at2, v_at3, v_at4, v_at5, v_at6, v_at7, v_lenO, v_lenS, v_lenL, v_lenT, v_lenC, v_intI, v_intB, v_abs, v_max2, v_min2, v_gcd, v_listL, v_listT, v_listO, v_listC, v_tupleL, v_tupleT, v_tupO, v_tupleC, v_slS, v_slL, v_slT, v_itS, v_itL, v_itT, v_itW, v_itC, v_append, v_app, v_appO, v_pop, v_popO, v_popAt, v_reverse, v_revO, v_isiI, v_isiB, v_isiL, v_isiTu, v_isiS, v_isiN, v_isiC, v_Fb, v_FlN, v_FlC, v_FlB, v_FlR, v_Cl4, v_Cl3, v_Cl2, v_Cl1t, v_Cl1f, v_Cl0, v_encS, v_ptS, v_encI, v_ptI, v_eqE, v_neE, v_eqP, v_neP, v_nonE, v_nonP, v_mulS, v_setC0, v_DC, v_seqDC, v_DCxs, v_mxS, v_mxI, v_sgS, v_sgI, v_setC1, v_setC2, v_setC3, leave_c02, v_frmI, v_dtS, v_dtI, v_eqDt, v_neDt, v_neDt2, v_minDt, v_maxDt, pw_10_9, pw_10_18, pw_10_30, pw_10_12, pw_10_20, pw_10_6, pw_shl, initE, bnd_some, List.getElem?_cons_zero, List.getElem?_cons_succ, List.set_cons_zero, List.set_cons_succ, List.map_cons, List.map_nil, List.length_cons, List.length_nil, List.cons_append, List.nil_append, List.replicate, Nat.reduceAdd, Nat.reduceSub, Nat.reduceLT, Nat.reduceLeDiff, Nat.zero_add, if_true, Bool.false_eq_true, if_false, reduceCtorEq, sizeLine_eq, lBody_eq, lElt_eq, lCnd_eq, List.take_succ_cons, List.take_zero, Int.natCast_zero, Nat.max_def, List.any_cons, List.any_nil, Bool.or_false, Bool.false_or, Bool.and_false, Bool.false_and, Bool.or_true, Bool.true_or, Bool.true_and, Bool.and_true, eq_self, ne_eq, not_true, not_false_eq_true, beq_self_eq_true, Int.lt_irrefl, Int.reduceLT, Int.reduceLE, Int.reduceEq, Bool.true_beq, Bool.false_beq, decide_true, decide_false, Bool.not_true, Bool.not_false]
          exact ⟨ls, ds ++ [_], _, _, _, rfl, rfl, hll, by rw [List.length_append, List.length_cons, List.length_nil]; omega⟩
      · simp only [df_law_draws, hln, hpm, hca, hla, m4, at_nat, c1, hdl, m2, m3, hlN, e_var, e_cst, e_bop, e_neg, e_not, e_boo, e_cmp, e_chain, e_ite, e_call, e_bi, e_isi, e_ix, e_sl, e_tup, e_lst, e_comp, e_meth, es_nil, es_cons, bv_one, bv_cons, bt_one, bt_cons, o_none, o_some, c_none, c_some, t_var, t_not, t_boo, t_cmp, t_chain, t_call, t_isi, t_ix, i_val, i_rng1, i_rng2, g_name, g_tup, g_sub, gs_nil, gs_cons, s_asg, s_par, s_aug, s_expr, s_iff, s_for, s_ret, s_retN, s_brk, s_cont, s_pass, ss_nil, ss_cons, leave_next, leave_d, take_all, v_getV, v_bop2, v_bop, v_neg, v_not, v_cmp2, v_cmp, v_bT, v_bV, v_chV3, v_chV2t, v_chV2f, v_chV1, v_chV, v_iteT, v_iteF, v_call, v_bi, v_isi, v_ix2, v_ix, v_sl3, v_sl2, v_sl, v_tup2, v_tup, v_lst, v_asgn, v_comp, v_meth2, v_meth, v_es2, v_es, v_BVt, v_BVtf, v_BVf, v_BVft, v_BTt, v_BTtf, v_BTf, v_BTft, v_O, v_tru, v_cmpT2, v_cmpT, v_chT3, v_chT2t, v_chT2f, v_chT1, v_chT, v_notT, v_isiT, v_pW, v_itV, v_R1, v_R2b, v_R2, v_asgSeq, v_setIx, v_setIx2, v_sub3, v_sub2, v_sub, v_Ts, v_asg2, v_asg, v_par2, v_par, v_augO, v_aug, v_augV, v_augA, v_augS, v_exp, v_ifT, v_ifF, v_for, v_ret, v_sqN, v_sqR, v_sqB, v_sqC, v_callT, v_ixT2, v_ixT, v_seqL, v_seqT, v_seqW, v_seqC, v_liveW, v_liveC, v_toD, v_toDc, v_frC, v_toDs0, v_toDs, v_Ds, v_Ds2, v_newF, v_newT, v_add, v_subI, v_catT, v_catLL, v_eqI, v_neI, v_eqB, v_neB, v_lt, v_le, v_gt, v_ge, v_is, v_isnot, v_nonN, v_nonI, v_nonB, v_nonT, v_nonL, v_nonC, v_truN, v_truB, v_ixO, v_ixS, v_ixTu, v_ixL, v_ixC, v_at0, v_at1, v_at2, v_at3, v_at4, v_at5, v_at6, v_at7, v_lenO, v_lenS, v_lenL, v_lenT, v_lenC, v_intI, v_intB, v_abs, v_max2, v_min2, v_gcd, v_listL, v_listT, v_listO, v_listC, v_tupleL, v_tupleT, v_tupO, v_tupleC, v_slS, v_slL, v_slT, v_itS, v_itL, v_itT, v_itW, v_itC, v_append, v_app, v_appO, v_pop, v_popO, v_popAt, v_reverse, v_revO, v_isiI, v_isiB, v_isiL, v_isiTu, v_isiS, v_isiN, v_isiC, v_Fb, v_FlN, v_FlC, v_FlB, v_FlR, v_Cl4, v_Cl3, v_Cl2, v_Cl1t, v_Cl1f, v_Cl0, v_encS, v_ptS, v_encI, v_ptI, v_eqE, v_neE, v_eqP, v_neP, v_nonE, v_nonP, v_mulS, v_setC0, v_DC, v_seqDC, v_DCxs, v_mxS, v_mxI, v_sgS, v_sgI, v_setC1, v_setC2, v_setC3, leave_c02, v_frmI, v_dtS, v_dtI, v_eqDt, v_neDt, v_neDt2, v_minDt, v_maxDt, pw_10_9, pw_10_18, pw_10_30, pw_10_12, pw_10_20, pw_10_6, pw_shl, initE, bnd_some, List.getElem?_cons_zero, List.getElem?_cons_succ, List.set_cons_zero, List.set_cons_succ, List.map_cons, List.map_nil, List.length_cons, List.length_nil, List.cons_append, List.nil_append, List.replicate, Nat.reduceAdd, Nat.reduceSub, Nat.reduceLT, Nat.reduceLeDiff, Nat.zero_add, if_true, Bool.false_eq_true, if_false, reduceCtorEq, sizeLine_eq, lBody_eq, lElt_eq, lCnd_eq, List.take_succ_cons, List.take_zero, Int.natCast_zero, Nat.max_def, List.any_cons, List.any_nil, Bool.or_false, Bool.false_or, Bool.and_false, Bool.false_and, Bool.or_true, Bool.true_or, Bool.true_and, Bool.and_true, eq_self, ne_eq, not_true, not_false_eq_true, beq_self_eq_true, Int.lt_irrefl, Int.reduceLT, Int.reduceLE, Int.reduceEq, Bool.true_beq, Bool.false_beq, decide_true, decide_false, Bool.not_true, Bool.not_false]
        exact ⟨ls, ds ++ [_], _, _, _, rfl, rfl, hll, by rw [List.length_append, List.length_cons, List.length_nil]; omega⟩)
    (by
      rintro e μ ⟨ls, ds, v5, v6, v8, rfl, rfl, -, -⟩
      exact ⟨ls, ds, v5, v6, v8, rfl, rfl⟩)
  refine ⟨ds.reverse, ?_⟩
  simp only [df_law_draws] at he
  rw [he]
  simp only [e_var, e_cst, e_bop, e_neg, e_not, e_boo, e_cmp, e_chain, e_ite, e_call, e_bi, e_isi, e_ix, e_sl, e_tup, e_lst, e_comp, e_meth, es_nil, es_cons, bv_one, bv_cons, bt_one, bt_cons, o_none, o_some, c_none, c_some, t_var, t_not, t_boo, t_cmp, t_chain, t_call, t_isi, t_ix, i_val, i_rng1, i_rng2, g_name, g_tup, g_sub, gs_nil, gs_cons, s_asg, s_par, s_aug, s_expr, s_iff, s_for, s_ret, s_retN, s_brk, s_cont, s_pass, ss_nil, ss_cons, leave_next, leave_d, take_all, v_getV, v_bop2, v_bop, v_neg, v_not, v_cmp2, v_cmp, v_bT, v_bV, v_chV3, v_chV2t, v_chV2f, v_chV1, v_chV, v_iteT, v_iteF, v_call, v_bi, v_isi, v_ix2, v_ix, v_sl3, v_sl2, v_sl, v_tup2, v_tup, v_lst, v_asgn, v_comp, v_meth2, v_meth, v_es2, v_es, v_BVt, v_BVtf, v_BVf, v_BVft, v_BTt, v_BTtf, v_BTf, v_BTft, v_O, v_tru, v_cmpT2, v_cmpT, v_chT3, v_chT2t, v_chT2f, v_chT1, v_chT, v_notT, v_isiT, v_pW, v_itV, v_R1, v_R2b, v_R2, v_asgSeq, v_setIx, v_setIx2, v_sub3, v_sub2, v_sub, v_Ts, v_asg2, v_asg, v_par2, v_par, v_augO, v_aug, v_augV, v_augA, v_augS, v_exp, v_ifT, v_ifF, v_for, v_ret, v_sqN, v_sqR, v_sqB, v_sqC, v_callT, v_ixT2, v_ixT, v_seqL, v_seqT, v_seqW, v_seqC, v_liveW, v_liveC, v_toD, v_toDc, v_frC, v_toDs0, v_toDs, v_Ds, v_Ds2, v_newF, v_newT, v_add, v_subI, v_catT, v_catLL, v_eqI, v_neI, v_eqB, v_neB, v_lt, v_le, v_gt, v_ge, v_is, v_isnot, v_nonN, v_nonI, v_nonB, v_nonT, v_nonL, v_nonC, v_truN, v_truB, v_ixO, v_ixS, v_ixTu, v_ixL, v_ixC, v_at0, v_at1, v_at2, v_at3, v_at4, v_at5, v_at6, v_at7, v_lenO, v_lenS, v_lenL, v_lenT, v_lenC, v_intI, v_intB, v_abs, v_max2, v_min2, v_gcd, v_listL, v_listT, v_listO, v_listC, v_tupleL, v_tupleT, v_tupO, v_tupleC, v_slS, v_slL, v_slT, v_itS, v_itL, v_itT, v_itW, v_itC, v_append, v_app, v_appO, v_pop, v_popO, v_popAt, v_reverse, v_revO, v_isiI, v_isiB, v_isiL, v_isiTu, v_isiS, v_isiN, v_isiC, v_Fb, v_FlN, v_FlC, v_FlB, v_FlR, v_Cl4, v_Cl3, v_Cl2, v_Cl1t, v_Cl1f, v_Cl0, v_encS, v_ptS, v_encI, v_ptI, v_eqE, v_neE, v_eqP, v_neP, v_nonE, v_nonP, v_mulS, v_setC0, v_DC, v_seqDC, v_DCxs, v_mxS, v_mxI, v_sgS, v_sgI, v_setC1, v_setC2, v_setC3, leave_c02, v_frmI, v_dtS, v_dtI, v_eqDt, v_neDt, v_neDt2, v_minDt, v_maxDt, pw_10_9, pw_10_18, pw_10_30, pw_10_12, pw_10_20, pw_10_6, pw_shl, initE, bnd_some, List.getElem?_cons_zero, List.getElem?_cons_succ, List.set_cons_zero, List.set_cons_succ, List.map_cons, List.map_nil, List.length_cons, List.length_nil, List.cons_append, List.nil_append, List.replicate, Nat.reduceAdd, Nat.reduceSub, Nat.reduceLT, Nat.reduceLeDiff, Nat.zero_add, if_true, Bool.false_eq_true, if_false, reduceCtorEq, sizeLine_eq, lBody_eq, lElt_eq, lCnd_eq, List.take_succ_cons, List.take_zero, Int.natCast_zero, Nat.max_def, List.any_cons, List.any_nil, Bool.or_false, Bool.false_or, Bool.and_false, Bool.false_and, Bool.or_true, Bool.true_or, Bool.true_and, Bool.and_true, eq_self, ne_eq, not_true, not_false_eq_true, beq_self_eq_true, Int.lt_irrefl, Int.reduceLT, Int.reduceLE, Int.reduceEq, Bool.true_beq, Bool.false_beq, decide_true, decide_false, Bool.not_true, Bool.not_false]
  rw [← List.map_reverse]; rfl
theorem draws_ex (k : Nat) (ns : List Int) (hn : ns.length ≤ 63) (m : Int) (hm0 : 0 ≤ m) (hm : m ≤ 1000) : ∃ xs, evF T (k+1) 9 [.s ns, .d (.int m)] [] = some (.c 0, [DC xs]) := by
  have hcl := cut_len ns hn
  have e1 : newL false ((cutD ns none (some 63)).map PyData.int) [] = some (.d (.list ((cutD ns none (some 63)).map PyData.int)), []) := v_newF _ (by rw [List.length_map, sizeLine_eq]; omega)
  have pz : (2 ^ 7200 : Int) ≠ 0 := Int.pow_ne_zero (by decide)
  have m1 := fun (l : Bool) (i : Int) (μ : MH) => @v_mod μ l i (2 ^ 7200) pz
  have e2 := fun (all : List D) => compL_map (asg := lAsg (evF T k) (.name 7)) (cond := lCnd (evF T k) .none) (elt := lElt (evF T k) (.bop false .mod (.bi .int false (.cons (.var 7) .nil)) (.bop false .shl (.cst (.int 1)) (.cst (.int 7200))))) (all := all) (env := [some (.s ns), some (.d (.int m)), none, none, none, none, none, none, none]) (μ := [])
    (f := mdF 7200) (xs := (cutD ns none (some 63)).map PyData.int) (by
      intro x hx
      obtain ⟨i, -, rfl⟩ := List.mem_map.mp hx
      refine ⟨_, by simp only [e_var, e_cst, e_bop, e_neg, e_not, e_boo, e_cmp, e_chain, e_ite, e_call, e_bi, e_isi, e_ix, e_sl, e_tup, e_lst, e_comp, e_meth, es_nil, es_cons, bv_one, bv_cons, bt_one, bt_cons, o_none, o_some, c_none, c_some, t_var, t_not, t_boo, t_cmp, t_chain, t_call, t_isi, t_ix, i_val, i_rng1, i_rng2, g_name, g_tup, g_sub, gs_nil, gs_cons, s_asg, s_par, s_aug, s_expr, s_iff, s_for, s_ret, s_retN, s_brk, s_cont, s_pass, ss_nil, ss_cons, leave_next, leave_d, take_all, v_getV, v_bop2, v_bop, v_neg, v_not, v_cmp2, v_cmp, v_bT, v_bV, v_chV3, v_chV2t, v_chV2f, v_chV1, v_chV, v_iteT, v_iteF, v_call, v_bi, v_isi, v_ix2, v_ix, v_sl3, v_sl2, v_sl, v_tup2, v_tup, v_lst, v_asgn, v_comp, v_meth2, v_meth, v_es2, v_es, v_BVt, v_BVtf, v_BVf, v_BVft, v_BTt, v_BTtf, v_BTf, v_BTft, v_O, v_tru, v_cmpT2, v_cmpT, v_chT3, v_chT2t, v_chT2f, v_chT1, v_chT, v_notT, v_isiT, v_pW, v_itV, v_R1, v_R2b, v_R2, v_asgSeq, v_setIx, v_setIx2, v_sub3, v_sub2, v_sub, v_Ts, v_asg2, v_asg, v_par2, v_par, v_augO, v_aug, v_augV, v_augA, v_augS, v_exp, v_ifT, v_ifF, v_for, v_ret, v_sqN, v_sqR, v_sqB, v_sqC, v_callT, v_ixT2, v_ixT, v_seqL, v_seqT, v_seqW, v_seqC, v_liveW, v_liveC, v_toD, v_toDc, v_frC, v_toDs0, v_toDs, v_Ds, v_Ds2, v_newF, v_newT, v_add, v_subI, v_catT, v_catLL, v_eqI, v_neI, v_eqB, v_neB, v_lt, v_le, v_gt, v_ge, v_is, v_isnot, v_nonN, v_nonI, v_nonB, v_nonT, v_nonL, v_nonC, v_truN, v_truB, v_ixO, v_ixS, v_ixTu, v_ixL, v_ixC, v_at0, v_at1, v_at2, v_at3, v_at4, v_at5, v_at6, v_at7, v_lenO, v_lenS, v_lenL, v_lenT, v_lenC, v_intI, v_intB, v_abs, v_max2, v_min2, v_gcd, v_listL, v_listT, v_listO, v_listC, v_tupleL, v_tupleT, v_tupO, v_tupleC, v_slS, v_slL, v_slT, v_itS, v_itL, v_itT, v_itW, v_itC, v_append, v_app, v_appO, v_pop, v_popO, v_popAt, v_reverse, v_revO, v_isiI, v_isiB, v_isiL, v_isiTu, v_isiS, v_isiN, v_isiC, v_Fb, v_FlN, v_FlC, v_FlB, v_FlR, v_Cl4, v_Cl3, v_Cl2, v_Cl1t, v_Cl1f, v_Cl0, v_encS, v_ptS, v_encI, v_ptI, v_eqE, v_neE, v_eqP, v_neP, v_nonE, v_nonP, v_mulS, v_setC0, v_DC, v_seqDC, v_DCxs, v_mxS, v_mxI, v_sgS, v_sgI, v_setC1, v_setC2, v_setC3, leave_c02, v_frmI, v_dtS, v_dtI, v_eqDt, v_neDt, v_neDt2, v_minDt, v_maxDt, pw_10_9, pw_10_18, pw_10_30, pw_10_12, pw_10_20, pw_10_6, pw_shl, initE, bnd_some, List.getElem?_cons_zero, List.getElem?_cons_succ, List.set_cons_zero, List.set_cons_succ, List.map_cons, List.map_nil, List.length_cons, List.length_nil, List.cons_append, List.nil_append, List.replicate, Nat.reduceAdd, Nat.reduceSub, Nat.reduceLT, Nat.reduceLeDiff, Nat.zero_add, if_true, Bool.false_eq_true, if_false, reduceCtorEq, sizeLine_eq, lBody_eq, lElt_eq, lCnd_eq, List.take_succ_cons, List.take_zero, Int.natCast_zero, Nat.max_def, List.any_cons, List.any_nil, Bool.or_false, Bool.false_or, Bool.and_false, Bool.false_and, Bool.or_true, Bool.true_or, Bool.true_and, Bool.and_true, eq_self, ne_eq, not_true, not_false_eq_true, beq_self_eq_true, Int.lt_irrefl, Int.reduceLT, Int.reduceLE, Int.reduceEq, Bool.true_beq, Bool.false_beq, decide_true, decide_false, Bool.not_true, Bool.not_false]; rfl, by simp only [e_var, e_cst, e_bop, e_neg, e_not, e_boo, e_cmp, e_chain, e_ite, e_call, e_bi, e_isi, e_ix, e_sl, e_tup, e_lst, e_comp, e_meth, es_nil, es_cons, bv_one, bv_cons, bt_one, bt_cons, o_none, o_some, c_none, c_some, t_var, t_not, t_boo, t_cmp, t_chain, t_call, t_isi, t_ix, i_val, i_rng1, i_rng2, g_name, g_tup, g_sub, gs_nil, gs_cons, s_asg, s_par, s_aug, s_expr, s_iff, s_for, s_ret, s_retN, s_brk, s_cont, s_pass, ss_nil, ss_cons, leave_next, leave_d, take_all, v_getV, v_bop2, v_bop, v_neg, v_not, v_cmp2, v_cmp, v_bT, v_bV, v_chV3, v_chV2t, v_chV2f, v_chV1, v_chV, v_iteT, v_iteF, v_call, v_bi, v_isi, v_ix2, v_ix, v_sl3, v_sl2, v_sl, v_tup2, v_tup, v_lst, v_asgn, v_comp, v_meth2, v_meth, v_es2, v_es, v_BVt, v_BVtf, v_BVf, v_BVft, v_BTt, v_BTtf, v_BTf, v_BTft, v_O, v_tru, v_cmpT2, v_cmpT, v_chT3, v_chT2t, v_chT2f, v_chT1, v_chT, v_notT, v_isiT, v_pW, v_itV, v_R1, v_R2b, v_R2, v_asgSeq, v_setIx, v_setIx2, v_sub3, v_sub2, v_sub, v_Ts, v_asg2, v_asg, v_par2, v_par, v_augO, v_aug, v_augV, v_augA, v_augS, v_exp, v_ifT, v_ifF, v_for, v_ret, v_sqN, v_sqR, v_sqB, v_sqC, v_callT, v_ixT2, v_ixT, v_seqL, v_seqT, v_seqW, v_seqC, v_liveW, v_liveC, v_toD, v_toDc, v_frC, v_toDs0, v_toDs, v_Ds, v_Ds2, v_newF, v_newT, v_add, v_subI, v_catT, v_catLL, v_eqI, v_neI, v_eqB, v_neB, v_lt, v_le, v_gt, v_ge, v_is, v_isnot, v_nonN, v_nonI, v_nonB, v_nonT, v_nonL, v_nonC, v_truN, v_truB, v_ixO, v_ixS, v_ixTu, v_ixL, v_ixC, v_at0, v_at1, v_at2, v_at3, v_at4, v_at5, v_at6, v_at7, v_lenO, v_lenS, v_lenL, v_lenT, v_lenC, v_intI, v_intB, v_abs, v_max2, v_min2, v_gcd, v_listL, v_listT, v_listO, v_listC, v_tupleL, v_tupleT, v_tupO, v_tupleC, v_slS, v_slL, v_slT, v_itS, v_itL, v_itT, v_itW, v_itC, v_append, v_app, v_appO, v_pop, v_popO, v_popAt, v_reverse, v_revO, v_isiI, v_isiB, v_isiL, v_isiTu, v_isiS, v_isiN, v_isiC, v_Fb, v_FlN, v_FlC, v_FlB, v_FlR, v_Cl4, v_Cl3, v_Cl2, v_Cl1t, v_Cl1f, v_Cl0, v_encS, v_ptS, v_encI, v_ptI, v_eqE, v_neE, v_eqP, v_neP, v_nonE, v_nonP, v_mulS, v_setC0, v_DC, v_seqDC, v_DCxs, v_mxS, v_mxI, v_sgS, v_sgI, v_setC1, v_setC2, v_setC3, leave_c02, v_frmI, v_dtS, v_dtI, v_eqDt, v_neDt, v_neDt2, v_minDt, v_maxDt, pw_10_9, pw_10_18, pw_10_30, pw_10_12, pw_10_20, pw_10_6, pw_shl, initE, bnd_some, List.getElem?_cons_zero, List.getElem?_cons_succ, List.set_cons_zero, List.set_cons_succ, List.map_cons, List.map_nil, List.length_cons, List.length_nil, List.cons_append, List.nil_append, List.replicate, Nat.reduceAdd, Nat.reduceSub, Nat.reduceLT, Nat.reduceLeDiff, Nat.zero_add, if_true, Bool.false_eq_true, if_false, reduceCtorEq, sizeLine_eq, lBody_eq, lElt_eq, lCnd_eq, List.take_succ_cons, List.take_zero, Int.natCast_zero, Nat.max_def, List.any_cons, List.any_nil, Bool.or_false, Bool.false_or, Bool.and_false, Bool.false_and, Bool.or_true, Bool.true_or, Bool.true_and, Bool.and_true, eq_self, ne_eq, not_true, not_false_eq_true, beq_self_eq_true, Int.lt_irrefl, Int.reduceLT, Int.reduceLE, Int.reduceEq, Bool.true_beq, Bool.false_beq, decide_true, decide_false, Bool.not_true, Bool.not_false], ?_⟩
      simp only [m1, e_var, e_cst, e_bop, e_neg, e_not, e_boo, e_cmp, e_chain, e_ite, e_call, e_bi, e_isi, e_ix, e_sl, e_tup, e_lst, e_comp, e_meth, es_nil, es_cons, bv_one, bv_cons, bt_one, bt_cons, o_none, o_some, c_none, c_some, t_var, t_not, t_boo, t_cmp, t_chain, t_call, t_isi, t_ix, i_val, i_rng1, i_rng2, g_name, g_tup, g_sub, gs_nil, gs_cons, s_asg, s_par, s_aug, s_expr, s_iff, s_for, s_ret, s_retN, s_brk, s_cont, s_pass, ss_nil, ss_cons, leave_next, leave_d, take_all, v_getV, v_bop2, v_bop, v_neg, v_not, v_cmp2, v_cmp, v_bT, v_bV, v_chV3, v_chV2t, v_chV2f, v_chV1, v_chV, v_iteT, v_iteF, v_call, v_bi, v_isi, v_ix2, v_ix, v_sl3, v_sl2, v_sl, v_tup2, v_tup, v_lst, v_asgn, v_comp, v_meth2, v_meth, v_es2, v_es, v_BVt, v_BVtf, v_BVf, v_BVft, v_BTt, v_BTtf, v_BTf, v_BTft, v_O, v_tru, v_cmpT2, v_cmpT, v_chT3, v_chT2t, v_chT2f, v_chT1, v_chT, v_notT, v_isiT, v_pW, v_itV, v_R1, v_R2b, v_R2, v_asgSeq, v_setIx, v_setIx2, v_sub3, v_sub2, v_sub, v_Ts, v_asg2, v_asg, v_par2, v_par, v_augO, v_aug, v_augV, v_augA, v_augS, v_exp, v_ifT, v_ifF, v_for, v_ret, v_sqN, v_sqR, v_sqB, v_sqC, v_callT, v_ixT2, v_ixT, v_seqL, v_seqT, v_seqW, v_seqC, v_liveW, v_liveC, v_toD, v_toDc, v_frC, v_toDs0, v_toDs, v_Ds, v_Ds2, v_newF, v_newT, v_add, v_subI, v_catT, v_catLL, v_eqI, v_neI, v_eqB, v_neB, v_lt, v_le, v_gt, v_ge, v_is, v_isnot, v_nonN, v_nonI, v_nonB, v_nonT, v_nonL, v_nonC, v_truN, v_truB, v_ixO, v_ixS, v_ixTu, v_ixL, v_ixC, v_at0, v_at1, v_at2, v_at3, v_at4, v_at5, v_at6, v_at7, v_lenO, v_lenS, v_lenL, v_lenT, v_lenC, v_intI, v_intB, v_abs, v_max2, v_min2, v_gcd, v_listL, v_listT, v_listO, v_listC, v_tupleL, v_tupleT, v_tupO, v_tupleC, v_slS, v_slL, v_slT, v_itS, v_itL, v_itT, v_itW, v_itC, v_append, v_app, v_appO, v_pop, v_popO, v_popAt, v_reverse, v_revO, v_isiI, v_isiB, v_isiL, v_isiTu, v_isiS, v_isiN, v_isiC, v_Fb, v_FlN, v_FlC, v_FlB, v_FlR, v_Cl4, v_Cl3, v_Cl2, v_Cl1t, v_Cl1f, v_Cl0, v_encS, v_ptS, v_encI, v_ptI, v_eqE, v_neE, v_eqP, v_neP, v_nonE, v_nonP, v_mulS, v_setC0, v_DC, v_seqDC, v_DCxs, v_mxS, v_mxI, v_sgS, v_sgI, v_setC1, v_setC2, v_setC3, leave_c02, v_frmI, v_dtS, v_dtI, v_eqDt, v_neDt, v_neDt2, v_minDt, v_maxDt, pw_10_9, pw_10_18, pw_10_30, pw_10_12, pw_10_20, pw_10_6, pw_shl, initE, bnd_some, List.getElem?_cons_zero, List.getElem?_cons_succ, List.set_cons_zero, List.set_cons_succ, List.map_cons, List.map_nil, List.length_cons, List.length_nil, List.cons_append, List.nil_append, List.replicate, Nat.reduceAdd, Nat.reduceSub, Nat.reduceLT, Nat.reduceLeDiff, Nat.zero_add, if_true, Bool.false_eq_true, if_false, reduceCtorEq, sizeLine_eq, lBody_eq, lElt_eq, lCnd_eq, List.take_succ_cons, List.take_zero, Int.natCast_zero, Nat.max_def, List.any_cons, List.any_nil, Bool.or_false, Bool.false_or, Bool.and_false, Bool.false_and, Bool.or_true, Bool.true_or, Bool.true_and, Bool.and_true, eq_self, ne_eq, not_true, not_false_eq_true, beq_self_eq_true, Int.lt_irrefl, Int.reduceLT, Int.reduceLE, Int.reduceEq, Bool.true_beq, Bool.false_beq, decide_true, decide_false, Bool.not_true, Bool.not_false]; rfl)
  have hsz : ∀ x ∈ (cutD ns none (some 63)).map (fun i => i.fmod (2 ^ 7200)), Sz x 7200 := by
    intro x hx
    obtain ⟨i, -, rfl⟩ := List.mem_map.mp hx
    exact sz_fmod i 7200
  simp only [mdF_map] at e2
  have hl2 : ((cutD ns none (some 63)).map fun i => i.fmod (2 ^ 7200)).length ≤ 63 := by rw [List.length_map]; exact hcl
  generalize ((cutD ns none (some 63)).map fun i => i.fmod (2 ^ 7200)) = cs at *
  have e3 : ∀ (xs : List Int) (ν : MH), xs.length ≤ 64 → newL true (xs.map PyData.int) ν = some (.c ν.length, ν ++ [DC xs]) := fun xs ν h => v_newT _ (by rw [List.length_map, sizeLine_eq]; omega)
  have e4 : ∀ (ν : MH), newL true [] ν = some (.c ν.length, ν ++ [DC []]) := fun ν => e3 [] ν (by simp)
  by_cases h0 : cs = []
  · subst h0
    obtain ⟨xs, hx⟩ := draws_loop k ns [0] [0] m hm0 hm (by decide) rfl (by intro x hx; simp at hx; subst hx; exact ⟨by decide⟩)
    refine ⟨xs, ?_⟩
    rw [← hx]
    have e6 : ∀ ν : MH, appO 0 (.int 0) ν (some (0, [])) = some (.d .none, setC 0 [.int 0] ν) := fun ν => rfl
    have c1 : newL true [] [] = some (.c 0, [DC []]) := rfl
    have c2 : newL true [.int 0] [DC [0]] = some (.c 1, [DC [0], DC [0]]) := rfl
    have c3 : newL true [] [DC [0], DC [0]] = some (.c 2, [DC [0], DC [0], DC []]) := rfl
    have c4 : ∀ ν : MH, setC 0 [.int 0] (DC [] :: ν) = DC [0] :: ν := fun ν => rfl
    have c5 : ([0] : List Int).map PyData.int = [.int 0] := rfl
    rw [evF_run T_9 rfl]
    simp only [df_law_draws, e1, wipeE, e2, c1, c2, c3, c4, c5, e6, e_var, e_cst, e_bop, e_neg, e_not, e_boo, e_cmp, e_chain, e_ite, e_call, e_bi, e_isi, e_ix, e_sl, e_tup, e_lst, e_comp, e_meth, es_nil, es_cons, bv_one, bv_cons, bt_one, bt_cons, o_none, o_some, c_none, c_some, t_var, t_not, t_boo, t_cmp, t_chain, t_call, t_isi, t_ix, i_val, i_rng1, i_rng2, g_name, g_tup, g_sub, gs_nil, gs_cons, s_asg, s_par, s_aug, s_expr, s_iff, s_for, s_ret, s_retN, s_brk, s_cont, s_pass, ss_nil, ss_cons, leave_next, leave_d, take_all, v_getV, v_bop2, v_bop, v_neg, v_not, v_cmp2, v_cmp, v_bT, v_bV, v_chV3, v_chV2t, v_chV2f, v_chV1, v_chV, v_iteT, v_iteF, v_call, v_bi, v_isi, v_ix2, v_ix, v_sl3, v_sl2, v_sl, v_tup2, v_tup, v_lst, v_asgn, v_comp, v_meth2, v_meth, v_es2, v_es, v_BVt, v_BVtf, v_BVf, v_BVft, v_BTt, v_BTtf, v_BTf, v_BTft, v_O, v_tru, v_cmpT2, v_cmpT, v_chT3, v_chT2t, v_chT2f, v_chT1, v_chT, v_notT, v_isiT, v_pW, v_itV, v_R1, v_R2b, v_R2, v_asgSeq, v_setIx, v_setIx2, v_sub3, v_sub2, v_sub, v_Ts, v_asg2, v_asg, v_par2, v_par, v_augO, v_aug, v_augV, v_augA, v_augS, v_exp, v_ifT, v_ifF, v_for, v_ret, v_sqN, v_sqR, v_sqB, v_sqC, v_callT, v_ixT2, v_ixT, v_seqL, v_seqT, v_seqW, v_seqC, v_liveW, v_liveC, v_toD, v_toDc, v_frC, v_toDs0, v_toDs, v_Ds, v_Ds2, v_newF, v_newT, v_add, v_subI, v_catT, v_catLL, v_eqI, v_neI, v_eqB, v_neB, v_lt, v_le, v_gt, v_ge, v_is, v_isnot, v_nonN, v_nonI, v_nonB, v_nonT, v_nonL, v_nonC, v_truN, v_truB, v_ixO, v_ixS, v_ixTu, v_ixL, v_ixC, v_at0, v_at1, v_at2, v_at3, v_at4, v_at5, v_at6, v_at7, v_lenO, v_lenS, v_lenL, v_lenT, v_lenC, v_intI, v_intB, v_abs, v_max2, v_min2, v_gcd, v_listL, v_listT, v_listO, v_listC, v_tupleL, v_tupleT, v_tupO, v_tupleC, v_slS, v_slL, v_slT, v_itS, v_itL, v_itT, v_itW, v_itC, v_append, v_app, v_appO, v_pop, v_popO, v_popAt, v_reverse, v_revO, v_isiI, v_isiB, v_isiL, v_isiTu, v_isiS, v_isiN, v_isiC, v_Fb, v_FlN, v_FlC, v_FlB, v_FlR, v_Cl4, v_Cl3, v_Cl2, v_Cl1t, v_Cl1f, v_Cl0, v_encS, v_ptS, v_encI, v_ptI, v_eqE, v_neE, v_eqP, v_neP, v_nonE, v_nonP, v_mulS, v_setC0, v_DC, v_seqDC, v_DCxs, v_mxS, v_mxI, v_sgS, v_sgI, v_setC1, v_setC2, v_setC3, leave_c02, v_frmI, v_dtS, v_dtI, v_eqDt, v_neDt, v_neDt2, v_minDt, v_maxDt, pw_10_9, pw_10_18, pw_10_30, pw_10_12, pw_10_20, pw_10_6, pw_shl, initE, bnd_some, List.getElem?_cons_zero, List.getElem?_cons_succ, List.set_cons_zero, List.set_cons_succ, List.map_cons, List.map_nil, List.length_cons, List.length_nil, List.cons_append, List.nil_append, List.replicate, Nat.reduceAdd, Nat.reduceSub, Nat.reduceLT, Nat.reduceLeDiff, Nat.zero_add, if_true, Bool.false_eq_true, if_false, reduceCtorEq, sizeLine_eq, lBody_eq, lElt_eq, lCnd_eq, List.take_succ_cons, List.take_zero, Int.natCast_zero, Nat.max_def, List.any_cons, List.any_nil, Bool.or_false, Bool.false_or, Bool.and_false, Bool.false_and, Bool.or_true, Bool.true_or, Bool.true_and, Bool.and_true, eq_self, ne_eq, not_true, not_false_eq_true, beq_self_eq_true, Int.lt_irrefl, Int.reduceLT, Int.reduceLE, Int.reduceEq, Bool.true_beq, Bool.false_beq, decide_true, decide_false, Bool.not_true, Bool.not_false]
  · have hp : 0 < cs.length := List.length_pos_iff.mpr h0
    obtain ⟨xs, hx⟩ := draws_loop k ns cs cs m hm0 hm hp rfl hsz
    refine ⟨xs, ?_⟩
    rw [← hx]
    have c1 := e3 cs [] (by omega)
    have c2 := e3 cs [DC cs] (by omega)
    have c3 := e3 [] [DC cs, DC cs] (by decide)
    simp only [List.map_nil, List.length_cons, List.length_nil, List.nil_append, List.cons_append] at c1 c3 c2
    have hnz : ¬ (((cs.map PyData.int).length : Nat) : Int) = 0 := by rw [List.length_map]; omega
    rw [evF_run T_9 rfl]
    simp only [df_law_draws, e1, wipeE, e2, c1, c2, c3, hnz, e_var, e_cst, e_bop, e_neg, e_not, e_boo, e_cmp, e_chain, e_ite, e_call, e_bi, e_isi, e_ix, e_sl, e_tup, e_lst, e_comp, e_meth, es_nil, es_cons, bv_one, bv_cons, bt_one, bt_cons, o_none, o_some, c_none, c_some, t_var, t_not, t_boo, t_cmp, t_chain, t_call, t_isi, t_ix, i_val, i_rng1, i_rng2, g_name, g_tup, g_sub, gs_nil, gs_cons, s_asg, s_par, s_aug, s_expr, s_iff, s_for, s_ret, s_retN, s_brk, s_cont, s_pass, ss_nil, ss_cons, leave_next, leave_d, take_all, v_getV, v_bop2, v_bop, v_neg, v_not, v_cmp2, v_cmp, v_bT, v_bV, v_chV3, v_chV2t, v_chV2f, v_chV1, v_chV, v_iteT, v_iteF, v_call, v_bi, v_isi, v_ix2, v_ix, v_sl3, v_sl2, v_sl, v_tup2, v_tup, v_lst, v_asgn, v_comp, v_meth2, v_meth, v_es2, v_es, v_BVt, v_BVtf, v_BVf, v_BVft, v_BTt, v_BTtf, v_BTf, v_BTft, v_O, v_tru, v_cmpT2, v_cmpT, v_chT3, v_chT2t, v_chT2f, v_chT1, v_chT, v_notT, v_isiT, v_pW, v_itV, v_R1, v_R2b, v_R2, v_asgSeq, v_setIx, v_setIx2, v_sub3, v_sub2, v_sub, v_Ts, v_asg2, v_asg, v_par2, v_par, v_augO, v_aug, v_augV, v_augA, v_augS, v_exp, v_ifT, v_ifF, v_for, v_ret, v_sqN, v_sqR, v_sqB, v_sqC, v_callT, v_ixT2, v_ixT, v_seqL, v_seqT, v_seqW, v_seqC, v_liveW, v_liveC, v_toD, v_toDc, v_frC, v_toDs0, v_toDs, v_Ds, v_Ds2, v_newF, v_newT, v_add, v_subI, v_catT, v_catLL, v_eqI, v_neI, v_eqB, v_neB, v_lt, v_le, v_gt, v_ge, v_is, v_isnot, v_nonN, v_nonI, v_nonB, v_nonT, v_nonL, v_nonC, v_truN, v_truB, v_ixO, v_ixS, v_ixTu, v_ixL, v_ixC, v_at0, v_at1, v_at2, v_at3, v_at4, v_at5, v_at6, v_at7, v_lenO, v_lenS, v_lenL, v_lenT, v_lenC, v_intI, v_intB, v_abs, v_max2, v_min2, v_gcd, v_listL, v_listT, v_listO, v_listC, v_tupleL, v_tupleT, v_tupO, v_tupleC, v_slS, v_slL, v_slT, v_itS, v_itL, v_itT, v_itW, v_itC, v_append, v_app, v_appO, v_pop, v_popO, v_popAt, v_reverse, v_revO, v_isiI, v_isiB, v_isiL, v_isiTu, v_isiS, v_isiN, v_isiC, v_Fb, v_FlN, v_FlC, v_FlB, v_FlR, v_Cl4, v_Cl3, v_Cl2, v_Cl1t, v_Cl1f, v_Cl0, v_encS, v_ptS, v_encI, v_ptI, v_eqE, v_neE, v_eqP, v_neP, v_nonE, v_nonP, v_mulS, v_setC0, v_DC, v_seqDC, v_DCxs, v_mxS, v_mxI, v_sgS, v_sgI, v_setC1, v_setC2, v_setC3, leave_c02, v_frmI, v_dtS, v_dtI, v_eqDt, v_neDt, v_neDt2, v_minDt, v_maxDt, pw_10_9, pw_10_18, pw_10_30, pw_10_12, pw_10_20, pw_10_6, pw_shl, initE, bnd_some, List.getElem?_cons_zero, List.getElem?_cons_succ, List.set_cons_zero, List.set_cons_succ, List.map_cons, List.map_nil, List.length_cons, List.length_nil, List.cons_append, List.nil_append, List.replicate, Nat.reduceAdd, Nat.reduceSub, Nat.reduceLT, Nat.reduceLeDiff, Nat.zero_add, if_true, Bool.false_eq_true, if_false, reduceCtorEq, sizeLine_eq, lBody_eq, lElt_eq, lCnd_eq, List.take_succ_cons, List.take_zero, Int.natCast_zero, Nat.max_def, List.any_cons, List.any_nil, Bool.or_false, Bool.false_or, Bool.and_false, Bool.false_and, Bool.or_true, Bool.true_or, Bool.true_and, Bool.and_true, eq_self, ne_eq, not_true, not_false_eq_true, beq_self_eq_true, Int.lt_irrefl, Int.reduceLT, Int.reduceLE, Int.reduceEq, Bool.true_beq, Bool.false_beq, decide_true, decide_false, Bool.not_true, Bool.not_false]
-- image_of_point
theorem img_eq (k : Nat) (m : Mx) (hm : m.Ok 400) (p : Pt) [SzQ p.1 400] [SzQ p.2 400] (μ : MH) : evF T (k+3) 7 [.d m.D, .d (pt p)] μ = some (.d (pt (m.im p)), μ) := by
  obtain ⟨sa, sb, sc, sd, se, sf⟩ := hm
  have y5 : SzQ (m.a * p.1 + m.b * p.2) 2000 := SzQ.mono (n := 400 + 400 + (400 + 400) + 1) inferInstance (by decide)
  have y6 : SzQ (m.d * p.1 + m.e * p.2) 2000 := SzQ.mono (n := 400 + 400 + (400 + 400) + 1) inferInstance (by decide)
  have y1 : SzQ (m.a * p.1) 2000 := SzQ.mono (n := 400 + 400) inferInstance (by decide)
  have y2 : SzQ (m.b * p.2) 2000 := SzQ.mono (n := 400 + 400) inferInstance (by decide)
  have y3 : SzQ (m.d * p.1) 2000 := SzQ.mono (n := 400 + 400) inferInstance (by decide)
  have y4 : SzQ (m.e * p.2) 2000 := SzQ.mono (n := 400 + 400) inferInstance (by decide)
  have e3 := fun μ => add_eq k (m.a * p.1) (m.b * p.2) μ
  have e4 := fun μ => add_eq k (m.d * p.1) (m.e * p.2) μ
  replace sa := sa.mono (m := 2000) (by decide)
  replace sb := sb.mono (m := 2000) (by decide)
  replace sc := sc.mono (m := 2000) (by decide)
  replace sd := sd.mono (m := 2000) (by decide)
  replace se := se.mono (m := 2000) (by decide)
  replace sf := sf.mono (m := 2000) (by decide)
  have e5 := fun μ => add_eq k (m.a * p.1 + m.b * p.2) m.c μ
  have e6 := fun μ => add_eq k (m.d * p.1 + m.e * p.2) m.f μ
  have p1 : SzQ p.1 2000 := SzQ.mono (n := 400) inferInstance (by decide)
  have p2 : SzQ p.2 2000 := SzQ.mono (n := 400) inferInstance (by decide)
  have e1 := fun μ => multiply_eq k m.a p.1 μ
  have e2 := fun μ => multiply_eq k m.b p.2 μ
  have e7 := fun μ => multiply_eq k m.d p.1 μ
  have e8 := fun μ => multiply_eq k m.e p.2 μ
  rw [evF_run T_7 rfl]; simp only [dp_image_of_point, compL_cons, compL_nil', v_Cl0, v_Cl1t, v_Cl2, v_Cl3, v_Cl4, wipeE, e1, e2, e3, e4, e5, e6, e7, e8, e_var, e_cst, e_bop, e_neg, e_not, e_boo, e_cmp, e_chain, e_ite, e_call, e_bi, e_isi, e_ix, e_sl, e_tup, e_lst, e_comp, e_meth, es_nil, es_cons, bv_one, bv_cons, bt_one, bt_cons, o_none, o_some, c_none, c_some, t_var, t_not, t_boo, t_cmp, t_chain, t_call, t_isi, t_ix, i_val, i_rng1, i_rng2, g_name, g_tup, g_sub, gs_nil, gs_cons, s_asg, s_par, s_aug, s_expr, s_iff, s_for, s_ret, s_retN, s_brk, s_cont, s_pass, ss_nil, ss_cons, leave_next, leave_d, take_all, v_getV, v_bop2, v_bop, v_neg, v_not, v_cmp2, v_cmp, v_bT, v_bV, v_chV3, v_chV2t, v_chV2f, v_chV1, v_chV, v_iteT, v_iteF, v_call, v_bi, v_isi, v_ix2, v_ix, v_sl3, v_sl2, v_sl, v_tup2, v_tup, v_lst, v_asgn, v_comp, v_meth2, v_meth, v_es2, v_es, v_BVt, v_BVtf, v_BVf, v_BVft, v_BTt, v_BTtf, v_BTf, v_BTft, v_O, v_tru, v_cmpT2, v_cmpT, v_chT3, v_chT2t, v_chT2f, v_chT1, v_chT, v_notT, v_isiT, v_pW, v_itV, v_R1, v_R2b, v_R2, v_asgSeq, v_setIx, v_setIx2, v_sub3, v_sub2, v_sub, v_Ts, v_asg2, v_asg, v_par2, v_par, v_augO, v_aug, v_augV, v_augA, v_augS, v_exp, v_ifT, v_ifF, v_for, v_ret, v_sqN, v_sqR, v_sqB, v_sqC, v_callT, v_ixT2, v_ixT, v_seqL, v_seqT, v_seqW, v_seqC, v_liveW, v_liveC, v_toD, v_toDc, v_frC, v_toDs0, v_toDs, v_Ds, v_Ds2, v_newF, v_newT, v_add, v_subI, v_catT, v_catLL, v_eqI, v_neI, v_eqB, v_neB, v_lt, v_le, v_gt, v_ge, v_is, v_isnot, v_nonN, v_nonI, v_nonB, v_nonT, v_nonL, v_nonC, v_truN, v_truB, v_ixO, v_ixS, v_ixTu, v_ixL, v_ixC, v_at0, v_at1, v_at2, v_at3, v_at4, v_at5, v_at6, v_at7, v_lenO, v_lenS, v_lenL, v_lenT, v_lenC, v_intI, v_intB, v_abs, v_max2, v_min2, v_gcd, v_listL, v_listT, v_listO, v_listC, v_tupleL, v_tupleT, v_tupO, v_tupleC, v_slS, v_slL, v_slT, v_itS, v_itL, v_itT, v_itW, v_itC, v_append, v_app, v_appO, v_pop, v_popO, v_popAt, v_reverse, v_revO, v_isiI, v_isiB, v_isiL, v_isiTu, v_isiS, v_isiN, v_isiC, v_Fb, v_FlN, v_FlC, v_FlB, v_FlR, v_Cl4, v_Cl3, v_Cl2, v_Cl1t, v_Cl1f, v_Cl0, v_encS, v_ptS, v_encI, v_ptI, v_eqE, v_neE, v_eqP, v_neP, v_nonE, v_nonP, v_mulS, v_setC0, v_DC, v_seqDC, v_DCxs, v_mxS, v_mxI, v_sgS, v_sgI, v_setC1, v_setC2, v_setC3, leave_c02, v_frmI, v_dtS, v_dtI, v_eqDt, v_neDt, v_neDt2, v_minDt, v_maxDt, pw_10_9, pw_10_18, pw_10_30, pw_10_12, pw_10_20, pw_10_6, pw_shl, initE, bnd_some, List.getElem?_cons_zero, List.getElem?_cons_succ, List.set_cons_zero, List.set_cons_succ, List.map_cons, List.map_nil, List.length_cons, List.length_nil, List.cons_append, List.nil_append, List.replicate, Nat.reduceAdd, Nat.reduceSub, Nat.reduceLT, Nat.reduceLeDiff, Nat.zero_add, if_true, Bool.false_eq_true, if_false, reduceCtorEq, sizeLine_eq, lBody_eq, lElt_eq, lCnd_eq, List.take_succ_cons, List.take_zero, Int.natCast_zero, Nat.max_def, List.any_cons, List.any_nil, Bool.or_false, Bool.false_or, Bool.and_false, Bool.false_and, Bool.or_true, Bool.true_or, Bool.true_and, Bool.and_true, eq_self, ne_eq, not_true, not_false_eq_true, beq_self_eq_true, Int.lt_irrefl, Int.reduceLT, Int.reduceLE, Int.reduceEq, Bool.true_beq, Bool.false_beq, decide_true, decide_false, Bool.not_true, Bool.not_false]
  rfl
-- _law_imaged
theorem imaged_eq (k : Nat) (m : Mx) (hm : m.Ok 400) (p : Pt) [SzQ p.1 400] [SzQ p.2 400] (ν : MH) (xs : List Int) : evF T (k+4) 27 [.d m.D, .d (pt p)] [DC xs] = some (.d (pt (m.im p)), [DC xs]) := by
  obtain ⟨sa, sb, sc, sd, se, sf⟩ := hm
  have y5 : SzQ (m.a * p.1 + m.b * p.2) 2000 := SzQ.mono (n := 400 + 400 + (400 + 400) + 1) inferInstance (by decide)
  have y6 : SzQ (m.d * p.1 + m.e * p.2) 2000 := SzQ.mono (n := 400 + 400 + (400 + 400) + 1) inferInstance (by decide)
  have y1 : SzQ (m.a * p.1) 2000 := SzQ.mono (n := 400 + 400) inferInstance (by decide)
  have y2 : SzQ (m.b * p.2) 2000 := SzQ.mono (n := 400 + 400) inferInstance (by decide)
  have y3 : SzQ (m.d * p.1) 2000 := SzQ.mono (n := 400 + 400) inferInstance (by decide)
  have y4 : SzQ (m.e * p.2) 2000 := SzQ.mono (n := 400 + 400) inferInstance (by decide)
  have e3 := fun μ => plus_eq k (m.a * p.1) (m.b * p.2) μ
  have e4 := fun μ => plus_eq k (m.d * p.1) (m.e * p.2) μ
  replace sa := sa.mono (m := 2000) (by decide)
  replace sb := sb.mono (m := 2000) (by decide)
  replace sc := sc.mono (m := 2000) (by decide)
  replace sd := sd.mono (m := 2000) (by decide)
  replace se := se.mono (m := 2000) (by decide)
  replace sf := sf.mono (m := 2000) (by decide)
  have e5 := fun μ => plus_eq k (m.a * p.1 + m.b * p.2) m.c μ
  have e6 := fun μ => plus_eq k (m.d * p.1 + m.e * p.2) m.f μ
  have p1 : SzQ p.1 2000 := SzQ.mono (n := 400) inferInstance (by decide)
  have p2 : SzQ p.2 2000 := SzQ.mono (n := 400) inferInstance (by decide)
  have e1 := fun μ => product_eq k m.a p.1 μ
  have e2 := fun μ => product_eq k m.b p.2 μ
  have e7 := fun μ => product_eq k m.d p.1 μ
  have e8 := fun μ => product_eq k m.e p.2 μ
  have n1 : newL true [] [DC xs] = some (.c 1, [DC xs, ⟨false, []⟩]) := rfl
  rw [evF_run T_27 rfl]; simp only [df_law_imaged, n1, forL_cons, forL_nil, v_Fb, v_FlN, e1, e2, e3, e4, e5, e6, e7, e8, e_var, e_cst, e_bop, e_neg, e_not, e_boo, e_cmp, e_chain, e_ite, e_call, e_bi, e_isi, e_ix, e_sl, e_tup, e_lst, e_comp, e_meth, es_nil, es_cons, bv_one, bv_cons, bt_one, bt_cons, o_none, o_some, c_none, c_some, t_var, t_not, t_boo, t_cmp, t_chain, t_call, t_isi, t_ix, i_val, i_rng1, i_rng2, g_name, g_tup, g_sub, gs_nil, gs_cons, s_asg, s_par, s_aug, s_expr, s_iff, s_for, s_ret, s_retN, s_brk, s_cont, s_pass, ss_nil, ss_cons, leave_next, leave_d, take_all, v_getV, v_bop2, v_bop, v_neg, v_not, v_cmp2, v_cmp, v_bT, v_bV, v_chV3, v_chV2t, v_chV2f, v_chV1, v_chV, v_iteT, v_iteF, v_call, v_bi, v_isi, v_ix2, v_ix, v_sl3, v_sl2, v_sl, v_tup2, v_tup, v_lst, v_asgn, v_comp, v_meth2, v_meth, v_es2, v_es, v_BVt, v_BVtf, v_BVf, v_BVft, v_BTt, v_BTtf, v_BTf, v_BTft, v_O, v_tru, v_cmpT2, v_cmpT, v_chT3, v_chT2t, v_chT2f, v_chT1, v_chT, v_notT, v_isiT, v_pW, v_itV, v_R1, v_R2b, v_R2, v_asgSeq, v_setIx, v_setIx2, v_sub3, v_sub2, v_sub, v_Ts, v_asg2, v_asg, v_par2, v_par, v_augO, v_aug, v_augV, v_augA, v_augS, v_exp, v_ifT, v_ifF, v_for, v_ret, v_sqN, v_sqR, v_sqB, v_sqC, v_callT, v_ixT2, v_ixT, v_seqL, v_seqT, v_seqW, v_seqC, v_liveW, v_liveC, v_toD, v_toDc, v_frC, v_toDs0, v_toDs, v_Ds, v_Ds2, v_newF, v_newT, v_add, v_subI, v_catT, v_catLL, v_eqI, v_neI, v_eqB, v_neB, v_lt, v_le, v_gt, v_ge, v_is, v_isnot, v_nonN, v_nonI, v_nonB, v_nonT, v_nonL, v_nonC, v_truN, v_truB, v_ixO, v_ixS, v_ixTu, v_ixL, v_ixC, v_at0, v_at1, v_at2, v_at3, v_at4, v_at5, v_at6, v_at7, v_lenO, v_lenS, v_lenL, v_lenT, v_lenC, v_intI, v_intB, v_abs, v_max2, v_min2, v_gcd, v_listL, v_listT, v_listO, v_listC, v_tupleL, v_tupleT, v_tupO, v_tupleC, v_slS, v_slL, v_slT, v_itS, v_itL, v_itT, v_itW, v_itC, v_append, v_app, v_appO, v_pop, v_popO, v_popAt, v_reverse, v_revO, v_isiI, v_isiB, v_isiL, v_isiTu, v_isiS, v_isiN, v_isiC, v_Fb, v_FlN, v_FlC, v_FlB, v_FlR, v_Cl4, v_Cl3, v_Cl2, v_Cl1t, v_Cl1f, v_Cl0, v_encS, v_ptS, v_encI, v_ptI, v_eqE, v_neE, v_eqP, v_neP, v_nonE, v_nonP, v_mulS, v_setC0, v_DC, v_seqDC, v_DCxs, v_mxS, v_mxI, v_sgS, v_sgI, v_setC1, v_setC2, v_setC3, leave_c02, v_frmI, v_dtS, v_dtI, v_eqDt, v_neDt, v_neDt2, v_minDt, v_maxDt, pw_10_9, pw_10_18, pw_10_30, pw_10_12, pw_10_20, pw_10_6, pw_shl, initE, bnd_some, List.getElem?_cons_zero, List.getElem?_cons_succ, List.set_cons_zero, List.set_cons_succ, List.map_cons, List.map_nil, List.length_cons, List.length_nil, List.cons_append, List.nil_append, List.replicate, Nat.reduceAdd, Nat.reduceSub, Nat.reduceLT, Nat.reduceLeDiff, Nat.zero_add, if_true, Bool.false_eq_true, if_false, reduceCtorEq, sizeLine_eq, lBody_eq, lElt_eq, lCnd_eq, List.take_succ_cons, List.take_zero, Int.natCast_zero, Nat.max_def, List.any_cons, List.any_nil, Bool.or_false, Bool.false_or, Bool.and_false, Bool.false_and, Bool.or_true, Bool.true_or, Bool.true_and, Bool.and_true, eq_self, ne_eq, not_true, not_false_eq_true, beq_self_eq_true, Int.lt_irrefl, Int.reduceLT, Int.reduceLE, Int.reduceEq, Bool.true_beq, Bool.false_beq, decide_true, decide_false, Bool.not_true, Bool.not_false]
  rfl
-- _law_ahead
theorem ahead_eq (k : Nat) (p q : Pt) (μ : MH) [SzQ p.1 2000] [SzQ p.2 2000] [SzQ q.1 2000] [SzQ q.2 2000] : evF T (k+2) 19 [.d (pt p), .d (pt q)] μ = some (.d (.bool (bef p q)), μ) := by
  unfold bef
  by_cases h2 : p.1 = q.1
  · have h3 : ¬ q.1 < q.1 := Rat.lt_irrefl
    rw [evF_run T_19 rfl]; simp only [df_law_ahead, less_eq, h2, h3, e_var, e_cst, e_bop, e_neg, e_not, e_boo, e_cmp, e_chain, e_ite, e_call, e_bi, e_isi, e_ix, e_sl, e_tup, e_lst, e_comp, e_meth, es_nil, es_cons, bv_one, bv_cons, bt_one, bt_cons, o_none, o_some, c_none, c_some, t_var, t_not, t_boo, t_cmp, t_chain, t_call, t_isi, t_ix, i_val, i_rng1, i_rng2, g_name, g_tup, g_sub, gs_nil, gs_cons, s_asg, s_par, s_aug, s_expr, s_iff, s_for, s_ret, s_retN, s_brk, s_cont, s_pass, ss_nil, ss_cons, leave_next, leave_d, take_all, v_getV, v_bop2, v_bop, v_neg, v_not, v_cmp2, v_cmp, v_bT, v_bV, v_chV3, v_chV2t, v_chV2f, v_chV1, v_chV, v_iteT, v_iteF, v_call, v_bi, v_isi, v_ix2, v_ix, v_sl3, v_sl2, v_sl, v_tup2, v_tup, v_lst, v_asgn, v_comp, v_meth2, v_meth, v_es2, v_es, v_BVt, v_BVtf, v_BVf, v_BVft, v_BTt, v_BTtf, v_BTf, v_BTft, v_O, v_tru, v_cmpT2, v_cmpT, v_chT3, v_chT2t, v_chT2f, v_chT1, v_chT, v_notT, v_isiT, v_pW, v_itV, v_R1, v_R2b, v_R2, v_asgSeq, v_setIx, v_setIx2, v_sub3, v_sub2, v_sub, v_Ts, v_asg2, v_asg, v_par2, v_par, v_augO, v_aug, v_augV, v_augA, v_augS, v_exp, v_ifT, v_ifF, v_for, v_ret, v_sqN, v_sqR, v_sqB, v_sqC, v_callT, v_ixT2, v_ixT, v_seqL, v_seqT, v_seqW, v_seqC, v_liveW, v_liveC, v_toD, v_toDc, v_frC, v_toDs0, v_toDs, v_Ds, v_Ds2, v_newF, v_newT, v_add, v_subI, v_catT, v_catLL, v_eqI, v_neI, v_eqB, v_neB, v_lt, v_le, v_gt, v_ge, v_is, v_isnot, v_nonN, v_nonI, v_nonB, v_nonT, v_nonL, v_nonC, v_truN, v_truB, v_ixO, v_ixS, v_ixTu, v_ixL, v_ixC, v_at0, v_at1, v_at2, v_at3, v_at4, v_at5, v_at6, v_at7, v_lenO, v_lenS, v_lenL, v_lenT, v_lenC, v_intI, v_intB, v_abs, v_max2, v_min2, v_gcd, v_listL, v_listT, v_listO, v_listC, v_tupleL, v_tupleT, v_tupO, v_tupleC, v_slS, v_slL, v_slT, v_itS, v_itL, v_itT, v_itW, v_itC, v_append, v_app, v_appO, v_pop, v_popO, v_popAt, v_reverse, v_revO, v_isiI, v_isiB, v_isiL, v_isiTu, v_isiS, v_isiN, v_isiC, v_Fb, v_FlN, v_FlC, v_FlB, v_FlR, v_Cl4, v_Cl3, v_Cl2, v_Cl1t, v_Cl1f, v_Cl0, v_encS, v_ptS, v_encI, v_ptI, v_eqE, v_neE, v_eqP, v_neP, v_nonE, v_nonP, v_mulS, v_setC0, v_DC, v_seqDC, v_DCxs, v_mxS, v_mxI, v_sgS, v_sgI, v_setC1, v_setC2, v_setC3, leave_c02, v_frmI, v_dtS, v_dtI, v_eqDt, v_neDt, v_neDt2, v_minDt, v_maxDt, pw_10_9, pw_10_18, pw_10_30, pw_10_12, pw_10_20, pw_10_6, pw_shl, initE, bnd_some, List.getElem?_cons_zero, List.getElem?_cons_succ, List.set_cons_zero, List.set_cons_succ, List.map_cons, List.map_nil, List.length_cons, List.length_nil, List.cons_append, List.nil_append, List.replicate, Nat.reduceAdd, Nat.reduceSub, Nat.reduceLT, Nat.reduceLeDiff, Nat.zero_add, if_true, Bool.false_eq_true, if_false, reduceCtorEq, sizeLine_eq, lBody_eq, lElt_eq, lCnd_eq, List.take_succ_cons, List.take_zero, Int.natCast_zero, Nat.max_def, List.any_cons, List.any_nil, Bool.or_false, Bool.false_or, Bool.and_false, Bool.false_and, Bool.or_true, Bool.true_or, Bool.true_and, Bool.and_true, eq_self, ne_eq, not_true, not_false_eq_true, beq_self_eq_true, Int.lt_irrefl, Int.reduceLT, Int.reduceLE, Int.reduceEq, Bool.true_beq, Bool.false_beq, decide_true, decide_false, Bool.not_true, Bool.not_false]
  · rw [evF_run T_19 rfl]; simp only [df_law_ahead, less_eq, h2, e_var, e_cst, e_bop, e_neg, e_not, e_boo, e_cmp, e_chain, e_ite, e_call, e_bi, e_isi, e_ix, e_sl, e_tup, e_lst, e_comp, e_meth, es_nil, es_cons, bv_one, bv_cons, bt_one, bt_cons, o_none, o_some, c_none, c_some, t_var, t_not, t_boo, t_cmp, t_chain, t_call, t_isi, t_ix, i_val, i_rng1, i_rng2, g_name, g_tup, g_sub, gs_nil, gs_cons, s_asg, s_par, s_aug, s_expr, s_iff, s_for, s_ret, s_retN, s_brk, s_cont, s_pass, ss_nil, ss_cons, leave_next, leave_d, take_all, v_getV, v_bop2, v_bop, v_neg, v_not, v_cmp2, v_cmp, v_bT, v_bV, v_chV3, v_chV2t, v_chV2f, v_chV1, v_chV, v_iteT, v_iteF, v_call, v_bi, v_isi, v_ix2, v_ix, v_sl3, v_sl2, v_sl, v_tup2, v_tup, v_lst, v_asgn, v_comp, v_meth2, v_meth, v_es2, v_es, v_BVt, v_BVtf, v_BVf, v_BVft, v_BTt, v_BTtf, v_BTf, v_BTft, v_O, v_tru, v_cmpT2, v_cmpT, v_chT3, v_chT2t, v_chT2f, v_chT1, v_chT, v_notT, v_isiT, v_pW, v_itV, v_R1, v_R2b, v_R2, v_asgSeq, v_setIx, v_setIx2, v_sub3, v_sub2, v_sub, v_Ts, v_asg2, v_asg, v_par2, v_par, v_augO, v_aug, v_augV, v_augA, v_augS, v_exp, v_ifT, v_ifF, v_for, v_ret, v_sqN, v_sqR, v_sqB, v_sqC, v_callT, v_ixT2, v_ixT, v_seqL, v_seqT, v_seqW, v_seqC, v_liveW, v_liveC, v_toD, v_toDc, v_frC, v_toDs0, v_toDs, v_Ds, v_Ds2, v_newF, v_newT, v_add, v_subI, v_catT, v_catLL, v_eqI, v_neI, v_eqB, v_neB, v_lt, v_le, v_gt, v_ge, v_is, v_isnot, v_nonN, v_nonI, v_nonB, v_nonT, v_nonL, v_nonC, v_truN, v_truB, v_ixO, v_ixS, v_ixTu, v_ixL, v_ixC, v_at0, v_at1, v_at2, v_at3, v_at4, v_at5, v_at6, v_at7, v_lenO, v_lenS, v_lenL, v_lenT, v_lenC, v_intI, v_intB, v_abs, v_max2, v_min2, v_gcd, v_listL, v_listT, v_listO, v_listC, v_tupleL, v_tupleT, v_tupO, v_tupleC, v_slS, v_slL, v_slT, v_itS, v_itL, v_itT, v_itW, v_itC, v_append, v_app, v_appO, v_pop, v_popO, v_popAt, v_reverse, v_revO, v_isiI, v_isiB, v_isiL, v_isiTu, v_isiS, v_isiN, v_isiC, v_Fb, v_FlN, v_FlC, v_FlB, v_FlR, v_Cl4, v_Cl3, v_Cl2, v_Cl1t, v_Cl1f, v_Cl0, v_encS, v_ptS, v_encI, v_ptI, v_eqE, v_neE, v_eqP, v_neP, v_nonE, v_nonP, v_mulS, v_setC0, v_DC, v_seqDC, v_DCxs, v_mxS, v_mxI, v_sgS, v_sgI, v_setC1, v_setC2, v_setC3, leave_c02, v_frmI, v_dtS, v_dtI, v_eqDt, v_neDt, v_neDt2, v_minDt, v_maxDt, pw_10_9, pw_10_18, pw_10_30, pw_10_12, pw_10_20, pw_10_6, pw_shl, initE, bnd_some, List.getElem?_cons_zero, List.getElem?_cons_succ, List.set_cons_zero, List.set_cons_succ, List.map_cons, List.map_nil, List.length_cons, List.length_nil, List.cons_append, List.nil_append, List.replicate, Nat.reduceAdd, Nat.reduceSub, Nat.reduceLT, Nat.reduceLeDiff, Nat.zero_add, if_true, Bool.false_eq_true, if_false, reduceCtorEq, sizeLine_eq, lBody_eq, lElt_eq, lCnd_eq, List.take_succ_cons, List.take_zero, Int.natCast_zero, Nat.max_def, List.any_cons, List.any_nil, Bool.or_false, Bool.false_or, Bool.and_false, Bool.false_and, Bool.or_true, Bool.true_or, Bool.true_and, Bool.and_true, eq_self, ne_eq, not_true, not_false_eq_true, beq_self_eq_true, Int.lt_irrefl, Int.reduceLT, Int.reduceLE, Int.reduceEq, Bool.true_beq, Bool.false_beq, decide_true, decide_false, Bool.not_true, Bool.not_false]
-- _law_joining
theorem joining_eq (k : Nat) (p q : Pt) (μ : MH) [SzQ p.1 2000] [SzQ p.2 2000] [SzQ q.1 2000] [SzQ q.2 2000] : evF T (k+3) 20 [.d (pt p), .d (pt q)] μ = some (.d (sgT (btw p q)), μ) := by
  unfold btw sgT
  have e := fun μ => ahead_eq k p q μ
  cases h : bef p q with
  | true =>
    rw [h] at e
    rw [evF_run T_20 rfl]; simp only [df_law_joining, e, e_var, e_cst, e_bop, e_neg, e_not, e_boo, e_cmp, e_chain, e_ite, e_call, e_bi, e_isi, e_ix, e_sl, e_tup, e_lst, e_comp, e_meth, es_nil, es_cons, bv_one, bv_cons, bt_one, bt_cons, o_none, o_some, c_none, c_some, t_var, t_not, t_boo, t_cmp, t_chain, t_call, t_isi, t_ix, i_val, i_rng1, i_rng2, g_name, g_tup, g_sub, gs_nil, gs_cons, s_asg, s_par, s_aug, s_expr, s_iff, s_for, s_ret, s_retN, s_brk, s_cont, s_pass, ss_nil, ss_cons, leave_next, leave_d, take_all, v_getV, v_bop2, v_bop, v_neg, v_not, v_cmp2, v_cmp, v_bT, v_bV, v_chV3, v_chV2t, v_chV2f, v_chV1, v_chV, v_iteT, v_iteF, v_call, v_bi, v_isi, v_ix2, v_ix, v_sl3, v_sl2, v_sl, v_tup2, v_tup, v_lst, v_asgn, v_comp, v_meth2, v_meth, v_es2, v_es, v_BVt, v_BVtf, v_BVf, v_BVft, v_BTt, v_BTtf, v_BTf, v_BTft, v_O, v_tru, v_cmpT2, v_cmpT, v_chT3, v_chT2t, v_chT2f, v_chT1, v_chT, v_notT, v_isiT, v_pW, v_itV, v_R1, v_R2b, v_R2, v_asgSeq, v_setIx, v_setIx2, v_sub3, v_sub2, v_sub, v_Ts, v_asg2, v_asg, v_par2, v_par, v_augO, v_aug, v_augV, v_augA, v_augS, v_exp, v_ifT, v_ifF, v_for, v_ret, v_sqN, v_sqR, v_sqB, v_sqC, v_callT, v_ixT2, v_ixT, v_seqL, v_seqT, v_seqW, v_seqC, v_liveW, v_liveC, v_toD, v_toDc, v_frC, v_toDs0, v_toDs, v_Ds, v_Ds2, v_newF, v_newT, v_add, v_subI, v_catT, v_catLL, v_eqI, v_neI, v_eqB, v_neB, v_lt, v_le, v_gt, v_ge, v_is, v_isnot, v_nonN, v_nonI, v_nonB, v_nonT, v_nonL, v_nonC, v_truN, v_truB, v_ixO, v_ixS, v_ixTu, v_ixL, v_ixC, v_at0, v_at1, v_at2, v_at3, v_at4, v_at5, v_at6, v_at7, v_lenO, v_lenS, v_lenL, v_lenT, v_lenC, v_intI, v_intB, v_abs, v_max2, v_min2, v_gcd, v_listL, v_listT, v_listO, v_listC, v_tupleL, v_tupleT, v_tupO, v_tupleC, v_slS, v_slL, v_slT, v_itS, v_itL, v_itT, v_itW, v_itC, v_append, v_app, v_appO, v_pop, v_popO, v_popAt, v_reverse, v_revO, v_isiI, v_isiB, v_isiL, v_isiTu, v_isiS, v_isiN, v_isiC, v_Fb, v_FlN, v_FlC, v_FlB, v_FlR, v_Cl4, v_Cl3, v_Cl2, v_Cl1t, v_Cl1f, v_Cl0, v_encS, v_ptS, v_encI, v_ptI, v_eqE, v_neE, v_eqP, v_neP, v_nonE, v_nonP, v_mulS, v_setC0, v_DC, v_seqDC, v_DCxs, v_mxS, v_mxI, v_sgS, v_sgI, v_setC1, v_setC2, v_setC3, leave_c02, v_frmI, v_dtS, v_dtI, v_eqDt, v_neDt, v_neDt2, v_minDt, v_maxDt, pw_10_9, pw_10_18, pw_10_30, pw_10_12, pw_10_20, pw_10_6, pw_shl, initE, bnd_some, List.getElem?_cons_zero, List.getElem?_cons_succ, List.set_cons_zero, List.set_cons_succ, List.map_cons, List.map_nil, List.length_cons, List.length_nil, List.cons_append, List.nil_append, List.replicate, Nat.reduceAdd, Nat.reduceSub, Nat.reduceLT, Nat.reduceLeDiff, Nat.zero_add, if_true, Bool.false_eq_true, if_false, reduceCtorEq, sizeLine_eq, lBody_eq, lElt_eq, lCnd_eq, List.take_succ_cons, List.take_zero, Int.natCast_zero, Nat.max_def, List.any_cons, List.any_nil, Bool.or_false, Bool.false_or, Bool.and_false, Bool.false_and, Bool.or_true, Bool.true_or, Bool.true_and, Bool.and_true, eq_self, ne_eq, not_true, not_false_eq_true, beq_self_eq_true, Int.lt_irrefl, Int.reduceLT, Int.reduceLE, Int.reduceEq, Bool.true_beq, Bool.false_beq, decide_true, decide_false, Bool.not_true, Bool.not_false]
  | false =>
    rw [h] at e
    rw [evF_run T_20 rfl]; simp only [df_law_joining, e, e_var, e_cst, e_bop, e_neg, e_not, e_boo, e_cmp, e_chain, e_ite, e_call, e_bi, e_isi, e_ix, e_sl, e_tup, e_lst, e_comp, e_meth, es_nil, es_cons, bv_one, bv_cons, bt_one, bt_cons, o_none, o_some, c_none, c_some, t_var, t_not, t_boo, t_cmp, t_chain, t_call, t_isi, t_ix, i_val, i_rng1, i_rng2, g_name, g_tup, g_sub, gs_nil, gs_cons, s_asg, s_par, s_aug, s_expr, s_iff, s_for, s_ret, s_retN, s_brk, s_cont, s_pass, ss_nil, ss_cons, leave_next, leave_d, take_all, v_getV, v_bop2, v_bop, v_neg, v_not, v_cmp2, v_cmp, v_bT, v_bV, v_chV3, v_chV2t, v_chV2f, v_chV1, v_chV, v_iteT, v_iteF, v_call, v_bi, v_isi, v_ix2, v_ix, v_sl3, v_sl2, v_sl, v_tup2, v_tup, v_lst, v_asgn, v_comp, v_meth2, v_meth, v_es2, v_es, v_BVt, v_BVtf, v_BVf, v_BVft, v_BTt, v_BTtf, v_BTf, v_BTft, v_O, v_tru, v_cmpT2, v_cmpT, v_chT3, v_chT2t, v_chT2f, v_chT1, v_chT, v_notT, v_isiT, v_pW, v_itV, v_R1, v_R2b, v_R2, v_asgSeq, v_setIx, v_setIx2, v_sub3, v_sub2, v_sub, v_Ts, v_asg2, v_asg, v_par2, v_par, v_augO, v_aug, v_augV, v_augA, v_augS, v_exp, v_ifT, v_ifF, v_for, v_ret, v_sqN, v_sqR, v_sqB, v_sqC, v_callT, v_ixT2, v_ixT, v_seqL, v_seqT, v_seqW, v_seqC, v_liveW, v_liveC, v_toD, v_toDc, v_frC, v_toDs0, v_toDs, v_Ds, v_Ds2, v_newF, v_newT, v_add, v_subI, v_catT, v_catLL, v_eqI, v_neI, v_eqB, v_neB, v_lt, v_le, v_gt, v_ge, v_is, v_isnot, v_nonN, v_nonI, v_nonB, v_nonT, v_nonL, v_nonC, v_truN, v_truB, v_ixO, v_ixS, v_ixTu, v_ixL, v_ixC, v_at0, v_at1, v_at2, v_at3, v_at4, v_at5, v_at6, v_at7, v_lenO, v_lenS, v_lenL, v_lenT, v_lenC, v_intI, v_intB, v_abs, v_max2, v_min2, v_gcd, v_listL, v_listT, v_listO, v_listC, v_tupleL, v_tupleT, v_tupO, v_tupleC, v_slS, v_slL, v_slT, v_itS, v_itL, v_itT, v_itW, v_itC, v_append, v_app, v_appO, v_pop, v_popO, v_popAt, v_reverse, v_revO, v_isiI, v_isiB, v_isiL, v_isiTu, v_isiS, v_isiN, v_isiC, v_Fb, v_FlN, v_FlC, v_FlB, v_FlR, v_Cl4, v_Cl3, v_Cl2, v_Cl1t, v_Cl1f, v_Cl0, v_encS, v_ptS, v_encI, v_ptI, v_eqE, v_neE, v_eqP, v_neP, v_nonE, v_nonP, v_mulS, v_setC0, v_DC, v_seqDC, v_DCxs, v_mxS, v_mxI, v_sgS, v_sgI, v_setC1, v_setC2, v_setC3, leave_c02, v_frmI, v_dtS, v_dtI, v_eqDt, v_neDt, v_neDt2, v_minDt, v_maxDt, pw_10_9, pw_10_18, pw_10_30, pw_10_12, pw_10_20, pw_10_6, pw_shl, initE, bnd_some, List.getElem?_cons_zero, List.getElem?_cons_succ, List.set_cons_zero, List.set_cons_succ, List.map_cons, List.map_nil, List.length_cons, List.length_nil, List.cons_append, List.nil_append, List.replicate, Nat.reduceAdd, Nat.reduceSub, Nat.reduceLT, Nat.reduceLeDiff, Nat.zero_add, if_true, Bool.false_eq_true, if_false, reduceCtorEq, sizeLine_eq, lBody_eq, lElt_eq, lCnd_eq, List.take_succ_cons, List.take_zero, Int.natCast_zero, Nat.max_def, List.any_cons, List.any_nil, Bool.or_false, Bool.false_or, Bool.and_false, Bool.false_and, Bool.or_true, Bool.true_or, Bool.true_and, Bool.and_true, eq_self, ne_eq, not_true, not_false_eq_true, beq_self_eq_true, Int.lt_irrefl, Int.reduceLT, Int.reduceLE, Int.reduceEq, Bool.true_beq, Bool.false_beq, decide_true, decide_false, Bool.not_true, Bool.not_false]
-- image_of_segments
def ims (m : Mx) (s : Pt × Pt) : Pt × Pt := btw (m.im s.1) (m.im s.2)
structure Sg4 (s : Pt × Pt) (n : Nat) : Prop where
  a : SzQ s.1.1 n
  b : SzQ s.1.2 n
  c : SzQ s.2.1 n
  d : SzQ s.2.2 n
theorem im_sz {m : Mx} (hm : m.Ok 45) {p : Pt} (h1 : SzQ p.1 200) (h2 : SzQ p.2 200) : SzQ (m.im p).1 600 ∧ SzQ (m.im p).2 600 := by
  obtain ⟨sa, sb, sc, sd, se, sf⟩ := hm
  exact ⟨SzQ.mono (n := 45 + 200 + (45 + 200) + 1 + 45 + 1) (inferInstanceAs (SzQ (m.a * p.1 + m.b * p.2 + m.c) _)) (by decide), SzQ.mono (n := 45 + 200 + (45 + 200) + 1 + 45 + 1) (inferInstanceAs (SzQ (m.d * p.1 + m.e * p.2 + m.f) _)) (by decide)⟩
theorem images_eq (k : Nat) (m : Mx) (hm : m.Ok 45) (ss : List (Pt × Pt)) (hl : ss.length ≤ 1000) (hs : ∀ s ∈ ss, Sg4 s 200) (μ : MH) : evF T (k+5) 8 [.d m.D, .d (.tuple (ss.map sgT))] μ = some (.d (.tuple (ss.map fun s => sgT (ims m s))), μ) := by
  have e1 := fun (all : List D) => compL_mapM (asg := lAsg (evF T (k+4)) (.tup (.cons (.name 2) (.cons (.name 3) .nil)))) (cond := lCnd (evF T (k+4)) .none) (elt := lElt (evF T (k+4)) (.call 6 (.cons (.call 7 (.cons (.var 0) (.cons (.var 2) .nil))) (.cons (.call 7 (.cons (.var 0) (.cons (.var 3) .nil))) .nil)))) (all := all) (env := [some (.d m.D), some (.d (.tuple (ss.map sgT))), none, none]) (μ := μ) (g := sgT) (h := fun s => sgT (ims m s)) (ss := ss) (by
    intro s h
    obtain ⟨a, b, c, d⟩ := hs s h
    obtain ⟨u1, u2⟩ := im_sz hm a b
    obtain ⟨u3, u4⟩ := im_sz hm c d
    have f1 := fun μ => @img_eq (k+1) m (hm.mono (by decide)) s.1 (a.mono (by decide)) (b.mono (by decide)) μ
    have f2 := fun μ => @img_eq (k+1) m (hm.mono (by decide)) s.2 (c.mono (by decide)) (d.mono (by decide)) μ
    have f3 := fun μ => @segment_eq k (m.im s.1) (m.im s.2) μ (u1.mono (by decide)) (u2.mono (by decide)) (u3.mono (by decide)) (u4.mono (by decide))
    rw [sgm_btw] at f3
    refine ⟨_, by simp only [e_var, e_cst, e_bop, e_neg, e_not, e_boo, e_cmp, e_chain, e_ite, e_call, e_bi, e_isi, e_ix, e_sl, e_tup, e_lst, e_comp, e_meth, es_nil, es_cons, bv_one, bv_cons, bt_one, bt_cons, o_none, o_some, c_none, c_some, t_var, t_not, t_boo, t_cmp, t_chain, t_call, t_isi, t_ix, i_val, i_rng1, i_rng2, g_name, g_tup, g_sub, gs_nil, gs_cons, s_asg, s_par, s_aug, s_expr, s_iff, s_for, s_ret, s_retN, s_brk, s_cont, s_pass, ss_nil, ss_cons, leave_next, leave_d, take_all, v_getV, v_bop2, v_bop, v_neg, v_not, v_cmp2, v_cmp, v_bT, v_bV, v_chV3, v_chV2t, v_chV2f, v_chV1, v_chV, v_iteT, v_iteF, v_call, v_bi, v_isi, v_ix2, v_ix, v_sl3, v_sl2, v_sl, v_tup2, v_tup, v_lst, v_asgn, v_comp, v_meth2, v_meth, v_es2, v_es, v_BVt, v_BVtf, v_BVf, v_BVft, v_BTt, v_BTtf, v_BTf, v_BTft, v_O, v_tru, v_cmpT2, v_cmpT, v_chT3, v_chT2t, v_chT2f, v_chT1, v_chT, v_notT, v_isiT, v_pW, v_itV, v_R1, v_R2b, v_R2, v_asgSeq, v_setIx, v_setIx2, v_sub3, v_sub2, v_sub, v_Ts, v_asg2, v_asg, v_par2, v_par, v_augO, v_aug, v_augV, v_augA, v_augS, v_exp, v_ifT, v_ifF, v_for, v_ret, v_sqN, v_sqR, v_sqB, v_sqC, v_callT, v_ixT2, v_ixT, v_seqL, v_seqT, v_seqW, v_seqC, v_liveW, v_liveC, v_toD, v_toDc, v_frC, v_toDs0, v_toDs, v_Ds, v_Ds2, v_newF, v_newT, v_add, v_subI, v_catT, v_catLL, v_eqI, v_neI, v_eqB, v_neB, v_lt, v_le, v_gt, v_ge, v_is, v_isnot, v_nonN, v_nonI, v_nonB, v_nonT, v_nonL, v_nonC, v_truN, v_truB, v_ixO, v_ixS, v_ixTu, v_ixL, v_ixC, v_at0, v_at1, v_at2, v_at3, v_at4, v_at5, v_at6, v_at7, v_lenO, v_lenS, v_lenL, v_lenT, v_lenC, v_intI, v_intB, v_abs, v_max2, v_min2, v_gcd, v_listL, v_listT, v_listO, v_listC, v_tupleL, v_tupleT, v_tupO, v_tupleC, v_slS, v_slL, v_slT, v_itS, v_itL, v_itT, v_itW, v_itC, v_append, v_app, v_appO, v_pop, v_popO, v_popAt, v_reverse, v_revO, v_isiI, v_isiB, v_isiL, v_isiTu, v_isiS, v_isiN, v_isiC, v_Fb, v_FlN, v_FlC, v_FlB, v_FlR, v_Cl4, v_Cl3, v_Cl2, v_Cl1t, v_Cl1f, v_Cl0, v_encS, v_ptS, v_encI, v_ptI, v_eqE, v_neE, v_eqP, v_neP, v_nonE, v_nonP, v_mulS, v_setC0, v_DC, v_seqDC, v_DCxs, v_mxS, v_mxI, v_sgS, v_sgI, v_setC1, v_setC2, v_setC3, leave_c02, v_frmI, v_dtS, v_dtI, v_eqDt, v_neDt, v_neDt2, v_minDt, v_maxDt, pw_10_9, pw_10_18, pw_10_30, pw_10_12, pw_10_20, pw_10_6, pw_shl, initE, bnd_some, List.getElem?_cons_zero, List.getElem?_cons_succ, List.set_cons_zero, List.set_cons_succ, List.map_cons, List.map_nil, List.length_cons, List.length_nil, List.cons_append, List.nil_append, List.replicate, Nat.reduceAdd, Nat.reduceSub, Nat.reduceLT, Nat.reduceLeDiff, Nat.zero_add, if_true, Bool.false_eq_true, if_false, reduceCtorEq, sizeLine_eq, lBody_eq, lElt_eq, lCnd_eq, List.take_succ_cons, List.take_zero, Int.natCast_zero, Nat.max_def, List.any_cons, List.any_nil, Bool.or_false, Bool.false_or, Bool.and_false, Bool.false_and, Bool.or_true, Bool.true_or, Bool.true_and, Bool.and_true, eq_self, ne_eq, not_true, not_false_eq_true, beq_self_eq_true, Int.lt_irrefl, Int.reduceLT, Int.reduceLE, Int.reduceEq, Bool.true_beq, Bool.false_beq, decide_true, decide_false, Bool.not_true, Bool.not_false]; rfl, by simp only [e_var, e_cst, e_bop, e_neg, e_not, e_boo, e_cmp, e_chain, e_ite, e_call, e_bi, e_isi, e_ix, e_sl, e_tup, e_lst, e_comp, e_meth, es_nil, es_cons, bv_one, bv_cons, bt_one, bt_cons, o_none, o_some, c_none, c_some, t_var, t_not, t_boo, t_cmp, t_chain, t_call, t_isi, t_ix, i_val, i_rng1, i_rng2, g_name, g_tup, g_sub, gs_nil, gs_cons, s_asg, s_par, s_aug, s_expr, s_iff, s_for, s_ret, s_retN, s_brk, s_cont, s_pass, ss_nil, ss_cons, leave_next, leave_d, take_all, v_getV, v_bop2, v_bop, v_neg, v_not, v_cmp2, v_cmp, v_bT, v_bV, v_chV3, v_chV2t, v_chV2f, v_chV1, v_chV, v_iteT, v_iteF, v_call, v_bi, v_isi, v_ix2, v_ix, v_sl3, v_sl2, v_sl, v_tup2, v_tup, v_lst, v_asgn, v_comp, v_meth2, v_meth, v_es2, v_es, v_BVt, v_BVtf, v_BVf, v_BVft, v_BTt, v_BTtf, v_BTf, v_BTft, v_O, v_tru, v_cmpT2, v_cmpT, v_chT3, v_chT2t, v_chT2f, v_chT1, v_chT, v_notT, v_isiT, v_pW, v_itV, v_R1, v_R2b, v_R2, v_asgSeq, v_setIx, v_setIx2, v_sub3, v_sub2, v_sub, v_Ts, v_asg2, v_asg, v_par2, v_par, v_augO, v_aug, v_augV, v_augA, v_augS, v_exp, v_ifT, v_ifF, v_for, v_ret, v_sqN, v_sqR, v_sqB, v_sqC, v_callT, v_ixT2, v_ixT, v_seqL, v_seqT, v_seqW, v_seqC, v_liveW, v_liveC, v_toD, v_toDc, v_frC, v_toDs0, v_toDs, v_Ds, v_Ds2, v_newF, v_newT, v_add, v_subI, v_catT, v_catLL, v_eqI, v_neI, v_eqB, v_neB, v_lt, v_le, v_gt, v_ge, v_is, v_isnot, v_nonN, v_nonI, v_nonB, v_nonT, v_nonL, v_nonC, v_truN, v_truB, v_ixO, v_ixS, v_ixTu, v_ixL, v_ixC, v_at0, v_at1, v_at2, v_at3, v_at4, v_at5, v_at6, v_at7, v_lenO, v_lenS, v_lenL, v_lenT, v_lenC, v_intI, v_intB, v_abs, v_max2, v_min2, v_gcd, v_listL, v_listT, v_listO, v_listC, v_tupleL, v_tupleT, v_tupO, v_tupleC, v_slS, v_slL, v_slT, v_itS, v_itL, v_itT, v_itW, v_itC, v_append, v_app, v_appO, v_pop, v_popO, v_popAt, v_reverse, v_revO, v_isiI, v_isiB, v_isiL, v_isiTu, v_isiS, v_isiN, v_isiC, v_Fb, v_FlN, v_FlC, v_FlB, v_FlR, v_Cl4, v_Cl3, v_Cl2, v_Cl1t, v_Cl1f, v_Cl0, v_encS, v_ptS, v_encI, v_ptI, v_eqE, v_neE, v_eqP, v_neP, v_nonE, v_nonP, v_mulS, v_setC0, v_DC, v_seqDC, v_DCxs, v_mxS, v_mxI, v_sgS, v_sgI, v_setC1, v_setC2, v_setC3, leave_c02, v_frmI, v_dtS, v_dtI, v_eqDt, v_neDt, v_neDt2, v_minDt, v_maxDt, pw_10_9, pw_10_18, pw_10_30, pw_10_12, pw_10_20, pw_10_6, pw_shl, initE, bnd_some, List.getElem?_cons_zero, List.getElem?_cons_succ, List.set_cons_zero, List.set_cons_succ, List.map_cons, List.map_nil, List.length_cons, List.length_nil, List.cons_append, List.nil_append, List.replicate, Nat.reduceAdd, Nat.reduceSub, Nat.reduceLT, Nat.reduceLeDiff, Nat.zero_add, if_true, Bool.false_eq_true, if_false, reduceCtorEq, sizeLine_eq, lBody_eq, lElt_eq, lCnd_eq, List.take_succ_cons, List.take_zero, Int.natCast_zero, Nat.max_def, List.any_cons, List.any_nil, Bool.or_false, Bool.false_or, Bool.and_false, Bool.false_and, Bool.or_true, Bool.true_or, Bool.true_and, Bool.and_true, eq_self, ne_eq, not_true, not_false_eq_true, beq_self_eq_true, Int.lt_irrefl, Int.reduceLT, Int.reduceLE, Int.reduceEq, Bool.true_beq, Bool.false_beq, decide_true, decide_false, Bool.not_true, Bool.not_false], ?_⟩
    simp only [f1, f2, f3, e_var, e_cst, e_bop, e_neg, e_not, e_boo, e_cmp, e_chain, e_ite, e_call, e_bi, e_isi, e_ix, e_sl, e_tup, e_lst, e_comp, e_meth, es_nil, es_cons, bv_one, bv_cons, bt_one, bt_cons, o_none, o_some, c_none, c_some, t_var, t_not, t_boo, t_cmp, t_chain, t_call, t_isi, t_ix, i_val, i_rng1, i_rng2, g_name, g_tup, g_sub, gs_nil, gs_cons, s_asg, s_par, s_aug, s_expr, s_iff, s_for, s_ret, s_retN, s_brk, s_cont, s_pass, ss_nil, ss_cons, leave_next, leave_d, take_all, v_getV, v_bop2, v_bop, v_neg, v_not, v_cmp2, v_cmp, v_bT, v_bV, v_chV3, v_chV2t, v_chV2f, v_chV1, v_chV, v_iteT, v_iteF, v_call, v_bi, v_isi, v_ix2, v_ix, v_sl3, v_sl2, v_sl, v_tup2, v_tup, v_lst, v_asgn, v_comp, v_meth2, v_meth, v_es2, v_es, v_BVt, v_BVtf, v_BVf, v_BVft, v_BTt, v_BTtf, v_BTf, v_BTft, v_O, v_tru, v_cmpT2, v_cmpT, v_chT3, v_chT2t, v_chT2f, v_chT1, v_chT, v_notT, v_isiT, v_pW, v_itV, v_R1, v_R2b, v_R2, v_asgSeq, v_setIx, v_setIx2, v_sub3, v_sub2, v_sub, v_Ts, v_asg2, v_asg, v_par2, v_par, v_augO, v_aug, v_augV, v_augA, v_augS, v_exp, v_ifT, v_ifF, v_for, v_ret, v_sqN, v_sqR, v_sqB, v_sqC, v_callT, v_ixT2, v_ixT, v_seqL, v_seqT, v_seqW, v_seqC, v_liveW, v_liveC, v_toD, v_toDc, v_frC, v_toDs0, v_toDs, v_Ds, v_Ds2, v_newF, v_newT, v_add, v_subI, v_catT, v_catLL, v_eqI, v_neI, v_eqB, v_neB, v_lt, v_le, v_gt, v_ge, v_is, v_isnot, v_nonN, v_nonI, v_nonB, v_nonT, v_nonL, v_nonC, v_truN, v_truB, v_ixO, v_ixS, v_ixTu, v_ixL, v_ixC, v_at0, v_at1, v_at2, v_at3, v_at4, v_at5, v_at6, v_at7, v_lenO, v_lenS, v_lenL, v_lenT, v_lenC, v_intI, v_intB, v_abs, v_max2, v_min2, v_gcd, v_listL, v_listT, v_listO, v_listC, v_tupleL, v_tupleT, v_tupO, v_tupleC, v_slS, v_slL, v_slT, v_itS, v_itL, v_itT, v_itW, v_itC, v_append, v_app, v_appO, v_pop, v_popO, v_popAt, v_reverse, v_revO, v_isiI, v_isiB, v_isiL, v_isiTu, v_isiS, v_isiN, v_isiC, v_Fb, v_FlN, v_FlC, v_FlB, v_FlR, v_Cl4, v_Cl3, v_Cl2, v_Cl1t, v_Cl1f, v_Cl0, v_encS, v_ptS, v_encI, v_ptI, v_eqE, v_neE, v_eqP, v_neP, v_nonE, v_nonP, v_mulS, v_setC0, v_DC, v_seqDC, v_DCxs, v_mxS, v_mxI, v_sgS, v_sgI, v_setC1, v_setC2, v_setC3, leave_c02, v_frmI, v_dtS, v_dtI, v_eqDt, v_neDt, v_neDt2, v_minDt, v_maxDt, pw_10_9, pw_10_18, pw_10_30, pw_10_12, pw_10_20, pw_10_6, pw_shl, initE, bnd_some, List.getElem?_cons_zero, List.getElem?_cons_succ, List.set_cons_zero, List.set_cons_succ, List.map_cons, List.map_nil, List.length_cons, List.length_nil, List.cons_append, List.nil_append, List.replicate, Nat.reduceAdd, Nat.reduceSub, Nat.reduceLT, Nat.reduceLeDiff, Nat.zero_add, if_true, Bool.false_eq_true, if_false, reduceCtorEq, sizeLine_eq, lBody_eq, lElt_eq, lCnd_eq, List.take_succ_cons, List.take_zero, Int.natCast_zero, Nat.max_def, List.any_cons, List.any_nil, Bool.or_false, Bool.false_or, Bool.and_false, Bool.false_and, Bool.or_true, Bool.true_or, Bool.true_and, Bool.and_true, eq_self, ne_eq, not_true, not_false_eq_true, beq_self_eq_true, Int.lt_irrefl, Int.reduceLT, Int.reduceLE, Int.reduceEq, Bool.true_beq, Bool.false_beq, decide_true, decide_false, Bool.not_true, Bool.not_false]
    rfl)
  have e2 : ∀ μ, newL false (ss.map fun s => sgT (ims m s)) μ = some (.d (.list (ss.map fun s => sgT (ims m s))), μ) := fun μ => v_newF _ (by rw [sizeLine_eq, List.length_map]; omega)
  rw [evF_run T_8 rfl]; simp only [dp_image_of_segments, e1, e2, wipeE, e_var, e_cst, e_bop, e_neg, e_not, e_boo, e_cmp, e_chain, e_ite, e_call, e_bi, e_isi, e_ix, e_sl, e_tup, e_lst, e_comp, e_meth, es_nil, es_cons, bv_one, bv_cons, bt_one, bt_cons, o_none, o_some, c_none, c_some, t_var, t_not, t_boo, t_cmp, t_chain, t_call, t_isi, t_ix, i_val, i_rng1, i_rng2, g_name, g_tup, g_sub, gs_nil, gs_cons, s_asg, s_par, s_aug, s_expr, s_iff, s_for, s_ret, s_retN, s_brk, s_cont, s_pass, ss_nil, ss_cons, leave_next, leave_d, take_all, v_getV, v_bop2, v_bop, v_neg, v_not, v_cmp2, v_cmp, v_bT, v_bV, v_chV3, v_chV2t, v_chV2f, v_chV1, v_chV, v_iteT, v_iteF, v_call, v_bi, v_isi, v_ix2, v_ix, v_sl3, v_sl2, v_sl, v_tup2, v_tup, v_lst, v_asgn, v_comp, v_meth2, v_meth, v_es2, v_es, v_BVt, v_BVtf, v_BVf, v_BVft, v_BTt, v_BTtf, v_BTf, v_BTft, v_O, v_tru, v_cmpT2, v_cmpT, v_chT3, v_chT2t, v_chT2f, v_chT1, v_chT, v_notT, v_isiT, v_pW, v_itV, v_R1, v_R2b, v_R2, v_asgSeq, v_setIx, v_setIx2, v_sub3, v_sub2, v_sub, v_Ts, v_asg2, v_asg, v_par2, v_par, v_augO, v_aug, v_augV, v_augA, v_augS, v_exp, v_ifT, v_ifF, v_for, v_ret, v_sqN, v_sqR, v_sqB, v_sqC, v_callT, v_ixT2, v_ixT, v_seqL, v_seqT, v_seqW, v_seqC, v_liveW, v_liveC, v_toD, v_toDc, v_frC, v_toDs0, v_toDs, v_Ds, v_Ds2, v_newF, v_newT, v_add, v_subI, v_catT, v_catLL, v_eqI, v_neI, v_eqB, v_neB, v_lt, v_le, v_gt, v_ge, v_is, v_isnot, v_nonN, v_nonI, v_nonB, v_nonT, v_nonL, v_nonC, v_truN, v_truB, v_ixO, v_ixS, v_ixTu, v_ixL, v_ixC, v_at0, v_at1, v_at2, v_at3, v_at4, v_at5, v_at6, v_at7, v_lenO, v_lenS, v_lenL, v_lenT, v_lenC, v_intI, v_intB, v_abs, v_max2, v_min2, v_gcd, v_listL, v_listT, v_listO, v_listC, v_tupleL, v_tupleT, v_tupO, v_tupleC, v_slS, v_slL, v_slT, v_itS, v_itL, v_itT, v_itW, v_itC, v_append, v_app, v_appO, v_pop, v_popO, v_popAt, v_reverse, v_revO, v_isiI, v_isiB, v_isiL, v_isiTu, v_isiS, v_isiN, v_isiC, v_Fb, v_FlN, v_FlC, v_FlB, v_FlR, v_Cl4, v_Cl3, v_Cl2, v_Cl1t, v_Cl1f, v_Cl0, v_encS, v_ptS, v_encI, v_ptI, v_eqE, v_neE, v_eqP, v_neP, v_nonE, v_nonP, v_mulS, v_setC0, v_DC, v_seqDC, v_DCxs, v_mxS, v_mxI, v_sgS, v_sgI, v_setC1, v_setC2, v_setC3, leave_c02, v_frmI, v_dtS, v_dtI, v_eqDt, v_neDt, v_neDt2, v_minDt, v_maxDt, pw_10_9, pw_10_18, pw_10_30, pw_10_12, pw_10_20, pw_10_6, pw_shl, initE, bnd_some, List.getElem?_cons_zero, List.getElem?_cons_succ, List.set_cons_zero, List.set_cons_succ, List.map_cons, List.map_nil, List.length_cons, List.length_nil, List.cons_append, List.nil_append, List.replicate, Nat.reduceAdd, Nat.reduceSub, Nat.reduceLT, Nat.reduceLeDiff, Nat.zero_add, if_true, Bool.false_eq_true, if_false, reduceCtorEq, sizeLine_eq, lBody_eq, lElt_eq, lCnd_eq, List.take_succ_cons, List.take_zero, Int.natCast_zero, Nat.max_def, List.any_cons, List.any_nil, Bool.or_false, Bool.false_or, Bool.and_false, Bool.false_and, Bool.or_true, Bool.true_or, Bool.true_and, Bool.and_true, eq_self, ne_eq, not_true, not_false_eq_true, beq_self_eq_true, Int.lt_irrefl, Int.reduceLT, Int.reduceLE, Int.reduceEq, Bool.true_beq, Bool.false_beq, decide_true, decide_false, Bool.not_true, Bool.not_false]
-- _law_imaged_all
theorem imaged_all_eq (k : Nat) (m : Mx) (hm : m.Ok 45) (ss : List (Pt × Pt)) (hl : ss.length ≤ 1000) (hs : ∀ s ∈ ss, Sg4 s 200) (xs : List Int) : evF T (k+5) 28 [.d m.D, .d (.tuple (ss.map sgT))] [DC xs] = some (.d (.tuple (ss.map fun s => sgT (ims m s))), [DC xs]) := by
  have e1 := fun (all : List D) => compL_mapM (asg := lAsg (evF T (k+4)) (.name 2)) (cond := lCnd (evF T (k+4)) .none) (elt := lElt (evF T (k+4)) (.call 20 (.cons (.call 27 (.cons (.var 0) (.cons (.ix (.var 2) (.cst (.int 0))) .nil))) (.cons (.call 27 (.cons (.var 0) (.cons (.ix (.var 2) (.cst (.int 1))) .nil))) .nil)))) (all := all) (env := [some (.d m.D), some (.d (.tuple (ss.map sgT))), none]) (μ := [DC xs]) (g := sgT) (h := fun s => sgT (ims m s)) (ss := ss) (by
    intro s h
    obtain ⟨a, b, c, d⟩ := hs s h
    obtain ⟨u1, u2⟩ := im_sz hm a b
    obtain ⟨u3, u4⟩ := im_sz hm c d
    have f1 := @imaged_eq k m (hm.mono (by decide)) s.1 (a.mono (by decide)) (b.mono (by decide)) [] xs
    have f2 := @imaged_eq k m (hm.mono (by decide)) s.2 (c.mono (by decide)) (d.mono (by decide)) [] xs
    have f3 := fun μ => @joining_eq (k+1) (m.im s.1) (m.im s.2) μ (u1.mono (by decide)) (u2.mono (by decide)) (u3.mono (by decide)) (u4.mono (by decide))
    refine ⟨_, by simp only [e_var, e_cst, e_bop, e_neg, e_not, e_boo, e_cmp, e_chain, e_ite, e_call, e_bi, e_isi, e_ix, e_sl, e_tup, e_lst, e_comp, e_meth, es_nil, es_cons, bv_one, bv_cons, bt_one, bt_cons, o_none, o_some, c_none, c_some, t_var, t_not, t_boo, t_cmp, t_chain, t_call, t_isi, t_ix, i_val, i_rng1, i_rng2, g_name, g_tup, g_sub, gs_nil, gs_cons, s_asg, s_par, s_aug, s_expr, s_iff, s_for, s_ret, s_retN, s_brk, s_cont, s_pass, ss_nil, ss_cons, leave_next, leave_d, take_all, v_getV, v_bop2, v_bop, v_neg, v_not, v_cmp2, v_cmp, v_bT, v_bV, v_chV3, v_chV2t, v_chV2f, v_chV1, v_chV, v_iteT, v_iteF, v_call, v_bi, v_isi, v_ix2, v_ix, v_sl3, v_sl2, v_sl, v_tup2, v_tup, v_lst, v_asgn, v_comp, v_meth2, v_meth, v_es2, v_es, v_BVt, v_BVtf, v_BVf, v_BVft, v_BTt, v_BTtf, v_BTf, v_BTft, v_O, v_tru, v_cmpT2, v_cmpT, v_chT3, v_chT2t, v_chT2f, v_chT1, v_chT, v_notT, v_isiT, v_pW, v_itV, v_R1, v_R2b, v_R2, v_asgSeq, v_setIx, v_setIx2, v_sub3, v_sub2, v_sub, v_Ts, v_asg2, v_asg, v_par2, v_par, v_augO, v_aug, v_augV, v_augA, v_augS, v_exp, v_ifT, v_ifF, v_for, v_ret, v_sqN, v_sqR, v_sqB, v_sqC, v_callT, v_ixT2, v_ixT, v_seqL, v_seqT, v_seqW, v_seqC, v_liveW, v_liveC, v_toD, v_toDc, v_frC, v_toDs0, v_toDs, v_Ds, v_Ds2, v_newF, v_newT, v_add, v_subI, v_catT, v_catLL, v_eqI, v_neI, v_eqB, v_neB, v_lt, v_le, v_gt, v_ge, v_is, v_isnot, v_nonN, v_nonI, v_nonB, v_nonT, v_nonL, v_nonC, v_truN, v_truB, v_ixO, v_ixS, v_ixTu, v_ixL, v_ixC, v_at0, v_at1, v_at2, v_at3, v_at4, v_at5, v_at6, v_at7, v_lenO, v_lenS, v_lenL, v_lenT, v_lenC, v_intI, v_intB, v_abs, v_max2, v_min2, v_gcd, v_listL, v_listT, v_listO, v_listC, v_tupleL, v_tupleT, v_tupO, v_tupleC, v_slS, v_slL, v_slT, v_itS, v_itL, v_itT, v_itW, v_itC, v_append, v_app, v_appO, v_pop, v_popO, v_popAt, v_reverse, v_revO, v_isiI, v_isiB, v_isiL, v_isiTu, v_isiS, v_isiN, v_isiC, v_Fb, v_FlN, v_FlC, v_FlB, v_FlR, v_Cl4, v_Cl3, v_Cl2, v_Cl1t, v_Cl1f, v_Cl0, v_encS, v_ptS, v_encI, v_ptI, v_eqE, v_neE, v_eqP, v_neP, v_nonE, v_nonP, v_mulS, v_setC0, v_DC, v_seqDC, v_DCxs, v_mxS, v_mxI, v_sgS, v_sgI, v_setC1, v_setC2, v_setC3, leave_c02, v_frmI, v_dtS, v_dtI, v_eqDt, v_neDt, v_neDt2, v_minDt, v_maxDt, pw_10_9, pw_10_18, pw_10_30, pw_10_12, pw_10_20, pw_10_6, pw_shl, initE, bnd_some, List.getElem?_cons_zero, List.getElem?_cons_succ, List.set_cons_zero, List.set_cons_succ, List.map_cons, List.map_nil, List.length_cons, List.length_nil, List.cons_append, List.nil_append, List.replicate, Nat.reduceAdd, Nat.reduceSub, Nat.reduceLT, Nat.reduceLeDiff, Nat.zero_add, if_true, Bool.false_eq_true, if_false, reduceCtorEq, sizeLine_eq, lBody_eq, lElt_eq, lCnd_eq, List.take_succ_cons, List.take_zero, Int.natCast_zero, Nat.max_def, List.any_cons, List.any_nil, Bool.or_false, Bool.false_or, Bool.and_false, Bool.false_and, Bool.or_true, Bool.true_or, Bool.true_and, Bool.and_true, eq_self, ne_eq, not_true, not_false_eq_true, beq_self_eq_true, Int.lt_irrefl, Int.reduceLT, Int.reduceLE, Int.reduceEq, Bool.true_beq, Bool.false_beq, decide_true, decide_false, Bool.not_true, Bool.not_false]; rfl, by simp only [e_var, e_cst, e_bop, e_neg, e_not, e_boo, e_cmp, e_chain, e_ite, e_call, e_bi, e_isi, e_ix, e_sl, e_tup, e_lst, e_comp, e_meth, es_nil, es_cons, bv_one, bv_cons, bt_one, bt_cons, o_none, o_some, c_none, c_some, t_var, t_not, t_boo, t_cmp, t_chain, t_call, t_isi, t_ix, i_val, i_rng1, i_rng2, g_name, g_tup, g_sub, gs_nil, gs_cons, s_asg, s_par, s_aug, s_expr, s_iff, s_for, s_ret, s_retN, s_brk, s_cont, s_pass, ss_nil, ss_cons, leave_next, leave_d, take_all, v_getV, v_bop2, v_bop, v_neg, v_not, v_cmp2, v_cmp, v_bT, v_bV, v_chV3, v_chV2t, v_chV2f, v_chV1, v_chV, v_iteT, v_iteF, v_call, v_bi, v_isi, v_ix2, v_ix, v_sl3, v_sl2, v_sl, v_tup2, v_tup, v_lst, v_asgn, v_comp, v_meth2, v_meth, v_es2, v_es, v_BVt, v_BVtf, v_BVf, v_BVft, v_BTt, v_BTtf, v_BTf, v_BTft, v_O, v_tru, v_cmpT2, v_cmpT, v_chT3, v_chT2t, v_chT2f, v_chT1, v_chT, v_notT, v_isiT, v_pW, v_itV, v_R1, v_R2b, v_R2, v_asgSeq, v_setIx, v_setIx2, v_sub3, v_sub2, v_sub, v_Ts, v_asg2, v_asg, v_par2, v_par, v_augO, v_aug, v_augV, v_augA, v_augS, v_exp, v_ifT, v_ifF, v_for, v_ret, v_sqN, v_sqR, v_sqB, v_sqC, v_callT, v_ixT2, v_ixT, v_seqL, v_seqT, v_seqW, v_seqC, v_liveW, v_liveC, v_toD, v_toDc, v_frC, v_toDs0, v_toDs, v_Ds, v_Ds2, v_newF, v_newT, v_add, v_subI, v_catT, v_catLL, v_eqI, v_neI, v_eqB, v_neB, v_lt, v_le, v_gt, v_ge, v_is, v_isnot, v_nonN, v_nonI, v_nonB, v_nonT, v_nonL, v_nonC, v_truN, v_truB, v_ixO, v_ixS, v_ixTu, v_ixL, v_ixC, v_at0, v_at1, v_at2, v_at3, v_at4, v_at5, v_at6, v_at7, v_lenO, v_lenS, v_lenL, v_lenT, v_lenC, v_intI, v_intB, v_abs, v_max2, v_min2, v_gcd, v_listL, v_listT, v_listO, v_listC, v_tupleL, v_tupleT, v_tupO, v_tupleC, v_slS, v_slL, v_slT, v_itS, v_itL, v_itT, v_itW, v_itC, v_append, v_app, v_appO, v_pop, v_popO, v_popAt, v_reverse, v_revO, v_isiI, v_isiB, v_isiL, v_isiTu, v_isiS, v_isiN, v_isiC, v_Fb, v_FlN, v_FlC, v_FlB, v_FlR, v_Cl4, v_Cl3, v_Cl2, v_Cl1t, v_Cl1f, v_Cl0, v_encS, v_ptS, v_encI, v_ptI, v_eqE, v_neE, v_eqP, v_neP, v_nonE, v_nonP, v_mulS, v_setC0, v_DC, v_seqDC, v_DCxs, v_mxS, v_mxI, v_sgS, v_sgI, v_setC1, v_setC2, v_setC3, leave_c02, v_frmI, v_dtS, v_dtI, v_eqDt, v_neDt, v_neDt2, v_minDt, v_maxDt, pw_10_9, pw_10_18, pw_10_30, pw_10_12, pw_10_20, pw_10_6, pw_shl, initE, bnd_some, List.getElem?_cons_zero, List.getElem?_cons_succ, List.set_cons_zero, List.set_cons_succ, List.map_cons, List.map_nil, List.length_cons, List.length_nil, List.cons_append, List.nil_append, List.replicate, Nat.reduceAdd, Nat.reduceSub, Nat.reduceLT, Nat.reduceLeDiff, Nat.zero_add, if_true, Bool.false_eq_true, if_false, reduceCtorEq, sizeLine_eq, lBody_eq, lElt_eq, lCnd_eq, List.take_succ_cons, List.take_zero, Int.natCast_zero, Nat.max_def, List.any_cons, List.any_nil, Bool.or_false, Bool.false_or, Bool.and_false, Bool.false_and, Bool.or_true, Bool.true_or, Bool.true_and, Bool.and_true, eq_self, ne_eq, not_true, not_false_eq_true, beq_self_eq_true, Int.lt_irrefl, Int.reduceLT, Int.reduceLE, Int.reduceEq, Bool.true_beq, Bool.false_beq, decide_true, decide_false, Bool.not_true, Bool.not_false], ?_⟩
    simp only [f1, f2, f3, e_var, e_cst, e_bop, e_neg, e_not, e_boo, e_cmp, e_chain, e_ite, e_call, e_bi, e_isi, e_ix, e_sl, e_tup, e_lst, e_comp, e_meth, es_nil, es_cons, bv_one, bv_cons, bt_one, bt_cons, o_none, o_some, c_none, c_some, t_var, t_not, t_boo, t_cmp, t_chain, t_call, t_isi, t_ix, i_val, i_rng1, i_rng2, g_name, g_tup, g_sub, gs_nil, gs_cons, s_asg, s_par, s_aug, s_expr, s_iff, s_for, s_ret, s_retN, s_brk, s_cont, s_pass, ss_nil, ss_cons, leave_next, leave_d, take_all, v_getV, v_bop2, v_bop, v_neg, v_not, v_cmp2, v_cmp, v_bT, v_bV, v_chV3, v_chV2t, v_chV2f, v_chV1, v_chV, v_iteT, v_iteF, v_call, v_bi, v_isi, v_ix2, v_ix, v_sl3, v_sl2, v_sl, v_tup2, v_tup, v_lst, v_asgn, v_comp, v_meth2, v_meth, v_es2, v_es, v_BVt, v_BVtf, v_BVf, v_BVft, v_BTt, v_BTtf, v_BTf, v_BTft, v_O, v_tru, v_cmpT2, v_cmpT, v_chT3, v_chT2t, v_chT2f, v_chT1, v_chT, v_notT, v_isiT, v_pW, v_itV, v_R1, v_R2b, v_R2, v_asgSeq, v_setIx, v_setIx2, v_sub3, v_sub2, v_sub, v_Ts, v_asg2, v_asg, v_par2, v_par, v_augO, v_aug, v_augV, v_augA, v_augS, v_exp, v_ifT, v_ifF, v_for, v_ret, v_sqN, v_sqR, v_sqB, v_sqC, v_callT, v_ixT2, v_ixT, v_seqL, v_seqT, v_seqW, v_seqC, v_liveW, v_liveC, v_toD, v_toDc, v_frC, v_toDs0, v_toDs, v_Ds, v_Ds2, v_newF, v_newT, v_add, v_subI, v_catT, v_catLL, v_eqI, v_neI, v_eqB, v_neB, v_lt, v_le, v_gt, v_ge, v_is, v_isnot, v_nonN, v_nonI, v_nonB, v_nonT, v_nonL, v_nonC, v_truN, v_truB, v_ixO, v_ixS, v_ixTu, v_ixL, v_ixC, v_at0, v_at1, v_at2, v_at3, v_at4, v_at5, v_at6, v_at7, v_lenO, v_lenS, v_lenL, v_lenT, v_lenC, v_intI, v_intB, v_abs, v_max2, v_min2, v_gcd, v_listL, v_listT, v_listO, v_listC, v_tupleL, v_tupleT, v_tupO, v_tupleC, v_slS, v_slL, v_slT, v_itS, v_itL, v_itT, v_itW, v_itC, v_append, v_app, v_appO, v_pop, v_popO, v_popAt, v_reverse, v_revO, v_isiI, v_isiB, v_isiL, v_isiTu, v_isiS, v_isiN, v_isiC, v_Fb, v_FlN, v_FlC, v_FlB, v_FlR, v_Cl4, v_Cl3, v_Cl2, v_Cl1t, v_Cl1f, v_Cl0, v_encS, v_ptS, v_encI, v_ptI, v_eqE, v_neE, v_eqP, v_neP, v_nonE, v_nonP, v_mulS, v_setC0, v_DC, v_seqDC, v_DCxs, v_mxS, v_mxI, v_sgS, v_sgI, v_setC1, v_setC2, v_setC3, leave_c02, v_frmI, v_dtS, v_dtI, v_eqDt, v_neDt, v_neDt2, v_minDt, v_maxDt, pw_10_9, pw_10_18, pw_10_30, pw_10_12, pw_10_20, pw_10_6, pw_shl, initE, bnd_some, List.getElem?_cons_zero, List.getElem?_cons_succ, List.set_cons_zero, List.set_cons_succ, List.map_cons, List.map_nil, List.length_cons, List.length_nil, List.cons_append, List.nil_append, List.replicate, Nat.reduceAdd, Nat.reduceSub, Nat.reduceLT, Nat.reduceLeDiff, Nat.zero_add, if_true, Bool.false_eq_true, if_false, reduceCtorEq, sizeLine_eq, lBody_eq, lElt_eq, lCnd_eq, List.take_succ_cons, List.take_zero, Int.natCast_zero, Nat.max_def, List.any_cons, List.any_nil, Bool.or_false, Bool.false_or, Bool.and_false, Bool.false_and, Bool.or_true, Bool.true_or, Bool.true_and, Bool.and_true, eq_self, ne_eq, not_true, not_false_eq_true, beq_self_eq_true, Int.lt_irrefl, Int.reduceLT, Int.reduceLE, Int.reduceEq, Bool.true_beq, Bool.false_beq, decide_true, decide_false, Bool.not_true, Bool.not_false]
    rfl)
  have e2 : ∀ μ, newL false (ss.map fun s => sgT (ims m s)) μ = some (.d (.list (ss.map fun s => sgT (ims m s))), μ) := fun μ => v_newF _ (by rw [sizeLine_eq, List.length_map]; omega)
  rw [evF_run T_28 rfl]; simp only [df_law_imaged_all, e1, e2, wipeE, e_var, e_cst, e_bop, e_neg, e_not, e_boo, e_cmp, e_chain, e_ite, e_call, e_bi, e_isi, e_ix, e_sl, e_tup, e_lst, e_comp, e_meth, es_nil, es_cons, bv_one, bv_cons, bt_one, bt_cons, o_none, o_some, c_none, c_some, t_var, t_not, t_boo, t_cmp, t_chain, t_call, t_isi, t_ix, i_val, i_rng1, i_rng2, g_name, g_tup, g_sub, gs_nil, gs_cons, s_asg, s_par, s_aug, s_expr, s_iff, s_for, s_ret, s_retN, s_brk, s_cont, s_pass, ss_nil, ss_cons, leave_next, leave_d, take_all, v_getV, v_bop2, v_bop, v_neg, v_not, v_cmp2, v_cmp, v_bT, v_bV, v_chV3, v_chV2t, v_chV2f, v_chV1, v_chV, v_iteT, v_iteF, v_call, v_bi, v_isi, v_ix2, v_ix, v_sl3, v_sl2, v_sl, v_tup2, v_tup, v_lst, v_asgn, v_comp, v_meth2, v_meth, v_es2, v_es, v_BVt, v_BVtf, v_BVf, v_BVft, v_BTt, v_BTtf, v_BTf, v_BTft, v_O, v_tru, v_cmpT2, v_cmpT, v_chT3, v_chT2t, v_chT2f, v_chT1, v_chT, v_notT, v_isiT, v_pW, v_itV, v_R1, v_R2b, v_R2, v_asgSeq, v_setIx, v_setIx2, v_sub3, v_sub2, v_sub, v_Ts, v_asg2, v_asg, v_par2, v_par, v_augO, v_aug, v_augV, v_augA, v_augS, v_exp, v_ifT, v_ifF, v_for, v_ret, v_sqN, v_sqR, v_sqB, v_sqC, v_callT, v_ixT2, v_ixT, v_seqL, v_seqT, v_seqW, v_seqC, v_liveW, v_liveC, v_toD, v_toDc, v_frC, v_toDs0, v_toDs, v_Ds, v_Ds2, v_newF, v_newT, v_add, v_subI, v_catT, v_catLL, v_eqI, v_neI, v_eqB, v_neB, v_lt, v_le, v_gt, v_ge, v_is, v_isnot, v_nonN, v_nonI, v_nonB, v_nonT, v_nonL, v_nonC, v_truN, v_truB, v_ixO, v_ixS, v_ixTu, v_ixL, v_ixC, v_at0, v_at1, v_at2, v_at3, v_at4, v_at5, v_at6, v_at7, v_lenO, v_lenS, v_lenL, v_lenT, v_lenC, v_intI, v_intB, v_abs, v_max2, v_min2, v_gcd, v_listL, v_listT, v_listO, v_listC, v_tupleL, v_tupleT, v_tupO, v_tupleC, v_slS, v_slL, v_slT, v_itS, v_itL, v_itT, v_itW, v_itC, v_append, v_app, v_appO, v_pop, v_popO, v_popAt, v_reverse, v_revO, v_isiI, v_isiB, v_isiL, v_isiTu, v_isiS, v_isiN, v_isiC, v_Fb, v_FlN, v_FlC, v_FlB, v_FlR, v_Cl4, v_Cl3, v_Cl2, v_Cl1t, v_Cl1f, v_Cl0, v_encS, v_ptS, v_encI, v_ptI, v_eqE, v_neE, v_eqP, v_neP, v_nonE, v_nonP, v_mulS, v_setC0, v_DC, v_seqDC, v_DCxs, v_mxS, v_mxI, v_sgS, v_sgI, v_setC1, v_setC2, v_setC3, leave_c02, v_frmI, v_dtS, v_dtI, v_eqDt, v_neDt, v_neDt2, v_minDt, v_maxDt, pw_10_9, pw_10_18, pw_10_30, pw_10_12, pw_10_20, pw_10_6, pw_shl, initE, bnd_some, List.getElem?_cons_zero, List.getElem?_cons_succ, List.set_cons_zero, List.set_cons_succ, List.map_cons, List.map_nil, List.length_cons, List.length_nil, List.cons_append, List.nil_append, List.replicate, Nat.reduceAdd, Nat.reduceSub, Nat.reduceLT, Nat.reduceLeDiff, Nat.zero_add, if_true, Bool.false_eq_true, if_false, reduceCtorEq, sizeLine_eq, lBody_eq, lElt_eq, lCnd_eq, List.take_succ_cons, List.take_zero, Int.natCast_zero, Nat.max_def, List.any_cons, List.any_nil, Bool.or_false, Bool.false_or, Bool.and_false, Bool.false_and, Bool.or_true, Bool.true_or, Bool.true_and, Bool.and_true, eq_self, ne_eq, not_true, not_false_eq_true, beq_self_eq_true, Int.lt_irrefl, Int.reduceLT, Int.reduceLE, Int.reduceEq, Bool.true_beq, Bool.false_beq, decide_true, decide_false, Bool.not_true, Bool.not_false]
-- _law_step
theorem step_eq (k : Nat) (q : Rat) [SzQ q 100] (μ : MH) : evF T (k+1) 21 [.d (enc q), .d (.int 1)] μ = some (.d (enc (stp q)), μ) := by
  have : Sz (1 : Int) 1 := ⟨by decide⟩
  rw [evF_run T_21 rfl]; simp only [df_law_step, e_var, e_cst, e_bop, e_neg, e_not, e_boo, e_cmp, e_chain, e_ite, e_call, e_bi, e_isi, e_ix, e_sl, e_tup, e_lst, e_comp, e_meth, es_nil, es_cons, bv_one, bv_cons, bt_one, bt_cons, o_none, o_some, c_none, c_some, t_var, t_not, t_boo, t_cmp, t_chain, t_call, t_isi, t_ix, i_val, i_rng1, i_rng2, g_name, g_tup, g_sub, gs_nil, gs_cons, s_asg, s_par, s_aug, s_expr, s_iff, s_for, s_ret, s_retN, s_brk, s_cont, s_pass, ss_nil, ss_cons, leave_next, leave_d, take_all, v_getV, v_bop2, v_bop, v_neg, v_not, v_cmp2, v_cmp, v_bT, v_bV, v_chV3, v_chV2t, v_chV2f, v_chV1, v_chV, v_iteT, v_iteF, v_call, v_bi, v_isi, v_ix2, v_ix, v_sl3, v_sl2, v_sl, v_tup2, v_tup, v_lst, v_asgn, v_comp, v_meth2, v_meth, v_es2, v_es, v_BVt, v_BVtf, v_BVf, v_BVft, v_BTt, v_BTtf, v_BTf, v_BTft, v_O, v_tru, v_cmpT2, v_cmpT, v_chT3, v_chT2t, v_chT2f, v_chT1, v_chT, v_notT, v_isiT, v_pW, v_itV, v_R1, v_R2b, v_R2, v_asgSeq, v_setIx, v_setIx2, v_sub3, v_sub2, v_sub, v_Ts, v_asg2, v_asg, v_par2, v_par, v_augO, v_aug, v_augV, v_augA, v_augS, v_exp, v_ifT, v_ifF, v_for, v_ret, v_sqN, v_sqR, v_sqB, v_sqC, v_callT, v_ixT2, v_ixT, v_seqL, v_seqT, v_seqW, v_seqC, v_liveW, v_liveC, v_toD, v_toDc, v_frC, v_toDs0, v_toDs, v_Ds, v_Ds2, v_newF, v_newT, v_add, v_subI, v_catT, v_catLL, v_eqI, v_neI, v_eqB, v_neB, v_lt, v_le, v_gt, v_ge, v_is, v_isnot, v_nonN, v_nonI, v_nonB, v_nonT, v_nonL, v_nonC, v_truN, v_truB, v_ixO, v_ixS, v_ixTu, v_ixL, v_ixC, v_at0, v_at1, v_at2, v_at3, v_at4, v_at5, v_at6, v_at7, v_lenO, v_lenS, v_lenL, v_lenT, v_lenC, v_intI, v_intB, v_abs, v_max2, v_min2, v_gcd, v_listL, v_listT, v_listO, v_listC, v_tupleL, v_tupleT, v_tupO, v_tupleC, v_slS, v_slL, v_slT, v_itS, v_itL, v_itT, v_itW, v_itC, v_append, v_app, v_appO, v_pop, v_popO, v_popAt, v_reverse, v_revO, v_isiI, v_isiB, v_isiL, v_isiTu, v_isiS, v_isiN, v_isiC, v_Fb, v_FlN, v_FlC, v_FlB, v_FlR, v_Cl4, v_Cl3, v_Cl2, v_Cl1t, v_Cl1f, v_Cl0, v_encS, v_ptS, v_encI, v_ptI, v_eqE, v_neE, v_eqP, v_neP, v_nonE, v_nonP, v_mulS, v_setC0, v_DC, v_seqDC, v_DCxs, v_mxS, v_mxI, v_sgS, v_sgI, v_setC1, v_setC2, v_setC3, leave_c02, v_frmI, v_dtS, v_dtI, v_eqDt, v_neDt, v_neDt2, v_minDt, v_maxDt, pw_10_9, pw_10_18, pw_10_30, pw_10_12, pw_10_20, pw_10_6, pw_shl, initE, bnd_some, List.getElem?_cons_zero, List.getElem?_cons_succ, List.set_cons_zero, List.set_cons_succ, List.map_cons, List.map_nil, List.length_cons, List.length_nil, List.cons_append, List.nil_append, List.replicate, Nat.reduceAdd, Nat.reduceSub, Nat.reduceLT, Nat.reduceLeDiff, Nat.zero_add, if_true, Bool.false_eq_true, if_false, reduceCtorEq, sizeLine_eq, lBody_eq, lElt_eq, lCnd_eq, List.take_succ_cons, List.take_zero, Int.natCast_zero, Nat.max_def, List.any_cons, List.any_nil, Bool.or_false, Bool.false_or, Bool.and_false, Bool.false_and, Bool.or_true, Bool.true_or, Bool.true_and, Bool.and_true, eq_self, ne_eq, not_true, not_false_eq_true, beq_self_eq_true, Int.lt_irrefl, Int.reduceLT, Int.reduceLE, Int.reduceEq, Bool.true_beq, Bool.false_beq, decide_true, decide_false, Bool.not_true, Bool.not_false]
  rfl
-- _law_corner
theorem corner_ex (k : Nat) (xs : List Int) (s d : Int) (hs : 0 < s ∧ s < 8) (hd : 0 < d ∧ d < 8) (ν : MH) : ∃ (p : Pt) (ys : List Int), (SzQ p.1 100 ∧ SzQ p.2 100) ∧ evF T (k+3) 22 [.c 0, .d (.int s), .d (.int d)] (DC xs :: ν) = some (.d (pt p), DC ys :: ν) := by
  have i1 : Sz s 4 := sz_of (by omega) (by omega)
  have i2 : Sz d 4 := sz_of (by omega) (by omega)
  have hp : 0 < s * d := Int.mul_pos hs.1 hd.1
  have hq : s * d < 64 := by
    have : s * d ≤ 7 * 7 := Int.mul_le_mul (by omega) (by omega) (by omega) (by decide)
    omega
  obtain ⟨a, a1, a2, e1⟩ := take_ex (k+1) xs (s * d + 1) (by omega) ν
  obtain ⟨b, b1, b2, e2⟩ := take_ex (k+1) xs.dropLast (s * d + 1) (by omega) ν
  have i3 : Sz a 100 := sz_of (by omega) (by omega)
  have i4 : Sz b 100 := sz_of (by omega) (by omega)
  have i5 := i2.mono (m := 100) (by decide)
  have e3 := fun μ => @frac_eq k a d μ (by omega) (i3.mono (by decide)) (i2.mono (by decide))
  have e4 := fun μ => @frac_eq k b d μ (by omega) (i4.mono (by decide)) (i2.mono (by decide))
  refine ⟨(Rat.divInt a d, Rat.divInt b d), xs.dropLast.dropLast, ⟨divInt_sz (by omega) i3.h i5.h, divInt_sz (by omega) i4.h i5.h⟩, ?_⟩
  clear i5
  rw [evF_run T_22 rfl]; simp only [df_law_corner, e1, e2, e3, e4, e_var, e_cst, e_bop, e_neg, e_not, e_boo, e_cmp, e_chain, e_ite, e_call, e_bi, e_isi, e_ix, e_sl, e_tup, e_lst, e_comp, e_meth, es_nil, es_cons, bv_one, bv_cons, bt_one, bt_cons, o_none, o_some, c_none, c_some, t_var, t_not, t_boo, t_cmp, t_chain, t_call, t_isi, t_ix, i_val, i_rng1, i_rng2, g_name, g_tup, g_sub, gs_nil, gs_cons, s_asg, s_par, s_aug, s_expr, s_iff, s_for, s_ret, s_retN, s_brk, s_cont, s_pass, ss_nil, ss_cons, leave_next, leave_d, take_all, v_getV, v_bop2, v_bop, v_neg, v_not, v_cmp2, v_cmp, v_bT, v_bV, v_chV3, v_chV2t, v_chV2f, v_chV1, v_chV, v_iteT, v_iteF, v_call, v_bi, v_isi, v_ix2, v_ix, v_sl3, v_sl2, v_sl, v_tup2, v_tup, v_lst, v_asgn, v_comp, v_meth2, v_meth, v_es2, v_es, v_BVt, v_BVtf, v_BVf, v_BVft, v_BTt, v_BTtf, v_BTf, v_BTft, v_O, v_tru, v_cmpT2, v_cmpT, v_chT3, v_chT2t, v_chT2f, v_chT1, v_chT, v_notT, v_isiT, v_pW, v_itV, v_R1, v_R2b, v_R2, v_asgSeq, v_setIx, v_setIx2, v_sub3, v_sub2, v_sub, v_Ts, v_asg2, v_asg, v_par2, v_par, v_augO, v_aug, v_augV, v_augA, v_augS, v_exp, v_ifT, v_ifF, v_for, v_ret, v_sqN, v_sqR, v_sqB, v_sqC, v_callT, v_ixT2, v_ixT, v_seqL, v_seqT, v_seqW, v_seqC, v_liveW, v_liveC, v_toD, v_toDc, v_frC, v_toDs0, v_toDs, v_Ds, v_Ds2, v_newF, v_newT, v_add, v_subI, v_catT, v_catLL, v_eqI, v_neI, v_eqB, v_neB, v_lt, v_le, v_gt, v_ge, v_is, v_isnot, v_nonN, v_nonI, v_nonB, v_nonT, v_nonL, v_nonC, v_truN, v_truB, v_ixO, v_ixS, v_ixTu, v_ixL, v_ixC, v_at0, v_at1, v_at2, v_at3, v_at4, v_at5, v_at6, v_at7, v_lenO, v_lenS, v_lenL, v_lenT, v_lenC, v_intI, v_intB, v_abs, v_max2, v_min2, v_gcd, v_listL, v_listT, v_listO, v_listC, v_tupleL, v_tupleT, v_tupO, v_tupleC, v_slS, v_slL, v_slT, v_itS, v_itL, v_itT, v_itW, v_itC, v_append, v_app, v_appO, v_pop, v_popO, v_popAt, v_reverse, v_revO, v_isiI, v_isiB, v_isiL, v_isiTu, v_isiS, v_isiN, v_isiC, v_Fb, v_FlN, v_FlC, v_FlB, v_FlR, v_Cl4, v_Cl3, v_Cl2, v_Cl1t, v_Cl1f, v_Cl0, v_encS, v_ptS, v_encI, v_ptI, v_eqE, v_neE, v_eqP, v_neP, v_nonE, v_nonP, v_mulS, v_setC0, v_DC, v_seqDC, v_DCxs, v_mxS, v_mxI, v_sgS, v_sgI, v_setC1, v_setC2, v_setC3, leave_c02, v_frmI, v_dtS, v_dtI, v_eqDt, v_neDt, v_neDt2, v_minDt, v_maxDt, pw_10_9, pw_10_18, pw_10_30, pw_10_12, pw_10_20, pw_10_6, pw_shl, initE, bnd_some, List.getElem?_cons_zero, List.getElem?_cons_succ, List.set_cons_zero, List.set_cons_succ, List.map_cons, List.map_nil, List.length_cons, List.length_nil, List.cons_append, List.nil_append, List.replicate, Nat.reduceAdd, Nat.reduceSub, Nat.reduceLT, Nat.reduceLeDiff, Nat.zero_add, if_true, Bool.false_eq_true, if_false, reduceCtorEq, sizeLine_eq, lBody_eq, lElt_eq, lCnd_eq, List.take_succ_cons, List.take_zero, Int.natCast_zero, Nat.max_def, List.any_cons, List.any_nil, Bool.or_false, Bool.false_or, Bool.and_false, Bool.false_and, Bool.or_true, Bool.true_or, Bool.true_and, Bool.and_true, eq_self, ne_eq, not_true, not_false_eq_true, beq_self_eq_true, Int.lt_irrefl, Int.reduceLT, Int.reduceLE, Int.reduceEq, Bool.true_beq, Bool.false_beq, decide_true, decide_false, Bool.not_true, Bool.not_false]
  rfl
-- _law_drawn_one
theorem drawn_one_ex (k : Nat) (xs : List Int) (s d : Int) (hs : 0 < s ∧ s < 8) (hd : 0 < d ∧ d < 8) (ν : MH) : ∃ (p : Pt × Pt) (ys : List Int), Sg4 p 101 ∧ evF T (k+4) 23 [.c 0, .d (.int s), .d (.int d)] (DC xs :: ν) = some (.d (sgT p), DC ys :: ν) := by
  obtain ⟨p, x1, ⟨p1, p2⟩, e1⟩ := corner_ex k xs s d hs hd ν
  obtain ⟨q, x2, ⟨q1, q2⟩, e2⟩ := corner_ex k x1 s d hs hd ν
  have bt : ∀ (a b : Pt), SzQ a.1 101 → SzQ a.2 101 → SzQ b.1 101 → SzQ b.2 101 → Sg4 (btw a b) 101 := fun a b h1 h2 h3 h4 => by
    unfold btw; split <;> constructor <;> assumption
  have e3 := fun μ => @step_eq (k+2) q.1 q1 μ
  have s3 := @stp_sz q.1 q1
  by_cases h : p = q
  · have h' : decide (p = q) = true := decide_eq_true h
    refine ⟨btw p (stp q.1, q.2), x2, bt _ _ (p1.mono (by decide)) (p2.mono (by decide)) s3 (q2.mono (by decide)), ?_⟩
    have e4 : ∀ μ, evF T (k+3) 20 [.d (pt p), .d (.tuple [enc (stp q.1), enc q.2])] μ = some (.d (sgT (btw p (stp q.1, q.2))), μ) := fun μ => @joining_eq k p (stp q.1, q.2) μ (p1.mono (by decide)) (p2.mono (by decide)) (s3.mono (by decide)) (q2.mono (by decide))
    rw [evF_run T_23 rfl]; simp only [df_law_drawn_one, e1, e2, e3, e4, h', e_var, e_cst, e_bop, e_neg, e_not, e_boo, e_cmp, e_chain, e_ite, e_call, e_bi, e_isi, e_ix, e_sl, e_tup, e_lst, e_comp, e_meth, es_nil, es_cons, bv_one, bv_cons, bt_one, bt_cons, o_none, o_some, c_none, c_some, t_var, t_not, t_boo, t_cmp, t_chain, t_call, t_isi, t_ix, i_val, i_rng1, i_rng2, g_name, g_tup, g_sub, gs_nil, gs_cons, s_asg, s_par, s_aug, s_expr, s_iff, s_for, s_ret, s_retN, s_brk, s_cont, s_pass, ss_nil, ss_cons, leave_next, leave_d, take_all, v_getV, v_bop2, v_bop, v_neg, v_not, v_cmp2, v_cmp, v_bT, v_bV, v_chV3, v_chV2t, v_chV2f, v_chV1, v_chV, v_iteT, v_iteF, v_call, v_bi, v_isi, v_ix2, v_ix, v_sl3, v_sl2, v_sl, v_tup2, v_tup, v_lst, v_asgn, v_comp, v_meth2, v_meth, v_es2, v_es, v_BVt, v_BVtf, v_BVf, v_BVft, v_BTt, v_BTtf, v_BTf, v_BTft, v_O, v_tru, v_cmpT2, v_cmpT, v_chT3, v_chT2t, v_chT2f, v_chT1, v_chT, v_notT, v_isiT, v_pW, v_itV, v_R1, v_R2b, v_R2, v_asgSeq, v_setIx, v_setIx2, v_sub3, v_sub2, v_sub, v_Ts, v_asg2, v_asg, v_par2, v_par, v_augO, v_aug, v_augV, v_augA, v_augS, v_exp, v_ifT, v_ifF, v_for, v_ret, v_sqN, v_sqR, v_sqB, v_sqC, v_callT, v_ixT2, v_ixT, v_seqL, v_seqT, v_seqW, v_seqC, v_liveW, v_liveC, v_toD, v_toDc, v_frC, v_toDs0, v_toDs, v_Ds, v_Ds2, v_newF, v_newT, v_add, v_subI, v_catT, v_catLL, v_eqI, v_neI, v_eqB, v_neB, v_lt, v_le, v_gt, v_ge, v_is, v_isnot, v_nonN, v_nonI, v_nonB, v_nonT, v_nonL, v_nonC, v_truN, v_truB, v_ixO, v_ixS, v_ixTu, v_ixL, v_ixC, v_at0, v_at1, v_at2, v_at3, v_at4, v_at5, v_at6, v_at7, v_lenO, v_lenS, v_lenL, v_lenT, v_lenC, v_intI, v_intB, v_abs, v_max2, v_min2, v_gcd, v_listL, v_listT, v_listO, v_listC, v_tupleL, v_tupleT, v_tupO, v_tupleC, v_slS, v_slL, v_slT, v_itS, v_itL, v_itT, v_itW, v_itC, v_append, v_app, v_appO, v_pop, v_popO, v_popAt, v_reverse, v_revO, v_isiI, v_isiB, v_isiL, v_isiTu, v_isiS, v_isiN, v_isiC, v_Fb, v_FlN, v_FlC, v_FlB, v_FlR, v_Cl4, v_Cl3, v_Cl2, v_Cl1t, v_Cl1f, v_Cl0, v_encS, v_ptS, v_encI, v_ptI, v_eqE, v_neE, v_eqP, v_neP, v_nonE, v_nonP, v_mulS, v_setC0, v_DC, v_seqDC, v_DCxs, v_mxS, v_mxI, v_sgS, v_sgI, v_setC1, v_setC2, v_setC3, leave_c02, v_frmI, v_dtS, v_dtI, v_eqDt, v_neDt, v_neDt2, v_minDt, v_maxDt, pw_10_9, pw_10_18, pw_10_30, pw_10_12, pw_10_20, pw_10_6, pw_shl, initE, bnd_some, List.getElem?_cons_zero, List.getElem?_cons_succ, List.set_cons_zero, List.set_cons_succ, List.map_cons, List.map_nil, List.length_cons, List.length_nil, List.cons_append, List.nil_append, List.replicate, Nat.reduceAdd, Nat.reduceSub, Nat.reduceLT, Nat.reduceLeDiff, Nat.zero_add, if_true, Bool.false_eq_true, if_false, reduceCtorEq, sizeLine_eq, lBody_eq, lElt_eq, lCnd_eq, List.take_succ_cons, List.take_zero, Int.natCast_zero, Nat.max_def, List.any_cons, List.any_nil, Bool.or_false, Bool.false_or, Bool.and_false, Bool.false_and, Bool.or_true, Bool.true_or, Bool.true_and, Bool.and_true, eq_self, ne_eq, not_true, not_false_eq_true, beq_self_eq_true, Int.lt_irrefl, Int.reduceLT, Int.reduceLE, Int.reduceEq, Bool.true_beq, Bool.false_beq, decide_true, decide_false, Bool.not_true, Bool.not_false]
  · refine ⟨btw p q, x2, bt _ _ (p1.mono (by decide)) (p2.mono (by decide)) (q1.mono (by decide)) (q2.mono (by decide)), ?_⟩
    have e4 := fun μ => @joining_eq k p q μ (p1.mono (by decide)) (p2.mono (by decide)) (q1.mono (by decide)) (q2.mono (by decide))
    rw [evF_run T_23 rfl]; simp only [df_law_drawn_one, e1, e2, e3, e4, h, e_var, e_cst, e_bop, e_neg, e_not, e_boo, e_cmp, e_chain, e_ite, e_call, e_bi, e_isi, e_ix, e_sl, e_tup, e_lst, e_comp, e_meth, es_nil, es_cons, bv_one, bv_cons, bt_one, bt_cons, o_none, o_some, c_none, c_some, t_var, t_not, t_boo, t_cmp, t_chain, t_call, t_isi, t_ix, i_val, i_rng1, i_rng2, g_name, g_tup, g_sub, gs_nil, gs_cons, s_asg, s_par, s_aug, s_expr, s_iff, s_for, s_ret, s_retN, s_brk, s_cont, s_pass, ss_nil, ss_cons, leave_next, leave_d, take_all, v_getV, v_bop2, v_bop, v_neg, v_not, v_cmp2, v_cmp, v_bT, v_bV, v_chV3, v_chV2t, v_chV2f, v_chV1, v_chV, v_iteT, v_iteF, v_call, v_bi, v_isi, v_ix2, v_ix, v_sl3, v_sl2, v_sl, v_tup2, v_tup, v_lst, v_asgn, v_comp, v_meth2, v_meth, v_es2, v_es, v_BVt, v_BVtf, v_BVf, v_BVft, v_BTt, v_BTtf, v_BTf, v_BTft, v_O, v_tru, v_cmpT2, v_cmpT, v_chT3, v_chT2t, v_chT2f, v_chT1, v_chT, v_notT, v_isiT, v_pW, v_itV, v_R1, v_R2b, v_R2, v_asgSeq, v_setIx, v_setIx2, v_sub3, v_sub2, v_sub, v_Ts, v_asg2, v_asg, v_par2, v_par, v_augO, v_aug, v_augV, v_augA, v_augS, v_exp, v_ifT, v_ifF, v_for, v_ret, v_sqN, v_sqR, v_sqB, v_sqC, v_callT, v_ixT2, v_ixT, v_seqL, v_seqT, v_seqW, v_seqC, v_liveW, v_liveC, v_toD, v_toDc, v_frC, v_toDs0, v_toDs, v_Ds, v_Ds2, v_newF, v_newT, v_add, v_subI, v_catT, v_catLL, v_eqI, v_neI, v_eqB, v_neB, v_lt, v_le, v_gt, v_ge, v_is, v_isnot, v_nonN, v_nonI, v_nonB, v_nonT, v_nonL, v_nonC, v_truN, v_truB, v_ixO, v_ixS, v_ixTu, v_ixL, v_ixC, v_at0, v_at1, v_at2, v_at3, v_at4, v_at5, v_at6, v_at7, v_lenO, v_lenS, v_lenL, v_lenT, v_lenC, v_intI, v_intB, v_abs, v_max2, v_min2, v_gcd, v_listL, v_listT, v_listO, v_listC, v_tupleL, v_tupleT, v_tupO, v_tupleC, v_slS, v_slL, v_slT, v_itS, v_itL, v_itT, v_itW, v_itC, v_append, v_app, v_appO, v_pop, v_popO, v_popAt, v_reverse, v_revO, v_isiI, v_isiB, v_isiL, v_isiTu, v_isiS, v_isiN, v_isiC, v_Fb, v_FlN, v_FlC, v_FlB, v_FlR, v_Cl4, v_Cl3, v_Cl2, v_Cl1t, v_Cl1f, v_Cl0, v_encS, v_ptS, v_encI, v_ptI, v_eqE, v_neE, v_eqP, v_neP, v_nonE, v_nonP, v_mulS, v_setC0, v_DC, v_seqDC, v_DCxs, v_mxS, v_mxI, v_sgS, v_sgI, v_setC1, v_setC2, v_setC3, leave_c02, v_frmI, v_dtS, v_dtI, v_eqDt, v_neDt, v_neDt2, v_minDt, v_maxDt, pw_10_9, pw_10_18, pw_10_30, pw_10_12, pw_10_20, pw_10_6, pw_shl, initE, bnd_some, List.getElem?_cons_zero, List.getElem?_cons_succ, List.set_cons_zero, List.set_cons_succ, List.map_cons, List.map_nil, List.length_cons, List.length_nil, List.cons_append, List.nil_append, List.replicate, Nat.reduceAdd, Nat.reduceSub, Nat.reduceLT, Nat.reduceLeDiff, Nat.zero_add, if_true, Bool.false_eq_true, if_false, reduceCtorEq, sizeLine_eq, lBody_eq, lElt_eq, lCnd_eq, List.take_succ_cons, List.take_zero, Int.natCast_zero, Nat.max_def, List.any_cons, List.any_nil, Bool.or_false, Bool.false_or, Bool.and_false, Bool.false_and, Bool.or_true, Bool.true_or, Bool.true_and, Bool.and_true, eq_self, ne_eq, not_true, not_false_eq_true, beq_self_eq_true, Int.lt_irrefl, Int.reduceLT, Int.reduceLE, Int.reduceEq, Bool.true_beq, Bool.false_beq, decide_true, decide_false, Bool.not_true, Bool.not_false]
-- _law_moved_spot
theorem moved_spot_eq (k : Nat) (p : Pt) (f h : Int) (hf : f.natAbs < 2 ^ 80) (hh : h.natAbs < 2 ^ 80) (h1 : SzQ p.1 101) (h2 : SzQ p.2 101) (μ : MH) : evF T (k+4) 24 [.d (pt p), .d (.int f), .d (.int h)] μ = some (.d (pt (p.1 * (f : Rat) + (h : Rat), p.2 * (f : Rat) + ((0 - h : Int) : Rat))), μ) := by
  have cs : ∀ i : Int, i.natAbs < 2 ^ 81 → SzQ (i : Rat) 82 := fun i h => ⟨by rw [Rat.num_intCast]; exact Nat.lt_of_lt_of_le h (Nat.pow_le_pow_right (by decide) (by decide)), by rw [Rat.den_intCast]; decide⟩
  have c1 := cs f (Nat.lt_of_lt_of_le hf (Nat.pow_le_pow_right (by decide) (by decide)))
  have c2 := cs h (Nat.lt_of_lt_of_le hh (Nat.pow_le_pow_right (by decide) (by decide)))
  have c3 := cs (0 - h) (by rw [Int.zero_sub, Int.natAbs_neg]; exact Nat.lt_of_lt_of_le hh (Nat.pow_le_pow_right (by decide) (by decide)))
  have d1 : SzQ (p.1 * (f : Rat)) (101 + 82) := inferInstance
  have d2 : SzQ (p.2 * (f : Rat)) (101 + 82) := inferInstance
  have e1 : ∀ μ, evF T (k+3) 17 [.d (enc p.1), .d (.tuple [.int f, .int 1])] μ = some (.d (enc (p.1 * (f : Rat))), μ) := fun μ => @product_eq k p.1 (f : Rat) μ (h1.mono (by decide)) (c1.mono (by decide))
  have e2 : ∀ μ, evF T (k+3) 17 [.d (enc p.2), .d (.tuple [.int f, .int 1])] μ = some (.d (enc (p.2 * (f : Rat))), μ) := fun μ => @product_eq k p.2 (f : Rat) μ (h2.mono (by decide)) (c1.mono (by decide))
  have e3 : ∀ μ, evF T (k+3) 15 [.d (enc (p.1 * (f : Rat))), .d (.tuple [.int h, .int 1])] μ = some (.d (enc (p.1 * (f : Rat) + (h : Rat))), μ) := fun μ => @plus_eq k _ (h : Rat) μ (d1.mono (by decide)) (c2.mono (by decide))
  have e4 : ∀ μ, evF T (k+3) 15 [.d (enc (p.2 * (f : Rat))), .d (.tuple [.int (0 - h), .int 1])] μ = some (.d (enc (p.2 * (f : Rat) + ((0 - h : Int) : Rat))), μ) := fun μ => @plus_eq k _ ((0 - h : Int) : Rat) μ (d2.mono (by decide)) (c3.mono (by decide))
  rw [evF_run T_24 rfl]; simp only [df_law_moved_spot, e1, e2, e3, e4, e_var, e_cst, e_bop, e_neg, e_not, e_boo, e_cmp, e_chain, e_ite, e_call, e_bi, e_isi, e_ix, e_sl, e_tup, e_lst, e_comp, e_meth, es_nil, es_cons, bv_one, bv_cons, bt_one, bt_cons, o_none, o_some, c_none, c_some, t_var, t_not, t_boo, t_cmp, t_chain, t_call, t_isi, t_ix, i_val, i_rng1, i_rng2, g_name, g_tup, g_sub, gs_nil, gs_cons, s_asg, s_par, s_aug, s_expr, s_iff, s_for, s_ret, s_retN, s_brk, s_cont, s_pass, ss_nil, ss_cons, leave_next, leave_d, take_all, v_getV, v_bop2, v_bop, v_neg, v_not, v_cmp2, v_cmp, v_bT, v_bV, v_chV3, v_chV2t, v_chV2f, v_chV1, v_chV, v_iteT, v_iteF, v_call, v_bi, v_isi, v_ix2, v_ix, v_sl3, v_sl2, v_sl, v_tup2, v_tup, v_lst, v_asgn, v_comp, v_meth2, v_meth, v_es2, v_es, v_BVt, v_BVtf, v_BVf, v_BVft, v_BTt, v_BTtf, v_BTf, v_BTft, v_O, v_tru, v_cmpT2, v_cmpT, v_chT3, v_chT2t, v_chT2f, v_chT1, v_chT, v_notT, v_isiT, v_pW, v_itV, v_R1, v_R2b, v_R2, v_asgSeq, v_setIx, v_setIx2, v_sub3, v_sub2, v_sub, v_Ts, v_asg2, v_asg, v_par2, v_par, v_augO, v_aug, v_augV, v_augA, v_augS, v_exp, v_ifT, v_ifF, v_for, v_ret, v_sqN, v_sqR, v_sqB, v_sqC, v_callT, v_ixT2, v_ixT, v_seqL, v_seqT, v_seqW, v_seqC, v_liveW, v_liveC, v_toD, v_toDc, v_frC, v_toDs0, v_toDs, v_Ds, v_Ds2, v_newF, v_newT, v_add, v_subI, v_catT, v_catLL, v_eqI, v_neI, v_eqB, v_neB, v_lt, v_le, v_gt, v_ge, v_is, v_isnot, v_nonN, v_nonI, v_nonB, v_nonT, v_nonL, v_nonC, v_truN, v_truB, v_ixO, v_ixS, v_ixTu, v_ixL, v_ixC, v_at0, v_at1, v_at2, v_at3, v_at4, v_at5, v_at6, v_at7, v_lenO, v_lenS, v_lenL, v_lenT, v_lenC, v_intI, v_intB, v_abs, v_max2, v_min2, v_gcd, v_listL, v_listT, v_listO, v_listC, v_tupleL, v_tupleT, v_tupO, v_tupleC, v_slS, v_slL, v_slT, v_itS, v_itL, v_itT, v_itW, v_itC, v_append, v_app, v_appO, v_pop, v_popO, v_popAt, v_reverse, v_revO, v_isiI, v_isiB, v_isiL, v_isiTu, v_isiS, v_isiN, v_isiC, v_Fb, v_FlN, v_FlC, v_FlB, v_FlR, v_Cl4, v_Cl3, v_Cl2, v_Cl1t, v_Cl1f, v_Cl0, v_encS, v_ptS, v_encI, v_ptI, v_eqE, v_neE, v_eqP, v_neP, v_nonE, v_nonP, v_mulS, v_setC0, v_DC, v_seqDC, v_DCxs, v_mxS, v_mxI, v_sgS, v_sgI, v_setC1, v_setC2, v_setC3, leave_c02, v_frmI, v_dtS, v_dtI, v_eqDt, v_neDt, v_neDt2, v_minDt, v_maxDt, pw_10_9, pw_10_18, pw_10_30, pw_10_12, pw_10_20, pw_10_6, pw_shl, initE, bnd_some, List.getElem?_cons_zero, List.getElem?_cons_succ, List.set_cons_zero, List.set_cons_succ, List.map_cons, List.map_nil, List.length_cons, List.length_nil, List.cons_append, List.nil_append, List.replicate, Nat.reduceAdd, Nat.reduceSub, Nat.reduceLT, Nat.reduceLeDiff, Nat.zero_add, if_true, Bool.false_eq_true, if_false, reduceCtorEq, sizeLine_eq, lBody_eq, lElt_eq, lCnd_eq, List.take_succ_cons, List.take_zero, Int.natCast_zero, Nat.max_def, List.any_cons, List.any_nil, Bool.or_false, Bool.false_or, Bool.and_false, Bool.false_and, Bool.or_true, Bool.true_or, Bool.true_and, Bool.and_true, eq_self, ne_eq, not_true, not_false_eq_true, beq_self_eq_true, Int.lt_irrefl, Int.reduceLT, Int.reduceLE, Int.reduceEq, Bool.true_beq, Bool.false_beq, decide_true, decide_false, Bool.not_true, Bool.not_false]
  rfl
-- _law_drawn_matrix
theorem drawn_matrix_ex (k : Nat) (xs : List Int) : ∃ (m : Mx) (ys : List Int), m.Ok 45 ∧ evF T (k+4) 26 [.c 0] [DC xs] = some (.d m.D, [DC ys]) := by
  obtain ⟨zs, μ1, e1, ⟨y1, rfl⟩, hz, hP⟩ := compL_inv (asg := lAsg (evF T (k+3)) (.name 3)) (cond := lCnd (evF T (k+3)) .none) (elt := lElt (evF T (k+3)) (.call 14 (.cons (.bop false .sub (.call 10 (.cons (.var 0) (.cons (.cst (.int 7)) .nil))) (.cst (.int 3))) (.cons (.bop false .add (.cst (.int 1)) (.call 10 (.cons (.var 0) (.cons (.cst (.int 2)) .nil)))) .nil))))
    (all := rngD 0 (6 : Int).toNat) (env := [some (.c 0), none, none, none]) (fun m => ∃ ys, m = [DC ys]) (fun z => ∃ q, SzQ q 44 ∧ z = enc q) (rngD 0 (6 : Int).toNat) [DC xs] ⟨xs, rfl⟩ (by
      rintro x hx m ⟨ys, rfl⟩
      obtain ⟨a, a1, a2, g1⟩ := take_ex (k+2) ys 7 (by decide) []
      obtain ⟨b, b1, b2, g2⟩ := take_ex (k+2) ys.dropLast 2 (by decide) []
      have i1 : Sz (a - 3) 44 := sz_of (by omega) (by omega)
      have i2 : Sz (1 + b) 44 := sz_of (by omega) (by omega)
      have g3 := fun μ => @frac_eq (k+1) (a - 3) (1 + b) μ (by omega) (i1.mono (by decide)) (i2.mono (by decide))
      refine ⟨_, enc (Rat.divInt (a - 3) (1 + b)), [DC ys.dropLast.dropLast], by simp only [e_var, e_cst, e_bop, e_neg, e_not, e_boo, e_cmp, e_chain, e_ite, e_call, e_bi, e_isi, e_ix, e_sl, e_tup, e_lst, e_comp, e_meth, es_nil, es_cons, bv_one, bv_cons, bt_one, bt_cons, o_none, o_some, c_none, c_some, t_var, t_not, t_boo, t_cmp, t_chain, t_call, t_isi, t_ix, i_val, i_rng1, i_rng2, g_name, g_tup, g_sub, gs_nil, gs_cons, s_asg, s_par, s_aug, s_expr, s_iff, s_for, s_ret, s_retN, s_brk, s_cont, s_pass, ss_nil, ss_cons, leave_next, leave_d, take_all, v_getV, v_bop2, v_bop, v_neg, v_not, v_cmp2, v_cmp, v_bT, v_bV, v_chV3, v_chV2t, v_chV2f, v_chV1, v_chV, v_iteT, v_iteF, v_call, v_bi, v_isi, v_ix2, v_ix, v_sl3, v_sl2, v_sl, v_tup2, v_tup, v_lst, v_asgn, v_comp, v_meth2, v_meth, v_es2, v_es, v_BVt, v_BVtf, v_BVf, v_BVft, v_BTt, v_BTtf, v_BTf, v_BTft, v_O, v_tru, v_cmpT2, v_cmpT, v_chT3, v_chT2t, v_chT2f, v_chT1, v_chT, v_notT, v_isiT, v_pW, v_itV, v_R1, v_R2b, v_R2, v_asgSeq, v_setIx, v_setIx2, v_sub3, v_sub2, v_sub, v_Ts, v_asg2, v_asg, v_par2, v_par, v_augO, v_aug, v_augV, v_augA, v_augS, v_exp, v_ifT, v_ifF, v_for, v_ret, v_sqN, v_sqR, v_sqB, v_sqC, v_callT, v_ixT2, v_ixT, v_seqL, v_seqT, v_seqW, v_seqC, v_liveW, v_liveC, v_toD, v_toDc, v_frC, v_toDs0, v_toDs, v_Ds, v_Ds2, v_newF, v_newT, v_add, v_subI, v_catT, v_catLL, v_eqI, v_neI, v_eqB, v_neB, v_lt, v_le, v_gt, v_ge, v_is, v_isnot, v_nonN, v_nonI, v_nonB, v_nonT, v_nonL, v_nonC, v_truN, v_truB, v_ixO, v_ixS, v_ixTu, v_ixL, v_ixC, v_at0, v_at1, v_at2, v_at3, v_at4, v_at5, v_at6, v_at7, v_lenO, v_lenS, v_lenL, v_lenT, v_lenC, v_intI, v_intB, v_abs, v_max2, v_min2, v_gcd, v_listL, v_listT, v_listO, v_listC, v_tupleL, v_tupleT, v_tupO, v_tupleC, v_slS, v_slL, v_slT, v_itS, v_itL, v_itT, v_itW, v_itC, v_append, v_app, v_appO, v_pop, v_popO, v_popAt, v_reverse, v_revO, v_isiI, v_isiB, v_isiL, v_isiTu, v_isiS, v_isiN, v_isiC, v_Fb, v_FlN, v_FlC, v_FlB, v_FlR, v_Cl4, v_Cl3, v_Cl2, v_Cl1t, v_Cl1f, v_Cl0, v_encS, v_ptS, v_encI, v_ptI, v_eqE, v_neE, v_eqP, v_neP, v_nonE, v_nonP, v_mulS, v_setC0, v_DC, v_seqDC, v_DCxs, v_mxS, v_mxI, v_sgS, v_sgI, v_setC1, v_setC2, v_setC3, leave_c02, v_frmI, v_dtS, v_dtI, v_eqDt, v_neDt, v_neDt2, v_minDt, v_maxDt, pw_10_9, pw_10_18, pw_10_30, pw_10_12, pw_10_20, pw_10_6, pw_shl, initE, bnd_some, List.getElem?_cons_zero, List.getElem?_cons_succ, List.set_cons_zero, List.set_cons_succ, List.map_cons, List.map_nil, List.length_cons, List.length_nil, List.cons_append, List.nil_append, List.replicate, Nat.reduceAdd, Nat.reduceSub, Nat.reduceLT, Nat.reduceLeDiff, Nat.zero_add, if_true, Bool.false_eq_true, if_false, reduceCtorEq, sizeLine_eq, lBody_eq, lElt_eq, lCnd_eq, List.take_succ_cons, List.take_zero, Int.natCast_zero, Nat.max_def, List.any_cons, List.any_nil, Bool.or_false, Bool.false_or, Bool.and_false, Bool.false_and, Bool.or_true, Bool.true_or, Bool.true_and, Bool.and_true, eq_self, ne_eq, not_true, not_false_eq_true, beq_self_eq_true, Int.lt_irrefl, Int.reduceLT, Int.reduceLE, Int.reduceEq, Bool.true_beq, Bool.false_beq, decide_true, decide_false, Bool.not_true, Bool.not_false]; rfl, by simp only [e_var, e_cst, e_bop, e_neg, e_not, e_boo, e_cmp, e_chain, e_ite, e_call, e_bi, e_isi, e_ix, e_sl, e_tup, e_lst, e_comp, e_meth, es_nil, es_cons, bv_one, bv_cons, bt_one, bt_cons, o_none, o_some, c_none, c_some, t_var, t_not, t_boo, t_cmp, t_chain, t_call, t_isi, t_ix, i_val, i_rng1, i_rng2, g_name, g_tup, g_sub, gs_nil, gs_cons, s_asg, s_par, s_aug, s_expr, s_iff, s_for, s_ret, s_retN, s_brk, s_cont, s_pass, ss_nil, ss_cons, leave_next, leave_d, take_all, v_getV, v_bop2, v_bop, v_neg, v_not, v_cmp2, v_cmp, v_bT, v_bV, v_chV3, v_chV2t, v_chV2f, v_chV1, v_chV, v_iteT, v_iteF, v_call, v_bi, v_isi, v_ix2, v_ix, v_sl3, v_sl2, v_sl, v_tup2, v_tup, v_lst, v_asgn, v_comp, v_meth2, v_meth, v_es2, v_es, v_BVt, v_BVtf, v_BVf, v_BVft, v_BTt, v_BTtf, v_BTf, v_BTft, v_O, v_tru, v_cmpT2, v_cmpT, v_chT3, v_chT2t, v_chT2f, v_chT1, v_chT, v_notT, v_isiT, v_pW, v_itV, v_R1, v_R2b, v_R2, v_asgSeq, v_setIx, v_setIx2, v_sub3, v_sub2, v_sub, v_Ts, v_asg2, v_asg, v_par2, v_par, v_augO, v_aug, v_augV, v_augA, v_augS, v_exp, v_ifT, v_ifF, v_for, v_ret, v_sqN, v_sqR, v_sqB, v_sqC, v_callT, v_ixT2, v_ixT, v_seqL, v_seqT, v_seqW, v_seqC, v_liveW, v_liveC, v_toD, v_toDc, v_frC, v_toDs0, v_toDs, v_Ds, v_Ds2, v_newF, v_newT, v_add, v_subI, v_catT, v_catLL, v_eqI, v_neI, v_eqB, v_neB, v_lt, v_le, v_gt, v_ge, v_is, v_isnot, v_nonN, v_nonI, v_nonB, v_nonT, v_nonL, v_nonC, v_truN, v_truB, v_ixO, v_ixS, v_ixTu, v_ixL, v_ixC, v_at0, v_at1, v_at2, v_at3, v_at4, v_at5, v_at6, v_at7, v_lenO, v_lenS, v_lenL, v_lenT, v_lenC, v_intI, v_intB, v_abs, v_max2, v_min2, v_gcd, v_listL, v_listT, v_listO, v_listC, v_tupleL, v_tupleT, v_tupO, v_tupleC, v_slS, v_slL, v_slT, v_itS, v_itL, v_itT, v_itW, v_itC, v_append, v_app, v_appO, v_pop, v_popO, v_popAt, v_reverse, v_revO, v_isiI, v_isiB, v_isiL, v_isiTu, v_isiS, v_isiN, v_isiC, v_Fb, v_FlN, v_FlC, v_FlB, v_FlR, v_Cl4, v_Cl3, v_Cl2, v_Cl1t, v_Cl1f, v_Cl0, v_encS, v_ptS, v_encI, v_ptI, v_eqE, v_neE, v_eqP, v_neP, v_nonE, v_nonP, v_mulS, v_setC0, v_DC, v_seqDC, v_DCxs, v_mxS, v_mxI, v_sgS, v_sgI, v_setC1, v_setC2, v_setC3, leave_c02, v_frmI, v_dtS, v_dtI, v_eqDt, v_neDt, v_neDt2, v_minDt, v_maxDt, pw_10_9, pw_10_18, pw_10_30, pw_10_12, pw_10_20, pw_10_6, pw_shl, initE, bnd_some, List.getElem?_cons_zero, List.getElem?_cons_succ, List.set_cons_zero, List.set_cons_succ, List.map_cons, List.map_nil, List.length_cons, List.length_nil, List.cons_append, List.nil_append, List.replicate, Nat.reduceAdd, Nat.reduceSub, Nat.reduceLT, Nat.reduceLeDiff, Nat.zero_add, if_true, Bool.false_eq_true, if_false, reduceCtorEq, sizeLine_eq, lBody_eq, lElt_eq, lCnd_eq, List.take_succ_cons, List.take_zero, Int.natCast_zero, Nat.max_def, List.any_cons, List.any_nil, Bool.or_false, Bool.false_or, Bool.and_false, Bool.false_and, Bool.or_true, Bool.true_or, Bool.true_and, Bool.and_true, eq_self, ne_eq, not_true, not_false_eq_true, beq_self_eq_true, Int.lt_irrefl, Int.reduceLT, Int.reduceLE, Int.reduceEq, Bool.true_beq, Bool.false_beq, decide_true, decide_false, Bool.not_true, Bool.not_false], ?_, ⟨_, rfl⟩, _, divInt_sz (by omega) i1.h i2.h, rfl⟩
      simp only [g1, g2, g3, e_var, e_cst, e_bop, e_neg, e_not, e_boo, e_cmp, e_chain, e_ite, e_call, e_bi, e_isi, e_ix, e_sl, e_tup, e_lst, e_comp, e_meth, es_nil, es_cons, bv_one, bv_cons, bt_one, bt_cons, o_none, o_some, c_none, c_some, t_var, t_not, t_boo, t_cmp, t_chain, t_call, t_isi, t_ix, i_val, i_rng1, i_rng2, g_name, g_tup, g_sub, gs_nil, gs_cons, s_asg, s_par, s_aug, s_expr, s_iff, s_for, s_ret, s_retN, s_brk, s_cont, s_pass, ss_nil, ss_cons, leave_next, leave_d, take_all, v_getV, v_bop2, v_bop, v_neg, v_not, v_cmp2, v_cmp, v_bT, v_bV, v_chV3, v_chV2t, v_chV2f, v_chV1, v_chV, v_iteT, v_iteF, v_call, v_bi, v_isi, v_ix2, v_ix, v_sl3, v_sl2, v_sl, v_tup2, v_tup, v_lst, v_asgn, v_comp, v_meth2, v_meth, v_es2, v_es, v_BVt, v_BVtf, v_BVf, v_BVft, v_BTt, v_BTtf, v_BTf, v_BTft, v_O, v_tru, v_cmpT2, v_cmpT, v_chT3, v_chT2t, v_chT2f, v_chT1, v_chT, v_notT, v_isiT, v_pW, v_itV, v_R1, v_R2b, v_R2, v_asgSeq, v_setIx, v_setIx2, v_sub3, v_sub2, v_sub, v_Ts, v_asg2, v_asg, v_par2, v_par, v_augO, v_aug, v_augV, v_augA, v_augS, v_exp, v_ifT, v_ifF, v_for, v_ret, v_sqN, v_sqR, v_sqB, v_sqC, v_callT, v_ixT2, v_ixT, v_seqL, v_seqT, v_seqW, v_seqC, v_liveW, v_liveC, v_toD, v_toDc, v_frC, v_toDs0, v_toDs, v_Ds, v_Ds2, v_newF, v_newT, v_add, v_subI, v_catT, v_catLL, v_eqI, v_neI, v_eqB, v_neB, v_lt, v_le, v_gt, v_ge, v_is, v_isnot, v_nonN, v_nonI, v_nonB, v_nonT, v_nonL, v_nonC, v_truN, v_truB, v_ixO, v_ixS, v_ixTu, v_ixL, v_ixC, v_at0, v_at1, v_at2, v_at3, v_at4, v_at5, v_at6, v_at7, v_lenO, v_lenS, v_lenL, v_lenT, v_lenC, v_intI, v_intB, v_abs, v_max2, v_min2, v_gcd, v_listL, v_listT, v_listO, v_listC, v_tupleL, v_tupleT, v_tupO, v_tupleC, v_slS, v_slL, v_slT, v_itS, v_itL, v_itT, v_itW, v_itC, v_append, v_app, v_appO, v_pop, v_popO, v_popAt, v_reverse, v_revO, v_isiI, v_isiB, v_isiL, v_isiTu, v_isiS, v_isiN, v_isiC, v_Fb, v_FlN, v_FlC, v_FlB, v_FlR, v_Cl4, v_Cl3, v_Cl2, v_Cl1t, v_Cl1f, v_Cl0, v_encS, v_ptS, v_encI, v_ptI, v_eqE, v_neE, v_eqP, v_neP, v_nonE, v_nonP, v_mulS, v_setC0, v_DC, v_seqDC, v_DCxs, v_mxS, v_mxI, v_sgS, v_sgI, v_setC1, v_setC2, v_setC3, leave_c02, v_frmI, v_dtS, v_dtI, v_eqDt, v_neDt, v_neDt2, v_minDt, v_maxDt, pw_10_9, pw_10_18, pw_10_30, pw_10_12, pw_10_20, pw_10_6, pw_shl, initE, bnd_some, List.getElem?_cons_zero, List.getElem?_cons_succ, List.set_cons_zero, List.set_cons_succ, List.map_cons, List.map_nil, List.length_cons, List.length_nil, List.cons_append, List.nil_append, List.replicate, Nat.reduceAdd, Nat.reduceSub, Nat.reduceLT, Nat.reduceLeDiff, Nat.zero_add, if_true, Bool.false_eq_true, if_false, reduceCtorEq, sizeLine_eq, lBody_eq, lElt_eq, lCnd_eq, List.take_succ_cons, List.take_zero, Int.natCast_zero, Nat.max_def, List.any_cons, List.any_nil, Bool.or_false, Bool.false_or, Bool.and_false, Bool.false_and, Bool.or_true, Bool.true_or, Bool.true_and, Bool.and_true, eq_self, ne_eq, not_true, not_false_eq_true, beq_self_eq_true, Int.lt_irrefl, Int.reduceLT, Int.reduceLE, Int.reduceEq, Bool.true_beq, Bool.false_beq, decide_true, decide_false, Bool.not_true, Bool.not_false])
  rw [rngD_length] at hz
  obtain ⟨a, b, c, d, e, f, ⟨ha, hb, hc, hd, he, hf⟩, rfl⟩ := six (P := fun q => SzQ q 44) hz hP
  have n1 : ∀ ys : List Int, newL true [enc a, enc b, enc c, enc d, enc e, enc f] [DC ys] = some (.c 1, [DC ys, ⟨false, [enc a, enc b, enc c, enc d, enc e, enc f]⟩]) := fun ys => rfl
  obtain ⟨v, v1, v2, e2⟩ := take_ex (k+2) y1 5 (by decide) [⟨false, [enc a, enc b, enc c, enc d, enc e, enc f]⟩]
  let lit : Rat := ⟨1000000000039, 7, by decide, by decide +kernel⟩
  have hlit : SzQ lit 44 := ⟨by decide, by decide⟩
  have tail : ∀ (c : Rat) (ys : List Int), SzQ c 44 → ∃ (m : Mx) (ys' : List Int), m.Ok 45 ∧ leave 1 (evSs (evF T (k+3)) (Ss.dropN 2 df_law_drawn_matrix.body) [some (.c 0), some (.c 1), none, none] [DC ys, ⟨false, [enc a, enc b, enc c, enc d, enc e, enc f]⟩]) = some (.d m.D, [DC ys']) := by
    intro c ys hc
    have z1 : SzQ (a * e) 2000 := SzQ.mono (n := 44 + 44) inferInstance (by decide)
    have z2 : SzQ (b * d) 2000 := SzQ.mono (n := 44 + 44) inferInstance (by decide)
    have g1 := fun μ => @product_eq k a e μ (ha.mono (by decide)) (he.mono (by decide))
    have g2 := fun μ => @product_eq k b d μ (hb.mono (by decide)) (hd.mono (by decide))
    have g3 := fun μ => @minus_eq k (a * e) (b * d) μ z1 z2
    have sl1 : ∀ (y : Cell) (l : List D), slW false (.c 1) none (some 3) [y, ⟨false, l⟩] = newL false (cutD l none (some 3)) [y, ⟨false, l⟩] := fun y l => v_slW (c := ⟨false, l⟩) false none (some 3) rfl
    have sl2 : ∀ (y : Cell) (l : List D), slW false (.c 1) (some 3) none [y, ⟨false, l⟩] = newL false (cutD l (some 3) none) [y, ⟨false, l⟩] := fun y l => v_slW (c := ⟨false, l⟩) false (some 3) none rfl
    by_cases h0 : (a * e - b * d).num = 0
    · obtain ⟨w, w1, w2, g4⟩ := take_ex (k+2) ys 2 (by decide) [⟨false, [enc a, enc b, enc c, enc d, enc e, enc f]⟩]
      have cs : ∀ i : Int, i.natAbs < 2 ^ 8 → SzQ (i : Rat) 45 := fun i h => SzQ.mono (n := 8) ⟨by rw [Rat.num_intCast]; exact h, by rw [Rat.den_intCast]; decide⟩ (by decide)
      refine ⟨⟨((1 - w : Int) : Rat), (w : Rat), c, (w : Rat), ((w - 1 : Int) : Rat), f⟩, ys.dropLast, ⟨cs _ (by omega), cs _ (by omega), hc.mono (by decide), cs _ (by omega), cs _ (by omega), hf.mono (by decide)⟩, ?_⟩
      simp only [df_law_drawn_matrix, Ss.dropN, g1, g2, g3, g4, h0, sl1, sl2, ixN6_0, ixN6_1, ixN6_3, ixN6_4, cut3a, cut3b, e_var, e_cst, e_bop, e_neg, e_not, e_boo, e_cmp, e_chain, e_ite, e_call, e_bi, e_isi, e_ix, e_sl, e_tup, e_lst, e_comp, e_meth, es_nil, es_cons, bv_one, bv_cons, bt_one, bt_cons, o_none, o_some, c_none, c_some, t_var, t_not, t_boo, t_cmp, t_chain, t_call, t_isi, t_ix, i_val, i_rng1, i_rng2, g_name, g_tup, g_sub, gs_nil, gs_cons, s_asg, s_par, s_aug, s_expr, s_iff, s_for, s_ret, s_retN, s_brk, s_cont, s_pass, ss_nil, ss_cons, leave_next, leave_d, take_all, v_getV, v_bop2, v_bop, v_neg, v_not, v_cmp2, v_cmp, v_bT, v_bV, v_chV3, v_chV2t, v_chV2f, v_chV1, v_chV, v_iteT, v_iteF, v_call, v_bi, v_isi, v_ix2, v_ix, v_sl3, v_sl2, v_sl, v_tup2, v_tup, v_lst, v_asgn, v_comp, v_meth2, v_meth, v_es2, v_es, v_BVt, v_BVtf, v_BVf, v_BVft, v_BTt, v_BTtf, v_BTf, v_BTft, v_O, v_tru, v_cmpT2, v_cmpT, v_chT3, v_chT2t, v_chT2f, v_chT1, v_chT, v_notT, v_isiT, v_pW, v_itV, v_R1, v_R2b, v_R2, v_asgSeq, v_setIx, v_setIx2, v_sub3, v_sub2, v_sub, v_Ts, v_asg2, v_asg, v_par2, v_par, v_augO, v_aug, v_augV, v_augA, v_augS, v_exp, v_ifT, v_ifF, v_for, v_ret, v_sqN, v_sqR, v_sqB, v_sqC, v_callT, v_ixT2, v_ixT, v_seqL, v_seqT, v_seqW, v_seqC, v_liveW, v_liveC, v_toD, v_toDc, v_frC, v_toDs0, v_toDs, v_Ds, v_Ds2, v_newF, v_newT, v_add, v_subI, v_catT, v_catLL, v_eqI, v_neI, v_eqB, v_neB, v_lt, v_le, v_gt, v_ge, v_is, v_isnot, v_nonN, v_nonI, v_nonB, v_nonT, v_nonL, v_nonC, v_truN, v_truB, v_ixO, v_ixS, v_ixTu, v_ixL, v_ixC, v_at0, v_at1, v_at2, v_at3, v_at4, v_at5, v_at6, v_at7, v_lenO, v_lenS, v_lenL, v_lenT, v_lenC, v_intI, v_intB, v_abs, v_max2, v_min2, v_gcd, v_listL, v_listT, v_listO, v_listC, v_tupleL, v_tupleT, v_tupO, v_tupleC, v_slS, v_slL, v_slT, v_itS, v_itL, v_itT, v_itW, v_itC, v_append, v_app, v_appO, v_pop, v_popO, v_popAt, v_reverse, v_revO, v_isiI, v_isiB, v_isiL, v_isiTu, v_isiS, v_isiN, v_isiC, v_Fb, v_FlN, v_FlC, v_FlB, v_FlR, v_Cl4, v_Cl3, v_Cl2, v_Cl1t, v_Cl1f, v_Cl0, v_encS, v_ptS, v_encI, v_ptI, v_eqE, v_neE, v_eqP, v_neP, v_nonE, v_nonP, v_mulS, v_setC0, v_DC, v_seqDC, v_DCxs, v_mxS, v_mxI, v_sgS, v_sgI, v_setC1, v_setC2, v_setC3, leave_c02, v_frmI, v_dtS, v_dtI, v_eqDt, v_neDt, v_neDt2, v_minDt, v_maxDt, pw_10_9, pw_10_18, pw_10_30, pw_10_12, pw_10_20, pw_10_6, pw_shl, initE, bnd_some, List.getElem?_cons_zero, List.getElem?_cons_succ, List.set_cons_zero, List.set_cons_succ, List.map_cons, List.map_nil, List.length_cons, List.length_nil, List.cons_append, List.nil_append, List.replicate, Nat.reduceAdd, Nat.reduceSub, Nat.reduceLT, Nat.reduceLeDiff, Nat.zero_add, if_true, Bool.false_eq_true, if_false, reduceCtorEq, sizeLine_eq, lBody_eq, lElt_eq, lCnd_eq, List.take_succ_cons, List.take_zero, Int.natCast_zero, Nat.max_def, List.any_cons, List.any_nil, Bool.or_false, Bool.false_or, Bool.and_false, Bool.false_and, Bool.or_true, Bool.true_or, Bool.true_and, Bool.and_true, eq_self, ne_eq, not_true, not_false_eq_true, beq_self_eq_true, Int.lt_irrefl, Int.reduceLT, Int.reduceLE, Int.reduceEq, Bool.true_beq, Bool.false_beq, decide_true, decide_false, Bool.not_true, Bool.not_false]
      rfl
    · refine ⟨⟨a, b, c, d, e, f⟩, ys, ⟨ha.mono (by decide), hb.mono (by decide), hc.mono (by decide), hd.mono (by decide), he.mono (by decide), hf.mono (by decide)⟩, ?_⟩
      simp only [df_law_drawn_matrix, Ss.dropN, g1, g2, g3, h0, sl1, sl2, cut3a, cut3b, e_var, e_cst, e_bop, e_neg, e_not, e_boo, e_cmp, e_chain, e_ite, e_call, e_bi, e_isi, e_ix, e_sl, e_tup, e_lst, e_comp, e_meth, es_nil, es_cons, bv_one, bv_cons, bt_one, bt_cons, o_none, o_some, c_none, c_some, t_var, t_not, t_boo, t_cmp, t_chain, t_call, t_isi, t_ix, i_val, i_rng1, i_rng2, g_name, g_tup, g_sub, gs_nil, gs_cons, s_asg, s_par, s_aug, s_expr, s_iff, s_for, s_ret, s_retN, s_brk, s_cont, s_pass, ss_nil, ss_cons, leave_next, leave_d, take_all, v_getV, v_bop2, v_bop, v_neg, v_not, v_cmp2, v_cmp, v_bT, v_bV, v_chV3, v_chV2t, v_chV2f, v_chV1, v_chV, v_iteT, v_iteF, v_call, v_bi, v_isi, v_ix2, v_ix, v_sl3, v_sl2, v_sl, v_tup2, v_tup, v_lst, v_asgn, v_comp, v_meth2, v_meth, v_es2, v_es, v_BVt, v_BVtf, v_BVf, v_BVft, v_BTt, v_BTtf, v_BTf, v_BTft, v_O, v_tru, v_cmpT2, v_cmpT, v_chT3, v_chT2t, v_chT2f, v_chT1, v_chT, v_notT, v_isiT, v_pW, v_itV, v_R1, v_R2b, v_R2, v_asgSeq, v_setIx, v_setIx2, v_sub3, v_sub2, v_sub, v_Ts, v_asg2, v_asg, v_par2, v_par, v_augO, v_aug, v_augV, v_augA, v_augS, v_exp, v_ifT, v_ifF, v_for, v_ret, v_sqN, v_sqR, v_sqB, v_sqC, v_callT, v_ixT2, v_ixT, v_seqL, v_seqT, v_seqW, v_seqC, v_liveW, v_liveC, v_toD, v_toDc, v_frC, v_toDs0, v_toDs, v_Ds, v_Ds2, v_newF, v_newT, v_add, v_subI, v_catT, v_catLL, v_eqI, v_neI, v_eqB, v_neB, v_lt, v_le, v_gt, v_ge, v_is, v_isnot, v_nonN, v_nonI, v_nonB, v_nonT, v_nonL, v_nonC, v_truN, v_truB, v_ixO, v_ixS, v_ixTu, v_ixL, v_ixC, v_at0, v_at1, v_at2, v_at3, v_at4, v_at5, v_at6, v_at7, v_lenO, v_lenS, v_lenL, v_lenT, v_lenC, v_intI, v_intB, v_abs, v_max2, v_min2, v_gcd, v_listL, v_listT, v_listO, v_listC, v_tupleL, v_tupleT, v_tupO, v_tupleC, v_slS, v_slL, v_slT, v_itS, v_itL, v_itT, v_itW, v_itC, v_append, v_app, v_appO, v_pop, v_popO, v_popAt, v_reverse, v_revO, v_isiI, v_isiB, v_isiL, v_isiTu, v_isiS, v_isiN, v_isiC, v_Fb, v_FlN, v_FlC, v_FlB, v_FlR, v_Cl4, v_Cl3, v_Cl2, v_Cl1t, v_Cl1f, v_Cl0, v_encS, v_ptS, v_encI, v_ptI, v_eqE, v_neE, v_eqP, v_neP, v_nonE, v_nonP, v_mulS, v_setC0, v_DC, v_seqDC, v_DCxs, v_mxS, v_mxI, v_sgS, v_sgI, v_setC1, v_setC2, v_setC3, leave_c02, v_frmI, v_dtS, v_dtI, v_eqDt, v_neDt, v_neDt2, v_minDt, v_maxDt, pw_10_9, pw_10_18, pw_10_30, pw_10_12, pw_10_20, pw_10_6, pw_shl, initE, bnd_some, List.getElem?_cons_zero, List.getElem?_cons_succ, List.set_cons_zero, List.set_cons_succ, List.map_cons, List.map_nil, List.length_cons, List.length_nil, List.cons_append, List.nil_append, List.replicate, Nat.reduceAdd, Nat.reduceSub, Nat.reduceLT, Nat.reduceLeDiff, Nat.zero_add, if_true, Bool.false_eq_true, if_false, reduceCtorEq, sizeLine_eq, lBody_eq, lElt_eq, lCnd_eq, List.take_succ_cons, List.take_zero, Int.natCast_zero, Nat.max_def, List.any_cons, List.any_nil, Bool.or_false, Bool.false_or, Bool.and_false, Bool.false_and, Bool.or_true, Bool.true_or, Bool.true_and, Bool.and_true, eq_self, ne_eq, not_true, not_false_eq_true, beq_self_eq_true, Int.lt_irrefl, Int.reduceLT, Int.reduceLE, Int.reduceEq, Bool.true_beq, Bool.false_beq, decide_true, decide_false, Bool.not_true, Bool.not_false]
      rfl
  by_cases h5 : v = 0
  · subst h5
    obtain ⟨m, ys', hm, hh⟩ := tail lit y1.dropLast hlit
    refine ⟨m, ys', hm, ?_⟩
    rw [← hh]
    rw [evF_run T_26 rfl]; simp only [df_law_drawn_matrix, v_R1 6 rfl, wipeE, e1, n1, e2, ixN6_2, Ss.dropN, e_var, e_cst, e_bop, e_neg, e_not, e_boo, e_cmp, e_chain, e_ite, e_call, e_bi, e_isi, e_ix, e_sl, e_tup, e_lst, e_comp, e_meth, es_nil, es_cons, bv_one, bv_cons, bt_one, bt_cons, o_none, o_some, c_none, c_some, t_var, t_not, t_boo, t_cmp, t_chain, t_call, t_isi, t_ix, i_val, i_rng1, i_rng2, g_name, g_tup, g_sub, gs_nil, gs_cons, s_asg, s_par, s_aug, s_expr, s_iff, s_for, s_ret, s_retN, s_brk, s_cont, s_pass, ss_nil, ss_cons, leave_next, leave_d, take_all, v_getV, v_bop2, v_bop, v_neg, v_not, v_cmp2, v_cmp, v_bT, v_bV, v_chV3, v_chV2t, v_chV2f, v_chV1, v_chV, v_iteT, v_iteF, v_call, v_bi, v_isi, v_ix2, v_ix, v_sl3, v_sl2, v_sl, v_tup2, v_tup, v_lst, v_asgn, v_comp, v_meth2, v_meth, v_es2, v_es, v_BVt, v_BVtf, v_BVf, v_BVft, v_BTt, v_BTtf, v_BTf, v_BTft, v_O, v_tru, v_cmpT2, v_cmpT, v_chT3, v_chT2t, v_chT2f, v_chT1, v_chT, v_notT, v_isiT, v_pW, v_itV, v_R1, v_R2b, v_R2, v_asgSeq, v_setIx, v_setIx2, v_sub3, v_sub2, v_sub, v_Ts, v_asg2, v_asg, v_par2, v_par, v_augO, v_aug, v_augV, v_augA, v_augS, v_exp, v_ifT, v_ifF, v_for, v_ret, v_sqN, v_sqR, v_sqB, v_sqC, v_callT, v_ixT2, v_ixT, v_seqL, v_seqT, v_seqW, v_seqC, v_liveW, v_liveC, v_toD, v_toDc, v_frC, v_toDs0, v_toDs, v_Ds, v_Ds2, v_newF, v_newT, v_add, v_subI, v_catT, v_catLL, v_eqI, v_neI, v_eqB, v_neB, v_lt, v_le, v_gt, v_ge, v_is, v_isnot, v_nonN, v_nonI, v_nonB, v_nonT, v_nonL, v_nonC, v_truN, v_truB, v_ixO, v_ixS, v_ixTu, v_ixL, v_ixC, v_at0, v_at1, v_at2, v_at3, v_at4, v_at5, v_at6, v_at7, v_lenO, v_lenS, v_lenL, v_lenT, v_lenC, v_intI, v_intB, v_abs, v_max2, v_min2, v_gcd, v_listL, v_listT, v_listO, v_listC, v_tupleL, v_tupleT, v_tupO, v_tupleC, v_slS, v_slL, v_slT, v_itS, v_itL, v_itT, v_itW, v_itC, v_append, v_app, v_appO, v_pop, v_popO, v_popAt, v_reverse, v_revO, v_isiI, v_isiB, v_isiL, v_isiTu, v_isiS, v_isiN, v_isiC, v_Fb, v_FlN, v_FlC, v_FlB, v_FlR, v_Cl4, v_Cl3, v_Cl2, v_Cl1t, v_Cl1f, v_Cl0, v_encS, v_ptS, v_encI, v_ptI, v_eqE, v_neE, v_eqP, v_neP, v_nonE, v_nonP, v_mulS, v_setC0, v_DC, v_seqDC, v_DCxs, v_mxS, v_mxI, v_sgS, v_sgI, v_setC1, v_setC2, v_setC3, leave_c02, v_frmI, v_dtS, v_dtI, v_eqDt, v_neDt, v_neDt2, v_minDt, v_maxDt, pw_10_9, pw_10_18, pw_10_30, pw_10_12, pw_10_20, pw_10_6, pw_shl, initE, bnd_some, List.getElem?_cons_zero, List.getElem?_cons_succ, List.set_cons_zero, List.set_cons_succ, List.map_cons, List.map_nil, List.length_cons, List.length_nil, List.cons_append, List.nil_append, List.replicate, Nat.reduceAdd, Nat.reduceSub, Nat.reduceLT, Nat.reduceLeDiff, Nat.zero_add, if_true, Bool.false_eq_true, if_false, reduceCtorEq, sizeLine_eq, lBody_eq, lElt_eq, lCnd_eq, List.take_succ_cons, List.take_zero, Int.natCast_zero, Nat.max_def, List.any_cons, List.any_nil, Bool.or_false, Bool.false_or, Bool.and_false, Bool.false_and, Bool.or_true, Bool.true_or, Bool.true_and, Bool.and_true, eq_self, ne_eq, not_true, not_false_eq_true, beq_self_eq_true, Int.lt_irrefl, Int.reduceLT, Int.reduceLE, Int.reduceEq, Bool.true_beq, Bool.false_beq, decide_true, decide_false, Bool.not_true, Bool.not_false]
    rfl
  · obtain ⟨m, ys', hm, hh⟩ := tail c y1.dropLast hc
    refine ⟨m, ys', hm, ?_⟩
    rw [← hh]
    rw [evF_run T_26 rfl]; simp only [df_law_drawn_matrix, v_R1 6 rfl, wipeE, e1, n1, e2, h5, Ss.dropN, e_var, e_cst, e_bop, e_neg, e_not, e_boo, e_cmp, e_chain, e_ite, e_call, e_bi, e_isi, e_ix, e_sl, e_tup, e_lst, e_comp, e_meth, es_nil, es_cons, bv_one, bv_cons, bt_one, bt_cons, o_none, o_some, c_none, c_some, t_var, t_not, t_boo, t_cmp, t_chain, t_call, t_isi, t_ix, i_val, i_rng1, i_rng2, g_name, g_tup, g_sub, gs_nil, gs_cons, s_asg, s_par, s_aug, s_expr, s_iff, s_for, s_ret, s_retN, s_brk, s_cont, s_pass, ss_nil, ss_cons, leave_next, leave_d, take_all, v_getV, v_bop2, v_bop, v_neg, v_not, v_cmp2, v_cmp, v_bT, v_bV, v_chV3, v_chV2t, v_chV2f, v_chV1, v_chV, v_iteT, v_iteF, v_call, v_bi, v_isi, v_ix2, v_ix, v_sl3, v_sl2, v_sl, v_tup2, v_tup, v_lst, v_asgn, v_comp, v_meth2, v_meth, v_es2, v_es, v_BVt, v_BVtf, v_BVf, v_BVft, v_BTt, v_BTtf, v_BTf, v_BTft, v_O, v_tru, v_cmpT2, v_cmpT, v_chT3, v_chT2t, v_chT2f, v_chT1, v_chT, v_notT, v_isiT, v_pW, v_itV, v_R1, v_R2b, v_R2, v_asgSeq, v_setIx, v_setIx2, v_sub3, v_sub2, v_sub, v_Ts, v_asg2, v_asg, v_par2, v_par, v_augO, v_aug, v_augV, v_augA, v_augS, v_exp, v_ifT, v_ifF, v_for, v_ret, v_sqN, v_sqR, v_sqB, v_sqC, v_callT, v_ixT2, v_ixT, v_seqL, v_seqT, v_seqW, v_seqC, v_liveW, v_liveC, v_toD, v_toDc, v_frC, v_toDs0, v_toDs, v_Ds, v_Ds2, v_newF, v_newT, v_add, v_subI, v_catT, v_catLL, v_eqI, v_neI, v_eqB, v_neB, v_lt, v_le, v_gt, v_ge, v_is, v_isnot, v_nonN, v_nonI, v_nonB, v_nonT, v_nonL, v_nonC, v_truN, v_truB, v_ixO, v_ixS, v_ixTu, v_ixL, v_ixC, v_at0, v_at1, v_at2, v_at3, v_at4, v_at5, v_at6, v_at7, v_lenO, v_lenS, v_lenL, v_lenT, v_lenC, v_intI, v_intB, v_abs, v_max2, v_min2, v_gcd, v_listL, v_listT, v_listO, v_listC, v_tupleL, v_tupleT, v_tupO, v_tupleC, v_slS, v_slL, v_slT, v_itS, v_itL, v_itT, v_itW, v_itC, v_append, v_app, v_appO, v_pop, v_popO, v_popAt, v_reverse, v_revO, v_isiI, v_isiB, v_isiL, v_isiTu, v_isiS, v_isiN, v_isiC, v_Fb, v_FlN, v_FlC, v_FlB, v_FlR, v_Cl4, v_Cl3, v_Cl2, v_Cl1t, v_Cl1f, v_Cl0, v_encS, v_ptS, v_encI, v_ptI, v_eqE, v_neE, v_eqP, v_neP, v_nonE, v_nonP, v_mulS, v_setC0, v_DC, v_seqDC, v_DCxs, v_mxS, v_mxI, v_sgS, v_sgI, v_setC1, v_setC2, v_setC3, leave_c02, v_frmI, v_dtS, v_dtI, v_eqDt, v_neDt, v_neDt2, v_minDt, v_maxDt, pw_10_9, pw_10_18, pw_10_30, pw_10_12, pw_10_20, pw_10_6, pw_shl, initE, bnd_some, List.getElem?_cons_zero, List.getElem?_cons_succ, List.set_cons_zero, List.set_cons_succ, List.map_cons, List.map_nil, List.length_cons, List.length_nil, List.cons_append, List.nil_append, List.replicate, Nat.reduceAdd, Nat.reduceSub, Nat.reduceLT, Nat.reduceLeDiff, Nat.zero_add, if_true, Bool.false_eq_true, if_false, reduceCtorEq, sizeLine_eq, lBody_eq, lElt_eq, lCnd_eq, List.take_succ_cons, List.take_zero, Int.natCast_zero, Nat.max_def, List.any_cons, List.any_nil, Bool.or_false, Bool.false_or, Bool.and_false, Bool.false_and, Bool.or_true, Bool.true_or, Bool.true_and, Bool.and_true, eq_self, ne_eq, not_true, not_false_eq_true, beq_self_eq_true, Int.lt_irrefl, Int.reduceLT, Int.reduceLE, Int.reduceEq, Bool.true_beq, Bool.false_beq, decide_true, decide_false, Bool.not_true, Bool.not_false]
-- _law_drawn
theorem drawn_ex (k : Nat) (xs : List Int) (many : Int) (hm0 : 0 ≤ many) (hm : many ≤ 20) : ∃ (ss : List (Pt × Pt)) (ys : List Int), (∀ s ∈ ss, Sg4 s 200) ∧ ss.length ≤ 20 ∧ evF T (k+6) 25 [.c 0, .d (.int many)] [DC xs] = some (.d (.tuple (ss.map sgT)), [DC ys]) := by
  obtain ⟨z1, ⟨s, rfl, hs⟩, e1⟩ := pick_ex (k+3) xs [.int 2, .int 3, .int 3, .int 5] (fun z => ∃ i : Int, z = .int i ∧ 0 < i ∧ i < 8) (by
    simp only [List.forall_mem_cons, List.not_mem_nil, false_implies, implies_true, and_true]
    exact ⟨⟨_, rfl, by decide⟩, ⟨_, rfl, by decide⟩, ⟨_, rfl, by decide⟩, ⟨_, rfl, by decide⟩⟩) (by simp) []
  obtain ⟨z2, ⟨d, rfl, hd⟩, e2⟩ := pick_ex (k+3) xs.dropLast [.int 1, .int 1, .int 2, .int 3] (fun z => ∃ i : Int, z = .int i ∧ 0 < i ∧ i < 8) (by
    simp only [List.forall_mem_cons, List.not_mem_nil, false_implies, implies_true, and_true]
    exact ⟨⟨_, rfl, by decide⟩, ⟨_, rfl, by decide⟩, ⟨_, rfl, by decide⟩, ⟨_, rfl, by decide⟩⟩) (by simp) []
  have hsm : small62 many = true := by unfold small62; rw [decide_eq_true (by omega), decide_eq_true (by omega)]; rfl
  obtain ⟨zs, μ1, e3, ⟨y1, rfl⟩, hz, hP⟩ := compL_inv (asg := lAsg (evF T (k+5)) (.name 7)) (cond := lCnd (evF T (k+5)) .none) (elt := lElt (evF T (k+5)) (.call 23 (.cons (.var 0) (.cons (.var 2) (.cons (.var 3) .nil)))))
    (all := rngD 0 many.toNat) (env := [some (.c 0), some (.d (.int many)), some (.d (.int s)), some (.d (.int d)), none, none, none, none, none]) (fun m => ∃ ys, m = [DC ys]) (fun z => ∃ q, Sg4 q 101 ∧ z = sgT q) (rngD 0 many.toNat) [DC xs.dropLast.dropLast] ⟨_, rfl⟩ (by
      rintro x hx m ⟨ys, rfl⟩
      obtain ⟨p, y1, hp, g1⟩ := drawn_one_ex (k+1) ys s d hs hd []
      refine ⟨_, sgT p, [DC y1], by simp only [e_var, e_cst, e_bop, e_neg, e_not, e_boo, e_cmp, e_chain, e_ite, e_call, e_bi, e_isi, e_ix, e_sl, e_tup, e_lst, e_comp, e_meth, es_nil, es_cons, bv_one, bv_cons, bt_one, bt_cons, o_none, o_some, c_none, c_some, t_var, t_not, t_boo, t_cmp, t_chain, t_call, t_isi, t_ix, i_val, i_rng1, i_rng2, g_name, g_tup, g_sub, gs_nil, gs_cons, s_asg, s_par, s_aug, s_expr, s_iff, s_for, s_ret, s_retN, s_brk, s_cont, s_pass, ss_nil, ss_cons, leave_next, leave_d, take_all, v_getV, v_bop2, v_bop, v_neg, v_not, v_cmp2, v_cmp, v_bT, v_bV, v_chV3, v_chV2t, v_chV2f, v_chV1, v_chV, v_iteT, v_iteF, v_call, v_bi, v_isi, v_ix2, v_ix, v_sl3, v_sl2, v_sl, v_tup2, v_tup, v_lst, v_asgn, v_comp, v_meth2, v_meth, v_es2, v_es, v_BVt, v_BVtf, v_BVf, v_BVft, v_BTt, v_BTtf, v_BTf, v_BTft, v_O, v_tru, v_cmpT2, v_cmpT, v_chT3, v_chT2t, v_chT2f, v_chT1, v_chT, v_notT, v_isiT, v_pW, v_itV, v_R1, v_R2b, v_R2, v_asgSeq, v_setIx, v_setIx2, v_sub3, v_sub2, v_sub, v_Ts, v_asg2, v_asg, v_par2, v_par, v_augO, v_aug, v_augV, v_augA, v_augS, v_exp, v_ifT, v_ifF, v_for, v_ret, v_sqN, v_sqR, v_sqB, v_sqC, v_callT, v_ixT2, v_ixT, v_seqL, v_seqT, v_seqW, v_seqC, v_liveW, v_liveC, v_toD, v_toDc, v_frC, v_toDs0, v_toDs, v_Ds, v_Ds2, v_newF, v_newT, v_add, v_subI, v_catT, v_catLL, v_eqI, v_neI, v_eqB, v_neB, v_lt, v_le, v_gt, v_ge, v_is, v_isnot, v_nonN, v_nonI, v_nonB, v_nonT, v_nonL, v_nonC, v_truN, v_truB, v_ixO, v_ixS, v_ixTu, v_ixL, v_ixC, v_at0, v_at1, v_at2, v_at3, v_at4, v_at5, v_at6, v_at7, v_lenO, v_lenS, v_lenL, v_lenT, v_lenC, v_intI, v_intB, v_abs, v_max2, v_min2, v_gcd, v_listL, v_listT, v_listO, v_listC, v_tupleL, v_tupleT, v_tupO, v_tupleC, v_slS, v_slL, v_slT, v_itS, v_itL, v_itT, v_itW, v_itC, v_append, v_app, v_appO, v_pop, v_popO, v_popAt, v_reverse, v_revO, v_isiI, v_isiB, v_isiL, v_isiTu, v_isiS, v_isiN, v_isiC, v_Fb, v_FlN, v_FlC, v_FlB, v_FlR, v_Cl4, v_Cl3, v_Cl2, v_Cl1t, v_Cl1f, v_Cl0, v_encS, v_ptS, v_encI, v_ptI, v_eqE, v_neE, v_eqP, v_neP, v_nonE, v_nonP, v_mulS, v_setC0, v_DC, v_seqDC, v_DCxs, v_mxS, v_mxI, v_sgS, v_sgI, v_setC1, v_setC2, v_setC3, leave_c02, v_frmI, v_dtS, v_dtI, v_eqDt, v_neDt, v_neDt2, v_minDt, v_maxDt, pw_10_9, pw_10_18, pw_10_30, pw_10_12, pw_10_20, pw_10_6, pw_shl, initE, bnd_some, List.getElem?_cons_zero, List.getElem?_cons_succ, List.set_cons_zero, List.set_cons_succ, List.map_cons, List.map_nil, List.length_cons, List.length_nil, List.cons_append, List.nil_append, List.replicate, Nat.reduceAdd, Nat.reduceSub, Nat.reduceLT, Nat.reduceLeDiff, Nat.zero_add, if_true, Bool.false_eq_true, if_false, reduceCtorEq, sizeLine_eq, lBody_eq, lElt_eq, lCnd_eq, List.take_succ_cons, List.take_zero, Int.natCast_zero, Nat.max_def, List.any_cons, List.any_nil, Bool.or_false, Bool.false_or, Bool.and_false, Bool.false_and, Bool.or_true, Bool.true_or, Bool.true_and, Bool.and_true, eq_self, ne_eq, not_true, not_false_eq_true, beq_self_eq_true, Int.lt_irrefl, Int.reduceLT, Int.reduceLE, Int.reduceEq, Bool.true_beq, Bool.false_beq, decide_true, decide_false, Bool.not_true, Bool.not_false]; rfl, by simp only [e_var, e_cst, e_bop, e_neg, e_not, e_boo, e_cmp, e_chain, e_ite, e_call, e_bi, e_isi, e_ix, e_sl, e_tup, e_lst, e_comp, e_meth, es_nil, es_cons, bv_one, bv_cons, bt_one, bt_cons, o_none, o_some, c_none, c_some, t_var, t_not, t_boo, t_cmp, t_chain, t_call, t_isi, t_ix, i_val, i_rng1, i_rng2, g_name, g_tup, g_sub, gs_nil, gs_cons, s_asg, s_par, s_aug, s_expr, s_iff, s_for, s_ret, s_retN, s_brk, s_cont, s_pass, ss_nil, ss_cons, leave_next, leave_d, take_all, v_getV, v_bop2, v_bop, v_neg, v_not, v_cmp2, v_cmp, v_bT, v_bV, v_chV3, v_chV2t, v_chV2f, v_chV1, v_chV, v_iteT, v_iteF, v_call, v_bi, v_isi, v_ix2, v_ix, v_sl3, v_sl2, v_sl, v_tup2, v_tup, v_lst, v_asgn, v_comp, v_meth2, v_meth, v_es2, v_es, v_BVt, v_BVtf, v_BVf, v_BVft, v_BTt, v_BTtf, v_BTf, v_BTft, v_O, v_tru, v_cmpT2, v_cmpT, v_chT3, v_chT2t, v_chT2f, v_chT1, v_chT, v_notT, v_isiT, v_pW, v_itV, v_R1, v_R2b, v_R2, v_asgSeq, v_setIx, v_setIx2, v_sub3, v_sub2, v_sub, v_Ts, v_asg2, v_asg, v_par2, v_par, v_augO, v_aug, v_augV, v_augA, v_augS, v_exp, v_ifT, v_ifF, v_for, v_ret, v_sqN, v_sqR, v_sqB, v_sqC, v_callT, v_ixT2, v_ixT, v_seqL, v_seqT, v_seqW, v_seqC, v_liveW, v_liveC, v_toD, v_toDc, v_frC, v_toDs0, v_toDs, v_Ds, v_Ds2, v_newF, v_newT, v_add, v_subI, v_catT, v_catLL, v_eqI, v_neI, v_eqB, v_neB, v_lt, v_le, v_gt, v_ge, v_is, v_isnot, v_nonN, v_nonI, v_nonB, v_nonT, v_nonL, v_nonC, v_truN, v_truB, v_ixO, v_ixS, v_ixTu, v_ixL, v_ixC, v_at0, v_at1, v_at2, v_at3, v_at4, v_at5, v_at6, v_at7, v_lenO, v_lenS, v_lenL, v_lenT, v_lenC, v_intI, v_intB, v_abs, v_max2, v_min2, v_gcd, v_listL, v_listT, v_listO, v_listC, v_tupleL, v_tupleT, v_tupO, v_tupleC, v_slS, v_slL, v_slT, v_itS, v_itL, v_itT, v_itW, v_itC, v_append, v_app, v_appO, v_pop, v_popO, v_popAt, v_reverse, v_revO, v_isiI, v_isiB, v_isiL, v_isiTu, v_isiS, v_isiN, v_isiC, v_Fb, v_FlN, v_FlC, v_FlB, v_FlR, v_Cl4, v_Cl3, v_Cl2, v_Cl1t, v_Cl1f, v_Cl0, v_encS, v_ptS, v_encI, v_ptI, v_eqE, v_neE, v_eqP, v_neP, v_nonE, v_nonP, v_mulS, v_setC0, v_DC, v_seqDC, v_DCxs, v_mxS, v_mxI, v_sgS, v_sgI, v_setC1, v_setC2, v_setC3, leave_c02, v_frmI, v_dtS, v_dtI, v_eqDt, v_neDt, v_neDt2, v_minDt, v_maxDt, pw_10_9, pw_10_18, pw_10_30, pw_10_12, pw_10_20, pw_10_6, pw_shl, initE, bnd_some, List.getElem?_cons_zero, List.getElem?_cons_succ, List.set_cons_zero, List.set_cons_succ, List.map_cons, List.map_nil, List.length_cons, List.length_nil, List.cons_append, List.nil_append, List.replicate, Nat.reduceAdd, Nat.reduceSub, Nat.reduceLT, Nat.reduceLeDiff, Nat.zero_add, if_true, Bool.false_eq_true, if_false, reduceCtorEq, sizeLine_eq, lBody_eq, lElt_eq, lCnd_eq, List.take_succ_cons, List.take_zero, Int.natCast_zero, Nat.max_def, List.any_cons, List.any_nil, Bool.or_false, Bool.false_or, Bool.and_false, Bool.false_and, Bool.or_true, Bool.true_or, Bool.true_and, Bool.and_true, eq_self, ne_eq, not_true, not_false_eq_true, beq_self_eq_true, Int.lt_irrefl, Int.reduceLT, Int.reduceLE, Int.reduceEq, Bool.true_beq, Bool.false_beq, decide_true, decide_false, Bool.not_true, Bool.not_false], ?_, ⟨_, rfl⟩, p, hp, rfl⟩
      simp only [g1, e_var, e_cst, e_bop, e_neg, e_not, e_boo, e_cmp, e_chain, e_ite, e_call, e_bi, e_isi, e_ix, e_sl, e_tup, e_lst, e_comp, e_meth, es_nil, es_cons, bv_one, bv_cons, bt_one, bt_cons, o_none, o_some, c_none, c_some, t_var, t_not, t_boo, t_cmp, t_chain, t_call, t_isi, t_ix, i_val, i_rng1, i_rng2, g_name, g_tup, g_sub, gs_nil, gs_cons, s_asg, s_par, s_aug, s_expr, s_iff, s_for, s_ret, s_retN, s_brk, s_cont, s_pass, ss_nil, ss_cons, leave_next, leave_d, take_all, v_getV, v_bop2, v_bop, v_neg, v_not, v_cmp2, v_cmp, v_bT, v_bV, v_chV3, v_chV2t, v_chV2f, v_chV1, v_chV, v_iteT, v_iteF, v_call, v_bi, v_isi, v_ix2, v_ix, v_sl3, v_sl2, v_sl, v_tup2, v_tup, v_lst, v_asgn, v_comp, v_meth2, v_meth, v_es2, v_es, v_BVt, v_BVtf, v_BVf, v_BVft, v_BTt, v_BTtf, v_BTf, v_BTft, v_O, v_tru, v_cmpT2, v_cmpT, v_chT3, v_chT2t, v_chT2f, v_chT1, v_chT, v_notT, v_isiT, v_pW, v_itV, v_R1, v_R2b, v_R2, v_asgSeq, v_setIx, v_setIx2, v_sub3, v_sub2, v_sub, v_Ts, v_asg2, v_asg, v_par2, v_par, v_augO, v_aug, v_augV, v_augA, v_augS, v_exp, v_ifT, v_ifF, v_for, v_ret, v_sqN, v_sqR, v_sqB, v_sqC, v_callT, v_ixT2, v_ixT, v_seqL, v_seqT, v_seqW, v_seqC, v_liveW, v_liveC, v_toD, v_toDc, v_frC, v_toDs0, v_toDs, v_Ds, v_Ds2, v_newF, v_newT, v_add, v_subI, v_catT, v_catLL, v_eqI, v_neI, v_eqB, v_neB, v_lt, v_le, v_gt, v_ge, v_is, v_isnot, v_nonN, v_nonI, v_nonB, v_nonT, v_nonL, v_nonC, v_truN, v_truB, v_ixO, v_ixS, v_ixTu, v_ixL, v_ixC, v_at0, v_at1, v_at2, v_at3, v_at4, v_at5, v_at6, v_at7, v_lenO, v_lenS, v_lenL, v_lenT, v_lenC, v_intI, v_intB, v_abs, v_max2, v_min2, v_gcd, v_listL, v_listT, v_listO, v_listC, v_tupleL, v_tupleT, v_tupO, v_tupleC, v_slS, v_slL, v_slT, v_itS, v_itL, v_itT, v_itW, v_itC, v_append, v_app, v_appO, v_pop, v_popO, v_popAt, v_reverse, v_revO, v_isiI, v_isiB, v_isiL, v_isiTu, v_isiS, v_isiN, v_isiC, v_Fb, v_FlN, v_FlC, v_FlB, v_FlR, v_Cl4, v_Cl3, v_Cl2, v_Cl1t, v_Cl1f, v_Cl0, v_encS, v_ptS, v_encI, v_ptI, v_eqE, v_neE, v_eqP, v_neP, v_nonE, v_nonP, v_mulS, v_setC0, v_DC, v_seqDC, v_DCxs, v_mxS, v_mxI, v_sgS, v_sgI, v_setC1, v_setC2, v_setC3, leave_c02, v_frmI, v_dtS, v_dtI, v_eqDt, v_neDt, v_neDt2, v_minDt, v_maxDt, pw_10_9, pw_10_18, pw_10_30, pw_10_12, pw_10_20, pw_10_6, pw_shl, initE, bnd_some, List.getElem?_cons_zero, List.getElem?_cons_succ, List.set_cons_zero, List.set_cons_succ, List.map_cons, List.map_nil, List.length_cons, List.length_nil, List.cons_append, List.nil_append, List.replicate, Nat.reduceAdd, Nat.reduceSub, Nat.reduceLT, Nat.reduceLeDiff, Nat.zero_add, if_true, Bool.false_eq_true, if_false, reduceCtorEq, sizeLine_eq, lBody_eq, lElt_eq, lCnd_eq, List.take_succ_cons, List.take_zero, Int.natCast_zero, Nat.max_def, List.any_cons, List.any_nil, Bool.or_false, Bool.false_or, Bool.and_false, Bool.false_and, Bool.or_true, Bool.true_or, Bool.true_and, Bool.and_true, eq_self, ne_eq, not_true, not_false_eq_true, beq_self_eq_true, Int.lt_irrefl, Int.reduceLT, Int.reduceLE, Int.reduceEq, Bool.true_beq, Bool.false_beq, decide_true, decide_false, Bool.not_true, Bool.not_false])
  rw [rngD_length] at hz
  obtain ⟨ts, hts, rfl⟩ := list_of hP
  rw [List.length_map] at hz
  have htl : ts.length ≤ 20 := by omega
  have n1 : ∀ μ, newL false (ts.map sgT) μ = some (.d (.list (ts.map sgT)), μ) := fun μ => v_newF _ (by rw [sizeLine_eq, List.length_map]; omega)
  obtain ⟨v, v1, v2, e4⟩ := take_ex (k+4) y1 6 (by decide) []
  have tail : ∀ (f : Int) (ys : List Int), f.natAbs < 2 ^ 68 → ∃ (ss : List (Pt × Pt)) (ys' : List Int), (∀ s ∈ ss, Sg4 s 200) ∧ ss.length ≤ 20 ∧ leave 1 (evSs (evF T (k+5)) (Ss.dropN 5 df_law_drawn.body) [some (.c 0), some (.d (.int many)), some (.d (.int s)), some (.d (.int d)), some (.d (.list (ts.map sgT))), some (.d (.int f)), none, none, none] [DC ys]) = some (.d (.tuple (ss.map sgT)), [DC ys']) := by
    intro f ys hf
    obtain ⟨z5, ⟨h, rfl, hh⟩, e5⟩ := pick_ex (k+3) ys [.int 0, .int 0, .int (-2), .int (-1), .int 1000000] (fun z => ∃ i : Int, z = .int i ∧ i.natAbs < 2 ^ 20) (by
      simp only [List.forall_mem_cons, List.not_mem_nil, false_implies, implies_true, and_true]
      exact ⟨⟨_, rfl, by decide⟩, ⟨_, rfl, by decide⟩, ⟨_, rfl, by decide⟩, ⟨_, rfl, by decide⟩, ⟨_, rfl, by decide⟩⟩) (by simp) []
    have e5n : evF T (k+5) 11 [.c 0, .d (.list [.int 0, .int 0, .int (-(2 : Int)), .int (-(1 : Int)), .int 1000000])] [DC ys] = some (.d (.int h), [DC ys.dropLast]) := e5
    by_cases c : f = 1 ∧ h = 0
    · obtain ⟨rfl, rfl⟩ := c
      refine ⟨ts, ys.dropLast, fun q hq => ⟨(hts q hq).a.mono (by decide), (hts q hq).b.mono (by decide), (hts q hq).c.mono (by decide), (hts q hq).d.mono (by decide)⟩, htl, ?_⟩
      simp only [df_law_drawn, Ss.dropN, e5n, e_var, e_cst, e_bop, e_neg, e_not, e_boo, e_cmp, e_chain, e_ite, e_call, e_bi, e_isi, e_ix, e_sl, e_tup, e_lst, e_comp, e_meth, es_nil, es_cons, bv_one, bv_cons, bt_one, bt_cons, o_none, o_some, c_none, c_some, t_var, t_not, t_boo, t_cmp, t_chain, t_call, t_isi, t_ix, i_val, i_rng1, i_rng2, g_name, g_tup, g_sub, gs_nil, gs_cons, s_asg, s_par, s_aug, s_expr, s_iff, s_for, s_ret, s_retN, s_brk, s_cont, s_pass, ss_nil, ss_cons, leave_next, leave_d, take_all, v_getV, v_bop2, v_bop, v_neg, v_not, v_cmp2, v_cmp, v_bT, v_bV, v_chV3, v_chV2t, v_chV2f, v_chV1, v_chV, v_iteT, v_iteF, v_call, v_bi, v_isi, v_ix2, v_ix, v_sl3, v_sl2, v_sl, v_tup2, v_tup, v_lst, v_asgn, v_comp, v_meth2, v_meth, v_es2, v_es, v_BVt, v_BVtf, v_BVf, v_BVft, v_BTt, v_BTtf, v_BTf, v_BTft, v_O, v_tru, v_cmpT2, v_cmpT, v_chT3, v_chT2t, v_chT2f, v_chT1, v_chT, v_notT, v_isiT, v_pW, v_itV, v_R1, v_R2b, v_R2, v_asgSeq, v_setIx, v_setIx2, v_sub3, v_sub2, v_sub, v_Ts, v_asg2, v_asg, v_par2, v_par, v_augO, v_aug, v_augV, v_augA, v_augS, v_exp, v_ifT, v_ifF, v_for, v_ret, v_sqN, v_sqR, v_sqB, v_sqC, v_callT, v_ixT2, v_ixT, v_seqL, v_seqT, v_seqW, v_seqC, v_liveW, v_liveC, v_toD, v_toDc, v_frC, v_toDs0, v_toDs, v_Ds, v_Ds2, v_newF, v_newT, v_add, v_subI, v_catT, v_catLL, v_eqI, v_neI, v_eqB, v_neB, v_lt, v_le, v_gt, v_ge, v_is, v_isnot, v_nonN, v_nonI, v_nonB, v_nonT, v_nonL, v_nonC, v_truN, v_truB, v_ixO, v_ixS, v_ixTu, v_ixL, v_ixC, v_at0, v_at1, v_at2, v_at3, v_at4, v_at5, v_at6, v_at7, v_lenO, v_lenS, v_lenL, v_lenT, v_lenC, v_intI, v_intB, v_abs, v_max2, v_min2, v_gcd, v_listL, v_listT, v_listO, v_listC, v_tupleL, v_tupleT, v_tupO, v_tupleC, v_slS, v_slL, v_slT, v_itS, v_itL, v_itT, v_itW, v_itC, v_append, v_app, v_appO, v_pop, v_popO, v_popAt, v_reverse, v_revO, v_isiI, v_isiB, v_isiL, v_isiTu, v_isiS, v_isiN, v_isiC, v_Fb, v_FlN, v_FlC, v_FlB, v_FlR, v_Cl4, v_Cl3, v_Cl2, v_Cl1t, v_Cl1f, v_Cl0, v_encS, v_ptS, v_encI, v_ptI, v_eqE, v_neE, v_eqP, v_neP, v_nonE, v_nonP, v_mulS, v_setC0, v_DC, v_seqDC, v_DCxs, v_mxS, v_mxI, v_sgS, v_sgI, v_setC1, v_setC2, v_setC3, leave_c02, v_frmI, v_dtS, v_dtI, v_eqDt, v_neDt, v_neDt2, v_minDt, v_maxDt, pw_10_9, pw_10_18, pw_10_30, pw_10_12, pw_10_20, pw_10_6, pw_shl, initE, bnd_some, List.getElem?_cons_zero, List.getElem?_cons_succ, List.set_cons_zero, List.set_cons_succ, List.map_cons, List.map_nil, List.length_cons, List.length_nil, List.cons_append, List.nil_append, List.replicate, Nat.reduceAdd, Nat.reduceSub, Nat.reduceLT, Nat.reduceLeDiff, Nat.zero_add, if_true, Bool.false_eq_true, if_false, reduceCtorEq, sizeLine_eq, lBody_eq, lElt_eq, lCnd_eq, List.take_succ_cons, List.take_zero, Int.natCast_zero, Nat.max_def, List.any_cons, List.any_nil, Bool.or_false, Bool.false_or, Bool.and_false, Bool.false_and, Bool.or_true, Bool.true_or, Bool.true_and, Bool.and_true, eq_self, ne_eq, not_true, not_false_eq_true, beq_self_eq_true, Int.lt_irrefl, Int.reduceLT, Int.reduceLE, Int.reduceEq, Bool.true_beq, Bool.false_beq, decide_true, decide_false, Bool.not_true, Bool.not_false]
    · let mv : Pt → Pt := fun p => (p.1 * (f : Rat) + (h : Rat), p.2 * (f : Rat) + ((0 - h : Int) : Rat))
      have msz : ∀ p : Pt, SzQ p.1 101 → SzQ p.2 101 → SzQ (mv p).1 200 ∧ SzQ (mv p).2 200 := by
        intro p p1 p2
        have c1 : SzQ (f : Rat) 68 := ⟨by rw [Rat.num_intCast]; exact hf, by rw [Rat.den_intCast]; decide⟩
        have c2 : SzQ (h : Rat) 20 := ⟨by rw [Rat.num_intCast]; exact hh, by rw [Rat.den_intCast]; decide⟩
        have c3 : SzQ ((0 - h : Int) : Rat) 20 := ⟨by rw [Rat.num_intCast, Int.zero_sub, Int.natAbs_neg]; exact hh, by rw [Rat.den_intCast]; decide⟩
        exact ⟨SzQ.mono (n := 101 + 68 + 20 + 1) (inferInstanceAs (SzQ (p.1 * (f : Rat) + (h : Rat)) _)) (by decide), SzQ.mono (n := 101 + 68 + 20 + 1) (inferInstanceAs (SzQ (p.2 * (f : Rat) + ((0 - h : Int) : Rat)) _)) (by decide)⟩
      have lw : ∀ i n : Nat, i < 2 ^ n → n ≤ 80 → i < 2 ^ 80 := fun i n a b => Nat.lt_of_lt_of_le a (Nat.pow_le_pow_right (by decide) b)
      have e6 := fun (all : List D) => compL_mapM (asg := lAsg (evF T (k+5)) (.name 8)) (cond := lCnd (evF T (k+5)) .none) (elt := lElt (evF T (k+5)) (.tup (.cons (.call 24 (.cons (.ix (.var 8) (.cst (.int 0))) (.cons (.var 5) (.cons (.var 6) .nil)))) (.cons (.call 24 (.cons (.ix (.var 8) (.cst (.int 1))) (.cons (.var 5) (.cons (.var 6) .nil)))) .nil)))) (all := all) (env := [some (.c 0), some (.d (.int many)), some (.d (.int s)), some (.d (.int d)), some (.d (.list (ts.map sgT))), some (.d (.int f)), some (.d (.int h)), none, none]) (μ := [DC ys.dropLast]) (g := sgT) (h := fun t => sgT (mv t.1, mv t.2)) (ss := ts) (by
        intro t ht
        have hq := hts t ht
        have f1 := fun μ => moved_spot_eq (k+1) t.1 f h (lw _ _ hf (by decide)) (lw _ _ hh (by decide)) hq.a hq.b μ
        have f2 := fun μ => moved_spot_eq (k+1) t.2 f h (lw _ _ hf (by decide)) (lw _ _ hh (by decide)) hq.c hq.d μ
        refine ⟨_, by simp only [e_var, e_cst, e_bop, e_neg, e_not, e_boo, e_cmp, e_chain, e_ite, e_call, e_bi, e_isi, e_ix, e_sl, e_tup, e_lst, e_comp, e_meth, es_nil, es_cons, bv_one, bv_cons, bt_one, bt_cons, o_none, o_some, c_none, c_some, t_var, t_not, t_boo, t_cmp, t_chain, t_call, t_isi, t_ix, i_val, i_rng1, i_rng2, g_name, g_tup, g_sub, gs_nil, gs_cons, s_asg, s_par, s_aug, s_expr, s_iff, s_for, s_ret, s_retN, s_brk, s_cont, s_pass, ss_nil, ss_cons, leave_next, leave_d, take_all, v_getV, v_bop2, v_bop, v_neg, v_not, v_cmp2, v_cmp, v_bT, v_bV, v_chV3, v_chV2t, v_chV2f, v_chV1, v_chV, v_iteT, v_iteF, v_call, v_bi, v_isi, v_ix2, v_ix, v_sl3, v_sl2, v_sl, v_tup2, v_tup, v_lst, v_asgn, v_comp, v_meth2, v_meth, v_es2, v_es, v_BVt, v_BVtf, v_BVf, v_BVft, v_BTt, v_BTtf, v_BTf, v_BTft, v_O, v_tru, v_cmpT2, v_cmpT, v_chT3, v_chT2t, v_chT2f, v_chT1, v_chT, v_notT, v_isiT, v_pW, v_itV, v_R1, v_R2b, v_R2, v_asgSeq, v_setIx, v_setIx2, v_sub3, v_sub2, v_sub, v_Ts, v_asg2, v_asg, v_par2, v_par, v_augO, v_aug, v_augV, v_augA, v_augS, v_exp, v_ifT, v_ifF, v_for, v_ret, v_sqN, v_sqR, v_sqB, v_sqC, v_callT, v_ixT2, v_ixT, v_seqL, v_seqT, v_seqW, v_seqC, v_liveW, v_liveC, v_toD, v_toDc, v_frC, v_toDs0, v_toDs, v_Ds, v_Ds2, v_newF, v_newT, v_add, v_subI, v_catT, v_catLL, v_eqI, v_neI, v_eqB, v_neB, v_lt, v_le, v_gt, v_ge, v_is, v_isnot, v_nonN, v_nonI, v_nonB, v_nonT, v_nonL, v_nonC, v_truN, v_truB, v_ixO, v_ixS, v_ixTu, v_ixL, v_ixC, v_at0, v_at1, v_at2, v_at3, v_at4, v_at5, v_at6, v_at7, v_lenO, v_lenS, v_lenL, v_lenT, v_lenC, v_intI, v_intB, v_abs, v_max2, v_min2, v_gcd, v_listL, v_listT, v_listO, v_listC, v_tupleL, v_tupleT, v_tupO, v_tupleC, v_slS, v_slL, v_slT, v_itS, v_itL, v_itT, v_itW, v_itC, v_append, v_app, v_appO, v_pop, v_popO, v_popAt, v_reverse, v_revO, v_isiI, v_isiB, v_isiL, v_isiTu, v_isiS, v_isiN, v_isiC, v_Fb, v_FlN, v_FlC, v_FlB, v_FlR, v_Cl4, v_Cl3, v_Cl2, v_Cl1t, v_Cl1f, v_Cl0, v_encS, v_ptS, v_encI, v_ptI, v_eqE, v_neE, v_eqP, v_neP, v_nonE, v_nonP, v_mulS, v_setC0, v_DC, v_seqDC, v_DCxs, v_mxS, v_mxI, v_sgS, v_sgI, v_setC1, v_setC2, v_setC3, leave_c02, v_frmI, v_dtS, v_dtI, v_eqDt, v_neDt, v_neDt2, v_minDt, v_maxDt, pw_10_9, pw_10_18, pw_10_30, pw_10_12, pw_10_20, pw_10_6, pw_shl, initE, bnd_some, List.getElem?_cons_zero, List.getElem?_cons_succ, List.set_cons_zero, List.set_cons_succ, List.map_cons, List.map_nil, List.length_cons, List.length_nil, List.cons_append, List.nil_append, List.replicate, Nat.reduceAdd, Nat.reduceSub, Nat.reduceLT, Nat.reduceLeDiff, Nat.zero_add, if_true, Bool.false_eq_true, if_false, reduceCtorEq, sizeLine_eq, lBody_eq, lElt_eq, lCnd_eq, List.take_succ_cons, List.take_zero, Int.natCast_zero, Nat.max_def, List.any_cons, List.any_nil, Bool.or_false, Bool.false_or, Bool.and_false, Bool.false_and, Bool.or_true, Bool.true_or, Bool.true_and, Bool.and_true, eq_self, ne_eq, not_true, not_false_eq_true, beq_self_eq_true, Int.lt_irrefl, Int.reduceLT, Int.reduceLE, Int.reduceEq, Bool.true_beq, Bool.false_beq, decide_true, decide_false, Bool.not_true, Bool.not_false]; rfl, by simp only [e_var, e_cst, e_bop, e_neg, e_not, e_boo, e_cmp, e_chain, e_ite, e_call, e_bi, e_isi, e_ix, e_sl, e_tup, e_lst, e_comp, e_meth, es_nil, es_cons, bv_one, bv_cons, bt_one, bt_cons, o_none, o_some, c_none, c_some, t_var, t_not, t_boo, t_cmp, t_chain, t_call, t_isi, t_ix, i_val, i_rng1, i_rng2, g_name, g_tup, g_sub, gs_nil, gs_cons, s_asg, s_par, s_aug, s_expr, s_iff, s_for, s_ret, s_retN, s_brk, s_cont, s_pass, ss_nil, ss_cons, leave_next, leave_d, take_all, v_getV, v_bop2, v_bop, v_neg, v_not, v_cmp2, v_cmp, v_bT, v_bV, v_chV3, v_chV2t, v_chV2f, v_chV1, v_chV, v_iteT, v_iteF, v_call, v_bi, v_isi, v_ix2, v_ix, v_sl3, v_sl2, v_sl, v_tup2, v_tup, v_lst, v_asgn, v_comp, v_meth2, v_meth, v_es2, v_es, v_BVt, v_BVtf, v_BVf, v_BVft, v_BTt, v_BTtf, v_BTf, v_BTft, v_O, v_tru, v_cmpT2, v_cmpT, v_chT3, v_chT2t, v_chT2f, v_chT1, v_chT, v_notT, v_isiT, v_pW, v_itV, v_R1, v_R2b, v_R2, v_asgSeq, v_setIx, v_setIx2, v_sub3, v_sub2, v_sub, v_Ts, v_asg2, v_asg, v_par2, v_par, v_augO, v_aug, v_augV, v_augA, v_augS, v_exp, v_ifT, v_ifF, v_for, v_ret, v_sqN, v_sqR, v_sqB, v_sqC, v_callT, v_ixT2, v_ixT, v_seqL, v_seqT, v_seqW, v_seqC, v_liveW, v_liveC, v_toD, v_toDc, v_frC, v_toDs0, v_toDs, v_Ds, v_Ds2, v_newF, v_newT, v_add, v_subI, v_catT, v_catLL, v_eqI, v_neI, v_eqB, v_neB, v_lt, v_le, v_gt, v_ge, v_is, v_isnot, v_nonN, v_nonI, v_nonB, v_nonT, v_nonL, v_nonC, v_truN, v_truB, v_ixO, v_ixS, v_ixTu, v_ixL, v_ixC, v_at0, v_at1, v_at2, v_at3, v_at4, v_at5, v_at6, v_at7, v_lenO, v_lenS, v_lenL, v_lenT, v_lenC, v_intI, v_intB, v_abs, v_max2, v_min2, v_gcd, v_listL, v_listT, v_listO, v_listC, v_tupleL, v_tupleT, v_tupO, v_tupleC, v_slS, v_slL, v_slT, v_itS, v_itL, v_itT, v_itW, v_itC, v_append, v_app, v_appO, v_pop, v_popO, v_popAt, v_reverse, v_revO, v_isiI, v_isiB, v_isiL, v_isiTu, v_isiS, v_isiN, v_isiC, v_Fb, v_FlN, v_FlC, v_FlB, v_FlR, v_Cl4, v_Cl3, v_Cl2, v_Cl1t, v_Cl1f, v_Cl0, v_encS, v_ptS, v_encI, v_ptI, v_eqE, v_neE, v_eqP, v_neP, v_nonE, v_nonP, v_mulS, v_setC0, v_DC, v_seqDC, v_DCxs, v_mxS, v_mxI, v_sgS, v_sgI, v_setC1, v_setC2, v_setC3, leave_c02, v_frmI, v_dtS, v_dtI, v_eqDt, v_neDt, v_neDt2, v_minDt, v_maxDt, pw_10_9, pw_10_18, pw_10_30, pw_10_12, pw_10_20, pw_10_6, pw_shl, initE, bnd_some, List.getElem?_cons_zero, List.getElem?_cons_succ, List.set_cons_zero, List.set_cons_succ, List.map_cons, List.map_nil, List.length_cons, List.length_nil, List.cons_append, List.nil_append, List.replicate, Nat.reduceAdd, Nat.reduceSub, Nat.reduceLT, Nat.reduceLeDiff, Nat.zero_add, if_true, Bool.false_eq_true, if_false, reduceCtorEq, sizeLine_eq, lBody_eq, lElt_eq, lCnd_eq, List.take_succ_cons, List.take_zero, Int.natCast_zero, Nat.max_def, List.any_cons, List.any_nil, Bool.or_false, Bool.false_or, Bool.and_false, Bool.false_and, Bool.or_true, Bool.true_or, Bool.true_and, Bool.and_true, eq_self, ne_eq, not_true, not_false_eq_true, beq_self_eq_true, Int.lt_irrefl, Int.reduceLT, Int.reduceLE, Int.reduceEq, Bool.true_beq, Bool.false_beq, decide_true, decide_false, Bool.not_true, Bool.not_false], ?_⟩
        simp only [f1, f2, e_var, e_cst, e_bop, e_neg, e_not, e_boo, e_cmp, e_chain, e_ite, e_call, e_bi, e_isi, e_ix, e_sl, e_tup, e_lst, e_comp, e_meth, es_nil, es_cons, bv_one, bv_cons, bt_one, bt_cons, o_none, o_some, c_none, c_some, t_var, t_not, t_boo, t_cmp, t_chain, t_call, t_isi, t_ix, i_val, i_rng1, i_rng2, g_name, g_tup, g_sub, gs_nil, gs_cons, s_asg, s_par, s_aug, s_expr, s_iff, s_for, s_ret, s_retN, s_brk, s_cont, s_pass, ss_nil, ss_cons, leave_next, leave_d, take_all, v_getV, v_bop2, v_bop, v_neg, v_not, v_cmp2, v_cmp, v_bT, v_bV, v_chV3, v_chV2t, v_chV2f, v_chV1, v_chV, v_iteT, v_iteF, v_call, v_bi, v_isi, v_ix2, v_ix, v_sl3, v_sl2, v_sl, v_tup2, v_tup, v_lst, v_asgn, v_comp, v_meth2, v_meth, v_es2, v_es, v_BVt, v_BVtf, v_BVf, v_BVft, v_BTt, v_BTtf, v_BTf, v_BTft, v_O, v_tru, v_cmpT2, v_cmpT, v_chT3, v_chT2t, v_chT2f, v_chT1, v_chT, v_notT, v_isiT, v_pW, v_itV, v_R1, v_R2b, v_R2, v_asgSeq, v_setIx, v_setIx2, v_sub3, v_sub2, v_sub, v_Ts, v_asg2, v_asg, v_par2, v_par, v_augO, v_aug, v_augV, v_augA, v_augS, v_exp, v_ifT, v_ifF, v_for, v_ret, v_sqN, v_sqR, v_sqB, v_sqC, v_callT, v_ixT2, v_ixT, v_seqL, v_seqT, v_seqW, v_seqC, v_liveW, v_liveC, v_toD, v_toDc, v_frC, v_toDs0, v_toDs, v_Ds, v_Ds2, v_newF, v_newT, v_add, v_subI, v_catT, v_catLL, v_eqI, v_neI, v_eqB, v_neB, v_lt, v_le, v_gt, v_ge, v_is, v_isnot, v_nonN, v_nonI, v_nonB, v_nonT, v_nonL, v_nonC, v_truN, v_truB, v_ixO, v_ixS, v_ixTu, v_ixL, v_ixC, v_at0, v_at1, v_at2, v_at3, v_at4, v_at5, v_at6, v_at7, v_lenO, v_lenS, v_lenL, v_lenT, v_lenC, v_intI, v_intB, v_abs, v_max2, v_min2, v_gcd, v_listL, v_listT, v_listO, v_listC, v_tupleL, v_tupleT, v_tupO, v_tupleC, v_slS, v_slL, v_slT, v_itS, v_itL, v_itT, v_itW, v_itC, v_append, v_app, v_appO, v_pop, v_popO, v_popAt, v_reverse, v_revO, v_isiI, v_isiB, v_isiL, v_isiTu, v_isiS, v_isiN, v_isiC, v_Fb, v_FlN, v_FlC, v_FlB, v_FlR, v_Cl4, v_Cl3, v_Cl2, v_Cl1t, v_Cl1f, v_Cl0, v_encS, v_ptS, v_encI, v_ptI, v_eqE, v_neE, v_eqP, v_neP, v_nonE, v_nonP, v_mulS, v_setC0, v_DC, v_seqDC, v_DCxs, v_mxS, v_mxI, v_sgS, v_sgI, v_setC1, v_setC2, v_setC3, leave_c02, v_frmI, v_dtS, v_dtI, v_eqDt, v_neDt, v_neDt2, v_minDt, v_maxDt, pw_10_9, pw_10_18, pw_10_30, pw_10_12, pw_10_20, pw_10_6, pw_shl, initE, bnd_some, List.getElem?_cons_zero, List.getElem?_cons_succ, List.set_cons_zero, List.set_cons_succ, List.map_cons, List.map_nil, List.length_cons, List.length_nil, List.cons_append, List.nil_append, List.replicate, Nat.reduceAdd, Nat.reduceSub, Nat.reduceLT, Nat.reduceLeDiff, Nat.zero_add, if_true, Bool.false_eq_true, if_false, reduceCtorEq, sizeLine_eq, lBody_eq, lElt_eq, lCnd_eq, List.take_succ_cons, List.take_zero, Int.natCast_zero, Nat.max_def, List.any_cons, List.any_nil, Bool.or_false, Bool.false_or, Bool.and_false, Bool.false_and, Bool.or_true, Bool.true_or, Bool.true_and, Bool.and_true, eq_self, ne_eq, not_true, not_false_eq_true, beq_self_eq_true, Int.lt_irrefl, Int.reduceLT, Int.reduceLE, Int.reduceEq, Bool.true_beq, Bool.false_beq, decide_true, decide_false, Bool.not_true, Bool.not_false]
        rfl)
      have n2 : ∀ μ, newL false (ts.map fun t => sgT (mv t.1, mv t.2)) μ = some (.d (.list (ts.map fun t => sgT (mv t.1, mv t.2))), μ) := fun μ => v_newF _ (by rw [sizeLine_eq, List.length_map]; omega)
      refine ⟨ts.map fun t => (mv t.1, mv t.2), ys.dropLast, ?_, by rw [List.length_map]; exact htl, ?_⟩
      · intro q hq
        obtain ⟨t, ht, rfl⟩ := List.mem_map.mp hq
        have hh := hts t ht
        obtain ⟨m1, m2⟩ := msz t.1 hh.a hh.b
        obtain ⟨m3, m4⟩ := msz t.2 hh.c hh.d
        exact ⟨m1, m2, m3, m4⟩
      · have c' : decide (f = 1) = false ∨ decide (f = 1) = true ∧ decide (h = 0) = false := by
          by_cases c1 : f = 1
          · right; exact ⟨decide_eq_true c1, decide_eq_false fun c2 => c ⟨c1, c2⟩⟩
          · left; exact decide_eq_false c1
        rw [List.map_map]
        rcases c' with c1 | ⟨c1, c2⟩
        · simp only [df_law_drawn, Ss.dropN, e5n, c1, wipeE, e6, n2, e_var, e_cst, e_bop, e_neg, e_not, e_boo, e_cmp, e_chain, e_ite, e_call, e_bi, e_isi, e_ix, e_sl, e_tup, e_lst, e_comp, e_meth, es_nil, es_cons, bv_one, bv_cons, bt_one, bt_cons, o_none, o_some, c_none, c_some, t_var, t_not, t_boo, t_cmp, t_chain, t_call, t_isi, t_ix, i_val, i_rng1, i_rng2, g_name, g_tup, g_sub, gs_nil, gs_cons, s_asg, s_par, s_aug, s_expr, s_iff, s_for, s_ret, s_retN, s_brk, s_cont, s_pass, ss_nil, ss_cons, leave_next, leave_d, take_all, v_getV, v_bop2, v_bop, v_neg, v_not, v_cmp2, v_cmp, v_bT, v_bV, v_chV3, v_chV2t, v_chV2f, v_chV1, v_chV, v_iteT, v_iteF, v_call, v_bi, v_isi, v_ix2, v_ix, v_sl3, v_sl2, v_sl, v_tup2, v_tup, v_lst, v_asgn, v_comp, v_meth2, v_meth, v_es2, v_es, v_BVt, v_BVtf, v_BVf, v_BVft, v_BTt, v_BTtf, v_BTf, v_BTft, v_O, v_tru, v_cmpT2, v_cmpT, v_chT3, v_chT2t, v_chT2f, v_chT1, v_chT, v_notT, v_isiT, v_pW, v_itV, v_R1, v_R2b, v_R2, v_asgSeq, v_setIx, v_setIx2, v_sub3, v_sub2, v_sub, v_Ts, v_asg2, v_asg, v_par2, v_par, v_augO, v_aug, v_augV, v_augA, v_augS, v_exp, v_ifT, v_ifF, v_for, v_ret, v_sqN, v_sqR, v_sqB, v_sqC, v_callT, v_ixT2, v_ixT, v_seqL, v_seqT, v_seqW, v_seqC, v_liveW, v_liveC, v_toD, v_toDc, v_frC, v_toDs0, v_toDs, v_Ds, v_Ds2, v_newF, v_newT, v_add, v_subI, v_catT, v_catLL, v_eqI, v_neI, v_eqB, v_neB, v_lt, v_le, v_gt, v_ge, v_is, v_isnot, v_nonN, v_nonI, v_nonB, v_nonT, v_nonL, v_nonC, v_truN, v_truB, v_ixO, v_ixS, v_ixTu, v_ixL, v_ixC, v_at0, v_at1, v_at2, v_at3, v_at4, v_at5, v_at6, v_at7, v_lenO, v_lenS, v_lenL, v_lenT, v_lenC, v_intI, v_intB, v_abs, v_max2, v_min2, v_gcd, v_listL, v_listT, v_listO, v_listC, v_tupleL, v_tupleT, v_tupO, v_tupleC, v_slS, v_slL, v_slT, v_itS, v_itL, v_itT, v_itW, v_itC, v_append, v_app, v_appO, v_pop, v_popO, v_popAt, v_reverse, v_revO, v_isiI, v_isiB, v_isiL, v_isiTu, v_isiS, v_isiN, v_isiC, v_Fb, v_FlN, v_FlC, v_FlB, v_FlR, v_Cl4, v_Cl3, v_Cl2, v_Cl1t, v_Cl1f, v_Cl0, v_encS, v_ptS, v_encI, v_ptI, v_eqE, v_neE, v_eqP, v_neP, v_nonE, v_nonP, v_mulS, v_setC0, v_DC, v_seqDC, v_DCxs, v_mxS, v_mxI, v_sgS, v_sgI, v_setC1, v_setC2, v_setC3, leave_c02, v_frmI, v_dtS, v_dtI, v_eqDt, v_neDt, v_neDt2, v_minDt, v_maxDt, pw_10_9, pw_10_18, pw_10_30, pw_10_12, pw_10_20, pw_10_6, pw_shl, initE, bnd_some, List.getElem?_cons_zero, List.getElem?_cons_succ, List.set_cons_zero, List.set_cons_succ, List.map_cons, List.map_nil, List.length_cons, List.length_nil, List.cons_append, List.nil_append, List.replicate, Nat.reduceAdd, Nat.reduceSub, Nat.reduceLT, Nat.reduceLeDiff, Nat.zero_add, if_true, Bool.false_eq_true, if_false, reduceCtorEq, sizeLine_eq, lBody_eq, lElt_eq, lCnd_eq, List.take_succ_cons, List.take_zero, Int.natCast_zero, Nat.max_def, List.any_cons, List.any_nil, Bool.or_false, Bool.false_or, Bool.and_false, Bool.false_and, Bool.or_true, Bool.true_or, Bool.true_and, Bool.and_true, eq_self, ne_eq, not_true, not_false_eq_true, beq_self_eq_true, Int.lt_irrefl, Int.reduceLT, Int.reduceLE, Int.reduceEq, Bool.true_beq, Bool.false_beq, decide_true, decide_false, Bool.not_true, Bool.not_false]
          rfl
        · simp only [df_law_drawn, Ss.dropN, e5n, c1, c2, wipeE, e6, n2, e_var, e_cst, e_bop, e_neg, e_not, e_boo, e_cmp, e_chain, e_ite, e_call, e_bi, e_isi, e_ix, e_sl, e_tup, e_lst, e_comp, e_meth, es_nil, es_cons, bv_one, bv_cons, bt_one, bt_cons, o_none, o_some, c_none, c_some, t_var, t_not, t_boo, t_cmp, t_chain, t_call, t_isi, t_ix, i_val, i_rng1, i_rng2, g_name, g_tup, g_sub, gs_nil, gs_cons, s_asg, s_par, s_aug, s_expr, s_iff, s_for, s_ret, s_retN, s_brk, s_cont, s_pass, ss_nil, ss_cons, leave_next, leave_d, take_all, v_getV, v_bop2, v_bop, v_neg, v_not, v_cmp2, v_cmp, v_bT, v_bV, v_chV3, v_chV2t, v_chV2f, v_chV1, v_chV, v_iteT, v_iteF, v_call, v_bi, v_isi, v_ix2, v_ix, v_sl3, v_sl2, v_sl, v_tup2, v_tup, v_lst, v_asgn, v_comp, v_meth2, v_meth, v_es2, v_es, v_BVt, v_BVtf, v_BVf, v_BVft, v_BTt, v_BTtf, v_BTf, v_BTft, v_O, v_tru, v_cmpT2, v_cmpT, v_chT3, v_chT2t, v_chT2f, v_chT1, v_chT, v_notT, v_isiT, v_pW, v_itV, v_R1, v_R2b, v_R2, v_asgSeq, v_setIx, v_setIx2, v_sub3, v_sub2, v_sub, v_Ts, v_asg2, v_asg, v_par2, v_par, v_augO, v_aug, v_augV, v_augA, v_augS, v_exp, v_ifT, v_ifF, v_for, v_ret, v_sqN, v_sqR, v_sqB, v_sqC, v_callT, v_ixT2, v_ixT, v_seqL, v_seqT, v_seqW, v_seqC, v_liveW, v_liveC, v_toD, v_toDc, v_frC, v_toDs0, v_toDs, v_Ds, v_Ds2, v_newF, v_newT, v_add, v_subI, v_catT, v_catLL, v_eqI, v_neI, v_eqB, v_neB, v_lt, v_le, v_gt, v_ge, v_is, v_isnot, v_nonN, v_nonI, v_nonB, v_nonT, v_nonL, v_nonC, v_truN, v_truB, v_ixO, v_ixS, v_ixTu, v_ixL, v_ixC, v_at0, v_at1, v_at2, v_at3, v_at4, v_at5, v_at6, v_at7, v_lenO, v_lenS, v_lenL, v_lenT, v_lenC, v_intI, v_intB, v_abs, v_max2, v_min2, v_gcd, v_listL, v_listT, v_listO, v_listC, v_tupleL, v_tupleT, v_tupO, v_tupleC, v_slS, v_slL, v_slT, v_itS, v_itL, v_itT, v_itW, v_itC, v_append, v_app, v_appO, v_pop, v_popO, v_popAt, v_reverse, v_revO, v_isiI, v_isiB, v_isiL, v_isiTu, v_isiS, v_isiN, v_isiC, v_Fb, v_FlN, v_FlC, v_FlB, v_FlR, v_Cl4, v_Cl3, v_Cl2, v_Cl1t, v_Cl1f, v_Cl0, v_encS, v_ptS, v_encI, v_ptI, v_eqE, v_neE, v_eqP, v_neP, v_nonE, v_nonP, v_mulS, v_setC0, v_DC, v_seqDC, v_DCxs, v_mxS, v_mxI, v_sgS, v_sgI, v_setC1, v_setC2, v_setC3, leave_c02, v_frmI, v_dtS, v_dtI, v_eqDt, v_neDt, v_neDt2, v_minDt, v_maxDt, pw_10_9, pw_10_18, pw_10_30, pw_10_12, pw_10_20, pw_10_6, pw_shl, initE, bnd_some, List.getElem?_cons_zero, List.getElem?_cons_succ, List.set_cons_zero, List.set_cons_succ, List.map_cons, List.map_nil, List.length_cons, List.length_nil, List.cons_append, List.nil_append, List.replicate, Nat.reduceAdd, Nat.reduceSub, Nat.reduceLT, Nat.reduceLeDiff, Nat.zero_add, if_true, Bool.false_eq_true, if_false, reduceCtorEq, sizeLine_eq, lBody_eq, lElt_eq, lCnd_eq, List.take_succ_cons, List.take_zero, Int.natCast_zero, Nat.max_def, List.any_cons, List.any_nil, Bool.or_false, Bool.false_or, Bool.and_false, Bool.false_and, Bool.or_true, Bool.true_or, Bool.true_and, Bool.and_true, eq_self, ne_eq, not_true, not_false_eq_true, beq_self_eq_true, Int.lt_irrefl, Int.reduceLT, Int.reduceLE, Int.reduceEq, Bool.true_beq, Bool.false_beq, decide_true, decide_false, Bool.not_true, Bool.not_false]
          rfl
  by_cases h0 : v = 0
  · subst h0
    obtain ⟨z7, ⟨f, rfl, hf⟩, e7⟩ := pick_ex (k+3) y1.dropLast [.int 7, .int 1000000007, .int 100000000000000000039] (fun z => ∃ i : Int, z = .int i ∧ i.natAbs < 2 ^ 68) (by
      simp only [List.forall_mem_cons, List.not_mem_nil, false_implies, implies_true, and_true]
      exact ⟨⟨_, rfl, by decide⟩, ⟨_, rfl, by decide⟩, ⟨_, rfl, by decide⟩⟩) (by simp) []
    obtain ⟨ss, ys', h1, h2, h3⟩ := tail f y1.dropLast.dropLast hf
    refine ⟨ss, ys', h1, h2, ?_⟩
    rw [← h3]
    have a1 : (1000000000 : Int) + 7 = 1000000007 := rfl
    have a2 : (100000000000000000000 : Int) + 39 = 100000000000000000039 := rfl
    rw [evF_run T_25 rfl]; simp only [df_law_drawn, e1, e2, v_R1 _ hsm, wipeE, e3, n1, e4, a1, a2, e7, Ss.dropN, e_var, e_cst, e_bop, e_neg, e_not, e_boo, e_cmp, e_chain, e_ite, e_call, e_bi, e_isi, e_ix, e_sl, e_tup, e_lst, e_comp, e_meth, es_nil, es_cons, bv_one, bv_cons, bt_one, bt_cons, o_none, o_some, c_none, c_some, t_var, t_not, t_boo, t_cmp, t_chain, t_call, t_isi, t_ix, i_val, i_rng1, i_rng2, g_name, g_tup, g_sub, gs_nil, gs_cons, s_asg, s_par, s_aug, s_expr, s_iff, s_for, s_ret, s_retN, s_brk, s_cont, s_pass, ss_nil, ss_cons, leave_next, leave_d, take_all, v_getV, v_bop2, v_bop, v_neg, v_not, v_cmp2, v_cmp, v_bT, v_bV, v_chV3, v_chV2t, v_chV2f, v_chV1, v_chV, v_iteT, v_iteF, v_call, v_bi, v_isi, v_ix2, v_ix, v_sl3, v_sl2, v_sl, v_tup2, v_tup, v_lst, v_asgn, v_comp, v_meth2, v_meth, v_es2, v_es, v_BVt, v_BVtf, v_BVf, v_BVft, v_BTt, v_BTtf, v_BTf, v_BTft, v_O, v_tru, v_cmpT2, v_cmpT, v_chT3, v_chT2t, v_chT2f, v_chT1, v_chT, v_notT, v_isiT, v_pW, v_itV, v_R1, v_R2b, v_R2, v_asgSeq, v_setIx, v_setIx2, v_sub3, v_sub2, v_sub, v_Ts, v_asg2, v_asg, v_par2, v_par, v_augO, v_aug, v_augV, v_augA, v_augS, v_exp, v_ifT, v_ifF, v_for, v_ret, v_sqN, v_sqR, v_sqB, v_sqC, v_callT, v_ixT2, v_ixT, v_seqL, v_seqT, v_seqW, v_seqC, v_liveW, v_liveC, v_toD, v_toDc, v_frC, v_toDs0, v_toDs, v_Ds, v_Ds2, v_newF, v_newT, v_add, v_subI, v_catT, v_catLL, v_eqI, v_neI, v_eqB, v_neB, v_lt, v_le, v_gt, v_ge, v_is, v_isnot, v_nonN, v_nonI, v_nonB, v_nonT, v_nonL, v_nonC, v_truN, v_truB, v_ixO, v_ixS, v_ixTu, v_ixL, v_ixC, v_at0, v_at1, v_at2, v_at3, v_at4, v_at5, v_at6, v_at7, v_lenO, v_lenS, v_lenL, v_lenT, v_lenC, v_intI, v_intB, v_abs, v_max2, v_min2, v_gcd, v_listL, v_listT, v_listO, v_listC, v_tupleL, v_tupleT, v_tupO, v_tupleC, v_slS, v_slL, v_slT, v_itS, v_itL, v_itT, v_itW, v_itC, v_append, v_app, v_appO, v_pop, v_popO, v_popAt, v_reverse, v_revO, v_isiI, v_isiB, v_isiL, v_isiTu, v_isiS, v_isiN, v_isiC, v_Fb, v_FlN, v_FlC, v_FlB, v_FlR, v_Cl4, v_Cl3, v_Cl2, v_Cl1t, v_Cl1f, v_Cl0, v_encS, v_ptS, v_encI, v_ptI, v_eqE, v_neE, v_eqP, v_neP, v_nonE, v_nonP, v_mulS, v_setC0, v_DC, v_seqDC, v_DCxs, v_mxS, v_mxI, v_sgS, v_sgI, v_setC1, v_setC2, v_setC3, leave_c02, v_frmI, v_dtS, v_dtI, v_eqDt, v_neDt, v_neDt2, v_minDt, v_maxDt, pw_10_9, pw_10_18, pw_10_30, pw_10_12, pw_10_20, pw_10_6, pw_shl, initE, bnd_some, List.getElem?_cons_zero, List.getElem?_cons_succ, List.set_cons_zero, List.set_cons_succ, List.map_cons, List.map_nil, List.length_cons, List.length_nil, List.cons_append, List.nil_append, List.replicate, Nat.reduceAdd, Nat.reduceSub, Nat.reduceLT, Nat.reduceLeDiff, Nat.zero_add, if_true, Bool.false_eq_true, if_false, reduceCtorEq, sizeLine_eq, lBody_eq, lElt_eq, lCnd_eq, List.take_succ_cons, List.take_zero, Int.natCast_zero, Nat.max_def, List.any_cons, List.any_nil, Bool.or_false, Bool.false_or, Bool.and_false, Bool.false_and, Bool.or_true, Bool.true_or, Bool.true_and, Bool.and_true, eq_self, ne_eq, not_true, not_false_eq_true, beq_self_eq_true, Int.lt_irrefl, Int.reduceLT, Int.reduceLE, Int.reduceEq, Bool.true_beq, Bool.false_beq, decide_true, decide_false, Bool.not_true, Bool.not_false]
  · obtain ⟨ss, ys', h1, h2, h3⟩ := tail 1 y1.dropLast (by decide)
    refine ⟨ss, ys', h1, h2, ?_⟩
    rw [← h3]
    rw [evF_run T_25 rfl]; simp only [df_law_drawn, e1, e2, v_R1 _ hsm, wipeE, e3, n1, e4, h0, Ss.dropN, e_var, e_cst, e_bop, e_neg, e_not, e_boo, e_cmp, e_chain, e_ite, e_call, e_bi, e_isi, e_ix, e_sl, e_tup, e_lst, e_comp, e_meth, es_nil, es_cons, bv_one, bv_cons, bt_one, bt_cons, o_none, o_some, c_none, c_some, t_var, t_not, t_boo, t_cmp, t_chain, t_call, t_isi, t_ix, i_val, i_rng1, i_rng2, g_name, g_tup, g_sub, gs_nil, gs_cons, s_asg, s_par, s_aug, s_expr, s_iff, s_for, s_ret, s_retN, s_brk, s_cont, s_pass, ss_nil, ss_cons, leave_next, leave_d, take_all, v_getV, v_bop2, v_bop, v_neg, v_not, v_cmp2, v_cmp, v_bT, v_bV, v_chV3, v_chV2t, v_chV2f, v_chV1, v_chV, v_iteT, v_iteF, v_call, v_bi, v_isi, v_ix2, v_ix, v_sl3, v_sl2, v_sl, v_tup2, v_tup, v_lst, v_asgn, v_comp, v_meth2, v_meth, v_es2, v_es, v_BVt, v_BVtf, v_BVf, v_BVft, v_BTt, v_BTtf, v_BTf, v_BTft, v_O, v_tru, v_cmpT2, v_cmpT, v_chT3, v_chT2t, v_chT2f, v_chT1, v_chT, v_notT, v_isiT, v_pW, v_itV, v_R1, v_R2b, v_R2, v_asgSeq, v_setIx, v_setIx2, v_sub3, v_sub2, v_sub, v_Ts, v_asg2, v_asg, v_par2, v_par, v_augO, v_aug, v_augV, v_augA, v_augS, v_exp, v_ifT, v_ifF, v_for, v_ret, v_sqN, v_sqR, v_sqB, v_sqC, v_callT, v_ixT2, v_ixT, v_seqL, v_seqT, v_seqW, v_seqC, v_liveW, v_liveC, v_toD, v_toDc, v_frC, v_toDs0, v_toDs, v_Ds, v_Ds2, v_newF, v_newT, v_add, v_subI, v_catT, v_catLL, v_eqI, v_neI, v_eqB, v_neB, v_lt, v_le, v_gt, v_ge, v_is, v_isnot, v_nonN, v_nonI, v_nonB, v_nonT, v_nonL, v_nonC, v_truN, v_truB, v_ixO, v_ixS, v_ixTu, v_ixL, v_ixC, v_at0, v_at1, v_at2, v_at3, v_at4, v_at5, v_at6, v_at7, v_lenO, v_lenS, v_lenL, v_lenT, v_lenC, v_intI, v_intB, v_abs, v_max2, v_min2, v_gcd, v_listL, v_listT, v_listO, v_listC, v_tupleL, v_tupleT, v_tupO, v_tupleC, v_slS, v_slL, v_slT, v_itS, v_itL, v_itT, v_itW, v_itC, v_append, v_app, v_appO, v_pop, v_popO, v_popAt, v_reverse, v_revO, v_isiI, v_isiB, v_isiL, v_isiTu, v_isiS, v_isiN, v_isiC, v_Fb, v_FlN, v_FlC, v_FlB, v_FlR, v_Cl4, v_Cl3, v_Cl2, v_Cl1t, v_Cl1f, v_Cl0, v_encS, v_ptS, v_encI, v_ptI, v_eqE, v_neE, v_eqP, v_neP, v_nonE, v_nonP, v_mulS, v_setC0, v_DC, v_seqDC, v_DCxs, v_mxS, v_mxI, v_sgS, v_sgI, v_setC1, v_setC2, v_setC3, leave_c02, v_frmI, v_dtS, v_dtI, v_eqDt, v_neDt, v_neDt2, v_minDt, v_maxDt, pw_10_9, pw_10_18, pw_10_30, pw_10_12, pw_10_20, pw_10_6, pw_shl, initE, bnd_some, List.getElem?_cons_zero, List.getElem?_cons_succ, List.set_cons_zero, List.set_cons_succ, List.map_cons, List.map_nil, List.length_cons, List.length_nil, List.cons_append, List.nil_append, List.replicate, Nat.reduceAdd, Nat.reduceSub, Nat.reduceLT, Nat.reduceLeDiff, Nat.zero_add, if_true, Bool.false_eq_true, if_false, reduceCtorEq, sizeLine_eq, lBody_eq, lElt_eq, lCnd_eq, List.take_succ_cons, List.take_zero, Int.natCast_zero, Nat.max_def, List.any_cons, List.any_nil, Bool.or_false, Bool.false_or, Bool.and_false, Bool.false_and, Bool.or_true, Bool.true_or, Bool.true_and, Bool.and_true, eq_self, ne_eq, not_true, not_false_eq_true, beq_self_eq_true, Int.lt_irrefl, Int.reduceLT, Int.reduceLE, Int.reduceEq, Bool.true_beq, Bool.false_beq, decide_true, decide_false, Bool.not_true, Bool.not_false]
-- law
theorem run (ns : List Int) (hn : ns.length ≤ 63) : ∃ μ', evF T 80 29 [.s ns] [] = some (.d (.bool true), μ') := by
  obtain ⟨xs, e0⟩ := draws_ex 78 ns hn 400 (by decide) (by decide)
  obtain ⟨v, v1, v2, e1⟩ := take_ex 78 xs 8 (by decide) []
  have main : Ev (evF T 80 29 [.s ns] []) (fun w μ => w = .d (.bool true)) := by
    rw [evF_run T_29 rfl]
    simp only [dp_law, e0, e1, e_var, e_cst, e_bop, e_neg, e_not, e_boo, e_cmp, e_chain, e_ite, e_call, e_bi, e_isi, e_ix, e_sl, e_tup, e_lst, e_comp, e_meth, es_nil, es_cons, bv_one, bv_cons, bt_one, bt_cons, o_none, o_some, c_none, c_some, t_var, t_not, t_boo, t_cmp, t_chain, t_call, t_isi, t_ix, i_val, i_rng1, i_rng2, g_name, g_tup, g_sub, gs_nil, gs_cons, s_asg, s_par, s_aug, s_expr, s_iff, s_for, s_ret, s_retN, s_brk, s_cont, s_pass, ss_nil, ss_cons, leave_next, leave_d, take_all, v_getV, v_bop2, v_bop, v_neg, v_not, v_cmp2, v_cmp, v_bT, v_bV, v_chV3, v_chV2t, v_chV2f, v_chV1, v_chV, v_iteT, v_iteF, v_call, v_bi, v_isi, v_ix2, v_ix, v_sl3, v_sl2, v_sl, v_tup2, v_tup, v_lst, v_asgn, v_comp, v_meth2, v_meth, v_es2, v_es, v_BVt, v_BVtf, v_BVf, v_BVft, v_BTt, v_BTtf, v_BTf, v_BTft, v_O, v_tru, v_cmpT2, v_cmpT, v_chT3, v_chT2t, v_chT2f, v_chT1, v_chT, v_notT, v_isiT, v_pW, v_itV, v_R1, v_R2b, v_R2, v_asgSeq, v_setIx, v_setIx2, v_sub3, v_sub2, v_sub, v_Ts, v_asg2, v_asg, v_par2, v_par, v_augO, v_aug, v_augV, v_augA, v_augS, v_exp, v_ifT, v_ifF, v_for, v_ret, v_sqN, v_sqR, v_sqB, v_sqC, v_callT, v_ixT2, v_ixT, v_seqL, v_seqT, v_seqW, v_seqC, v_liveW, v_liveC, v_toD, v_toDc, v_frC, v_toDs0, v_toDs, v_Ds, v_Ds2, v_newF, v_newT, v_add, v_subI, v_catT, v_catLL, v_eqI, v_neI, v_eqB, v_neB, v_lt, v_le, v_gt, v_ge, v_is, v_isnot, v_nonN, v_nonI, v_nonB, v_nonT, v_nonL, v_nonC, v_truN, v_truB, v_ixO, v_ixS, v_ixTu, v_ixL, v_ixC, v_at0, v_at1, v_at2, v_at3, v_at4, v_at5, v_at6, v_at7, v_lenO, v_lenS, v_lenL, v_lenT, v_lenC, v_intI, v_intB, v_abs, v_max2, v_min2, v_gcd, v_listL, v_listT, v_listO, v_listC, v_tupleL, v_tupleT, v_tupO, v_tupleC, v_slS, v_slL, v_slT, v_itS, v_itL, v_itT, v_itW, v_itC, v_append, v_app, v_appO, v_pop, v_popO, v_popAt, v_reverse, v_revO, v_isiI, v_isiB, v_isiL, v_isiTu, v_isiS, v_isiN, v_isiC, v_Fb, v_FlN, v_FlC, v_FlB, v_FlR, v_Cl4, v_Cl3, v_Cl2, v_Cl1t, v_Cl1f, v_Cl0, v_encS, v_ptS, v_encI, v_ptI, v_eqE, v_neE, v_eqP, v_neP, v_nonE, v_nonP, v_mulS, v_setC0, v_DC, v_seqDC, v_DCxs, v_mxS, v_mxI, v_sgS, v_sgI, v_setC1, v_setC2, v_setC3, leave_c02, v_frmI, v_dtS, v_dtI, v_eqDt, v_neDt, v_neDt2, v_minDt, v_maxDt, pw_10_9, pw_10_18, pw_10_30, pw_10_12, pw_10_20, pw_10_6, pw_shl, initE, bnd_some, List.getElem?_cons_zero, List.getElem?_cons_succ, List.set_cons_zero, List.set_cons_succ, List.map_cons, List.map_nil, List.length_cons, List.length_nil, List.cons_append, List.nil_append, List.replicate, Nat.reduceAdd, Nat.reduceSub, Nat.reduceLT, Nat.reduceLeDiff, Nat.zero_add, if_true, Bool.false_eq_true, if_false, reduceCtorEq, sizeLine_eq, lBody_eq, lElt_eq, lCnd_eq, List.take_succ_cons, List.take_zero, Int.natCast_zero, Nat.max_def, List.any_cons, List.any_nil, Bool.or_false, Bool.false_or, Bool.and_false, Bool.false_and, Bool.or_true, Bool.true_or, Bool.true_and, Bool.and_true, eq_self, ne_eq, not_true, not_false_eq_true, beq_self_eq_true, Int.lt_irrefl, Int.reduceLT, Int.reduceLE, Int.reduceEq, Bool.true_beq, Bool.false_beq, decide_true, decide_false, Bool.not_true, Bool.not_false]
    refine ev_loop (fun e m => ∃ (ys : List Int) (v2 v4 v5 v6 : Option W), e = [some (.s ns), some (.c 0), v2, none, v4, v5, v6] ∧ m = [DC ys])
      (forL_inv (fun i e m => ∃ (ys : List Int) (v2 v4 v5 v6 : Option W), e = [some (.s ns), some (.c 0), v2, none, v4, v5, v6] ∧ m = [DC ys]) _ _ 0 _ _
        ⟨xs.dropLast, none, none, none, none, rfl, rfl⟩ ?_ ?_) ?_
    · rintro j x e m hx ⟨ys, w2, w4, w5, w6, rfl, rfl⟩
      have hx' : ∃ i : Int, x = .int i ∧ 0 ≤ i ∧ i ≤ 20 := by
        have := List.mem_of_getElem? hx
        simp only [List.mem_cons, List.not_mem_nil, or_false] at this
        rcases this with rfl | rfl | rfl | rfl
        · exact ⟨_, rfl, by decide, by decide⟩
        · exact ⟨_, rfl, by decide, by decide⟩
        · exact ⟨_, rfl, by decide, by decide⟩
        · exact ⟨_, rfl, by omega, by omega⟩
      obtain ⟨i, rfl, i0, i1⟩ := hx'
      refine ⟨_, _, by simp only [e_var, e_cst, e_bop, e_neg, e_not, e_boo, e_cmp, e_chain, e_ite, e_call, e_bi, e_isi, e_ix, e_sl, e_tup, e_lst, e_comp, e_meth, es_nil, es_cons, bv_one, bv_cons, bt_one, bt_cons, o_none, o_some, c_none, c_some, t_var, t_not, t_boo, t_cmp, t_chain, t_call, t_isi, t_ix, i_val, i_rng1, i_rng2, g_name, g_tup, g_sub, gs_nil, gs_cons, s_asg, s_par, s_aug, s_expr, s_iff, s_for, s_ret, s_retN, s_brk, s_cont, s_pass, ss_nil, ss_cons, leave_next, leave_d, take_all, v_getV, v_bop2, v_bop, v_neg, v_not, v_cmp2, v_cmp, v_bT, v_bV, v_chV3, v_chV2t, v_chV2f, v_chV1, v_chV, v_iteT, v_iteF, v_call, v_bi, v_isi, v_ix2, v_ix, v_sl3, v_sl2, v_sl, v_tup2, v_tup, v_lst, v_asgn, v_comp, v_meth2, v_meth, v_es2, v_es, v_BVt, v_BVtf, v_BVf, v_BVft, v_BTt, v_BTtf, v_BTf, v_BTft, v_O, v_tru, v_cmpT2, v_cmpT, v_chT3, v_chT2t, v_chT2f, v_chT1, v_chT, v_notT, v_isiT, v_pW, v_itV, v_R1, v_R2b, v_R2, v_asgSeq, v_setIx, v_setIx2, v_sub3, v_sub2, v_sub, v_Ts, v_asg2, v_asg, v_par2, v_par, v_augO, v_aug, v_augV, v_augA, v_augS, v_exp, v_ifT, v_ifF, v_for, v_ret, v_sqN, v_sqR, v_sqB, v_sqC, v_callT, v_ixT2, v_ixT, v_seqL, v_seqT, v_seqW, v_seqC, v_liveW, v_liveC, v_toD, v_toDc, v_frC, v_toDs0, v_toDs, v_Ds, v_Ds2, v_newF, v_newT, v_add, v_subI, v_catT, v_catLL, v_eqI, v_neI, v_eqB, v_neB, v_lt, v_le, v_gt, v_ge, v_is, v_isnot, v_nonN, v_nonI, v_nonB, v_nonT, v_nonL, v_nonC, v_truN, v_truB, v_ixO, v_ixS, v_ixTu, v_ixL, v_ixC, v_at0, v_at1, v_at2, v_at3, v_at4, v_at5, v_at6, v_at7, v_lenO, v_lenS, v_lenL, v_lenT, v_lenC, v_intI, v_intB, v_abs, v_max2, v_min2, v_gcd, v_listL, v_listT, v_listO, v_listC, v_tupleL, v_tupleT, v_tupO, v_tupleC, v_slS, v_slL, v_slT, v_itS, v_itL, v_itT, v_itW, v_itC, v_append, v_app, v_appO, v_pop, v_popO, v_popAt, v_reverse, v_revO, v_isiI, v_isiB, v_isiL, v_isiTu, v_isiS, v_isiN, v_isiC, v_Fb, v_FlN, v_FlC, v_FlB, v_FlR, v_Cl4, v_Cl3, v_Cl2, v_Cl1t, v_Cl1f, v_Cl0, v_encS, v_ptS, v_encI, v_ptI, v_eqE, v_neE, v_eqP, v_neP, v_nonE, v_nonP, v_mulS, v_setC0, v_DC, v_seqDC, v_DCxs, v_mxS, v_mxI, v_sgS, v_sgI, v_setC1, v_setC2, v_setC3, leave_c02, v_frmI, v_dtS, v_dtI, v_eqDt, v_neDt, v_neDt2, v_minDt, v_maxDt, pw_10_9, pw_10_18, pw_10_30, pw_10_12, pw_10_20, pw_10_6, pw_shl, initE, bnd_some, List.getElem?_cons_zero, List.getElem?_cons_succ, List.set_cons_zero, List.set_cons_succ, List.map_cons, List.map_nil, List.length_cons, List.length_nil, List.cons_append, List.nil_append, List.replicate, Nat.reduceAdd, Nat.reduceSub, Nat.reduceLT, Nat.reduceLeDiff, Nat.zero_add, if_true, Bool.false_eq_true, if_false, reduceCtorEq, sizeLine_eq, lBody_eq, lElt_eq, lCnd_eq, List.take_succ_cons, List.take_zero, Int.natCast_zero, Nat.max_def, List.any_cons, List.any_nil, Bool.or_false, Bool.false_or, Bool.and_false, Bool.false_and, Bool.or_true, Bool.true_or, Bool.true_and, Bool.and_true, eq_self, ne_eq, not_true, not_false_eq_true, beq_self_eq_true, Int.lt_irrefl, Int.reduceLT, Int.reduceLE, Int.reduceEq, Bool.true_beq, Bool.false_beq, decide_true, decide_false, Bool.not_true, Bool.not_false]; rfl, ?_⟩
      obtain ⟨ss, y1, hss, hsl, g1⟩ := drawn_ex 73 ys i i0 i1
      have g2 : ∀ μ, bopW false .add (.d (.tuple (ss.map sgT))) (.d (.tuple ((cutD ss none (some 1)).map sgT))) μ = some (.d (.tuple ((ss ++ cutD ss none (some 1)).map sgT)), μ) := fun μ => by
        have := cutD_len ss none (some 1)
        rw [v_catT _ _ _ (by rw [sizeLine_eq, List.length_map, List.length_map]; omega), List.map_append]
      have hts : ∀ s ∈ ss ++ cutD ss none (some 1), Sg4 s 200 := by
        intro s h
        rcases List.mem_append.mp h with h | h
        · exact hss s h
        · exact hss s (cutD_mem h)
      have htl : (ss ++ cutD ss none (some 1)).length ≤ 40 := by
        have := cutD_len ss none (some 1)
        rw [List.length_append]; omega
      simp only [g1, cutD_map, g2, v_R1 2 rfl, e_var, e_cst, e_bop, e_neg, e_not, e_boo, e_cmp, e_chain, e_ite, e_call, e_bi, e_isi, e_ix, e_sl, e_tup, e_lst, e_comp, e_meth, es_nil, es_cons, bv_one, bv_cons, bt_one, bt_cons, o_none, o_some, c_none, c_some, t_var, t_not, t_boo, t_cmp, t_chain, t_call, t_isi, t_ix, i_val, i_rng1, i_rng2, g_name, g_tup, g_sub, gs_nil, gs_cons, s_asg, s_par, s_aug, s_expr, s_iff, s_for, s_ret, s_retN, s_brk, s_cont, s_pass, ss_nil, ss_cons, leave_next, leave_d, take_all, v_getV, v_bop2, v_bop, v_neg, v_not, v_cmp2, v_cmp, v_bT, v_bV, v_chV3, v_chV2t, v_chV2f, v_chV1, v_chV, v_iteT, v_iteF, v_call, v_bi, v_isi, v_ix2, v_ix, v_sl3, v_sl2, v_sl, v_tup2, v_tup, v_lst, v_asgn, v_comp, v_meth2, v_meth, v_es2, v_es, v_BVt, v_BVtf, v_BVf, v_BVft, v_BTt, v_BTtf, v_BTf, v_BTft, v_O, v_tru, v_cmpT2, v_cmpT, v_chT3, v_chT2t, v_chT2f, v_chT1, v_chT, v_notT, v_isiT, v_pW, v_itV, v_R1, v_R2b, v_R2, v_asgSeq, v_setIx, v_setIx2, v_sub3, v_sub2, v_sub, v_Ts, v_asg2, v_asg, v_par2, v_par, v_augO, v_aug, v_augV, v_augA, v_augS, v_exp, v_ifT, v_ifF, v_for, v_ret, v_sqN, v_sqR, v_sqB, v_sqC, v_callT, v_ixT2, v_ixT, v_seqL, v_seqT, v_seqW, v_seqC, v_liveW, v_liveC, v_toD, v_toDc, v_frC, v_toDs0, v_toDs, v_Ds, v_Ds2, v_newF, v_newT, v_add, v_subI, v_catT, v_catLL, v_eqI, v_neI, v_eqB, v_neB, v_lt, v_le, v_gt, v_ge, v_is, v_isnot, v_nonN, v_nonI, v_nonB, v_nonT, v_nonL, v_nonC, v_truN, v_truB, v_ixO, v_ixS, v_ixTu, v_ixL, v_ixC, v_at0, v_at1, v_at2, v_at3, v_at4, v_at5, v_at6, v_at7, v_lenO, v_lenS, v_lenL, v_lenT, v_lenC, v_intI, v_intB, v_abs, v_max2, v_min2, v_gcd, v_listL, v_listT, v_listO, v_listC, v_tupleL, v_tupleT, v_tupO, v_tupleC, v_slS, v_slL, v_slT, v_itS, v_itL, v_itT, v_itW, v_itC, v_append, v_app, v_appO, v_pop, v_popO, v_popAt, v_reverse, v_revO, v_isiI, v_isiB, v_isiL, v_isiTu, v_isiS, v_isiN, v_isiC, v_Fb, v_FlN, v_FlC, v_FlB, v_FlR, v_Cl4, v_Cl3, v_Cl2, v_Cl1t, v_Cl1f, v_Cl0, v_encS, v_ptS, v_encI, v_ptI, v_eqE, v_neE, v_eqP, v_neP, v_nonE, v_nonP, v_mulS, v_setC0, v_DC, v_seqDC, v_DCxs, v_mxS, v_mxI, v_sgS, v_sgI, v_setC1, v_setC2, v_setC3, leave_c02, v_frmI, v_dtS, v_dtI, v_eqDt, v_neDt, v_neDt2, v_minDt, v_maxDt, pw_10_9, pw_10_18, pw_10_30, pw_10_12, pw_10_20, pw_10_6, pw_shl, initE, bnd_some, List.getElem?_cons_zero, List.getElem?_cons_succ, List.set_cons_zero, List.set_cons_succ, List.map_cons, List.map_nil, List.length_cons, List.length_nil, List.cons_append, List.nil_append, List.replicate, Nat.reduceAdd, Nat.reduceSub, Nat.reduceLT, Nat.reduceLeDiff, Nat.zero_add, if_true, Bool.false_eq_true, if_false, reduceCtorEq, sizeLine_eq, lBody_eq, lElt_eq, lCnd_eq, List.take_succ_cons, List.take_zero, Int.natCast_zero, Nat.max_def, List.any_cons, List.any_nil, Bool.or_false, Bool.false_or, Bool.and_false, Bool.false_and, Bool.or_true, Bool.true_or, Bool.true_and, Bool.and_true, eq_self, ne_eq, not_true, not_false_eq_true, beq_self_eq_true, Int.lt_irrefl, Int.reduceLT, Int.reduceLE, Int.reduceEq, Bool.true_beq, Bool.false_beq, decide_true, decide_false, Bool.not_true, Bool.not_false]
      generalize ss ++ cutD ss none (some 1) = ts at *
      refine outH_loop (fun e m => ∃ (ys : List Int) (v4 v6 : Option W), e = [some (.s ns), some (.c 0), some (.d (.int i)), none, v4, some (.d (.tuple (ts.map sgT))), v6] ∧ m = [DC ys])
        (forL_inv (fun _ e m => ∃ (ys : List Int) (v4 v6 : Option W), e = [some (.s ns), some (.c 0), some (.d (.int i)), none, v4, some (.d (.tuple (ts.map sgT))), v6] ∧ m = [DC ys]) _ _ 0 _ _
          ⟨y1, w4, w6, rfl, rfl⟩ ?_ ?_) ?_
      · rintro j x e m hx ⟨ys, w4, w6, rfl, rfl⟩
        refine ⟨_, _, by simp only [e_var, e_cst, e_bop, e_neg, e_not, e_boo, e_cmp, e_chain, e_ite, e_call, e_bi, e_isi, e_ix, e_sl, e_tup, e_lst, e_comp, e_meth, es_nil, es_cons, bv_one, bv_cons, bt_one, bt_cons, o_none, o_some, c_none, c_some, t_var, t_not, t_boo, t_cmp, t_chain, t_call, t_isi, t_ix, i_val, i_rng1, i_rng2, g_name, g_tup, g_sub, gs_nil, gs_cons, s_asg, s_par, s_aug, s_expr, s_iff, s_for, s_ret, s_retN, s_brk, s_cont, s_pass, ss_nil, ss_cons, leave_next, leave_d, take_all, v_getV, v_bop2, v_bop, v_neg, v_not, v_cmp2, v_cmp, v_bT, v_bV, v_chV3, v_chV2t, v_chV2f, v_chV1, v_chV, v_iteT, v_iteF, v_call, v_bi, v_isi, v_ix2, v_ix, v_sl3, v_sl2, v_sl, v_tup2, v_tup, v_lst, v_asgn, v_comp, v_meth2, v_meth, v_es2, v_es, v_BVt, v_BVtf, v_BVf, v_BVft, v_BTt, v_BTtf, v_BTf, v_BTft, v_O, v_tru, v_cmpT2, v_cmpT, v_chT3, v_chT2t, v_chT2f, v_chT1, v_chT, v_notT, v_isiT, v_pW, v_itV, v_R1, v_R2b, v_R2, v_asgSeq, v_setIx, v_setIx2, v_sub3, v_sub2, v_sub, v_Ts, v_asg2, v_asg, v_par2, v_par, v_augO, v_aug, v_augV, v_augA, v_augS, v_exp, v_ifT, v_ifF, v_for, v_ret, v_sqN, v_sqR, v_sqB, v_sqC, v_callT, v_ixT2, v_ixT, v_seqL, v_seqT, v_seqW, v_seqC, v_liveW, v_liveC, v_toD, v_toDc, v_frC, v_toDs0, v_toDs, v_Ds, v_Ds2, v_newF, v_newT, v_add, v_subI, v_catT, v_catLL, v_eqI, v_neI, v_eqB, v_neB, v_lt, v_le, v_gt, v_ge, v_is, v_isnot, v_nonN, v_nonI, v_nonB, v_nonT, v_nonL, v_nonC, v_truN, v_truB, v_ixO, v_ixS, v_ixTu, v_ixL, v_ixC, v_at0, v_at1, v_at2, v_at3, v_at4, v_at5, v_at6, v_at7, v_lenO, v_lenS, v_lenL, v_lenT, v_lenC, v_intI, v_intB, v_abs, v_max2, v_min2, v_gcd, v_listL, v_listT, v_listO, v_listC, v_tupleL, v_tupleT, v_tupO, v_tupleC, v_slS, v_slL, v_slT, v_itS, v_itL, v_itT, v_itW, v_itC, v_append, v_app, v_appO, v_pop, v_popO, v_popAt, v_reverse, v_revO, v_isiI, v_isiB, v_isiL, v_isiTu, v_isiS, v_isiN, v_isiC, v_Fb, v_FlN, v_FlC, v_FlB, v_FlR, v_Cl4, v_Cl3, v_Cl2, v_Cl1t, v_Cl1f, v_Cl0, v_encS, v_ptS, v_encI, v_ptI, v_eqE, v_neE, v_eqP, v_neP, v_nonE, v_nonP, v_mulS, v_setC0, v_DC, v_seqDC, v_DCxs, v_mxS, v_mxI, v_sgS, v_sgI, v_setC1, v_setC2, v_setC3, leave_c02, v_frmI, v_dtS, v_dtI, v_eqDt, v_neDt, v_neDt2, v_minDt, v_maxDt, pw_10_9, pw_10_18, pw_10_30, pw_10_12, pw_10_20, pw_10_6, pw_shl, initE, bnd_some, List.getElem?_cons_zero, List.getElem?_cons_succ, List.set_cons_zero, List.set_cons_succ, List.map_cons, List.map_nil, List.length_cons, List.length_nil, List.cons_append, List.nil_append, List.replicate, Nat.reduceAdd, Nat.reduceSub, Nat.reduceLT, Nat.reduceLeDiff, Nat.zero_add, if_true, Bool.false_eq_true, if_false, reduceCtorEq, sizeLine_eq, lBody_eq, lElt_eq, lCnd_eq, List.take_succ_cons, List.take_zero, Int.natCast_zero, Nat.max_def, List.any_cons, List.any_nil, Bool.or_false, Bool.false_or, Bool.and_false, Bool.false_and, Bool.or_true, Bool.true_or, Bool.true_and, Bool.and_true, eq_self, ne_eq, not_true, not_false_eq_true, beq_self_eq_true, Int.lt_irrefl, Int.reduceLT, Int.reduceLE, Int.reduceEq, Bool.true_beq, Bool.false_beq, decide_true, decide_false, Bool.not_true, Bool.not_false]; rfl, ?_⟩
        obtain ⟨m, y2, hm, g3⟩ := drawn_matrix_ex 75 ys
        have g4 := fun μ => images_eq 74 m hm ts (by omega) hts μ
        have g5 := imaged_all_eq 74 m hm ts (by omega) hts y2
        have g6 := fun μ => same_ok 74 4 (.tuple (ts.map fun s => sgT (ims m s))) (by
          rw [okS, Bool.and_eq_true, decide_eq_true_eq, List.all_eq_true]
          refine ⟨by rw [List.length_map]; omega, ?_⟩
          intro z hz
          obtain ⟨s, -, rfl⟩ := List.mem_map.mp hz
          simp [sgT, okS, okS_pt]) μ
        simp only [g3, g4, g5, g6, e_var, e_cst, e_bop, e_neg, e_not, e_boo, e_cmp, e_chain, e_ite, e_call, e_bi, e_isi, e_ix, e_sl, e_tup, e_lst, e_comp, e_meth, es_nil, es_cons, bv_one, bv_cons, bt_one, bt_cons, o_none, o_some, c_none, c_some, t_var, t_not, t_boo, t_cmp, t_chain, t_call, t_isi, t_ix, i_val, i_rng1, i_rng2, g_name, g_tup, g_sub, gs_nil, gs_cons, s_asg, s_par, s_aug, s_expr, s_iff, s_for, s_ret, s_retN, s_brk, s_cont, s_pass, ss_nil, ss_cons, leave_next, leave_d, take_all, v_getV, v_bop2, v_bop, v_neg, v_not, v_cmp2, v_cmp, v_bT, v_bV, v_chV3, v_chV2t, v_chV2f, v_chV1, v_chV, v_iteT, v_iteF, v_call, v_bi, v_isi, v_ix2, v_ix, v_sl3, v_sl2, v_sl, v_tup2, v_tup, v_lst, v_asgn, v_comp, v_meth2, v_meth, v_es2, v_es, v_BVt, v_BVtf, v_BVf, v_BVft, v_BTt, v_BTtf, v_BTf, v_BTft, v_O, v_tru, v_cmpT2, v_cmpT, v_chT3, v_chT2t, v_chT2f, v_chT1, v_chT, v_notT, v_isiT, v_pW, v_itV, v_R1, v_R2b, v_R2, v_asgSeq, v_setIx, v_setIx2, v_sub3, v_sub2, v_sub, v_Ts, v_asg2, v_asg, v_par2, v_par, v_augO, v_aug, v_augV, v_augA, v_augS, v_exp, v_ifT, v_ifF, v_for, v_ret, v_sqN, v_sqR, v_sqB, v_sqC, v_callT, v_ixT2, v_ixT, v_seqL, v_seqT, v_seqW, v_seqC, v_liveW, v_liveC, v_toD, v_toDc, v_frC, v_toDs0, v_toDs, v_Ds, v_Ds2, v_newF, v_newT, v_add, v_subI, v_catT, v_catLL, v_eqI, v_neI, v_eqB, v_neB, v_lt, v_le, v_gt, v_ge, v_is, v_isnot, v_nonN, v_nonI, v_nonB, v_nonT, v_nonL, v_nonC, v_truN, v_truB, v_ixO, v_ixS, v_ixTu, v_ixL, v_ixC, v_at0, v_at1, v_at2, v_at3, v_at4, v_at5, v_at6, v_at7, v_lenO, v_lenS, v_lenL, v_lenT, v_lenC, v_intI, v_intB, v_abs, v_max2, v_min2, v_gcd, v_listL, v_listT, v_listO, v_listC, v_tupleL, v_tupleT, v_tupO, v_tupleC, v_slS, v_slL, v_slT, v_itS, v_itL, v_itT, v_itW, v_itC, v_append, v_app, v_appO, v_pop, v_popO, v_popAt, v_reverse, v_revO, v_isiI, v_isiB, v_isiL, v_isiTu, v_isiS, v_isiN, v_isiC, v_Fb, v_FlN, v_FlC, v_FlB, v_FlR, v_Cl4, v_Cl3, v_Cl2, v_Cl1t, v_Cl1f, v_Cl0, v_encS, v_ptS, v_encI, v_ptI, v_eqE, v_neE, v_eqP, v_neP, v_nonE, v_nonP, v_mulS, v_setC0, v_DC, v_seqDC, v_DCxs, v_mxS, v_mxI, v_sgS, v_sgI, v_setC1, v_setC2, v_setC3, leave_c02, v_frmI, v_dtS, v_dtI, v_eqDt, v_neDt, v_neDt2, v_minDt, v_maxDt, pw_10_9, pw_10_18, pw_10_30, pw_10_12, pw_10_20, pw_10_6, pw_shl, initE, bnd_some, List.getElem?_cons_zero, List.getElem?_cons_succ, List.set_cons_zero, List.set_cons_succ, List.map_cons, List.map_nil, List.length_cons, List.length_nil, List.cons_append, List.nil_append, List.replicate, Nat.reduceAdd, Nat.reduceSub, Nat.reduceLT, Nat.reduceLeDiff, Nat.zero_add, if_true, Bool.false_eq_true, if_false, reduceCtorEq, sizeLine_eq, lBody_eq, lElt_eq, lCnd_eq, List.take_succ_cons, List.take_zero, Int.natCast_zero, Nat.max_def, List.any_cons, List.any_nil, Bool.or_false, Bool.false_or, Bool.and_false, Bool.false_and, Bool.or_true, Bool.true_or, Bool.true_and, Bool.and_true, eq_self, ne_eq, not_true, not_false_eq_true, beq_self_eq_true, Int.lt_irrefl, Int.reduceLT, Int.reduceLE, Int.reduceEq, Bool.true_beq, Bool.false_beq, decide_true, decide_false, Bool.not_true, Bool.not_false]
        exact ⟨_, _, _, rfl, rfl⟩
      · rintro e m h; exact h
      · rintro e m ⟨ys, w4, w6, rfl, rfl⟩
        simp only [e_var, e_cst, e_bop, e_neg, e_not, e_boo, e_cmp, e_chain, e_ite, e_call, e_bi, e_isi, e_ix, e_sl, e_tup, e_lst, e_comp, e_meth, es_nil, es_cons, bv_one, bv_cons, bt_one, bt_cons, o_none, o_some, c_none, c_some, t_var, t_not, t_boo, t_cmp, t_chain, t_call, t_isi, t_ix, i_val, i_rng1, i_rng2, g_name, g_tup, g_sub, gs_nil, gs_cons, s_asg, s_par, s_aug, s_expr, s_iff, s_for, s_ret, s_retN, s_brk, s_cont, s_pass, ss_nil, ss_cons, leave_next, leave_d, take_all, v_getV, v_bop2, v_bop, v_neg, v_not, v_cmp2, v_cmp, v_bT, v_bV, v_chV3, v_chV2t, v_chV2f, v_chV1, v_chV, v_iteT, v_iteF, v_call, v_bi, v_isi, v_ix2, v_ix, v_sl3, v_sl2, v_sl, v_tup2, v_tup, v_lst, v_asgn, v_comp, v_meth2, v_meth, v_es2, v_es, v_BVt, v_BVtf, v_BVf, v_BVft, v_BTt, v_BTtf, v_BTf, v_BTft, v_O, v_tru, v_cmpT2, v_cmpT, v_chT3, v_chT2t, v_chT2f, v_chT1, v_chT, v_notT, v_isiT, v_pW, v_itV, v_R1, v_R2b, v_R2, v_asgSeq, v_setIx, v_setIx2, v_sub3, v_sub2, v_sub, v_Ts, v_asg2, v_asg, v_par2, v_par, v_augO, v_aug, v_augV, v_augA, v_augS, v_exp, v_ifT, v_ifF, v_for, v_ret, v_sqN, v_sqR, v_sqB, v_sqC, v_callT, v_ixT2, v_ixT, v_seqL, v_seqT, v_seqW, v_seqC, v_liveW, v_liveC, v_toD, v_toDc, v_frC, v_toDs0, v_toDs, v_Ds, v_Ds2, v_newF, v_newT, v_add, v_subI, v_catT, v_catLL, v_eqI, v_neI, v_eqB, v_neB, v_lt, v_le, v_gt, v_ge, v_is, v_isnot, v_nonN, v_nonI, v_nonB, v_nonT, v_nonL, v_nonC, v_truN, v_truB, v_ixO, v_ixS, v_ixTu, v_ixL, v_ixC, v_at0, v_at1, v_at2, v_at3, v_at4, v_at5, v_at6, v_at7, v_lenO, v_lenS, v_lenL, v_lenT, v_lenC, v_intI, v_intB, v_abs, v_max2, v_min2, v_gcd, v_listL, v_listT, v_listO, v_listC, v_tupleL, v_tupleT, v_tupO, v_tupleC, v_slS, v_slL, v_slT, v_itS, v_itL, v_itT, v_itW, v_itC, v_append, v_app, v_appO, v_pop, v_popO, v_popAt, v_reverse, v_revO, v_isiI, v_isiB, v_isiL, v_isiTu, v_isiS, v_isiN, v_isiC, v_Fb, v_FlN, v_FlC, v_FlB, v_FlR, v_Cl4, v_Cl3, v_Cl2, v_Cl1t, v_Cl1f, v_Cl0, v_encS, v_ptS, v_encI, v_ptI, v_eqE, v_neE, v_eqP, v_neP, v_nonE, v_nonP, v_mulS, v_setC0, v_DC, v_seqDC, v_DCxs, v_mxS, v_mxI, v_sgS, v_sgI, v_setC1, v_setC2, v_setC3, leave_c02, v_frmI, v_dtS, v_dtI, v_eqDt, v_neDt, v_neDt2, v_minDt, v_maxDt, pw_10_9, pw_10_18, pw_10_30, pw_10_12, pw_10_20, pw_10_6, pw_shl, initE, bnd_some, List.getElem?_cons_zero, List.getElem?_cons_succ, List.set_cons_zero, List.set_cons_succ, List.map_cons, List.map_nil, List.length_cons, List.length_nil, List.cons_append, List.nil_append, List.replicate, Nat.reduceAdd, Nat.reduceSub, Nat.reduceLT, Nat.reduceLeDiff, Nat.zero_add, if_true, Bool.false_eq_true, if_false, reduceCtorEq, sizeLine_eq, lBody_eq, lElt_eq, lCnd_eq, List.take_succ_cons, List.take_zero, Int.natCast_zero, Nat.max_def, List.any_cons, List.any_nil, Bool.or_false, Bool.false_or, Bool.and_false, Bool.false_and, Bool.or_true, Bool.true_or, Bool.true_and, Bool.and_true, eq_self, ne_eq, not_true, not_false_eq_true, beq_self_eq_true, Int.lt_irrefl, Int.reduceLT, Int.reduceLE, Int.reduceEq, Bool.true_beq, Bool.false_beq, decide_true, decide_false, Bool.not_true, Bool.not_false]
        exact ⟨_, _, _, _, _, rfl, rfl⟩
    · rintro e m h; exact h
    · rintro e m ⟨ys, w2, w4, w5, w6, rfl, rfl⟩
      let one : Pt × Pt := ((⟨0, 1, by decide, by decide⟩, ⟨0, 1, by decide, by decide⟩), (⟨2, 1, by decide, by decide⟩, ⟨1, 1, by decide, by decide⟩))
      let mm : Mx := ⟨⟨-1, 2, by decide, by decide⟩, ⟨0, 1, by decide, by decide⟩, ⟨1, 1, by decide, by decide⟩, ⟨0, 1, by decide, by decide⟩, ⟨3, 1, by decide, by decide⟩, ⟨0, 1, by decide, by decide⟩⟩
      have sz : ∀ {q : Rat} {n : Nat}, 4 ≤ n → q.num.natAbs < 2 ^ 4 → q.den < 2 ^ 4 → SzQ q n := fun h a b => SzQ.mono (n := 4) ⟨a, b⟩ h
      have h1 : ∀ μ, evF T 79 8 [.d (.tuple [.tuple [.tuple [.int (-1), .int 2], .tuple [.int 0, .int 1], .tuple [.int 1, .int 1]], .tuple [.tuple [.int 0, .int 1], .tuple [.int 3, .int 1], .tuple [.int 0, .int 1]]]), .d (.tuple [.tuple [.tuple [.tuple [.int 0, .int 1], .tuple [.int 0, .int 1]], .tuple [.tuple [.int 2, .int 1], .tuple [.int 1, .int 1]]]])] μ = some (.d (.tuple [sgT (ims mm one)]), μ) := fun μ =>
        images_eq 74 mm ⟨sz (by decide) (by decide) (by decide), sz (by decide) (by decide) (by decide), sz (by decide) (by decide) (by decide), sz (by decide) (by decide) (by decide), sz (by decide) (by decide) (by decide), sz (by decide) (by decide) (by decide)⟩ [one] (by decide) (by
          intro s hs
          simp only [List.mem_cons, List.not_mem_nil, or_false] at hs
          subst hs
          exact ⟨sz (by decide) (by decide) (by decide), sz (by decide) (by decide) (by decide), sz (by decide) (by decide) (by decide), sz (by decide) (by decide) (by decide)⟩) μ
      have h2 : ims mm one = ((⟨0, 1, by decide, by decide⟩, ⟨3, 1, by decide, by decide⟩), (⟨1, 1, by decide, by decide⟩, ⟨0, 1, by decide, by decide⟩)) := by decide +kernel
      rw [h2] at h1
      have h3 : ∀ μ, evF T 79 12 [.d (.tuple [sgT ((⟨0, 1, by decide, by decide⟩, ⟨3, 1, by decide, by decide⟩), (⟨1, 1, by decide, by decide⟩, ⟨0, 1, by decide, by decide⟩))]), .d (.tuple [.tuple [.tuple [.tuple [.int 0, .int 1], .tuple [.int 3, .int 1]], .tuple [.tuple [.int 1, .int 1], .tuple [.int 0, .int 1]]]])] μ = some (.d (.bool true), μ) := fun μ => same_ok 74 4 (.tuple [.tuple [.tuple [.tuple [.int 0, .int 1], .tuple [.int 3, .int 1]], .tuple [.tuple [.int 1, .int 1], .tuple [.int 0, .int 1]]]]) (by simp [okS]) μ
      simp only [h1, h3, e_var, e_cst, e_bop, e_neg, e_not, e_boo, e_cmp, e_chain, e_ite, e_call, e_bi, e_isi, e_ix, e_sl, e_tup, e_lst, e_comp, e_meth, es_nil, es_cons, bv_one, bv_cons, bt_one, bt_cons, o_none, o_some, c_none, c_some, t_var, t_not, t_boo, t_cmp, t_chain, t_call, t_isi, t_ix, i_val, i_rng1, i_rng2, g_name, g_tup, g_sub, gs_nil, gs_cons, s_asg, s_par, s_aug, s_expr, s_iff, s_for, s_ret, s_retN, s_brk, s_cont, s_pass, ss_nil, ss_cons, leave_next, leave_d, take_all, v_getV, v_bop2, v_bop, v_neg, v_not, v_cmp2, v_cmp, v_bT, v_bV, v_chV3, v_chV2t, v_chV2f, v_chV1, v_chV, v_iteT, v_iteF, v_call, v_bi, v_isi, v_ix2, v_ix, v_sl3, v_sl2, v_sl, v_tup2, v_tup, v_lst, v_asgn, v_comp, v_meth2, v_meth, v_es2, v_es, v_BVt, v_BVtf, v_BVf, v_BVft, v_BTt, v_BTtf, v_BTf, v_BTft, v_O, v_tru, v_cmpT2, v_cmpT, v_chT3, v_chT2t, v_chT2f, v_chT1, v_chT, v_notT, v_isiT, v_pW, v_itV, v_R1, v_R2b, v_R2, v_asgSeq, v_setIx, v_setIx2, v_sub3, v_sub2, v_sub, v_Ts, v_asg2, v_asg, v_par2, v_par, v_augO, v_aug, v_augV, v_augA, v_augS, v_exp, v_ifT, v_ifF, v_for, v_ret, v_sqN, v_sqR, v_sqB, v_sqC, v_callT, v_ixT2, v_ixT, v_seqL, v_seqT, v_seqW, v_seqC, v_liveW, v_liveC, v_toD, v_toDc, v_frC, v_toDs0, v_toDs, v_Ds, v_Ds2, v_newF, v_newT, v_add, v_subI, v_catT, v_catLL, v_eqI, v_neI, v_eqB, v_neB, v_lt, v_le, v_gt, v_ge, v_is, v_isnot, v_nonN, v_nonI, v_nonB, v_nonT, v_nonL, v_nonC, v_truN, v_truB, v_ixO, v_ixS, v_ixTu, v_ixL, v_ixC, v_at0, v_at1, v_at2, v_at3, v_at4, v_at5, v_at6, v_at7, v_lenO, v_lenS, v_lenL, v_lenT, v_lenC, v_intI, v_intB, v_abs, v_max2, v_min2, v_gcd, v_listL, v_listT, v_listO, v_listC, v_tupleL, v_tupleT, v_tupO, v_tupleC, v_slS, v_slL, v_slT, v_itS, v_itL, v_itT, v_itW, v_itC, v_append, v_app, v_appO, v_pop, v_popO, v_popAt, v_reverse, v_revO, v_isiI, v_isiB, v_isiL, v_isiTu, v_isiS, v_isiN, v_isiC, v_Fb, v_FlN, v_FlC, v_FlB, v_FlR, v_Cl4, v_Cl3, v_Cl2, v_Cl1t, v_Cl1f, v_Cl0, v_encS, v_ptS, v_encI, v_ptI, v_eqE, v_neE, v_eqP, v_neP, v_nonE, v_nonP, v_mulS, v_setC0, v_DC, v_seqDC, v_DCxs, v_mxS, v_mxI, v_sgS, v_sgI, v_setC1, v_setC2, v_setC3, leave_c02, v_frmI, v_dtS, v_dtI, v_eqDt, v_neDt, v_neDt2, v_minDt, v_maxDt, pw_10_9, pw_10_18, pw_10_30, pw_10_12, pw_10_20, pw_10_6, pw_shl, initE, bnd_some, List.getElem?_cons_zero, List.getElem?_cons_succ, List.set_cons_zero, List.set_cons_succ, List.map_cons, List.map_nil, List.length_cons, List.length_nil, List.cons_append, List.nil_append, List.replicate, Nat.reduceAdd, Nat.reduceSub, Nat.reduceLT, Nat.reduceLeDiff, Nat.zero_add, if_true, Bool.false_eq_true, if_false, reduceCtorEq, sizeLine_eq, lBody_eq, lElt_eq, lCnd_eq, List.take_succ_cons, List.take_zero, Int.natCast_zero, Nat.max_def, List.any_cons, List.any_nil, Bool.or_false, Bool.false_or, Bool.and_false, Bool.false_and, Bool.or_true, Bool.true_or, Bool.true_and, Bool.and_true, eq_self, ne_eq, not_true, not_false_eq_true, beq_self_eq_true, Int.lt_irrefl, Int.reduceLT, Int.reduceLE, Int.reduceEq, Bool.true_beq, Bool.false_beq, decide_true, decide_false, Bool.not_true, Bool.not_false]
      exact ⟨_, _, rfl, rfl⟩
  obtain ⟨w, μ, h, rfl⟩ := main
  exact ⟨μ, h⟩
end K76

open PySem PySem.W PyProof.Rows
set_option maxRecDepth 100000 in
set_option maxHeartbeats 0 in
theorem PySem.Challenge.cw_planelaidout_k76_images_of_segments_holds : PySem.Challenge.rw_planelaidout_k76_images_of_segments.Holds := by
  w_on; o_law; k_head; (case hw => w_witness2)
  k_fill
  refine L2.walk_of (l := PySem.Challenge.rw_planelaidout_k76_images_of_segments) (n := 63) (k := 80) (x := "script") (CX := fun _ => L2.CX0) (sp := fun w => MI.spM _ (MI.evF K76.T 80 29)) rfl (by decide) rfl ⟨rfl, by decide, by decide⟩ (fun w h Y => PySem.W.kIn_of Y) ?F (fun _ _ a ns hl hO hS => (K76.run ns hl).elim fun _ e => MI.law_sp hO hS e) (fun _ _ _ _ _ h => h)
  case F =>
    intro w mg fa h KX G hmg
    refine' K76.mk KX G hmg ?a0 ?l0 ?c0 ?k0 ?a1 ?l1 ?c1 ?k1 ?a2 ?l2 ?c2 ?k2 ?a3 ?l3 ?c3 ?k3 ?a4 ?l4 ?c4 ?k4 ?a5 ?l5 ?c5 ?k5 ?a6 ?l6 ?c6 ?k6 ?a7 ?l7 ?c7 ?k7 ?a8 ?l8 ?c8 ?k8 ?a9 ?l9 ?c9 ?k9 ?a10 ?l10 ?c10 ?k10 ?a11 ?l11 ?c11 ?k11 ?a12 ?l12 ?c12 ?k12 ?a13 ?l13 ?c13 ?k13 ?a14 ?l14 ?c14 ?k14 ?a15 ?l15 ?c15 ?k15 ?a16 ?l16 ?c16 ?k16 ?a17 ?l17 ?c17 ?k17 ?a18 ?l18 ?c18 ?k18 ?a19 ?l19 ?c19 ?k19 ?a20 ?l20 ?c20 ?k20 ?a21 ?l21 ?c21 ?k21 ?a22 ?l22 ?c22 ?k22 ?a23 ?l23 ?c23 ?k23 ?a24 ?l24 ?c24 ?k24 ?a25 ?l25 ?c25 ?k25 ?a26 ?l26 ?c26 ?k26 ?a27 ?l27 ?c27 ?k27 ?a28 ?l28 ?c28 ?k28 ?a29 ?l29 ?c29 ?k29 ?z_len ?z_int ?z_abs ?z_max ?z_min ?z_list ?z_tuple ?z_sum ?z_any ?z_all ?z_range ?z_isinstance ?z_bool ?z_str ?z_gcd
    (case a0 => k_is); (case l0 => k_is); (case c0 => k_is); (case k0 => k_is); (case a1 => k_is); (case l1 => k_is); (case c1 => k_is); (case k1 => k_is); (case a2 => k_is); (case l2 => k_is); (case c2 => k_is); (case k2 => k_is); (case a3 => k_is); (case l3 => k_is); (case c3 => k_is); (case k3 => k_is); (case a4 => k_is); (case l4 => k_is); (case c4 => k_is); (case k4 => k_is); (case a5 => k_is); (case l5 => k_is); (case c5 => k_is); (case k5 => k_is); (case a6 => k_is); (case l6 => k_is); (case c6 => k_is); (case k6 => k_is); (case a7 => k_is); (case l7 => k_is); (case c7 => k_is); (case k7 => k_is); (case a8 => k_is); (case l8 => k_is); (case c8 => k_is); (case k8 => k_is); (case a9 => k_is); (case l9 => k_is); (case c9 => k_is); (case k9 => k_is); (case a10 => k_is); (case l10 => k_is); (case c10 => k_is); (case k10 => k_is); (case a11 => k_is); (case l11 => k_is); (case c11 => k_is); (case k11 => k_is); (case a12 => k_is); (case l12 => k_is); (case c12 => k_is); (case k12 => k_is); (case a13 => k_is); (case l13 => k_is); (case c13 => k_is); (case k13 => k_is); (case a14 => k_is); (case l14 => k_is); (case c14 => k_is); (case k14 => k_is); (case a15 => k_is); (case l15 => k_is); (case c15 => k_is); (case k15 => k_is); (case a16 => k_is); (case l16 => k_is); (case c16 => k_is); (case k16 => k_is); (case a17 => k_is); (case l17 => k_is); (case c17 => k_is); (case k17 => k_is); (case a18 => k_is); (case l18 => k_is); (case c18 => k_is); (case k18 => k_is); (case a19 => k_is); (case l19 => k_is); (case c19 => k_is); (case k19 => k_is); (case a20 => k_is); (case l20 => k_is); (case c20 => k_is); (case k20 => k_is); (case a21 => k_is); (case l21 => k_is); (case c21 => k_is); (case k21 => k_is); (case a22 => k_is); (case l22 => k_is); (case c22 => k_is); (case k22 => k_is); (case a23 => k_is); (case l23 => k_is); (case c23 => k_is); (case k23 => k_is); (case a24 => k_is); (case l24 => k_is); (case c24 => k_is); (case k24 => k_is); (case a25 => k_is); (case l25 => k_is); (case c25 => k_is); (case k25 => k_is); (case a26 => k_is); (case l26 => k_is); (case c26 => k_is); (case k26 => k_is); (case a27 => k_is); (case l27 => k_is); (case c27 => k_is); (case k27 => k_is); (case a28 => k_is); (case l28 => k_is); (case c28 => k_is); (case k28 => k_is); (case a29 => k_is); (case l29 => k_is); (case c29 => k_is); (case k29 => k_is); (case z_len => k_is); (case z_int => k_is); (case z_abs => k_is); (case z_max => k_is); (case z_min => k_is); (case z_list => k_is); (case z_tuple => k_is); (case z_sum => k_is); (case z_any => k_is); (case z_all => k_is); (case z_range => k_is); (case z_isinstance => k_is); (case z_bool => k_is); (case z_str => k_is); (case z_gcd => k_is)

