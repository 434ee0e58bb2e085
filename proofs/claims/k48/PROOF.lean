import PyProof.Rows.All
import Wide.All
import OpenK.AllK
import Wide.FinOn
import PySem.Syntax
import PyProof.EqLayable
import HandS.Words
import HandS.Comp
import HandS.ForMost
import HandS.Wide
import HandS.IsInst
import HandS.Deep
import HandS.Sort
import HandS.TupAny
import HandS.Flow
import KE.GoesMore
import KE.GoesEnum
import HandS.Conv
import HandS.HeadHook4
import HandS.Codes
import PyProof.Lay0
import HandS.Head2
import HandS.HeadEnd
import PySem.Challenge.RW_surepilot_k48_whole_late_widths_bound_es
set_option linter.all false
/-! DPy: a small language of data: the part of Python that the program uses, as plain functions over plain data. By an AI agent. -/
namespace DP
open PySem

/-- data: numbers, texts, tuples and lists that stand still, and references to lists that may change -/
inductive D where
  | non
  | bl (b : Bool)
  | int (i : Int)
  | str (x : Str)
  | tup (xs : List D)
  | lst (xs : List D)
  | fro (xs : List D)
  | ref (n : Nat)
  | rng (lo hi : Int)
deriving Inhabited

/-- a slot of a def: not set, a datum, a list that only this slot holds -/
inductive Sl where
  | un
  | val (d : D)
  | own (ms : List D)
deriving Inhabited

abbrev En := List Sl
/-- the lists that references stand for -/
abbrev Gs := List (List D)
/-- what the defs called give -/
abbrev Cf := Nat → List D → Gs → Option (D × Gs)

def lineB : Nat := 16777216

inductive Op2 where | add | sub | mul | fdiv | mod | pow
deriving DecidableEq
inductive Cp where | lt | le | gt | ge | eq | ne | inn | nin
deriving DecidableEq
inductive Ty where | tuple | list | bool | int | str
deriving DecidableEq
/-- targets -/
inductive IT where
  | name (i : Nat)
  | tup (ts : List IT)
  | tupL (ts : List IT)

mutual
/-- expressions -/
inductive IE where
  | var (i : Nat)
  | int (i : Int)
  | bl (b : Bool)
  | non
  | str (x : Str)
  | gc (j : Nat)
  | op (o : Op2) (a b : IE)
  | neg (a : IE)
  | not (a : IE)
  | cmp (c : Cp) (a b : IO)
  | chain (c c' : Cp) (a b d : IE)
  | isN (a : IE)
  | notN (a : IE)
  | and (a b : IE)
  | or (a b : IE)
  | ite (c : IC) (a b : IE)
  | ix (a : IO) (i : IE)
  | sl (a : IE) (lo hi : IE)
  | slTo (a : IE) (hi : IE)
  | slFrom (a : IE) (lo : IE)
  | tup (es : IA)
  | lst (es : IA)
  | call (f : Nat) (es : IA)
  | len (a : IO)
  | abs (a : IE)
  | min2 (a b : IE)
  | max2 (a b : IE)
  | minL (a : IO)
  | maxL (a : IO)
  | sumL (a : IO)
  | toInt (a : IE)
  | toTup (a : IO)
  | toLst (a : IO)
  | rng1 (a : IE)
  | lstRng (a : IE)
  | isi (t : Ty) (a : IE)
  | lc (own : List Nat) (t : IT) (it : II) (cond : IC) (elt : IE)
  | lcA (own : List Nat) (t : IT) (it : II) (elt : IE)
  | never
/-- rows of expressions -/
inductive IA where
  | nil
  | cons (e : IE) (es : IA)
/-- what is walked -/
inductive II where
  | seq (a : IO)
  | range1 (a : IE)
  | range2 (a b : IE)
  | zip (a b : IE)
  | enum (a : IE)
/-- what is looked at at once: an own list, or a value -/
inductive IO where
  | own (i : Nat)
  | e (a : IE)
/-- tests -/
inductive IC where
  | and (a b : IC)
  | or (a b : IC)
  | not (a : IC)
  | e (a : IE)
end

mutual
/-- statements -/
inductive IS where
  | set (t : IT) (e : IE)
  | par (i j : Nat) (a b : IE)
  | own (i : Nat) (e : IE)
  | app (i : Nat) (e : IE)
  | ext (i : Nat) (e : IE)
  | setI (i : Nat) (k e : IE)
  | setR (o k e : IE)
  | expr (e : IE)
  | ifs (c : IC) (a b : IB)
  | loop (t : IT) (it : II) (b : IB)
  | whil (c : IC) (b : IB)
  | ret (e : IE)
  | retN
  | retG (i : Nat) (a b : IE)
  | brk
  | cnt
  | pass
  | never
  | frz (i : Nat)
inductive IB where
  | nil
  | cons (s : IS) (b : IB)
end

/-! ### operations on data -/
def opI : Op2 → Int → Int → Option Int
  | .add, i, j => some (i + j)
  | .sub, i, j => some (i - j)
  | .mul, i, j => if i.natAbs.log2 + j.natAbs.log2 < 1000000 then some (i * j) else none
  | .fdiv, i, j => if 0 < j ∧ j.natAbs.log2 < 9000 then some (i / j) else none
  | .mod, i, j => if 0 < j then some (i % j) else none
  | .pow, i, j => if 0 ≤ j ∧ j ≤ 1000000 ∧ i.natAbs < 2 ^ 64 then some (i ^ j.toNat) else none

def op2 : Op2 → D → D → Option D
  | o, .int i, .int j => (opI o i j).map .int
  | .add, .lst xs, .lst ys => if xs.length + ys.length ≤ lineB then some (.lst (xs ++ ys)) else none
  | .add, .tup xs, .tup ys => if xs.length + ys.length ≤ lineB then some (.tup (xs ++ ys)) else none
  | _, _, _ => none

mutual
def toPy : D → Option PyData
  | .non => some .none
  | .bl b => some (.bool b)
  | .int i => some (.int i)
  | .str x => some (.str x)
  | .tup xs => (toPys xs).map .tuple
  | .lst xs => (toPys xs).map .list
  | .fro _ => none
  | .ref _ => none
  | .rng _ _ => none
def toPys : List D → Option (List PyData)
  | [] => some []
  | x :: xs => match toPy x, toPys xs with
    | some a, some as => some (a :: as)
    | _, _ => none
end

def eqD (a b : D) : Option Bool := match toPy a, toPy b with
  | some x, some y => if SeqAt.shaped x && SeqAt.shaped y then some (PyData.eqv x y) else none
  | _, _ => none
def inD (a b : D) : Option Bool := match b with
  | .lst ys => (match toPy a, toPys ys with
    | some x, some zs => if SeqAt.shaped x && SeqAt.shaped (.list zs) then some (zs.any fun z => PyData.eqv z x) else none
    | _, _ => none)
  | _ => none

def cmpD : Cp → D → D → Option Bool
  | .lt, .int i, .int j => some (decide (i < j))
  | .le, .int i, .int j => some (decide (i ≤ j))
  | .gt, .int i, .int j => some (decide (j < i))
  | .ge, .int i, .int j => some (decide (j ≤ i))
  | .eq, a, b => eqD a b
  | .ne, a, b => (eqD a b).map (!·)
  | .inn, a, b => inD a b
  | .nin, a, b => (inD a b).map (!·)
  | _, _, _ => none

def isNon : D → Bool
  | .non => true
  | _ => false

/-- a value's truth -/
def tru : D → Option Bool
  | .non => some false
  | .bl b => some b
  | .int i => some (i != 0)
  | .tup xs => some (!xs.isEmpty)
  | .lst xs => some (!xs.isEmpty)
  | _ => none

def ixN (n : Nat) (i : Int) : Option Nat := if 0 ≤ i then (if i < n then some i.toNat else none) else if -(n : Int) ≤ i then some (i + n).toNat else none
def atI (xs : List D) (i : Int) : Option D := match ixN xs.length i with
  | some j => xs[j]?
  | none => none
def sIx (n : Nat) (i : Int) : Nat := if i < 0 then (max (i + n) 0).toNat else min i.toNat n
def cLo (n : Nat) : Option Int → Nat
  | some i => sIx n i
  | none => 0
def cHi (n : Nat) : Option Int → Nat
  | some i => sIx n i
  | none => n
def cut (xs : List D) (lo hi : Option Int) : List D := (xs.drop (cLo xs.length lo)).take (cHi xs.length hi - cLo xs.length lo)

def isiB : Ty → D → Option Bool
  | .tuple, .tup _ => some true
  | .list, .lst _ => some true
  | .list, .fro _ => some true
  | .bool, .bl _ => some true
  | .int, .int _ => some true
  | .int, .bl _ => some true
  | .str, .str _ => some true
  | _, .ref _ => none
  | _, .rng _ _ => none
  | _, _ => some false

def intsOf : List D → Option (List Int)
  | [] => some []
  | .int i :: r => (intsOf r).map (i :: ·)
  | _ :: _ => none
def maxI : List Int → Option Int
  | [] => none
  | x :: r => some (r.foldl max x)
def minI : List Int → Option Int
  | [] => none
  | x :: r => some (r.foldl min x)

/-! ### slots and targets -/
def wipeE (E : En) : List Nat → En
  | [] => E
  | v :: vs => (wipeE E vs).set v .un

mutual
def bindT : IT → D → En → Option En
  | .name i, d, E => if i < E.length then some (E.set i (.val d)) else none
  | .tup ts, .tup ds, E => bindTs ts ds E
  | .tup _, _, _ => none
  | .tupL ts, .lst ds, E => bindTs ts ds E
  | .tupL _, _, _ => none
def bindTs : List IT → List D → En → Option En
  | [], [], E => some E
  | t :: ts, d :: ds, E => match bindT t d E with
    | some E1 => bindTs ts ds E1
    | none => none
  | _, _, _ => none
end

/-! ### comprehensions -/
def lcRun (own : List Nat) (t : IT) (cond : En → Gs → Option (Bool × Gs)) (elt : En → Gs → Option (D × Gs)) (E : En) : List D → Gs → Option (List D × Gs)
  | [], g => some ([], g)
  | d :: ds, g => match bindT t d (wipeE E own) with
    | none => none
    | some E1 => match cond E1 g with
      | none => none
      | some (false, g1) => lcRun own t cond elt E ds g1
      | some (true, g1) => match elt E1 g1 with
        | none => none
        | some (y, g2) => match lcRun own t cond elt E ds g2 with
          | none => none
          | some (ys, g3) => some (y :: ys, g3)

def intRow (lo : Int) (n : Nat) : List D := (List.range n).map fun (k : Nat) => .int (lo + ((k : Nat) : Int))
def pairs : List D → List D → List D
  | x :: xs, y :: ys => .tup [x, y] :: pairs xs ys
  | _, _ => []
def numbered (k : Nat) : List D → List D
  | [] => []
  | x :: xs => .tup [.int (k : Int), x] :: numbered (k + 1) xs

/-- the items of what stands still, or of a list by its reference -/
def items (g : Gs) : D → Option (List D)
  | .tup xs => some xs
  | .lst xs => some xs
  | .fro xs => some xs
  | .ref n => g[n]?
  | _ => none
def still : D → Option (List D)
  | .tup xs => some xs
  | .lst xs => some xs
  | .fro xs => some xs
  | .rng lo hi => if -(2 ^ 62) ≤ lo ∧ lo < 2 ^ 62 ∧ -(2 ^ 62) ≤ hi ∧ hi < 2 ^ 62 then some (intRow lo (hi - lo).toNat) else none
  | _ => none

section
variable (C : Cf) (Γ : List D)
mutual
/-- an expression's value -/
def evE : IE → En → Gs → Option (D × Gs)
  | .var i, E, g => match E[i]? with
    | some (.val d) => some (d, g)
    | _ => none
  | .int i, _, g => some (.int i, g)
  | .bl b, _, g => some (.bl b, g)
  | .non, _, g => some (.non, g)
  | .str x, _, g => some (.str x, g)
  | .gc j, _, g => match Γ[j]? with
    | some d => some (d, g)
    | none => none
  | .op o a b, E, g => match evE a E g with
    | none => none
    | some (x, g1) => match evE b E g1 with
      | none => none
      | some (y, g2) => match op2 o x y with
        | some z => some (z, g2)
        | none => none
  | .neg a, E, g => match evE a E g with
    | some (.int i, g1) => some (.int (-i), g1)
    | _ => none
  | .not a, E, g => match evE a E g with
    | some (x, g1) => (match tru x with
      | some b => some (.bl (!b), g1)
      | none => none)
    | none => none
  | .cmp c a b, E, g => match evS a E g with
    | none => none
    | some (x, g1) => match evS b E g1 with
      | none => none
      | some (y, g2) => match cmpD c x y with
        | some z => some (.bl z, g2)
        | none => none
  | .chain c c' a b d, E, g => match evE a E g with
    | none => none
    | some (x, g1) => match evE b E g1 with
      | none => none
      | some (y, g2) => match cmpD c x y with
        | none => none
        | some false => some (.bl false, g2)
        | some true => match evE d E g2 with
          | none => none
          | some (z, g3) => match cmpD c' y z with
            | some k => some (.bl k, g3)
            | none => none
  | .isN a, E, g => match evE a E g with
    | some (x, g1) => some (.bl (isNon x), g1)
    | none => none
  | .notN a, E, g => match evE a E g with
    | some (x, g1) => some (.bl (!isNon x), g1)
    | none => none
  | .and a b, E, g => match evE a E g with
    | some (.bl true, g1) => evE b E g1
    | some (.bl false, g1) => some (.bl false, g1)
    | _ => none
  | .or a b, E, g => match evE a E g with
    | some (.bl true, g1) => some (.bl true, g1)
    | some (.bl false, g1) => evE b E g1
    | _ => none
  | .ite c a b, E, g => match evT c E g with
    | some (true, g1) => evE a E g1
    | some (false, g1) => evE b E g1
    | none => none
  | .ix a i, E, g => match evS a E g with
    | none => none
    | some (x, g1) => match evE i E g1 with
      | some (.int k, g2) => (match items g2 x with
        | some xs => (match atI xs k with
          | some d => some (d, g2)
          | none => none)
        | none => none)
      | _ => none
  | .sl a lo hi, E, g => match evE a E g with
    | none => none
    | some (x, g1) => match evE lo E g1 with
      | some (.int k, g2) => (match evE hi E g2 with
        | some (.int m, g3) => (match x with
          | .tup xs => some (.tup (cut xs (some k) (some m)), g3)
          | .lst xs => some (.lst (cut xs (some k) (some m)), g3)
          | _ => none)
        | _ => none)
      | _ => none
  | .slTo a hi, E, g => match evE a E g with
    | none => none
    | some (x, g1) => match evE hi E g1 with
      | some (.int m, g3) => (match x with
          | .tup xs => some (.tup (cut xs none (some m)), g3)
          | .lst xs => some (.lst (cut xs none (some m)), g3)
          | _ => none)
      | _ => none
  | .slFrom a lo, E, g => match evE a E g with
    | none => none
    | some (x, g1) => match evE lo E g1 with
      | some (.int m, g3) => (match x with
          | .tup xs => some (.tup (cut xs (some m) none), g3)
          | .lst xs => some (.lst (cut xs (some m) none), g3)
          | _ => none)
      | _ => none
  | .tup es, E, g => match evA es E g with
    | some (ds, g1) => if ds.length ≤ lineB then some (.tup ds, g1) else none
    | none => none
  | .lst es, E, g => match evA es E g with
    | some (ds, g1) => if ds.length ≤ lineB then some (.lst ds, g1) else none
    | none => none
  | .call f es, E, g => match evA es E g with
    | some (ds, g1) => C f ds g1
    | none => none
  | .len a, E, g => match evS a E g with
    | none => none
    | some (x, g1) => match items g1 x with
      | some xs => some (.int xs.length, g1)
      | none => none
  | .abs a, E, g => match evE a E g with
    | some (.int i, g1) => some (.int (if i < 0 then -i else i), g1)
    | _ => none
  | .min2 a b, E, g => match evE a E g with
    | some (.int i, g1) => (match evE b E g1 with
      | some (.int j, g2) => some (.int (if j < i then j else i), g2)
      | _ => none)
    | _ => none
  | .max2 a b, E, g => match evE a E g with
    | some (.int i, g1) => (match evE b E g1 with
      | some (.int j, g2) => some (.int (if j > i then j else i), g2)
      | _ => none)
    | _ => none
  | .minL a, E, g => match evS a E g with
    | none => none
    | some (x, g1) => match x with
      | .lst xs => (match intsOf xs with
        | some ns => (match minI ns with
          | some m => some (.int m, g1)
          | none => none)
        | none => none)
      | _ => none
  | .maxL a, E, g => match evS a E g with
    | none => none
    | some (x, g1) => match x with
      | .lst xs => (match intsOf xs with
        | some ns => (match maxI ns with
          | some m => some (.int m, g1)
          | none => none)
        | none => none)
      | _ => none
  | .sumL a, E, g => match evS a E g with
    | none => none
    | some (x, g1) => match x with
      | .lst xs => (match intsOf xs with
        | some ns => some (.int ns.sum, g1)
        | none => none)
      | _ => none
  | .toInt a, E, g => match evE a E g with
    | some (.int i, g1) => some (.int i, g1)
    | some (.bl b, g1) => some (.int (if b then 1 else 0), g1)
    | _ => none
  | .toTup a, E, g => match evS a E g with
    | some (.lst xs, g1) => some (.tup xs, g1)
    | some (.tup xs, g1) => some (.tup xs, g1)
    | _ => none
  | .toLst a, E, g => match evS a E g with
    | some (.lst xs, g1) => some (.lst xs, g1)
    | some (.tup xs, g1) => some (.lst xs, g1)
    | _ => none
  | .lstRng a, E, g => match evE a E g with
    | some (.int j, g1) => if -1000000 < j ∧ j < 1000000 then some (.lst (intRow 0 j.toNat), g1) else none
    | _ => none
  | .rng1 a, E, g => match evE a E g with
    | some (.int i, g1) => some (.rng 0 i, g1)
    | _ => none
  | .isi t a, E, g => match evE a E g with
    | some (x, g1) => (match isiB t x with
      | some b => some (.bl b, g1)
      | none => none)
    | none => none
  | .lc own t it cond elt, E, g => match evI it E g with
    | none => none
    | some (xs, g1) => if xs.length < lineB then (match lcRun own t (evT cond) (evE elt) E xs g1 with
      | some (ys, g2) => some (.lst ys, g2)
      | none => none) else none
  | .lcA own t it elt, E, g => match evI it E g with
    | none => none
    | some (xs, g1) => if xs.length < lineB then (match lcRun own t (fun _ g => some (true, g)) (evE elt) E xs g1 with
      | some (ys, g2) => some (.lst ys, g2)
      | none => none) else none
  | .never, _, _ => none
/-- .. that is looked at at once: an own list too -/
def evS : IO → En → Gs → Option (D × Gs)
  | .own i, E, g => match E[i]? with
    | some (.own ms) => some (.lst ms, g)
    | _ => none
  | .e a, E, g => evE a E g
/-- a test -/
def evT : IC → En → Gs → Option (Bool × Gs)
  | .and a b, E, g => match evT a E g with
    | some (true, g1) => evT b E g1
    | some (false, g1) => some (false, g1)
    | none => none
  | .or a b, E, g => match evT a E g with
    | some (true, g1) => some (true, g1)
    | some (false, g1) => evT b E g1
    | none => none
  | .not a, E, g => match evT a E g with
    | some (b, g1) => some (!b, g1)
    | none => none
  | .e a, E, g => match evE a E g with
    | some (x, g1) => (match tru x with
      | some b => some (b, g1)
      | none => none)
    | none => none
/-- a row -/
def evA : IA → En → Gs → Option (List D × Gs)
  | .nil, _, g => some ([], g)
  | .cons e es, E, g => match evE e E g with
    | none => none
    | some (d, g1) => match evA es E g1 with
      | some (ds, g2) => some (d :: ds, g2)
      | none => none
/-- the items that are walked -/
def evI : II → En → Gs → Option (List D × Gs)
  | .seq a, E, g => match evS a E g with
    | some (x, g1) => (match still x with
      | some xs => some (xs, g1)
      | none => none)
    | none => none
  | .range1 a, E, g => match evE a E g with
    | some (.int j, g1) => if -(2 ^ 62) ≤ j ∧ j < 2 ^ 62 then some (intRow 0 j.toNat, g1) else none
    | _ => none
  | .range2 a b, E, g => match evE a E g with
    | some (.int i, g1) => (match evE b E g1 with
      | some (.int j, g2) => if -(2 ^ 62) ≤ i ∧ i < 2 ^ 62 ∧ -(2 ^ 62) ≤ j ∧ j < 2 ^ 62 then some (intRow i (j - i).toNat, g2) else none
      | _ => none)
    | _ => none
  | .zip a b, E, g => match evE a E g with
    | none => none
    | some (x, g1) => match evE b E g1 with
      | none => none
      | some (y, g2) => (match x, y with
        | .tup xs, .tup ys => some (pairs xs ys, g2)
        | .lst xs, .lst ys => some (pairs xs ys, g2)
        | .tup xs, .lst ys => some (pairs xs ys, g2)
        | .lst xs, .tup ys => some (pairs xs ys, g2)
        | _, _ => none)
  | .enum a, E, g => match evE a E g with
    | some (.tup xs, g1) => some (numbered 0 xs, g1)
    | some (.lst xs, g1) => some (numbered 0 xs, g1)
    | _ => none
end
end

/-! ### statements -/
inductive Fl where
  | nx
  | rt (d : D)
  | bk
  | ct

def loopRun (t : IT) (body : En → Gs → Option (Fl × En × Gs)) : List D → En → Gs → Option (Fl × En × Gs)
  | [], E, g => some (.nx, E, g)
  | d :: ds, E, g => match bindT t d E with
    | none => none
    | some E1 => match body E1 g with
      | none => none
      | some (.nx, E2, g2) => loopRun t body ds E2 g2
      | some (.ct, E2, g2) => loopRun t body ds E2 g2
      | some (.bk, E2, g2) => some (.nx, E2, g2)
      | some (.rt v, E2, g2) => some (.rt v, E2, g2)

def whileRun (c : En → Gs → Option (Bool × Gs)) (body : En → Gs → Option (Fl × En × Gs)) : Nat → En → Gs → Option (Fl × En × Gs)
  | 0, _, _ => none
  | n + 1, E, g => match c E g with
    | none => none
    | some (false, g1) => some (.nx, E, g1)
    | some (true, g1) => match body E g1 with
      | none => none
      | some (.nx, E2, g2) => whileRun c body n E2 g2
      | some (.ct, E2, g2) => whileRun c body n E2 g2
      | some (.bk, E2, g2) => some (.nx, E2, g2)
      | some (.rt v, E2, g2) => some (.rt v, E2, g2)
/-- more turns than any while of ours takes -/
def whileMost : Nat := 2 ^ 20000

/-- an expression that makes a new list -/
def freshL : IE → Bool
  | .lst _ => true
  | .lc _ _ _ _ _ => true
  | .lcA _ _ _ _ => true
  | .toLst _ => true
  | .lstRng _ => true
  | .ite _ a b => freshL a && freshL b
  | _ => false

section
variable (C : Cf) (Γ : List D)
mutual
def evX : IS → En → Gs → Option (Fl × En × Gs)
  | .set t e, E, g => match evE C Γ e E g with
    | none => none
    | some (d, g1) => match bindT t d E with
      | some E1 => some (.nx, E1, g1)
      | none => none
  | .par i j a b, E, g => match evE C Γ a E g with
    | none => none
    | some (x, g1) => match evE C Γ b E g1 with
      | none => none
      | some (y, g2) => if i < E.length ∧ j < E.length ∧ i ≠ j then some (.nx, (E.set i (.val x)).set j (.val y), g2) else none
  | .own i e, E, g => if freshL e = true ∧ i < E.length then (match evE C Γ e E g with
    | some (.lst ms, g1) => some (.nx, E.set i (.own ms), g1)
    | _ => none) else none
  | .app i e, E, g => match evE C Γ e E g with
    | none => none
    | some (d, g1) => match E[i]? with
      | some (.own ms) => if ms.length < lineB then some (.nx, E.set i (.own (ms ++ [d])), g1) else none
      | _ => none
  | .ext i e, E, g => match evE C Γ e E g with
    | some (.lst ds, g1) => (match E[i]? with
      | some (.own ms) => if ms.length + ds.length ≤ lineB then some (.nx, E.set i (.own (ms ++ ds)), g1) else none
      | _ => none)
    | _ => none
  | .setI i k e, E, g => match evE C Γ e E g with
    | none => none
    | some (d, g1) => match evE C Γ k E g1 with
      | some (.int n, g2) => (match E[i]? with
        | some (.own ms) => (match ixN ms.length n with
          | some j => some (.nx, E.set i (.own (ms.set j d)), g2)
          | none => none)
        | _ => none)
      | _ => none
  | .setR o k e, E, g => match evE C Γ e E g with
    | none => none
    | some (d, g1) => match evE C Γ o E g1 with
      | some (.ref r, g2) => (match evE C Γ k E g2 with
        | some (.int n, g3) => (match g3[r]? with
          | some ms => (match ixN ms.length n with
            | some j => some (.nx, E, g3.set r (ms.set j d))
            | none => none)
          | none => none)
        | _ => none)
      | _ => none
  | .expr e, E, g => match evE C Γ e E g with
    | some (_, g1) => some (.nx, E, g1)
    | none => none
  | .ifs c a b, E, g => match evT C Γ c E g with
    | some (true, g1) => evB a E g1
    | some (false, g1) => evB b E g1
    | none => none
  | .loop t it b, E, g => match evI C Γ it E g with
    | some (xs, g1) => loopRun t (evB b) xs E g1
    | none => none
  | .whil c b, E, g => whileRun (evT C Γ c) (evB b) whileMost E g
  | .ret e, E, g => match evE C Γ e E g with
    | some (d, g1) => some (.rt d, E, g1)
    | none => none
  | .retN, E, g => some (.rt .non, E, g)
  | .retG i a b, E, g => match E[i]? with
    | some (.own ms) => (match evE C Γ a E g with
      | none => none
      | some (x, g1) => match evE C Γ b E g1 with
        | none => none
        | some (y, g2) => some (.rt (.ref (g2.length + 2)), E, g2 ++ [ms, [x], [.ref g2.length, .ref (g2.length + 1), y]]))
    | _ => none
  | .brk, E, g => some (.bk, E, g)
  | .cnt, E, g => some (.ct, E, g)
  | .pass, E, g => some (.nx, E, g)
  | .never, _, _ => none
  | .frz i, E, g => match E[i]? with
    | some (.own ms) => some (.nx, E.set i (.val (.lst ms)), g)
    | _ => none
def evB : IB → En → Gs → Option (Fl × En × Gs)
  | .nil, E, g => some (.nx, E, g)
  | .cons s b, E, g => match evX s E g with
    | some (.nx, E1, g1) => evB b E1 g1
    | r => r
end
end

/-- a def: how many parameters, how many slots, its body -/
structure IDef where
  np : Nat
  n : Nat
  body : IB

/-- the program's defs, so many calls deep -/
def runN (T : List IDef) (Γ : List D) : Nat → Cf
  | 0 => fun _ _ _ => none
  | k + 1 => fun f ds g => match T[f]? with
    | none => none
    | some d => if ds.length = d.np then (match evB (runN T Γ k) Γ d.body (ds.map Sl.val ++ List.replicate (d.n - d.np) Sl.un) g with
      | some (.rt v, _, g1) => some (v, g1)
      | some (.nx, _, g1) => some (.non, g1)
      | _ => none) else none
end DP

set_option linter.all false
/-! DChk: which Python text a text of DPy stands for. By an AI agent. -/
namespace DP
open PySem

/-- where a piece of a def stands: the scope that runs, the block's own scope, whether it is the def's own body, the names by slot, the defs' names, the constants' names -/
structure Zc where
  sc : Scope
  osc : Scope
  top : Bool
  N : List Str
  F : List Str
  Cn : List Str

def opOf : Op2 → Operator
  | .add => .Add
  | .sub => .Sub
  | .mul => .Mult
  | .fdiv => .FloorDiv
  | .mod => .Mod
  | .pow => .Pow
def cpOf : Cp → CmpOp
  | .lt => .Lt
  | .le => .LtE
  | .gt => .Gt
  | .ge => .GtE
  | .eq => .Eq
  | .ne => .NotEq
  | .inn => .In
  | .nin => .NotIn
def tyNm : Ty → Str
  | .tuple => "tuple"
  | .list => "list"
  | .bool => "bool"
  | .int => "int"
  | .str => "str"

def visB (sc : Scope) (x : Str) : Bool := match sc.names.lookup x with
  | some .local => true
  | some .cell => true
  | some .free => true
  | _ => false
def locB (Z : Zc) (x : Str) : Bool := match Z.sc.names.lookup x with
  | some .local => true
  | some .cell => Z.top || decide (Z.osc.names.lookup x = some .cell)
  | _ => false
def lclB (Z : Zc) (x : Str) : Bool := decide (Z.sc.names.lookup x = some .local)
def glB (Z : Zc) (x : Str) : Bool := decide (Z.sc.names.lookup x = some .globalImplicit) && !(x == ("__debug__" : Str))
def varB (Z : Zc) (i : Nat) (x : Str) : Bool := decide (Z.N[i]? = some x) && (visB Z.sc x && (!(x == ("__debug__" : Str)) && !(x == ("__classdict__" : Str))))
def tgtB (Z : Zc) (i : Nat) (x : Str) : Bool := decide (Z.N[i]? = some x) && locB Z x
def nmB (Z : Zc) (b x : Str) : Bool := decide (x = b) && glB Z x

def notSet : Expr → Bool
  | .Set _ _ _ => false
  | _ => true
def notStar : Expr → Bool
  | .Starred _ _ => false
  | _ => true
def notSlice : Expr → Bool
  | .Slice _ _ _ _ => false
  | _ => true
def notComp : Expr → Bool
  | .ListComp _ _ _ _ => false
  | .SetComp _ _ _ _ => false
  | .DictComp _ _ _ _ _ => false
  | _ => true
def plainTest : Expr → Bool
  | .UnaryOp .Not _ _ => false
  | .BoolOp _ _ _ => false
  | .IfExp _ _ _ _ => false
  | .Compare _ _ _ _ => false
  | _ => true
/-- forms whose truth is looked at as a whole -/
def plainIE : IE → Bool
  | .not _ => false
  | .and _ _ => false
  | .or _ _ => false
  | .ite _ _ _ => false
  | _ => true

def ownNs (N : List Str) (own : List Nat) : List (Str × Nat) := own.map fun i => ((N[i]?).getD "", i)

mutual
/-- the slots that a target sets -/
def slotsT : IT → List Nat
  | .name i => [i]
  | .tup ts => slotsTs ts
  | .tupL ts => slotsTs ts
def slotsTs : List IT → List Nat
  | [] => []
  | t :: ts => slotsT t ++ slotsTs ts
end
mutual
def chkT (Z : Zc) : IT → Expr → Bool
  | .name i, .Name x _ => tgtB Z i x
  | .tup ts, .Tuple es _ _ => chkTs Z ts es
  | .tupL ts, .Tuple es _ _ => chkTs Z ts es
  | _, _ => false
def chkTs (Z : Zc) : List IT → List Expr → Bool
  | [], [] => true
  | t :: ts, e :: es => chkT Z t e && chkTs Z ts es
  | _, _ => false
end

mutual
def chkE : IE → Zc → Expr → Bool
  | .var i, Z, .Name x _ => varB Z i x
  | .int i, _, .Constant (.int j) _ _ => decide (i = j)
  | .bl b, _, .Constant (.bool c) _ _ => decide (b = c)
  | .non, _, .Constant .none _ _ => true
  | .str x, _, .Constant (.str y) _ _ => decide (x = y)
  | .gc j, Z, .Name x _ => decide (Z.Cn[j]? = some x) && glB Z x
  | .op o a b, Z, .BinOp l op r _ => decide (opOf o = op) && (chkE a Z l && chkE b Z r)
  | .neg a, Z, .UnaryOp .USub l _ => chkE a Z l
  | .not a, Z, .UnaryOp .Not l _ => chkE a Z l
  | .cmp c a b, Z, .Compare l [op] [r] _ => decide (cpOf c = op) && (notSet r && (chkO a Z l && chkO b Z r))
  | .chain c c' a b d, Z, .Compare l [op, op'] [r, t] _ => decide (cpOf c = op) && (decide (cpOf c' = op') && (notSet t && (chkE a Z l && (chkE b Z r && chkE d Z t))))
  | .isN a, Z, .Compare l [.Is] [.Constant .none _ _] _ => chkE a Z l
  | .notN a, Z, .Compare l [.IsNot] [.Constant .none _ _] _ => chkE a Z l
  | .and a b, Z, .BoolOp .And [x, y] _ => chkE a Z x && chkE b Z y
  | .and a b, Z, .BoolOp .And (x :: y :: z :: r) p => chkE a Z x && chkE b Z (.BoolOp .And (y :: z :: r) p)
  | .or a b, Z, .BoolOp .Or [x, y] _ => chkE a Z x && chkE b Z y
  | .or a b, Z, .BoolOp .Or (x :: y :: z :: r) p => chkE a Z x && chkE b Z (.BoolOp .Or (y :: z :: r) p)
  | .ite c a b, Z, .IfExp t x y _ => chkC c Z t && (chkE a Z x && chkE b Z y)
  | .ix a i, Z, .Subscript l r _ => notSlice r && (chkO a Z l && chkE i Z r)
  | .sl a lo hi, Z, .Subscript l (.Slice (some u) (some v) none _) _ => chkE a Z l && (chkE lo Z u && chkE hi Z v)
  | .slTo a hi, Z, .Subscript l (.Slice none (some v) none _) _ => chkE a Z l && chkE hi Z v
  | .slFrom a lo, Z, .Subscript l (.Slice (some u) none none _) _ => chkE a Z l && chkE lo Z u
  | .tup es, Z, .Tuple xs _ _ => chkA es Z xs
  | .lst es, Z, .List xs _ => chkA es Z xs
  | .call f es, Z, .Call (.Name x _) (e :: xs) [] _ => decide (Z.F[f]? = some x) && (glB Z x && chkA es Z (e :: xs))
  | .len a, Z, .Call (.Name x _) [e] [] _ => nmB Z "len" x && chkO a Z e
  | .abs a, Z, .Call (.Name x _) [e] [] _ => nmB Z "abs" x && chkE a Z e
  | .min2 a b, Z, .Call (.Name x _) [e, f] [] _ => nmB Z "min" x && (chkE a Z e && chkE b Z f)
  | .max2 a b, Z, .Call (.Name x _) [e, f] [] _ => nmB Z "max" x && (chkE a Z e && chkE b Z f)
  | .minL a, Z, .Call (.Name x _) [e] [] _ => nmB Z "min" x && chkO a Z e
  | .maxL a, Z, .Call (.Name x _) [e] [] _ => nmB Z "max" x && chkO a Z e
  | .sumL a, Z, .Call (.Name x _) [e] [] _ => nmB Z "sum" x && chkO a Z e
  | .toInt a, Z, .Call (.Name x _) [e] [] _ => nmB Z "int" x && chkE a Z e
  | .toTup a, Z, .Call (.Name x _) [e] [] _ => nmB Z "tuple" x && chkO a Z e
  | .toLst a, Z, .Call (.Name x _) [e] [] _ => nmB Z "list" x && chkO a Z e
  | .rng1 a, Z, .Call (.Name x _) [e] [] _ => nmB Z "range" x && chkE a Z e
  | .lstRng a, Z, .Call (.Name x _) [.Call (.Name y _) [e] [] _] [] _ => nmB Z "list" x && (nmB Z "range" y && chkE a Z e)
  | .isi t a, Z, .Call (.Name x _) [e, .Name y _] [] _ => nmB Z "isinstance" x && (nmB Z (tyNm t) y && chkE a Z e)
  | .lc own t it cond elt, Z, .ListComp e [⟨tg, iter, [c], k⟩] scope _ => decide (k = 0) && (L2.blkC Z.N Z.sc scope (ownNs Z.N own) && (notSet iter && (chkI it Z tg iter && ((slotsT t).all (fun i => own.contains i) && (chkT ⟨L2.relS scope Z.sc, scope, false, Z.N, Z.F, Z.Cn⟩ t tg &&
      (chkC cond ⟨L2.relS scope Z.sc, scope, false, Z.N, Z.F, Z.Cn⟩ c && chkE elt ⟨L2.relS scope Z.sc, scope, false, Z.N, Z.F, Z.Cn⟩ e))))))
  | .lcA own t it elt, Z, .ListComp e [⟨tg, iter, [], k⟩] scope _ => decide (k = 0) && (L2.blkC Z.N Z.sc scope (ownNs Z.N own) && (notSet iter && (chkI it Z tg iter && ((slotsT t).all (fun i => own.contains i) && (chkT ⟨L2.relS scope Z.sc, scope, false, Z.N, Z.F, Z.Cn⟩ t tg &&
      chkE elt ⟨L2.relS scope Z.sc, scope, false, Z.N, Z.F, Z.Cn⟩ e)))))
  | .never, _, x => notStar x
  | _, _, _ => false
def chkO : IO → Zc → Expr → Bool
  | .own i, Z, .Name x _ => varB Z i x
  | .own _, _, _ => false
  | .e a, Z, e => chkE a Z e
def chkC : IC → Zc → Expr → Bool
  | .and a b, Z, .BoolOp .And [x, y] _ => chkC a Z x && chkC b Z y
  | .and a b, Z, .BoolOp .And (x :: y :: z :: r) p => chkC a Z x && chkC b Z (.BoolOp .And (y :: z :: r) p)
  | .or a b, Z, .BoolOp .Or [x, y] _ => chkC a Z x && chkC b Z y
  | .or a b, Z, .BoolOp .Or (x :: y :: z :: r) p => chkC a Z x && chkC b Z (.BoolOp .Or (y :: z :: r) p)
  | .not a, Z, .UnaryOp .Not l _ => chkC a Z l
  | .e a, Z, e => plainIE a && chkE a Z e
  | _, _, _ => false
def chkA : IA → Zc → List Expr → Bool
  | .nil, _, [] => true
  | .cons a as, Z, e :: es => chkE a Z e && chkA as Z es
  | _, _, _ => false
def chkI : II → Zc → Expr → Expr → Bool
  | .seq a, Z, _, e => notSet e && chkO a Z e
  | .range1 a, Z, _, .Call (.Name x _) [e] [] _ => nmB Z "range" x && chkE a Z e
  | .range2 a b, Z, _, .Call (.Name x _) [e, f] [] _ => nmB Z "range" x && (chkE a Z e && chkE b Z f)
  | .zip a b, Z, .Tuple _ _ _, .Call (.Name x _) [e, f] [] _ => nmB Z "zip" x && (chkE a Z e && chkE b Z f)
  | .enum a, Z, .Tuple _ _ _, .Call (.Name x _) [e] [] _ => nmB Z "enumerate" x && chkE a Z e
  | _, _, _, _ => false
end

/-- what a for walks stands still -/
def stillI : II → Bool
  | .seq (.own _) => false
  | _ => true

/-- no pair goes to a pair by this way -/
def okSet : Expr → Expr → Bool
  | .Name _ _, _ => true
  | .Tuple _ _ _, .Tuple _ _ _ => false
  | .Tuple _ _ _, _ => true
  | _, _ => false
mutual
def chkX : IS → Zc → Stmt → Bool
  | .set t e, Z, .Assign [tg] v _ => okSet tg v && (chkT Z t tg && chkE e Z v)
  | .par i j a b, Z, .Assign [.Tuple [.Name x px, .Name y py] _ _] (.Tuple [u, v] _ _) _ => decide (Z.N[i]? = some x) && (decide (Z.N[j]? = some y) && (lclB Z x && (lclB Z y && (decide (x ≠ y) && (decide (px.line = py.line) &&
      (!(foldedForSure 8 u && foldedForSure 8 v) && (!(constantsAlone 8 u && constantsAlone 8 v) && (chkE a Z u && chkE b Z v))))))))
  | .own i e, Z, .Assign [.Name x _] v _ => tgtB Z i x && chkE e Z v
  | .app i e, Z, .Expr (.Call (.Attribute (.Name x _) m ap) [v] [] cp) _ => varB Z i x && (decide (m = "append") && (decide (ap.endLine = cp.line) && chkE e Z v))
  | .ext i e, Z, .Expr (.Call (.Attribute (.Name x _) m ap) [v] [] cp) _ => varB Z i x && (decide (m = "extend") && (decide (ap.endLine = cp.line) && chkE e Z v))
  | .setI i k e, Z, .Assign [.Subscript (.Name x _) s _] v _ => varB Z i x && (notSlice s && (chkE k Z s && chkE e Z v))
  | .setR o k e, Z, .Assign [.Subscript l s _] v _ => notSlice s && (chkE o Z l && (chkE k Z s && chkE e Z v))
  | .expr e, Z, .Expr v _ => notComp v && chkE e Z v
  | .ifs c a b, Z, .If t x y _ => chkC c Z t && (chkB a Z x && chkB b Z y)
  | .loop t it b, Z, .For tg iter x [] _ => stillI it && (notSet iter && (chkI it Z tg iter && (chkT Z t tg && chkB b Z x)))
  | .whil c b, Z, .While t x [] _ => chkC c Z t && chkB b Z x
  | .ret e, Z, .Return (some v) _ => chkE e Z v
  | .retN, _, .Return none _ => true
  | .retG i a b, Z, .Return (some (.List [.Name x _, .List [u] _, v] _)) _ => varB Z i x && (chkE a Z u && chkE b Z v)
  | .brk, _, .Break _ => true
  | .cnt, _, .Continue _ => true
  | .pass, _, .Pass _ => true
  | .never, _, _ => true
  | _, _, _ => false
def chkB : IB → Zc → List Stmt → Bool
  | .nil, _, [] => true
  | .cons (.frz i) b, Z, ss => chkB b Z ss
  | .cons s b, Z, st :: ss => chkX s Z st && chkB b Z ss
  | _, _, _ => false
end

/-- a def's scope -/
def scChk (N P : List Str) (sc : Scope) : Bool :=
  (match sc.kind with | .function => true | _ => false) && (!sc.isCoroutine && (!sc.isGenerator && (decide N.Nodup && (decide (N.take P.length = P) && ((P.all fun x => match sc.names.lookup x with
    | some .local => true
    | some .cell => true
    | _ => false) && sc.names.all fun y => decide (y.2 ≠ .free))))))
end DP

set_option linter.all false
set_option Elab.async false
/-! DRel: data and the objects that stand for them. By an AI agent. -/
namespace DP
open PySem PySem.Spec PyProof.Rows L2

/-- the tracked heap, what may be written, where the references lead -/
structure Wd where
  H : Hp
  W : Addr → Prop
  ag : List Addr

def TupAt (K : PySem.W.Frag) (w : Wd) (a : Addr) (xs : List V) : Prop := (¬ w.W a ∧ w.H a = some (.tup xs)) ∨ ∀ H : Hp, SqT K H a xs
def LstAt (w : Wd) (a : Addr) (xs : List V) : Prop := ¬ w.W a ∧ w.H a = some (.lst xs)
def FroAt (K : PySem.W.Frag) (w : Wd) (a : Addr) (xs : List V) : Prop := (¬ w.W a ∧ ∃ o, w.H a = some (.frz o (.lst xs))) ∨ ∀ H : Hp, SqL K H a xs

mutual
inductive Rep (K : PySem.W.Frag) (w : Wd) : V → D → Prop where
  | non : Rep K w .non .non
  | bl (b : Bool) : Rep K w (.bl b) (.bl b)
  | int (i : Int) : Rep K w (.int i) (.int i)
  | str (x : Str) : Rep K w (.str x) (.str x)
  | tup {a : Addr} {vs : List V} {ds : List D} (h : TupAt K w a vs) (r : Reps K w vs ds) : Rep K w (.ref a) (.tup ds)
  | lst {a : Addr} {vs : List V} {ds : List D} (h : LstAt w a vs) (r : Reps K w vs ds) : Rep K w (.ref a) (.lst ds)
  | fro {a : Addr} {vs : List V} {ds : List D} (h : FroAt K w a vs) (r : Reps K w vs ds) : Rep K w (.ref a) (.fro ds)
  | ref {n : Nat} {a : Addr} (h : w.ag[n]? = some a) : Rep K w (.ref a) (.ref n)
  | rng {a : Addr} {lo hi : Int} (h : ¬ w.W a) (e : w.H a = some (.rng lo hi)) : Rep K w (.ref a) (.rng lo hi)
inductive Reps (K : PySem.W.Frag) (w : Wd) : List V → List D → Prop where
  | nil : Reps K w [] []
  | cons {v : V} {d : D} {vs : List V} {ds : List D} (h : Rep K w v d) (t : Reps K w vs ds) : Reps K w (v :: vs) (d :: ds)
end

/-- from world to world: what stands still stands -/
structure Mon (w w' : Wd) : Prop where
  keep : ∀ a o, w.H a = some o → ¬ w.W a → w'.H a = some o
  dn : ∀ a, w'.W a → w.W a ∨ w.H a = none
  ag : ∀ (n : Nat) (a : Addr), w.ag[n]? = some a → w'.ag[n]? = some a
/-- .. and but for what references lead to nothing changes -/
structure Ext (w w' : Wd) : Prop where
  keep : ∀ a o, w.H a = some o → a ∉ w.ag → w'.H a = some o
  dn : ∀ a, w'.W a → w.W a ∨ w.H a = none
  up : ∀ a, w.W a → w'.W a
  ag : ∀ (n : Nat) (a : Addr), w.ag[n]? = some a → w'.ag[n]? = some a
  agn : ∀ a, a ∈ w'.ag → a ∈ w.ag ∨ w.H a = none
structure Ok (w : Wd) : Prop where
  agW : ∀ a, a ∈ w.ag → w.W a
  lst : ∀ a, w.W a → ∃ xs, w.H a = some (.lst xs)

section
variable {K : PySem.W.Frag} {w w1 w2 w' : Wd}
theorem Ext.mon (e : Ext w w') (ok : Ok w) : Mon w w' := ⟨fun a o h n => e.keep a o h fun m => n (ok.agW a m), e.dn, e.ag⟩
theorem Mon.refl (w : Wd) : Mon w w := ⟨fun _ _ h _ => h, fun _ h => .inl h, fun _ _ h => h⟩
theorem Ext.refl (w : Wd) : Ext w w := ⟨fun _ _ h _ => h, fun _ h => .inl h, fun _ h => h, fun _ _ h => h, fun _ h => .inl h⟩
theorem Mon.notW (m : Mon w w1) {a : Addr} {o : HO} (h : w.H a = some o) (n : ¬ w.W a) : ¬ w1.W a := fun z => by
  rcases m.dn a z with q | q
  · exact n q
  · rw [h] at q; cases q
theorem Mon.trans (m : Mon w w1) (m' : Mon w1 w2) : Mon w w2 := by
  refine ⟨fun a o h n => m'.keep a o (m.keep a o h n) (m.notW h n), fun a h => ?_, fun n a h => m'.ag n a (m.ag n a h)⟩
  rcases m'.dn a h with q | q
  · exact m.dn a q
  · cases z : w.H a with
    | none => exact .inr rfl
    | some o =>
      by_cases y : w.W a
      · exact .inl y
      · have := m.keep a o z y
        rw [q] at this; cases this
theorem Ext.notAg (e : Ext w w1) {a : Addr} {o : HO} (h : w.H a = some o) (n : a ∉ w.ag) : a ∉ w1.ag := fun z => by
  rcases e.agn a z with q | q
  · exact n q
  · rw [h] at q; cases q
theorem Ext.trans (ok : Ok w) (e : Ext w w1) (e' : Ext w1 w2) : Ext w w2 := by
  have key : ∀ a, w1.H a = none → w.W a ∨ w.H a = none := fun a q => by
    cases z : w.H a with
    | none => exact .inr rfl
    | some o =>
      by_cases y : a ∈ w.ag
      · exact .inl (ok.agW a y)
      · have := e.keep a o z y
        rw [q] at this; cases this
  have key2 : ∀ a, w1.H a = none → a ∈ w.ag ∨ w.H a = none := fun a q => by
    cases z : w.H a with
    | none => exact .inr rfl
    | some o =>
      by_cases y : a ∈ w.ag
      · exact .inl y
      · have := e.keep a o z y
        rw [q] at this; cases this
  refine ⟨fun a o h n => e'.keep a o (e.keep a o h n) (e.notAg h n), fun a h => ?_, fun a h => e'.up a (e.up a h), fun n a h => e'.ag n a (e.ag n a h), fun a h => ?_⟩
  · rcases e'.dn a h with q | q
    · exact e.dn a q
    · exact key a q
  · rcases e'.agn a h with q | q
    · exact e.agn a q
    · exact key2 a q
/-- what is new is new since long -/
theorem Ext.none (ok : Ok w) (ok' : Ok w1) (e : Ext w w1) {a : Addr} (h : w1.H a = none) : w.H a = none := by
  cases z : w.H a with
  | none => rfl
  | some o =>
    by_cases y : a ∈ w.ag
    · obtain ⟨xs, q⟩ := ok'.lst a (e.up a (ok.agW a y))
      rw [h] at q; cases q
    · have := e.keep a o z y
      rw [h] at this; cases this
theorem Ok.notW (ok : Ok w) {a : Addr} (h : w.H a = .none) : ¬ w.W a := fun z => by
  obtain ⟨xs, q⟩ := ok.lst a z
  rw [h] at q; cases q

theorem TupAt.mono (m : Mon w w') {a : Addr} {xs : List V} (h : TupAt K w a xs) : TupAt K w' a xs := by
  rcases h with ⟨n, e⟩ | h
  · exact .inl ⟨m.notW e n, m.keep a _ e n⟩
  · exact .inr h
theorem LstAt.mono (m : Mon w w') {a : Addr} {xs : List V} (h : LstAt w a xs) : LstAt w' a xs := ⟨m.notW h.2 h.1, m.keep a _ h.2 h.1⟩
theorem FroAt.mono (m : Mon w w') {a : Addr} {xs : List V} (h : FroAt K w a xs) : FroAt K w' a xs := by
  rcases h with ⟨n, o, e⟩ | h
  · exact .inl ⟨m.notW e n, o, m.keep a _ e n⟩
  · exact .inr h
mutual
theorem Rep.mono (m : Mon w w') : ∀ {v : V} {d : D}, Rep K w v d → Rep K w' v d
  | _, _, .non => .non
  | _, _, .bl b => .bl b
  | _, _, .int i => .int i
  | _, _, .str x => .str x
  | _, _, .tup h r => .tup (h.mono m) (Reps.mono m r)
  | _, _, .lst h r => .lst (h.mono m) (Reps.mono m r)
  | _, _, .fro h r => .fro (h.mono m) (Reps.mono m r)
  | _, _, .ref h => .ref (m.ag _ _ h)
  | _, _, .rng n e => .rng (m.notW e n) (m.keep _ _ e n)
theorem Reps.mono (m : Mon w w') : ∀ {vs : List V} {ds : List D}, Reps K w vs ds → Reps K w' vs ds
  | _, _, .nil => .nil
  | _, _, .cons h t => .cons (Rep.mono m h) (Reps.mono m t)
end
theorem TupAt.sq {a : Addr} {xs : List V} (h : TupAt K w a xs) : SqT K w.H a xs := by
  rcases h with ⟨_, e⟩ | h
  · exact .inl (.inl e)
  · exact h _
theorem LstAt.sq {a : Addr} {xs : List V} (h : LstAt w a xs) : SqL K w.H a xs := .inl (.inl h.2)
theorem FroAt.sq {a : Addr} {xs : List V} (h : FroAt K w a xs) : SqL K w.H a xs := by
  rcases h with ⟨_, o, e⟩ | h
  · exact .inl (.inr ⟨o, e⟩)
  · exact h _
theorem Reps.length : ∀ {vs : List V} {ds : List D}, Reps K w vs ds → vs.length = ds.length
  | _, _, .nil => rfl
  | _, _, .cons _ t => congrArg (· + 1) (Reps.length t)
theorem Reps.get : ∀ {vs : List V} {ds : List D} {i : Nat} {d : D}, Reps K w vs ds → ds[i]? = some d → ∃ v, vs[i]? = some v ∧ Rep K w v d
  | _, _, _, _, .nil, e => by simp at e
  | _, _, 0, _, .cons h _, e => by simp at e; subst e; exact ⟨_, rfl, h⟩
  | _, _, i + 1, d, .cons _ t, e => by
    obtain ⟨v, h1, h2⟩ := Reps.get (i := i) (d := d) t (by simpa using e)
    exact ⟨v, by simpa using h1, h2⟩
theorem Reps.getV : ∀ {vs : List V} {ds : List D} {i : Nat} {v : V}, Reps K w vs ds → vs[i]? = some v → ∃ d, ds[i]? = some d ∧ Rep K w v d
  | _, _, _, _, .nil, e => by simp at e
  | _, _, 0, _, .cons h _, e => by simp at e; subst e; exact ⟨_, rfl, h⟩
  | _, _, i + 1, v, .cons _ t, e => by
    obtain ⟨d, h1, h2⟩ := Reps.getV (i := i) (v := v) t (by simpa using e)
    exact ⟨d, by simpa using h1, h2⟩
theorem Reps.append : ∀ {vs vs' : List V} {ds ds' : List D}, Reps K w vs ds → Reps K w vs' ds' → Reps K w (vs ++ vs') (ds ++ ds')
  | _, _, _, _, .nil, s => s
  | _, _, _, _, .cons h t, s => .cons h (Reps.append t s)
theorem Reps.take : ∀ {vs : List V} {ds : List D} (n : Nat), Reps K w vs ds → Reps K w (vs.take n) (ds.take n)
  | _, _, 0, _ => .nil
  | _, _, _ + 1, .nil => .nil
  | _, _, n + 1, .cons h t => .cons h (Reps.take n t)
theorem Reps.drop : ∀ {vs : List V} {ds : List D} (n : Nat), Reps K w vs ds → Reps K w (vs.drop n) (ds.drop n)
  | _, _, 0, r => r
  | _, _, _ + 1, .nil => .nil
  | _, _, n + 1, .cons _ t => Reps.drop n t
theorem Reps.set {v : V} {d : D} (h : Rep K w v d) : ∀ {vs : List V} {ds : List D} (i : Nat), Reps K w vs ds → Reps K w (vs.set i v) (ds.set i d)
  | _, _, _, .nil => .nil
  | _, _, 0, .cons _ t => .cons h t
  | _, _, i + 1, .cons q t => .cons q (Reps.set h i t)
end

/-! ### slots, references -/
def SlR (K : PySem.W.Frag) (w : Wd) : Sl → Option V → Prop
  | .un, _ => True
  | .val d, o => ∃ v, o = some v ∧ Rep K w v d
  | .own ms, o => ∃ a vs, o = some (.ref a) ∧ w.H a = some (.lst vs) ∧ w.W a ∧ a ∉ w.ag ∧ Reps K w vs ms
structure EnR (K : PySem.W.Frag) (E : En) (σ : L2.St) (w : Wd) : Prop where
  len : σ.length = E.length
  at_ : ∀ (i : Nat) (sl : Sl) (o : Option V), E[i]? = some sl → σ[i]? = some o → SlR K w sl o
  sep : ∀ (i j : Nat) (ms ms' : List D) (a : Addr), i ≠ j → E[i]? = some (.own ms) → E[j]? = some (.own ms') → σ[i]? = some (some (.ref a)) → σ[j]? ≠ some (some (.ref a))
structure GR (K : PySem.W.Frag) (g : Gs) (w : Wd) : Prop where
  len : w.ag.length = g.length
  nd : w.ag.Nodup
  at_ : ∀ (n : Nat) (a : Addr) (ms : List D), w.ag[n]? = some a → g[n]? = some ms → ∃ vs, w.H a = some (.lst vs) ∧ Reps K w vs ms
structure RR (K : PySem.W.Frag) (E : En) (g : Gs) (σ : L2.St) (w : Wd) : Prop where
  ok : Ok w
  en : EnR K E σ w
  g : GR K g w

section
variable {K : PySem.W.Frag} {w w1 w2 w' : Wd} {E : En} {g g' : Gs} {σ : L2.St}
theorem SlR.ext (ok : Ok w) (e : Ext w w') {sl : Sl} {o : Option V} (h : SlR K w sl o) : SlR K w' sl o := by
  cases sl with
  | un => trivial
  | val d => obtain ⟨v, rfl, r⟩ := h; exact ⟨v, rfl, r.mono (e.mon ok)⟩
  | own ms =>
    obtain ⟨a, vs, rfl, h1, h2, h3, r⟩ := h
    exact ⟨a, vs, rfl, e.keep a _ h1 h3, e.up a h2, e.notAg h1 h3, r.mono (e.mon ok)⟩
theorem EnR.ext (ok : Ok w) (e : Ext w w') (h : EnR K E σ w) : EnR K E σ w' := ⟨h.len, fun i sl o h1 h2 => (h.at_ i sl o h1 h2).ext ok e, h.sep⟩
theorem EnR.slot (h : EnR K E σ w) {i : Nat} {d : D} (e : E[i]? = some (.val d)) : ∃ v, σ[i]? = some (some v) ∧ Rep K w v d := by
  have hi : i < E.length := (List.getElem?_eq_some_iff.mp e).1
  have hσ : i < σ.length := by rw [h.len]; exact hi
  obtain ⟨v, q, r⟩ := h.at_ i _ _ e (List.getElem?_eq_getElem hσ)
  exact ⟨v, by rw [List.getElem?_eq_getElem hσ, q], r⟩
theorem EnR.owned (h : EnR K E σ w) {i : Nat} {ms : List D} (e : E[i]? = some (.own ms)) : ∃ a vs, σ[i]? = some (some (.ref a)) ∧ w.H a = some (.lst vs) ∧ w.W a ∧ a ∉ w.ag ∧ Reps K w vs ms := by
  have hi : i < E.length := (List.getElem?_eq_some_iff.mp e).1
  have hσ : i < σ.length := by rw [h.len]; exact hi
  obtain ⟨a, vs, q, r⟩ := h.at_ i _ _ e (List.getElem?_eq_getElem hσ)
  exact ⟨a, vs, by rw [List.getElem?_eq_getElem hσ, q], r⟩
/-- a slot is set to what stands still -/
theorem EnR.set (h : EnR K E σ w) {v : V} {d : D} (i : Nat) (r : Rep K w v d) : EnR K (E.set i (.val d)) (σ.set i (some v)) w := by
  refine ⟨by simp [h.len], fun j sl o h1 h2 => ?_, fun j k ms ms' a hjk h1 h2 h3 => ?_⟩
  · by_cases z : i = j
    · subst z
      have l1 := (List.getElem?_eq_some_iff.mp h1).1
      rw [List.length_set] at l1
      rw [List.getElem?_set_self l1] at h1
      rw [List.getElem?_set_self (by rw [h.len]; exact l1)] at h2
      cases h1; cases h2
      exact ⟨v, rfl, r⟩
    · rw [List.getElem?_set_ne z] at h1 h2
      exact h.at_ j sl o h1 h2
  · have nj : i ≠ j := fun z => by
      subst z
      have l1 := (List.getElem?_eq_some_iff.mp h1).1
      rw [List.length_set] at l1
      rw [List.getElem?_set_self l1] at h1
      cases h1
    have nk : i ≠ k := fun z => by
      subst z
      have l1 := (List.getElem?_eq_some_iff.mp h2).1
      rw [List.length_set] at l1
      rw [List.getElem?_set_self l1] at h2
      cases h2
    rw [List.getElem?_set_ne nj] at h1 h3
    rw [List.getElem?_set_ne nk] at h2 ⊢
    exact h.sep j k ms ms' a hjk h1 h2 h3
theorem EnR.wipe (h : EnR K E σ w) : ∀ vs : List Nat, EnR K (wipeE E vs) (L2.wipe σ vs) w
  | [] => h
  | v :: vs => by
    have ih := EnR.wipe h vs
    refine ⟨by simp [wipeE, L2.wipe, ih.len], fun j sl o h1 h2 => ?_, fun j k ms ms' a hjk h1 h2 h3 => ?_⟩
    · unfold wipeE at h1
      unfold L2.wipe at h2
      by_cases z : v = j
      · subst z
        have l1 := (List.getElem?_eq_some_iff.mp h1).1
        rw [List.length_set] at l1
        rw [List.getElem?_set_self l1] at h1
        cases h1
        trivial
      · rw [List.getElem?_set_ne z] at h1 h2
        exact ih.at_ j sl o h1 h2
    · unfold wipeE at h1 h2
      unfold L2.wipe at h3 ⊢
      have nj : v ≠ j := fun z => by
        subst z
        have l1 := (List.getElem?_eq_some_iff.mp h1).1
        rw [List.length_set] at l1
        rw [List.getElem?_set_self l1] at h1
        cases h1
      have nk : v ≠ k := fun z => by
        subst z
        have l1 := (List.getElem?_eq_some_iff.mp h2).1
        rw [List.length_set] at l1
        rw [List.getElem?_set_self l1] at h2
        cases h2
      rw [List.getElem?_set_ne nj] at h1 h3
      rw [List.getElem?_set_ne nk] at h2 ⊢
      exact ih.sep j k ms ms' a hjk h1 h2 h3
theorem RR.of (R : RR K E g σ w) (ok : Ok w') (e : Ext w w') (G : GR K g' w') : RR K E g' σ w' := ⟨ok, R.en.ext R.ok e, G⟩

/-! ### a new object -/
def Wd.new (w : Wd) (p : Addr) (o : HO) : Wd := ⟨upd w.H p o, w.W, w.ag⟩
theorem Ext.new (ok : Ok w) {p : Addr} {o : HO} (h : w.H p = Option.none) : Ext w (w.new p o) :=
  ⟨fun a u q _ => by
    show upd w.H p o a = some u
    rw [upd_ne (ne_of_none q h)]; exact q, fun _ z => .inl z, fun _ z => z, fun _ _ z => z, fun _ z => .inl z⟩
theorem Ok.new (ok : Ok w) {p : Addr} {o : HO} (h : w.H p = .none) : Ok (w.new p o) := ⟨ok.agW, fun a z => by
  obtain ⟨xs, q⟩ := ok.lst a z
  exact ⟨xs, by show upd w.H p o a = _; rw [upd_ne (ne_of_none q h)]; exact q⟩⟩
theorem GR.mono (G : GR K g w) (ok : Ok w) (e : Ext w w') (h1 : w'.ag = w.ag) (h2 : ∀ a, a ∈ w.ag → w'.H a = w.H a) : GR K g w' := by
  refine ⟨by rw [h1]; exact G.len, by rw [h1]; exact G.nd, fun n a ms q1 q2 => ?_⟩
  rw [h1] at q1
  obtain ⟨vs, x, r⟩ := G.at_ n a ms q1 q2
  exact ⟨vs, by rw [h2 a (List.mem_of_getElem? q1)]; exact x, r.mono (e.mon ok)⟩
theorem RR.new (R : RR K E g σ w) {p : Addr} {o : HO} (h : w.H p = none) : RR K E g σ (w.new p o) :=
  R.of (R.ok.new h) (Ext.new R.ok h) (R.g.mono R.ok (Ext.new R.ok h) rfl fun a m => by
    obtain ⟨xs, q⟩ := R.ok.lst a (R.ok.agW a m)
    show upd w.H p o a = w.H a
    rw [upd_ne (ne_of_none q h)])
end

section
variable {K : PySem.W.Frag} {w w1 w2 w' : Wd} {E : En} {g g' : Gs} {σ : L2.St}
/-- a new list that may be written -/
def Wd.newO (w : Wd) (p : Addr) (vs : List V) : Wd := ⟨upd w.H p (.lst vs), fun b => w.W b ∨ b = p, w.ag⟩
theorem Ext.newO {p : Addr} {vs : List V} (h : w.H p = Option.none) : Ext w (w.newO p vs) :=
  ⟨fun a u q _ => by
    show upd w.H p _ a = some u
    rw [upd_ne (ne_of_none q h)]; exact q, fun a z => by
    rcases z with z | z
    · exact .inl z
    · subst z; exact .inr h, fun _ z => .inl z, fun _ _ z => z, fun _ z => .inl z⟩
theorem RR.newO (R : RR K E g σ w) {p : Addr} {vs : List V} (h : w.H p = Option.none) : RR K E g σ (w.newO p vs) ∧ p ∉ (w.newO p vs).ag := by
  have nW : ∀ a, w.W a → a ≠ p := fun a z y => by
    subst y
    obtain ⟨xs, q⟩ := R.ok.lst a z
    rw [h] at q; cases q
  refine ⟨R.of ⟨fun a z => .inl (R.ok.agW a z), fun a z => ?_⟩ (Ext.newO h) (R.g.mono R.ok (Ext.newO h) rfl fun a m => ?_), fun z => nW p (R.ok.agW p z) rfl⟩
  · rcases z with z | z
    · obtain ⟨xs, q⟩ := R.ok.lst a z
      exact ⟨xs, by show upd w.H p _ a = _; rw [upd_ne (nW a z)]; exact q⟩
    · subst z; exact ⟨vs, upd_same⟩
  · show upd w.H p _ a = w.H a
    rw [upd_ne (nW a (R.ok.agW a m))]
end

/-! ### looked at: what stands still, or a list that is held -/
def Vw (K : PySem.W.Frag) (w : Wd) (v : V) (d : D) : Prop := Rep K w v d ∨ ∃ a vs ms, v = .ref a ∧ d = .lst ms ∧ w.H a = some (.lst vs) ∧ w.W a ∧ a ∉ w.ag ∧ Reps K w vs ms
theorem Vw.ext {K : PySem.W.Frag} {w w' : Wd} (ok : Ok w) (e : Ext w w') {v : V} {d : D} (h : Vw K w v d) : Vw K w' v d := by
  rcases h with h | ⟨a, vs, ms, h1, h2, h3, h4, h5, r⟩
  · exact .inl (h.mono (e.mon ok))
  · exact .inr ⟨a, vs, ms, h1, h2, e.keep a _ h3 h5, e.up a h4, e.notAg h3 h5, r.mono (e.mon ok)⟩
/-- the items of what is looked at -/
theorem Vw.items {K : PySem.W.Frag} {w : Wd} {g : Gs} {v : V} {d : D} {xs : List D} (G : GR K g w) (h : Vw K w v d) (e : items g d = some xs) : ∃ a vs, v = .ref a ∧ (SqL K w.H a vs ∨ SqT K w.H a vs) ∧ Reps K w vs xs := by
  rcases h with h | ⟨a, vs, ms, h1, h2, h3, h4, h5, r⟩
  · cases h with
    | tup h r => cases e; exact ⟨_, _, rfl, .inr h.sq, r⟩
    | lst h r => cases e; exact ⟨_, _, rfl, .inl h.sq, r⟩
    | fro h r => cases e; exact ⟨_, _, rfl, .inl h.sq, r⟩
    | @ref n a h =>
      have e' : g[n]? = some xs := e
      obtain ⟨vs, q, r⟩ := G.at_ n a xs h e'
      exact ⟨a, vs, rfl, .inl (.inl (.inl q)), r⟩
    | _ => cases e
  · subst h1; subst h2
    cases e
    exact ⟨a, vs, rfl, .inl (.inl (.inl h3)), r⟩
/-- a list that is looked at -/
theorem Vw.lst {K : PySem.W.Frag} {w : Wd} {v : V} {xs : List D} (h : Vw K w v (.lst xs)) : ∃ a vs, v = .ref a ∧ w.H a = some (.lst vs) ∧ Reps K w vs xs := by
  rcases h with h | ⟨a, vs, ms, h1, h2, h3, h4, h5, r⟩
  · cases h with
    | lst h r => exact ⟨_, _, rfl, h.2, r⟩
  · subst h1; cases h2
    exact ⟨a, vs, rfl, h3, r⟩
theorem Vw.tup {K : PySem.W.Frag} {w : Wd} {v : V} {xs : List D} (h : Vw K w v (.tup xs)) : ∃ a vs, v = .ref a ∧ TupAt K w a vs ∧ Reps K w vs xs := by
  rcases h with h | ⟨a, vs, ms, h1, h2, h3, h4, h5, r⟩
  · cases h with
    | tup h r => exact ⟨_, _, rfl, h, r⟩
  · cases h2

theorem toPy_tup {ds : List D} {p : PyData} (e : toPy (.tup ds) = some p) : ∃ ps, toPys ds = some ps ∧ p = .tuple ps := by
  rw [toPy] at e
  cases q : toPys ds with
  | none => rw [q] at e; cases e
  | some ps => rw [q] at e; cases e; exact ⟨ps, rfl, rfl⟩
theorem toPy_lst {ds : List D} {p : PyData} (e : toPy (.lst ds) = some p) : ∃ ps, toPys ds = some ps ∧ p = .list ps := by
  rw [toPy] at e
  cases q : toPys ds with
  | none => rw [q] at e; cases e
  | some ps => rw [q] at e; cases e; exact ⟨ps, rfl, rfl⟩
theorem toPys_cons {d : D} {ds : List D} {ps : List PyData} (e : toPys (d :: ds) = some ps) : ∃ a as, toPy d = some a ∧ toPys ds = some as ∧ ps = a :: as := by
  rw [toPys] at e
  cases q : toPy d with
  | none => rw [q] at e; cases e
  | some a =>
    cases q2 : toPys ds with
    | none => rw [q, q2] at e; cases e
    | some as => rw [q, q2] at e; cases e; exact ⟨a, as, rfl, rfl, rfl⟩
mutual
theorem Rep.dp {K : PySem.W.Frag} {w : Wd} {v : V} {d : D} (h : Rep K w v d) (p : PyData) (e : toPy d = some p) : Dp K w.H v p := by
  cases h with
  | non => rw [toPy] at e; cases e; exact .non
  | bl b => rw [toPy] at e; cases e; exact .bl b
  | int i => rw [toPy] at e; cases e; exact .int i
  | str x => rw [toPy] at e; cases e; exact .str x
  | tup h r =>
    obtain ⟨ps, q, rfl⟩ := toPy_tup e
    exact .tup h.sq (Reps.dp r ps q)
  | lst h r =>
    obtain ⟨ps, q, rfl⟩ := toPy_lst e
    exact .lst h.sq (Reps.dp r ps q)
  | fro h r => rw [toPy] at e; cases e
  | ref h => rw [toPy] at e; cases e
  | rng n h => rw [toPy] at e; cases e
theorem Reps.dp {K : PySem.W.Frag} {w : Wd} {vs : List V} {ds : List D} (h : Reps K w vs ds) (ps : List PyData) (e : toPys ds = some ps) : DpAll K w.H vs ps := by
  cases h with
  | nil => rw [toPys] at e; cases e; exact .nil
  | cons h t =>
    obtain ⟨a, as, q1, q2, rfl⟩ := toPys_cons e
    exact .cons (Rep.dp h a q1) (Reps.dp t as q2)
end
theorem Vw.dp {K : PySem.W.Frag} {w : Wd} {v : V} {d : D} {p : PyData} (h : Vw K w v d) (e : toPy d = some p) : Dp K w.H v p := by
  rcases h with h | ⟨a, vs, ms, h1, h2, h3, h4, h5, r⟩
  · exact h.dp p e
  · subst h1; subst h2
    obtain ⟨ps, q, rfl⟩ := toPy_lst e
    exact .lst (.inl (.inl h3)) (r.dp ps q)
end DP

set_option linter.all false
set_option Elab.async false
/-! DOps: the operations on data are those of the objects. By an AI agent. -/
namespace DP
open PySem PySem.Spec PyProof.Rows L2

theorem lineB_le : lineB = sizeLine := by rw [sizeLine_eq]; rfl

/-- the same world, or one new object -/
def New (w w' : Wd) : Prop := w' = w ∨ ∃ p o, w.H p = none ∧ w' = w.new p o
theorem New.ext {w w' : Wd} (n : New w w') (ok : Ok w) : Ext w w' ∧ Ok w' := by
  rcases n with rfl | ⟨p, o, h, rfl⟩
  · exact ⟨Ext.refl _, ok⟩
  · exact ⟨Ext.new ok h, ok.new h⟩
theorem New.rr {K : PySem.W.Frag} {E : En} {g : Gs} {σ : L2.St} {w w' : Wd} (n : New w w') (R : RR K E g σ w) : RR K E g σ w' := by
  rcases n with rfl | ⟨p, o, h, rfl⟩
  · exact R
  · exact R.new h
/-- a new tuple, a new list -/
theorem rep_newT {K : PySem.W.Frag} {w : Wd} (ok : Ok w) {p : Addr} {vs : List V} {ds : List D} (h : w.H p = none) (r : Reps K w vs ds) : Rep K (w.new p (.tup vs)) (.ref p) (.tup ds) :=
  .tup (.inl ⟨ok.notW h, upd_same⟩) (r.mono ((Ext.new ok h).mon ok))
theorem rep_newL {K : PySem.W.Frag} {w : Wd} (ok : Ok w) {p : Addr} {vs : List V} {ds : List D} (h : w.H p = none) (r : Reps K w vs ds) : Rep K (w.new p (.lst vs)) (.ref p) (.lst ds) :=
  .lst ⟨ok.notW h, upd_same⟩ (r.mono ((Ext.new ok h).mon ok))
theorem rep_newR {K : PySem.W.Frag} {w : Wd} (ok : Ok w) {p : Addr} {lo hi : Int} (h : w.H p = none) : Rep K (w.new p (.rng lo hi)) (.ref p) (.rng lo hi) := .rng (ok.notW h) upd_same

/-- what an operation is to reach -/
abbrev Then (K : PySem.W.Frag) (w : Wd) (d : D) (Q : VK) : Prop := ∀ v w', New w w' → Rep K w' v d → Q v w'.H
def rO2 (K : PySem.W.Frag) (o : Op2) : R2 := fun x y H Q => ∃ (w : Wd) (dx dy dz : D), w.H = H ∧ Ok w ∧ Rep K w x dx ∧ Rep K w y dy ∧ op2 o dx dy = some dz ∧ Then K w dz Q

section
variable {X : Cx}
theorem op2_ok (o : Op2) : OpR X (binaryOp (opOf o)) (rO2 X.K o) := by
  intro pins s σ H x y v u Q I rx ry h
  obtain ⟨w, dx, dy, dz, rfl, ok, hx, hy, e, k⟩ := h
  have nums : ∀ i j, dx = .int i → dy = .int j → wpAny (model X.prog X.w) X.A (binaryOp (opOf o) v u) (EP X pins σ Q) X.xe s := by
    intro i j e1 e2
    subst e1; subst e2
    have x1 : x = V.int i := by cases hx; rfl
    have y1 : y = V.int j := by cases hy; rfl
    subst x1; subst y1
    have e3 : (opI o i j).map D.int = some dz := by
      rw [← e]; unfold op2; cases o <;> rfl
    cases o with
    | add => cases e3; exact op_add pins s σ _ _ _ v u Q I rx ry ⟨i, j, rfl, rfl, k _ w (.inl rfl) (.int _)⟩
    | sub => cases e3; exact op_sub pins s σ _ _ _ v u Q I rx ry ⟨i, j, rfl, rfl, k _ w (.inl rfl) (.int _)⟩
    | mul =>
      by_cases hc : i.natAbs.log2 + j.natAbs.log2 < 1000000
      · rw [show opI .mul i j = some (i * j) from if_pos hc] at e3
        cases e3
        exact op_mulW pins s σ _ _ _ v u Q I rx ry ⟨i, j, rfl, rfl, hc, k _ w (.inl rfl) (.int _)⟩
      · rw [show opI .mul i j = none from if_neg hc] at e3; cases e3
    | fdiv =>
      by_cases hc : 0 < j ∧ j.natAbs.log2 < 9000
      · rw [show opI .fdiv i j = some (i / j) from if_pos hc] at e3
        cases e3
        exact op_fdivW pins s σ _ _ _ v u Q I rx ry ⟨i, j, rfl, rfl, hc, k _ w (.inl rfl) (.int _)⟩
      · rw [show opI .fdiv i j = none from if_neg hc] at e3; cases e3
    | mod =>
      by_cases hc : 0 < j
      · rw [show opI .mod i j = some (i % j) from if_pos hc] at e3
        cases e3
        exact op_mod pins s σ _ _ _ v u Q I rx ry ⟨i, j, rfl, rfl, hc, k _ w (.inl rfl) (.int _)⟩
      · rw [show opI .mod i j = none from if_neg hc] at e3; cases e3
    | pow =>
      by_cases hc : 0 ≤ j ∧ j ≤ 1000000 ∧ i.natAbs < 2 ^ 64
      · rw [show opI .pow i j = some (i ^ j.toNat) from if_pos hc] at e3
        cases e3
        exact op_pow pins s σ _ _ _ v u Q I rx ry ⟨i, j, rfl, rfl, hc, k _ w (.inl rfl) (.int _)⟩
      · rw [show opI .pow i j = none from if_neg hc] at e3; cases e3
  cases dx with
  | int i =>
    cases dy with
    | int j => exact nums i j rfl rfl
    | _ => cases o <;> cases e
  | lst xs =>
    cases dy with
    | lst ys =>
      cases o with
      | add =>
        have e' : (if xs.length + ys.length ≤ lineB then some (D.lst (xs ++ ys)) else none) = some dz := e
        split at e'
        · rename_i hl
          cases e'
          cases hx with
          | lst h1 r1 =>
            cases hy with
            | lst h2 r2 =>
              refine op_cat pins s σ _ _ _ v u Q I rx ry ⟨_, _, _, _, rfl, rfl, h1.2, h2.2, ?_, fun p hp => ?_⟩
              · rw [r1.length, r2.length, ← lineB_le]; exact hl
              · exact k _ (w.new p _) (.inr ⟨p, _, hp, rfl⟩) (rep_newL ok hp (r1.append r2))
        · cases e'
      | _ => cases e
    | _ => cases o <;> cases e
  | tup xs =>
    cases dy with
    | tup ys =>
      cases o with
      | add =>
        have e' : (if xs.length + ys.length ≤ lineB then some (D.tup (xs ++ ys)) else none) = some dz := e
        split at e'
        · rename_i hl
          cases e'
          cases hx with
          | tup h1 r1 =>
            cases hy with
            | tup h2 r2 =>
              refine op_catA pins s σ _ _ _ v u Q I rx ry ⟨_, _, _, _, rfl, rfl, h1.sq, h2.sq, ?_, fun z => ?_, fun _ z => ?_, fun _ _ p hp => ?_⟩
              · rw [r1.length, r2.length, ← lineB_le]; exact hl
              · subst z
                cases r1
                exact k _ w (.inl rfl) (.tup h2 r2)
              · subst z
                cases r2
                rw [List.append_nil] at k
                exact k _ w (.inl rfl) (.tup h1 r1)
              · exact k _ (w.new p _) (.inr ⟨p, _, hp, rfl⟩) (rep_newT ok hp (r1.append r2))
        · cases e'
      | _ => cases e
    | _ => cases o <;> cases e
  | _ => cases o <;> cases e

/-! ### comparisons -/
def rC2 (K : PySem.W.Frag) (c : Cp) : R2 := fun x y H Q => ∃ (w : Wd) (dx dy : D) (b : Bool), w.H = H ∧ Vw K w x dx ∧ Vw K w y dy ∧ cmpD c dx dy = some b ∧ Q (.bl b) H
theorem Vw.int {K : PySem.W.Frag} {w : Wd} {v : V} {i : Int} (h : Vw K w v (.int i)) : v = .int i := by
  rcases h with h | ⟨_, _, _, _, e, _⟩
  · cases h; rfl
  · cases e
theorem eqD_of {a b : D} {k : Bool} (h : eqD a b = some k) : ∃ x y, toPy a = some x ∧ toPy b = some y ∧ SeqAt.shaped x = true ∧ SeqAt.shaped y = true ∧ k = PyData.eqv x y := by
  unfold eqD at h
  cases e1 : toPy a with
  | none => rw [e1] at h; cases h
  | some x =>
    cases e2 : toPy b with
    | none => rw [e1, e2] at h; cases h
    | some y =>
      rw [e1, e2] at h
      simp only at h
      split at h
      · rename_i hc
        cases h
        obtain ⟨h1, h2⟩ := Bool.and_eq_true_iff.mp hc
        exact ⟨x, y, rfl, rfl, h1, h2, rfl⟩
      · cases h
theorem inD_of {a b : D} {k : Bool} (h : inD a b = some k) : ∃ ys x zs, b = .lst ys ∧ toPy a = some x ∧ toPys ys = some zs ∧ SeqAt.shaped x = true ∧ SeqAt.shaped (.list zs) = true ∧ k = zs.any fun z => PyData.eqv z x := by
  unfold inD at h
  cases b with
  | lst ys =>
    simp only at h
    cases e1 : toPy a with
    | none => rw [e1] at h; cases h
    | some x =>
      cases e2 : toPys ys with
      | none => rw [e1, e2] at h; cases h
      | some zs =>
        rw [e1, e2] at h
        simp only at h
        split at h
        · rename_i hc
          cases h
          obtain ⟨h1, h2⟩ := Bool.and_eq_true_iff.mp hc
          exact ⟨ys, x, zs, rfl, rfl, e2, h1, h2, rfl⟩
        · cases h
  | _ => cases h
theorem toPy_of_lst {ys : List D} {zs : List PyData} (h : toPys ys = some zs) : toPy (.lst ys) = some (.list zs) := by
  rw [toPy, h]; rfl
theorem map_not {o : Option Bool} {b : Bool} (h : o.map (!·) = some b) : o = some (!b) := by
  cases o with
  | none => cases h
  | some c =>
    have e : (!c) = b := by simpa using h
    rw [← e, Bool.not_not]
theorem cmp_ok (hu : X.A.units + 65 < cLine) (c : Cp) : OpR X (compareOp (cpOf c)) (rC2 X.K c) := by
  intro pins s σ H x y v u Q I rx ry h
  obtain ⟨w, dx, dy, b, rfl, hx, hy, e, q⟩ := h
  cases c with
  | lt =>
    cases dx <;> cases dy <;> first
      | (cases e; cases hx.int; cases hy.int; exact op_lt pins s σ _ _ _ v u Q I rx ry ⟨_, _, rfl, rfl, q⟩)
      | cases e
  | le =>
    cases dx <;> cases dy <;> first
      | (cases e; cases hx.int; cases hy.int; exact op_le pins s σ _ _ _ v u Q I rx ry ⟨_, _, rfl, rfl, q⟩)
      | cases e
  | gt =>
    cases dx <;> cases dy <;> first
      | (cases e; cases hx.int; cases hy.int; exact op_gt pins s σ _ _ _ v u Q I rx ry ⟨_, _, rfl, rfl, q⟩)
      | cases e
  | ge =>
    cases dx <;> cases dy <;> first
      | (cases e; cases hx.int; cases hy.int; exact op_ge pins s σ _ _ _ v u Q I rx ry ⟨_, _, rfl, rfl, q⟩)
      | cases e
  | eq =>
    have e' : eqD dx dy = some b := by rw [← e]; cases dx <;> cases dy <;> rfl
    obtain ⟨p1, p2, t1, t2, s1, s2, rfl⟩ := eqD_of e'
    exact op_eqD (by omega) pins s σ _ _ _ v u Q I rx ry ⟨p1, p2, hx.dp t1, hy.dp t2, s1, s2, q⟩
  | ne =>
    have e' : (eqD dx dy).map (!·) = some b := by rw [← e]; cases dx <;> cases dy <;> rfl
    obtain ⟨p1, p2, t1, t2, s1, s2, eb⟩ := eqD_of (map_not e')
    have eb' : b = !PyData.eqv p1 p2 := by rw [← eb, Bool.not_not]
    subst eb'
    exact op_neD (by omega) pins s σ _ _ _ v u Q I rx ry ⟨p1, p2, hx.dp t1, hy.dp t2, s1, s2, q⟩
  | inn =>
    have e' : inD dx dy = some b := by rw [← e]; cases dx <;> cases dy <;> rfl
    obtain ⟨ys, p1, zs, rfl, t1, t2, s1, s2, rfl⟩ := inD_of e'
    exact op_inD hu pins s σ _ _ _ v u Q I rx ry ⟨p1, zs, hx.dp t1, hy.dp (toPy_of_lst t2), s1, s2, q⟩
  | nin =>
    have e' : (inD dx dy).map (!·) = some b := by rw [← e]; cases dx <;> cases dy <;> rfl
    obtain ⟨ys, p1, zs, rfl, t1, t2, s1, s2, eb⟩ := inD_of (map_not e')
    have eb' : b = !(zs.any fun z => PyData.eqv z p1) := by rw [← eb, Bool.not_not]
    subst eb'
    exact op_notInD hu pins s σ _ _ _ v u Q I rx ry ⟨p1, zs, hx.dp t1, hy.dp (toPy_of_lst t2), s1, s2, q⟩

/-! ### truth, places -/
theorem tru_rep {K : PySem.W.Frag} {w : Wd} {v : V} {d : D} {b : Bool} (h : Rep K w v d) (e : tru d = some b) : TruV K v w.H b := by
  cases h with
  | non => cases e; rfl
  | bl b => cases e; rfl
  | int i => cases e; rfl
  | str x => cases e
  | tup h r =>
    cases e
    refine .inr (.inl ⟨_, h.sq, ?_⟩)
    cases r <;> rfl
  | lst h r =>
    cases e
    refine .inl ⟨_, h.sq, ?_⟩
    cases r <;> rfl
  | fro h r => cases e
  | ref h => cases e
  | rng n h => cases e
theorem ixN_eq (n : Nat) (i : Int) : ixN n i = L2.ixN n i := rfl
theorem atI_rep {K : PySem.W.Frag} {w : Wd} {vs : List V} {ds : List D} {i : Int} {d : D} (r : Reps K w vs ds) (e : atI ds i = some d) : ∃ v, L2.atI vs i = some v ∧ Rep K w v d := by
  unfold atI at e
  split at e
  · rename_i j q
    obtain ⟨v, h1, h2⟩ := r.get e
    refine ⟨v, ?_, h2⟩
    unfold L2.atI
    rw [r.length, ← ixN_eq, q]
    exact h1
  · cases e
theorem sIx_eq (n d : Nat) (i : Int) : HT.sIx n d (some i) = sIx n i := by
  unfold HT.sIx sIx
  by_cases h : i < 0
  · simp only [h, if_true] <;> omega
  · simp only [h, if_false] <;> omega
theorem cLo_eq (n : Nat) (o : Option Int) : HT.sIx n 0 o = cLo n o := by
  cases o with
  | none => rfl
  | some i => exact sIx_eq n 0 i
theorem cHi_eq (n : Nat) (o : Option Int) : HT.sIx n n o = cHi n o := by
  cases o with
  | none => rfl
  | some i => exact sIx_eq n n i
theorem cut_rep {K : PySem.W.Frag} {w : Wd} {vs : List V} {ds : List D} (r : Reps K w vs ds) (lo hi : Option Int) : Reps K w (cutV vs lo hi) (cut ds lo hi) := by
  unfold cutV cut
  rw [cLo_eq, cHi_eq, r.length]
  exact (r.drop _).take _
/-- a whole tuple cut is the tuple -/
theorem cut_whole {K : PySem.W.Frag} {w : Wd} {vs : List V} {ds : List D} (r : Reps K w vs ds) {lo hi : Option Int} (h : HT.sIx vs.length 0 lo = 0 ∧ HT.sIx vs.length vs.length hi = vs.length) : cut ds lo hi = ds := by
  obtain ⟨h1, h2⟩ := h
  rw [cLo_eq, r.length] at h1
  rw [cHi_eq, r.length] at h2
  unfold cut
  rw [h1, h2]
  simp
theorem ints_rep {K : PySem.W.Frag} {w : Wd} : ∀ {vs : List V} {ds : List D} {ns : List Int}, Reps K w vs ds → intsOf ds = some ns → vs = ns.map V.int
  | _, _, _, .nil, e => by cases e; rfl
  | _, _, _, .cons h t, e => by
    rename_i v d vs ds
    cases h with
    | int i =>
      unfold intsOf at e
      cases q : intsOf ds with
      | none => rw [q] at e; cases e
      | some ms =>
        rw [q] at e
        cases e
        rw [ints_rep t q]; rfl
    | _ => cases e
theorem foldl_max : ∀ (r : List Int) (x : Int), (r.foldl max x = x ∨ r.foldl max x ∈ r) ∧ x ≤ r.foldl max x ∧ ∀ y ∈ r, y ≤ r.foldl max x
  | [], x => ⟨.inl rfl, Int.le_refl _, fun y h => by cases h⟩
  | z :: r, x => by
    obtain ⟨h1, h2, h3⟩ := foldl_max r (max x z)
    rw [List.foldl_cons]
    refine ⟨?_, by omega, fun y hy => ?_⟩
    · rcases h1 with h1 | h1
      · by_cases hz : x ≤ z
        · right; rw [h1]; have : max x z = z := by omega
          rw [this]; exact List.mem_cons_self
        · left; rw [h1]; omega
      · exact .inr (List.mem_cons_of_mem _ h1)
    · rcases List.mem_cons.mp hy with rfl | hy
      · omega
      · exact h3 y hy
theorem foldl_min : ∀ (r : List Int) (x : Int), (r.foldl min x = x ∨ r.foldl min x ∈ r) ∧ r.foldl min x ≤ x ∧ ∀ y ∈ r, r.foldl min x ≤ y
  | [], x => ⟨.inl rfl, Int.le_refl _, fun y h => by cases h⟩
  | z :: r, x => by
    obtain ⟨h1, h2, h3⟩ := foldl_min r (min x z)
    rw [List.foldl_cons]
    refine ⟨?_, by omega, fun y hy => ?_⟩
    · rcases h1 with h1 | h1
      · by_cases hz : x ≤ z
        · left; rw [h1]; omega
        · right; rw [h1]; have : min x z = z := by omega
          rw [this]; exact List.mem_cons_self
      · exact .inr (List.mem_cons_of_mem _ h1)
    · rcases List.mem_cons.mp hy with rfl | hy
      · omega
      · exact h3 y hy
theorem maxI_is {ns : List Int} {k m : Int} (e : maxI ns = some k) (h1 : m ∈ ns) (h2 : ∀ y, y ∈ ns → y ≤ m) : m = k := by
  cases ns with
  | nil => cases e
  | cons x r =>
    cases e
    obtain ⟨q1, q2, q3⟩ := foldl_max r x
    have a1 : m ≤ r.foldl max x := by
      rcases List.mem_cons.mp h1 with rfl | h
      · exact q2
      · exact q3 m h
    have a2 : r.foldl max x ≤ m := by
      rcases q1 with q | q
      · rw [q]; exact h2 x List.mem_cons_self
      · exact h2 _ (List.mem_cons_of_mem _ q)
    omega
theorem minI_is {ns : List Int} {k m : Int} (e : minI ns = some k) (h1 : m ∈ ns) (h2 : ∀ y, y ∈ ns → m ≤ y) : m = k := by
  cases ns with
  | nil => cases e
  | cons x r =>
    cases e
    obtain ⟨q1, q2, q3⟩ := foldl_min r x
    have a1 : r.foldl min x ≤ m := by
      rcases List.mem_cons.mp h1 with rfl | h
      · exact q2
      · exact q3 m h
    have a2 : m ≤ r.foldl min x := by
      rcases q1 with q | q
      · rw [q]; exact h2 x List.mem_cons_self
      · exact h2 _ (List.mem_cons_of_mem _ q)
    omega
theorem maxI_pos {ns : List Int} {k : Int} (e : maxI ns = some k) : 0 < ns.length := by
  cases ns with
  | nil => cases e
  | cons x r => simp
theorem minI_pos {ns : List Int} {k : Int} (e : minI ns = some k) : 0 < ns.length := by
  cases ns with
  | nil => cases e
  | cons x r => simp

/-! ### a range as a value, walked; an own type of a value -/
theorem cr_range1 : CallR X (.type "range") (fun vs H Q => ∃ j, vs = [V.int j] ∧ ∀ p, H p = none → Q (.ref p) (upd H p (.rng 0 j))) := by
  intro pins s σ H vs us Q I r h
  obtain ⟨j, rfl, q⟩ := h
  obtain ⟨u1, rfl, rj⟩ := vals1 r
  obtain ⟨u, rfl⟩ := rj
  refine call_range_1 ⟨.ref s.heap.objs.size, upd H s.heap.objs.size (.rng 0 j), ?_, rfl, q _ (I.hok.fresh (Nat.le_refl _))⟩
  refine I.laid (fun b o e => Heap.get?_push_of_some _ e) (Nat.le_refl _) ?_
  exact ⟨_, u, _, Heap.get?_push_size _ rfl⟩
end
end DP

set_option linter.all false
set_option Elab.async false
/-! DSnd: expressions: what DPy tells is what the model does. By an AI agent. -/
namespace DP
open PySem PySem.Spec PyProof.Rows L2

/-! ### the weakest readings -/
def WE (X : Cx) (e : Expr) : TE := fun σ H Q => ∃ t, PE X e t ∧ t σ H Q
theorem pe_we (X : Cx) (e : Expr) : PE X e (WE X e) := ⟨fun pins s σ H Q I ⟨_, h, q⟩ => h.run pins s σ H Q I q⟩
def WT (X : Cx) (e : Expr) : TT := fun σ H Q => ∃ t, PT X e t ∧ t σ H Q
theorem pt_wt (X : Cx) (e : Expr) : PT X e (WT X e) := ⟨fun pins s σ H Q I ⟨_, h, q⟩ => h.run pins s σ H Q I q⟩
def WW (X : Cx) (e : Expr) : TT := fun σ H Q => ∃ t, PW X e t ∧ t σ H Q
theorem pw_ww (X : Cx) (e : Expr) : PW X e (WW X e) := ⟨fun wh pins s σ H Q I ⟨_, h, q⟩ => h.run wh pins s σ H Q I q⟩
def WA (X : Cx) (es : List Expr) : TA := fun σ H Q => ∃ t, PA X es t ∧ t σ H Q
theorem pa_wa (X : Cx) (es : List Expr) : PA X es (WA X es) := ⟨fun pos pins s σ H Q I ⟨_, h, q⟩ => h.run pos pins s σ H Q I q⟩
def WI (X : Cx) (tg e : Expr) : TI := fun σ H R => ∃ t, PI X tg e t ∧ t σ H R
theorem pi_wi (X : Cx) (tg e : Expr) : PI X tg e (WI X tg e) := ⟨fun pins s σ H R I ⟨_, h, q⟩ => h.run pins s σ H R I q⟩
def WTs (X : Cx) (es : List Expr) : TT := fun σ H Q => ∃ t, PTs X es t ∧ t σ H Q
theorem pts_wts (X : Cx) (es : List Expr) : PTs X es (WTs X es) := ⟨fun pins s σ H Q I ⟨_, h, q⟩ => h.run pins s σ H Q I q⟩

/-! ### what is known where a piece stands -/
def bltAll : List Str := ["abs", "enumerate", "int", "isinstance", "len", "list", "max", "min", "range", "sum", "tuple", "zip", "bool", "str"]
/-- what a called def promises: what DPy's tells -/
def spC (K : PySem.W.Frag) (C : Cf) (f : Nat) : Sp := fun vs H Q _ => ∃ (w : Wd) (ds : List D) (g : Gs) (d : D) (g' : Gs), w.H = H ∧ Ok w ∧ GR K g w ∧ Reps K w vs ds ∧ C f ds g = some (d, g') ∧
  ∀ v w', Ok w' → Ext w w' → GR K g' w' → Rep K w' v d → Q v w'.H
structure Cxt (C : Cf) (Γ : List D) (X : Cx) (Z : Zc) : Prop where
  sc : X.env.scope = Z.sc
  kind : Z.sc.kind = .function
  N : X.N = Z.N
  nd : Z.N.Nodup
  calm : X.calm = true
  xe : X.xe = fun _ _ => False
  top : Z.top = true → X.fn = fun _ => true
  blk : Z.top = false → X.fn = fun x => Z.osc.names.lookup x == some .cell
  units : X.A.units + 65 < cLine
  blt : ∀ x, x ∈ bltAll → X.mg x = none
  gc : ∀ (j : Nat) (x : Str) (d : D), Z.Cn[j]? = some x → Γ[j]? = some d → ∃ u v, X.mg x = some u ∧ RelV v u ∧ ∀ w, Rep X.K w v d
  fns : ∀ (f : Nat) (x : Str), Z.F[f]? = some x → ∃ (k : Nat) (fa : Addr) (fd : FuncData) (ps : List Str), X.mg x = some (.ref fa) ∧ PySem.W.keepIn X.K (.ref fa) = true ∧ Binds X.K fd ps [] ∧ Room k X.A ∧ FnOk X.prog X.w X.K X.mg X.base CX0 k fa fd ps (spC X.K C f)

/-! ### soundness -/
def SndE (X : Cx) (x : Expr) (f : En → Gs → Option (D × Gs)) : Prop := ∀ (E : En) (g : Gs) (d : D) (g' : Gs), f E g = some (d, g') → ∀ (σ : L2.St) (w : Wd), RR X.K E g σ w →
  ∀ Q : VK, (∀ v w', RR X.K E g' σ w' → Ext w w' → Rep X.K w' v d → Q v w'.H) → WE X x σ w.H Q
/-- looked at -/
def SndO (X : Cx) (x : Expr) (f : En → Gs → Option (D × Gs)) : Prop := ∀ (E : En) (g : Gs) (d : D) (g' : Gs), f E g = some (d, g') → ∀ (σ : L2.St) (w : Wd), RR X.K E g σ w →
  ∀ Q : VK, (∀ v w', RR X.K E g' σ w' → Ext w w' → Vw X.K w' v d → Q v w'.H) → WE X x σ w.H Q
/-- a new list: it may be taken as one that stands still (w1), or as one that may be written (w2) -/
structure Fresh (K : PySem.W.Frag) (E : En) (g : Gs) (σ : L2.St) (w : Wd) (a : Addr) (ms : List D) (w1 w2 : Wd) : Prop where
  new : w.H a = none
  H : w2.H = w1.H
  r1 : RR K E g σ w1
  x1 : Ext w w1
  n1 : ¬ w1.W a
  r2 : RR K E g σ w2
  x2 : Ext w w2
  W2 : w2.W a
  nag : a ∉ w2.ag
  at_ : ∃ vs, w1.H a = some (.lst vs) ∧ Reps K w1 vs ms ∧ Reps K w2 vs ms
theorem Fresh.rep {K : PySem.W.Frag} {E : En} {g : Gs} {σ : L2.St} {w w1 w2 : Wd} {a : Addr} {ms : List D} (f : Fresh K E g σ w a ms w1 w2) : Rep K w1 (.ref a) (.lst ms) := by
  obtain ⟨vs, h, r, _⟩ := f.at_
  exact .lst ⟨f.n1, h⟩ r
theorem fresh_new {K : PySem.W.Frag} {E : En} {g : Gs} {σ : L2.St} {w0 w : Wd} {p : Addr} {vs : List V} {ms : List D} (ok0 : Ok w0) (x : Ext w0 w) (R : RR K E g σ w) (h : w.H p = none) (r : Reps K w vs ms) : Fresh K E g σ w0 p ms (w.new p (.lst vs)) (w.newO p vs) :=
  ⟨x.none ok0 R.ok h, rfl, R.new h, x.trans ok0 (Ext.new R.ok h), R.ok.notW h, (R.newO h).1, x.trans ok0 (Ext.newO h), .inr rfl, (R.newO h).2, vs, upd_same, r.mono ((Ext.new R.ok h).mon R.ok), r.mono ((Ext.newO h).mon R.ok)⟩
def SndF (X : Cx) (x : Expr) (f : En → Gs → Option (D × Gs)) : Prop := ∀ (E : En) (g : Gs) (d : D) (g' : Gs), f E g = some (d, g') → ∀ (σ : L2.St) (w : Wd), RR X.K E g σ w →
  ∀ Q : VK, (∀ a ms w1 w2, d = .lst ms → Fresh X.K E g' σ w a ms w1 w2 → Q (.ref a) w1.H) → WE X x σ w.H Q
def SndT (X : Cx) (x : Expr) (f : En → Gs → Option (Bool × Gs)) : Prop := ∀ (E : En) (g : Gs) (d : Bool) (g' : Gs), f E g = some (d, g') → ∀ (σ : L2.St) (w : Wd), RR X.K E g σ w →
  ∀ Q : Bool → Hp → Prop, (∀ w', RR X.K E g' σ w' → Ext w w' → Q d w'.H) → WT X x σ w.H Q
def SndW (X : Cx) (x : Expr) (f : En → Gs → Option (Bool × Gs)) : Prop := ∀ (E : En) (g : Gs) (d : Bool) (g' : Gs), f E g = some (d, g') → ∀ (σ : L2.St) (w : Wd), RR X.K E g σ w →
  ∀ Q : Bool → Hp → Prop, (∀ w', RR X.K E g' σ w' → Ext w w' → Q d w'.H) → WW X x σ w.H Q
def SndA (X : Cx) (xs : List Expr) (f : En → Gs → Option (List D × Gs)) : Prop := ∀ (E : En) (g : Gs) (ds : List D) (g' : Gs), f E g = some (ds, g') → ∀ (σ : L2.St) (w : Wd), RR X.K E g σ w →
  ∀ Q : List V → Hp → Prop, (∀ vs w', RR X.K E g' σ w' → Ext w w' → Reps X.K w' vs ds → Q vs w'.H) → WA X xs σ w.H Q

section
variable {C : Cf} {Γ : List D} {X : Cx} {Z : Zc} {pos : Pos} {x y z l r u : Expr} {a b i lo hi d : IE} {oa ob : IO} {ca cb : IC} {es : IA}
theorem SndE.o {f : En → Gs → Option (D × Gs)} (h : SndE X x f) : SndO X x f := fun E g d g' e σ w R Q q => h E g d g' e σ w R Q fun v w' R' e' r => q v w' R' e' (.inl r)
theorem SndF.e {f : En → Gs → Option (D × Gs)} (h : SndF X x f) : SndE X x f := fun E g d g' e σ w R Q q => h E g d g' e σ w R Q fun a ms w1 w2 z f => by
  subst z
  exact q _ w1 f.r1 f.x1 f.rep
theorem SndW.t {f : En → Gs → Option (Bool × Gs)} (h : SndW X x f) : SndT X x f := fun E g d g' e σ w R Q q => ⟨_, (pw_ww X x).pt, h E g d g' e σ w R Q q⟩
theorem snd_none {f : En → Gs → Option (D × Gs)} (h : ∀ E g, f E g = none) : SndE X x f := fun E g d g' e => by rw [h] at e; cases e

theorem ba {p q : Bool} (h : (p && q) = true) : p = true ∧ q = true := Bool.and_eq_true_iff.mp h

theorem Cxt.gl (c : Cxt C Γ X Z) {n : Str} (h : glB Z n = true) : Gl X n ∧ (n == ("__debug__" : Str)) = false := by
  obtain ⟨h1, h2⟩ := ba h
  refine ⟨?_, by simpa using h2⟩
  show X.env.scope.names.lookup n = _
  rw [c.sc]
  exact of_decide_eq_true h1
theorem Cxt.nm (c : Cxt C Γ X Z) {n b : Str} (h : nmB Z b n = true) (hb : b ∈ bltAll) : n = b ∧ Gl X b ∧ X.mg b = none ∧ (b == ("__debug__" : Str)) = false := by
  obtain ⟨h1, h2⟩ := ba h
  have e : n = b := of_decide_eq_true h1
  subst e
  obtain ⟨h3, h4⟩ := c.gl h2
  exact ⟨rfl, h3, c.blt _ hb, h4⟩
theorem Cxt.vis (c : Cxt C Γ X Z) {j : Nat} {n : Str} (h : varB Z j n = true) : X.N[j]? = some n ∧ Vis X.env.scope n ∧ (n == ("__debug__" : Str)) = false ∧ (n == ("__classdict__" : Str)) = false := by
  obtain ⟨h1, h2⟩ := ba h
  obtain ⟨h3, h4⟩ := ba h2
  obtain ⟨h5, h6⟩ := ba h4
  refine ⟨by rw [c.N]; exact of_decide_eq_true h1, ?_, by simpa using h5, by simpa using h6⟩
  show X.env.scope.names.lookup n = _ ∨ X.env.scope.names.lookup n = _ ∨ X.env.scope.names.lookup n = _
  rw [c.sc]
  unfold visB at h3
  split at h3
  · rename_i q; exact .inl q
  · rename_i q; exact .inr (.inl q)
  · rename_i q; exact .inr (.inr q)
  · cases h3

theorem snd_var (c : Cxt C Γ X Z) {j : Nat} {n : Str} (h : varB Z j n = true) : SndE X (.Name n pos) (evE C Γ (.var j)) := by
  intro E g d g' e σ w R Q q
  obtain ⟨h1, h2, h3, h4⟩ := c.vis h
  rw [evE] at e
  split at e
  · rename_i d' q1
    cases e
    obtain ⟨v, s1, r⟩ := R.en.slot q1
    exact ⟨_, pe_var h1 h2 h3 h4, v, s1, q v w R (Ext.refl _) r⟩
  · cases e
theorem snd_own (c : Cxt C Γ X Z) {j : Nat} {n : Str} (h : varB Z j n = true) : SndO X (.Name n pos) (evS C Γ (.own j)) := by
  intro E g d g' e σ w R Q q
  obtain ⟨h1, h2, h3, h4⟩ := c.vis h
  rw [evS] at e
  split at e
  · rename_i d' q1
    cases e
    obtain ⟨a, vs, s1, e1, e2, e3, r⟩ := R.en.owned q1
    exact ⟨_, pe_var h1 h2 h3 h4, .ref a, s1, q (.ref a) w R (Ext.refl _) (.inr ⟨a, vs, _, rfl, rfl, e1, e2, e3, r⟩)⟩
  · cases e
theorem snd_int {k : Int} {j : Nat} : SndE X (.Constant (.int k) j pos) (evE C Γ (.int k)) := by
  intro E g d g' e σ w R Q q
  rw [evE] at e; cases e
  exact ⟨_, pe_int, q _ w R (Ext.refl _) (.int _)⟩
theorem snd_bl {k : Bool} {j : Nat} : SndE X (.Constant (.bool k) j pos) (evE C Γ (.bl k)) := by
  intro E g d g' e σ w R Q q
  rw [evE] at e; cases e
  exact ⟨_, pe_bl, q _ w R (Ext.refl _) (.bl _)⟩
theorem snd_non {j : Nat} : SndE X (.Constant .none j pos) (evE C Γ .non) := by
  intro E g d g' e σ w R Q q
  rw [evE] at e; cases e
  exact ⟨_, pe_non, q _ w R (Ext.refl _) .non⟩
theorem snd_str {k : Str} {j : Nat} : SndE X (.Constant (.str k) j pos) (evE C Γ (.str k)) := by
  intro E g d g' e σ w R Q q
  rw [evE] at e; cases e
  exact ⟨_, pe_str, q _ w R (Ext.refl _) (.str _)⟩
theorem snd_gc (c : Cxt C Γ X Z) {j : Nat} {n : Str} (h1 : Z.Cn[j]? = some n) (h2 : glB Z n = true) : SndE X (.Name n pos) (evE C Γ (.gc j)) := by
  intro E g d g' e σ w R Q q
  rw [evE] at e
  split at e
  · rename_i d' q1
    cases e
    obtain ⟨u, v, m, rv, rp⟩ := c.gc j n _ h1 q1
    obtain ⟨h3, h4⟩ := c.gl h2
    exact ⟨_, pe_glob h3 m rv h4, q v w R (Ext.refl _) (rp w)⟩
  · cases e
theorem snd_op {o : Op2} (ha : SndE X l (evE C Γ a)) (hb : SndE X r (evE C Γ b)) : SndE X (.BinOp l (opOf o) r pos) (evE C Γ (.op o a b)) := by
  intro E g d g' e σ w R Q q
  rw [evE] at e
  split at e
  · cases e
  · rename_i dx g1 e1
    split at e
    · cases e
    · rename_i dy g2 e2
      split at e
      · rename_i dz e3
        cases e
        refine ⟨_, pe_op (op2_ok o) (pe_we X l) (pe_we X r), ?_⟩
        refine ha E g dx g1 e1 σ w R _ fun v1 w1 R1 x1 r1 => ?_
        refine hb E g1 dy _ e2 σ w1 R1 _ fun v2 w2 R2 x2 r2 => ?_
        refine ⟨w2, dx, dy, _, rfl, R2.ok, r1.mono (x2.mon R1.ok), r2, e3, fun v w' n rv => ?_⟩
        exact q v w' (n.rr R2) ((x1.trans R.ok x2).trans R.ok (n.ext R2.ok).1) rv
      · cases e
theorem snd_neg (ha : SndE X l (evE C Γ a)) : SndE X (.UnaryOp .USub l pos) (evE C Γ (.neg a)) := by
  intro E g d g' e σ w R Q q
  rw [evE] at e
  split at e
  · rename_i k g1 e1
    cases e
    refine ⟨_, pe_un un_neg (pe_we X l), ?_⟩
    refine ha E g _ _ e1 σ w R _ fun v1 w1 R1 x1 r1 => ?_
    cases r1
    exact ⟨k, rfl, q _ w1 R1 x1 (.int _)⟩
  · cases e
theorem snd_cmp (c : Cxt C Γ X Z) {o : Cp} (hs : notSet r = true) (ha : SndO X l (evS C Γ oa)) (hb : SndO X r (evS C Γ ob)) : SndE X (.Compare l [cpOf o] [r] pos) (evE C Γ (.cmp o oa ob)) := by
  intro E g d g' e σ w R Q q
  have hm : behindInMarks (cpOf o) r = false := by
    cases r <;> first | rfl | cases hs
  rw [evE] at e
  split at e
  · cases e
  · rename_i dx g1 e1
    split at e
    · cases e
    · rename_i dy g2 e2
      split at e
      · rename_i dz e3
        cases e
        refine ⟨_, pe_cmpR (cmp_ok c.units o) (pe_we X l) (pe_we X r) hm, ?_⟩
        refine ha E g dx g1 e1 σ w R _ fun v1 w1 R1 x1 r1 => ?_
        refine hb E g1 dy _ e2 σ w1 R1 _ fun v2 w2 R2 x2 r2 => ?_
        exact ⟨w2, dx, dy, dz, rfl, r1.ext R1.ok x2, r2, e3, q _ w2 R2 (x1.trans R.ok x2) (.bl _)⟩
      · cases e
theorem snt_cmp (c : Cxt C Γ X Z) {o : Cp} (hs : notSet r = true) (ha : SndO X l (evS C Γ oa)) (hb : SndO X r (evS C Γ ob)) : SndT X (.Compare l [cpOf o] [r] pos) (evT C Γ (.e (.cmp o oa ob))) := by
  intro E g d g' e σ w R Q q
  have hm : behindInMarks (cpOf o) r = false := by
    cases r <;> first | rfl | cases hs
  rw [evT, evE] at e
  split at e
  · rename_i x0 g0 e0
    split at e0
    · cases e0
    · rename_i dx g1 e1
      split at e0
      · cases e0
      · rename_i dy g2 e2
        split at e0
        · rename_i dz e3
          cases e0
          cases e
          refine ⟨_, pt_cmpR (cmp_ok c.units o) (pe_we X l) (pe_we X r) hm, ?_⟩
          refine ha E g dx g1 e1 σ w R _ fun v1 w1 R1 x1 r1 => ?_
          refine hb E g1 dy _ e2 σ w1 R1 _ fun v2 w2 R2 x2 r2 => ?_
          exact ⟨w2, dx, dy, _, rfl, r1.ext R1.ok x2, r2, e3, _, rfl, q w2 R2 (x1.trans R.ok x2)⟩
        · cases e0
  · cases e
theorem isNon_rep {K : PySem.W.Frag} {w : Wd} {v : V} {d : D} (h : Rep K w v d) : decide (v = .non) = isNon d := by
  cases h <;> first | rfl | exact decide_eq_false (fun z => by cases z)
theorem snd_isN {j : Nat} {p2 : Pos} (ha : SndE X l (evE C Γ a)) : SndE X (.Compare l [.Is] [.Constant .none j p2] pos) (evE C Γ (.isN a)) := by
  intro E g d g' e σ w R Q q
  rw [evE] at e
  split at e
  · rename_i dx g1 e1
    cases e
    refine ⟨_, pe_cmpR op_isN (pe_we X l) pe_non rfl, ?_⟩
    refine ha E g _ _ e1 σ w R _ fun v1 w1 R1 x1 r1 => ?_
    refine ⟨rfl, ?_⟩
    rw [isNon_rep r1]
    exact q _ w1 R1 x1 (.bl _)
  · cases e
theorem snd_notN {j : Nat} {p2 : Pos} (ha : SndE X l (evE C Γ a)) : SndE X (.Compare l [.IsNot] [.Constant .none j p2] pos) (evE C Γ (.notN a)) := by
  intro E g d g' e σ w R Q q
  rw [evE] at e
  split at e
  · rename_i dx g1 e1
    cases e
    refine ⟨_, pe_cmpR op_notN (pe_we X l) pe_non rfl, ?_⟩
    refine ha E g _ _ e1 σ w R _ fun v1 w1 R1 x1 r1 => ?_
    refine ⟨rfl, ?_⟩
    rw [isNon_rep r1]
    exact q _ w1 R1 x1 (.bl _)
  · cases e
theorem snt_isN {j : Nat} {p2 : Pos} (ha : SndE X l (evE C Γ a)) : SndT X (.Compare l [.Is] [.Constant .none j p2] pos) (evT C Γ (.e (.isN a))) := by
  intro E g d g' e σ w R Q q
  rw [evT, evE] at e
  split at e
  · rename_i x0 g0 e0
    split at e0
    · rename_i dx g1 e1
      cases e0
      cases e
      refine ⟨_, pt_cmpR op_isN (pe_we X l) pe_non rfl, ?_⟩
      refine ha E g _ _ e1 σ w R _ fun v1 w1 R1 x1 r1 => ?_
      refine ⟨rfl, _, rfl, ?_⟩
      rw [isNon_rep r1]
      exact q w1 R1 x1
    · cases e0
  · cases e
theorem snt_notN {j : Nat} {p2 : Pos} (ha : SndE X l (evE C Γ a)) : SndT X (.Compare l [.IsNot] [.Constant .none j p2] pos) (evT C Γ (.e (.notN a))) := by
  intro E g d g' e σ w R Q q
  rw [evT, evE] at e
  split at e
  · rename_i x0 g0 e0
    split at e0
    · rename_i dx g1 e1
      cases e0
      cases e
      refine ⟨_, pt_cmpR op_notN (pe_we X l) pe_non rfl, ?_⟩
      refine ha E g _ _ e1 σ w R _ fun v1 w1 R1 x1 r1 => ?_
      refine ⟨rfl, _, rfl, ?_⟩
      rw [isNon_rep r1]
      exact q w1 R1 x1
    · cases e0
  · cases e
theorem lastM {op op' : CmpOp} {u v : Expr} (hs : notSet v = true) : lastMarks [op, op'] [u, v] = false := by
  show behindInMarks op' v = false
  cases v <;> first | rfl | cases hs
theorem snd_chain (c : Cxt C Γ X Z) {o o' : Cp} (hs : notSet u = true) (ha : SndE X l (evE C Γ a)) (hb : SndE X r (evE C Γ b)) (hd : SndE X u (evE C Γ d)) : SndE X (.Compare l [cpOf o, cpOf o'] [r, u] pos) (evE C Γ (.chain o o' a b d)) := by
  intro E g dd g' e σ w R Q q
  rw [evE] at e
  split at e
  · cases e
  · rename_i dx g1 e1
    split at e
    · cases e
    · rename_i dy g2 e2
      refine ⟨_, pe_chain (cmp_ok c.units o) (cmp_ok c.units o') (pe_we X l) (pe_we X r) (pe_we X u) (lastM hs), ?_⟩
      refine ha E g dx g1 e1 σ w R _ fun v1 w1 R1 x1 r1 => ?_
      refine hb E g1 dy _ e2 σ w1 R1 _ fun v2 w2 R2 x2 r2 => ?_
      split at e
      · cases e
      · rename_i e3
        cases e
        exact ⟨w2, dx, dy, false, rfl, .inl (r1.mono (x2.mon R1.ok)), .inl r2, e3, false, rfl, iteF (q _ w2 R2 (x1.trans R.ok x2) (.bl _))⟩
      · rename_i e3
        refine ⟨w2, dx, dy, true, rfl, .inl (r1.mono (x2.mon R1.ok)), .inl r2, e3, true, rfl, iteT ?_⟩
        split at e
        · cases e
        · rename_i dz g3 e4
          split at e
          · rename_i k e5
            cases e
            refine hd E _ dz _ e4 σ w2 R2 _ fun v3 w3 R3 x3 r3 => ?_
            exact ⟨w3, dy, dz, _, rfl, .inl (r2.mono (x3.mon R2.ok)), .inl r3, e5, q _ w3 R3 ((x1.trans R.ok x2).trans R.ok x3) (.bl _)⟩
          · cases e
theorem snt_chain (c : Cxt C Γ X Z) {o o' : Cp} (hs : notSet u = true) (ha : SndE X l (evE C Γ a)) (hb : SndE X r (evE C Γ b)) (hd : SndE X u (evE C Γ d)) : SndT X (.Compare l [cpOf o, cpOf o'] [r, u] pos) (evT C Γ (.e (.chain o o' a b d))) := by
  intro E g dd g' e σ w R Q q
  rw [evT, evE] at e
  split at e
  · rename_i x0 g0 e0
    split at e0
    · cases e0
    · rename_i dx g1 e1
      split at e0
      · cases e0
      · rename_i dy g2 e2
        refine ⟨_, pt_chain (cmp_ok c.units o) (cmp_ok c.units o') (pe_we X l) (pe_we X r) (pe_we X u) (lastM hs), ?_⟩
        refine ha E g dx g1 e1 σ w R _ fun v1 w1 R1 x1 r1 => ?_
        refine hb E g1 dy _ e2 σ w1 R1 _ fun v2 w2 R2 x2 r2 => ?_
        split at e0
        · cases e0
        · rename_i e3
          cases e0
          cases e
          exact ⟨w2, dx, dy, false, rfl, .inl (r1.mono (x2.mon R1.ok)), .inl r2, e3, false, rfl, iteF ⟨false, rfl, q w2 R2 (x1.trans R.ok x2)⟩⟩
        · rename_i e3
          refine ⟨w2, dx, dy, true, rfl, .inl (r1.mono (x2.mon R1.ok)), .inl r2, e3, true, rfl, iteT ?_⟩
          split at e0
          · cases e0
          · rename_i dz g3 e4
            split at e0
            · rename_i k e5
              cases e0
              cases e
              refine hd E _ dz _ e4 σ w2 R2 _ fun v3 w3 R3 x3 r3 => ?_
              exact ⟨w3, dy, dz, _, rfl, .inl (r2.mono (x3.mon R2.ok)),   .inl r3, e5, _, rfl, q w3 R3 ((x1.trans R.ok x2).trans R.ok x3)⟩
            · cases e0
  · cases e

/-! ### and, or, not, if -/
theorem snd_and {rest : List Expr} (ha : SndE X x (evE C Γ a)) (hb : SndE X (.BoolOp .And (y :: rest) pos) (evE C Γ b)) : SndE X (.BoolOp .And (x :: y :: rest) pos) (evE C Γ (.and a b)) := by
  intro E g d g' e σ w R Q q
  rw [evE] at e
  refine ⟨_, pe_and (pe_we X x) (pe_we X (.BoolOp .And (y :: rest) pos)), ?_⟩
  split at e
  · rename_i g1 e1
    refine ha E g _ g1 e1 σ w R _ fun v1 w1 R1 x1 r1 => ?_
    cases r1
    refine ⟨true, rfl, iteT ?_⟩
    exact hb E g1 d g' e σ w1 R1 _ fun v2 w2 R2 x2 r2 => q v2 w2 R2 (x1.trans R.ok x2) r2
  · rename_i g1 e1
    cases e
    refine ha E g _ _ e1 σ w R _ fun v1 w1 R1 x1 r1 => ?_
    cases r1
    exact ⟨false, rfl, iteF (q _ w1 R1 x1 (.bl _))⟩
  · cases e
theorem snd_or {rest : List Expr} (ha : SndE X x (evE C Γ a)) (hb : SndE X (.BoolOp .Or (y :: rest) pos) (evE C Γ b)) : SndE X (.BoolOp .Or (x :: y :: rest) pos) (evE C Γ (.or a b)) := by
  intro E g d g' e σ w R Q q
  rw [evE] at e
  refine ⟨_, pe_or (pe_we X x) (pe_we X (.BoolOp .Or (y :: rest) pos)), ?_⟩
  split at e
  · rename_i g1 e1
    cases e
    refine ha E g _ _ e1 σ w R _ fun v1 w1 R1 x1 r1 => ?_
    cases r1
    exact ⟨true, rfl, iteT (q _ w1 R1 x1 (.bl _))⟩
  · rename_i g1 e1
    refine ha E g _ g1 e1 σ w R _ fun v1 w1 R1 x1 r1 => ?_
    cases r1
    refine ⟨false, rfl, iteF ?_⟩
    exact hb E g1 d g' e σ w1 R1 _ fun v2 w2 R2 x2 r2 => q v2 w2 R2 (x1.trans R.ok x2) r2
  · cases e
theorem snd_one {op : BoolOp} {f : En → Gs → Option (D × Gs)} (ha : SndE X x f) : SndE X (.BoolOp op [x] pos) f := fun E g d g' e σ w R Q q => ⟨_, pe_one (pe_we X x), ha E g d g' e σ w R Q q⟩
theorem snw_and1 {f : En → Gs → Option (Bool × Gs)} (ha : SndT X x f) : SndW X (.BoolOp .And [x] pos) f := fun E g d g' e σ w R Q q => ⟨_, pw_and1 (pt_wt X x), ha E g d g' e σ w R Q q⟩
theorem snw_or1 {f : En → Gs → Option (Bool × Gs)} (ha : SndT X x f) : SndW X (.BoolOp .Or [x] pos) f := fun E g d g' e σ w R Q q => ⟨_, pw_or1 (pt_wt X x), ha E g d g' e σ w R Q q⟩
theorem snw_and {rest : List Expr} (ha : SndT X x (evT C Γ ca)) (hb : SndW X (.BoolOp .And (y :: rest) pos) (evT C Γ cb)) : SndW X (.BoolOp .And (x :: y :: rest) pos) (evT C Γ (.and ca cb)) := by
  intro E g d g' e σ w R Q q
  rw [evT] at e
  refine ⟨_, pw_and (pt_wt X x) (pw_ww X (.BoolOp .And (y :: rest) pos)), ?_⟩
  split at e
  · rename_i g1 e1
    refine ha E g _ g1 e1 σ w R _ fun w1 R1 x1 => iteT ?_
    exact hb E g1 d g' e σ w1 R1 _ fun w2 R2 x2 => q w2 R2 (x1.trans R.ok x2)
  · rename_i g1 e1
    cases e
    exact ha E g _ _ e1 σ w R _ fun w1 R1 x1 => iteF (q w1 R1 x1)
  · cases e
theorem snw_or {rest : List Expr} (ha : SndT X x (evT C Γ ca)) (hb : SndW X (.BoolOp .Or (y :: rest) pos) (evT C Γ cb)) : SndW X (.BoolOp .Or (x :: y :: rest) pos) (evT C Γ (.or ca cb)) := by
  intro E g d g' e σ w R Q q
  rw [evT] at e
  refine ⟨_, pw_or (pt_wt X x) (pw_ww X (.BoolOp .Or (y :: rest) pos)), ?_⟩
  split at e
  · rename_i g1 e1
    cases e
    exact ha E g _ _ e1 σ w R _ fun w1 R1 x1 => iteT (q w1 R1 x1)
  · rename_i g1 e1
    refine ha E g _ g1 e1 σ w R _ fun w1 R1 x1 => iteF ?_
    exact hb E g1 d g' e σ w1 R1 _ fun w2 R2 x2 => q w2 R2 (x1.trans R.ok x2)
  · cases e
theorem snt_not (ha : SndT X l (evT C Γ ca)) : SndT X (.UnaryOp .Not l pos) (evT C Γ (.not ca)) := by
  intro E g d g' e σ w R Q q
  rw [evT] at e
  split at e
  · rename_i k g1 e1
    cases e
    exact ⟨_, pt_not (pt_wt X l), ha E g _ _ e1 σ w R _ fun w1 R1 x1 => q w1 R1 x1⟩
  · cases e
theorem snd_ite (hc : SndT X u (evT C Γ ca)) (ha : SndE X x (evE C Γ a)) (hb : SndE X y (evE C Γ b)) : SndE X (.IfExp u x y pos) (evE C Γ (.ite ca a b)) := by
  intro E g d g' e σ w R Q q
  rw [evE] at e
  refine ⟨_, pe_ifExp (pt_wt X u) (pe_we X x) (pe_we X y), ?_⟩
  split at e
  · rename_i g1 e1
    refine hc E g _ g1 e1 σ w R _ fun w1 R1 x1 => iteT ?_
    exact ha E g1 d g' e σ w1 R1 _ fun v2 w2 R2 x2 r2 => q v2 w2 R2 (x1.trans R.ok x2) r2
  · rename_i g1 e1
    refine hc E g _ g1 e1 σ w R _ fun w1 R1 x1 => iteF ?_
    exact hb E g1 d g' e σ w1 R1 _ fun v2 w2 R2 x2 r2 => q v2 w2 R2 (x1.trans R.ok x2) r2
  · cases e
/-- a test of a value's truth -/
theorem snt_truth (hp : plainTest x = true) (ha : SndE X x (evE C Γ a)) : SndT X x (evT C Γ (.e a)) := by
  intro E g d g' e σ w R Q q
  have he : ∀ whole, isTrue x X.env whole = (do let v ← whole; standAt x.pos; holding [v] (truthy v)) := by
    intro whole
    cases x <;> first
      | rfl
      | (rename_i op _ _; cases op <;> first | rfl | cases hp)
      | cases hp
  rw [evT] at e
  split at e
  · rename_i dx g1 e1
    split at e
    · rename_i k e2
      cases e
      refine ⟨_, pt_truth (pe_we X x) he, ?_⟩
      exact ha E g _ _ e1 σ w R _ fun v1 w1 R1 x1 r1 => ⟨_, tru_rep r1 e2, q w1 R1 x1⟩
    · cases e
  · cases e
end
end DP

set_option linter.all false
set_option Elab.async false
/-! DSnd2: expressions: places, displays, calls. By an AI agent. -/
namespace DP
open PySem PySem.Spec PyProof.Rows L2

theorem star_cons {e : Expr} {es : List Expr} {env : Env} (h : notStar e = true) : starEach (e :: es) env = (false, eval e env) :: starEach es env := by
  cases e <;> first | rfl | cases h
theorem star_any {env : Env} {pos : Pos} : ∀ {es : List Expr}, (∀ e ∈ es, notStar e = true) → (backTo pos (starEach es env)).any (·.1) = false
  | [], _ => rfl
  | e :: es, h => by
    rw [star_cons (h e List.mem_cons_self)]
    show (false || (backTo pos (starEach es env)).any (·.1)) = false
    rw [star_any fun e' h' => h e' (List.mem_cons_of_mem _ h')]
    rfl
theorem plainIx_of {b : Expr} (h : notSlice b = true) : PlainIx b := by
  intro o i
  cases b <;> first | rfl | cases h

section
variable {C : Cf} {Γ : List D} {X : Cx} {Z : Zc} {pos p0 : Pos} {x y z l r u : Expr} {a b i lo hi d : IE} {oa ob : IO} {es : IA} {xs : List Expr}

theorem snd_not (ha : SndE X l (evE C Γ a)) : SndE X (.UnaryOp .Not l pos) (evE C Γ (.not a)) := by
  intro E g d g' e σ w R Q q
  rw [evE] at e
  split at e
  · rename_i dx g1 e1
    split at e
    · rename_i k e2
      cases e
      refine ⟨_, pe_notT (pe_we X l), ?_⟩
      exact ha E g _ _ e1 σ w R _ fun v1 w1 R1 x1 r1 => ⟨_, tru_rep r1 e2, q _ w1 R1 x1 (.bl _)⟩
    · cases e
  · cases e

/-! ### rows of expressions -/
theorem sna_nil : SndA X [] (evA C Γ .nil) := by
  intro E g ds g' e σ w R Q q
  rw [evA] at e
  cases e
  exact ⟨_, pa_nil, q _ w R (Ext.refl _) .nil⟩
theorem sna_cons (hs : notStar x = true) (ha : SndE X x (evE C Γ a)) (hr : SndA X xs (evA C Γ es)) : SndA X (x :: xs) (evA C Γ (.cons a es)) := by
  intro E g ds g' e σ w R Q q
  rw [evA] at e
  split at e
  · cases e
  · rename_i d1 g1 e1
    split at e
    · rename_i ds2 g2 e2
      cases e
      refine ⟨_, pa_cons (pe_we X x) (pa_wa X xs) (star_cons hs), ?_⟩
      refine ha E g d1 g1 e1 σ w R _ fun v1 w1 R1 x1 r1 => ?_
      refine hr E g1 _ _ e2 σ w1 R1 _ fun vs w2 R2 x2 r2 => ?_
      exact q _ w2 R2 (x1.trans R.ok x2) (.cons (r1.mono (x2.mon R1.ok)) r2)
    · cases e
theorem snd_tup {k : Nat} (ha : SndA X xs (evA C Γ es)) : SndE X (.Tuple xs k pos) (evE C Γ (.tup es)) := by
  intro E g d g' e σ w R Q q
  rw [evE] at e
  split at e
  · rename_i ds g1 e1
    split at e
    · rename_i hl
      cases e
      refine ⟨_, pe_tup (pa_wa X xs), ?_⟩
      refine ha E g _ _ e1 σ w R _ fun vs w1 R1 x1 r1 => ⟨by rw [r1.length, ← lineB_le]; exact hl, fun p hp => ?_⟩
      exact q _ (w1.new p _) (R1.new hp) (x1.trans R.ok (Ext.new R1.ok hp)) (rep_newT R1.ok hp r1)
    · cases e
  · cases e
theorem snf_lst (ha : SndA X xs (evA C Γ es)) : SndF X (.List xs pos) (evE C Γ (.lst es)) := by
  intro E g d g' e σ w R Q q
  rw [evE] at e
  split at e
  · rename_i ds g1 e1
    split at e
    · rename_i hl
      cases e
      refine ⟨_, pe_lst (pa_wa X xs), ?_⟩
      refine ha E g _ _ e1 σ w R _ fun vs w1 R1 x1 r1 => ⟨by rw [r1.length, ← lineB_le]; exact hl, fun p hp => ?_⟩
      exact q p _ _ _ rfl (fresh_new R.ok x1 R1 hp r1)
    · cases e
  · cases e

/-! ### places -/
theorem snd_ix (hs : notSlice r = true) (ha : SndO X l (evS C Γ oa)) (hi : SndE X r (evE C Γ i)) : SndE X (.Subscript l r pos) (evE C Γ (.ix oa i)) := by
  intro E g d g' e σ w R Q q
  rw [evE] at e
  split at e
  · cases e
  · rename_i dx g1 e1
    split at e
    · rename_i k g2 e2
      split at e
      · rename_i its e3
        split at e
        · rename_i dd e4
          cases e
          refine ⟨_, pe_ix ix_seq (pe_we X l) (pe_we X r) (plainIx_of hs), ?_⟩
          refine ha E g dx g1 e1 σ w R _ fun v1 w1 R1 x1 r1 => ?_
          refine hi E g1 _ _ e2 σ w1 R1 _ fun v2 w2 R2 x2 r2 => ?_
          cases r2
          obtain ⟨ad, vs, hv, hq, rv⟩ := (r1.ext R1.ok x2).items R2.g e3
          obtain ⟨v, hv2, rd⟩ := atI_rep rv e4
          have fin := q v w2 R2 (x1.trans R.ok x2) rd
          rcases hq with hq | hq
          · exact .inl ⟨ad, vs, k, v, hv, rfl, hq, hv2, fin⟩
          · exact .inr (.inl ⟨ad, vs, k, v, hv, rfl, hq, hv2, fin⟩)
        · cases e
      · cases e
    · cases e

theorem sl_fin {w : Wd} {v : V} {dx dz : D} {lo hi : Option Int} {Q : VK} (ok : Ok w) (h : Rep X.K w v dx)
    (e : (match dx with | .tup xs => some (D.tup (cut xs lo hi)) | .lst xs => some (D.lst (cut xs lo hi)) | _ => none) = some dz) (k : Then X.K w dz Q) :
    rSlA X.K v lo hi w.H Q ∨ rSlL X.K v lo hi w.H Q := by
  cases h with
  | tup h r =>
    cases e
    refine .inl ⟨_, _, rfl, h.sq, fun z => ?_, fun _ p hp => ?_⟩
    · rw [cut_whole r z] at k
      exact k _ w (.inl rfl) (.tup h r)
    · exact k _ (w.new p _) (.inr ⟨p, _, hp, rfl⟩) (rep_newT ok hp (cut_rep r lo hi))
  | lst h r =>
    cases e
    refine .inr ⟨_, _, rfl, h.sq, fun p hp => ?_⟩
    exact k _ (w.new p _) (.inr ⟨p, _, hp, rfl⟩) (rep_newL ok hp (cut_rep r lo hi))
  | _ => cases e
theorem snd_sl {p2 : Pos} (ha : SndE X l (evE C Γ a)) (h1 : SndE X x (evE C Γ lo)) (h2 : SndE X y (evE C Γ hi)) : SndE X (.Subscript l (.Slice (some x) (some y) none p2) pos) (evE C Γ (.sl a lo hi)) := by
  intro E g d g' e σ w R Q q
  rw [evE] at e
  split at e
  · cases e
  · rename_i dx g1 e1
    split at e
    · rename_i k g2 e2
      split at e
      · rename_i m g3 e3
        refine ⟨_, pe_slice (sl_tupA.or sl_list) (pe_we X l) (po_some (pe_we X x)) (po_some (pe_we X y)), ?_⟩
        refine ha E g dx g1 e1 σ w R _ fun v1 w1 R1 x1 r1 => ?_
        refine h1 E g1 _ _ e2 σ w1 R1 _ fun v2 w2 R2 x2 r2 => ?_
        cases r2
        refine ⟨k, rfl, ?_⟩
        refine h2 E g2 _ _ e3 σ w2 R2 _ fun v3 w3 R3 x3 r3 => ?_
        cases r3
        refine ⟨m, rfl, ?_⟩
        have x13 := (x1.trans R.ok x2).trans R.ok x3
        have rx := (r1.mono (x2.mon R1.ok)).mono (x3.mon R2.ok)
        refine sl_fin (dz := d) R3.ok rx ?_ fun v w' n rv => ?_
        · split at e <;> first | (cases e; rfl) | cases e
        · have eg : g3 = g' := by split at e <;> first | (cases e; rfl) | cases e
          subst eg
          exact q v w' (n.rr R3) (x13.trans R.ok (n.ext R3.ok).1) rv
      · cases e
    · cases e
theorem snd_slTo {p2 : Pos} (ha : SndE X l (evE C Γ a)) (h2 : SndE X y (evE C Γ hi)) : SndE X (.Subscript l (.Slice none (some y) none p2) pos) (evE C Γ (.slTo a hi)) := by
  intro E g d g' e σ w R Q q
  rw [evE] at e
  split at e
  · cases e
  · rename_i dx g1 e1
    split at e
    · rename_i m g3 e3
      refine ⟨_, pe_slice (sl_tupA.or sl_list) (pe_we X l) po_none (po_some (pe_we X y)), ?_⟩
      refine ha E g dx g1 e1 σ w R _ fun v1 w1 R1 x1 r1 => ?_
      refine h2 E g1 _ _ e3 σ w1 R1 _ fun v3 w3 R3 x3 r3 => ?_
      cases r3
      refine ⟨m, rfl, ?_⟩
      refine sl_fin (dz := d) R3.ok (r1.mono (x3.mon R1.ok)) ?_ fun v w' n rv => ?_
      · split at e <;> first | (cases e; rfl) | cases e
      · have eg : g3 = g' := by split at e <;> first | (cases e; rfl) | cases e
        subst eg
        exact q v w' (n.rr R3) ((x1.trans R.ok x3).trans R.ok (n.ext R3.ok).1) rv
    · cases e
theorem snd_slFrom {p2 : Pos} (ha : SndE X l (evE C Γ a)) (h1 : SndE X x (evE C Γ lo)) : SndE X (.Subscript l (.Slice (some x) none none p2) pos) (evE C Γ (.slFrom a lo)) := by
  intro E g d g' e σ w R Q q
  rw [evE] at e
  split at e
  · cases e
  · rename_i dx g1 e1
    split at e
    · rename_i m g3 e3
      refine ⟨_, pe_slice (sl_tupA.or sl_list) (pe_we X l) (po_some (pe_we X x)) po_none, ?_⟩
      refine ha E g dx g1 e1 σ w R _ fun v1 w1 R1 x1 r1 => ?_
      refine h1 E g1 _ _ e3 σ w1 R1 _ fun v3 w3 R3 x3 r3 => ?_
      cases r3
      refine ⟨m, rfl, ?_⟩
      refine sl_fin (dz := d) R3.ok (r1.mono (x3.mon R1.ok)) ?_ fun v w' n rv => ?_
      · split at e <;> first | (cases e; rfl) | cases e
      · have eg : g3 = g' := by split at e <;> first | (cases e; rfl) | cases e
        subst eg
        exact q v w' (n.rr R3) ((x1.trans R.ok x3).trans R.ok (n.ext R3.ok).1) rv
    · cases e

/-! ### calls -/
theorem snd_call (c : Cxt C Γ X Z) {f : Nat} {n : Str} (h1 : Z.F[f]? = some n) (h2 : glB Z n = true) (hs : ∀ e ∈ x :: xs, notStar e = true) (ha : SndA X (x :: xs) (evA C Γ es)) : SndE X (.Call (.Name n p0) (x :: xs) [] pos) (evE C Γ (.call f es)) := by
  intro E g d g' e σ w R Q q
  obtain ⟨h3, h4⟩ := c.gl h2
  obtain ⟨k, fa, fd, ps, m, kp, bi, hr, F⟩ := c.fns f n h1
  rw [evE] at e
  split at e
  · rename_i ds g1 e1
    refine ⟨_, pe_call F hr h3 m kp bi .nil pass0 (pa_wa X (x :: xs)) h4 (star_cons (hs x List.mem_cons_self)) (star_any fun e' h' => hs e' (List.mem_cons_of_mem _ h')), ?_⟩
    refine ha E g ds g1 e1 σ w R _ fun vs w1 R1 x1 r1 => ?_
    refine ⟨w1, ds, g1, d, g', rfl, R1.ok, R1.g, by rw [List.append_nil]; exact r1, e, fun v w2 o2 x2 G2 rv => ?_⟩
    exact q v w2 (R1.of o2 x2 G2) (x1.trans R.ok x2) rv
  · cases e

/-- a call of a built-in with one argument -/
theorem pa_1 (hs : notStar x = true) : PA X [x] (tCons (WE X x) tNil) := pa_cons (pe_we X x) pa_nil (star_cons hs)
theorem pa_2 (hs : notStar x = true) (ht : notStar y = true) : PA X [x, y] (tCons (WE X x) (tCons (WE X y) tNil)) := pa_cons (pe_we X x) (pa_cons (pe_we X y) pa_nil (star_cons ht)) (star_cons hs)
theorem blt1 {m n : Str} {id : String} {rr : List V → Hp → VK → Prop} (c : Cxt C Γ X Z) (hn : nmB Z m n = true) (hm : m ∈ bltAll) (hv : bootBuiltins m = some (.builtin id)) (h0 : m ≠ "__name__") (hc : CallR X (.builtin id) rr) (hs : notStar x = true) :
    PE X (.Call (.Name n p0) [x] [] pos) (tCB rr (tCons (WE X x) tNil)) := by
  obtain ⟨rfl, h1, h2, h3⟩ := c.nm hn hm
  exact pe_callB hc h1 h2 hv (pa_1 hs) h0 h3 (star_cons hs) rfl
theorem blt2 {m n : Str} {id : String} {rr : List V → Hp → VK → Prop} (c : Cxt C Γ X Z) (hn : nmB Z m n = true) (hm : m ∈ bltAll) (hv : bootBuiltins m = some (.builtin id)) (h0 : m ≠ "__name__") (hc : CallR X (.builtin id) rr) (hs : notStar x = true) (ht : notStar y = true) :
    PE X (.Call (.Name n p0) [x, y] [] pos) (tCB rr (tCons (WE X x) (tCons (WE X y) tNil))) := by
  obtain ⟨rfl, h1, h2, h3⟩ := c.nm hn hm
  exact pe_callB hc h1 h2 hv (pa_2 hs ht) h0 h3 (star_cons hs) (star_any fun e he => by rw [List.mem_singleton.mp he]; exact ht)
theorem bty1 {m n : Str} {T : String} {rr : List V → Hp → VK → Prop} (c : Cxt C Γ X Z) (hn : nmB Z m n = true) (hm : m ∈ bltAll) (hv : bootBuiltins m = some (.type T)) (h0 : m ≠ "__name__") (hc : CallR X (.type T) rr) (hs : notStar x = true) :
    PE X (.Call (.Name n p0) [x] [] pos) (tCB rr (tCons (WE X x) tNil)) := by
  obtain ⟨rfl, h1, h2, h3⟩ := c.nm hn hm
  exact pe_callTy hc h1 h2 hv (pa_1 hs) h0 h3 (star_cons hs) rfl

theorem snd_len {n : Str} (c : Cxt C Γ X Z) (hn : nmB Z "len" n = true) (hs : notStar x = true) (ha : SndO X x (evS C Γ oa)) : SndE X (.Call (.Name n p0) [x] [] pos) (evE C Γ (.len oa)) := by
  intro E g d g' e σ w R Q q
  rw [evE] at e
  split at e
  · cases e
  · rename_i dx g1 e1
    split at e
    · rename_i its e2
      cases e
      refine ⟨_, blt1 c hn (by decide) PySem.boot_len (by decide) call_len_seq hs, ?_⟩
      refine ha E g dx _ e1 σ w R _ fun v1 w1 R1 x1 r1 => ?_
      obtain ⟨ad, vs, hv, hq, rv⟩ := r1.items R1.g e2
      subst hv
      refine ⟨ad, vs, rfl, hq, ?_⟩
      rw [rv.length]
      exact q _ w1 R1 x1 (.int _)
    · cases e
theorem snd_abs {n : Str} (c : Cxt C Γ X Z) (hn : nmB Z "abs" n = true) (hs : notStar x = true) (ha : SndE X x (evE C Γ a)) : SndE X (.Call (.Name n p0) [x] [] pos) (evE C Γ (.abs a)) := by
  intro E g d g' e σ w R Q q
  rw [evE] at e
  split at e
  · rename_i k g1 e1
    cases e
    refine ⟨_, blt1 c hn (by decide) boot_abs (by decide) call_abs hs, ?_⟩
    refine ha E g _ _ e1 σ w R _ fun v1 w1 R1 x1 r1 => ?_
    cases r1
    exact ⟨k, rfl, q _ w1 R1 x1 (.int _)⟩
  · cases e
theorem snd_min2 {n : Str} (c : Cxt C Γ X Z) (hn : nmB Z "min" n = true) (hs : notStar x = true) (ht : notStar y = true) (ha : SndE X x (evE C Γ a)) (hb : SndE X y (evE C Γ b)) : SndE X (.Call (.Name n p0) [x, y] [] pos) (evE C Γ (.min2 a b)) := by
  intro E g d g' e σ w R Q q
  rw [evE] at e
  split at e
  · rename_i k g1 e1
    split at e
    · rename_i m g2 e2
      cases e
      refine ⟨_, blt2 c hn (by decide) boot_min (by decide) (call_min2 c.calm) hs ht, ?_⟩
      refine ha E g _ _ e1 σ w R _ fun v1 w1 R1 x1 r1 => ?_
      refine hb E g1 _ _ e2 σ w1 R1 _ fun v2 w2 R2 x2 r2 => ?_
      cases r1; cases r2
      exact ⟨k, m, rfl, q _ w2 R2 (x1.trans R.ok x2) (.int _)⟩
    · cases e
  · cases e
theorem snd_max2 {n : Str} (c : Cxt C Γ X Z) (hn : nmB Z "max" n = true) (hs : notStar x = true) (ht : notStar y = true) (ha : SndE X x (evE C Γ a)) (hb : SndE X y (evE C Γ b)) : SndE X (.Call (.Name n p0) [x, y] [] pos) (evE C Γ (.max2 a b)) := by
  intro E g d g' e σ w R Q q
  rw [evE] at e
  split at e
  · rename_i k g1 e1
    split at e
    · rename_i m g2 e2
      cases e
      refine ⟨_, blt2 c hn (by decide) boot_max (by decide) (call_max2 c.calm) hs ht, ?_⟩
      refine ha E g _ _ e1 σ w R _ fun v1 w1 R1 x1 r1 => ?_
      refine hb E g1 _ _ e2 σ w1 R1 _ fun v2 w2 R2 x2 r2 => ?_
      cases r1; cases r2
      exact ⟨k, m, rfl, q _ w2 R2 (x1.trans R.ok x2) (.int _)⟩
    · cases e
  · cases e
theorem snd_minL {n : Str} (c : Cxt C Γ X Z) (hn : nmB Z "min" n = true) (hs : notStar x = true) (ha : SndO X x (evS C Γ oa)) : SndE X (.Call (.Name n p0) [x] [] pos) (evE C Γ (.minL oa)) := by
  intro E g d g' e σ w R Q q
  rw [evE] at e
  split at e
  · cases e
  · rename_i dx g1 e1
    split at e
    · rename_i its
      split at e
      · rename_i ns e2
        split at e
        · rename_i m e3
          cases e
          refine ⟨_, blt1 c hn (by decide) boot_min (by decide) (cr_min c.calm) hs, ?_⟩
          refine ha E g _ _ e1 σ w R _ fun v1 w1 R1 x1 r1 => ?_
          obtain ⟨ad, vs, hv, hq, rv⟩ := r1.lst
          subst hv
          have ev := ints_rep rv e2
          subst ev
          refine ⟨ad, ns, rfl, .inl (.inl hq), minI_pos e3, fun m' h1 h2 => ?_⟩
          rw [minI_is e3 h1 h2]
          exact q _ w1 R1 x1 (.int _)
        · cases e
      · cases e
    · cases e
theorem snd_maxL {n : Str} (c : Cxt C Γ X Z) (hn : nmB Z "max" n = true) (hs : notStar x = true) (ha : SndO X x (evS C Γ oa)) : SndE X (.Call (.Name n p0) [x] [] pos) (evE C Γ (.maxL oa)) := by
  intro E g d g' e σ w R Q q
  rw [evE] at e
  split at e
  · cases e
  · rename_i dx g1 e1
    split at e
    · rename_i its
      split at e
      · rename_i ns e2
        split at e
        · rename_i m e3
          cases e
          refine ⟨_, blt1 c hn (by decide) boot_max (by decide) (cr_max c.calm) hs, ?_⟩
          refine ha E g _ _ e1 σ w R _ fun v1 w1 R1 x1 r1 => ?_
          obtain ⟨ad, vs, hv, hq, rv⟩ := r1.lst
          subst hv
          have ev := ints_rep rv e2
          subst ev
          refine ⟨ad, ns, rfl, .inl (.inl hq), maxI_pos e3, fun m' h1 h2 => ?_⟩
          rw [maxI_is e3 h1 h2]
          exact q _ w1 R1 x1 (.int _)
        · cases e
      · cases e
    · cases e
theorem snd_sumL {n : Str} (c : Cxt C Γ X Z) (hn : nmB Z "sum" n = true) (hs : notStar x = true) (ha : SndO X x (evS C Γ oa)) : SndE X (.Call (.Name n p0) [x] [] pos) (evE C Γ (.sumL oa)) := by
  intro E g d g' e σ w R Q q
  rw [evE] at e
  split at e
  · cases e
  · rename_i dx g1 e1
    split at e
    · rename_i its
      split at e
      · rename_i ns e2
        cases e
        refine ⟨_, blt1 c hn (by decide) boot_sum (by decide) (cr_sum c.calm) hs, ?_⟩
        refine ha E g _ _ e1 σ w R _ fun v1 w1 R1 x1 r1 => ?_
        obtain ⟨ad, vs, hv, hq, rv⟩ := r1.lst
        subst hv
        have ev := ints_rep rv e2
        subst ev
        exact ⟨ad, ns, rfl, .inl (.inl hq), q _ w1 R1 x1 (.int _)⟩
      · cases e
    · cases e
theorem snd_toInt {n : Str} (c : Cxt C Γ X Z) (hn : nmB Z "int" n = true) (hs : notStar x = true) (ha : SndE X x (evE C Γ a)) : SndE X (.Call (.Name n p0) [x] [] pos) (evE C Γ (.toInt a)) := by
  intro E g d g' e σ w R Q q
  rw [evE] at e
  split at e
  · rename_i k g1 e1
    cases e
    refine ⟨_, bty1 c hn (by decide) PyProof.Rows.boot_int (by decide) call_int1 hs, ?_⟩
    refine ha E g _ _ e1 σ w R _ fun v1 w1 R1 x1 r1 => ?_
    cases r1
    exact .inl ⟨k, rfl, q _ w1 R1 x1 (.int _)⟩
  · rename_i k g1 e1
    cases e
    refine ⟨_, bty1 c hn (by decide) PyProof.Rows.boot_int (by decide) call_int1 hs, ?_⟩
    refine ha E g _ _ e1 σ w R _ fun v1 w1 R1 x1 r1 => ?_
    cases r1
    exact .inr ⟨k, rfl, q _ w1 R1 x1 (.int _)⟩
  · cases e
theorem snd_toTup {n : Str} (c : Cxt C Γ X Z) (hn : nmB Z "tuple" n = true) (hs : notStar x = true) (ha : SndO X x (evS C Γ oa)) : SndE X (.Call (.Name n p0) [x] [] pos) (evE C Γ (.toTup oa)) := by
  intro E g d g' e σ w R Q q
  rw [evE] at e
  split at e
  · rename_i its g1 e1
    cases e
    refine ⟨_, bty1 c hn (by decide) PyProof.Rows.boot_tuple (by decide) call_tuple_of hs, ?_⟩
    refine ha E g _ _ e1 σ w R _ fun v1 w1 R1 x1 r1 => ?_
    obtain ⟨ad, vs, hv, hq, rv⟩ := r1.lst
    subst hv
    exact ⟨ad, vs, rfl, .inl ⟨.inl (.inl hq), fun p hp => q _ (w1.new p _) (R1.new hp) (x1.trans R.ok (Ext.new R1.ok hp)) (rep_newT R1.ok hp rv)⟩⟩
  · rename_i its g1 e1
    cases e
    refine ⟨_, bty1 c hn (by decide) PyProof.Rows.boot_tuple (by decide) call_tuple_of hs, ?_⟩
    refine ha E g _ _ e1 σ w R _ fun v1 w1 R1 x1 r1 => ?_
    obtain ⟨ad, vs, hv, hq, rv⟩ := r1.tup
    subst hv
    exact ⟨ad, vs, rfl, .inr ⟨hq.sq, q _ w1 R1 x1 (.tup hq rv)⟩⟩
  · cases e
theorem snd_rng1 {n : Str} (c : Cxt C Γ X Z) (hn : nmB Z "range" n = true) (hs : notStar x = true) (ha : SndE X x (evE C Γ a)) : SndE X (.Call (.Name n p0) [x] [] pos) (evE C Γ (.rng1 a)) := by
  intro E g d g' e σ w R Q q
  rw [evE] at e
  split at e
  · rename_i k g1 e1
    cases e
    refine ⟨_, bty1 c hn (by decide) boot_range (by decide) cr_range1 hs, ?_⟩
    refine ha E g _ _ e1 σ w R _ fun v1 w1 R1 x1 r1 => ?_
    cases r1
    exact ⟨k, rfl, fun p hp => q _ (w1.new p _) (R1.new hp) (x1.trans R.ok (Ext.new R1.ok hp)) (rep_newR R1.ok hp)⟩
  · cases e

def tyS : Ty → String
  | .tuple => "tuple"
  | .list => "list"
  | .bool => "bool"
  | .int => "int"
  | .str => "str"
theorem tyNm_blt (t : Ty) : tyNm t ∈ bltAll ∧ bootBuiltins (tyNm t) = some (.type (tyS t)) ∧ tyNm t ≠ "__name__" := by
  cases t with
  | tuple => exact ⟨by decide, PyProof.Rows.boot_tuple, by decide⟩
  | list => exact ⟨by decide, PyProof.Rows.boot_list, by decide⟩
  | bool => exact ⟨by decide, PyProof.Rows.boot_bool, by decide⟩
  | int => exact ⟨by decide, PyProof.Rows.boot_int, by decide⟩
  | str => exact ⟨by decide, PyProof.Rows.boot_str, by decide⟩
theorem isi_rep {K : PySem.W.Frag} {w : Wd} {v : V} {d : D} {t : Ty} {k : Bool} (h : Rep K w v d) (e : isiB t d = some k) : ∃ s, TyX K w.H v (.type s) ∧ kitB s (tyS t) = some k := by
  cases h with
  | non => cases t <;> (cases e; exact ⟨_, .base .non, by decide +kernel⟩)
  | bl b => cases t <;> (cases e; exact ⟨_, .base (.bl b), by decide +kernel⟩)
  | int i => cases t <;> (cases e; exact ⟨_, .base (.int i), by decide +kernel⟩)
  | str x => cases t <;> (cases e; exact ⟨_, .base (.str x), by decide +kernel⟩)
  | @tup a vs ds h r =>
    have ty : TyX K w.H (.ref a) (.type "tuple") := by
      rcases h with ⟨_, q⟩ | q
      · exact .base (.tup q)
      · rcases q (fun _ => none) with (z | ⟨o, z⟩) | ⟨o, its, n, z, c, _⟩
        · cases z
        · cases z
        · exact .kTuple z c
    cases t <;> (cases e; exact ⟨_, ty, by decide +kernel⟩)
  | @lst a vs ds h r =>
    have ty : TyX K w.H (.ref a) (.type "list") := .base (.lst h.2)
    cases t <;> (cases e; exact ⟨_, ty, by decide +kernel⟩)
  | @fro a vs ds h r =>
    have ty : TyX K w.H (.ref a) (.type "list") := by
      rcases h with ⟨_, o, q⟩ | q
      · exact .base (.frz q)
      · rcases q (fun _ => none) with (z | ⟨o, z⟩) | ⟨o, its, n, z, c, _⟩
        · cases z
        · cases z
        · exact .kList z c
    cases t <;> (cases e; exact ⟨_, ty, by decide +kernel⟩)
  | ref h => cases t <;> cases e
  | rng n h => cases t <;> cases e
theorem snd_isi {n m : Str} {p2 : Pos} {t : Ty} (c : Cxt C Γ X Z) (hn : nmB Z "isinstance" n = true) (hm : nmB Z (tyNm t) m = true) (hs : notStar x = true) (ha : SndE X x (evE C Γ a)) : SndE X (.Call (.Name n p0) [x, .Name m p2] [] pos) (evE C Γ (.isi t a)) := by
  intro E g d g' e σ w R Q q
  obtain ⟨hb, hv, h0⟩ := tyNm_blt t
  obtain ⟨rfl, h1, h2, h3⟩ := c.nm hm hb
  obtain ⟨rfl, h4, h5, h6⟩ := c.nm hn (by decide)
  rw [evE] at e
  split at e
  · rename_i dx g1 e1
    split at e
    · rename_i k e2
      cases e
      have pe2 : PE X (.Name (tyNm t) p2) (tC (.ty (tyS t))) := pe_bltn h1 h2 hv rfl h0 h3
      refine ⟨_, pe_callB call_isi h4 h5 boot_isinstance (pa_cons (pe_we X x) (pa_cons pe2 pa_nil rfl) (star_cons hs)) (by decide) h6 (star_cons hs) rfl, ?_⟩
      refine ha E g _ _ e1 σ w R _ fun v1 w1 R1 x1 r1 => ?_
      obtain ⟨s, ty, kb⟩ := isi_rep r1 e2
      exact ⟨v1, .ty (tyS t), .type s, .type (tyS t), k, rfl, .ty _, ty, kit_ty kb, q _ w1 R1 x1 (.bl _)⟩
    · cases e
  · cases e
end
end DP

set_option linter.all false
set_option Elab.async false
/-! DIt: zip and enumerate over lists and tuples in any mix. By an AI agent. -/
namespace DP
open PySem PySem.Spec PyProof.Rows L2

inductive Kd where | l | t
def SqK (k : Kd) (K : PySem.W.Frag) (H : Hp) (a : Addr) (xs : List V) : Prop := match k with
  | .l => SqL K H a xs
  | .t => SqT K H a xs
def itS (k : Kd) (h : Heap) (it a : Addr) (i : Nat) : Prop := match k with
  | .l => h.IsListIter it a i
  | .t => h.IsTupleIter it a i
def isK (k : Kd) (h : Heap) (a : Addr) (its : Array Value) : Prop := match k with
  | .l => h.IsList a its
  | .t => h.IsTuple a its
def itO (k : Kd) (a : Addr) : Obj := match k with
  | .l => { cls := .type "list_iterator", data := .fields #[.ref a, .int 0 0] }
  | .t => { cls := .type "tuple_iterator", data := .fields #[.ref a, .int 0 0] }
theorem drawsK {prog : Program} {w : World} {A : Around} (hh : A.handled = none) (k : Kd) (it a : Addr) (hne : a ≠ it) (its : Array Value) :
    Draws prog w A it [it, a] its.size (fun i v => its[i]? = some v) (fun i h => itS k h it a i ∧ isK k h a its) := match k with
  | .l => Draws.list hh it a hne its
  | .t => Draws.tuple hh it a hne its
theorem begK (k : Kd) (a : Addr) (its : Array Value) : Begins (.ref a) (itO k a) (fun h => isK k h a its) := match k with
  | .l => begins_list a its
  | .t => begins_tuple a its
theorem itS_at {k : Kd} {h h' : Heap} {it a : Addr} {i : Nat} (x : itS k h it a i) (e : ∀ o, h.get? it = some o → h'.get? it = some o) : itS k h' it a i := by
  cases k with
  | l => obtain ⟨o, ho, r⟩ := x; exact ⟨o, e o ho, r⟩
  | t => obtain ⟨o, ho, r⟩ := x; exact ⟨o, e o ho, r⟩
theorem itS_new {k : Kd} {h : Heap} {it a : Addr} (e : h.get? it = some (itO k a)) : itS k h it a 0 := by
  cases k with
  | l => exact ⟨_, e, rfl, rfl⟩
  | t => exact ⟨_, e, rfl, rfl⟩
theorem itS_obj {k : Kd} {h : Heap} {it a : Addr} {i : Nat} (x : itS k h it a i) : ∃ o, h.get? it = some o ∧ ∀ v, o.data ≠ .cell v := by
  cases k with
  | l => obtain ⟨o, ho, _, d⟩ := x; exact ⟨o, ho, fun v z => by rw [d] at z; cases z⟩
  | t => obtain ⟨o, ho, _, d⟩ := x; exact ⟨o, ho, fun v z => by rw [d] at z; cases z⟩
theorem isK_lt {k : Kd} {h : Heap} {a : Addr} {its : Array Value} (x : isK k h a its) : a < h.objs.size := by
  cases k with
  | l => obtain ⟨o, ho, _⟩ := x; exact Heap.lt_size ho
  | t => obtain ⟨o, ho, _⟩ := x; exact Heap.lt_size ho
section
variable {X : Cx} {pins : List (Addr × Obj)} {σ : L2.St} {H : Hp} {s : Shared} {a : Addr} {xs ys : List V} {k : Kd}
theorem sqK_at (I : Inv X pins σ H s) (h : SqK k X.K H a xs) : ∃ its : List Value, Vals xs its ∧ isK k s.heap a its.toArray ∧ xs.length ≤ sizeLine := by
  cases k with
  | l => obtain ⟨its, r, p, z⟩ := I.list h; exact ⟨its, r, p.isList, z⟩
  | t => obtain ⟨its, r, p, z⟩ := I.tuple h; exact ⟨its, r, p, z⟩
theorem sqK_inj (I : Inv X pins σ H s) (h : SqK k X.K H a xs) (h' : SqK k X.K H a ys) : xs = ys := by
  cases k with
  | l => exact I.list_inj h h'
  | t => exact I.tuple_inj h h'
end

/-! ### zip -/
def ItZ (k1 k2 : Kd) (K : PySem.W.Frag) (a b : Addr) : It :=
  ⟨fun i H => ∃ (xs ys : List V) (x y : V), SqK k1 K H a xs ∧ SqK k2 K H b ys ∧ xs[i]? = some x ∧ ys[i]? = some y,
    fun i H v H' => ∃ T x y, v = .ref T ∧ H T = none ∧ H' = upd H T (.tup [x, y]) ∧ (∀ xs, SqK k1 K H a xs → xs[i]? = some x) ∧ ∀ ys, SqK k2 K H b ys → ys[i]? = some y,
    fun i H => ∃ xs ys : List V, SqK k1 K H a xs ∧ SqK k2 K H b ys ∧ i ≤ xs.length ∧ i ≤ ys.length ∧ (i = xs.length ∨ i = ys.length)⟩
structure ZApart (z TI TO i1 i2 : Addr) : Prop where
  h : TI ≠ z ∧ TO ≠ z ∧ TI ≠ TO ∧ TI ≠ i1 ∧ TI ≠ i2 ∧ TO ≠ i1 ∧ TO ≠ i2 ∧ i1 ≠ i2 ∧ z ≠ i1 ∧ z ≠ i2
theorem zsep {z TI TO i1 i2 a b : Addr} (Z : ZApart z TI TO i1 i2) (ha : a ≠ z ∧ a ≠ TO ∧ a ≠ i2) (hb : b ≠ z ∧ b ≠ TO ∧ b ≠ i1) : ZipSep2 z TI TO i1 i2 [i1, a] [i2, b] := by
  obtain ⟨h1, h2, h3, h4, h5, h6, h7, h8, h9, h10⟩ := Z.h
  exact ⟨h1, h2, h3, h4, by simp, by simp [h9, ha.1.symm], by simp [h6, ha.2.1.symm], h5, by simp, by simp [h10, hb.1.symm], by simp [h7, hb.2.1.symm], by simp [h8, hb.2.2.symm], by simp [h8.symm, ha.2.2.symm]⟩
theorem ty_ne {a b : String} (h : a ≠ b) : Value.type a ≠ Value.type b := fun z => h (Value.type.inj z)
/-- what is read is no iterator's cell -/
theorem isK_ne {k : Kd} {h : Heap} {a b : Addr} {its : Array Value} (x : isK k h a its) {o : Obj} (e : h.get? b = some o) (n1 : o.cls ≠ .type "list") (n2 : o.cls ≠ .type "tuple") : a ≠ b := fun z => by
  subst z
  cases k with
  | l => obtain ⟨o', ho', c, _⟩ := x; rw [e] at ho'; cases ho'; exact n1 c
  | t => obtain ⟨o', ho', c, _⟩ := x; rw [e] at ho'; cases ho'; exact n2 c
theorem itS_cls {k : Kd} {h : Heap} {it a : Addr} {i : Nat} (x : itS k h it a i) : ∃ o, h.get? it = some o ∧ o.cls ≠ .type "list" ∧ o.cls ≠ .type "tuple" := by
  cases k with
  | l => obtain ⟨o, ho, c, d⟩ := x; exact ⟨o, ho, by rw [c]; decide, by rw [c]; decide⟩
  | t => obtain ⟨o, ho, c, d⟩ := x; exact ⟨o, ho, by rw [c]; decide, by rw [c]; decide⟩
/-- the state of a zip that is walked; a, b lie apart from the pair that it keeps -/
def zSt (k1 k2 : Kd) (z TI TO i1 i2 a b : Addr) (i : Nat) (h : Heap) : Prop :=
  IsZip h z TI TO .none ∧ IsTupOf2 h TI (.ref i1) (.ref i2) ∧ (∃ x y, IsTupOf2 h TO x y) ∧ itS k1 h i1 a i ∧ itS k2 h i2 b i
theorem turn_zK {P : Program} {w : World} {K : PySem.W.Frag} {elts : List Expr} {kk : Nat} {tpos : Pos} {k1 k2 : Kd} {a b z TI TO i1 i2 : Addr} (Z : ZApart z TI TO i1 i2) (nA : a ≠ TO) (nB : b ≠ TO) :
    Turn P w K (.Tuple elts kk tpos) (ItZ k1 k2 K a b) [z, TI, TO, i1, i2] z (zSt k1 k2 z TI TO i1 i2 a b) where
  mem := by simp
  obj := fun i h st c hc => by
    obtain ⟨hz, hTI, ⟨x, y, hTO⟩, h1, h2⟩ := st
    have e' : c = z ∨ c = TI ∨ c = TO ∨ c = i1 ∨ c = i2 := by simpa using hc
    rcases e' with q | q | q | q | q
    · rw [q]; exact ⟨_, hz, fun v q => nomatch q⟩
    · rw [q]; exact ⟨_, hTI, fun v q => nomatch q⟩
    · rw [q]; exact ⟨_, hTO, fun v q => nomatch q⟩
    · rw [q]; exact itS_obj h1
    · rw [q]; exact itS_obj h2
  keep := fun i h h' st k => by
    obtain ⟨hz, hTI, ⟨x, y, hTO⟩, h1, h2⟩ := st
    exact ⟨k z (by simp) _ hz, k TI (by simp) _ hTI, ⟨x, y, k TO (by simp) _ hTO⟩, itS_at h1 fun o q => k i1 (by simp) o q, itS_at h2 fun o q => k i2 (by simp) o q⟩
  item := by
    intro X hP hw hK hc i pins s σ H E I hf st hg
    subst hP hw hK
    obtain ⟨hz, hTI, ⟨x0, y0, hTO⟩, h1, h2⟩ := st
    obtain ⟨xs, ys, x, y, hqx, hqy, hx, hy⟩ := hg
    obtain ⟨its, rv, p, _⟩ := sqK_at I hqx
    obtain ⟨its2, rv2, p2, _⟩ := sqK_at I hqy
    have hzl : z < s.heap.objs.size := Heap.lt_size hz
    have hh : X.A.in1.handled = none := I.ok.hd hc
    obtain ⟨o1, e1, n1, m1⟩ := itS_cls h1
    obtain ⟨o2, e2, n2, m2⟩ := itS_cls h2
    have az : a ≠ z := isK_ne p hz (ty_ne (by decide)) (ty_ne (by decide))
    have bz : b ≠ z := isK_ne p2 hz (ty_ne (by decide)) (ty_ne (by decide))
    have a1 : a ≠ i1 := isK_ne p e1 n1 m1
    have a2 : a ≠ i2 := isK_ne p e2 n2 m2
    have b1 : b ≠ i1 := isK_ne p2 e1 n1 m1
    have b2 : b ≠ i2 := isK_ne p2 e2 n2 m2
    have S := zsep Z ⟨az, nA, a2⟩ ⟨bz, nB, b1⟩
    have li : i < xs.length := (List.getElem?_eq_some_iff.mp hx).1
    have li2 : i < ys.length := (List.getElem?_eq_some_iff.mp hy).1
    refine wpAny_pyNext_zipD2_item S (drawsK hh k1 i1 a a1 its.toArray) (drawsK hh k2 i2 b b2 its2.toArray) hz hTI hTO ⟨h1, p⟩ ⟨h2, p2⟩ (by rw [List.size_toArray, ← rv.length]; exact li) (by rw [List.size_toArray, ← rv2.length]; exact li2) fun u u2 h' tk hu hu2 z' TO' st1 st2 hT hsz hk => ?_
    obtain ⟨u', q1, ru⟩ := rv.get hx
    obtain ⟨u2', q2, ru2⟩ := rv2.get hy
    have eu : u = u' := by
      have : its[i]? = some u := by simpa using hu
      rw [q1] at this; exact (Option.some.inj this).symm
    have eu2 : u2 = u2' := by
      have : its2[i]? = some u2 := by simpa using hu2
      rw [q2] at this; exact (Option.some.inj this).symm
    subst eu; subst eu2
    refine ⟨_, rfl, wpAny_letOwnedTupleGo_zip (s := { s with heap := h', toks := tk }) z' fun h'' z'' sb => ?_⟩
    have hT2 : h''.get? s.heap.objs.size = some { cls := .type "tuple", data := .seq #[u, u2] } := (sb.2 _ (Nat.ne_of_gt hzl)).trans hT
    have new : ObjOk X.prog X.w (upd H s.heap.objs.size (.tup [x, y])) h'' s.heap.objs.size (.tup [x, y]) := by
      refine ⟨?_, [u, u2], .cons ru (.cons ru2 .nil), _, hT2, rfl, _, rfl⟩
      show 2 ≤ sizeLine
      decide
    have I1 : Inv X pins σ (upd H s.heap.objs.size (.tup [x, y])) { s with heap := h'', toks := tk } := by
      refine I.turnedNew (ch := [z, TI, TO, i1, i2]) (fun c o hb q => ?_) hf (Nat.le_refl _) new
      have nc : c ≠ z ∧ c ≠ TO ∧ c ≠ i1 ∧ c ≠ i2 := ⟨fun q' => hb (by simp [q']), fun q' => hb (by simp [q']), fun q' => hb (by simp [q']), fun q' => hb (by simp [q'])⟩
      exact (sb.2 c nc.1).trans (hk c o nc.1 nc.2.1 nc.2.2.1 nc.2.2.2 q)
    obtain ⟨g1, g2, g3, g4, g5, g6, g7, g8, g9, g10⟩ := Z.h
    refine ⟨.ref s.heap.objs.size, _, I1, rfl, ⟨_, x, y, rfl, I.hok.fresh (Nat.le_refl _), rfl, fun l hl => by rw [sqK_inj I hl hqx]; exact hx, fun l hl => by rw [sqK_inj I hl hqy]; exact hy⟩, ⟨z'', ?_, ⟨u, u2, ?_⟩, ?_, ?_⟩, fun c hcm => ?_⟩
    · exact (sb.2 _ g1).trans (hk _ _ g1 g3 g4 g5 hTI)
    · exact (sb.2 _ g2).trans TO'
    · exact itS_at st1.1 fun o q => (sb.2 _ g9.symm).trans q
    · exact itS_at st2.1 fun o q => (sb.2 _ g10.symm).trans q
    · have hlt : c < s.heap.objs.size := by
        have e' : c = z ∨ c = TI ∨ c = TO ∨ c = i1 ∨ c = i2 := by simpa using hcm
        rcases e' with q | q | q | q | q
        · rw [q]; exact hzl
        · rw [q]; exact Heap.lt_size hTI
        · rw [q]; exact Heap.lt_size hTO
        · rw [q]; exact Heap.lt_size e1
        · rw [q]; exact Heap.lt_size e2
      rw [upd_ne (Nat.ne_of_lt hlt)]
      exact (hf c hcm).1
  done := by
    intro X hP hw hK hc i pins s σ H E I hf st hg
    subst hP hw hK
    obtain ⟨hz, hTI, ⟨x0, y0, hTO⟩, h1, h2⟩ := st
    obtain ⟨xs, ys, hqx, hqy, l1, l2, hend⟩ := hg
    obtain ⟨its, rv, p, _⟩ := sqK_at I hqx
    obtain ⟨its2, rv2, p2, _⟩ := sqK_at I hqy
    have hh : X.A.in1.handled = none := I.ok.hd hc
    obtain ⟨o1, e1, n1, m1⟩ := itS_cls h1
    obtain ⟨o2, e2, n2, m2⟩ := itS_cls h2
    have az : a ≠ z := isK_ne p hz (ty_ne (by decide)) (ty_ne (by decide))
    have bz : b ≠ z := isK_ne p2 hz (ty_ne (by decide)) (ty_ne (by decide))
    have S := zsep Z ⟨az, nA, isK_ne p e2 n2 m2⟩ ⟨bz, nB, isK_ne p2 e1 n1 m1⟩
    have r1 := rv.length
    have r2 := rv2.length
    refine wpAny_pyNext_zipD2_end S (drawsK hh k1 i1 a (isK_ne p e1 n1 m1) its.toArray) (drawsK hh k2 i2 b (isK_ne p2 e2 n2 m2) its2.toArray) hz hTI hTO ⟨h1, p⟩ ⟨h2, p2⟩ (by rw [List.size_toArray, ← r1]; exact l1) (by rw [List.size_toArray, ← r2]; exact l2) ?_ fun h' tk hk => ⟨rfl, ?_⟩
    · rcases hend with q | q
      · exact .inl (by rw [List.size_toArray, ← r1]; exact q)
      · exact .inr (by rw [List.size_toArray, ← r2]; exact q)
    · exact I.turnedL (ch := [z, TI, TO, i1, i2]) (fun c o hb q => hk c o (fun q' => hb (by simp [q'])) (fun q' => hb (by simp [q'])) (fun q' => hb (by simp [q'])) (fun q' => hb (by simp [q'])) q) hf
  self := fun A i s Q E st h => wpAny_pyIter_zip st.1 h
def iZipK (K : PySem.W.Frag) (ta : TA) : TI := fun σ H R => ta σ H fun vs H1 => ∃ k1 k2 a b xs ys, vs = [.ref a, .ref b] ∧ SqK k1 K H1 a xs ∧ SqK k2 K H1 b ys ∧ R (ItZ k1 k2 K a b) H1
theorem nat_apart (n : Nat) : n + 2 ≠ n + 4 ∧ n + 3 ≠ n + 4 ∧ n + 2 ≠ n + 3 ∧ n + 2 ≠ n ∧ n + 2 ≠ n + 1 ∧ n + 3 ≠ n ∧ n + 3 ≠ n + 1 ∧ n ≠ n + 1 ∧ n + 4 ≠ n ∧ n + 4 ≠ n + 1 := by omega
theorem nat_five {n c : Nat} (h : c = n + 4 ∨ c = n + 2 ∨ c = n + 3 ∨ c = n ∨ c = n + 1) : n ≤ c := by omega
theorem nat_lt3 {n a : Nat} (h : a < n) : a ≠ n + 3 := by omega
theorem pi_zipK {X : Cx} {e e2 : Expr} {ta : TA} {p pos tpos : Pos} {elts : List Expr} {kk : Nat} (hg : Gl X "zip") (hm : X.mg "zip" = none) (ha : PA X [e, e2] ta) (hs : notStar e = true) (ht : notStar e2 = true) :
    PI X (.Tuple elts kk tpos) (.Call (.Name "zip" p) [e, e2] [] pos) (iZipK X.K ta) := by
  refine ⟨fun pins s σ H R I h => ?_⟩
  refine Call_ (ld_blt I hg hm PyProof.Rows.boot_zip (PyProof.Rows.callWith_type1 (thn (ha.run pos pins s σ H _ I h) fun us s1 ⟨vs, H1, I1, r1, q1⟩ => ?_) (star_cons hs) (star_any fun e' he => by rw [List.mem_singleton.mp he]; exact ht)))
  obtain ⟨k1, k2, a, b, xs, ys, ex, hqx, hqy, q⟩ := q1
  subst ex
  obtain ⟨u1, u2, rfl, ra, rb⟩ := vals2 r1
  cases ra
  cases rb
  obtain ⟨its, rv, p1, _⟩ := sqK_at I1 hqx
  obtain ⟨its2, rv2, p2, _⟩ := sqK_at I1 hqy
  have la : a < s1.heap.objs.size := isK_lt p1
  have lb : b < s1.heap.objs.size := isK_lt p2
  refine zip_begins2 (begK k1 a its.toArray) (begK k2 b its2.toArray) p1 p2 fun h' hz hTI hTO g1 g2 hsz hk => wpAny_pyIter_zip hz ?_
  have I2 : Inv X pins σ H1 { s1 with heap := h' } := I1.kept (t' := s1.toks) hk
  refine ⟨s1.heap.objs.size + 4, [s1.heap.objs.size + 4, s1.heap.objs.size + 2, s1.heap.objs.size + 3, s1.heap.objs.size, s1.heap.objs.size + 1], _, _, H1, rfl, I2, turn_zK ⟨nat_apart _⟩ (nat_lt3 la) (nat_lt3 lb), ⟨hz, hTI, ⟨_, _, hTO⟩, itS_new g1, itS_new g2⟩, fun c hcm => ?_, q⟩
  have hle : s1.heap.objs.size ≤ c := nat_five (by simpa using hcm)
  exact I1.fpOk hle (I1.hok.fresh hle)

/-! ### enumerate -/
def ItE (k : Kd) (K : PySem.W.Frag) (a : Addr) : It :=
  ⟨fun i H => ∃ (xs : List V) (x : V), SqK k K H a xs ∧ xs[i]? = some x,
    fun i H v H' => ∃ T x, v = .ref T ∧ H T = none ∧ H' = upd H T (.tup [.int ((i : Nat) : Int), x]) ∧ ∀ xs, SqK k K H a xs → xs[i]? = some x,
    fun i H => ∃ xs : List V, SqK k K H a xs ∧ xs.length = i⟩
def eSt (k : Kd) (e it a : Addr) (i : Nat) (h : Heap) : Prop := (∃ old, IsEnum h e it ((i : Nat) : Int) old) ∧ itS k h it a i
theorem turn_eK {P : Program} {w : World} {K : PySem.W.Frag} {elts : List Expr} {kk : Nat} {tpos : Pos} {k : Kd} {a e it : Addr} (hne : e ≠ it) :
    Turn P w K (.Tuple elts kk tpos) (ItE k K a) [e, it] e (eSt k e it a) where
  mem := by simp
  obj := fun i h st b hb => by
    obtain ⟨⟨old, he⟩, h1⟩ := st
    have e' : b = e ∨ b = it := by simpa using hb
    rcases e' with z | z
    · rw [z]; exact ⟨_, he, fun v q => nomatch q⟩
    · rw [z]; exact itS_obj h1
  keep := fun i h h' st k => by
    obtain ⟨⟨old, he⟩, h1⟩ := st
    exact ⟨⟨old, k e (by simp) _ he⟩, itS_at h1 fun o q => k it (by simp) o q⟩
  item := by
    intro X hP hw hK hc i pins s σ H E I hf st hg
    subst hP hw hK
    obtain ⟨⟨old, he⟩, h1⟩ := st
    obtain ⟨xs, x, hq, hx⟩ := hg
    obtain ⟨its, rv, p, _⟩ := sqK_at I hq
    have hh : X.A.in1.handled = none := I.ok.hd hc
    obtain ⟨o1, e1, n1, m1⟩ := itS_cls h1
    have ae : a ≠ e := isK_ne p he (ty_ne (by decide)) (ty_ne (by decide))
    have a1 : a ≠ it := isK_ne p e1 n1 m1
    have li : i < xs.length := (List.getElem?_eq_some_iff.mp hx).1
    have hel : e < s.heap.objs.size := Heap.lt_size he
    have hil : it < s.heap.objs.size := Heap.lt_size e1
    refine wpAny_pyNext_enum_itemD (drawsK hh k it a a1 its.toArray) he ⟨h1, p⟩ (by rw [List.size_toArray, ← rv.length]; exact li) hne (by simp [hne, ae.symm]) fun u h' tk hu ho st' hT hsz hk => ?_
    obtain ⟨u', q1, ru⟩ := rv.get hx
    have eu : u = u' := by
      have : its[i]? = some u := by simpa using hu
      rw [q1] at this; exact (Option.some.inj this).symm
    subst eu
    refine ⟨_, rfl, wpAny_letOwnedTupleGo_enum (s := { s with heap := h', toks := tk + 1 }) ho fun h'' he' sb => ?_⟩
    have hT2 : h''.get? s.heap.objs.size = some { cls := .type "tuple", data := .seq #[.int i tk, u] } := (sb.2 _ (Nat.ne_of_gt hel)).trans hT
    have new : ObjOk X.prog X.w (upd H s.heap.objs.size (.tup [.int ((i : Nat) : Int), x])) h'' s.heap.objs.size (.tup [.int ((i : Nat) : Int), x]) := by
      refine ⟨?_, [.int i tk, u], .cons ⟨_, rfl⟩ (.cons ru .nil), _, hT2, rfl, _, rfl⟩
      show 2 ≤ sizeLine
      decide
    have I1 : Inv X pins σ (upd H s.heap.objs.size (.tup [.int ((i : Nat) : Int), x])) { s with heap := h'', toks := tk + 1 } := by
      refine I.turnedNew (ch := [e, it]) (fun c o hb q => ?_) hf (Nat.le_refl _) new
      have nc : c ≠ e ∧ c ≠ it := ⟨fun q' => hb (by simp [q']), fun q' => hb (by simp [q'])⟩
      exact (sb.2 c nc.1).trans (hk c o nc.1 nc.2 q)
    refine ⟨.ref s.heap.objs.size, _, I1, rfl, ⟨_, x, rfl, I.hok.fresh (Nat.le_refl _), rfl, fun l hl => by rw [sqK_inj I hl hq]; exact hx⟩, ⟨⟨u, ?_⟩, ?_⟩, fun c hcm => ?_⟩
    · have e2 : ((i + 1 : Nat) : Int) = (i : Int) + 1 := by omega
      rw [e2]; exact he'
    · exact itS_at st'.1 fun o q => (sb.2 _ hne.symm).trans q
    · have hlt : c < s.heap.objs.size := by
        have e' : c = e ∨ c = it := by simpa using hcm
        rcases e' with q | q
        · rw [q]; exact hel
        · rw [q]; exact hil
      rw [upd_ne (Nat.ne_of_lt hlt)]
      exact (hf c hcm).1
  done := by
    intro X hP hw hK hc i pins s σ H E I hf st hg
    subst hP hw hK
    obtain ⟨⟨old, he⟩, h1⟩ := st
    obtain ⟨xs, hq, l1⟩ := hg
    obtain ⟨its, rv, p, _⟩ := sqK_at I hq
    have hh : X.A.in1.handled = none := I.ok.hd hc
    obtain ⟨o1, e1, n1, m1⟩ := itS_cls h1
    have sz : its.toArray.size = i := by rw [List.size_toArray, ← rv.length]; exact l1
    obtain ⟨f0, f1, f2, f3, f4, f5⟩ := hf it (by simp)
    refine wpAny_pyNext_enum_endD (drawsK hh k it a (isK_ne p e1 n1 m1) its.toArray) he ⟨by rw [sz]; exact h1, p⟩ fun h' eb => ⟨rfl, I.turned (t' := s.toks) (fun b o hb q => eb b o hb q) f0 f1 f3 f4 f5⟩
  self := fun A i s Q E st h => let ⟨⟨_, he⟩, _⟩ := st; wpAny_pyIter_enum he h
set_option maxHeartbeats 1000000 in
/-- enumerate(v), v told by how its iterator begins -/
theorem meets_enum1 {v : Value} {o : Obj} {P : Heap → Prop} (B : Begins v o P) :
    Meets (Builtin.«enumerate.__new__» ⟨[.type "enumerate", v], []⟩) (fun _ R s => P s.heap ∧
      R (.ok (.ret (.ref (s.heap.push o).objs.size))) { s with heap := (s.heap.push o).push { cls := .type "enumerate", data := .fields #[.none, .bool false, .ref s.heap.objs.size, rawInt 0, .none, .none] } }) := by
  refine .of_wp fun prog w A R s hh => ?_
  obtain ⟨hp, gs, dr, tk, os⟩ := s
  obtain ⟨hP, hR⟩ := hh
  have hsub := sub_enumerate
  have it1 : ∀ {A' : Around} {E : Value → Shared → Prop} {Q : Value → Shared → Prop}, Q (.ref hp.objs.size) ⟨hp.push o, gs, dr, tk, os⟩ → wpAny (model prog w) A' (pyIter v) Q E ⟨hp, gs, dr, tk, os⟩ := by
    intro A' E Q q
    exact B.iter prog w _ _ ⟨hp, gs, dr, tk, os⟩ _ hP q
  wp_walk using it1
  refine wpAny_stack_any fun _ => wpAny_pure ?_
  split
  · rename_i cc _ _ _ _ _
    cases (cc == Value.type "enumerate") <;> (wp_walk using it1; exact ⟨_, rfl, hR⟩)
  · wp_walk using it1
    exact ⟨_, rfl, hR⟩
theorem call_enumK {prog : Program} {w : World} {A : Around} {E : Value → Shared → Prop} {s : Shared} {k : Kd} {a : Addr} {its : Array Value} {Q : Value → Shared → Prop} (p : isK k s.heap a its)
    (h : ∀ h', IsEnum h' (s.heap.objs.size + 1) s.heap.objs.size 0 .none → itS k h' s.heap.objs.size a 0 → (∀ b o, s.heap.get? b = some o → h'.get? b = some o) → Q (.ref (s.heap.objs.size + 1)) { s with heap := h' }) :
    wpAny (model prog w) A (call (.type "enumerate") [.ref a]) Q E s := by
  refine callType_new F.called_enumerate (by decide) (F.typeCall_enumerate_1 _) (F.newCall_enumerate_1 _) (fun obj => F.args_object_init_2 obj _) F.entry_enumerate_new (meets_enum1 (begK k a its)) ⟨p, ?_⟩
  have sz : (s.heap.push (itO k a)).objs.size = s.heap.objs.size + 1 := Heap.size_push ..
  have fr : (itO k a).isFreed = false := (begK k a its).free
  show _ ∧ _
  rw [sz]
  have hE : IsEnum ((s.heap.push (itO k a)).push { cls := .type "enumerate", data := .fields #[.none, .bool false, .ref s.heap.objs.size, rawInt 0, .none, .none] }) (s.heap.objs.size + 1) s.heap.objs.size 0 .none := by
    have q := Heap.get?_push_size (s.heap.push (itO k a)) (o := { cls := .type "enumerate", data := .fields #[.none, .bool false, .ref s.heap.objs.size, rawInt 0, .none, .none] }) rfl
    rw [sz] at q
    exact q
  exact ⟨⟨_, hE, rfl⟩, h _ hE (itS_new (Heap.get?_push_of_some _ (Heap.get?_push_size _ fr))) fun b o x => Heap.get?_push_of_some _ (Heap.get?_push_of_some _ x)⟩
def iEnumK (K : PySem.W.Frag) (ta : TA) : TI := fun σ H R => ta σ H fun vs H1 => ∃ k a xs, vs = [.ref a] ∧ SqK k K H1 a xs ∧ R (ItE k K a) H1
theorem nat_two {n c : Nat} (h : c = n + 1 ∨ c = n) : n ≤ c := by omega
theorem pi_enumK {X : Cx} {e : Expr} {ta : TA} {p pos tpos : Pos} {elts : List Expr} {kk : Nat} (hg : Gl X "enumerate") (hm : X.mg "enumerate" = none) (ha : PA X [e] ta) (hs : notStar e = true) :
    PI X (.Tuple elts kk tpos) (.Call (.Name "enumerate" p) [e] [] pos) (iEnumK X.K ta) := by
  refine ⟨fun pins s σ H R I h => ?_⟩
  refine Call_ (ld_blt I hg hm boot_enumerate (PyProof.Rows.callWith_type1 (thn (ha.run pos pins s σ H _ I h) fun us s1 ⟨vs, H1, I1, r1, q1⟩ => ?_) (star_cons hs) rfl))
  obtain ⟨k, a, xs, ex, hq, q⟩ := q1
  subst ex
  obtain ⟨u1, rfl, ra⟩ := vals1 r1
  cases ra
  obtain ⟨its, rv, p1, _⟩ := sqK_at I1 hq
  refine call_enumK p1 fun h' he hit hk => wpAny_pyIter_enum he ?_
  have I2 : Inv X pins σ H1 { s1 with heap := h' } := I1.kept (t' := s1.toks) hk
  refine ⟨s1.heap.objs.size + 1, [s1.heap.objs.size + 1, s1.heap.objs.size], _, _, H1, rfl, I2, turn_eK (Nat.succ_ne_self _), ⟨⟨_, he⟩, hit⟩, fun c hcm => ?_, q⟩
  have hle : s1.heap.objs.size ≤ c := nat_two (by simpa using hcm)
  exact I1.fpOk hle (I1.hok.fresh hle)
end DP

set_option linter.all false
set_option Elab.async false
/-! DTg: targets, what is walked, comprehensions. By an AI agent. -/
namespace DP
open PySem PySem.Spec PyProof.Rows L2

/-! ### a list unpacked -/
section
variable {prog : Program} {w : World} {A : Around} {E : Value → Shared → Prop} {s : Shared}
theorem draw_lst {it l : Addr} {items : Array Value} (hne : l ≠ it) : ∀ (n i : Nat) (s : Shared) (Q : List Value → Shared → Prop), s.heap.IsListIter it l i → s.heap.IsList l items → i + n ≤ items.size →
    (∀ h', h'.IsListIter it l (i + n) → Heap.SameBut it s.heap h' → Q ((items.toList.drop i).take n) { s with heap := h' }) → wpAny (model prog w) A (draw (.ref it) n) Q E s := by
  intro n
  induction n with
  | zero =>
    intro i s Q hit _ _ hQ
    exact wpAny_pure (by simpa using hQ s.heap hit (Heap.SameBut.refl ..))
  | succ n ih =>
    intro i s Q hit hl hle hQ
    have hlt : i < items.size := by omega
    refine wpAny_bind (wpAny_pyNext_list_item hit hl (x := items[i]) (by simp [hlt]) fun g1 hit1 sb1 => ?_)
    refine wpAny_bind (wpAny_holding (ih (i + 1) _ _ hit1 (hl.extBut sb1.extBut hne) (by omega) fun g2 hit2 sb2 => wpAny_pure ?_))
    have hd : items.toList.drop i = items[i] :: items.toList.drop (i + 1) := by simp [List.drop_eq_getElem_cons, hlt]
    have fin := hQ g2 (by rw [show i + (n + 1) = i + 1 + n by omega]; exact hit2) (sb1.trans sb2)
    rw [hd, List.take_succ_cons] at fin
    exact fin
theorem unpackItems_lst {l : Addr} {items : Array Value} {Q : List Value → Shared → Prop} (hh : A.handled = none) (hl : s.heap.IsList l items)
    (hQ : ∀ h', Heap.ExtBut s.heap.objs.size s.heap h' → Q items.toList { s with heap := h' }) : wpAny (model prog w) A (unpackItems (.ref l) items.size none) Q E s := by
  have hne : l ≠ s.heap.objs.size := by obtain ⟨o, ho, _⟩ := hl; exact Nat.ne_of_lt (Heap.lt_size ho)
  have hpush : ∀ o, (s.heap.push o).IsList l items := fun o => by obtain ⟨o1, ho, r⟩ := hl; exact ⟨o1, Heap.get?_push_of_some _ ho, r⟩
  unfold unpackItems
  refine wpAny_bind ?_
  · unfold notIterableAtAll
    refine wpAny_bind (wpAny_specialOf hl.typeIs PySem.F.slot_list_iter.lookup (wpAny_pure ?_))
    simp only [Bool.false_eq_true, if_false]
    refine wpAny_bind (wpAny_holding (wpAny_pyIter_list hl ?_))
    refine wpAny_bind (wpAny_holding (draw_lst hne items.size 0 _ _ ⟨_, Heap.get?_push_size _ rfl, rfl, rfl⟩ (hpush _) (by omega) fun g1 hit1 sb1 => ?_))
    have hall : List.take items.size (List.drop 0 items.toList) = items.toList := by
      rw [List.drop_zero]; exact List.take_of_length_le (by simp)
    rw [hall, if_neg (by simp)]
    refine wpAny_bind (wpAny_holding (wpAny_pyNext_list_end hh hit1 ((hpush _).extBut sb1.extBut hne) (by simp) fun g2 eb2 => ?_))
    simp only [Option.isSome_none, Bool.false_eq_true, if_false]
    exact wpAny_pure (hQ g2 fun b o hb e => eb2 b o hb (sb1.extBut b o hb (Heap.get?_push_of_some _ e)))
theorem assign_Tuple_lst {env : Env} {elts : List Expr} {k : Nat} {pos : Pos} {l : Addr} {items : Array Value} {Q : Unit → Shared → Prop} (hh : A.handled = none) (hl : s.heap.IsList l items)
    (hn : (assignEach elts env).length = items.size) (hst : (assignEach elts env).findIdx? (·.1) = none)
    (h : ∀ h', Heap.ExtBut s.heap.objs.size s.heap h' → wpAny (model prog w) A (assignInOrder ((assignEach elts env).map (·.2)) items.toList) Q E { s with heap := h' }) :
    wpAny (model prog w) A (assign (.Tuple elts k pos) env (.ref l)) Q E s := by
  rw [PyProof.Rows.assign_Tuple]
  refine wpAny_bind (wpAny_standAt ?_)
  unfold unpack
  rw [hn, hst]
  exact wpAny_bind (wpAny_holding (unpackItems_lst hh hl h))
end
def gTupL (K : PySem.W.Frag) (n : Nat) (t : TGs) : TG := fun v σ H Q => ∃ a xs, v = .ref a ∧ SqL K H a xs ∧ xs.length = n ∧ t xs σ H Q
theorem pg_tupL {X : Cx} {pos : Pos} {es : List Expr} {k : Nat} {t : TGs} {n : Nat} (hc : X.calm = true) (h : PGs X es t) (hn : (assignEach es X.env).length = n) (hst : (assignEach es X.env).findIdx? (·.1) = none) : PG X (.Tuple es k pos) (gTupL X.K n t) := by
  refine ⟨fun pins s σ H v u Q I r hw => ?_⟩
  obtain ⟨a, xs, e1, hq, hl, hw⟩ := hw
  subst e1
  cases r
  obtain ⟨its, rv, p, hz⟩ := I.list hq
  refine assign_Tuple_lst (I.ok.hd hc) p.isList (by simp [hn, ← hl, rv.length]) hst fun h' hx => ?_
  exact h.run pins _ σ H xs _ Q (I.kept (t' := s.toks) fun b o e => hx b o (Nat.ne_of_lt (Heap.lt_size e)) e) (by simpa using rv) hw

/-! ### targets -/
def WG (X : Cx) (tg : Expr) : TG := fun v σ H Q => ∃ t, PG X tg t ∧ t v σ H Q
theorem pg_wg (X : Cx) (tg : Expr) : PG X tg (WG X tg) := ⟨fun pins s σ H v u Q I r ⟨_, h, q⟩ => h.run pins s σ H v u Q I r q⟩
def WGs (X : Cx) (tgs : List Expr) : TGs := fun vs σ H Q => ∃ t, PGs X tgs t ∧ t vs σ H Q
theorem pgs_wgs (X : Cx) (tgs : List Expr) : PGs X tgs (WGs X tgs) := ⟨fun pins s σ H vs us Q I r ⟨_, h, q⟩ => h.run pins s σ H vs us Q I r q⟩
/-- no list is held anew -/
def OwnK (E E1 : En) (σ σ1 : L2.St) : Prop := ∀ (i : Nat) (ms : List D), E1[i]? = some (.own ms) → E[i]? = some (.own ms) ∧ σ1[i]? = σ[i]?
theorem OwnK.refl (E : En) (σ : L2.St) : OwnK E E σ σ := fun _ _ h => ⟨h, rfl⟩
theorem OwnK.trans {E E1 E2 : En} {σ σ1 σ2 : L2.St} (h : OwnK E E1 σ σ1) (k : OwnK E1 E2 σ1 σ2) : OwnK E E2 σ σ2 := fun i ms e => by
  obtain ⟨h1, h2⟩ := k i ms e
  obtain ⟨h3, h4⟩ := h i ms h1
  exact ⟨h3, h2.trans h4⟩
theorem OwnK.set {E : En} {σ : L2.St} {j : Nat} {d : D} {o : Option V} : OwnK E (E.set j (.val d)) σ (σ.set j o) := fun i ms e => by
  by_cases z : j = i
  · subst z
    have l1 := (List.getElem?_eq_some_iff.mp e).1
    rw [List.length_set] at l1
    rw [List.getElem?_set_self l1] at e
    cases e
  · rw [List.getElem?_set_ne z] at e
    exact ⟨e, List.getElem?_set_ne z⟩
def SndG (X : Cx) (tg : Expr) (t : IT) : Prop := ∀ (d : D) (E E1 : En), bindT t d E = some E1 → ∀ (σ : L2.St) (w : Wd) (v : V), EnR X.K E σ w → Rep X.K w v d →
  ∀ Q : L2.St → Hp → Prop, (∀ σ1, EnR X.K E1 σ1 w → (∀ vs : List Nat, (∀ i, i ∈ slotsT t → i ∈ vs) → L2.wipe σ1 vs = L2.wipe σ vs) → OwnK E E1 σ σ1 → Q σ1 w.H) → WG X tg v σ w.H Q
def SndGs (X : Cx) (tgs : List Expr) (ts : List IT) : Prop := ∀ (ds : List D) (E E1 : En), bindTs ts ds E = some E1 → ∀ (σ : L2.St) (w : Wd) (vs : List V), EnR X.K E σ w → Reps X.K w vs ds →
  ∀ Q : L2.St → Hp → Prop, (∀ σ1, EnR X.K E1 σ1 w → (∀ us : List Nat, (∀ i, i ∈ slotsTs ts → i ∈ us) → L2.wipe σ1 us = L2.wipe σ us) → OwnK E E1 σ σ1 → Q σ1 w.H) → WGs X tgs vs σ w.H Q
theorem wipe_set {σ : L2.St} {i : Nat} {o : Option V} : ∀ {vs : List Nat}, i ∈ vs → L2.wipe (σ.set i o) vs = L2.wipe σ vs
  | v :: vs, h => by
    unfold L2.wipe
    by_cases hi : i ∈ vs
    · rw [wipe_set hi]
    · have e : v = i := by
        rcases List.mem_cons.mp h with z | z
        · exact z.symm
        · exact absurd z hi
      subst e
      have out : ∀ {us : List Nat}, v ∉ us → L2.wipe (σ.set v o) us = (L2.wipe σ us).set v o := by
        intro us
        induction us with
        | nil => intro _; rfl
        | cons u us ih =>
          intro hu
          have h1 : v ≠ u := fun z => hu (by simp [z])
          have h2 : v ∉ us := fun z => hu (List.mem_cons_of_mem _ z)
          unfold L2.wipe
          rw [ih h2, List.set_comm _ _ h1]
      rw [out hi, List.set_set]
theorem wipe_idem {σ : L2.St} : ∀ (vs us : List Nat), (∀ i, i ∈ vs → i ∈ us) → L2.wipe (L2.wipe σ vs) us = L2.wipe σ us
  | [], us, _ => rfl
  | v :: vs, us, h => by
    show L2.wipe ((L2.wipe σ vs).set v none) us = _
    rw [wipe_set (h v List.mem_cons_self)]
    exact wipe_idem vs us fun i hi => h i (List.mem_cons_of_mem _ hi)
theorem notStar_tg {Z : Zc} {t : IT} {e : Expr} (h : chkT Z t e = true) (es : List Expr) (env : Env) : assignEach (e :: es) env = (false, assign e env) :: assignEach es env := by
  cases e <;> first | rfl | (cases t <;> cases h)
theorem each_len {Z : Zc} {env : Env} : ∀ {ts : List IT} {es : List Expr}, chkTs Z ts es = true → (assignEach es env).length = ts.length ∧ (assignEach es env).findIdx? (·.1) = none
  | [], [], _ => ⟨rfl, rfl⟩
  | t :: ts, e :: es, h => by
    obtain ⟨h1, h2⟩ := ba (show (chkT Z t e && chkTs Z ts es) = true from h)
    obtain ⟨i1, i2⟩ := each_len (env := env) h2
    rw [notStar_tg h1 es env]
    refine ⟨by simp [i1], ?_⟩
    rw [List.findIdx?_cons]
    simp [i2]
theorem bindTs_len : ∀ {ts : List IT} {ds : List D} {E E1 : En}, bindTs ts ds E = some E1 → ts.length = ds.length
  | [], [], _, _, _ => rfl
  | t :: ts, d :: ds, E, E1, h => by
    rw [bindTs] at h
    split at h
    · rename_i E2 _
      simp [bindTs_len h]
    · cases h
  | [], d :: ds, _, _, h => by rw [bindTs] at h <;> first | cases h | simp
  | t :: ts, [], _, _, h => by rw [bindTs] at h <;> first | cases h | simp
section
variable {C : Cf} {Γ : List D} {X : Cx} {Z : Zc}
theorem Cxt.tgt (c : Cxt C Γ X Z) {i : Nat} {n : Str} (h : tgtB Z i n = true) : X.N[i]? = some n ∧ L2.Loc X.env.scope n ∧ (X.fn n = true ∨ X.env.scope.names.lookup n = some .local) := by
  obtain ⟨h1, h2⟩ := ba h
  refine ⟨by rw [c.N]; exact of_decide_eq_true h1, ?_⟩
  unfold L2.Loc
  rw [c.sc]
  unfold locB at h2
  split at h2
  · rename_i q; exact ⟨.inl q, .inr q⟩
  · rename_i q
    refine ⟨.inr q, .inl ?_⟩
    cases ht : Z.top with
    | true => rw [c.top ht]
    | false =>
      rw [ht, Bool.false_or] at h2
      rw [c.blk ht]
      show (Z.osc.names.lookup n == some NameKind.cell) = true
      rw [of_decide_eq_true h2]
      rfl
  · cases h2
mutual
theorem sndG (c : Cxt C Γ X Z) : ∀ (t : IT) (tg : Expr), chkT Z t tg = true → SndG X tg t
  | .name i, .Name n pos, h => by
    intro d E E1 e σ w v R r Q q
    obtain ⟨h1, h2, h3⟩ := c.tgt (show tgtB Z i n = true from h)
    rw [bindT] at e
    split at e
    · cases e
      refine ⟨_, pg_name (by rw [c.N]; exact c.nd) h1 h2 h3, ?_⟩
      exact q _ (R.set i r) (fun vs hv => wipe_set (hv i (by simp [slotsT]))) OwnK.set
    · cases e
  | .tup ts, .Tuple es k pos, h => by
    intro d E E1 e σ w v R r Q q
    have h' : chkTs Z ts es = true := h
    obtain ⟨l1, l2⟩ := each_len (env := X.env) h'
    cases d with
    | tup ds =>
      rw [bindT] at e
      cases r with
      | tup hT rs =>
        refine ⟨_, pg_tup c.calm (pgs_wgs X es) l1 l2, _, _, rfl, hT.sq, ?_, ?_⟩
        · rw [rs.length, bindTs_len e]
        · exact sndGs c ts es h' ds E E1 e σ w _ R rs Q fun σ1 R1 hw ho => q σ1 R1 (fun vs hv => hw vs (fun i hi => hv i (by rw [slotsT]; exact hi))) ho
    | _ => rw [bindT] at e <;> first | cases e | (intro _ z; cases z)
  | .tupL ts, .Tuple es k pos, h => by
    intro d E E1 e σ w v R r Q q
    have h' : chkTs Z ts es = true := h
    obtain ⟨l1, l2⟩ := each_len (env := X.env) h'
    cases d with
    | lst ds =>
      rw [bindT] at e
      cases r with
      | lst hT rs =>
        refine ⟨_, pg_tupL c.calm (pgs_wgs X es) l1 l2, _, _, rfl, hT.sq, ?_, ?_⟩
        · rw [rs.length, bindTs_len e]
        · exact sndGs c ts es h' ds E E1 e σ w _ R rs Q fun σ1 R1 hw ho => q σ1 R1 (fun vs hv => hw vs (fun i hi => hv i (by rw [slotsT]; exact hi))) ho
    | _ => rw [bindT] at e <;> first | cases e | (intro _ z; cases z)
theorem sndGs (c : Cxt C Γ X Z) : ∀ (ts : List IT) (es : List Expr), chkTs Z ts es = true → SndGs X es ts
  | [], [], _ => by
    intro ds E E1 e σ w vs R r Q q
    cases r with
    | nil =>
      rw [bindTs] at e
      cases e
      exact ⟨_, pgs_nil, rfl, q σ R (fun _ _ => rfl) (OwnK.refl _ _)⟩
    | cons _ _ => rw [bindTs] at e <;> first | cases e | simp
  | t :: ts, x :: es, h => by
    intro ds E E1 e σ w vs R r Q q
    obtain ⟨h1, h2⟩ := ba (show (chkT Z t x && chkTs Z ts es) = true from h)
    cases r with
    | nil => rw [bindTs] at e <;> first | cases e | simp
    | cons hd tl =>
      rw [bindTs] at e
      split at e
      · rename_i E2 e2
        refine ⟨_, pgs_cons (pg_wg X x) (pgs_wgs X es) (by rw [notStar_tg h1 es X.env]; rfl), _, _, rfl, ?_⟩
        refine sndG c t x h1 _ E E2 e2 σ w _ R hd _ fun σ1 R1 hw1 ho1 => ?_
        refine sndGs c ts es h2 _ E2 E1 e σ1 w _ R1 tl _ fun σ2 R2 hw2 ho2 => ?_
        refine q σ2 R2 (fun us hu => ?_) (ho1.trans ho2)
        rw [slotsTs] at hu
        rw [hw2 us fun i hi => hu i (List.mem_append_right _ hi), hw1 us fun i hi => hu i (List.mem_append_left _ hi)]
      · cases e
end
end
end DP

set_option linter.all false
set_option Elab.async false
/-! DLp: what is walked; comprehensions. By an AI agent. -/
namespace DP
open PySem PySem.Spec PyProof.Rows L2

/-- J walks these items, in every world that Rl lets -/
structure ItOk (K : PySem.W.Frag) (Rl : Wd → Prop) (J : It) (ds : List D) : Prop where
  go : ∀ w2, Rl w2 → Ok w2 → ∀ (i : Nat) (d : D), ds[i]? = some d → J.go i w2.H ∧ ∀ x H', J.yld i w2.H x H' → ∃ w3, w3.H = H' ∧ New w2 w3 ∧ Rep K w3 x d
  stop : ∀ w2, Rl w2 → Ok w2 → J.stop ds.length w2.H
theorem ItOk.imp {K : PySem.W.Frag} {Rl Rl' : Wd → Prop} {J : It} {ds : List D} (h : ItOk K Rl J ds) (k : ∀ w, Rl' w → Rl w) : ItOk K Rl' J ds := ⟨fun w r => h.go w (k w r), fun w r => h.stop w (k w r)⟩

theorem it_tup {K : PySem.W.Frag} {w1 : Wd} {a : Addr} {vs : List V} {ds : List D} (h : TupAt K w1 a vs) (r : Reps K w1 vs ds) : ItOk K (Mon w1) (Itt K a) ds := by
  refine ⟨fun w2 m ok i d e => ?_, fun w2 m ok => ?_⟩
  · obtain ⟨v, hv, rv⟩ := r.get e
    have hq : SqT K w2.H a vs := (h.mono m).sq
    refine ⟨⟨vs, v, hq, hv⟩, fun x H' y => ?_⟩
    obtain ⟨rfl, y⟩ := y
    have ex : x = v := Option.some.inj ((y vs hq).symm.trans hv)
    subst ex
    exact ⟨w2, rfl, .inl rfl, rv.mono m⟩
  · exact ⟨vs, (h.mono m).sq, Nat.le_of_eq r.length⟩
theorem it_list {K : PySem.W.Frag} {w1 : Wd} {Rl : Wd → Prop} {a : Addr} {vs : List V} {ds : List D} (h : ∀ w2, Rl w2 → SqL K w2.H a vs) (m : ∀ w2, Rl w2 → Mon w1 w2) (r : Reps K w1 vs ds) : ItOk K Rl (Itl K a) ds := by
  refine ⟨fun w2 rl ok i d e => ?_, fun w2 rl ok => ?_⟩
  · obtain ⟨v, hv, rv⟩ := r.get e
    have hq : SqL K w2.H a vs := h w2 rl
    refine ⟨⟨vs, v, hq, hv⟩, fun x H' y => ?_⟩
    obtain ⟨rfl, y⟩ := y
    have ex : x = v := Option.some.inj ((y vs hq).symm.trans hv)
    subst ex
    exact ⟨w2, rfl, .inl rfl, rv.mono (m w2 rl)⟩
  · exact ⟨vs, h w2 rl, Nat.le_of_eq r.length⟩
theorem intRow_get {lo : Int} {n i : Nat} {d : D} (e : (intRow lo n)[i]? = some d) : i < n ∧ d = .int (lo + (i : Int)) := by
  unfold intRow at e
  rw [List.getElem?_map] at e
  by_cases h : i < n
  · rw [List.getElem?_range h] at e
    cases e
    exact ⟨h, rfl⟩
  · rw [List.getElem?_eq_none (by simpa using h)] at e
    cases e
theorem intRow_len (lo : Int) (n : Nat) : (intRow lo n).length = n := by unfold intRow; simp
theorem it_rng {K : PySem.W.Frag} {Rl : Wd → Prop} (lo : Int) (n : Nat) : ItOk K Rl (Itr lo n) (intRow lo n) := by
  refine ⟨fun w2 _ ok i d e => ?_, fun w2 _ ok => ?_⟩
  · obtain ⟨h, rfl⟩ := intRow_get e
    refine ⟨h, fun x H' y => ?_⟩
    obtain ⟨rfl, rfl⟩ := y
    exact ⟨w2, rfl, .inl rfl, .int _⟩
  · show n ≤ (intRow lo n).length
    rw [intRow_len]
    exact Nat.le_refl _
theorem pairs_get : ∀ {xs ys : List D} {i : Nat} {d : D}, (pairs xs ys)[i]? = some d → ∃ x y, xs[i]? = some x ∧ ys[i]? = some y ∧ d = .tup [x, y]
  | x :: xs, y :: ys, 0, d, e => by
    simp [pairs] at e
    exact ⟨x, y, rfl, rfl, e.symm⟩
  | x :: xs, y :: ys, i + 1, d, e => by
    simp [pairs] at e
    obtain ⟨a, b, h1, h2, h3⟩ := pairs_get e
    exact ⟨a, b, by simpa using h1, by simpa using h2, h3⟩
  | [], _, _, _, e => by simp [pairs] at e
  | _ :: _, [], _, _, e => by simp [pairs] at e
theorem pairs_len : ∀ (xs ys : List D), (pairs xs ys).length = min xs.length ys.length
  | x :: xs, y :: ys => by simp [pairs, pairs_len xs ys] <;> omega
  | [], _ => by simp [pairs]
  | _ :: _, [] => by simp [pairs]
theorem numbered_get : ∀ {xs : List D} {k i : Nat} {d : D}, (numbered k xs)[i]? = some d → ∃ x, xs[i]? = some x ∧ d = .tup [.int ((k + i : Nat) : Int), x]
  | x :: xs, k, 0, d, e => by
    simp [numbered] at e
    exact ⟨x, rfl, e.symm⟩
  | x :: xs, k, i + 1, d, e => by
    simp [numbered] at e
    obtain ⟨a, h1, h2⟩ := numbered_get e
    refine ⟨a, by simpa using h1, ?_⟩
    rw [h2]
    have : k + 1 + i = k + (i + 1) := by omega
    rw [this]
  | [], _, _, _, e => by simp [numbered] at e
theorem numbered_len : ∀ (xs : List D) (k : Nat), (numbered k xs).length = xs.length
  | [], _ => rfl
  | x :: xs, k => by simp [numbered, numbered_len xs]
/-- a list or a tuple that stands still -/
def KdAt (k : Kd) (K : PySem.W.Frag) (w : Wd) (a : Addr) (xs : List V) : Prop := match k with
  | .l => LstAt w a xs
  | .t => TupAt K w a xs
theorem KdAt.sq {k : Kd} {K : PySem.W.Frag} {w w2 : Wd} (m : Mon w w2) {a : Addr} {xs : List V} (h : KdAt k K w a xs) : SqK k K w2.H a xs := by
  cases k with
  | l => exact (LstAt.mono m h).sq
  | t => exact (TupAt.mono m h).sq
theorem it_zip {K : PySem.W.Frag} {w1 : Wd} {k1 k2 : Kd} {a b : Addr} {vs us : List V} {ds es : List D} (h1 : KdAt k1 K w1 a vs) (h2 : KdAt k2 K w1 b us) (r1 : Reps K w1 vs ds) (r2 : Reps K w1 us es) : ItOk K (Mon w1) (ItZ k1 k2 K a b) (pairs ds es) := by
  refine ⟨fun w2 m ok i d e => ?_, fun w2 m ok => ?_⟩
  · obtain ⟨x, y, e1, e2, rfl⟩ := pairs_get e
    obtain ⟨v, hv, rv⟩ := r1.get e1
    obtain ⟨u, hu, ru⟩ := r2.get e2
    have q1 := h1.sq m
    have q2 := h2.sq m
    refine ⟨⟨vs, us, v, u, q1, q2, hv, hu⟩, fun z H' y => ?_⟩
    obtain ⟨T, x', y', rfl, hT, rfl, f1, f2⟩ := y
    have ex : x' = v := Option.some.inj ((f1 vs q1).symm.trans hv)
    have ey : y' = u := Option.some.inj ((f2 us q2).symm.trans hu)
    subst ex; subst ey
    exact ⟨w2.new T _, rfl, .inr ⟨T, _, hT, rfl⟩, rep_newT ok hT (.cons (rv.mono m) (.cons (ru.mono m) .nil))⟩
  · refine ⟨vs, us, h1.sq m, h2.sq m, ?_⟩
    rw [pairs_len, r1.length, r2.length]
    omega
theorem it_enum {K : PySem.W.Frag} {w1 : Wd} {k : Kd} {a : Addr} {vs : List V} {ds : List D} (h : KdAt k K w1 a vs) (r : Reps K w1 vs ds) : ItOk K (Mon w1) (ItE k K a) (numbered 0 ds) := by
  refine ⟨fun w2 m ok i d e => ?_, fun w2 m ok => ?_⟩
  · obtain ⟨x, e1, rfl⟩ := numbered_get e
    obtain ⟨v, hv, rv⟩ := r.get e1
    have q1 := h.sq m
    refine ⟨⟨vs, v, q1, hv⟩, fun z H' y => ?_⟩
    obtain ⟨T, x', rfl, hT, rfl, f1⟩ := y
    have ex : x' = v := Option.some.inj ((f1 vs q1).symm.trans hv)
    subst ex
    rw [Nat.zero_add]
    exact ⟨w2.new T _, rfl, .inr ⟨T, _, hT, rfl⟩, rep_newT ok hT (.cons (.int _) (.cons (rv.mono m) .nil))⟩
  · exact ⟨vs, h.sq m, by rw [numbered_len, r.length]⟩

/-- a range object, walked -/
def iRngO (te : TE) : TI := fun σ H R => te σ H fun x H1 => ∃ a lo hi, x = .ref a ∧ H1 a = some (.rng lo hi) ∧ -(2 ^ 62) ≤ lo ∧ lo < 2 ^ 62 ∧ -(2 ^ 62) ≤ hi ∧ hi < 2 ^ 62 ∧ R (Itr lo (hi - lo).toNat) H1
theorem pi_rngO {X : Cx} {tg e : Expr} {te : TE} (he : PE X e te) : PI X tg e (iRngO te) := by
  refine ⟨fun pins s σ H R I h => ?_⟩
  refine thn (he.run pins s σ H _ I h) fun v s1 ⟨x, H1, I1, r1, q1⟩ => ?_
  obtain ⟨a, lo, hi, ex, hr, b1, b2, b3, b4, q⟩ := q1
  subst ex
  cases r1
  obtain ⟨t, u, y, ho⟩ := I1.hok a _ hr
  refine wpAny_pyIter_range (show IsRange s1.heap a lo hi 1 t u y from ho) (small_one b1 b2 b3 b4) ?_
  refine ⟨s1.heap.objs.size, [s1.heap.objs.size], _, _, H1, rfl, I1.kept (t' := s1.toks) fun b o e => Heap.get?_push_of_some _ e, turn_range _ lo (hi - lo).toNat, ?_, fun b hb => ?_, q⟩
  · have e1 : lo + ((0 : Nat) : Int) * 1 = lo := by simp
    have e2 : (((hi - lo).toNat : Nat) : Int) - ((0 : Nat) : Int) = Builtin.Range.rangeSize lo hi 1 := by rw [rangeSize_one]; split <;> omega
    show IsRangeIter _ _ (lo + ((0 : Nat) : Int) * 1) ((((hi - lo).toNat : Nat) : Int) - ((0 : Nat) : Int)) 1
    rw [e1, e2]
    exact Heap.get?_push_size _ rfl
  · have e : b = s1.heap.objs.size := by simpa using hb
    subst e
    exact I1.fpOk (Nat.le_refl _) (I1.hok.fresh (Nat.le_refl _))

/-! ### soundness of what is walked: for a comprehension, for a loop -/
def SndI (X : Cx) (tg x : Expr) (f : En → Gs → Option (List D × Gs)) : Prop := ∀ (E : En) (g : Gs) (ds : List D) (g' : Gs), f E g = some (ds, g') → ∀ (σ : L2.St) (w : Wd), RR X.K E g σ w →
  ∀ R : It → Hp → Prop, (∀ J w', RR X.K E g' σ w' → Ext w w' → ItOk X.K (Ext w') J ds → R J w'.H) → WI X tg x σ w.H R
def SndL (X : Cx) (tg x : Expr) (f : En → Gs → Option (List D × Gs)) : Prop := ∀ (E : En) (g : Gs) (ds : List D) (g' : Gs), f E g = some (ds, g') → ∀ (σ : L2.St) (w : Wd), RR X.K E g σ w →
  ∀ R : It → Hp → Prop, (∀ J w', RR X.K E g' σ w' → Ext w w' → ItOk X.K (Mon w') J ds → R J w'.H) → WI X tg x σ w.H R
section
variable {C : Cf} {Γ : List D} {X : Cx} {Z : Zc} {pos p0 tpos : Pos} {x y tg : Expr} {a b : IE} {kk : Nat} {elts : List Expr}
theorem SndL.i {f : En → Gs → Option (List D × Gs)} (h : SndL X tg x f) : SndI X tg x f := fun E g ds g' e σ w R Rr q => h E g ds g' e σ w R Rr fun J w' R' e' it => q J w' R' e' (it.imp fun w2 m => m.mon R'.ok)
theorem snl_seq (ha : SndE X x (evE C Γ a)) : SndL X tg x (evI C Γ (.seq (.e a))) := by
  intro E g ds g' e σ w R Rr q
  rw [evI, evS] at e
  split at e
  · rename_i dx g1 e1
    split at e
    · rename_i its e2
      cases e
      cases dx with
      | tup xs =>
        cases e2
        refine ⟨_, pi_tup (pe_we X x), ?_⟩
        refine ha E g _ _ e1 σ w R _ fun v1 w1 R1 x1 r1 => ?_
        cases r1 with
        | tup h r => exact ⟨_, rfl, ⟨_, h.sq⟩, q _ w1 R1 x1 (it_tup h r)⟩
      | lst xs =>
        cases e2
        refine ⟨_, pi_list (pe_we X x), ?_⟩
        refine ha E g _ _ e1 σ w R _ fun v1 w1 R1 x1 r1 => ?_
        cases r1 with
        | lst h r => exact ⟨_, rfl, ⟨_, h.sq⟩, q _ w1 R1 x1 (it_list (fun w2 m => (h.mono m).sq) (fun w2 m => m) r)⟩
      | fro xs =>
        cases e2
        refine ⟨_, pi_list (pe_we X x), ?_⟩
        refine ha E g _ _ e1 σ w R _ fun v1 w1 R1 x1 r1 => ?_
        cases r1 with
        | fro h r => exact ⟨_, rfl, ⟨_, h.sq⟩, q _ w1 R1 x1 (it_list (fun w2 m => (h.mono m).sq) (fun w2 m => m) r)⟩
      | rng lo hi =>
        rw [still] at e2
        split at e2
        · rename_i hb
          cases e2
          refine ⟨_, pi_rngO (pe_we X x), ?_⟩
          refine ha E g _ _ e1 σ w R _ fun v1 w1 R1 x1 r1 => ?_
          cases r1 with
          | rng n h => exact ⟨_, lo, hi, rfl, h, hb.1, hb.2.1, hb.2.2.1, hb.2.2.2, q _ w1 R1 x1 (it_rng lo _)⟩
        · cases e2
      | _ => cases e2
    · cases e
  · cases e
theorem sni_own (c : Cxt C Γ X Z) {j : Nat} {n : Str} (h : varB Z j n = true) : SndI X tg (.Name n pos) (evI C Γ (.seq (.own j))) := by
  intro E g ds g' e σ w R Rr q
  obtain ⟨h1, h2, h3, h4⟩ := c.vis h
  rw [evI, evS] at e
  split at e
  · rename_i dx g1 e1
    split at e1
    · rename_i ms q1
      cases e1
      cases e
      obtain ⟨a, vs, s1, e1, e2, e3, r⟩ := R.en.owned q1
      refine ⟨_, pi_list (pe_var h1 h2 h3 h4), .ref a, s1, a, rfl, ⟨vs, .inl (.inl e1)⟩, ?_⟩
      exact q _ w R (Ext.refl _) (it_list (fun w2 m => .inl (.inl (m.keep a _ e1 e3))) (fun w2 m => m.mon R.ok) r)
    · cases e1
  · cases e
theorem snl_range1 {n : Str} (c : Cxt C Γ X Z) (hn : nmB Z "range" n = true) (hs : notStar x = true) (ha : SndE X x (evE C Γ a)) : SndL X tg (.Call (.Name n p0) [x] [] pos) (evI C Γ (.range1 a)) := by
  intro E g ds g' e σ w R Rr q
  obtain ⟨rfl, h1, h2, h3⟩ := c.nm hn (by decide)
  rw [evI] at e
  split at e
  · rename_i k g1 e1
    split at e
    · rename_i hb
      cases e
      refine ⟨_, pi_range1 h1 h2 (pa_1 hs) (star_cons hs), ?_⟩
      refine ha E g _ _ e1 σ w R _ fun v1 w1 R1 x1 r1 => ?_
      cases r1
      exact ⟨k, rfl, hb.1, hb.2, q _ w1 R1 x1 (it_rng 0 _)⟩
    · cases e
  · cases e
theorem snl_range2 {n : Str} (c : Cxt C Γ X Z) (hn : nmB Z "range" n = true) (hs : notStar x = true) (ht : notStar y = true) (ha : SndE X x (evE C Γ a)) (hb : SndE X y (evE C Γ b)) : SndL X tg (.Call (.Name n p0) [x, y] [] pos) (evI C Γ (.range2 a b)) := by
  intro E g ds g' e σ w R Rr q
  obtain ⟨rfl, h1, h2, h3⟩ := c.nm hn (by decide)
  rw [evI] at e
  split at e
  · rename_i k g1 e1
    split at e
    · rename_i m g2 e2
      split at e
      · rename_i hbd
        cases e
        refine ⟨_, pi_range2 h1 h2 (pa_2 hs ht) (by rw [star_cons hs, star_cons ht]; rfl) (by rw [star_cons ht]; rfl), ?_⟩
        refine ha E g _ _ e1 σ w R _ fun v1 w1 R1 x1 r1 => ?_
        refine hb E g1 _ _ e2 σ w1 R1 _ fun v2 w2 R2 x2 r2 => ?_
        cases r1; cases r2
        exact ⟨k, m, rfl, hbd, q _ w2 R2 (x1.trans R.ok x2) (it_rng k _)⟩
      · cases e
    · cases e
  · cases e
def seqOf : D → Option (List D)
  | .tup xs => some xs
  | .lst xs => some xs
  | _ => none
theorem kd_of {K : PySem.W.Frag} {w : Wd} {v : V} {d : D} {xs : List D} (h : Rep K w v d) (e : seqOf d = some xs) : ∃ k a vs, v = .ref a ∧ KdAt k K w a vs ∧ Reps K w vs xs := by
  cases h with
  | tup h r => cases e; exact ⟨.t, _, _, rfl, h, r⟩
  | lst h r => cases e; exact ⟨.l, _, _, rfl, h, r⟩
  | _ => cases e
theorem snl_zip {n : Str} (c : Cxt C Γ X Z) (hn : nmB Z "zip" n = true) (hs : notStar x = true) (ht : notStar y = true) (ha : SndE X x (evE C Γ a)) (hb : SndE X y (evE C Γ b)) : SndL X (.Tuple elts kk tpos) (.Call (.Name n p0) [x, y] [] pos) (evI C Γ (.zip a b)) := by
  intro E g ds g' e σ w R Rr q
  obtain ⟨rfl, h1, h2, h3⟩ := c.nm hn (by decide)
  rw [evI] at e
  split at e
  · cases e
  · rename_i dx g1 e1
    split at e
    · cases e
    · rename_i dy g2 e2
      have key : ∃ xs ys, seqOf dx = some xs ∧ seqOf dy = some ys ∧ ds = pairs xs ys ∧ g2 = g' := by
        cases dx <;> cases dy <;> first | (cases e; exact ⟨_, _, rfl, rfl, rfl, rfl⟩) | cases e
      obtain ⟨xs, ys, k1, k2, rfl, rfl⟩ := key
      refine ⟨_, pi_zipK h1 h2 (pa_2 hs ht) hs ht, ?_⟩
      refine ha E g _ _ e1 σ w R _ fun v1 w1 R1 x1 r1 => ?_
      refine hb E g1 _ _ e2 σ w1 R1 _ fun v2 w2 R2 x2 r2 => ?_
      obtain ⟨kd1, a1, vs1, rfl, K1, rr1⟩ := kd_of (r1.mono (x2.mon R1.ok)) k1
      obtain ⟨kd2, a2, vs2, rfl, K2, rr2⟩ := kd_of r2 k2
      exact ⟨kd1, kd2, a1, a2, vs1, vs2, rfl, K1.sq (Mon.refl _), K2.sq (Mon.refl _), q _ w2 R2 (x1.trans R.ok x2) (it_zip K1 K2 rr1 rr2)⟩
theorem snl_enum {n : Str} (c : Cxt C Γ X Z) (hn : nmB Z "enumerate" n = true) (hs : notStar x = true) (ha : SndE X x (evE C Γ a)) : SndL X (.Tuple elts kk tpos) (.Call (.Name n p0) [x] [] pos) (evI C Γ (.enum a)) := by
  intro E g ds g' e σ w R Rr q
  obtain ⟨rfl, h1, h2, h3⟩ := c.nm hn (by decide)
  have key : ∃ dx g1 xs, evE C Γ a E g = some (dx, g1) ∧ seqOf dx = some xs ∧ ds = numbered 0 xs ∧ g1 = g' := by
    rw [evI] at e
    split at e
    · rename_i xs g1 e1; cases e; exact ⟨_, _, xs, e1, rfl, rfl, rfl⟩
    · rename_i xs g1 e1; cases e; exact ⟨_, _, xs, e1, rfl, rfl, rfl⟩
    · cases e
  obtain ⟨dx, g1, xs, e1, k1, rfl, rfl⟩ := key
  refine ⟨_, pi_enumK h1 h2 (pa_1 hs) hs, ?_⟩
  refine ha E g _ _ e1 σ w R _ fun v1 w1 R1 x1 r1 => ?_
  obtain ⟨kd1, a1, vs1, rfl, K1, rr1⟩ := kd_of r1 k1
  exact ⟨kd1, a1, vs1, rfl, K1.sq (Mon.refl _), q _ w1 R1 x1 (it_enum K1 rr1)⟩

/-! ### list(..) -/
theorem snf_toLst {n : Str} {oa : IO} (c : Cxt C Γ X Z) (hn : nmB Z "list" n = true) (hs : notStar x = true) (ha : SndO X x (evS C Γ oa)) : SndF X (.Call (.Name n p0) [x] [] pos) (evE C Γ (.toLst oa)) := by
  intro E g d g' e σ w R Q q
  have key : ∃ dx g1 xs, evS C Γ oa E g = some (dx, g1) ∧ (dx = .lst xs ∨ dx = .tup xs) ∧ d = .lst xs ∧ g1 = g' := by
    rw [evE] at e
    split at e
    · rename_i xs g1 e1; cases e; exact ⟨_, _, xs, e1, .inl rfl, rfl, rfl⟩
    · rename_i xs g1 e1; cases e; exact ⟨_, _, xs, e1, .inr rfl, rfl, rfl⟩
    · cases e
  obtain ⟨dx, g1, xs, e1, k1, rfl, rfl⟩ := key
  refine ⟨_, bty1 c hn (by decide) PyProof.Rows.boot_list (by decide) call_list_of hs, ?_⟩
  refine ha E g _ _ e1 σ w R _ fun v1 w1 R1 x1 r1 => ?_
  have fin : ∀ ad vs, v1 = .ref ad → (SqL X.K w1.H ad vs ∨ SqT X.K w1.H ad vs) → Reps X.K w1 vs xs → (∃ p ys, [v1] = [V.ref p] ∧ (SqL X.K w1.H p ys ∨ SqT X.K w1.H p ys) ∧ ∀ l, w1.H l = none → Q (.ref l) (upd w1.H l (.lst ys))) := by
    intro ad vs hv hq rv
    subst hv
    exact ⟨ad, vs, rfl, hq, fun p hp => q p _ _ _ rfl (fresh_new R.ok x1 R1 hp rv)⟩
  rcases k1 with rfl | rfl
  · obtain ⟨ad, vs, hv, hq, rv⟩ := r1.lst
    exact fin ad vs hv (.inl (.inl (.inl hq))) rv
  · obtain ⟨ad, vs, hv, hq, rv⟩ := r1.tup
    exact fin ad vs hv (.inr hq.sq) rv
theorem rgV_rep {K : PySem.W.Frag} {w : Wd} (n : Int) : Reps K w (rgV 0 n) (intRow 0 n.toNat) := by
  unfold rgV intRow
  rw [Int.sub_zero]
  generalize List.range n.toNat = l
  induction l with
  | nil => exact .nil
  | cons k l ih => exact .cons (.int _) ih
theorem snf_lstRng {n m : Str} {p2 p3 : Pos} (c : Cxt C Γ X Z) (hn : nmB Z "list" n = true) (hm : nmB Z "range" m = true) (hs : notStar x = true) (ha : SndE X x (evE C Γ a)) : SndF X (.Call (.Name n p0) [.Call (.Name m p2) [x] [] p3] [] pos) (evE C Γ (.lstRng a)) := by
  intro E g d g' e σ w R Q q
  obtain ⟨rfl, h1, h2, h3⟩ := c.nm hn (by decide)
  obtain ⟨rfl, h4, h5, h6⟩ := c.nm hm (by decide)
  rw [evE] at e
  split at e
  · rename_i k g1 e1
    split at e
    · rename_i hb
      cases e
      refine ⟨_, pe_listRg c.calm h1 h2 (prg_1 h4 h5 (pe_we X x) (star_cons hs)) rfl, ?_⟩
      refine ha E g _ _ e1 σ w R _ fun v1 w1 R1 x1 r1 => ?_
      cases r1
      refine ⟨k, rfl, ⟨by omega, by omega, by omega, by omega, by omega⟩, fun p hp => ?_⟩
      exact q p _ _ _ rfl (fresh_new R.ok x1 R1 hp (rgV_rep k))
    · cases e
  · cases e
end
end DP

set_option linter.all false
set_option Elab.async false
/-! DLc: comprehensions. By an AI agent. -/
namespace DP
open PySem PySem.Spec PyProof.Rows L2

section
variable {C : Cf} {Γ : List D} {X : Cx} {Z : Zc}
/-- the block of a comprehension -/
def blkZ (Z : Zc) (scope : Scope) : Zc := ⟨relS scope Z.sc, scope, false, Z.N, Z.F, Z.Cn⟩
theorem Cxt.blkC (c : Cxt C Γ X Z) {scope : Scope} (hk : scope.kind = .function) (s0 : Shared) (H0 : Hp) (a : Addr) (cl : List (Str × Addr)) (fp : List Addr) : Cxt C Γ (X.blk s0 H0 scope (compEnvC scope cl a X.env) fp) (blkZ Z scope) where
  sc := by
    show relS scope X.env.scope = relS scope Z.sc
    rw [c.sc]
  kind := hk
  N := c.N
  nd := c.nd
  calm := c.calm
  xe := rfl
  top := fun h => by cases h
  blk := fun _ => rfl
  units := c.units
  blt := c.blt
  gc := c.gc
  fns := c.fns

/-- .. in each block of it -/
def gA (X : Cx) (scope : Scope) (tg : Expr) : TG := fun v σ H Q => ∀ (s0 : Shared) (H0 : Hp) (a : Addr) (cl : List (Str × Addr)) (fp : List Addr), WG (X.blk s0 H0 scope (compEnvC scope cl a X.env) fp) tg v σ H Q
def tA (X : Cx) (scope : Scope) (es : List Expr) : TT := fun σ H Q => ∀ (s0 : Shared) (H0 : Hp) (a : Addr) (cl : List (Str × Addr)) (fp : List Addr), WTs (X.blk s0 H0 scope (compEnvC scope cl a X.env) fp) es σ H Q
def eA (X : Cx) (scope : Scope) (e : Expr) : TE := fun σ H Q => ∀ (s0 : Shared) (H0 : Hp) (a : Addr) (cl : List (Str × Addr)) (fp : List Addr), WE (X.blk s0 H0 scope (compEnvC scope cl a X.env) fp) e σ H Q
def SndTs (X : Cx) (xs : List Expr) (f : En → Gs → Option (Bool × Gs)) : Prop := ∀ (E : En) (g : Gs) (d : Bool) (g' : Gs), f E g = some (d, g') → ∀ (σ : L2.St) (w : Wd), RR X.K E g σ w →
  ∀ Q : Bool → Hp → Prop, (∀ w', RR X.K E g' σ w' → Ext w w' → Q d w'.H) → WTs X xs σ w.H Q
theorem snts_nil : SndTs X [] (fun _ g => some (true, g)) := by
  intro E g d g' e σ w R Q q
  cases e
  exact ⟨_, pts_nil, q w R (Ext.refl _)⟩
theorem snts_one {x : Expr} {f : En → Gs → Option (Bool × Gs)} (h : SndT X x f) : SndTs X [x] f := fun E g d g' e σ w R Q q => ⟨_, pts_one (pt_wt X x), h E g d g' e σ w R Q q⟩

/-- the list at D is held -/
structure LcI (K : PySem.W.Frag) (w1 : Wd) (g : Gs) (p : Addr) (acc : List D) (w : Wd) : Prop where
  ok : Ok w
  g : GR K g w
  ext : Ext w1 w
  W : w.W p
  nag : p ∉ w.ag
  at_ : ∃ vs, w.H p = some (.lst vs) ∧ Reps K w vs acc
theorem LcI.ext' {K : PySem.W.Frag} {w1 w w' : Wd} {g g' : Gs} {p : Addr} {acc : List D} (ok1 : Ok w1) (h : LcI K w1 g p acc w) (ok : Ok w') (e : Ext w w') (G : GR K g' w') : LcI K w1 g' p acc w' := by
  obtain ⟨vs, q, r⟩ := h.at_
  exact ⟨ok, G, h.ext.trans ok1 e, e.up p h.W, e.notAg q h.nag, vs, e.keep p _ q h.nag, r.mono (e.mon h.ok)⟩
/-- one more item -/
theorem LcI.push {K : PySem.W.Frag} {w1 w : Wd} {g : Gs} {p : Addr} {acc : List D} (ok1 : Ok w1) (hp : w1.H p = none) (h : LcI K w1 g p acc w) {v : V} {d : D} (r : Rep K w v d) :
    ∃ vs w', w.H p = some (.lst vs) ∧ vs.length = acc.length ∧ w'.H = upd w.H p (.lst (vs ++ [v])) ∧ LcI K w1 g p (acc ++ [d]) w' := by
  obtain ⟨vs, q, rs⟩ := h.at_
  have m : Mon w ⟨upd w.H p (.lst (vs ++ [v])), w.W, w.ag⟩ := ⟨fun a o e n => by
    show upd w.H p _ a = some o
    rw [upd_ne (fun z => n (by rw [z]; exact h.W))]; exact e, fun _ z => .inl z, fun _ _ z => z⟩
  refine ⟨vs, ⟨upd w.H p (.lst (vs ++ [v])), w.W, w.ag⟩, q, rs.length, rfl, ⟨fun a z => h.ok.agW a z, fun a z => ?_⟩, ⟨h.g.len, h.g.nd, fun n a ms e1 e2 => ?_⟩, ⟨fun a o e n => ?_, h.ext.dn, h.ext.up, h.ext.ag, h.ext.agn⟩, h.W, h.nag, vs ++ [v], upd_same, (rs.append (.cons r .nil)).mono m⟩
  · by_cases z' : a = p
    · subst z'; exact ⟨_, upd_same⟩
    · obtain ⟨xs, e⟩ := h.ok.lst a z
      exact ⟨xs, by show upd w.H p _ a = _; rw [upd_ne z']; exact e⟩
  · obtain ⟨us, e3, r3⟩ := h.g.at_ n a ms e1 e2
    refine ⟨us, ?_, r3.mono m⟩
    show upd w.H p _ a = _
    rw [upd_ne (fun z => h.nag (by rw [← z]; exact List.mem_of_getElem? e1))]
    exact e3
  · show upd w.H p _ a = some o
    rw [upd_ne (fun z => by rw [z, hp] at e; cases e)]
    exact h.ext.keep a o e n
/-- at the end it stands still -/
theorem LcI.done {K : PySem.W.Frag} {E : En} {σ : L2.St} {w1 w : Wd} {g g1 : Gs} {p : Addr} {acc : List D} (R1 : RR K E g1 σ w1) (hp : w1.H p = none) (h : LcI K w1 g p acc w) :
    ∃ w', Fresh K E g σ w1 p acc w' w := by
  obtain ⟨vs, q, rs⟩ := h.at_
  have m : Mon w ⟨w.H, fun a => w.W a ∧ a ≠ p, w.ag⟩ := ⟨fun _ _ e _ => e, fun _ z => .inl z.1, fun _ _ z => z⟩
  have e1 : Ext w1 ⟨w.H, fun a => w.W a ∧ a ≠ p, w.ag⟩ := ⟨h.ext.keep, fun a z => h.ext.dn a z.1, fun a z => ⟨h.ext.up a z, fun y => by
    subst y
    obtain ⟨xs, e⟩ := R1.ok.lst a z
    rw [hp] at e; cases e⟩, h.ext.ag, h.ext.agn⟩
  have ok : Ok ⟨w.H, fun a => w.W a ∧ a ≠ p, w.ag⟩ := ⟨fun a z => ⟨h.ok.agW a z, fun y => h.nag (by rw [← y]; exact z)⟩, fun a z => h.ok.lst a z.1⟩
  refine ⟨⟨w.H, fun a => w.W a ∧ a ≠ p, w.ag⟩, hp, rfl, ⟨ok, R1.en.ext R1.ok e1, ⟨h.g.len, h.g.nd, fun n a ms k1 k2 => ?_⟩⟩, e1, fun z => z.2 rfl, ⟨h.ok, R1.en.ext R1.ok h.ext, h.g⟩, h.ext, h.W, h.nag, vs, q, rs.mono m, rs⟩
  obtain ⟨us, e3, r3⟩ := h.g.at_ n a ms k1 k2
  exact ⟨us, e3, r3.mono m⟩
theorem New.lc {K : PySem.W.Frag} {w1 w w3 : Wd} {g : Gs} {p : Addr} {acc : List D} (ok1 : Ok w1) (h : LcI K w1 g p acc w) (n : New w w3) : LcI K w1 g p acc w3 := by
  rcases n with rfl | ⟨q, o, hq, rfl⟩
  · exact h
  · refine h.ext' ok1 (h.ok.new hq) (Ext.new h.ok hq) (h.g.mono h.ok (Ext.new h.ok hq) rfl fun a m => ?_)
    obtain ⟨xs, e⟩ := h.ok.lst a (h.ok.agW a m)
    show upd w.H q o a = w.H a
    rw [upd_ne (ne_of_none e hq)]

theorem lcRun_len {own : List Nat} {t : IT} {cond : En → Gs → Option (Bool × Gs)} {elt : En → Gs → Option (D × Gs)} {E : En} : ∀ {ds : List D} {g : Gs} {ys : List D} {g' : Gs}, lcRun own t cond elt E ds g = some (ys, g') → ys.length ≤ ds.length
  | [], g, ys, g', e => by rw [lcRun] at e; cases e; exact Nat.le_refl _
  | d :: ds, g, ys, g', e => by
    rw [lcRun] at e
    split at e
    · cases e
    · split at e
      · cases e
      · exact Nat.le_succ_of_le (lcRun_len e)
      · split at e
        · cases e
        · split at e
          · cases e
          · rename_i e2
            cases e
            exact Nat.succ_le_succ (lcRun_len e2)

/-- the loop of a comprehension -/
theorem lc_loop {scope : Scope} {own : List Nat} {t : IT} {tg x : Expr} {cs : List Expr} {cond : En → Gs → Option (Bool × Gs)} {elt : En → Gs → Option (D × Gs)} (hk : scope.kind = .function) (hsl : ∀ i, i ∈ slotsT t → i ∈ own)
    (hg : ∀ (s0 : Shared) (H0 : Hp) (a : Addr) (cl : List (Str × Addr)) (fp : List Addr), SndG (X.blk s0 H0 scope (compEnvC scope cl a X.env) fp) tg t)
    (hc : ∀ (s0 : Shared) (H0 : Hp) (a : Addr) (cl : List (Str × Addr)) (fp : List Addr), SndTs (X.blk s0 H0 scope (compEnvC scope cl a X.env) fp) cs cond)
    (he : ∀ (s0 : Shared) (H0 : Hp) (a : Addr) (cl : List (Str × Addr)) (fp : List Addr), SndE (X.blk s0 H0 scope (compEnvC scope cl a X.env) fp) x elt)
    {E : En} {g1 g2 : Gs} {σ : L2.St} {w1 : Wd} {J : It} {ds ys : List D} (R1 : RR X.K E g1 σ w1) (it : ItOk X.K (Ext w1) J ds) (hl : ds.length < lineB) (e : lcRun own t cond elt E ds g1 = some (ys, g2)) {Q : VK} {p : Addr} (hp : w1.H p = none)
    (q : ∀ w' w'', Fresh X.K E g2 σ w1 p ys w' w'' → Q (.ref p) w'.H) :
    ∃ W : Nat → Nat → Hp → Prop, (∃ m, W 0 m (upd w1.H p (.lst []))) ∧ ∀ i m H, W i m H →
      (J.stop i H ∧ Q (.ref p) H) ∨ (J.go i H ∧ ∃ Nx : Hp → Prop, (∀ H', Nx H' → ∃ m', m' < m ∧ W (i + 1) m' H') ∧ ∀ y H', J.yld i H y H' → gA X scope tg y (L2.wipe σ own) H' fun σ2 H2 => L2.wipe σ2 own = L2.wipe σ own ∧ tA X scope cs σ2 H2 fun b H3 =>
        if b = true then eA X scope x σ2 H3 fun z H4 => ∃ acc, H4 p = some (.lst acc) ∧ acc.length < sizeLine ∧ Nx (upd H4 p (.lst (acc ++ [z]))) else Nx H3) := by
  let W : Nat → Nat → Hp → Prop := fun i m H => m = ds.length - i ∧ i ≤ ds.length ∧ ∃ w acc g ys', w.H = H ∧ LcI X.K w1 g p acc w ∧ acc.length ≤ i ∧ lcRun own t cond elt E (ds.drop i) g = some (ys', g2) ∧ acc ++ ys' = ys
  have start : LcI X.K w1 g1 p [] (w1.newO p []) := ⟨(R1.newO hp).1.ok, (R1.newO hp).1.g, Ext.newO hp, .inr rfl, (R1.newO hp).2, [], upd_same, .nil⟩
  refine ⟨W, ⟨ds.length, by simp, Nat.zero_le _, _, [], g1, ys, rfl, start, Nat.le_refl _, e, rfl⟩, ?_⟩
  rintro i m H ⟨rfl, hi, w, acc, g, ys', rfl, L, hacc, er, ey⟩
  by_cases hlt : i < ds.length
  · have hd : ds[i]? = some ds[i] := List.getElem?_eq_getElem hlt
    obtain ⟨go, yld⟩ := it.go w L.ext L.ok i ds[i] hd
    refine .inr ⟨go, fun H' => W (i + 1) (ds.length - (i + 1)) H', fun H' h' => ⟨ds.length - (i + 1), by omega, h'⟩, fun y H' hy => ?_⟩
    obtain ⟨w3, rfl, n3, r3⟩ := yld y H' hy
    have L3 := n3.lc R1.ok L
    have dr : ds.drop i = ds[i] :: ds.drop (i + 1) := List.drop_eq_getElem_cons hlt
    rw [dr, lcRun] at er
    split at er
    · cases er
    · rename_i E1 eb
      intro s0 H0 a cl fp
      have en3 : EnR X.K E σ w3 := R1.en.ext R1.ok L3.ext
      refine hg s0 H0 a cl fp ds[i] (wipeE E own) E1 eb (L2.wipe σ own) w3 y (en3.wipe own) r3 _ fun σ2 en2 hw _ => ⟨?_, ?_⟩
      · rw [hw own hsl, wipe_idem own own fun _ z => z]
      · intro s0 H0 a cl fp
        have RR3 : RR X.K E1 g σ2 w3 := ⟨L3.ok, en2, L3.g⟩
        split at er
        · cases er
        · rename_i g4 ec
          refine hc s0 H0 a cl fp E1 g _ _ ec σ2 w3 RR3 _ fun w4 R4 x4 => iteF ?_
          exact ⟨rfl, hlt, w4, acc, g4, ys', rfl, L3.ext' R1.ok R4.ok x4 R4.g, Nat.le_succ_of_le hacc, er, ey⟩
        · rename_i g4 ec
          refine hc s0 H0 a cl fp E1 g _ _ ec σ2 w3 RR3 _ fun w4 R4 x4 => iteT ?_
          intro s0 H0 a cl fp
          split at er
          · cases er
          · rename_i dy g5 ee
            split at er
            · cases er
            · rename_i ys2 g6 e6
              cases er
              refine he s0 H0 a cl fp E1 g4 _ _ ee σ2 w4 R4 _ fun v w5 R5 x5 r5 => ?_
              have L5 := (L3.ext' R1.ok R4.ok x4 R4.g).ext' R1.ok R5.ok x5 R5.g
              obtain ⟨vs, w6, h6, l6, e7, L6⟩ := L5.push R1.ok hp r5
              refine ⟨vs, h6, ?_, rfl, hlt, w6, acc ++ [dy], g5, ys2, e7, L6, ?_, e6, by rw [List.append_assoc]; exact ey⟩
              · rw [l6, ← lineB_le]; omega
              · rw [List.length_append, List.length_singleton]; omega
  · have ei : i = ds.length := by omega
    subst ei
    rw [List.drop_length, lcRun] at er
    cases er
    rw [List.append_nil] at ey
    subst ey
    refine .inl ⟨it.stop w L.ext L.ok, ?_⟩
    obtain ⟨w', F⟩ := L.done R1 hp
    rw [F.H]
    exact q w' w F
end
end DP

set_option linter.all false
set_option Elab.async false
/-! DSt: statements. By an AI agent. -/
namespace DP
open PySem PySem.Spec PyProof.Rows L2

/-! ### a comprehension as a value, as what a name is set to -/
section
variable {C : Cf} {Γ : List D} {X : Cx} {Z : Zc} {pos spos py : Pos} {x tg iter : Expr} {elt : IE}
theorem ownNs_snd (N : List Str) (own : List Nat) : (ownNs N own).map (·.2) = own := by
  unfold ownNs
  rw [List.map_map]
  exact List.map_id _
theorem pg_gA {scope : Scope} (s0 : Shared) (H0 : Hp) (a : Addr) (cl : List (Str × Addr)) (fp : List Addr) : PG (X.blk s0 H0 scope (compEnvC scope cl a X.env) fp) tg (gA X scope tg) := ⟨fun pins s σ H v u Q I r q => (pg_wg _ tg).run pins s σ H v u Q I r (q s0 H0 a cl fp)⟩
theorem pt_tA {scope : Scope} {cs : List Expr} (s0 : Shared) (H0 : Hp) (a : Addr) (cl : List (Str × Addr)) (fp : List Addr) : PTs (X.blk s0 H0 scope (compEnvC scope cl a X.env) fp) cs (tA X scope cs) := ⟨fun pins s σ H Q I q => (pts_wts _ cs).run pins s σ H Q I (q s0 H0 a cl fp)⟩
theorem pe_eA {scope : Scope} (s0 : Shared) (H0 : Hp) (a : Addr) (cl : List (Str × Addr)) (fp : List Addr) : PE (X.blk s0 H0 scope (compEnvC scope cl a X.env) fp) x (eA X scope x) := ⟨fun pins s σ H Q I q => (pe_we _ x).run pins s σ H Q I (q s0 H0 a cl fp)⟩
theorem noFold {e : Expr} (h : notSet e = true) (env : Env) : ∀ v, foldedSetIterable e env v = pure v := by
  intro v
  cases e <;> first | rfl | cases h
/-- what a comprehension's reading asks, told of f -/
def SndLc (X : Cx) (scope : Scope) (own : List Nat) (tg iter x : Expr) (cs : List Expr) (f : En → Gs → Option (D × Gs)) : Prop := ∀ (E : En) (g : Gs) (d : D) (g' : Gs), f E g = some (d, g') → ∀ (σ : L2.St) (w : Wd), RR X.K E g σ w →
  ∀ Q : VK, (∀ a ms w1 w2, d = .lst ms → Fresh X.K E g' σ w a ms w1 w2 → Q (.ref a) w1.H) → tLc (WI X tg iter) (gA X scope tg) (tA X scope cs) (eA X scope x) own σ w.H Q
theorem snlc {scope : Scope} {own : List Nat} {t : IT} {cs : List Expr} {it : En → Gs → Option (List D × Gs)} {cond : En → Gs → Option (Bool × Gs)} {el : En → Gs → Option (D × Gs)} {f : En → Gs → Option (D × Gs)}
    (hf : ∀ E g d g', f E g = some (d, g') → ∃ xs g1 ys, it E g = some (xs, g1) ∧ xs.length < lineB ∧ lcRun own t cond el E xs g1 = some (ys, g') ∧ d = .lst ys)
    (hk : scope.kind = .function) (hsl : ∀ i, i ∈ slotsT t → i ∈ own) (hi : SndI X tg iter it)
    (hg : ∀ (s0 : Shared) (H0 : Hp) (a : Addr) (cl : List (Str × Addr)) (fp : List Addr), SndG (X.blk s0 H0 scope (compEnvC scope cl a X.env) fp) tg t)
    (hc : ∀ (s0 : Shared) (H0 : Hp) (a : Addr) (cl : List (Str × Addr)) (fp : List Addr), SndTs (X.blk s0 H0 scope (compEnvC scope cl a X.env) fp) cs cond)
    (he : ∀ (s0 : Shared) (H0 : Hp) (a : Addr) (cl : List (Str × Addr)) (fp : List Addr), SndE (X.blk s0 H0 scope (compEnvC scope cl a X.env) fp) x el) : SndLc X scope own tg iter x cs f := by
  intro E g d g' e σ w R Q q
  obtain ⟨xs, g1, ys, e1, hl, e2, rfl⟩ := hf E g d g' e
  refine hi E g xs g1 e1 σ w R _ fun J w1 R1 x1 io => fun p hp => ?_
  refine lc_loop hk hsl hg hc he R1 io hl e2 hp fun w' w'' F => ?_
  exact q p ys w' w'' rfl ⟨x1.none R.ok R1.ok F.new, F.H, F.r1, x1.trans R.ok F.x1, F.n1, F.r2, x1.trans R.ok F.x2, F.W2, F.nag, F.at_⟩
theorem snf_of_lc (c : Cxt C Γ X Z) {scope : Scope} {own : List Nat} {cs : List Expr} {f : En → Gs → Option (D × Gs)} (hb : L2.blkC Z.N Z.sc scope (ownNs Z.N own) = true) (hs : notSet iter = true) (h : SndLc X scope own tg iter x cs f) :
    SndF X (.ListComp x [⟨tg, iter, cs, 0⟩] scope pos) f := by
  intro E g d g' e σ w R Q q
  have bo : BlkOk X.N X.env.scope scope (ownNs Z.N own) := by rw [c.N, c.sc]; exact blkOk_by hb
  refine ⟨_, pe_lc c.calm (by rw [c.N]; exact c.nd) (pi_wi X tg iter) bo pg_gA pt_tA pe_eA (noFold hs X.env), ?_⟩
  rw [ownNs_snd]
  exact h E g d g' e σ w R Q q
end

/-! ### statements -/
def WX (X : Cx) (st : Stmt) : TS := fun D σ H => ∃ t, PS X st t ∧ t D σ H
theorem ps_wx (X : Cx) (st : Stmt) : PS X st (WX X st) := ⟨fun pins s σ H D I ⟨_, h, q⟩ => h.run pins s σ H D I q⟩
def WXs (X : Cx) (sts : List Stmt) : TS := fun D σ H => ∃ t, PSs X sts t ∧ t D σ H
theorem pss_wxs (X : Cx) (sts : List Stmt) : PSs X sts (WXs X sts) := ⟨fun pins s σ H D I ⟨_, h, q⟩ => h.run pins s σ H D I q⟩

/-- in a def's body, entered in the world w0 -/
structure RS (K : PySem.W.Frag) (w0 : Wd) (E : En) (g : Gs) (σ : L2.St) (w : Wd) : Prop where
  rr : RR K E g σ w
  ext : Ext w0 w
  own : ∀ (i : Nat) (ms : List D) (a : Addr), E[i]? = some (.own ms) → σ[i]? = some (some (.ref a)) → w0.H a = none
/-- what is to hold behind -/
def Post (K : PySem.W.Frag) (w0 : Wd) (D : Ends) (w : Wd) : Fl × En × Gs → Prop
  | (.nx, E, g) => ∀ σ' w', RS K w0 E g σ' w' → Mon w w' → D.nx σ' w'.H
  | (.bk, E, g) => ∀ σ' w', RS K w0 E g σ' w' → Mon w w' → D.bk σ' w'.H
  | (.ct, E, g) => ∀ σ' w', RS K w0 E g σ' w' → Mon w w' → D.ct σ' w'.H
  | (.rt d, _, g) => ∀ v w', Ok w' → Ext w0 w' → GR K g w' → Rep K w' v d → D.rt v w'.H
def SndX (X : Cx) (st : Stmt) (f : En → Gs → Option (Fl × En × Gs)) : Prop := ∀ (E : En) (g : Gs) (r : Fl × En × Gs), f E g = some r → ∀ (w0 : Wd), Ok w0 → ∀ (σ : L2.St) (w : Wd), RS X.K w0 E g σ w → ∀ D : Ends, Post X.K w0 D w r → WX X st D σ w.H
def SndB (X : Cx) (sts : List Stmt) (f : En → Gs → Option (Fl × En × Gs)) : Prop := ∀ (E : En) (g : Gs) (r : Fl × En × Gs), f E g = some r → ∀ (w0 : Wd), Ok w0 → ∀ (σ : L2.St) (w : Wd), RS X.K w0 E g σ w → ∀ D : Ends, Post X.K w0 D w r → WXs X sts D σ w.H
theorem Post.mono {K : PySem.W.Frag} {w0 : Wd} {D : Ends} {w w1 : Wd} {r : Fl × En × Gs} (m : Mon w w1) (h : Post K w0 D w r) : Post K w0 D w1 r := by
  obtain ⟨fl, E, g⟩ := r
  cases fl with
  | nx => exact fun σ' w' R m' => h σ' w' R (m.trans m')
  | bk => exact fun σ' w' R m' => h σ' w' R (m.trans m')
  | ct => exact fun σ' w' R m' => h σ' w' R (m.trans m')
  | rt d => exact h
section
variable {K : PySem.W.Frag} {w0 w w1 w2 : Wd} {E E1 : En} {g g' : Gs} {σ σ1 : L2.St}
/-- behind an expression -/
theorem RS.expr (ok0 : Ok w0) (R : RS K w0 E g σ w) (R1 : RR K E g' σ w1) (x : Ext w w1) : RS K w0 E g' σ w1 := ⟨R1, R.ext.trans ok0 x, R.own⟩
theorem RS.bind (R : RS K w0 E g σ w) (en : EnR K E1 σ1 w) (o : OwnK E E1 σ σ1) : RS K w0 E1 g σ1 w := ⟨⟨R.rr.ok, en, R.rr.g⟩, R.ext, fun i ms a h1 h2 => by
  obtain ⟨h3, h4⟩ := o i ms h1
  exact R.own i ms a h3 (h4.symm.trans h2)⟩
theorem EnR.setOwn {a : Addr} {vs : List V} {ms : List D} (h : EnR K E σ w) (i : Nat) (hn : ∀ (j : Nat) (ns : List D), E[j]? = some (.own ns) → j ≠ i → σ[j]? ≠ some (some (.ref a))) (e1 : w.H a = some (.lst vs)) (e2 : w.W a) (e3 : a ∉ w.ag) (r : Reps K w vs ms) :
    EnR K (E.set i (.own ms)) (σ.set i (some (.ref a))) w := by
  refine ⟨by simp [h.len], fun j sl o h1 h2 => ?_, fun j k ns ns' b hjk h1 h2 h3 => ?_⟩
  · by_cases z : i = j
    · subst z
      have l1 := (List.getElem?_eq_some_iff.mp h1).1
      rw [List.length_set] at l1
      rw [List.getElem?_set_self l1] at h1
      rw [List.getElem?_set_self (by rw [h.len]; exact l1)] at h2
      cases h1; cases h2
      exact ⟨a, vs, rfl, e1, e2, e3, r⟩
    · rw [List.getElem?_set_ne z] at h1 h2
      exact h.at_ j sl o h1 h2
  · by_cases z : i = j
    · subst z
      have l1 := (List.getElem?_eq_some_iff.mp h1).1
      rw [List.length_set] at l1
      rw [List.getElem?_set_self (by rw [h.len]; exact l1)] at h3
      cases h3
      rw [List.getElem?_set_ne hjk] at h2 ⊢
      exact hn k ns' h2 hjk.symm
    · rw [List.getElem?_set_ne z] at h1 h3
      by_cases y : i = k
      · subst y
        have l1 := (List.getElem?_eq_some_iff.mp h2).1
        rw [List.length_set] at l1
        rw [List.getElem?_set_self (by rw [h.len]; exact l1)]
        intro q
        cases q
        exact hn j ns h1 hjk h3
      · rw [List.getElem?_set_ne y] at h2 ⊢
        exact h.sep j k ns ns' b hjk h1 h2 h3
/-- a new list is held by a slot -/
theorem RS.hold (ok0 : Ok w0) (R : RS K w0 E g σ w) {a : Addr} {ms : List D} (i : Nat) (hi : i < E.length) (F : Fresh K E g' σ w a ms w1 w2) : RS K w0 (E.set i (.own ms)) g' (σ.set i (some (.ref a))) w2 := by
  obtain ⟨vs, h1, h2, h3⟩ := F.at_
  have nw0 : w0.H a = none := R.ext.none ok0 R.rr.ok F.new
  refine ⟨⟨F.r2.ok, F.r2.en.setOwn i (fun j ns e1 _ e2 => ?_) (by rw [F.H]; exact h1) F.W2 F.nag h3, F.r2.g⟩, R.ext.trans ok0 F.x2, fun j ns b e1 e2 => ?_⟩
  · obtain ⟨b, us, q1, q2, _⟩ := R.rr.en.owned e1
    rw [e2] at q1
    cases q1
    rw [F.new] at q2
    cases q2
  · by_cases z : i = j
    · subst z
      rw [List.getElem?_set_self (by rw [R.rr.en.len]; exact hi)] at e2
      cases e2
      exact nw0
    · rw [List.getElem?_set_ne z] at e1 e2
      exact R.own j ns b e1 e2
/-- a held list is written -/
theorem RS.write (R : RS K w0 E g σ w) {i : Nat} {ms ms' : List D} {a : Addr} {vs' : List V} (e1 : E[i]? = some (.own ms)) (e2 : σ[i]? = some (some (.ref a))) (r : Reps K w vs' ms') :
    RS K w0 (E.set i (.own ms')) g σ ⟨upd w.H a (.lst vs'), w.W, w.ag⟩ ∧ Mon w ⟨upd w.H a (.lst vs'), w.W, w.ag⟩ := by
  obtain ⟨b, vs, q1, q2, q3, q4, q5⟩ := R.rr.en.owned e1
  rw [e2] at q1
  cases q1
  have m : Mon w ⟨upd w.H a (.lst vs'), w.W, w.ag⟩ := ⟨fun c o e n => by
    show upd w.H a _ c = some o
    rw [upd_ne (fun z => n (by rw [z]; exact q3))]; exact e, fun _ z => .inl z, fun _ _ z => z⟩
  have n0 := R.own i ms a e1 e2
  refine ⟨⟨⟨⟨R.rr.ok.agW, fun c z => ?_⟩, ⟨by simp [R.rr.en.len], fun j sl o h1 h2 => ?_, fun j k ns ns' c hjk h1 h2 h3 => ?_⟩, ⟨R.rr.g.len, R.rr.g.nd, fun n c ns h1 h2 => ?_⟩⟩, ⟨fun c o h1 h2 => ?_, R.ext.dn, R.ext.up, R.ext.ag, R.ext.agn⟩, fun j ns c h1 h2 => ?_⟩, m⟩
  · by_cases y : c = a
    · subst y; exact ⟨_, upd_same⟩
    · obtain ⟨xs, e⟩ := R.rr.ok.lst c z
      exact ⟨xs, by show upd w.H a _ c = _; rw [upd_ne y]; exact e⟩
  · by_cases z : i = j
    · subst z
      have l1 := (List.getElem?_eq_some_iff.mp h1).1
      rw [List.length_set] at l1
      rw [List.getElem?_set_self l1] at h1
      rw [e2] at h2
      cases h1; cases h2
      exact ⟨a, vs', rfl, upd_same, q3, q4, r.mono m⟩
    · rw [List.getElem?_set_ne z] at h1
      have k := R.rr.en.at_ j sl o h1 h2
      cases sl with
      | un => trivial
      | val d => obtain ⟨v, rfl, rv⟩ := k; exact ⟨v, rfl, rv.mono m⟩
      | own ns =>
        obtain ⟨c, us, rfl, k1, k2, k3, k4⟩ := k
        have nca : c ≠ a := fun y => by
          subst y
          exact R.rr.en.sep i j ms ns c z e1 h1 e2 h2
        exact ⟨c, us, rfl, by show upd w.H a _ c = _; rw [upd_ne nca]; exact k1, k2, k3, k4.mono m⟩
  · have back : ∀ {l : Nat} {xs : List D}, (E.set i (.own ms'))[l]? = some (.own xs) → ∃ ys, E[l]? = some (.own ys) := fun {l xs} h => by
      by_cases z : i = l
      · subst z; exact ⟨ms, e1⟩
      · rw [List.getElem?_set_ne z] at h; exact ⟨xs, h⟩
    obtain ⟨y1, k1⟩ := back h1
    obtain ⟨y2, k2⟩ := back h2
    exact R.rr.en.sep j k y1 y2 c hjk k1 k2 h3
  · obtain ⟨us, k1, k2⟩ := R.rr.g.at_ n c ns h1 h2
    refine ⟨us, ?_, k2.mono m⟩
    show upd w.H a _ c = _
    rw [upd_ne (fun z => q4 (by rw [← z]; exact List.mem_of_getElem? h1))]
    exact k1
  · show upd w.H a _ c = some o
    rw [upd_ne (fun z => by rw [z, n0] at h1; cases h1)]
    exact R.ext.keep c o h1 h2
  · by_cases z : i = j
    · subst z; rw [e2] at h2; cases h2; exact n0
    · rw [List.getElem?_set_ne z] at h1
      exact R.own j ns c h1 h2
/-- what a reference leads to is written -/
theorem RS.writeG (R : RS K w0 E g σ w) {n : Nat} {ms ms' : List D} {a : Addr} {vs' : List V} (e1 : w.ag[n]? = some a) (e2 : g[n]? = some ms) (r : Reps K w vs' ms') :
    RS K w0 E (g.set n ms') σ ⟨upd w.H a (.lst vs'), w.W, w.ag⟩ ∧ Mon w ⟨upd w.H a (.lst vs'), w.W, w.ag⟩ := by
  have ha : a ∈ w.ag := List.mem_of_getElem? e1
  have q3 := R.rr.ok.agW a ha
  have m : Mon w ⟨upd w.H a (.lst vs'), w.W, w.ag⟩ := ⟨fun c o e n => by
    show upd w.H a _ c = some o
    rw [upd_ne (fun z => n (by rw [z]; exact q3))]; exact e, fun _ z => .inl z, fun _ _ z => z⟩
  refine ⟨⟨⟨⟨R.rr.ok.agW, fun c z => ?_⟩, ⟨R.rr.en.len, fun j sl o h1 h2 => ?_, R.rr.en.sep⟩, ⟨by simp [R.rr.g.len], R.rr.g.nd, fun k c ns h1 h2 => ?_⟩⟩, ⟨fun c o h1 h2 => ?_, R.ext.dn, R.ext.up, R.ext.ag, R.ext.agn⟩, R.own⟩, m⟩
  · by_cases y : c = a
    · subst y; exact ⟨_, upd_same⟩
    · obtain ⟨xs, e⟩ := R.rr.ok.lst c z
      exact ⟨xs, by show upd w.H a _ c = _; rw [upd_ne y]; exact e⟩
  · have k := R.rr.en.at_ j sl o h1 h2
    cases sl with
    | un => trivial
    | val d => obtain ⟨v, rfl, rv⟩ := k; exact ⟨v, rfl, rv.mono m⟩
    | own ns =>
      obtain ⟨c, us, rfl, k1, k2, k3, k4⟩ := k
      have nca : c ≠ a := fun y => k3 (by rw [y]; exact ha)
      exact ⟨c, us, rfl, by show upd w.H a _ c = _; rw [upd_ne nca]; exact k1, k2, k3, k4.mono m⟩
  · by_cases z : n = k
    · subst z
      rw [show (⟨upd w.H a (.lst vs'), w.W, w.ag⟩ : Wd).ag[n]? = w.ag[n]? from rfl, e1] at h1
      cases h1
      have l1 : n < g.length := (List.getElem?_eq_some_iff.mp e2).1
      rw [List.getElem?_set_self l1] at h2
      cases h2
      exact ⟨vs', upd_same, r.mono m⟩
    · rw [List.getElem?_set_ne z] at h2
      obtain ⟨us, k1, k2⟩ := R.rr.g.at_ k c ns h1 h2
      refine ⟨us, ?_, k2.mono m⟩
      have nca : c ≠ a := fun y => by
        subst y
        have i1 : w.ag[k]? = some c := h1
        obtain ⟨l1, x1⟩ := List.getElem?_eq_some_iff.mp e1
        obtain ⟨l2, x2⟩ := List.getElem?_eq_some_iff.mp i1
        exact z ((List.getElem_inj R.rr.g.nd).mp (x1.trans x2.symm))
      show upd w.H a _ c = _
      rw [upd_ne nca]
      exact k1
  · have nca : c ≠ a := fun y => by
      subst y
      rcases R.ext.agn c ha with z | z
      · exact h2 z
      · rw [h1] at z; cases z
    show upd w.H a _ c = some o
    rw [upd_ne nca]
    exact R.ext.keep c o h1 h2
/-- a held list stands still from now on -/
theorem RS.freeze (ok0 : Ok w0) (R : RS K w0 E g σ w) {i : Nat} {ms : List D} (e1 : E[i]? = some (.own ms)) : ∃ w', w'.H = w.H ∧ RS K w0 (E.set i (.val (.lst ms))) g σ w' ∧ Mon w w' := by
  obtain ⟨a, vs, q1, q2, q3, q4, q5⟩ := R.rr.en.owned e1
  have n0 := R.own i ms a e1 q1
  have m : Mon w ⟨w.H, fun b => w.W b ∧ b ≠ a, w.ag⟩ := ⟨fun _ _ e _ => e, fun _ z => .inl z.1, fun _ _ z => z⟩
  refine ⟨⟨w.H, fun b => w.W b ∧ b ≠ a, w.ag⟩, rfl, ⟨⟨⟨fun c z => ⟨R.rr.ok.agW c z, fun y => q4 (by rw [← y]; exact z)⟩, fun c z => R.rr.ok.lst c z.1⟩, ⟨by simp [R.rr.en.len], fun j sl o h1 h2 => ?_, fun j k ns ns' c hjk h1 h2 h3 => ?_⟩, ⟨R.rr.g.len, R.rr.g.nd, fun n c ns h1 h2 => ?_⟩⟩, ⟨R.ext.keep, fun c z => R.ext.dn c z.1, fun c z => ⟨R.ext.up c z, fun y => ?_⟩, R.ext.ag, R.ext.agn⟩, fun j ns c h1 h2 => ?_⟩, m⟩
  · by_cases z : i = j
    · subst z
      have l1 := (List.getElem?_eq_some_iff.mp h1).1
      rw [List.length_set] at l1
      rw [List.getElem?_set_self l1] at h1
      rw [q1] at h2
      cases h1; cases h2
      exact ⟨.ref a, rfl, .lst ⟨fun z => z.2 rfl, q2⟩ (q5.mono m)⟩
    · rw [List.getElem?_set_ne z] at h1
      have k := R.rr.en.at_ j sl o h1 h2
      cases sl with
      | un => trivial
      | val d => obtain ⟨v, rfl, rv⟩ := k; exact ⟨v, rfl, rv.mono m⟩
      | own ns =>
        obtain ⟨c, us, rfl, k1, k2, k3, k4⟩ := k
        have nca : c ≠ a := fun y => by
          subst y
          exact R.rr.en.sep i j ms ns c z e1 h1 q1 h2
        exact ⟨c, us, rfl, k1, ⟨k2, nca⟩, k3, k4.mono m⟩
  · have back : ∀ {l : Nat} {xs : List D}, (E.set i (.val (.lst ms)))[l]? = some (.own xs) → E[l]? = some (.own xs) := fun {l xs} h => by
      by_cases z : i = l
      · subst z
        have l1 := (List.getElem?_eq_some_iff.mp h).1
        rw [List.length_set] at l1
        rw [List.getElem?_set_self l1] at h
        cases h
      · rw [List.getElem?_set_ne z] at h; exact h
    exact R.rr.en.sep j k ns ns' c hjk (back h1) (back h2) h3
  · obtain ⟨us, k1, k2⟩ := R.rr.g.at_ n c ns h1 h2
    exact ⟨us, k1, k2.mono m⟩
  · subst y
    obtain ⟨xs, e⟩ := ok0.lst c z
    rw [n0] at e; cases e
  · by_cases z : i = j
    · subst z
      have l1 := (List.getElem?_eq_some_iff.mp h1).1
      rw [List.length_set] at l1
      rw [List.getElem?_set_self l1] at h1
      cases h1
    · rw [List.getElem?_set_ne z] at h1
      exact R.own j ns c h1 h2
end
end DP

set_option linter.all false
set_option Elab.async false
/-! DSx: statements, one by one. By an AI agent. -/
namespace DP
open PySem PySem.Spec PyProof.Rows L2

section
variable {C : Cf} {Γ : List D} {X : Cx} {Z : Zc} {pos spos py p1 p2 ap cp : Pos} {x y tg l s v u iter : Expr} {a b e i k o : IE} {ca : IC} {st : Stmt} {sts : List Stmt} {bb bc : IB} {ix : IS}

/-! ### setting -/
theorem swaps_name {elt : Expr} {gs : List Comprehension} {scope : Scope} {n : Str} {lno : Nat} (hk : X.env.scope.kind = .function) : swapsWith (.ListComp elt gs scope pos) (some (.Name n py)) lno X.env =
    pure ((X.env.kindOf n == some .local && py.line == pos.line) && !(scope.names.any fun (m, k) => m == n && (k == .local || k == .cell))) := by
  have hb : X.env.blockKind = .function := by unfold Env.blockKind; rw [hk]; rfl
  unfold swapsWith
  simp only [hb, Expr.pos]
  rfl
/-- y = [..] : the reading is the same either way -/
theorem ps_setComp (c : Cxt C Γ X Z) {j : Nat} {n : Str} {scope : Scope} {own : List Nat} {cs : List Expr} (hn : tgtB Z j n = true) (hb : L2.blkC Z.N Z.sc scope (ownNs Z.N own) = true) (hs : notSet iter = true) :
    PS X (.Assign [.Name n py] (.ListComp x [⟨tg, iter, cs, 0⟩] scope pos) spos) (tAsg (tLc (WI X tg iter) (gA X scope tg) (tA X scope cs) (eA X scope x) own) (gName j)) := by
  obtain ⟨h1, h2, h3⟩ := c.tgt hn
  have nd : X.N.Nodup := by rw [c.N]; exact c.nd
  have bo : BlkOk X.N X.env.scope scope (ownNs Z.N own) := by rw [c.N, c.sc]; exact blkOk_by hb
  have hk : X.env.scope.kind = .function := by rw [c.sc]; exact c.kind
  have sw := swaps_name (X := X) (py := py) (pos := pos) (elt := x) (gs := [⟨tg, iter, cs, 0⟩]) (scope := scope) (n := n) (lno := spos.line) hk
  cases hc : ((X.env.kindOf n == some .local && py.line == pos.line) && !(scope.names.any fun (m, k) => m == n && (k == .local || k == .cell))) with
  | true =>
    rw [hc] at sw
    have hl : X.env.scope.names.lookup n = some .local := by
      obtain ⟨q1, _⟩ := ba hc
      obtain ⟨q2, _⟩ := ba q1
      simpa [Env.kindOf] using q2
    have r := ps_setLc (i := j) (own := ownNs Z.N own) c.calm nd h1 hl sw (pi_wi X tg iter) bo pg_gA pt_tA pe_eA (noFold hs X.env)
    rw [ownNs_snd] at r
    exact r
  | false =>
    rw [hc] at sw
    have r : PE X (.ListComp x [⟨tg, iter, cs, 0⟩] scope pos) (tLc (WI X tg iter) (gA X scope tg) (tA X scope cs) (eA X scope x) ((ownNs Z.N own).map (·.2))) := pe_lc c.calm nd (pi_wi X tg iter) bo pg_gA pt_tA pe_eA (noFold hs X.env)
    rw [ownNs_snd] at r
    exact ps_set nd h1 h2 r sw h3
theorem swaps_no {v : Expr} {o : Option Expr} {lno : Nat} (h : notComp v = true) : swapsWith v o lno X.env = pure false := by
  cases v <;> first | rfl | cases h
theorem snx_setN (c : Cxt C Γ X Z) {j : Nat} {n : Str} (hn : tgtB Z j n = true) (hc : notComp v = true) (he : SndE X v (evE C Γ e)) : SndX X (.Assign [.Name n py] v spos) (evX C Γ (.set (.name j) e)) := by
  intro E g r hr w0 ok0 σ w R D P
  obtain ⟨h1, h2, h3⟩ := c.tgt hn
  rw [evX] at hr
  split at hr
  · cases hr
  · rename_i d g1 e1
    split at hr
    · rename_i E1 eb
      cases hr
      rw [bindT] at eb
      split at eb
      · cases eb
        refine ⟨_, ps_set (by rw [c.N]; exact c.nd) h1 h2 (pe_we X v) (swaps_no hc) h3, ?_⟩
        refine he E g _ _ e1 σ w R.rr _ fun v1 w1 R1 x1 r1 => ?_
        exact P _ w1 ((R.expr ok0 R1 x1).bind (R1.en.set j r1) OwnK.set) (x1.mon R.rr.ok)
      · cases eb
    · cases hr
theorem snx_setC (c : Cxt C Γ X Z) {j : Nat} {n : Str} {scope : Scope} {own : List Nat} {cs : List Expr} (hn : tgtB Z j n = true) (hb : L2.blkC Z.N Z.sc scope (ownNs Z.N own) = true) (hs : notSet iter = true) (h : SndLc X scope own tg iter x cs (evE C Γ e)) :
    SndX X (.Assign [.Name n py] (.ListComp x [⟨tg, iter, cs, 0⟩] scope pos) spos) (evX C Γ (.set (.name j) e)) := by
  intro E g r hr w0 ok0 σ w R D P
  rw [evX] at hr
  split at hr
  · cases hr
  · rename_i d g1 e1
    split at hr
    · rename_i E1 eb
      cases hr
      rw [bindT] at eb
      split at eb
      · cases eb
        refine ⟨_, ps_setComp c hn hb hs, ?_⟩
        refine h E g _ _ e1 σ w R.rr _ fun ad ms w1 w2 ed F => ?_
        subst ed
        exact P _ w1 ((R.expr ok0 F.r1 F.x1).bind (F.r1.en.set j F.rep) OwnK.set) (F.x1.mon R.rr.ok)
      · cases eb
    · cases hr
theorem snx_setT (c : Cxt C Γ X Z) {t : IT} {es : List Expr} {kk : Nat} (ht : chkT Z t (.Tuple es kk p1) = true) (hv : okSet (.Tuple es kk p1) v = true) (he : SndE X v (evE C Γ e)) : SndX X (.Assign [.Tuple es kk p1] v spos) (evX C Γ (.set t e)) := by
  intro E g r hr w0 ok0 σ w R D P
  rw [evX] at hr
  split at hr
  · cases hr
  · rename_i d g1 e1
    split at hr
    · rename_i E1 eb
      cases hr
      have s1 : swapsWithSole [.Tuple es kk p1] v spos.line X.env = pure false := by
        cases v <;> first | rfl | cases hv
      have s2 : swappedStores [.Tuple es kk p1] v X.env = pure none := by
        cases v <;> first | rfl | cases hv
      refine ⟨_, ps_asg (pe_we X v) (pg_wg X (.Tuple es kk p1)) s1 s2 rfl, ?_⟩
      refine he E g _ _ e1 σ w R.rr _ fun v1 w1 R1 x1 r1 => ?_
      refine sndG c t _ ht d E E1 eb σ w1 v1 R1.en r1 _ fun σ1 en1 _ ho => ?_
      exact P σ1 w1 ((R.expr ok0 R1 x1).bind en1 ho) (x1.mon R.rr.ok)
    · cases hr

/-! ### a held list -/
theorem snx_ownN (c : Cxt C Γ X Z) {j : Nat} {n : Str} (hn : tgtB Z j n = true) (hc : notComp v = true) (he : SndF X v (evE C Γ e)) : SndX X (.Assign [.Name n py] v spos) (evX C Γ (.own j e)) := by
  intro E g r hr w0 ok0 σ w R D P
  obtain ⟨h1, h2, h3⟩ := c.tgt hn
  rw [evX] at hr
  split at hr
  · rename_i hi
    split at hr
    · rename_i ms g1 e1
      cases hr
      refine ⟨_, ps_set (by rw [c.N]; exact c.nd) h1 h2 (pe_we X v) (swaps_no hc) h3, ?_⟩
      refine he E g _ _ e1 σ w R.rr _ fun ad ms' w1 w2 ed F => ?_
      cases ed
      have S := R.hold ok0 j hi.2 F
      show D.nx _ w1.H
      rw [← F.H]
      exact P _ w2 S (F.x2.mon R.rr.ok)
    · cases hr
  · cases hr
theorem snx_ownC (c : Cxt C Γ X Z) {j : Nat} {n : Str} {scope : Scope} {own : List Nat} {cs : List Expr} (hn : tgtB Z j n = true) (hb : L2.blkC Z.N Z.sc scope (ownNs Z.N own) = true) (hs : notSet iter = true) (h : SndLc X scope own tg iter x cs (evE C Γ e)) :
    SndX X (.Assign [.Name n py] (.ListComp x [⟨tg, iter, cs, 0⟩] scope pos) spos) (evX C Γ (.own j e)) := by
  intro E g r hr w0 ok0 σ w R D P
  rw [evX] at hr
  split at hr
  · rename_i hi
    split at hr
    · rename_i ms g1 e1
      cases hr
      refine ⟨_, ps_setComp c hn hb hs, ?_⟩
      refine h E g _ _ e1 σ w R.rr _ fun ad ms' w1 w2 ed F => ?_
      cases ed
      have S := R.hold ok0 j hi.2 F
      show D.nx _ w1.H
      rw [← F.H]
      exact P _ w2 S (F.x2.mon R.rr.ok)
    · cases hr
  · cases hr

/-! ### a, b = x, y -/
theorem foldedStores {n m : Str} {kt k2 : Nat} {pt pt2 : Pos} (hk : X.env.scope.kind = .function) (h1 : X.env.scope.names.lookup n = some .local) (h2 : X.env.scope.names.lookup m = some .local) (hne : n ≠ m) (hl : p1.line = p2.line)
    (hu : notStar u = true) (hv : notStar v = true) (f1 : (foldedForSure 8 u && foldedForSure 8 v) = false) (f2 : (constantsAlone 8 u && constantsAlone 8 v) = false) :
    swappedStores [.Tuple [.Name n p1, .Name m p2] kt pt] (.Tuple [u, v] k2 pt2) X.env = pure (some [n, m]) := by
  have hb : X.env.blockKind = .function := by unfold Env.blockKind; rw [hk]; rfl
  have k1 : X.env.kindOf n = some .local := h1
  have k2' : X.env.kindOf m = some .local := h2
  unfold swappedStores
  simp only [List.length_cons, List.length_nil, hb, bne_self_eq_false, Bool.or_false, Nat.reduceAdd, beq_self_eq_true, Bool.true_or, Bool.not_true, Bool.false_eq_true, if_false, List.head?_cons, Option.map_some, Option.getD_some, Expr.pos, List.filterMap_cons, List.filterMap_nil, k1, k2', hl, Bool.and_self, if_true, List.all_cons, List.all_nil, Bool.and_true, f1, f2]
  have e1 : (List.eraseDups [n, m]).length = 2 := by
    rw [List.eraseDups_cons]
    have : ([m].filter fun b => !b == n) = [m] := by
      simp [Ne.symm hne]
    rw [this]
    rfl
  simp [e1]
  intro h
  rcases h with h | h
  · cases u <;> first | (cases hu; done) | (cases h; done)
  · cases v <;> first | (cases hv; done) | (cases h; done)
theorem snx_par (c : Cxt C Γ X Z) {j1 j2 : Nat} {n m : Str} {kt k2 : Nat} {pt pt2 : Pos} (hi : Z.N[j1]? = some n) (hj : Z.N[j2]? = some m) (h1 : lclB Z n = true) (h2 : lclB Z m = true) (hne : n ≠ m) (hl : p1.line = p2.line)
    (hu : notStar u = true) (hv : notStar v = true) (f1 : (foldedForSure 8 u && foldedForSure 8 v) = false) (f2 : (constantsAlone 8 u && constantsAlone 8 v) = false) (ha : SndE X u (evE C Γ a)) (hb : SndE X v (evE C Γ b)) :
    SndX X (.Assign [.Tuple [.Name n p1, .Name m p2] kt pt] (.Tuple [u, v] k2 pt2) spos) (evX C Γ (.par j1 j2 a b)) := by
  intro E g r hr w0 ok0 σ w R D P
  have l1 : X.env.scope.names.lookup n = some .local := by rw [c.sc]; exact of_decide_eq_true h1
  have l2 : X.env.scope.names.lookup m = some .local := by rw [c.sc]; exact of_decide_eq_true h2
  have hk : X.env.scope.kind = .function := by rw [c.sc]; exact c.kind
  rw [evX] at hr
  split at hr
  · cases hr
  · rename_i d1 g1 e1
    split at hr
    · cases hr
    · rename_i d2 g2 e2
      split at hr
      · rename_i hlen
        cases hr
        refine ⟨_, ps_par c.calm (by rw [c.N]; exact c.nd) (by rw [c.N]; exact hi) (by rw [c.N]; exact hj) hlen.2.2 l1 l2 (pa_2 hu hv) (foldedStores hk l1 l2 hne hl hu hv f1 f2) rfl, ?_⟩
        refine ha E g _ _ e1 σ w R.rr _ fun v1 w1 R1 x1 r1 => ?_
        refine hb E g1 _ _ e2 σ w1 R1 _ fun v2 w2 R2 x2 r2 => ?_
        refine ⟨v1, v2, rfl, ?_⟩
        have S := (R.expr ok0 R1 x1).expr ok0 R2 x2
        have S1 := S.bind (R2.en.set j1 (r1.mono (x2.mon R1.ok))) OwnK.set
        exact P _ w2 (S1.bind (S1.rr.en.set j2 r2) OwnK.set) ((x1.trans R.rr.ok x2).mon R.rr.ok)
      · cases hr

/-! ### append, extend, items -/
theorem few1 {v : Expr} (h : notStar v = true) {es : List Expr} (he : es = []) : ((backTo cp (starEach (v :: es) X.env)).all (fun x => !x.1) && (backToKw cp (keywordEach [] X.env)).all (fun x => x.1.isSome)
      && decide ((v :: es).length + ([] : List Keyword).length + (if ([] : List Keyword).isEmpty then 0 else 1) < 30)) = true := by
  subst he
  rw [star_cons h]
  rfl
theorem nameBase {n m : Str} {pp : Pos} : attributeBase (.Name n pp) m X.env (eval (.Name n pp) X.env) = eval (.Name n pp) X.env := rfl
theorem snx_app (c : Cxt C Γ X Z) {j : Nat} {n : Str} (hn : varB Z j n = true) (hl : ap.endLine = cp.line) (hv : notStar v = true) (he : SndE X v (evE C Γ e)) : SndX X (.Expr (.Call (.Attribute (.Name n p1) "append" ap) [v] [] cp) spos) (evX C Γ (.app j e)) := by
  intro E g r hr w0 ok0 σ w R D P
  obtain ⟨h1, h2, h3, h4⟩ := c.vis hn
  rw [evX] at hr
  split at hr
  · cases hr
  · rename_i d g1 e1
    split at hr
    · rename_i ms eo
      split at hr
      · rename_i hlt
        cases hr
        refine ⟨_, ps_expr (pe_bm PySem.F.plainAttrs_list PySem.F.slot_list_append PySem.F.type_list_append mt_append (pe_var h1 h2 h3 h4) (pa_1 hv) nameBase (few1 hv rfl) (by rw [hl]; exact beq_self_eq_true _) (star_cons hv) rfl) rfl, ?_⟩
        obtain ⟨ad, vs, s1, q1, q2, q3, q4⟩ := R.rr.en.owned eo
        refine ⟨.ref ad, s1, .inl ⟨rfl, vs, .inl (.inl q1)⟩, ?_⟩
        refine he E g _ _ e1 σ w R.rr _ fun v1 w1 R1 x1 r1 => ?_
        have S := R.expr ok0 R1 x1
        obtain ⟨ad', us, s1', k1, k2, k3, k4⟩ := R1.en.owned eo
        rw [s1] at s1'
        cases s1'
        obtain ⟨S2, m2⟩ := S.write eo s1 (k4.append (.cons r1 .nil))
        refine ⟨ad, us, v1, rfl, rfl, k1, ?_, P _ _ S2 ((x1.mon R.rr.ok).trans m2)⟩
        rw [k4.length, ← lineB_le]
        exact hlt
      · cases hr
    · cases hr
theorem snx_ext (c : Cxt C Γ X Z) {j : Nat} {n : Str} (hn : varB Z j n = true) (hl : ap.endLine = cp.line) (hv : notStar v = true) (he : SndE X v (evE C Γ e)) : SndX X (.Expr (.Call (.Attribute (.Name n p1) "extend" ap) [v] [] cp) spos) (evX C Γ (.ext j e)) := by
  intro E g r hr w0 ok0 σ w R D P
  obtain ⟨h1, h2, h3, h4⟩ := c.vis hn
  rw [evX] at hr
  split at hr
  · rename_i ds g1 e1
    split at hr
    · rename_i ms eo
      split at hr
      · rename_i hlt
        cases hr
        refine ⟨_, ps_expr (pe_bm PySem.F.plainAttrs_list PySem.F.slot_list_extend PySem.F.type_list_extend mt_extend (pe_var h1 h2 h3 h4) (pa_1 hv) nameBase (few1 hv rfl) (by rw [hl]; exact beq_self_eq_true _) (star_cons hv) rfl) rfl, ?_⟩
        obtain ⟨ad, vs, s1, q1, q2, q3, q4⟩ := R.rr.en.owned eo
        refine ⟨.ref ad, s1, .inl ⟨rfl, vs, .inl (.inl q1)⟩, ?_⟩
        refine he E g _ _ e1 σ w R.rr _ fun v1 w1 R1 x1 r1 => ?_
        have S := R.expr ok0 R1 x1
        obtain ⟨ad', us, s1', k1, k2, k3, k4⟩ := R1.en.owned eo
        rw [s1] at s1'
        cases s1'
        cases r1 with
        | lst hL rs =>
          obtain ⟨S2, m2⟩ := S.write eo s1 (k4.append rs)
          refine ⟨ad, _, us, _, rfl, rfl, k1, hL.2, ?_, P _ _ S2 ((x1.mon R.rr.ok).trans m2)⟩
          rw [k4.length, rs.length, ← lineB_le]
          exact hlt
      · cases hr
    · cases hr
  · cases hr
theorem asgSub {l s : Expr} {pp : Pos} (h : notSlice s = true) : ∀ v, assign (.Subscript l s pp) X.env v = (do
      let ov ← holding [v] (eval l X.env)
      let iv ← holding [v, ov] (eval s X.env)
      standAt pp
      holding [v, ov, iv] (setItem ov iv v)
      release [v, ov, iv] []) := by
  intro v
  cases s <;> first | rfl | cases h
theorem swaps_sub {l s v : Expr} {pp : Pos} {lno : Nat} : swapsWithSole [.Subscript l s pp] v lno X.env = pure false ∧ swappedStores [.Subscript l s pp] v X.env = pure none := by
  constructor
  · show swapsWith v (some (.Subscript l s pp)) lno X.env = pure false
    cases v <;> rfl
  · cases v <;> rfl
theorem snx_setI (c : Cxt C Γ X Z) {j : Nat} {n : Str} (hn : varB Z j n = true) (hs : notSlice s = true) (hk : SndE X s (evE C Γ k)) (he : SndE X v (evE C Γ e)) : SndX X (.Assign [.Subscript (.Name n p1) s p2] v spos) (evX C Γ (.setI j k e)) := by
  intro E g r hr w0 ok0 σ w R D P
  obtain ⟨h1, h2, h3, h4⟩ := c.vis hn
  rw [evX] at hr
  split at hr
  · cases hr
  · rename_i d g1 e1
    split at hr
    · rename_i kk g2 e2
      split at hr
      · rename_i ms eo
        split at hr
        · rename_i q eq
          cases hr
          refine ⟨_, ps_asg (pe_we X v) (pg_sub (pe_var h1 h2 h3 h4) (pe_we X s) set_list (asgSub hs)) swaps_sub.1 (swaps_sub (lno := 0)).2 rfl, ?_⟩
          refine he E g _ _ e1 σ w R.rr _ fun v1 w1 R1 x1 r1 => ?_
          obtain ⟨ad, vs, s1, q1, q2, q3, q4⟩ := R.rr.en.owned eo
          refine ⟨.ref ad, s1, ?_⟩
          refine hk E g1 _ _ e2 σ w1 R1 _ fun v2 w2 R2 x2 r2 => ?_
          cases r2
          have S := (R.expr ok0 R1 x1).expr ok0 R2 x2
          obtain ⟨ad', us, s1', k1, k2, k3, k4⟩ := R2.en.owned eo
          rw [s1] at s1'
          cases s1'
          obtain ⟨S2, m2⟩ := S.write eo s1 (k4.set (r1.mono (x2.mon R1.ok)) q)
          refine ⟨ad, us, kk, q, rfl, rfl, k1, ?_, P _ _ S2 (((x1.trans R.rr.ok x2).mon R.rr.ok).trans m2)⟩
          rw [k4.length, ← ixN_eq]
          exact eq
        · cases hr
      · cases hr
    · cases hr
theorem snx_setR (c : Cxt C Γ X Z) (hs : notSlice s = true) (ho : SndE X l (evE C Γ o)) (hk : SndE X s (evE C Γ k)) (he : SndE X v (evE C Γ e)) : SndX X (.Assign [.Subscript l s p2] v spos) (evX C Γ (.setR o k e)) := by
  intro E g r hr w0 ok0 σ w R D P
  rw [evX] at hr
  split at hr
  · cases hr
  · rename_i d g1 e1
    split at hr
    · rename_i rr g2 e2
      split at hr
      · rename_i kk g3 e3
        split at hr
        · rename_i ms eg
          split at hr
          · rename_i q eq
            cases hr
            refine ⟨_, ps_asg (pe_we X v) (pg_sub (pe_we X l) (pe_we X s) set_list (asgSub hs)) swaps_sub.1 (swaps_sub (lno := 0)).2 rfl, ?_⟩
            refine he E g _ _ e1 σ w R.rr _ fun v1 w1 R1 x1 r1 => ?_
            refine ho E g1 _ _ e2 σ w1 R1 _ fun v2 w2 R2 x2 r2 => ?_
            refine hk E g2 _ _ e3 σ w2 R2 _ fun v3 w3 R3 x3 r3 => ?_
            cases r3
            have x12 := x1.trans R.rr.ok x2
            have S := ((R.expr ok0 R1 x1).expr ok0 R2 x2).expr ok0 R3 x3
            have r2' := r2.mono (x3.mon R2.ok)
            cases r2' with
            | @ref _ ad hag =>
              obtain ⟨us, k1, k4⟩ := R3.g.at_ _ _ _ hag eg
              obtain ⟨S2, m2⟩ := S.writeG hag eg (k4.set ((r1.mono (x2.mon R1.ok)).mono (x3.mon R2.ok)) q)
              refine ⟨ad, us, kk, q, rfl, rfl, k1, ?_, P _ _ S2 (((x12.trans R.rr.ok x3).mon R.rr.ok).trans m2)⟩
              rw [k4.length, ← ixN_eq]
              exact eq
          · cases hr
        · cases hr
      · cases hr
    · cases hr

/-! ### small ones -/
theorem snx_expr (hc : notComp v = true) (he : SndE X v (evE C Γ e)) : SndX X (.Expr v spos) (evX C Γ (.expr e)) := by
  intro E g r hr w0 ok0 σ w R D P
  rw [evX] at hr
  split at hr
  · rename_i d g1 e1
    cases hr
    refine ⟨_, ps_expr (pe_we X v) (swaps_no hc), ?_⟩
    exact he E g _ _ e1 σ w R.rr _ fun v1 w1 R1 x1 r1 => P σ w1 (R.expr ok0 R1 x1) (x1.mon R.rr.ok)
  · cases hr
theorem snx_ret (he : SndE X v (evE C Γ e)) : SndX X (.Return (some v) spos) (evX C Γ (.ret e)) := by
  intro E g r hr w0 ok0 σ w R D P
  rw [evX] at hr
  split at hr
  · rename_i d g1 e1
    cases hr
    refine ⟨_, ps_ret (pe_we X v), ?_⟩
    exact he E g _ _ e1 σ w R.rr _ fun v1 w1 R1 x1 r1 => P v1 w1 R1.ok (R.ext.trans ok0 x1) R1.g r1
  · cases hr
theorem snx_retN : SndX X (.Return none spos) (evX C Γ .retN) := by
  intro E g r hr w0 ok0 σ w R D P
  rw [evX] at hr
  cases hr
  exact ⟨_, ps_retN, P .non w R.rr.ok R.ext R.rr.g .non⟩
theorem snx_brk : SndX X (.Break spos) (evX C Γ .brk) := by
  intro E g r hr w0 ok0 σ w R D P
  rw [evX] at hr
  cases hr
  exact ⟨_, ps_break, P σ w R (Mon.refl _)⟩
theorem snx_cnt : SndX X (.Continue spos) (evX C Γ .cnt) := by
  intro E g r hr w0 ok0 σ w R D P
  rw [evX] at hr
  cases hr
  exact ⟨_, ps_continue, P σ w R (Mon.refl _)⟩
theorem snx_pass : SndX X (.Pass spos) (evX C Γ .pass) := by
  intro E g r hr w0 ok0 σ w R D P
  rw [evX] at hr
  cases hr
  exact ⟨_, ps_pass, P σ w R (Mon.refl _)⟩
theorem snx_none {f : En → Gs → Option (Fl × En × Gs)} (h : ∀ E g, f E g = none) : SndX X st f := fun E g r hr => by rw [h] at hr; cases hr

/-! ### blocks -/
theorem snb_nil : SndB X [] (evB C Γ .nil) := by
  intro E g r hr w0 ok0 σ w R D P
  rw [evB] at hr
  cases hr
  exact ⟨_, pss_nil, P σ w R (Mon.refl _)⟩
theorem snb_cons (hx : SndX X st (evX C Γ ix)) (hb : SndB X sts (evB C Γ bb)) : SndB X (st :: sts) (evB C Γ (.cons ix bb)) := by
  intro E g r hr w0 ok0 σ w R D P
  rw [evB] at hr
  refine ⟨_, pss_cons (ps_wx X st) (pss_wxs X sts), ?_⟩
  split at hr
  · rename_i E1 g1 e1
    refine hx E g _ e1 w0 ok0 σ w R _ fun σ' w' R' m' => ?_
    exact hb E1 g1 r hr w0 ok0 σ' w' R' D (P.mono m')
  · rename_i r' hne
    refine hx E g r hr w0 ok0 σ w R _ ?_
    obtain ⟨fl, E1, g1⟩ := r
    cases fl with
    | nx => exact absurd hr (hne E1 g1)
    | rt d => exact P
    | bk => exact P
    | ct => exact P
theorem snb_frz {j : Nat} (hb : SndB X sts (evB C Γ bb)) : SndB X sts (evB C Γ (.cons (.frz j) bb)) := by
  intro E g r hr w0 ok0 σ w R D P
  rw [evB, evX] at hr
  cases eo : E[j]? with
  | none => rw [eo] at hr; cases hr
  | some sl =>
    cases sl with
    | own ms =>
      rw [eo] at hr
      obtain ⟨w', eh, R', m'⟩ := R.freeze ok0 eo
      rw [← eh]
      exact hb _ g r hr w0 ok0 σ w' R' D (P.mono m')
    | _ => rw [eo] at hr; cases hr
theorem snx_ifs (hc : SndT X x (evT C Γ ca)) (h1 : SndB X sts (evB C Γ bb)) {sts' : List Stmt} (h2 : SndB X sts' (evB C Γ bc)) : SndX X (.If x sts sts' spos) (evX C Γ (.ifs ca bb bc)) := by
  intro E g r hr w0 ok0 σ w R D P
  rw [evX] at hr
  refine ⟨_, ps_if (pt_wt X x) (pss_wxs X sts) (pss_wxs X sts'), ?_⟩
  split at hr
  · rename_i g1 e1
    refine hc E g _ _ e1 σ w R.rr _ fun w1 R1 x1 => iteT ?_
    exact h1 E g1 r hr w0 ok0 σ w1 (R.expr ok0 R1 x1) D (P.mono (x1.mon R.rr.ok))
  · rename_i g1 e1
    refine hc E g _ _ e1 σ w R.rr _ fun w1 R1 x1 => iteF ?_
    exact h2 E g1 r hr w0 ok0 σ w1 (R.expr ok0 R1 x1) D (P.mono (x1.mon R.rr.ok))
  · cases hr
end
end DP

set_option linter.all false
set_option Elab.async false
/-! DFl: loops; a list of lists that may change. By an AI agent. -/
namespace DP
open PySem PySem.Spec PyProof.Rows L2

section
variable {C : Cf} {Γ : List D} {X : Cx} {Z : Zc} {pos spos p1 p2 p3 : Pos} {x y tg l s v u iter : Expr} {a b e : IE} {it : II} {ca : IC} {st : Stmt} {sts : List Stmt} {bb : IB} {ix : IS} {t : IT}
theorem Cxt.pass (c : Cxt C Γ X Z) : PassesOwn (model X.prog X.w) X.A X.env X.xe := by rw [c.xe]; exact .never
theorem snx_loop (c : Cxt C Γ X Z) (hs : notSet iter = true) (hi : SndL X tg iter (evI C Γ it)) (hg : SndG X tg t) (hb : SndB X sts (evB C Γ bb)) : SndX X (.For tg iter sts [] spos) (evX C Γ (.loop t it bb)) := by
  intro E g r hr w0 ok0 σ w R D P
  rw [evX] at hr
  split at hr
  · rename_i xs g1 e1
    refine ⟨_, ps_for c.pass c.calm (pi_wi X tg iter) (pg_wg X tg) (pss_wxs X sts) (noFold hs X.env), ?_⟩
    refine hi E g _ _ e1 σ w R.rr _ fun J w1 R1 x1 io => ?_
    have m01 := x1.mon R.rr.ok
    refine ⟨fun i m σ' H => ∃ E' g' w', w'.H = H ∧ RS X.K w0 E' g' σ' w' ∧ Mon w1 w' ∧ m + i = xs.length ∧ loopRun t (evB C Γ bb) (xs.drop i) E' g' = some r, ⟨xs.length, E, g1, w1, rfl, R.expr ok0 R1 x1, Mon.refl _, rfl, hr⟩, ?_⟩
    rintro i m σ' H ⟨E', g', w', rfl, R', m', hm, hl⟩
    by_cases hlt : i < xs.length
    · rw [List.drop_eq_getElem_cons hlt, loopRun] at hl
      have hget : xs[i]? = some xs[i] := List.getElem?_eq_getElem hlt
      obtain ⟨g0, gy⟩ := io.go w' m' R'.rr.ok i _ hget
      refine .inr ⟨g0, fun σ'' H'' => ∃ E'' g'' w'', w''.H = H'' ∧ RS X.K w0 E'' g'' σ'' w'' ∧ Mon w1 w'' ∧ loopRun t (evB C Γ bb) (xs.drop (i + 1)) E'' g'' = some r, ?_, ?_⟩
      · rintro σ'' H'' ⟨E'', g'', w'', q1, q2, q3, q4⟩
        exact ⟨m - 1, by omega, E'', g'', w'', q1, q2, q3, by omega, q4⟩
      · intro xv H' hy
        obtain ⟨w3, rfl, n3, rv⟩ := gy xv H' hy
        have x3 := (n3.ext R'.rr.ok).1
        have R3 := R'.expr ok0 (n3.rr R'.rr) x3
        have m3 := m'.trans (x3.mon R'.rr.ok)
        split at hl
        · cases hl
        · rename_i E1 eb
          refine hg _ E' E1 eb σ' w3 xv R3.rr.en rv _ fun σ1 en1 _ ho => ?_
          have R4 := R3.bind en1 ho
          split at hl
          · cases hl
          · rename_i E2 g2 ebb
            refine hb E1 g' _ ebb w0 ok0 σ1 w3 R4 _ fun σ2 w2 R2 m2 => ?_
            exact ⟨E2, g2, w2, rfl, R2, m3.trans m2, hl⟩
          · rename_i E2 g2 ebb
            refine hb E1 g' _ ebb w0 ok0 σ1 w3 R4 _ fun σ2 w2 R2 m2 => ?_
            exact ⟨E2, g2, w2, rfl, R2, m3.trans m2, hl⟩
          · rename_i E2 g2 ebb
            cases hl
            refine hb E1 g' _ ebb w0 ok0 σ1 w3 R4 _ fun σ2 w2 R2 m2 => ?_
            exact P σ2 w2 R2 (m01.trans (m3.trans m2))
          · rename_i v2 E2 g2 ebb
            cases hl
            exact hb E1 g' _ ebb w0 ok0 σ1 w3 R4 _ fun v w2 q1 q2 q3 q4 => P v w2 q1 q2 q3 q4
    · have hi2 : i = xs.length := by omega
      subst hi2
      rw [List.drop_length, loopRun] at hl
      cases hl
      exact .inl ⟨io.stop w' m' R'.rr.ok, P σ' w' R' (m01.trans m')⟩
  · cases hr
theorem snx_whil (c : Cxt C Γ X Z) (hc : SndT X x (evT C Γ ca)) (hb : SndB X sts (evB C Γ bb)) : SndX X (.While x sts [] spos) (evX C Γ (.whil ca bb)) := by
  intro E g r hr w0 ok0 σ w R D P
  rw [evX] at hr
  refine ⟨_, ps_while c.pass (pt_wt X x) (pss_wxs X sts), ?_⟩
  refine ⟨fun m σ' H => ∃ E' g' w', w'.H = H ∧ RS X.K w0 E' g' σ' w' ∧ Mon w w' ∧ whileRun (evT C Γ ca) (evB C Γ bb) m E' g' = some r, ⟨_, E, g, w, rfl, R, Mon.refl _, hr⟩, ?_⟩
  rintro m σ' H ⟨E', g', w', rfl, R', m', hl⟩
  cases m with
  | zero => rw [whileRun] at hl; cases hl
  | succ m =>
    rw [whileRun] at hl
    split at hl
    · cases hl
    · rename_i g1 e1
      cases hl
      refine hc E' g' _ _ e1 σ' w' R'.rr _ fun w1 R1 x1 => iteF ?_
      exact P σ' w1 (R'.expr ok0 R1 x1) (m'.trans (x1.mon R'.rr.ok))
    · rename_i g1 e1
      refine hc E' g' _ _ e1 σ' w' R'.rr _ fun w1 R1 x1 => iteT ?_
      have R3 := R'.expr ok0 R1 x1
      have m3 := m'.trans (x1.mon R'.rr.ok)
      refine ⟨fun σ'' H'' => ∃ E'' g'' w'', w''.H = H'' ∧ RS X.K w0 E'' g'' σ'' w'' ∧ Mon w w'' ∧ whileRun (evT C Γ ca) (evB C Γ bb) m E'' g'' = some r, ?_, ?_⟩
      · rintro σ'' H'' ⟨E'', g'', w'', q1, q2, q3, q4⟩
        exact ⟨m, by omega, E'', g'', w'', q1, q2, q3, q4⟩
      · split at hl
        · cases hl
        · rename_i E2 g2 ebb
          refine hb E' g1 _ ebb w0 ok0 σ' w1 R3 _ fun σ2 w2 R2 m2 => ?_
          exact ⟨E2, g2, w2, rfl, R2, m3.trans m2, hl⟩
        · rename_i E2 g2 ebb
          refine hb E' g1 _ ebb w0 ok0 σ' w1 R3 _ fun σ2 w2 R2 m2 => ?_
          exact ⟨E2, g2, w2, rfl, R2, m3.trans m2, hl⟩
        · rename_i E2 g2 ebb
          cases hl
          refine hb E' g1 _ ebb w0 ok0 σ' w1 R3 _ fun σ2 w2 R2 m2 => ?_
          exact P σ2 w2 R2 (m3.trans m2)
        · rename_i v2 E2 g2 ebb
          cases hl
          exact hb E' g1 _ ebb w0 ok0 σ' w1 R3 _ fun v w2 q1 q2 q3 q4 => P v w2 q1 q2 q3 q4

theorem snx_retG (c : Cxt C Γ X Z) {j : Nat} {n : Str} (hn : varB Z j n = true) (hu : notStar u = true) (hv : notStar v = true) (ha : SndE X u (evE C Γ a)) (hb : SndE X v (evE C Γ b)) :
    SndX X (.Return (some (.List [.Name n p1, .List [u] p2, v] p3)) spos) (evX C Γ (.retG j a b)) := by
  intro E g r hr w0 ok0 σ w R D P
  obtain ⟨h1, h2, h3, h4⟩ := c.vis hn
  rw [evX] at hr
  split at hr
  · rename_i ms eo
    split at hr
    · cases hr
    · rename_i d1 g1 e1
      split at hr
      · cases hr
      · rename_i d2 g2 e2
        cases hr
        refine ⟨_, ps_ret (pe_lst (pa_cons (pe_var h1 h2 h3 h4) (pa_cons (pe_lst (pa_1 hu)) (pa_cons (pe_we X v) pa_nil (star_cons hv)) (star_cons rfl)) (star_cons rfl))), ?_⟩
        obtain ⟨ad, vs, s1, q1, q2, q3, q4⟩ := R.rr.en.owned eo
        have n0 := R.own j ms ad eo s1
        refine ⟨.ref ad, s1, ?_⟩
        refine ha E g _ _ e1 σ w R.rr _ fun v1 w1 R1 x1 r1 => ?_
        refine ⟨by rw [← lineB_le]; simp only [List.length_cons, List.length_nil]; decide, fun pa hpa => ?_⟩
        obtain ⟨R2, nag2⟩ := R1.newO (vs := [v1]) hpa
        have x2 : Ext w1 (w1.newO pa [v1]) := Ext.newO hpa
        refine hb E g1 _ _ e2 σ _ R2 _ fun v2 w3 R3 x3 r3 => ?_
        refine ⟨by rw [← lineB_le]; simp only [List.length_cons, List.length_nil]; decide, fun pb hpb => ?_⟩
        have x12 : Ext w (w1.newO pa [v1]) := x1.trans R.rr.ok x2
        have x13 : Ext w w3 := x12.trans R.rr.ok x3
        have ex : Ext w0 w3 := R.ext.trans ok0 x13
        have hA : w3.H pa = some (.lst [v1]) := x3.keep pa _ upd_same nag2
        have hAW : w3.W pa := x3.up pa (.inr rfl)
        have hAn : pa ∉ w3.ag := x3.notAg (o := .lst [v1]) upd_same nag2
        have wpa : w0.H pa = none := R.ext.none ok0 R.rr.ok (x1.none R.rr.ok R1.ok hpa)
        have wpb : w0.H pb = none := ex.none ok0 R3.ok hpb
        obtain ⟨ad', us, s1', k1, k2, k3, k4⟩ := R3.en.owned eo
        rw [s1] at s1'
        cases s1'
        have nba : ad ≠ pb := fun z => by rw [z, hpb] at k1; cases k1
        have nbp : pa ≠ pb := fun z => by rw [z, hpb] at hA; cases hA
        have nap : ad ≠ pa := fun z => by
          have : w.H pa = none := x1.none R.rr.ok R1.ok hpa
          rw [← z, q1] at this; cases this
        have nbg : pb ∉ w3.ag := fun z => by
          obtain ⟨xs, q⟩ := R3.ok.lst pb (R3.ok.agW pb z)
          rw [hpb] at q; cases q
        let w' : Wd := ⟨upd w3.H pb (.lst [.ref ad, .ref pa, v2]), fun b => w3.W b ∨ b = pb, w3.ag ++ [ad, pa, pb]⟩
        have keep : ∀ b o, w3.H b = some o → w'.H b = some o := fun b o e => by
          show upd w3.H pb _ b = some o
          rw [upd_ne (ne_of_none e hpb)]; exact e
        have agk : ∀ (k : Nat) (b : Addr), w3.ag[k]? = some b → w'.ag[k]? = some b := fun k b e => by
          show (w3.ag ++ [ad, pa, pb])[k]? = some b
          rw [List.getElem?_append_left (List.getElem?_eq_some_iff.mp e).1]; exact e
        have m' : Mon w3 w' := ⟨fun b o e _ => keep b o e, fun b z => by
          rcases z with z | z
          · exact .inl z
          · subst z; exact .inr hpb, agk⟩
        have lenG : w3.ag.length = g2.length := R3.g.len
        have at0 : w'.ag[g2.length]? = some ad := by
          show (w3.ag ++ [ad, pa, pb])[g2.length]? = _
          rw [← lenG]; simp
        have at1 : w'.ag[g2.length + 1]? = some pa := by
          show (w3.ag ++ [ad, pa, pb])[g2.length + 1]? = _
          rw [← lenG]; simp
        have at2 : w'.ag[g2.length + 2]? = some pb := by
          show (w3.ag ++ [ad, pa, pb])[g2.length + 2]? = _
          rw [← lenG]; simp
        have ok' : Ok w' := by
          refine ⟨fun b z => ?_, fun b z => ?_⟩
          · rcases List.mem_append.mp z with z | z
            · exact .inl (R3.ok.agW b z)
            · simp only [List.mem_cons, List.not_mem_nil, or_false] at z
              rcases z with z | z | z
              · subst z; exact .inl k2
              · subst z; exact .inl hAW
              · exact .inr z
          · rcases z with z | z
            · obtain ⟨xs, q⟩ := R3.ok.lst b z
              exact ⟨xs, keep b _ q⟩
            · subst z; exact ⟨_, upd_same⟩
        refine P (.ref pb) w' ok' ⟨fun b o e n => keep b o (ex.keep b o e n), fun b z => ?_, fun b z => .inl (ex.up b z), fun k b e => agk k b (ex.ag k b e), fun b z => ?_⟩ ⟨by show (w3.ag ++ [ad, pa, pb]).length = (g2 ++ _).length; simp [lenG], ?_, ?_⟩ (.ref at2)
        · rcases z with z | z
          · exact ex.dn b z
          · subst z; exact .inr wpb
        · rcases List.mem_append.mp z with z | z
          · exact ex.agn b z
          · simp only [List.mem_cons, List.not_mem_nil, or_false] at z
            rcases z with z | z | z <;> subst z
            · exact .inr n0
            · exact .inr wpa
            · exact .inr wpb
        · show (w3.ag ++ [ad, pa, pb]).Nodup
          rw [List.nodup_append]
          refine ⟨R3.g.nd, by simp [nap, nba, nbp], fun b hb1 b' hb2 => ?_⟩
          simp only [List.mem_cons, List.not_mem_nil, or_false] at hb2
          rcases hb2 with z | z | z <;> subst z
          · exact fun z => k3 (z ▸ hb1)
          · exact fun z => hAn (z ▸ hb1)
          · exact fun z => nbg (z ▸ hb1)
        · intro k b ns h1' h2'
          rcases Nat.lt_or_ge k g2.length with hk | hk
          · have h1'' : w3.ag[k]? = some b := by
              have : (w3.ag ++ [ad, pa, pb])[k]? = some b := h1'
              rwa [List.getElem?_append_left (by omega)] at this
            rw [List.getElem?_append_left hk] at h2'
            obtain ⟨us', z1, z2⟩ := R3.g.at_ k b ns h1'' h2'
            exact ⟨us', keep b _ z1, z2.mono m'⟩
          · rw [List.getElem?_append_right hk] at h2'
            obtain ⟨i, hi⟩ : ∃ i, k = g2.length + i := ⟨k - g2.length, by omega⟩
            subst hi
            rw [Nat.add_sub_cancel_left] at h2'
            match i, h2' with
            | 0, h2' =>
              rw [Nat.add_zero, at0] at h1'
              simp at h2'
              cases h1'; subst h2'
              exact ⟨us, keep _ _ k1, k4.mono m'⟩
            | 1, h2' =>
              rw [at1] at h1'
              simp at h2'
              cases h1'; subst h2'
              exact ⟨_, keep _ _ hA, .cons (((r1.mono (x2.mon R1.ok)).mono (x3.mon R2.ok)).mono m') .nil⟩
            | 2, h2' =>
              rw [at2] at h1'
              simp at h2'
              cases h1'; subst h2'
              exact ⟨_, upd_same, .cons (.ref at0) (.cons (.ref at1) (.cons (r3.mono m') .nil))⟩
            | i + 3, h2' => simp at h2'
  · cases hr
end
end DP

set_option linter.all false
set_option Elab.async false
/-! DDisp: which lemma tells of which text (the rows by shape are printed by gen_disp.py). By an AI agent. -/
namespace DP
open PySem PySem.Spec PyProof.Rows L2

theorem chk_star {e : IE} {Z : Zc} {x : Expr} (h : chkE e Z x = true) : notStar x = true := by
  cases x with
  | Starred v p =>
    cases e <;> exact nomatch (show false = true from h)
  | _ => rfl
theorem chkO_star {e : IO} {Z : Zc} {x : Expr} (h : chkO e Z x = true) : notStar x = true := by
  cases e with
  | own i =>
    cases x with
    | Starred v p => exact nomatch (show false = true from h)
    | _ => rfl
  | e a => exact chk_star (show chkE a Z x = true from h)
theorem chkA_star {es : IA} {Z : Zc} : ∀ {xs : List Expr}, chkA es Z xs = true → ∀ x ∈ xs, notStar x = true := by
  intro xs h x hx
  induction xs generalizing es with
  | nil => cases hx
  | cons y ys ih =>
    cases es with
    | nil => exact nomatch (show false = true from h)
    | cons e es =>
      have h' : (chkE e Z y && chkA es Z ys) = true := h
      obtain ⟨h1, h2⟩ := ba h'
      rcases List.mem_cons.mp hx with q | q
      · subst q; exact chk_star h1
      · exact ih h2 q
theorem truth_plain {a : IE} {Z : Zc} {x : Expr} (hp : plainIE a = true) (hn : (match a with | .cmp _ _ _ => false | .chain _ _ _ _ _ => false | .isN _ => false | .notN _ => false | .never => false | _ => true) = true) (h : chkE a Z x = true) : plainTest x = true := by
  cases x with
  | UnaryOp op l p => cases op <;> first | rfl | (cases a <;> first | exact nomatch (show false = true from h) | exact nomatch (show false = true from hp) | exact nomatch (show false = true from hn))
  | BoolOp op l p => cases a <;> first | exact nomatch (show false = true from h) | exact nomatch (show false = true from hp) | exact nomatch (show false = true from hn)
  | IfExp u v w p => cases a <;> first | exact nomatch (show false = true from h) | exact nomatch (show false = true from hp) | exact nomatch (show false = true from hn)
  | Compare l ops rs p => cases a <;> first | exact nomatch (show false = true from h) | exact nomatch (show false = true from hp) | exact nomatch (show false = true from hn)
  | _ => rfl

/-! ### comprehensions -/
section
variable {C : Cf} {Γ : List D} {X : Cx} {Z : Zc} {x tg iter q : Expr}
theorem all_mem {vs own : List Nat} (h : (vs.all fun i => own.contains i) = true) : ∀ i, i ∈ vs → i ∈ own := fun i hi => by
  have := List.all_eq_true.mp h i hi
  simpa using this
theorem blk_kind {Z : Zc} {scope : Scope} {ns : List (Str × Nat)} (h : L2.blkC Z.N Z.sc scope ns = true) : scope.kind = .function := (blkOk_by h).kind
theorem lc_case {scope : Scope} {own : List Nat} {t : IT} {it : II} {cond : IC} {elt : IE} (c : Cxt C Γ X Z) (hb : L2.blkC Z.N Z.sc scope (ownNs Z.N own) = true) (hsl : ((slotsT t).all fun i => own.contains i) = true)
    (hi : SndI X tg iter (evI C Γ it)) (ht : chkT (blkZ Z scope) t tg = true) (hc : ∀ X', Cxt C Γ X' (blkZ Z scope) → SndT X' q (evT C Γ cond)) (he : ∀ X', Cxt C Γ X' (blkZ Z scope) → SndE X' x (evE C Γ elt)) :
    SndLc X scope own tg iter x [q] (evE C Γ (.lc own t it cond elt)) := by
  have hk := blk_kind hb
  refine snlc (t := t) (it := evI C Γ it) (cond := evT C Γ cond) (el := evE C Γ elt) ?_ hk (all_mem hsl) hi (fun s0 H0 a cl fp => sndG (c.blkC hk s0 H0 a cl fp) t tg ht) (fun s0 H0 a cl fp => snts_one (hc _ (c.blkC hk s0 H0 a cl fp))) (fun s0 H0 a cl fp => he _ (c.blkC hk s0 H0 a cl fp))
  intro E g d g' e
  rw [evE] at e
  split at e
  · cases e
  · rename_i xs g1 e1
    split at e
    · rename_i hl
      split at e
      · rename_i ys g2 e2
        cases e
        exact ⟨xs, g1, ys, e1, hl, e2, rfl⟩
      · cases e
    · cases e
theorem lcA_case {scope : Scope} {own : List Nat} {t : IT} {it : II} {elt : IE} (c : Cxt C Γ X Z) (hb : L2.blkC Z.N Z.sc scope (ownNs Z.N own) = true) (hsl : ((slotsT t).all fun i => own.contains i) = true)
    (hi : SndI X tg iter (evI C Γ it)) (ht : chkT (blkZ Z scope) t tg = true) (he : ∀ X', Cxt C Γ X' (blkZ Z scope) → SndE X' x (evE C Γ elt)) :
    SndLc X scope own tg iter x [] (evE C Γ (.lcA own t it elt)) := by
  have hk := blk_kind hb
  refine snlc (t := t) (it := evI C Γ it) (cond := fun _ g => some (true, g)) (el := evE C Γ elt) ?_ hk (all_mem hsl) hi (fun s0 H0 a cl fp => sndG (c.blkC hk s0 H0 a cl fp) t tg ht) (fun s0 H0 a cl fp => snts_nil) (fun s0 H0 a cl fp => he _ (c.blkC hk s0 H0 a cl fp))
  intro E g d g' e
  rw [evE] at e
  split at e
  · cases e
  · rename_i xs g1 e1
    split at e
    · rename_i hl
      split at e
      · rename_i ys g2 e2
        cases e
        exact ⟨xs, g1, ys, e1, hl, e2, rfl⟩
      · cases e
    · cases e
theorem snt_none {f : En → Gs → Option (Bool × Gs)} (h : ∀ E g, f E g = none) : SndT X x f := fun E g d g' e => by rw [h] at e; cases e
theorem snw_none {f : En → Gs → Option (Bool × Gs)} (h : ∀ E g, f E g = none) : SndW X x f := fun E g d g' e => by rw [h] at e; cases e
end

section
variable {C : Cf} {Γ : List D}
mutual
theorem sndE : ∀ (e : IE) (X : Cx) (Z : Zc) (x : Expr), Cxt C Γ X Z → chkE e Z x = true → SndE X x (evE C Γ e)
  | .var i, X, Z, x, c, h => by
    cases x with
    | Name n pos =>
      exact snd_var c h
    | _ => exact nomatch (show false = true from h)
  | .int i, X, Z, x, c, h => by
    cases x with
    | Constant z1 k pos =>
      cases z1 with
      | int j =>
        replace h : (decide (i = j)) = true := h
        have h1 := h
        have := of_decide_eq_true h1
        subst this
        exact snd_int
      | _ => exact nomatch (show false = true from h)
    | _ => exact nomatch (show false = true from h)
  | .bl i, X, Z, x, c, h => by
    cases x with
    | Constant z1 k pos =>
      cases z1 with
      | bool j =>
        replace h : (decide (i = j)) = true := h
        have h1 := h
        have := of_decide_eq_true h1
        subst this
        exact snd_bl
      | _ => exact nomatch (show false = true from h)
    | _ => exact nomatch (show false = true from h)
  | .non, X, Z, x, c, h => by
    cases x with
    | Constant z1 k pos =>
      cases z1 with
      | none =>
        exact snd_non
      | _ => exact nomatch (show false = true from h)
    | _ => exact nomatch (show false = true from h)
  | .str i, X, Z, x, c, h => by
    cases x with
    | Constant z1 k pos =>
      cases z1 with
      | str j =>
        replace h : (decide (i = j)) = true := h
        have h1 := h
        have := of_decide_eq_true h1
        subst this
        exact snd_str
      | _ => exact nomatch (show false = true from h)
    | _ => exact nomatch (show false = true from h)
  | .gc j, X, Z, x, c, h => by
    cases x with
    | Name n pos =>
      replace h : (decide (Z.Cn[j]? = some n) && (glB Z n)) = true := h
      obtain ⟨h1, h2⟩ := ba h
      exact snd_gc c (of_decide_eq_true h1) h2
    | _ => exact nomatch (show false = true from h)
  | .op o a b, X, Z, x, c, h => by
    cases x with
    | BinOp l op r pos =>
      replace h : (decide (opOf o = op) && (chkE a Z l && (chkE b Z r))) = true := h
      obtain ⟨h1, r0⟩ := ba h
      obtain ⟨h2, h3⟩ := ba r0
      have := of_decide_eq_true h1
      subst this
      exact snd_op (sndE a X Z l c h2) (sndE b X Z r c h3)
    | _ => exact nomatch (show false = true from h)
  | .neg a, X, Z, x, c, h => by
    cases x with
    | UnaryOp z1 l pos =>
      cases z1 with
      | USub =>
        replace h : (chkE a Z l) = true := h
        have h1 := h
        exact snd_neg (sndE a X Z l c h1)
      | _ => exact nomatch (show false = true from h)
    | _ => exact nomatch (show false = true from h)
  | .not a, X, Z, x, c, h => by
    cases x with
    | UnaryOp z1 l pos =>
      cases z1 with
      | Not =>
        replace h : (chkE a Z l) = true := h
        have h1 := h
        exact snd_not (sndE a X Z l c h1)
      | _ => exact nomatch (show false = true from h)
    | _ => exact nomatch (show false = true from h)
  | .cmp o a b, X, Z, x, c, h => by
    cases x with
    | Compare l z1 z2 pos =>
      cases z1 with
      | cons op z3 =>
        cases z3 with
        | nil =>
          cases z2 with
          | cons r z4 =>
            cases z4 with
            | nil =>
              replace h : (decide (cpOf o = op) && (notSet r && (chkO a Z l && (chkO b Z r)))) = true := h
              obtain ⟨h1, r0⟩ := ba h
              obtain ⟨h2, r1⟩ := ba r0
              obtain ⟨h3, h4⟩ := ba r1
              have := of_decide_eq_true h1
              subst this
              exact snd_cmp c h2 (sndO a X Z l c h3) (sndO b X Z r c h4)
            | _ => exact nomatch (show false = true from h)
          | _ => exact nomatch (show false = true from h)
        | _ => exact nomatch (show false = true from h)
      | _ => exact nomatch (show false = true from h)
    | _ => exact nomatch (show false = true from h)
  | .chain o o' a b d, X, Z, x, c, h => by
    cases x with
    | Compare l z1 z2 pos =>
      cases z1 with
      | cons op z3 =>
        cases z3 with
        | cons op' z4 =>
          cases z4 with
          | nil =>
            cases z2 with
            | cons r z5 =>
              cases z5 with
              | cons t z6 =>
                cases z6 with
                | nil =>
                  replace h : (decide (cpOf o = op) && (decide (cpOf o' = op') && (notSet t && (chkE a Z l && (chkE b Z r && (chkE d Z t)))))) = true := h
                  obtain ⟨h1, r0⟩ := ba h
                  obtain ⟨h2, r1⟩ := ba r0
                  obtain ⟨h3, r2⟩ := ba r1
                  obtain ⟨h4, r3⟩ := ba r2
                  obtain ⟨h5, h6⟩ := ba r3
                  have e1 := of_decide_eq_true h1
                  have e2 := of_decide_eq_true h2
                  subst e1; subst e2
                  exact snd_chain c h3 (sndE a X Z l c h4) (sndE b X Z r c h5) (sndE d X Z t c h6)
                | _ => exact nomatch (show false = true from h)
              | _ => exact nomatch (show false = true from h)
            | _ => exact nomatch (show false = true from h)
          | _ => exact nomatch (show false = true from h)
        | _ => exact nomatch (show false = true from h)
      | _ => exact nomatch (show false = true from h)
    | _ => exact nomatch (show false = true from h)
  | .isN a, X, Z, x, c, h => by
    cases x with
    | Compare l z1 z2 pos =>
      cases z1 with
      | cons z3 z4 =>
        cases z3 with
        | Is =>
          cases z4 with
          | nil =>
            cases z2 with
            | cons z5 z6 =>
              cases z5 with
              | Constant z7 k p2 =>
                cases z7 with
                | none =>
                  cases z6 with
                  | nil =>
                    replace h : (chkE a Z l) = true := h
                    have h1 := h
                    exact snd_isN (sndE a X Z l c h1)
                  | _ => exact nomatch (show false = true from h)
                | _ => exact nomatch (show false = true from h)
              | _ => exact nomatch (show false = true from h)
            | _ => exact nomatch (show false = true from h)
          | _ => exact nomatch (show false = true from h)
        | _ => exact nomatch (show false = true from h)
      | _ => exact nomatch (show false = true from h)
    | _ => exact nomatch (show false = true from h)
  | .notN a, X, Z, x, c, h => by
    cases x with
    | Compare l z1 z2 pos =>
      cases z1 with
      | cons z3 z4 =>
        cases z3 with
        | IsNot =>
          cases z4 with
          | nil =>
            cases z2 with
            | cons z5 z6 =>
              cases z5 with
              | Constant z7 k p2 =>
                cases z7 with
                | none =>
                  cases z6 with
                  | nil =>
                    replace h : (chkE a Z l) = true := h
                    have h1 := h
                    exact snd_notN (sndE a X Z l c h1)
                  | _ => exact nomatch (show false = true from h)
                | _ => exact nomatch (show false = true from h)
              | _ => exact nomatch (show false = true from h)
            | _ => exact nomatch (show false = true from h)
          | _ => exact nomatch (show false = true from h)
        | _ => exact nomatch (show false = true from h)
      | _ => exact nomatch (show false = true from h)
    | _ => exact nomatch (show false = true from h)
  | .and a b, X, Z, x, c, h => by
    cases x with
    | BoolOp z1 z2 pos =>
      cases z1 with
      | And =>
        cases z2 with
        | cons x z3 =>
          cases z3 with
          | cons y r =>
            cases r with
            | nil =>
              replace h : (chkE a Z x && (chkE b Z y)) = true := h
              obtain ⟨h1, h2⟩ := ba h
              exact snd_and (sndE a X Z x c h1) (snd_one (sndE b X Z y c h2))
            | cons z r =>
              replace h : (chkE a Z x && (chkE b Z (.BoolOp .And (y :: z :: r) pos))) = true := h
              obtain ⟨h1, h2⟩ := ba h
              exact snd_and (sndE a X Z x c h1) (sndE b X Z _ c h2)
          | _ => exact nomatch (show false = true from h)
        | _ => exact nomatch (show false = true from h)
      | _ => exact nomatch (show false = true from h)
    | _ => exact nomatch (show false = true from h)
  | .or a b, X, Z, x, c, h => by
    cases x with
    | BoolOp z1 z2 pos =>
      cases z1 with
      | Or =>
        cases z2 with
        | cons x z3 =>
          cases z3 with
          | cons y r =>
            cases r with
            | nil =>
              replace h : (chkE a Z x && (chkE b Z y)) = true := h
              obtain ⟨h1, h2⟩ := ba h
              exact snd_or (sndE a X Z x c h1) (snd_one (sndE b X Z y c h2))
            | cons z r =>
              replace h : (chkE a Z x && (chkE b Z (.BoolOp .Or (y :: z :: r) pos))) = true := h
              obtain ⟨h1, h2⟩ := ba h
              exact snd_or (sndE a X Z x c h1) (sndE b X Z _ c h2)
          | _ => exact nomatch (show false = true from h)
        | _ => exact nomatch (show false = true from h)
      | _ => exact nomatch (show false = true from h)
    | _ => exact nomatch (show false = true from h)
  | .ite t a b, X, Z, x, c, h => by
    cases x with
    | IfExp u p q pos =>
      replace h : (chkC t Z u && (chkE a Z p && (chkE b Z q))) = true := h
      obtain ⟨h1, r0⟩ := ba h
      obtain ⟨h2, h3⟩ := ba r0
      exact snd_ite (sndT t X Z u c h1) (sndE a X Z p c h2) (sndE b X Z q c h3)
    | _ => exact nomatch (show false = true from h)
  | .ix a i, X, Z, x, c, h => by
    cases x with
    | Subscript l r pos =>
      replace h : (notSlice r && (chkO a Z l && (chkE i Z r))) = true := h
      obtain ⟨h1, r0⟩ := ba h
      obtain ⟨h2, h3⟩ := ba r0
      exact snd_ix h1 (sndO a X Z l c h2) (sndE i X Z r c h3)
    | _ => exact nomatch (show false = true from h)
  | .sl a lo hi, X, Z, x, c, h => by
    cases x with
    | Subscript l z1 pos =>
      cases z1 with
      | Slice z2 z3 z4 p2 =>
        cases z2 with
        | some u =>
          cases z3 with
          | some v =>
            cases z4 with
            | none =>
              replace h : (chkE a Z l && (chkE lo Z u && (chkE hi Z v))) = true := h
              obtain ⟨h1, r0⟩ := ba h
              obtain ⟨h2, h3⟩ := ba r0
              exact snd_sl (sndE a X Z l c h1) (sndE lo X Z u c h2) (sndE hi X Z v c h3)
            | _ => exact nomatch (show false = true from h)
          | _ => exact nomatch (show false = true from h)
        | _ => exact nomatch (show false = true from h)
      | _ => exact nomatch (show false = true from h)
    | _ => exact nomatch (show false = true from h)
  | .slTo a hi, X, Z, x, c, h => by
    cases x with
    | Subscript l z1 pos =>
      cases z1 with
      | Slice z2 z3 z4 p2 =>
        cases z2 with
        | none =>
          cases z3 with
          | some v =>
            cases z4 with
            | none =>
              replace h : (chkE a Z l && (chkE hi Z v)) = true := h
              obtain ⟨h1, h2⟩ := ba h
              exact snd_slTo (sndE a X Z l c h1) (sndE hi X Z v c h2)
            | _ => exact nomatch (show false = true from h)
          | _ => exact nomatch (show false = true from h)
        | _ => exact nomatch (show false = true from h)
      | _ => exact nomatch (show false = true from h)
    | _ => exact nomatch (show false = true from h)
  | .slFrom a lo, X, Z, x, c, h => by
    cases x with
    | Subscript l z1 pos =>
      cases z1 with
      | Slice z2 z3 z4 p2 =>
        cases z2 with
        | some u =>
          cases z3 with
          | none =>
            cases z4 with
            | none =>
              replace h : (chkE a Z l && (chkE lo Z u)) = true := h
              obtain ⟨h1, h2⟩ := ba h
              exact snd_slFrom (sndE a X Z l c h1) (sndE lo X Z u c h2)
            | _ => exact nomatch (show false = true from h)
          | _ => exact nomatch (show false = true from h)
        | _ => exact nomatch (show false = true from h)
      | _ => exact nomatch (show false = true from h)
    | _ => exact nomatch (show false = true from h)
  | .tup es, X, Z, x, c, h => by
    cases x with
    | Tuple xs k pos =>
      replace h : (chkA es Z xs) = true := h
      have h1 := h
      exact snd_tup (sndA es X Z xs c h1)
    | _ => exact nomatch (show false = true from h)
  | .lst es, X, Z, x, c, h => by
    cases x with
    | List xs pos =>
      replace h : (chkA es Z xs) = true := h
      have h1 := h
      exact (snf_lst (sndA es X Z xs c h1)).e
    | _ => exact nomatch (show false = true from h)
  | .call f es, X, Z, x, c, h => by
    cases x with
    | Call z1 z2 z3 pos =>
      cases z1 with
      | Name n p0 =>
        cases z2 with
        | cons y ys =>
          cases z3 with
          | nil =>
            replace h : (decide (Z.F[f]? = some n) && (glB Z n && (chkA es Z (y :: ys)))) = true := h
            obtain ⟨h1, r0⟩ := ba h
            obtain ⟨h2, h3⟩ := ba r0
            exact snd_call c (of_decide_eq_true h1) h2 (chkA_star h3) (sndA es X Z _ c h3)
          | _ => exact nomatch (show false = true from h)
        | _ => exact nomatch (show false = true from h)
      | _ => exact nomatch (show false = true from h)
    | _ => exact nomatch (show false = true from h)
  | .len a, X, Z, x, c, h => by
    cases x with
    | Call z1 z2 z3 pos =>
      cases z1 with
      | Name n p0 =>
        cases z2 with
        | cons y z4 =>
          cases z4 with
          | nil =>
            cases z3 with
            | nil =>
              replace h : (nmB Z "len" n && (chkO a Z y)) = true := h
              obtain ⟨h1, h2⟩ := ba h
              exact snd_len c h1 (chkO_star h2) (sndO a X Z y c h2)
            | _ => exact nomatch (show false = true from h)
          | _ => exact nomatch (show false = true from h)
        | _ => exact nomatch (show false = true from h)
      | _ => exact nomatch (show false = true from h)
    | _ => exact nomatch (show false = true from h)
  | .abs a, X, Z, x, c, h => by
    cases x with
    | Call z1 z2 z3 pos =>
      cases z1 with
      | Name n p0 =>
        cases z2 with
        | cons y z4 =>
          cases z4 with
          | nil =>
            cases z3 with
            | nil =>
              replace h : (nmB Z "abs" n && (chkE a Z y)) = true := h
              obtain ⟨h1, h2⟩ := ba h
              exact snd_abs c h1 (chk_star h2) (sndE a X Z y c h2)
            | _ => exact nomatch (show false = true from h)
          | _ => exact nomatch (show false = true from h)
        | _ => exact nomatch (show false = true from h)
      | _ => exact nomatch (show false = true from h)
    | _ => exact nomatch (show false = true from h)
  | .minL a, X, Z, x, c, h => by
    cases x with
    | Call z1 z2 z3 pos =>
      cases z1 with
      | Name n p0 =>
        cases z2 with
        | cons y z4 =>
          cases z4 with
          | nil =>
            cases z3 with
            | nil =>
              replace h : (nmB Z "min" n && (chkO a Z y)) = true := h
              obtain ⟨h1, h2⟩ := ba h
              exact snd_minL c h1 (chkO_star h2) (sndO a X Z y c h2)
            | _ => exact nomatch (show false = true from h)
          | _ => exact nomatch (show false = true from h)
        | _ => exact nomatch (show false = true from h)
      | _ => exact nomatch (show false = true from h)
    | _ => exact nomatch (show false = true from h)
  | .maxL a, X, Z, x, c, h => by
    cases x with
    | Call z1 z2 z3 pos =>
      cases z1 with
      | Name n p0 =>
        cases z2 with
        | cons y z4 =>
          cases z4 with
          | nil =>
            cases z3 with
            | nil =>
              replace h : (nmB Z "max" n && (chkO a Z y)) = true := h
              obtain ⟨h1, h2⟩ := ba h
              exact snd_maxL c h1 (chkO_star h2) (sndO a X Z y c h2)
            | _ => exact nomatch (show false = true from h)
          | _ => exact nomatch (show false = true from h)
        | _ => exact nomatch (show false = true from h)
      | _ => exact nomatch (show false = true from h)
    | _ => exact nomatch (show false = true from h)
  | .sumL a, X, Z, x, c, h => by
    cases x with
    | Call z1 z2 z3 pos =>
      cases z1 with
      | Name n p0 =>
        cases z2 with
        | cons y z4 =>
          cases z4 with
          | nil =>
            cases z3 with
            | nil =>
              replace h : (nmB Z "sum" n && (chkO a Z y)) = true := h
              obtain ⟨h1, h2⟩ := ba h
              exact snd_sumL c h1 (chkO_star h2) (sndO a X Z y c h2)
            | _ => exact nomatch (show false = true from h)
          | _ => exact nomatch (show false = true from h)
        | _ => exact nomatch (show false = true from h)
      | _ => exact nomatch (show false = true from h)
    | _ => exact nomatch (show false = true from h)
  | .toInt a, X, Z, x, c, h => by
    cases x with
    | Call z1 z2 z3 pos =>
      cases z1 with
      | Name n p0 =>
        cases z2 with
        | cons y z4 =>
          cases z4 with
          | nil =>
            cases z3 with
            | nil =>
              replace h : (nmB Z "int" n && (chkE a Z y)) = true := h
              obtain ⟨h1, h2⟩ := ba h
              exact snd_toInt c h1 (chk_star h2) (sndE a X Z y c h2)
            | _ => exact nomatch (show false = true from h)
          | _ => exact nomatch (show false = true from h)
        | _ => exact nomatch (show false = true from h)
      | _ => exact nomatch (show false = true from h)
    | _ => exact nomatch (show false = true from h)
  | .toTup a, X, Z, x, c, h => by
    cases x with
    | Call z1 z2 z3 pos =>
      cases z1 with
      | Name n p0 =>
        cases z2 with
        | cons y z4 =>
          cases z4 with
          | nil =>
            cases z3 with
            | nil =>
              replace h : (nmB Z "tuple" n && (chkO a Z y)) = true := h
              obtain ⟨h1, h2⟩ := ba h
              exact snd_toTup c h1 (chkO_star h2) (sndO a X Z y c h2)
            | _ => exact nomatch (show false = true from h)
          | _ => exact nomatch (show false = true from h)
        | _ => exact nomatch (show false = true from h)
      | _ => exact nomatch (show false = true from h)
    | _ => exact nomatch (show false = true from h)
  | .toLst a, X, Z, x, c, h => by
    cases x with
    | Call z1 z2 z3 pos =>
      cases z1 with
      | Name n p0 =>
        cases z2 with
        | cons y z4 =>
          cases z4 with
          | nil =>
            cases z3 with
            | nil =>
              replace h : (nmB Z "list" n && (chkO a Z y)) = true := h
              obtain ⟨h1, h2⟩ := ba h
              exact (snf_toLst c h1 (chkO_star h2) (sndO a X Z y c h2)).e
            | _ => exact nomatch (show false = true from h)
          | _ => exact nomatch (show false = true from h)
        | _ => exact nomatch (show false = true from h)
      | _ => exact nomatch (show false = true from h)
    | _ => exact nomatch (show false = true from h)
  | .rng1 a, X, Z, x, c, h => by
    cases x with
    | Call z1 z2 z3 pos =>
      cases z1 with
      | Name n p0 =>
        cases z2 with
        | cons y z4 =>
          cases z4 with
          | nil =>
            cases z3 with
            | nil =>
              replace h : (nmB Z "range" n && (chkE a Z y)) = true := h
              obtain ⟨h1, h2⟩ := ba h
              exact snd_rng1 c h1 (chk_star h2) (sndE a X Z y c h2)
            | _ => exact nomatch (show false = true from h)
          | _ => exact nomatch (show false = true from h)
        | _ => exact nomatch (show false = true from h)
      | _ => exact nomatch (show false = true from h)
    | _ => exact nomatch (show false = true from h)
  | .min2 a b, X, Z, x, c, h => by
    cases x with
    | Call z1 z2 z3 pos =>
      cases z1 with
      | Name n p0 =>
        cases z2 with
        | cons y z4 =>
          cases z4 with
          | cons z z5 =>
            cases z5 with
            | nil =>
              cases z3 with
              | nil =>
                replace h : (nmB Z "min" n && (chkE a Z y && (chkE b Z z))) = true := h
                obtain ⟨h1, r0⟩ := ba h
                obtain ⟨h2, h3⟩ := ba r0
                exact snd_min2 c h1 (chk_star h2) (chk_star h3) (sndE a X Z y c h2) (sndE b X Z z c h3)
              | _ => exact nomatch (show false = true from h)
            | _ => exact nomatch (show false = true from h)
          | _ => exact nomatch (show false = true from h)
        | _ => exact nomatch (show false = true from h)
      | _ => exact nomatch (show false = true from h)
    | _ => exact nomatch (show false = true from h)
  | .max2 a b, X, Z, x, c, h => by
    cases x with
    | Call z1 z2 z3 pos =>
      cases z1 with
      | Name n p0 =>
        cases z2 with
        | cons y z4 =>
          cases z4 with
          | cons z z5 =>
            cases z5 with
            | nil =>
              cases z3 with
              | nil =>
                replace h : (nmB Z "max" n && (chkE a Z y && (chkE b Z z))) = true := h
                obtain ⟨h1, r0⟩ := ba h
                obtain ⟨h2, h3⟩ := ba r0
                exact snd_max2 c h1 (chk_star h2) (chk_star h3) (sndE a X Z y c h2) (sndE b X Z z c h3)
              | _ => exact nomatch (show false = true from h)
            | _ => exact nomatch (show false = true from h)
          | _ => exact nomatch (show false = true from h)
        | _ => exact nomatch (show false = true from h)
      | _ => exact nomatch (show false = true from h)
    | _ => exact nomatch (show false = true from h)
  | .lstRng a, X, Z, x, c, h => by
    cases x with
    | Call z1 z2 z3 pos =>
      cases z1 with
      | Name n p0 =>
        cases z2 with
        | cons z4 z5 =>
          cases z4 with
          | Call z6 z7 z8 p3 =>
            cases z6 with
            | Name m p2 =>
              cases z7 with
              | cons y z9 =>
                cases z9 with
                | nil =>
                  cases z8 with
                  | nil =>
                    cases z5 with
                    | nil =>
                      cases z3 with
                      | nil =>
                        replace h : (nmB Z "list" n && (nmB Z "range" m && (chkE a Z y))) = true := h
                        obtain ⟨h1, r0⟩ := ba h
                        obtain ⟨h2, h3⟩ := ba r0
                        exact (snf_lstRng c h1 h2 (chk_star h3) (sndE a X Z y c h3)).e
                      | _ => exact nomatch (show false = true from h)
                    | _ => exact nomatch (show false = true from h)
                  | _ => exact nomatch (show false = true from h)
                | _ => exact nomatch (show false = true from h)
              | _ => exact nomatch (show false = true from h)
            | _ => exact nomatch (show false = true from h)
          | _ => exact nomatch (show false = true from h)
        | _ => exact nomatch (show false = true from h)
      | _ => exact nomatch (show false = true from h)
    | _ => exact nomatch (show false = true from h)
  | .isi t a, X, Z, x, c, h => by
    cases x with
    | Call z1 z2 z3 pos =>
      cases z1 with
      | Name n p0 =>
        cases z2 with
        | cons y z4 =>
          cases z4 with
          | cons z5 z6 =>
            cases z5 with
            | Name m p2 =>
              cases z6 with
              | nil =>
                cases z3 with
                | nil =>
                  replace h : (nmB Z "isinstance" n && (nmB Z (tyNm t) m && (chkE a Z y))) = true := h
                  obtain ⟨h1, r0⟩ := ba h
                  obtain ⟨h2, h3⟩ := ba r0
                  exact snd_isi c h1 h2 (chk_star h3) (sndE a X Z y c h3)
                | _ => exact nomatch (show false = true from h)
              | _ => exact nomatch (show false = true from h)
            | _ => exact nomatch (show false = true from h)
          | _ => exact nomatch (show false = true from h)
        | _ => exact nomatch (show false = true from h)
      | _ => exact nomatch (show false = true from h)
    | _ => exact nomatch (show false = true from h)
  | .lc own t it cond elt, X, Z, x, c, h => by
    cases x with
    | ListComp e z1 scope pos =>
      cases z1 with
      | cons z2 z3 =>
        cases z2 with
        | mk tg iter z4 k =>
          cases z4 with
          | cons q z5 =>
            cases z5 with
            | nil =>
              cases z3 with
              | nil =>
                replace h : (decide (k = 0) && (L2.blkC Z.N Z.sc scope (ownNs Z.N own) && (notSet iter && (chkI it Z tg iter && ((slotsT t).all (fun i => own.contains i) && (chkT (blkZ Z scope) t tg && (chkC cond (blkZ Z scope) q && (chkE elt (blkZ Z scope) e)))))))) = true := h
                obtain ⟨h1, r0⟩ := ba h
                obtain ⟨h2, r1⟩ := ba r0
                obtain ⟨h3, r2⟩ := ba r1
                obtain ⟨h4, r3⟩ := ba r2
                obtain ⟨h5, r4⟩ := ba r3
                obtain ⟨h6, r5⟩ := ba r4
                obtain ⟨h7, h8⟩ := ba r5
                have := of_decide_eq_true h1
                subst this
                exact (snf_of_lc c h2 h3 (lc_case c h2 h5 (sndI it X Z tg iter c h4).2 h6 (fun X' c' => sndT cond X' _ q c' h7) (fun X' c' => sndE elt X' _ e c' h8))).e
              | _ => exact nomatch (show false = true from h)
            | _ => exact nomatch (show false = true from h)
          | _ => exact nomatch (show false = true from h)
      | _ => exact nomatch (show false = true from h)
    | _ => exact nomatch (show false = true from h)
  | .lcA own t it elt, X, Z, x, c, h => by
    cases x with
    | ListComp e z1 scope pos =>
      cases z1 with
      | cons z2 z3 =>
        cases z2 with
        | mk tg iter z4 k =>
          cases z4 with
          | nil =>
            cases z3 with
            | nil =>
              replace h : (decide (k = 0) && (L2.blkC Z.N Z.sc scope (ownNs Z.N own) && (notSet iter && (chkI it Z tg iter && ((slotsT t).all (fun i => own.contains i) && (chkT (blkZ Z scope) t tg && (chkE elt (blkZ Z scope) e))))))) = true := h
              obtain ⟨h1, r0⟩ := ba h
              obtain ⟨h2, r1⟩ := ba r0
              obtain ⟨h3, r2⟩ := ba r1
              obtain ⟨h4, r3⟩ := ba r2
              obtain ⟨h5, r4⟩ := ba r3
              obtain ⟨h6, h7⟩ := ba r4
              have := of_decide_eq_true h1
              subst this
              exact (snf_of_lc c h2 h3 (lcA_case c h2 h5 (sndI it X Z tg iter c h4).2 h6 (fun X' c' => sndE elt X' _ e c' h7))).e
            | _ => exact nomatch (show false = true from h)
          | _ => exact nomatch (show false = true from h)
      | _ => exact nomatch (show false = true from h)
    | _ => exact nomatch (show false = true from h)
  | .never, X, Z, x, c, h => by
    exact snd_none fun E g => by rw [evE]
theorem sndO : ∀ (e : IO) (X : Cx) (Z : Zc) (x : Expr), Cxt C Γ X Z → chkO e Z x = true → SndO X x (evS C Γ e)
  | .own i, X, Z, x, c, h => by
    cases x with
    | Name n pos =>
      exact snd_own c h
    | _ => exact nomatch (show false = true from h)
  | .e a, X, Z, x, c, h => by
    replace h : chkE a Z x = true := h
    have r := sndE a X Z x c h
    intro E g d g1 e
    rw [evS] at e
    exact r.o E g d g1 e
theorem sndT : ∀ (e : IC) (X : Cx) (Z : Zc) (x : Expr), Cxt C Γ X Z → chkC e Z x = true → SndT X x (evT C Γ e)
  | .and a b, X, Z, x, c, h => by
    cases x with
    | BoolOp z1 z2 pos =>
      cases z1 with
      | And =>
        cases z2 with
        | cons x z3 =>
          cases z3 with
          | cons y r =>
            cases r with
            | nil =>
              replace h : (chkC a Z x && (chkC b Z y)) = true := h
              obtain ⟨h1, h2⟩ := ba h
              exact (snw_and (sndT a X Z x c h1) (snw_and1 (sndT b X Z y c h2))).t
            | cons z r =>
              replace h : (chkC a Z x && (chkC b Z (.BoolOp .And (y :: z :: r) pos))) = true := h
              obtain ⟨h1, h2⟩ := ba h
              exact (snw_and (sndT a X Z x c h1) (sndW b X Z _ _ _ c h2)).t
          | _ => exact nomatch (show false = true from h)
        | _ => exact nomatch (show false = true from h)
      | _ => exact nomatch (show false = true from h)
    | _ => exact nomatch (show false = true from h)
  | .or a b, X, Z, x, c, h => by
    cases x with
    | BoolOp z1 z2 pos =>
      cases z1 with
      | Or =>
        cases z2 with
        | cons x z3 =>
          cases z3 with
          | cons y r =>
            cases r with
            | nil =>
              replace h : (chkC a Z x && (chkC b Z y)) = true := h
              obtain ⟨h1, h2⟩ := ba h
              exact (snw_or (sndT a X Z x c h1) (snw_or1 (sndT b X Z y c h2))).t
            | cons z r =>
              replace h : (chkC a Z x && (chkC b Z (.BoolOp .Or (y :: z :: r) pos))) = true := h
              obtain ⟨h1, h2⟩ := ba h
              exact (snw_or (sndT a X Z x c h1) (sndW b X Z _ _ _ c h2)).t
          | _ => exact nomatch (show false = true from h)
        | _ => exact nomatch (show false = true from h)
      | _ => exact nomatch (show false = true from h)
    | _ => exact nomatch (show false = true from h)
  | .not a, X, Z, x, c, h => by
    cases x with
    | UnaryOp z1 l pos =>
      cases z1 with
      | Not =>
        replace h : (chkC a Z l) = true := h
        have h1 := h
        exact snt_not (sndT a X Z l c h1)
      | _ => exact nomatch (show false = true from h)
    | _ => exact nomatch (show false = true from h)
  | .e (.cmp o a b), X, Z, x, c, h => by
    cases x with
    | Compare l z1 z2 pos =>
      cases z1 with
      | cons op z3 =>
        cases z3 with
        | nil =>
          cases z2 with
          | cons r z4 =>
            cases z4 with
            | nil =>
              replace h : chkE (.cmp o a b) Z (.Compare l [op] [r] pos) = true := (ba h).2
              replace h : (decide (cpOf o = op) && (notSet r && (chkO a Z l && (chkO b Z r)))) = true := h
              obtain ⟨h1, r0⟩ := ba h
              obtain ⟨h2, r1⟩ := ba r0
              obtain ⟨h3, h4⟩ := ba r1
              have := of_decide_eq_true h1
              subst this
              exact snt_cmp c h2 (sndO a X Z l c h3) (sndO b X Z r c h4)
            | _ => exact nomatch (show false = true from h)
          | _ => exact nomatch (show false = true from h)
        | _ => exact nomatch (show false = true from h)
      | _ => exact nomatch (show false = true from h)
    | _ => exact nomatch (show false = true from h)
  | .e (.chain o o' a b d), X, Z, x, c, h => by
    cases x with
    | Compare l z1 z2 pos =>
      cases z1 with
      | cons op z3 =>
        cases z3 with
        | cons op' z4 =>
          cases z4 with
          | nil =>
            cases z2 with
            | cons r z5 =>
              cases z5 with
              | cons t z6 =>
                cases z6 with
                | nil =>
                  replace h : chkE (.chain o o' a b d) Z (.Compare l [op, op'] [r, t] pos) = true := (ba h).2
                  replace h : (decide (cpOf o = op) && (decide (cpOf o' = op') && (notSet t && (chkE a Z l && (chkE b Z r && (chkE d Z t)))))) = true := h
                  obtain ⟨h1, r0⟩ := ba h
                  obtain ⟨h2, r1⟩ := ba r0
                  obtain ⟨h3, r2⟩ := ba r1
                  obtain ⟨h4, r3⟩ := ba r2
                  obtain ⟨h5, h6⟩ := ba r3
                  have e1 := of_decide_eq_true h1
                  have e2 := of_decide_eq_true h2
                  subst e1; subst e2
                  exact snt_chain c h3 (sndE a X Z l c h4) (sndE b X Z r c h5) (sndE d X Z t c h6)
                | _ => exact nomatch (show false = true from h)
              | _ => exact nomatch (show false = true from h)
            | _ => exact nomatch (show false = true from h)
          | _ => exact nomatch (show false = true from h)
        | _ => exact nomatch (show false = true from h)
      | _ => exact nomatch (show false = true from h)
    | _ => exact nomatch (show false = true from h)
  | .e (.isN a), X, Z, x, c, h => by
    cases x with
    | Compare l z1 z2 pos =>
      cases z1 with
      | cons z3 z4 =>
        cases z3 with
        | Is =>
          cases z4 with
          | nil =>
            cases z2 with
            | cons z5 z6 =>
              cases z5 with
              | Constant z7 k p2 =>
                cases z7 with
                | none =>
                  cases z6 with
                  | nil =>
                    replace h : (chkE a Z l) = true := h
                    have h1 := h
                    exact snt_isN (sndE a X Z l c h1)
                  | _ => exact nomatch (show false = true from h)
                | _ => exact nomatch (show false = true from h)
              | _ => exact nomatch (show false = true from h)
            | _ => exact nomatch (show false = true from h)
          | _ => exact nomatch (show false = true from h)
        | _ => exact nomatch (show false = true from h)
      | _ => exact nomatch (show false = true from h)
    | _ => exact nomatch (show false = true from h)
  | .e (.notN a), X, Z, x, c, h => by
    cases x with
    | Compare l z1 z2 pos =>
      cases z1 with
      | cons z3 z4 =>
        cases z3 with
        | IsNot =>
          cases z4 with
          | nil =>
            cases z2 with
            | cons z5 z6 =>
              cases z5 with
              | Constant z7 k p2 =>
                cases z7 with
                | none =>
                  cases z6 with
                  | nil =>
                    replace h : (chkE a Z l) = true := h
                    have h1 := h
                    exact snt_notN (sndE a X Z l c h1)
                  | _ => exact nomatch (show false = true from h)
                | _ => exact nomatch (show false = true from h)
              | _ => exact nomatch (show false = true from h)
            | _ => exact nomatch (show false = true from h)
          | _ => exact nomatch (show false = true from h)
        | _ => exact nomatch (show false = true from h)
      | _ => exact nomatch (show false = true from h)
    | _ => exact nomatch (show false = true from h)
  | .e .never, X, Z, x, c, h => by
    exact snt_none fun E g => by rw [evT, evE]
  | .e (.var i), X, Z, x, c, h => by
    replace h : (plainIE (.var i) && chkE (.var i) Z x) = true := h
    obtain ⟨h1, h2⟩ := ba h
    exact snt_truth (truth_plain h1 rfl h2) (sndE (.var i) X Z x c h2)
  | .e (.int i), X, Z, x, c, h => by
    replace h : (plainIE (.int i) && chkE (.int i) Z x) = true := h
    obtain ⟨h1, h2⟩ := ba h
    exact snt_truth (truth_plain h1 rfl h2) (sndE (.int i) X Z x c h2)
  | .e (.bl b), X, Z, x, c, h => by
    replace h : (plainIE (.bl b) && chkE (.bl b) Z x) = true := h
    obtain ⟨h1, h2⟩ := ba h
    exact snt_truth (truth_plain h1 rfl h2) (sndE (.bl b) X Z x c h2)
  | .e (.non), X, Z, x, c, h => by
    replace h : (plainIE (.non) && chkE (.non) Z x) = true := h
    obtain ⟨h1, h2⟩ := ba h
    exact snt_truth (truth_plain h1 rfl h2) (sndE (.non) X Z x c h2)
  | .e (.str i), X, Z, x, c, h => by
    replace h : (plainIE (.str i) && chkE (.str i) Z x) = true := h
    obtain ⟨h1, h2⟩ := ba h
    exact snt_truth (truth_plain h1 rfl h2) (sndE (.str i) X Z x c h2)
  | .e (.gc j), X, Z, x, c, h => by
    replace h : (plainIE (.gc j) && chkE (.gc j) Z x) = true := h
    obtain ⟨h1, h2⟩ := ba h
    exact snt_truth (truth_plain h1 rfl h2) (sndE (.gc j) X Z x c h2)
  | .e (.op o a b), X, Z, x, c, h => by
    replace h : (plainIE (.op o a b) && chkE (.op o a b) Z x) = true := h
    obtain ⟨h1, h2⟩ := ba h
    exact snt_truth (truth_plain h1 rfl h2) (sndE (.op o a b) X Z x c h2)
  | .e (.neg a), X, Z, x, c, h => by
    replace h : (plainIE (.neg a) && chkE (.neg a) Z x) = true := h
    obtain ⟨h1, h2⟩ := ba h
    exact snt_truth (truth_plain h1 rfl h2) (sndE (.neg a) X Z x c h2)
  | .e (.ix a i), X, Z, x, c, h => by
    replace h : (plainIE (.ix a i) && chkE (.ix a i) Z x) = true := h
    obtain ⟨h1, h2⟩ := ba h
    exact snt_truth (truth_plain h1 rfl h2) (sndE (.ix a i) X Z x c h2)
  | .e (.sl a lo hi), X, Z, x, c, h => by
    replace h : (plainIE (.sl a lo hi) && chkE (.sl a lo hi) Z x) = true := h
    obtain ⟨h1, h2⟩ := ba h
    exact snt_truth (truth_plain h1 rfl h2) (sndE (.sl a lo hi) X Z x c h2)
  | .e (.slTo a hi), X, Z, x, c, h => by
    replace h : (plainIE (.slTo a hi) && chkE (.slTo a hi) Z x) = true := h
    obtain ⟨h1, h2⟩ := ba h
    exact snt_truth (truth_plain h1 rfl h2) (sndE (.slTo a hi) X Z x c h2)
  | .e (.slFrom a lo), X, Z, x, c, h => by
    replace h : (plainIE (.slFrom a lo) && chkE (.slFrom a lo) Z x) = true := h
    obtain ⟨h1, h2⟩ := ba h
    exact snt_truth (truth_plain h1 rfl h2) (sndE (.slFrom a lo) X Z x c h2)
  | .e (.tup es), X, Z, x, c, h => by
    replace h : (plainIE (.tup es) && chkE (.tup es) Z x) = true := h
    obtain ⟨h1, h2⟩ := ba h
    exact snt_truth (truth_plain h1 rfl h2) (sndE (.tup es) X Z x c h2)
  | .e (.lst es), X, Z, x, c, h => by
    replace h : (plainIE (.lst es) && chkE (.lst es) Z x) = true := h
    obtain ⟨h1, h2⟩ := ba h
    exact snt_truth (truth_plain h1 rfl h2) (sndE (.lst es) X Z x c h2)
  | .e (.call f es), X, Z, x, c, h => by
    replace h : (plainIE (.call f es) && chkE (.call f es) Z x) = true := h
    obtain ⟨h1, h2⟩ := ba h
    exact snt_truth (truth_plain h1 rfl h2) (sndE (.call f es) X Z x c h2)
  | .e (.len a), X, Z, x, c, h => by
    replace h : (plainIE (.len a) && chkE (.len a) Z x) = true := h
    obtain ⟨h1, h2⟩ := ba h
    exact snt_truth (truth_plain h1 rfl h2) (sndE (.len a) X Z x c h2)
  | .e (.abs a), X, Z, x, c, h => by
    replace h : (plainIE (.abs a) && chkE (.abs a) Z x) = true := h
    obtain ⟨h1, h2⟩ := ba h
    exact snt_truth (truth_plain h1 rfl h2) (sndE (.abs a) X Z x c h2)
  | .e (.min2 a b), X, Z, x, c, h => by
    replace h : (plainIE (.min2 a b) && chkE (.min2 a b) Z x) = true := h
    obtain ⟨h1, h2⟩ := ba h
    exact snt_truth (truth_plain h1 rfl h2) (sndE (.min2 a b) X Z x c h2)
  | .e (.max2 a b), X, Z, x, c, h => by
    replace h : (plainIE (.max2 a b) && chkE (.max2 a b) Z x) = true := h
    obtain ⟨h1, h2⟩ := ba h
    exact snt_truth (truth_plain h1 rfl h2) (sndE (.max2 a b) X Z x c h2)
  | .e (.minL a), X, Z, x, c, h => by
    replace h : (plainIE (.minL a) && chkE (.minL a) Z x) = true := h
    obtain ⟨h1, h2⟩ := ba h
    exact snt_truth (truth_plain h1 rfl h2) (sndE (.minL a) X Z x c h2)
  | .e (.maxL a), X, Z, x, c, h => by
    replace h : (plainIE (.maxL a) && chkE (.maxL a) Z x) = true := h
    obtain ⟨h1, h2⟩ := ba h
    exact snt_truth (truth_plain h1 rfl h2) (sndE (.maxL a) X Z x c h2)
  | .e (.sumL a), X, Z, x, c, h => by
    replace h : (plainIE (.sumL a) && chkE (.sumL a) Z x) = true := h
    obtain ⟨h1, h2⟩ := ba h
    exact snt_truth (truth_plain h1 rfl h2) (sndE (.sumL a) X Z x c h2)
  | .e (.toInt a), X, Z, x, c, h => by
    replace h : (plainIE (.toInt a) && chkE (.toInt a) Z x) = true := h
    obtain ⟨h1, h2⟩ := ba h
    exact snt_truth (truth_plain h1 rfl h2) (sndE (.toInt a) X Z x c h2)
  | .e (.toTup a), X, Z, x, c, h => by
    replace h : (plainIE (.toTup a) && chkE (.toTup a) Z x) = true := h
    obtain ⟨h1, h2⟩ := ba h
    exact snt_truth (truth_plain h1 rfl h2) (sndE (.toTup a) X Z x c h2)
  | .e (.toLst a), X, Z, x, c, h => by
    replace h : (plainIE (.toLst a) && chkE (.toLst a) Z x) = true := h
    obtain ⟨h1, h2⟩ := ba h
    exact snt_truth (truth_plain h1 rfl h2) (sndE (.toLst a) X Z x c h2)
  | .e (.rng1 a), X, Z, x, c, h => by
    replace h : (plainIE (.rng1 a) && chkE (.rng1 a) Z x) = true := h
    obtain ⟨h1, h2⟩ := ba h
    exact snt_truth (truth_plain h1 rfl h2) (sndE (.rng1 a) X Z x c h2)
  | .e (.lstRng a), X, Z, x, c, h => by
    replace h : (plainIE (.lstRng a) && chkE (.lstRng a) Z x) = true := h
    obtain ⟨h1, h2⟩ := ba h
    exact snt_truth (truth_plain h1 rfl h2) (sndE (.lstRng a) X Z x c h2)
  | .e (.isi t a), X, Z, x, c, h => by
    replace h : (plainIE (.isi t a) && chkE (.isi t a) Z x) = true := h
    obtain ⟨h1, h2⟩ := ba h
    exact snt_truth (truth_plain h1 rfl h2) (sndE (.isi t a) X Z x c h2)
  | .e (.lc own t it cond elt), X, Z, x, c, h => by
    replace h : (plainIE (.lc own t it cond elt) && chkE (.lc own t it cond elt) Z x) = true := h
    obtain ⟨h1, h2⟩ := ba h
    exact snt_truth (truth_plain h1 rfl h2) (sndE (.lc own t it cond elt) X Z x c h2)
  | .e (.lcA own t it elt), X, Z, x, c, h => by
    replace h : (plainIE (.lcA own t it elt) && chkE (.lcA own t it elt) Z x) = true := h
    obtain ⟨h1, h2⟩ := ba h
    exact snt_truth (truth_plain h1 rfl h2) (sndE (.lcA own t it elt) X Z x c h2)
  | .e (.not a), X, Z, x, c, h => by
    replace h : (plainIE (.not a) && chkE (.not a) Z x) = true := h
    exact nomatch (show false = true from (ba h).1)
  | .e (.and a b), X, Z, x, c, h => by
    replace h : (plainIE (.and a b) && chkE (.and a b) Z x) = true := h
    exact nomatch (show false = true from (ba h).1)
  | .e (.or a b), X, Z, x, c, h => by
    replace h : (plainIE (.or a b) && chkE (.or a b) Z x) = true := h
    exact nomatch (show false = true from (ba h).1)
  | .e (.ite t a b), X, Z, x, c, h => by
    replace h : (plainIE (.ite t a b) && chkE (.ite t a b) Z x) = true := h
    exact nomatch (show false = true from (ba h).1)
theorem sndW : ∀ (e : IC) (X : Cx) (Z : Zc) (op : BoolOp) (vs : List Expr) (pos : Pos), Cxt C Γ X Z → chkC e Z (.BoolOp op vs pos) = true → SndW X (.BoolOp op vs pos) (evT C Γ e)
  | .and a b, X, Z, op, vs, pos, c, h => by
    cases op with
    | And =>
      cases vs with
      | cons x z1 =>
        cases z1 with
        | cons y r =>
          cases r with
          | nil =>
            replace h : (chkC a Z x && (chkC b Z y)) = true := h
            obtain ⟨h1, h2⟩ := ba h
            exact snw_and (sndT a X Z x c h1) (snw_and1 (sndT b X Z y c h2))
          | cons z r =>
            replace h : (chkC a Z x && (chkC b Z (.BoolOp .And (y :: z :: r) pos))) = true := h
            obtain ⟨h1, h2⟩ := ba h
            exact snw_and (sndT a X Z x c h1) (sndW b X Z _ _ _ c h2)
        | _ => exact nomatch (show false = true from h)
      | _ => exact nomatch (show false = true from h)
    | _ => exact nomatch (show false = true from h)
  | .or a b, X, Z, op, vs, pos, c, h => by
    cases op with
    | Or =>
      cases vs with
      | cons x z1 =>
        cases z1 with
        | cons y r =>
          cases r with
          | nil =>
            replace h : (chkC a Z x && (chkC b Z y)) = true := h
            obtain ⟨h1, h2⟩ := ba h
            exact snw_or (sndT a X Z x c h1) (snw_or1 (sndT b X Z y c h2))
          | cons z r =>
            replace h : (chkC a Z x && (chkC b Z (.BoolOp .Or (y :: z :: r) pos))) = true := h
            obtain ⟨h1, h2⟩ := ba h
            exact snw_or (sndT a X Z x c h1) (sndW b X Z _ _ _ c h2)
        | _ => exact nomatch (show false = true from h)
      | _ => exact nomatch (show false = true from h)
    | _ => exact nomatch (show false = true from h)
  | .not a, X, Z, op, vs, pos, c, h => by
    exact nomatch (show false = true from h)
  | .e a, X, Z, op, vs, pos, c, h => by
    replace h : (plainIE a && chkE a Z (.BoolOp op vs pos)) = true := h
    obtain ⟨h1, h2⟩ := ba h
    cases a <;> first | exact nomatch (show false = true from h2) | exact nomatch (show false = true from h1) | exact snw_none fun E g => by rw [evT, evE]
theorem sndA : ∀ (e : IA) (X : Cx) (Z : Zc) (xs : List Expr), Cxt C Γ X Z → chkA e Z xs = true → SndA X xs (evA C Γ e)
  | .nil, X, Z, xs, c, h => by
    cases xs with
    | nil =>
      exact sna_nil
    | _ => exact nomatch (show false = true from h)
  | .cons a es, X, Z, xs, c, h => by
    cases xs with
    | cons x ys =>
      replace h : (chkE a Z x && (chkA es Z ys)) = true := h
      obtain ⟨h1, h2⟩ := ba h
      exact sna_cons (chk_star h1) (sndE a X Z x c h1) (sndA es X Z ys c h2)
    | _ => exact nomatch (show false = true from h)
theorem sndI : ∀ (e : II) (X : Cx) (Z : Zc) (tg x : Expr), Cxt C Γ X Z → chkI e Z tg x = true → (stillI e = true → SndL X tg x (evI C Γ e)) ∧ SndI X tg x (evI C Γ e)
  | .seq (.own i), X, Z, tg, x, c, h => by
    replace h : (notSet x && chkO (.own i) Z x) = true := h
    obtain ⟨h1, h2⟩ := ba h
    cases x with
    | Name n pos => exact ⟨fun q => (nomatch q), sni_own c h2⟩
    | _ => exact nomatch (show false = true from h2)
  | .seq (.e a), X, Z, tg, x, c, h => by
    replace h : (notSet x && chkE a Z x) = true := h
    obtain ⟨h1, h2⟩ := ba h
    have r := snl_seq (tg := tg) (sndE a X Z x c h2)
    exact ⟨fun _ => r, r.i⟩
  | .range1 a, X, Z, tg, x, c, h => by
    cases x with
    | Call z1 z2 z3 pos =>
      cases z1 with
      | Name n p0 =>
        cases z2 with
        | cons y z4 =>
          cases z4 with
          | nil =>
            cases z3 with
            | nil =>
              replace h : (nmB Z "range" n && (chkE a Z y)) = true := h
              obtain ⟨h1, h2⟩ := ba h
              have r := snl_range1 (tg := tg) (pos := pos) (p0 := p0) c h1 (chk_star h2) (sndE a X Z y c h2)
              exact ⟨fun _ => r, r.i⟩
            | _ => exact nomatch (show false = true from h)
          | _ => exact nomatch (show false = true from h)
        | _ => exact nomatch (show false = true from h)
      | _ => exact nomatch (show false = true from h)
    | _ => exact nomatch (show false = true from h)
  | .range2 a b, X, Z, tg, x, c, h => by
    cases x with
    | Call z1 z2 z3 pos =>
      cases z1 with
      | Name n p0 =>
        cases z2 with
        | cons y z4 =>
          cases z4 with
          | cons z z5 =>
            cases z5 with
            | nil =>
              cases z3 with
              | nil =>
                replace h : (nmB Z "range" n && (chkE a Z y && (chkE b Z z))) = true := h
                obtain ⟨h1, r0⟩ := ba h
                obtain ⟨h2, h3⟩ := ba r0
                have r := snl_range2 (tg := tg) (pos := pos) (p0 := p0) c h1 (chk_star h2) (chk_star h3) (sndE a X Z y c h2) (sndE b X Z z c h3)
                exact ⟨fun _ => r, r.i⟩
              | _ => exact nomatch (show false = true from h)
            | _ => exact nomatch (show false = true from h)
          | _ => exact nomatch (show false = true from h)
        | _ => exact nomatch (show false = true from h)
      | _ => exact nomatch (show false = true from h)
    | _ => exact nomatch (show false = true from h)
  | .zip a b, X, Z, tg, x, c, h => by
    cases tg with
    | Tuple elts kk tpos =>
      cases x with
      | Call z1 z2 z3 pos =>
        cases z1 with
        | Name n p0 =>
          cases z2 with
          | cons y z4 =>
            cases z4 with
            | cons z z5 =>
              cases z5 with
              | nil =>
                cases z3 with
                | nil =>
                  replace h : (nmB Z "zip" n && (chkE a Z y && (chkE b Z z))) = true := h
                  obtain ⟨h1, r0⟩ := ba h
                  obtain ⟨h2, h3⟩ := ba r0
                  have r := snl_zip (elts := elts) (kk := kk) (tpos := tpos) (pos := pos) (p0 := p0) c h1 (chk_star h2) (chk_star h3) (sndE a X Z y c h2) (sndE b X Z z c h3)
                  exact ⟨fun _ => r, r.i⟩
                | _ => exact nomatch (show false = true from h)
              | _ => exact nomatch (show false = true from h)
            | _ => exact nomatch (show false = true from h)
          | _ => exact nomatch (show false = true from h)
        | _ => exact nomatch (show false = true from h)
      | _ => exact nomatch (show false = true from h)
    | _ => exact nomatch (show false = true from h)
  | .enum a, X, Z, tg, x, c, h => by
    cases tg with
    | Tuple elts kk tpos =>
      cases x with
      | Call z1 z2 z3 pos =>
        cases z1 with
        | Name n p0 =>
          cases z2 with
          | cons y z4 =>
            cases z4 with
            | nil =>
              cases z3 with
              | nil =>
                replace h : (nmB Z "enumerate" n && (chkE a Z y)) = true := h
                obtain ⟨h1, h2⟩ := ba h
                have r := snl_enum (elts := elts) (kk := kk) (tpos := tpos) (pos := pos) (p0 := p0) c h1 (chk_star h2) (sndE a X Z y c h2)
                exact ⟨fun _ => r, r.i⟩
              | _ => exact nomatch (show false = true from h)
            | _ => exact nomatch (show false = true from h)
          | _ => exact nomatch (show false = true from h)
        | _ => exact nomatch (show false = true from h)
      | _ => exact nomatch (show false = true from h)
    | _ => exact nomatch (show false = true from h)
end

/-- what a name is set to: no comprehension, or one whose reading is told, or nothing -/
inductive Asg (C : Cf) (Γ : List D) (X : Cx) (Z : Zc) (e : IE) : Expr → Prop where
  | plain {v : Expr} (h : notComp v = true) : Asg C Γ X Z e v
  | lc {x tg iter : Expr} {cs : List Expr} {scope : Scope} {own : List Nat} {pos : Pos} (h1 : L2.blkC Z.N Z.sc scope (ownNs Z.N own) = true) (h2 : notSet iter = true) (h3 : SndLc X scope own tg iter x cs (evE C Γ e)) : Asg C Γ X Z e (.ListComp x [⟨tg, iter, cs, 0⟩] scope pos)
  | no {v : Expr} (h : ∀ E g, evE C Γ e E g = none) : Asg C Γ X Z e v
theorem asg_lc {X : Cx} {Z : Zc} (c : Cxt C Γ X Z) (own : List Nat) (t : IT) (it : II) (cond : IC) (elt : IE) (x : Expr) (h : chkE (.lc own t it cond elt) Z x = true) : Asg C Γ X Z (.lc own t it cond elt) x := by
    cases x with
    | ListComp e z1 scope pos =>
      cases z1 with
      | cons z2 z3 =>
        cases z2 with
        | mk tg iter z4 k =>
          cases z4 with
          | cons q z5 =>
            cases z5 with
            | nil =>
              cases z3 with
              | nil =>
                replace h : (decide (k = 0) && (L2.blkC Z.N Z.sc scope (ownNs Z.N own) && (notSet iter && (chkI it Z tg iter && ((slotsT t).all (fun i => own.contains i) && (chkT (blkZ Z scope) t tg && (chkC cond (blkZ Z scope) q && (chkE elt (blkZ Z scope) e)))))))) = true := h
                obtain ⟨h1, r0⟩ := ba h
                obtain ⟨h2, r1⟩ := ba r0
                obtain ⟨h3, r2⟩ := ba r1
                obtain ⟨h4, r3⟩ := ba r2
                obtain ⟨h5, r4⟩ := ba r3
                obtain ⟨h6, r5⟩ := ba r4
                obtain ⟨h7, h8⟩ := ba r5
                have := of_decide_eq_true h1
                subst this
                exact .lc h2 h3 (lc_case c h2 h5 (sndI it X Z tg iter c h4).2 h6 (fun X' c' => sndT cond X' _ q c' h7) (fun X' c' => sndE elt X' _ e c' h8))
              | _ => exact nomatch (show false = true from h)
            | _ => exact nomatch (show false = true from h)
          | _ => exact nomatch (show false = true from h)
      | _ => exact nomatch (show false = true from h)
    | _ => exact nomatch (show false = true from h)
theorem asg_lcA {X : Cx} {Z : Zc} (c : Cxt C Γ X Z) (own : List Nat) (t : IT) (it : II) (elt : IE) (x : Expr) (h : chkE (.lcA own t it elt) Z x = true) : Asg C Γ X Z (.lcA own t it elt) x := by
    cases x with
    | ListComp e z6 scope pos =>
      cases z6 with
      | cons z7 z8 =>
        cases z7 with
        | mk tg iter z9 k =>
          cases z9 with
          | nil =>
            cases z8 with
            | nil =>
              replace h : (decide (k = 0) && (L2.blkC Z.N Z.sc scope (ownNs Z.N own) && (notSet iter && (chkI it Z tg iter && ((slotsT t).all (fun i => own.contains i) && (chkT (blkZ Z scope) t tg && (chkE elt (blkZ Z scope) e))))))) = true := h
              obtain ⟨h1, r0⟩ := ba h
              obtain ⟨h2, r1⟩ := ba r0
              obtain ⟨h3, r2⟩ := ba r1
              obtain ⟨h4, r3⟩ := ba r2
              obtain ⟨h5, r4⟩ := ba r3
              obtain ⟨h6, h7⟩ := ba r4
              have := of_decide_eq_true h1
              subst this
              exact .lc h2 h3 (lcA_case c h2 h5 (sndI it X Z tg iter c h4).2 h6 (fun X' c' => sndE elt X' _ e c' h7))
            | _ => exact nomatch (show false = true from h)
          | _ => exact nomatch (show false = true from h)
      | _ => exact nomatch (show false = true from h)
    | _ => exact nomatch (show false = true from h)
theorem asg_of {X : Cx} {Z : Zc} (c : Cxt C Γ X Z) : ∀ (e : IE) (v : Expr), chkE e Z v = true → Asg C Γ X Z e v
  | e, v, h => by
    cases v with
    | ListComp x gs scope pos => cases e <;> first | exact nomatch (show false = true from h) | exact asg_lc c _ _ _ _ _ _ h | exact asg_lcA c _ _ _ _ _ h | exact .no fun E g => by rw [evE]
    | SetComp x gs scope pos => cases e <;> first | exact nomatch (show false = true from h) | exact .no fun E g => by rw [evE]
    | DictComp x y gs scope pos => cases e <;> first | exact nomatch (show false = true from h) | exact .no fun E g => by rw [evE]
    | _ => exact .plain rfl
theorem snf_ite {X : Cx} {u x y : Expr} {pos : Pos} {ca : IC} {a b : IE} (hc : SndT X u (evT C Γ ca)) (ha : SndF X x (evE C Γ a)) (hb : SndF X y (evE C Γ b)) : SndF X (.IfExp u x y pos) (evE C Γ (.ite ca a b)) := by
  intro E g d g' e σ w R Q q
  rw [evE] at e
  refine ⟨_, pe_ifExp (pt_wt X u) (pe_we X x) (pe_we X y), ?_⟩
  split at e
  · rename_i g1 e1
    refine hc E g _ g1 e1 σ w R _ fun w1 R1 x1 => iteT ?_
    exact ha E g1 d g' e σ w1 R1 _ fun v2 ms w2 w3 ed F => q v2 ms w2 w3 ed ⟨x1.none R.ok R1.ok F.new, F.H, F.r1, x1.trans R.ok F.x1, F.n1, F.r2, x1.trans R.ok F.x2, F.W2, F.nag, F.at_⟩
  · rename_i g1 e1
    refine hc E g _ g1 e1 σ w R _ fun w1 R1 x1 => iteF ?_
    exact hb E g1 d g' e σ w1 R1 _ fun v2 ms w2 w3 ed F => q v2 ms w2 w3 ed ⟨x1.none R.ok R1.ok F.new, F.H, F.r1, x1.trans R.ok F.x1, F.n1, F.r2, x1.trans R.ok F.x2, F.W2, F.nag, F.at_⟩
  · cases e
theorem snf_of {X : Cx} {Z : Zc} (c : Cxt C Γ X Z) : ∀ (e : IE) (x : Expr), freshL e = true → chkE e Z x = true → SndF X x (evE C Γ e)
  | .lst es, x, hf, h => by
    cases x with
    | List xs pos =>
      replace h : (chkA es Z xs) = true := h
      have h1 := h
      exact snf_lst (sndA es X Z xs c h1)
    | _ => exact nomatch (show false = true from h)
  | .toLst a, x, hf, h => by
    cases x with
    | Call z1 z2 z3 pos =>
      cases z1 with
      | Name n p0 =>
        cases z2 with
        | cons y z4 =>
          cases z4 with
          | nil =>
            cases z3 with
            | nil =>
              replace h : (nmB Z "list" n && (chkO a Z y)) = true := h
              obtain ⟨h1, h2⟩ := ba h
              exact snf_toLst c h1 (chkO_star h2) (sndO a X Z y c h2)
            | _ => exact nomatch (show false = true from h)
          | _ => exact nomatch (show false = true from h)
        | _ => exact nomatch (show false = true from h)
      | _ => exact nomatch (show false = true from h)
    | _ => exact nomatch (show false = true from h)
  | .lstRng a, x, hf, h => by
    cases x with
    | Call z1 z2 z3 pos =>
      cases z1 with
      | Name n p0 =>
        cases z2 with
        | cons z4 z5 =>
          cases z4 with
          | Call z6 z7 z8 p3 =>
            cases z6 with
            | Name m p2 =>
              cases z7 with
              | cons y z9 =>
                cases z9 with
                | nil =>
                  cases z8 with
                  | nil =>
                    cases z5 with
                    | nil =>
                      cases z3 with
                      | nil =>
                        replace h : (nmB Z "list" n && (nmB Z "range" m && (chkE a Z y))) = true := h
                        obtain ⟨h1, r0⟩ := ba h
                        obtain ⟨h2, h3⟩ := ba r0
                        exact snf_lstRng c h1 h2 (chk_star h3) (sndE a X Z y c h3)
                      | _ => exact nomatch (show false = true from h)
                    | _ => exact nomatch (show false = true from h)
                  | _ => exact nomatch (show false = true from h)
                | _ => exact nomatch (show false = true from h)
              | _ => exact nomatch (show false = true from h)
            | _ => exact nomatch (show false = true from h)
          | _ => exact nomatch (show false = true from h)
        | _ => exact nomatch (show false = true from h)
      | _ => exact nomatch (show false = true from h)
    | _ => exact nomatch (show false = true from h)
  | .lc own t it cond elt, x, hf, h => by
    cases x with
    | ListComp e z1 scope pos =>
      cases z1 with
      | cons z2 z3 =>
        cases z2 with
        | mk tg iter z4 k =>
          cases z4 with
          | cons q z5 =>
            cases z5 with
            | nil =>
              cases z3 with
              | nil =>
                replace h : (decide (k = 0) && (L2.blkC Z.N Z.sc scope (ownNs Z.N own) && (notSet iter && (chkI it Z tg iter && ((slotsT t).all (fun i => own.contains i) && (chkT (blkZ Z scope) t tg && (chkC cond (blkZ Z scope) q && (chkE elt (blkZ Z scope) e)))))))) = true := h
                obtain ⟨h1, r0⟩ := ba h
                obtain ⟨h2, r1⟩ := ba r0
                obtain ⟨h3, r2⟩ := ba r1
                obtain ⟨h4, r3⟩ := ba r2
                obtain ⟨h5, r4⟩ := ba r3
                obtain ⟨h6, r5⟩ := ba r4
                obtain ⟨h7, h8⟩ := ba r5
                have := of_decide_eq_true h1
                subst this
                exact snf_of_lc c h2 h3 (lc_case c h2 h5 (sndI it X Z tg iter c h4).2 h6 (fun X' c' => sndT cond X' _ q c' h7) (fun X' c' => sndE elt X' _ e c' h8))
              | _ => exact nomatch (show false = true from h)
            | _ => exact nomatch (show false = true from h)
          | _ => exact nomatch (show false = true from h)
      | _ => exact nomatch (show false = true from h)
    | _ => exact nomatch (show false = true from h)
  | .ite t a b, x, hf, h => by
    cases x with
    | IfExp u p q pos =>
      replace h : (chkC t Z u && (chkE a Z p && (chkE b Z q))) = true := h
      obtain ⟨h1, r0⟩ := ba h
      obtain ⟨h2, h3⟩ := ba r0
      exact snf_ite (sndT t X Z u c h1) (snf_of c a p (ba hf).1 h2) (snf_of c b q (ba hf).2 h3)
    | _ => exact nomatch (show false = true from h)
  | .lcA own t it elt, x, hf, h => by
    cases x with
    | ListComp e z1 scope pos =>
      cases z1 with
      | cons z2 z3 =>
        cases z2 with
        | mk tg iter z4 k =>
          cases z4 with
          | nil =>
            cases z3 with
            | nil =>
              replace h : (decide (k = 0) && (L2.blkC Z.N Z.sc scope (ownNs Z.N own) && (notSet iter && (chkI it Z tg iter && ((slotsT t).all (fun i => own.contains i) && (chkT (blkZ Z scope) t tg && (chkE elt (blkZ Z scope) e))))))) = true := h
              obtain ⟨h1, r0⟩ := ba h
              obtain ⟨h2, r1⟩ := ba r0
              obtain ⟨h3, r2⟩ := ba r1
              obtain ⟨h4, r3⟩ := ba r2
              obtain ⟨h5, r4⟩ := ba r3
              obtain ⟨h6, h7⟩ := ba r4
              have := of_decide_eq_true h1
              subst this
              exact snf_of_lc c h2 h3 (lcA_case c h2 h5 (sndI it X Z tg iter c h4).2 h6 (fun X' c' => sndE elt X' _ e c' h7))
            | _ => exact nomatch (show false = true from h)
          | _ => exact nomatch (show false = true from h)
      | _ => exact nomatch (show false = true from h)
    | _ => exact nomatch (show false = true from h)
end
end DP

set_option linter.all false
set_option Elab.async false
/-! DDispX: which lemma tells of which statement (printed by gen_dispx.py). By an AI agent. -/
namespace DP
open PySem PySem.Spec PyProof.Rows L2

theorem frz_or (s : IS) : (∃ i, s = .frz i) ∨ ∀ i, s ≠ .frz i := by
  cases s with
  | frz i => exact .inl ⟨i, rfl⟩
  | _ => exact .inr fun i h => by cases h
theorem chkB_cons {s : IS} {b : IB} {Z : Zc} {ss : List Stmt} (hs : ∀ i, s ≠ .frz i) (h : chkB (.cons s b) Z ss = true) : ∃ st r, ss = st :: r ∧ chkX s Z st = true ∧ chkB b Z r = true := by
  cases ss with
  | nil => cases s <;> first | exact nomatch (show false = true from h) | exact absurd rfl (hs _)
  | cons st r =>
    refine ⟨st, r, rfl, ?_⟩
    cases s <;> first | exact absurd rfl (hs _) | exact ba h
theorem not_b {a : Bool} (h : (!a) = true) : a = false := by cases a <;> first | rfl | cases h
section
variable {C : Cf} {Γ : List D}
mutual
theorem sndX : ∀ (e : IS) (X : Cx) (Z : Zc) (x : Stmt), Cxt C Γ X Z → chkX e Z x = true → SndX X x (evX C Γ e)
  | .set t e, X, Z, x, c, h => by
    cases x with
    | Assign z1 v spos =>
      cases z1 with
      | cons tg z2 =>
        cases z2 with
        | nil =>
          replace h : (okSet tg v && (chkT Z t tg && (chkE e Z v))) = true := h
          obtain ⟨h1, r0⟩ := ba h
          obtain ⟨h2, h3⟩ := ba r0
          cases tg with
          | Name n py =>
            cases t with
            | name i =>
              have a := asg_of c e v h3
              cases a with
              | plain q => exact snx_setN c h2 q (sndE e X Z v c h3)
              | lc q1 q2 q3 => exact snx_setC c h2 q1 q2 q3
              | no q => exact snx_none fun E g => by rw [evX, q]
            | _ => exact nomatch (show false = true from h2)
          | Tuple es kk p1 => exact snx_setT c h2 h1 (sndE e X Z v c h3)
          | _ => exact nomatch (show false = true from h1)
        | _ => exact nomatch (show false = true from h)
      | _ => exact nomatch (show false = true from h)
    | _ => exact nomatch (show false = true from h)
  | .par i j a b, X, Z, x, c, h => by
    cases x with
    | Assign z1 z2 spos =>
      cases z1 with
      | cons z3 z4 =>
        cases z3 with
        | Tuple z5 kt pt =>
          cases z5 with
          | cons z6 z7 =>
            cases z6 with
            | Name n p1 =>
              cases z7 with
              | cons z8 z9 =>
                cases z8 with
                | Name m p2 =>
                  cases z9 with
                  | nil =>
                    cases z4 with
                    | nil =>
                      cases z2 with
                      | Tuple z10 k2 pt2 =>
                        cases z10 with
                        | cons u z11 =>
                          cases z11 with
                          | cons v z12 =>
                            cases z12 with
                            | nil =>
                              replace h : (decide (Z.N[i]? = some n) && (decide (Z.N[j]? = some m) && (lclB Z n && (lclB Z m && (decide (n ≠ m) && (decide (p1.line = p2.line) && (!(foldedForSure 8 u && foldedForSure 8 v) && (!(constantsAlone 8 u && constantsAlone 8 v) && (chkE a Z u && (chkE b Z v)))))))))) = true := h
                              obtain ⟨h1, r0⟩ := ba h
                              obtain ⟨h2, r1⟩ := ba r0
                              obtain ⟨h3, r2⟩ := ba r1
                              obtain ⟨h4, r3⟩ := ba r2
                              obtain ⟨h5, r4⟩ := ba r3
                              obtain ⟨h6, r5⟩ := ba r4
                              obtain ⟨h7, r6⟩ := ba r5
                              obtain ⟨h8, r7⟩ := ba r6
                              obtain ⟨h9, h10⟩ := ba r7
                              exact snx_par c (of_decide_eq_true h1) (of_decide_eq_true h2) h3 h4 (of_decide_eq_true h5) (of_decide_eq_true h6) (chk_star h9) (chk_star h10) (not_b h7) (not_b h8) (sndE a X Z u c h9) (sndE b X Z v c h10)
                            | _ => exact nomatch (show false = true from h)
                          | _ => exact nomatch (show false = true from h)
                        | _ => exact nomatch (show false = true from h)
                      | _ => exact nomatch (show false = true from h)
                    | _ => exact nomatch (show false = true from h)
                  | _ => exact nomatch (show false = true from h)
                | _ => exact nomatch (show false = true from h)
              | _ => exact nomatch (show false = true from h)
            | _ => exact nomatch (show false = true from h)
          | _ => exact nomatch (show false = true from h)
        | _ => exact nomatch (show false = true from h)
      | _ => exact nomatch (show false = true from h)
    | _ => exact nomatch (show false = true from h)
  | .own i e, X, Z, x, c, h => by
    cases x with
    | Assign z1 v spos =>
      cases z1 with
      | cons z2 z3 =>
        cases z2 with
        | Name n py =>
          cases z3 with
          | nil =>
            replace h : (tgtB Z i n && (chkE e Z v)) = true := h
            obtain ⟨h1, h2⟩ := ba h
            cases hf : freshL e with
            | false => exact snx_none fun E g => by rw [evX]; simp [hf]
            | true =>
              have a := asg_of c e v h2
              cases a with
              | plain q => exact snx_ownN c h1 q (snf_of c e v hf h2)
              | lc q1 q2 q3 => exact snx_ownC c h1 q1 q2 q3
              | no q => exact snx_none fun E g => by rw [evX]; simp [q]
          | _ => exact nomatch (show false = true from h)
        | _ => exact nomatch (show false = true from h)
      | _ => exact nomatch (show false = true from h)
    | _ => exact nomatch (show false = true from h)
  | .app i e, X, Z, x, c, h => by
    cases x with
    | Expr z1 spos =>
      cases z1 with
      | Call z2 z3 z4 cp =>
        cases z2 with
        | Attribute z5 m ap =>
          cases z5 with
          | Name n p1 =>
            cases z3 with
            | cons v z6 =>
              cases z6 with
              | nil =>
                cases z4 with
                | nil =>
                  replace h : (varB Z i n && (decide (m = "append") && (decide (ap.endLine = cp.line) && (chkE e Z v)))) = true := h
                  obtain ⟨h1, r0⟩ := ba h
                  obtain ⟨h2, r1⟩ := ba r0
                  obtain ⟨h3, h4⟩ := ba r1
                  have e1 := of_decide_eq_true h2
                  subst e1
                  exact snx_app c h1 (of_decide_eq_true h3) (chk_star h4) (sndE e X Z v c h4)
                | _ => exact nomatch (show false = true from h)
              | _ => exact nomatch (show false = true from h)
            | _ => exact nomatch (show false = true from h)
          | _ => exact nomatch (show false = true from h)
        | _ => exact nomatch (show false = true from h)
      | _ => exact nomatch (show false = true from h)
    | _ => exact nomatch (show false = true from h)
  | .ext i e, X, Z, x, c, h => by
    cases x with
    | Expr z1 spos =>
      cases z1 with
      | Call z2 z3 z4 cp =>
        cases z2 with
        | Attribute z5 m ap =>
          cases z5 with
          | Name n p1 =>
            cases z3 with
            | cons v z6 =>
              cases z6 with
              | nil =>
                cases z4 with
                | nil =>
                  replace h : (varB Z i n && (decide (m = "extend") && (decide (ap.endLine = cp.line) && (chkE e Z v)))) = true := h
                  obtain ⟨h1, r0⟩ := ba h
                  obtain ⟨h2, r1⟩ := ba r0
                  obtain ⟨h3, h4⟩ := ba r1
                  have e1 := of_decide_eq_true h2
                  subst e1
                  exact snx_ext c h1 (of_decide_eq_true h3) (chk_star h4) (sndE e X Z v c h4)
                | _ => exact nomatch (show false = true from h)
              | _ => exact nomatch (show false = true from h)
            | _ => exact nomatch (show false = true from h)
          | _ => exact nomatch (show false = true from h)
        | _ => exact nomatch (show false = true from h)
      | _ => exact nomatch (show false = true from h)
    | _ => exact nomatch (show false = true from h)
  | .setI i k e, X, Z, x, c, h => by
    cases x with
    | Assign z1 v spos =>
      cases z1 with
      | cons z2 z3 =>
        cases z2 with
        | Subscript z4 s p2 =>
          cases z4 with
          | Name n p1 =>
            cases z3 with
            | nil =>
              replace h : (varB Z i n && (notSlice s && (chkE k Z s && (chkE e Z v)))) = true := h
              obtain ⟨h1, r0⟩ := ba h
              obtain ⟨h2, r1⟩ := ba r0
              obtain ⟨h3, h4⟩ := ba r1
              exact snx_setI c h1 h2 (sndE k X Z s c h3) (sndE e X Z v c h4)
            | _ => exact nomatch (show false = true from h)
          | _ => exact nomatch (show false = true from h)
        | _ => exact nomatch (show false = true from h)
      | _ => exact nomatch (show false = true from h)
    | _ => exact nomatch (show false = true from h)
  | .setR o k e, X, Z, x, c, h => by
    cases x with
    | Assign z1 v spos =>
      cases z1 with
      | cons z2 z3 =>
        cases z2 with
        | Subscript l s p2 =>
          cases z3 with
          | nil =>
            replace h : (notSlice s && (chkE o Z l && (chkE k Z s && (chkE e Z v)))) = true := h
            obtain ⟨h1, r0⟩ := ba h
            obtain ⟨h2, r1⟩ := ba r0
            obtain ⟨h3, h4⟩ := ba r1
            exact snx_setR c h1 (sndE o X Z l c h2) (sndE k X Z s c h3) (sndE e X Z v c h4)
          | _ => exact nomatch (show false = true from h)
        | _ => exact nomatch (show false = true from h)
      | _ => exact nomatch (show false = true from h)
    | _ => exact nomatch (show false = true from h)
  | .expr e, X, Z, x, c, h => by
    cases x with
    | Expr v spos =>
      replace h : (notComp v && (chkE e Z v)) = true := h
      obtain ⟨h1, h2⟩ := ba h
      exact snx_expr h1 (sndE e X Z v c h2)
    | _ => exact nomatch (show false = true from h)
  | .ifs t a b, X, Z, x, c, h => by
    cases x with
    | If u p q spos =>
      replace h : (chkC t Z u && (chkB a Z p && (chkB b Z q))) = true := h
      obtain ⟨h1, r0⟩ := ba h
      obtain ⟨h2, h3⟩ := ba r0
      exact snx_ifs (sndT t X Z u c h1) (sndB a X Z p c h2) (sndB b X Z q c h3)
    | _ => exact nomatch (show false = true from h)
  | .loop t it b, X, Z, x, c, h => by
    cases x with
    | For tg iter body z1 spos =>
      cases z1 with
      | nil =>
        replace h : (stillI it && (notSet iter && (chkI it Z tg iter && (chkT Z t tg && (chkB b Z body))))) = true := h
        obtain ⟨h1, r0⟩ := ba h
        obtain ⟨h2, r1⟩ := ba r0
        obtain ⟨h3, r2⟩ := ba r1
        obtain ⟨h4, h5⟩ := ba r2
        exact snx_loop c h2 ((sndI it X Z tg iter c h3).1 h1) (sndG c t tg h4) (sndB b X Z body c h5)
      | _ => exact nomatch (show false = true from h)
    | _ => exact nomatch (show false = true from h)
  | .whil t b, X, Z, x, c, h => by
    cases x with
    | While u body z1 spos =>
      cases z1 with
      | nil =>
        replace h : (chkC t Z u && (chkB b Z body)) = true := h
        obtain ⟨h1, h2⟩ := ba h
        exact snx_whil c (sndT t X Z u c h1) (sndB b X Z body c h2)
      | _ => exact nomatch (show false = true from h)
    | _ => exact nomatch (show false = true from h)
  | .ret e, X, Z, x, c, h => by
    cases x with
    | Return z1 spos =>
      cases z1 with
      | some v =>
        replace h : (chkE e Z v) = true := h
        have h1 := h
        exact snx_ret (sndE e X Z v c h1)
      | _ => exact nomatch (show false = true from h)
    | _ => exact nomatch (show false = true from h)
  | .retN, X, Z, x, c, h => by
    cases x with
    | Return z1 spos =>
      cases z1 with
      | none =>
        exact snx_retN
      | _ => exact nomatch (show false = true from h)
    | _ => exact nomatch (show false = true from h)
  | .retG i a b, X, Z, x, c, h => by
    cases x with
    | Return z1 spos =>
      cases z1 with
      | some z2 =>
        cases z2 with
        | List z3 p3 =>
          cases z3 with
          | cons z4 z5 =>
            cases z4 with
            | Name n p1 =>
              cases z5 with
              | cons z6 z7 =>
                cases z6 with
                | List z8 p2 =>
                  cases z8 with
                  | cons u z9 =>
                    cases z9 with
                    | nil =>
                      cases z7 with
                      | cons v z10 =>
                        cases z10 with
                        | nil =>
                          replace h : (varB Z i n && (chkE a Z u && (chkE b Z v))) = true := h
                          obtain ⟨h1, r0⟩ := ba h
                          obtain ⟨h2, h3⟩ := ba r0
                          exact snx_retG c h1 (chk_star h2) (chk_star h3) (sndE a X Z u c h2) (sndE b X Z v c h3)
                        | _ => exact nomatch (show false = true from h)
                      | _ => exact nomatch (show false = true from h)
                    | _ => exact nomatch (show false = true from h)
                  | _ => exact nomatch (show false = true from h)
                | _ => exact nomatch (show false = true from h)
              | _ => exact nomatch (show false = true from h)
            | _ => exact nomatch (show false = true from h)
          | _ => exact nomatch (show false = true from h)
        | _ => exact nomatch (show false = true from h)
      | _ => exact nomatch (show false = true from h)
    | _ => exact nomatch (show false = true from h)
  | .brk, X, Z, x, c, h => by
    cases x with
    | Break spos =>
      exact snx_brk
    | _ => exact nomatch (show false = true from h)
  | .cnt, X, Z, x, c, h => by
    cases x with
    | Continue spos =>
      exact snx_cnt
    | _ => exact nomatch (show false = true from h)
  | .pass, X, Z, x, c, h => by
    cases x with
    | Pass spos =>
      exact snx_pass
    | _ => exact nomatch (show false = true from h)
  | .never, X, Z, x, c, h => by
    exact snx_none fun E g => by rw [evX]
  | .frz i, X, Z, x, c, h => by
    exact nomatch (show false = true from h)
theorem sndB : ∀ (e : IB) (X : Cx) (Z : Zc) (x : List Stmt), Cxt C Γ X Z → chkB e Z x = true → SndB X x (evB C Γ e)
  | .nil, X, Z, x, c, h => by
    cases x with
    | nil =>
      exact snb_nil
    | _ => exact nomatch (show false = true from h)
  | .cons s b, X, Z, x, c, h => by
    rcases frz_or s with ⟨i, q⟩ | q
    · subst q
      exact snb_frz (sndB b X Z x c (show chkB b Z x = true from h))
    · obtain ⟨st, r, q0, q1, q2⟩ := chkB_cons q h
      subst q0
      exact snb_cons (sndX s X Z st c q1) (sndB b X Z r c q2)
end
end
end DP

set_option linter.all false
set_option Elab.async false
/-! DFn: defs, the program. By an AI agent. -/
namespace DP
open PySem PySem.Spec PyProof.Rows L2

theorem lookup_zip_some : ∀ (ps : List Str) (us : List Value), us.length = ps.length → ∀ n ∈ ps, ((ps.zip us).lookup n).isSome = true
  | [], _, _, _, h => by cases h
  | p :: ps, [], hl, _, _ => by cases hl
  | p :: ps, u :: us, hl, n, h => by
    rw [List.zip_cons_cons, List.lookup_cons]
    by_cases q : n == p
    · rw [q]; rfl
    · have q' : (n == p) = false := by simpa using q
      rw [q']
      have : n ≠ p := fun z => by rw [z] at q; exact q (beq_self_eq_true p)
      exact lookup_zip_some ps us (by simpa using hl) n (by rcases List.mem_cons.mp h with z | z; exact absurd z this; exact z)
theorem lookup_zip_all (f : Str → Option Value) : ∀ (ps : List Str) (us : List Value), us.length = ps.length → (∀ p ∈ ps.zip us, f p.1 = some p.2) → ps.filterMap (fun n => (f n).map (n, ·)) = ps.zip us
  | [], us, _, _ => by simp
  | p :: ps, [], hl, _ => by cases hl
  | p :: ps, u :: us, hl, h => by
    have h1 := h (p, u) (by simp)
    rw [List.filterMap_cons, h1]
    have := lookup_zip_all f ps us (by simpa using hl) fun q hq => h q (by rw [List.zip_cons_cons]; exact List.mem_cons_of_mem _ hq)
    simp only [Option.map_some, this, List.zip_cons_cons]
theorem lookup_zip_is : ∀ (ps : List Str) (us : List Value), ps.Nodup → ∀ p ∈ ps.zip us, (ps.zip us).lookup p.1 = some p.2
  | [], _, _, p, h => by simp at h
  | q :: ps, [], _, p, h => by simp at h
  | q :: ps, u :: us, nd, p, h => by
    rw [List.zip_cons_cons] at h ⊢
    rw [List.lookup_cons]
    rcases List.mem_cons.mp h with z | z
    · subst z; simp
    · have hm : p.1 ∈ ps := (List.of_mem_zip z).1
      have hne : (p.1 == q) = false := by
        have := (List.nodup_cons.mp nd).1
        simp only [beq_eq_false_iff_ne]
        exact fun y => this (y ▸ hm)
      rw [hne]
      exact lookup_zip_is ps us (List.nodup_cons.mp nd).2 p z
theorem bind_plain {fd : FuncData} {ps : List Str} {us : List Value} (h1 : fd.params.posonlyargs = []) (h2 : fd.params.kwonlyargs = []) (h3 : fd.params.vararg = none) (h4 : fd.params.kwarg = none) (h5 : fd.params.args.map (·.arg) = ps) (nd : ps.Nodup) (hd : fd.defaults = .none)
    (hl : us.length = ps.length) : bindArgs fd ⟨us, []⟩ = pure (ps.zip us) := by
  have e0 : (ps.filter fun n => ((ps.zip us).lookup n).isNone) = [] := by
    rw [List.filter_eq_nil_iff]
    intro n hn
    have := lookup_zip_some ps us hl n hn
    cases q : (ps.zip us).lookup n with
    | none => rw [q] at this; cases this
    | some v => simp
  have e1 := lookup_zip_all (fun n => (ps.zip us).lookup n) ps us hl (lookup_zip_is ps us nd)
  have e2 : seqItems? Value.none = pure none := rfl
  unfold bindArgs
  simp only [h1, h2, h3, h4, h5, hd, e2, List.map_nil, List.nil_append, List.append_nil, List.forIn_nil, pure_bind, hl, Nat.lt_irrefl, gt_iff_lt, decide_false, Bool.false_and, Bool.false_eq_true, if_false, Option.getD_none, List.toList_toArray, List.length_nil, Nat.zero_sub, List.drop_zero, Nat.sub_zero, List.take_length, e0, List.isEmpty_nil, Bool.not_true, List.drop_length, List.zip_nil_left, e1]
  try simp [e0, e1]


/-! ### a def's text -/
def argB (p : Arguments) (ps : List Str) : Bool := p.posonlyargs.isEmpty && (p.kwonlyargs.isEmpty && (p.vararg.isNone && (p.kwarg.isNone && (decide (p.args.map (·.arg) = ps) && decide ps.Nodup))))
/-- the row of a def: its slots' names, its text in DPy -/
structure Row where
  N : List Str
  t : IDef
/-- d is the def named x, and t is its text -/
def defB (F Cn : List Str) (x : Str) (d : He.DefD) (r : Row) : Bool :=
  decide (d.at_ = (x, none)) && (d.dfl.isEmpty && (d.kwd.isEmpty && (argB d.params (r.N.take r.t.np) && (decide (r.t.np ≤ r.N.length) && (decide (r.N.length = r.t.n) && (scChk r.N (r.N.take r.t.np) d.scope && chkB r.t.body ⟨d.scope, d.scope, true, r.N, F, Cn⟩ d.body))))))
/-- what a program's names are -/
structure PrgB (fa : List He.Fa) (fn : List He.DefD) (F : List Str) (Ds : List He.DefD) (rows : List Row) (Cn : List Str) : Prop where
  len : Ds.length = F.length
  len2 : rows.length = F.length
  ok : ∀ (i : Nat) (x : Str) (d : He.DefD) (r : Row), F[i]? = some x → Ds[i]? = some d → rows[i]? = some r → defB F Cn x d r = true ∧ d ∈ fn ∧ He.Fa.glo x ∈ fa
  blt : ∀ x ∈ bltAll, He.Fa.free x ∈ fa
/-- a constant -/
def CstOk (K : PySem.W.Frag) (mg : Str → Option Value) (x : Str) (d : D) : Prop := ∃ u v, mg x = some u ∧ RelV v u ∧ ∀ w, Rep K w v d

theorem scope_of {N P : List Str} {sc : Scope} (h : scChk N P sc = true) : FnScope N P sc := by
  unfold scChk at h
  obtain ⟨h1, h⟩ := ba h
  obtain ⟨h2, h⟩ := ba h
  obtain ⟨h3, h⟩ := ba h
  obtain ⟨h4, h⟩ := ba h
  obtain ⟨h5, h⟩ := ba h
  obtain ⟨h6, h7⟩ := ba h
  refine ⟨?_, not_b h2, not_b h3, of_decide_eq_true h4, of_decide_eq_true h5, fun x hx => ?_, fun y hy => ?_⟩
  · cases q : sc.kind <;> first | rfl | (rw [q] at h1; cases h1)
  · have := List.all_eq_true.mp h6 x hx
    cases q : sc.names.lookup x with
    | none => rw [q] at this; cases this
    | some k => cases k <;> first | exact .inl rfl | exact .inr rfl | (rw [q] at this; cases this)
  · exact of_decide_eq_true (List.all_eq_true.mp h7 y hy)

theorem start_en {K : PySem.W.Frag} {w : Wd} {vs : List V} {ds : List D} {N : List Str} (r : Reps K w vs ds) (hl : ds.length ≤ N.length) : EnR K (ds.map Sl.val ++ List.replicate (N.length - ds.length) Sl.un) (start N vs) w := by
  have hv := r.length
  refine ⟨?_, fun i sl o h1 h2 => ?_, fun i j ms ms' a hij h1 => ?_⟩
  · unfold L2.start
    simp only [List.length_append, List.length_map, List.length_replicate]
    omega
  · unfold L2.start at h2
    by_cases hi : i < ds.length
    · rw [List.getElem?_append_left (by simpa using hi), List.getElem?_map] at h1
      rw [List.getElem?_append_left (by simpa [hv] using hi), List.getElem?_map] at h2
      rw [List.getElem?_eq_getElem hi] at h1
      cases h1
      obtain ⟨v, q1, q2⟩ := r.get (List.getElem?_eq_getElem hi)
      rw [q1] at h2
      cases h2
      exact ⟨v, rfl, q2⟩
    · rw [List.getElem?_append_right (by simp; omega), List.getElem?_replicate] at h1
      split at h1
      · cases h1; trivial
      · cases h1
  · exfalso
    by_cases hi : i < ds.length
    · rw [List.getElem?_append_left (by simpa using hi), List.getElem?_map, List.getElem?_eq_getElem hi] at h1
      cases h1
    · rw [List.getElem?_append_right (by simp; omega), List.getElem?_replicate] at h1
      split at h1 <;> cases h1
theorem start_noown {ds : List D} {m i : Nat} {ms : List D} : (ds.map Sl.val ++ List.replicate m Sl.un)[i]? ≠ some (.own ms) := by
  intro h1
  by_cases hi : i < ds.length
  · rw [List.getElem?_append_left (by simpa using hi), List.getElem?_map, List.getElem?_eq_getElem hi] at h1
    cases h1
  · rw [List.getElem?_append_right (by simp; omega), List.getElem?_replicate] at h1
    split at h1 <;> cases h1

theorem reps_ints {K : PySem.W.Frag} {w : Wd} : ∀ ns : List Int, Reps K w (ns.map V.int) (ns.map D.int)
  | [] => .nil
  | n :: ns => .cons (.int n) (reps_ints ns)

section
variable {P : Program} {w : World} {K : PySem.W.Frag} {mg : Str → Option Value} {base h : Heap} {fa : List He.Fa} {fn : List He.DefD} {F Cn : List Str} {Ds : List He.DefD} {rows : List Row} {Γ : List D}
/-- the def at i -/
structure At (K : PySem.W.Frag) (F : List Str) (Ds : List He.DefD) (rows : List Row) (i : Nat) (x : Str) (d : He.DefD) (r : Row) (fd : FuncData) : Prop where
  nm : F[i]? = some x
  df : Ds[i]? = some d
  rw : rows[i]? = some r
  fun_ : FunD K d.name d.qual d.params d.body d.scope [] [] (He.ga K x) fd
theorem at_of (p : PrgB fa fn F Ds rows Cn) (c : He.SaysD fa fn K) {i : Nat} {x : Str} (hx : F[i]? = some x) : ∃ d r fd, At K F Ds rows i x d r fd := by
  have hi : i < F.length := (List.getElem?_eq_some_iff.mp hx).1
  obtain ⟨d, h1⟩ : ∃ d, Ds[i]? = some d := ⟨_, List.getElem?_eq_getElem (by rw [p.len]; exact hi)⟩
  obtain ⟨r, h2⟩ : ∃ r, rows[i]? = some r := ⟨_, List.getElem?_eq_getElem (by rw [p.len2]; exact hi)⟩
  obtain ⟨hb, hd, hg⟩ := p.ok i x _ _ hx h1 h2
  obtain ⟨fd, Fd⟩ := c.defs hd
  unfold defB at hb
  obtain ⟨b1, hb⟩ := ba hb
  obtain ⟨b2, hb⟩ := ba hb
  obtain ⟨b3, hb⟩ := ba hb
  have e1 : d.dvs K = [] := by unfold He.DefD.dvs; rw [List.isEmpty_iff.mp b2]; rfl
  have e2 : d.kws K = [] := by unfold He.DefD.kws; rw [List.isEmpty_iff.mp b3]; rfl
  have e3 : He.fAd K d.at_ = He.ga K x := by rw [of_decide_eq_true b1]; rfl
  rw [e1, e2, e3] at Fd
  exact ⟨_, _, fd, hx, h1, h2, Fd⟩
theorem At.facts {i : Nat} {x : Str} {d : He.DefD} {r : Row} {fd : FuncData} (p : PrgB fa fn F Ds rows Cn) (a : At K F Ds rows i x d r fd) : Binds K fd (r.N.take r.t.np) [] ∧ (r.N.take r.t.np).length = r.t.np ∧ r.N.length = r.t.n ∧ r.t.np ≤ r.N.length ∧ FnScope r.N (r.N.take r.t.np) d.scope ∧ chkB r.t.body ⟨d.scope, d.scope, true, r.N, F, Cn⟩ d.body = true := by
  obtain ⟨hb, hd, hg⟩ := p.ok i x d r a.nm a.df a.rw
  unfold defB at hb
  obtain ⟨b1, hb⟩ := ba hb
  obtain ⟨b2, hb⟩ := ba hb
  obtain ⟨b3, hb⟩ := ba hb
  obtain ⟨b4, hb⟩ := ba hb
  obtain ⟨b5, hb⟩ := ba hb
  obtain ⟨b6, hb⟩ := ba hb
  obtain ⟨b7, b8⟩ := ba hb
  unfold argB at b4
  obtain ⟨a1, b4⟩ := ba b4
  obtain ⟨a2, b4⟩ := ba b4
  obtain ⟨a3, b4⟩ := ba b4
  obtain ⟨a4, b4⟩ := ba b4
  obtain ⟨a5, a6⟩ := ba b4
  refine ⟨a.fun_.bindsN fun kV doc pm an cdv ct us hl => bind_plain (List.isEmpty_iff.mp a1) (List.isEmpty_iff.mp a2) (Option.isNone_iff_eq_none.mp a3) (Option.isNone_iff_eq_none.mp a4) (of_decide_eq_true a5) (of_decide_eq_true a6) rfl hl, ?_, of_decide_eq_true b6, of_decide_eq_true b5, scope_of b7, b8⟩
  rw [List.length_take]
  have := of_decide_eq_true b5
  omega
theorem fn_all (p : PrgB fa fn F Ds rows Cn) (X : K.In h) (G : h.Ns mainGlobals mg) (c : He.SaysD fa fn K) (hc : ∀ (j : Nat) (x : Str) (d : D), Cn[j]? = some x → Γ[j]? = some d → CstOk K mg x d) :
    ∀ (k i : Nat) (x : Str) (d : He.DefD) (r : Row) (fd : FuncData), At K F Ds rows i x d r fd → FnOk P w K mg base CX0 k (He.ga K x) fd (r.N.take r.t.np) (spC K (runN (rows.map (·.t)) Γ k) i) := by
  intro k
  induction k with
  | zero =>
    intro i x d r fd a
    have no : ∀ vs H Q E, ¬ spC K (runN (rows.map (·.t)) Γ 0) i vs H Q E := by
      rintro vs H Q E ⟨w, ds, g, d, g', _, _, _, _, e, _⟩
      rw [runN] at e
      cases e
    exact ⟨fun vs H Q E q => absurd q (no vs H Q E), fun A outer s H args us vs Q E _ _ _ _ q => absurd q (no vs H Q E)⟩
  | succ k ih =>
    intro i x d r fd a
    obtain ⟨bi, hnp, hn, hle, S, hchk⟩ := a.facts p
    have hget : (rows.map (·.t))[i]? = some r.t := by rw [List.getElem?_map, a.rw]; rfl
    have inv : ∀ {vs : List V} {H : Hp} {Q : VK} {E : XK}, spC K (runN (rows.map (·.t)) Γ (k + 1)) i vs H Q E → ∃ (w : Wd) (ds : List D) (g : Gs) (rr : Fl × En × Gs) (d' : D) (g' : Gs), w.H = H ∧ Ok w ∧ GR K g w ∧ Reps K w vs ds ∧ ds.length = r.t.np ∧
        evB (runN (rows.map (·.t)) Γ k) Γ r.t.body (ds.map Sl.val ++ List.replicate (r.t.n - r.t.np) Sl.un) g = some rr ∧ ((∃ E', rr = (.rt d', E', g')) ∨ (∃ E', rr = (.nx, E', g') ∧ d' = .non)) ∧ ∀ v w', Ok w' → Ext w w' → GR K g' w' → Rep K w' v d' → Q v w'.H := by
      rintro vs H Q E ⟨w, ds, g, d', g', e1, ok, G, R, e, q⟩
      rw [runN] at e
      simp only [hget] at e
      split at e
      · rename_i hl
        split at e
        · rename_i v E' g1 eb
          cases e
          exact ⟨w, ds, g, _, d', g', e1, ok, G, R, hl, eb, .inl ⟨E', rfl⟩, q⟩
        · rename_i E' g1 eb
          cases e
          exact ⟨w, ds, g, _, .non, g', e1, ok, G, R, hl, eb, .inr ⟨E', rfl, rfl⟩, q⟩
        · cases e
      · cases e
    refine a.fun_.ok S (fun vs H Q E q => ?_) fun cdv A outer s H vs Q E hroom q => ?_
    · obtain ⟨w, ds, g, rr, d', g', _, _, _, R, hl, _⟩ := inv q
      rw [R.length, hl, hnp]
    · obtain ⟨w0, ds, g, rr, d', g', rfl, ok, G0, R, hl, eb, hr, post⟩ := inv q
      let Xc : Cx := (cxOf CX0 P w K mg base r.N d.qual d.scope (He.ga K x) cdv A outer s w0.H E).nox
      have cx : Cxt (runN (rows.map (·.t)) Γ k) Γ Xc ⟨d.scope, d.scope, true, r.N, F, Cn⟩ :=
        { sc := rfl, kind := S.kind, N := rfl, nd := S.nd, calm := rfl, xe := rfl, top := fun _ => rfl, blk := fun z => nomatch z
          units := by have := hroom.un; show (A.deeper _).units + 65 < cLine; omega
          blt := fun y hy => He.free_ok X G (c.facts (p.blt y hy))
          gc := hc
          fns := fun f y hy => by
            obtain ⟨d2, r2, fd2, a2⟩ := at_of p c hy
            obtain ⟨bi2, _⟩ := a2.facts p
            exact ⟨k, He.ga K y, fd2, _, He.glo_ok X G (c.facts (p.ok f y d2 r2 hy a2.df a2.rw).2.2), a2.fun_.kp, bi2, hroom, ih f y d2 r2 fd2 a2⟩ }
      have sb := sndB r.t.body Xc _ d.body cx hchk
      have en : EnR K (ds.map Sl.val ++ List.replicate (r.t.n - r.t.np) Sl.un) (start r.N vs) w0 := by
        have := start_en (N := r.N) R (by rw [hl]; exact hle)
        rw [hn, hl] at this
        exact this
      refine ⟨WXs Xc d.body, (pss_wxs Xc d.body).nox, ?_⟩
      refine sb _ g rr eb w0 ok (start r.N vs) w0 ⟨⟨ok, en, G0⟩, Ext.refl _, fun j ms a' h1 _ => absurd h1 start_noown⟩ _ ?_
      rcases hr with ⟨E', rfl⟩ | ⟨E', rfl, rfl⟩
      · exact fun v w' o x2 g2 rv => post v w' o x2 g2 rv
      · exact fun σ' w' R' _ => post .non w' R'.rr.ok R'.ext R'.rr.g .non
/-- THE LAW: what runN tells of the law's def is what its call gives -/
theorem law_of (p : PrgB fa fn F Ds rows Cn) (X : K.In h) (G : h.Ns mainGlobals mg) (c : He.SaysD fa fn K) (hc : ∀ (j : Nat) (x : Str) (d : D), Cn[j]? = some x → Γ[j]? = some d → CstOk K mg x d) {k L : Nat} {x : Str} (hx : F[L]? = some x)
    {r : Row} (hr : rows[L]? = some r) (h1 : r.N.take r.t.np = [("script" : Str)]) (hrun : ∀ ns : List Int, ns.length ≤ 63 → ∃ g', runN (rows.map (·.t)) Γ k L [.fro (ns.map .int)] [] = some (.bl true, g')) :
    ∃ (fd : FuncData) (sp : Sp), (∀ (s : Shared) (u : Value), BindsTo s fd ⟨[u], []⟩ [("script", u)]) ∧
        (∀ (H : Hp) (a : Addr) (ns : List Int), ns.length ≤ 63 → Only H → SqL K H a (ns.map V.int) → sp [.ref a] H (fun v _ => v = .bl true) fun _ _ _ => False) ∧
        ∀ base : Heap, K.In base → base.Ns mainGlobals mg → FnOk P w K mg base CX0 k (He.ga K x) fd ["script"] sp := by
  obtain ⟨d, r', fd, a⟩ := at_of p c hx
  have : r' = r := by have := a.rw; rw [hr] at this; exact (Option.some.inj this).symm
  subst this
  refine ⟨fd, spC K (runN (rows.map (·.t)) Γ k) L, fun s u => ?_, fun H ad ns hl only hs => ?_, fun base hK hB => ?_⟩
  rotate_left 2
  · have F1 := fn_all (P := P) (w := w) (base := base) p hK hB c hc k L x d r' fd a
    rw [h1] at F1
    exact F1
  · obtain ⟨hb, _⟩ := p.ok L x d r' hx a.df a.rw
    unfold defB at hb
    obtain ⟨_, hb⟩ := ba hb
    obtain ⟨_, hb⟩ := ba hb
    obtain ⟨_, hb⟩ := ba hb
    obtain ⟨b4, _⟩ := ba hb
    unfold argB at b4
    obtain ⟨a1, b4⟩ := ba b4
    obtain ⟨a2, b4⟩ := ba b4
    obtain ⟨a3, b4⟩ := ba b4
    obtain ⟨a4, b4⟩ := ba b4
    obtain ⟨a5, a6⟩ := ba b4
    have := a.fun_.bindsA (ps := ["script"]) (fun kV doc pm an cdv ct us hl => by
      have := bind_plain (fd := PySem.W.fnOf d.name d.qual d.params d.body d.scope .none kV doc pm an cdv ct) (ps := r'.N.take r'.t.np) (us := us) (List.isEmpty_iff.mp a1) (List.isEmpty_iff.mp a2) (Option.isNone_iff_eq_none.mp a3) (Option.isNone_iff_eq_none.mp a4) (of_decide_eq_true a5) (of_decide_eq_true a6) rfl (by rw [h1]; exact hl)
      rw [h1] at this
      exact this) s [u] rfl
    exact this
  · obtain ⟨g', e⟩ := hrun ns hl
    refine ⟨⟨H, fun _ => False, []⟩, [.fro (ns.map .int)], [], .bl true, g', rfl, ⟨fun b hb => (by cases hb), fun b hb => False.elim hb⟩, ⟨rfl, .nil, fun n b ms h1 => (by simp at h1)⟩, .cons (.fro ?_ (reps_ints ns)) .nil, e, fun v w' _ _ _ rv => (by cases rv; rfl)⟩
    rcases hs with (hs | ⟨o, hs⟩) | hs
    · rcases only ad with q | ⟨o, xs, q⟩
      · rw [hs] at q; cases q
      · rw [hs] at q; cases q
    · exact .inl ⟨fun z => z, o, hs⟩
    · exact .inr fun _ => .inr hs
end

section
variable {fa : List He.Fa} {fn : List He.DefD} {F bn Cn : List Str} {Ds : List He.DefD} {rows : List Row} {fx : List He.Fa}
/-- a program's rows, looked at at once -/
theorem prg_of (h1 : Ds.length = F.length) (h2 : rows.length = F.length) (h : ((F.zip (Ds.zip rows)).all fun q => defB F Cn q.1 q.2.1 q.2.2) = true) (hb : (bltAll.all fun x => bn.contains x) = true) :
    PrgB (F.map He.Fa.glo ++ bn.map He.Fa.free ++ fx) Ds F Ds rows Cn := by
  refine ⟨h1, h2, fun i x d r e1 e2 e3 => ⟨?_, List.mem_of_getElem? e2, ?_⟩, fun x hx => ?_⟩
  · have hm : (F.zip (Ds.zip rows))[i]? = some (x, d, r) := by
      rw [List.getElem?_zip_eq_some]
      exact ⟨e1, by rw [List.getElem?_zip_eq_some]; exact ⟨e2, e3⟩⟩
    exact List.all_eq_true.mp h _ (List.mem_of_getElem? hm)
  · exact List.mem_append_left _ (List.mem_append_left _ (List.mem_map.mpr ⟨x, List.mem_of_getElem? e1, rfl⟩))
  · have := List.all_eq_true.mp hb x hx
    exact List.mem_append_left _ (List.mem_append_right _ (List.mem_map.mpr ⟨x, by simpa using this, rfl⟩))
end
section
variable {K : PySem.W.Frag} {mg : Str → Option Value} {h : Heap} {fa : List He.Fa} {fn : List He.DefD}
theorem cst_int (X : K.In h) (G : h.Ns mainGlobals mg) {x : Str} {i : Int} (c : (He.Fa.int x i).ok K = true) : CstOk K mg x (.int i) := by
  obtain ⟨t, e⟩ := He.int_ok X G c
  exact ⟨_, .int i, e, ⟨t, rfl⟩, fun _ => .int i⟩
theorem cst_str (X : K.In h) (G : h.Ns mainGlobals mg) {x z : Str} (c : (He.Fa.str x z).ok K = true) : CstOk K mg x (.str z) := by
  obtain ⟨t, e⟩ := He.str_ok X G c
  exact ⟨_, .str z, e, ⟨t, rfl⟩, fun _ => .str z⟩
def dvD : He.Dv → Option D
  | .non => some .non
  | .bl b => some (.bl b)
  | .int i => some (.int i)
  | .str x => some (.str x)
  | _ => none
def dvDs : List He.Dv → Option (List D)
  | [] => some []
  | v :: vs => match dvD v, dvDs vs with
    | some d, some ds => some (d :: ds)
    | _, _ => none
theorem dvDs_rep {w : Wd} : ∀ (vs : List He.Dv) (ds : List D), dvDs vs = some ds → Reps K w (vs.map (He.Dv.v K)) ds
  | [], ds, e => by cases e; exact .nil
  | v :: vs, ds, e => by
    unfold dvDs at e
    cases q : dvD v with
    | none => rw [q] at e; cases e
    | some d =>
      cases q2 : dvDs vs with
      | none => rw [q, q2] at e; cases e
      | some ds2 =>
        rw [q, q2] at e
        cases e
        refine .cons ?_ (dvDs_rep vs ds2 q2)
        cases v <;> cases q
        · exact .non
        · exact .bl _
        · exact .int _
        · exact .str _
theorem cst_tup (X : K.In h) (G : h.Ns mainGlobals mg) {x : Str} (c : (He.Fa.glo x).ok K = true) {vs : List He.Dv} (hb : He.tupB K x vs = true) {ds : List D} (e : dvDs vs = some ds) : CstOk K mg x (.tup ds) :=
  ⟨_, .ref (He.ga K x), He.glo_ok X G c, rfl, fun _ => .tup (.inr fun H => He.tupB_ok hb H) (dvDs_rep vs ds e)⟩
end
end DP

set_option linter.all false
set_option Elab.async false
/-! DNum: numbers: how large they are, fractions, the two ways to the common divisor. By an AI agent. -/
namespace DP
open PySem

/-! ### bits -/
def Bd (n : Nat) (i : Int) : Prop := i.natAbs < 2 ^ n
theorem two_pow_le {a b : Nat} (h : a ≤ b) : 2 ^ a ≤ 2 ^ b := Nat.pow_le_pow_right (by decide) h
theorem Bd.mono {a b : Nat} {i : Int} (h : Bd a i) (l : a ≤ b) : Bd b i := Nat.lt_of_lt_of_le h (two_pow_le l)
theorem Bd.neg {a : Nat} {i : Int} (h : Bd a i) : Bd a (-i) := by unfold Bd at *; rwa [Int.natAbs_neg]
theorem Bd.add {a b : Nat} {i j : Int} (h : Bd a i) (k : Bd b j) : Bd (max a b + 1) (i + j) := by
  have h' := h.mono (Nat.le_max_left a b)
  have k' := k.mono (Nat.le_max_right a b)
  unfold Bd at *
  have := Int.natAbs_add_le i j
  rw [Nat.pow_succ]
  omega
theorem Bd.sub {a b : Nat} {i j : Int} (h : Bd a i) (k : Bd b j) : Bd (max a b + 1) (i - j) := by
  rw [Int.sub_eq_add_neg]; exact h.add k.neg
theorem Bd.mul {a b : Nat} {i j : Int} (h : Bd a i) (k : Bd b j) : Bd (a + b) (i * j) := by
  unfold Bd at *
  rw [Int.natAbs_mul, Nat.pow_add]
  exact Nat.mul_lt_mul'' h k
theorem Bd.le {a : Nat} {i j : Int} (h : Bd a j) (l : i.natAbs ≤ j.natAbs) : Bd a i := Nat.lt_of_le_of_lt l h
theorem Bd.ediv {a : Nat} {i j : Int} (h : Bd a i) : Bd a (i / j) := by
  refine Nat.lt_of_le_of_lt ?_ h
  exact Int.natAbs_ediv_le_natAbs i j
theorem Bd.emod {a : Nat} {i j : Int} (h : Bd a j) (hj : 0 < j) : Bd a (i % j) := by
  have h1 := Int.emod_nonneg i (show j ≠ 0 by omega)
  have h2 := Int.emod_lt_of_pos i hj
  unfold Bd at *
  omega
theorem Bd.nat {a n : Nat} (h : n < 2 ^ a) : Bd a (n : Int) := h
theorem Bd.log {a : Nat} {i : Int} (h : Bd a i) : i.natAbs.log2 ≤ a := by
  by_cases z : i.natAbs = 0
  · rw [z]; exact Nat.zero_le _
  · exact Nat.le_of_lt ((Nat.log2_lt z).mpr h)

/-! ### operations -/
@[simp] theorem op2_add (i j : Int) : op2 .add (.int i) (.int j) = some (.int (i + j)) := rfl
@[simp] theorem op2_sub (i j : Int) : op2 .sub (.int i) (.int j) = some (.int (i - j)) := rfl
theorem op2_mul {a b : Nat} {i j : Int} (h : Bd a i) (k : Bd b j) (hab : a + b < 1000000) : op2 .mul (.int i) (.int j) = some (.int (i * j)) := by
  have h1 := h.log
  have h2 := k.log
  show (opI .mul i j).map D.int = _
  unfold opI
  simp only
  rw [if_pos (by omega)]
  rfl
theorem op2_fdiv {b : Nat} {i j : Int} (hj : 0 < j) (k : Bd b j) (hb : b ≤ 9000) : op2 .fdiv (.int i) (.int j) = some (.int (i / j)) := by
  have h2 : j.natAbs.log2 < b := (Nat.log2_lt (by omega)).mpr k
  show (opI .fdiv i j).map D.int = _
  unfold opI
  simp only
  rw [if_pos ⟨hj, by omega⟩]
  rfl
theorem op2_mod {i j : Int} (hj : 0 < j) : op2 .mod (.int i) (.int j) = some (.int (i % j)) := by
  show (opI .mod i j).map D.int = _
  unfold opI
  simp only
  rw [if_pos hj]
  rfl
@[simp] theorem eqD_int (i j : Int) : eqD (.int i) (.int j) = some (i == j) := rfl
@[simp] theorem cmpD_lt (i j : Int) : cmpD .lt (.int i) (.int j) = some (decide (i < j)) := rfl
@[simp] theorem cmpD_le (i j : Int) : cmpD .le (.int i) (.int j) = some (decide (i ≤ j)) := rfl
@[simp] theorem cmpD_gt (i j : Int) : cmpD .gt (.int i) (.int j) = some (decide (j < i)) := rfl
@[simp] theorem cmpD_ge (i j : Int) : cmpD .ge (.int i) (.int j) = some (decide (j ≤ i)) := rfl
@[simp] theorem cmpD_eq (i j : Int) : cmpD .eq (.int i) (.int j) = some (i == j) := rfl
@[simp] theorem cmpD_ne (i j : Int) : cmpD .ne (.int i) (.int j) = some (!(i == j)) := rfl
@[simp] theorem tru_bl (b : Bool) : tru (.bl b) = some b := rfl

/-! ### fractions -/
def rt (x : Rat) : D := .tup [.int x.num, .int (x.den : Int)]
structure Z (n : Nat) (x : Rat) : Prop where
  num : Bd n x.num
  den : Bd n (x.den : Int)
theorem Z.mono {a b : Nat} {x : Rat} (h : Z a x) (l : a ≤ b) : Z b x := ⟨h.num.mono l, h.den.mono l⟩
theorem den_pos (x : Rat) : 0 < (x.den : Int) := by have := x.den_pos; omega
theorem divInt_Z {p q : Int} {n : Nat} (hp : Bd n p) (hq : Bd n q) (hn : 0 < n) : Z n (Rat.divInt p q) := by
  constructor
  · rw [Rat.num_divInt]
    refine Bd.ediv (Bd.le hp ?_)
    rw [Int.natAbs_mul]
    have : q.sign.natAbs ≤ 1 := by
      rcases Int.lt_trichotomy q 0 with h | h | h
      · rw [Int.sign_eq_neg_one_of_neg h]; decide
      · subst h; decide
      · rw [Int.sign_eq_one_of_pos h]; decide
    calc q.sign.natAbs * p.natAbs ≤ 1 * p.natAbs := Nat.mul_le_mul_right _ this
      _ = _ := Nat.one_mul _
  · rw [Rat.den_divInt]
    split
    · show (1 : Nat) < 2 ^ n
      exact Nat.one_lt_two_pow (by omega)
    · show q.natAbs / _ < 2 ^ n
      exact Nat.lt_of_le_of_lt (Nat.div_le_self _ _) hq
theorem rt_divInt {p q : Int} (hq : 0 < q) : rt (Rat.divInt p q) = .tup [.int (p / (Int.gcd p q : Int)), .int (q / (Int.gcd p q : Int))] := by
  unfold rt
  rw [Rat.num_divInt, Rat.den_divInt, if_neg (by omega), Int.sign_eq_one_of_pos hq, Int.one_mul, Int.gcd_comm]
  have : ((q.natAbs / p.gcd q : Nat) : Int) = q / (p.gcd q : Int) := by
    rw [Int.natCast_ediv]
    congr 1
    omega
  rw [this]
theorem divInt_num (p : Int) (q : Int) (hq : 0 < q) (x : Rat) (h : x = Rat.divInt p q) : x.num * q = p * x.den := by
  subst h
  have := Rat.num_divInt_den (Rat.divInt p q)
  have h2 := (Rat.divInt_eq_divInt_iff (z₁ := by have := den_pos (Rat.divInt p q); omega) (z₂ := show q ≠ 0 by omega)).mp this
  exact h2
theorem add_divInt (s t : Rat) : s + t = Rat.divInt (s.num * t.den + t.num * s.den) (s.den * t.den) := by
  rw [Rat.add_def', ← Rat.divInt_ofNat]
  simp
theorem mul_divInt (s t : Rat) : s * t = Rat.divInt (s.num * t.num) (s.den * t.den) := by
  rw [Rat.mul_def', ← Rat.divInt_ofNat]
  simp
theorem div_divInt (s t : Rat) : s / t = Rat.divInt (s.num * t.den) (s.den * t.num) := by
  rw [Rat.div_def, Rat.inv_def]
  conv => lhs; rw [← Rat.num_divInt_den s]
  rw [Rat.divInt_mul_divInt]
theorem Z.add {a b : Nat} {s t : Rat} (h : Z a s) (k : Z b t) : Z (a + b + 1) (s + t) := by
  rw [add_divInt]
  refine divInt_Z ?_ ((h.den.mul k.den).mono (by omega)) (by omega)
  have h1 := h.num.mul k.den
  have h2 := k.num.mul h.den
  exact (h1.add h2).mono (by omega)
theorem Z.mul {a b : Nat} {s t : Rat} (h : Z a s) (k : Z b t) (hp : 0 < a + b) : Z (a + b) (s * t) := by
  rw [mul_divInt]
  exact divInt_Z (h.num.mul k.num) (h.den.mul k.den) hp
theorem Z.div {a b : Nat} {s t : Rat} (h : Z a s) (k : Z b t) (hp : 0 < a + b) : Z (a + b) (s / t) := by
  rw [div_divInt]
  exact divInt_Z (h.num.mul k.den) (h.den.mul k.num) hp
theorem Z.neg {a : Nat} {s : Rat} (h : Z a s) : Z a (-s) := ⟨h.num.neg, h.den⟩
theorem Z.int {a : Nat} {i : Int} (h : Bd a i) (ha : 0 < a) : Z a (i : Rat) := ⟨h, Nat.one_lt_two_pow (by omega)⟩
theorem lt_cross (s t : Rat) : (s.num * t.den - t.num * s.den < 0) ↔ s < t := by
  rw [Rat.lt_iff]; omega
theorem le_cross (s t : Rat) : (s.num * t.den ≤ t.num * s.den) ↔ s ≤ t := (Rat.le_iff s t).symm

/-! ### the common divisor -/
theorem gcd_mod (p q : Int) : Int.gcd (p % q) q = Int.gcd p q := by
  have h := Int.emod_add_mul_ediv p q
  rw [Int.gcd_comm (p % q), Int.gcd_comm p]
  conv => rhs; rw [← h]
  rw [Int.gcd_add_mul_left_right]
theorem gd_while {c : En → Gs → Option (Bool × Gs)} {body : En → Gs → Option (Fl × En × Gs)} {g : Gs}
    (hc : ∀ p q, c [.val (.int p), .val (.int q)] g = some (!(q == 0), g)) (hb : ∀ p q, 0 < q → body [.val (.int p), .val (.int q)] g = some (.nx, [.val (.int q), .val (.int (p % q))], g)) :
    ∀ (m : Nat) (p q : Int), 0 ≤ q → q < m → ∃ p' : Int, whileRun c body m [.val (.int p), .val (.int q)] g = some (.nx, [.val (.int p'), .val (.int 0)], g) ∧ p'.natAbs = Int.gcd p q := by
  intro m
  induction m with
  | zero => intro p q h1 h2; omega
  | succ m ih =>
    intro p q h1 h2
    rw [whileRun, hc]
    by_cases z : q = 0
    · subst z
      exact ⟨p, rfl, by rw [Int.gcd_zero_right]⟩
    · have e : (!(q == 0)) = true := by simpa using z
      rw [e]
      simp only
      rw [hb p q (by omega)]
      simp only
      obtain ⟨p', e1, e2⟩ := ih q (p % q) (Int.emod_nonneg p z) (by have := Int.emod_lt_of_pos p (show 0 < q by omega); omega)
      refine ⟨p', e1, ?_⟩
      rw [e2, Int.gcd_comm q, gcd_mod p q]
theorem gd_half (a b : Nat) (ha : 0 < a) (hc : 0 < b % a) : a % (b % a) < (a + 1) / 2 := by
  have h1 : a % (b % a) < b % a := Nat.mod_lt _ hc
  have h3 := Nat.div_add_mod a (b % a)
  rcases Nat.eq_zero_or_pos (a / (b % a)) with z | z
  · exfalso
    rw [z] at h3
    have : b % a < a := Nat.mod_lt _ ha
    omega
  · have : (b % a) * 1 ≤ (b % a) * (a / (b % a)) := Nat.mul_le_mul_left _ z
    omega
/-- Euclid's way, turn by turn: a, b = b % a, a -/
theorem gd_for {t : IT} {body : En → Gs → Option (Fl × En × Gs)} {g : Gs} {mk : Int → Int → En} {mk' : D → Int → Int → En} (hbind : ∀ d a b, bindT t d (mk a b) = some (mk' d a b)) (hbind' : ∀ d d' a b, bindT t d (mk' d' a b) = some (mk' d a b))
    (hbk : ∀ d b, body (mk' d 0 b) g = some (.bk, mk' d 0 b, g)) (hnx : ∀ d a b, 0 < a → body (mk' d a b) g = some (.nx, mk' d (b % a) a, g)) :
    ∀ (n : Nat) (a b : Int) (d0 : D) (ds : List D), 0 ≤ a → a < 2 ^ n → 0 ≤ b → 2 * n + 1 ≤ ds.length → ∃ d, loopRun t body ds (mk' d0 a b) g = some (.nx, mk' d 0 (Int.gcd a b), g) := by
  intro n
  induction n with
  | zero =>
    intro a b d0 ds h1 h2 h3 h4
    have : a = 0 := by simp at h2; omega
    subst this
    match ds, h4 with
    | d :: ds, _ =>
      rw [loopRun, hbind']
      simp only
      rw [hbk]
      refine ⟨d, ?_⟩
      simp only
      have : ((Int.gcd 0 b : Nat) : Int) = b := by rw [Int.gcd_zero_left]; omega
      rw [this]
  | succ n ih =>
    intro a b d0 ds h1 h2 h3 h4
    match ds, h4 with
    | d :: d2 :: ds, h4 =>
      by_cases z : a = 0
      · subst z
        rw [loopRun, hbind']
        simp only
        rw [hbk]
        refine ⟨d, ?_⟩
        simp only
        have : ((Int.gcd 0 b : Nat) : Int) = b := by rw [Int.gcd_zero_left]; omega
        rw [this]
      · have pa : 0 < a := by omega
        rw [loopRun, hbind']
        simp only
        rw [hnx d a b pa]
        simp only
        have e1 : Int.gcd a b = Int.gcd (b % a) a := by rw [gcd_mod, Int.gcd_comm]
        have n1 := Int.emod_nonneg b z
        by_cases y : b % a = 0
        · rw [y, loopRun, hbind']
          simp only
          rw [hbk]
          refine ⟨d2, ?_⟩
          simp only
          have : ((Int.gcd a b : Nat) : Int) = a := by rw [e1, y, Int.gcd_zero_left]; omega
          rw [this]
        · rw [loopRun, hbind']
          simp only
          rw [hnx d2 (b % a) a (by omega)]
          simp only
          have e2 : Int.gcd a b = Int.gcd (a % (b % a)) (b % a) := by rw [gcd_mod a (b % a), Int.gcd_comm a (b % a)]; exact e1
          rw [e2]
          refine ih (a % (b % a)) (b % a) d2 ds (Int.emod_nonneg _ y) ?_ n1 (by simp at h4; omega)
          obtain ⟨a', rfl⟩ := Int.eq_ofNat_of_zero_le h1
          obtain ⟨b', rfl⟩ := Int.eq_ofNat_of_zero_le h3
          have := gd_half a' b' (by omega) (by omega)
          rw [Int.pow_succ] at h2
          have e3 : ((a' : Int) % ((b' : Int) % (a' : Int))) = ((a' % (b' % a') : Nat) : Int) := by rw [← Int.natCast_emod, ← Int.natCast_emod]
          rw [e3]
          omega
end DP
namespace DP
/-! ### places, rows -/
theorem atI_nat {xs : List D} {n : Nat} {d : D} (h : xs[n]? = some d) : atI xs (n : Int) = some d := by
  have hl : n < xs.length := (List.getElem?_eq_some_iff.mp h).1
  unfold atI ixN
  rw [if_pos (by omega), if_pos (by omega)]
  simpa using h
theorem at0 {a : D} {l : List D} : atI (a :: l) 0 = some a := atI_nat (n := 0) rfl
theorem at1 {a b : D} {l : List D} : atI (a :: b :: l) 1 = some b := atI_nat (n := 1) rfl
theorem at2 {a b c : D} {l : List D} : atI (a :: b :: c :: l) 2 = some c := atI_nat (n := 2) rfl
theorem at3 {a b c d : D} {l : List D} : atI (a :: b :: c :: d :: l) 3 = some d := atI_nat (n := 3) rfl
theorem at4 {a b c d e : D} {l : List D} : atI (a :: b :: c :: d :: e :: l) 4 = some e := atI_nat (n := 4) rfl
theorem at5 {a b c d e f : D} {l : List D} : atI (a :: b :: c :: d :: e :: f :: l) 5 = some f := atI_nat (n := 5) rfl
theorem at6 {a b c d e f h : D} {l : List D} : atI (a :: b :: c :: d :: e :: f :: h :: l) 6 = some h := atI_nat (n := 6) rfl
theorem at7 {a b c d e f h i : D} {l : List D} : atI (a :: b :: c :: d :: e :: f :: h :: i :: l) 7 = some i := atI_nat (n := 7) rfl
theorem at8 {a b c d e f h i j : D} {l : List D} : atI (a :: b :: c :: d :: e :: f :: h :: i :: j :: l) 8 = some j := atI_nat (n := 8) rfl
theorem row0 {lo : Int} : intRow lo 0 = [] := rfl
theorem row1 : intRow 0 1 = [.int 0] := rfl
theorem row2 : intRow 0 2 = [.int 0, .int 1] := rfl
theorem row3 : intRow 0 3 = [.int 0, .int 1, .int 2] := rfl
theorem row4 : intRow 0 4 = [.int 0, .int 1, .int 2, .int 3] := rfl
theorem intRow_length (lo : Int) (n : Nat) : (intRow lo n).length = n := by unfold intRow; simp
theorem lineB_val : lineB = 16777216 := rfl
/-- the first turn sets the target, whatever stood there -/
theorem loop_start {t : IT} {body : En → Gs → Option (Fl × En × Gs)} {ds : List D} {E E' : En} {g : Gs} (h : ∀ d, bindT t d E = bindT t d E') (hl : 0 < ds.length) : loopRun t body ds E g = loopRun t body ds E' g := by
  match ds, hl with
  | d :: ds, _ => rw [loopRun, loopRun, h]

/-! ### pairs of numbers -/
def pr (p q : Int) : D := .tup [.int p, .int q]
theorem rt_pr (x : Rat) : rt x = pr x.num x.den := rfl
theorem floor_div {p q : Int} (hq : 0 < q) : p / q = (Rat.divInt p q).floor := by
  rw [Rat.floor_def]
  have h := divInt_num p q hq _ rfl
  have hd := den_pos (Rat.divInt p q)
  have e1 : p / q = (p * (Rat.divInt p q).den) / (q * (Rat.divInt p q).den) := (Int.mul_ediv_mul_of_pos_left p q hd).symm
  rw [e1, ← h, Int.mul_comm q, Int.mul_ediv_mul_of_pos_left _ _ hq]
end DP
namespace DP
theorem items_tup {g : Gs} (xs : List D) : items g (.tup xs) = some xs := rfl
theorem items_lst {g : Gs} (xs : List D) : items g (.lst xs) = some xs := rfl
theorem items_fro {g : Gs} (xs : List D) : items g (.fro xs) = some xs := rfl
theorem items_ref {g : Gs} (n : Nat) : items g (.ref n) = g[n]? := rfl
theorem items_rt {g : Gs} (x : Rat) : items g (rt x) = some [.int x.num, .int x.den] := rfl
theorem still_tup (xs : List D) : DP.still (.tup xs) = some xs := rfl
theorem still_lst (xs : List D) : DP.still (.lst xs) = some xs := rfl
theorem still_fro (xs : List D) : DP.still (.fro xs) = some xs := rfl
end DP

set_option linter.all false
set_option Elab.async false
/-! DLoop: loops and comprehensions by their invariants. By an AI agent. -/
namespace DP
open PySem
/-- a for loop by an invariant of what is left -/
theorem loop_inv {t : IT} {body : En → Gs → Option (Fl × En × Gs)} (I : List D → En → Gs → Prop)
    (step : ∀ d ds E g, I (d :: ds) E g → ∃ E1 fl E2 g2, bindT t d E = some E1 ∧ body E1 g = some (fl, E2, g2) ∧ (fl = .nx ∨ fl = .ct) ∧ I ds E2 g2) :
    ∀ (ds : List D) (E : En) (g : Gs), I ds E g → ∃ E' g', loopRun t body ds E g = some (.nx, E', g') ∧ I [] E' g'
  | [], E, g, h => ⟨E, g, rfl, h⟩
  | d :: ds, E, g, h => by
    obtain ⟨E1, fl, E2, g2, e1, e2, hf, h2⟩ := step d ds E g h
    obtain ⟨E', g', e3, h3⟩ := loop_inv I step ds E2 g2 h2
    refine ⟨E', g', ?_, h3⟩
    rw [loopRun, e1]
    simp only
    rw [e2]
    rcases hf with rfl | rfl <;> exact e3
/-- a comprehension whose parts change nothing -/
theorem lc_map {own : List Nat} {t : IT} {elt : En → Gs → Option (D × Gs)} {E : En} {g : Gs} (f : D → D) : ∀ (ds : List D), (∀ d ∈ ds, ∃ E1, bindT t d (wipeE E own) = some E1 ∧ elt E1 g = some (f d, g)) → lcRun own t (fun _ g => some (true, g)) elt E ds g = some (ds.map f, g)
  | [], _ => rfl
  | d :: ds, h => by
    obtain ⟨E1, e1, e2⟩ := h d List.mem_cons_self
    rw [lcRun, e1]
    simp only
    rw [e2]
    simp only
    rw [lc_map f ds fun x hx => h x (List.mem_cons_of_mem _ hx)]
    rfl
theorem lc_filter {own : List Nat} {t : IT} {cond : En → Gs → Option (Bool × Gs)} {elt : En → Gs → Option (D × Gs)} {E : En} {g : Gs} (p : D → Bool) (f : D → D) : ∀ (ds : List D),
    (∀ d ∈ ds, ∃ E1, bindT t d (wipeE E own) = some E1 ∧ cond E1 g = some (p d, g) ∧ (p d = true → elt E1 g = some (f d, g))) → lcRun own t cond elt E ds g = some ((ds.filter p).map f, g)
  | [], _ => rfl
  | d :: ds, h => by
    obtain ⟨E1, e1, e2, e3⟩ := h d List.mem_cons_self
    rw [lcRun, e1]
    simp only
    rw [e2]
    cases hp : p d with
    | false =>
      simp only
      rw [lc_filter p f ds fun x hx => h x (List.mem_cons_of_mem _ hx), List.filter_cons_of_neg (by simp [hp])]
    | true =>
      simp only
      rw [e3 hp]
      simp only
      rw [lc_filter p f ds fun x hx => h x (List.mem_cons_of_mem _ hx), List.filter_cons_of_pos hp]
      rfl
theorem intRow_map (n : Nat) : intRow 0 n = (List.range n).map fun k => .int (k : Int) := by
  unfold intRow
  refine List.map_congr_left fun k _ => ?_
  rw [Int.zero_add]
theorem intsOf_map : ∀ ns : List Int, intsOf (ns.map .int) = some ns
  | [] => rfl
  | n :: ns => by rw [List.map_cons, intsOf, intsOf_map ns]; rfl
/-- the largest -/
structure Mx (S : Int → Prop) (v : Int) : Prop where
  has : S v
  top : ∀ u, S u → u ≤ v
theorem Mx.eq {S : Int → Prop} {u v : Int} (h : Mx S u) (k : Mx S v) : u = v := Int.le_antisymm (k.top u h.has) (h.top v k.has)
theorem Mx.iff {S S' : Int → Prop} {v : Int} (h : Mx S v) (e : ∀ u, S u ↔ S' u) : Mx S' v := ⟨(e v).mp h.has, fun u hu => h.top u ((e u).mpr hu)⟩
theorem foldl_max_mx : ∀ (r : List Int) (x : Int), Mx (fun v => v = x ∨ v ∈ r) (r.foldl max x)
  | [], x => ⟨.inl rfl, fun u hu => by rcases hu with h | h; exact Int.le_of_eq h; cases h⟩
  | y :: r, x => by
    have ih := foldl_max_mx r (max x y)
    rw [List.foldl_cons]
    refine ⟨?_, fun u hu => ?_⟩
    · rcases ih.has with h | h
      · rcases Int.le_total x y with q | q
        · rw [h, Int.max_eq_right q]; exact .inr List.mem_cons_self
        · rw [h, Int.max_eq_left q]; exact .inl rfl
      · exact .inr (List.mem_cons_of_mem _ h)
    · have h0 := ih.top (max x y) (.inl rfl)
      rcases hu with h | h
      · omega
      · rcases List.mem_cons.mp h with h | h
        · omega
        · exact ih.top u (.inr h)
theorem maxI_mx {ns : List Int} (h : ns ≠ []) : ∃ v, maxI ns = some v ∧ Mx (fun u => u ∈ ns) v := by
  match ns, h with
  | x :: r, _ => exact ⟨_, rfl, (foldl_max_mx r x).iff fun u => by simp⟩
end DP
namespace DP
theorem evI_seq {C : Cf} {Γ : List D} {a : IO} {E : En} {g g1 : Gs} {x : D} {xs : List D} (h : evS C Γ a E g = some (x, g1)) (h2 : DP.still x = some xs) : evI C Γ (.seq a) E g = some (xs, g1) := by
  rw [evI, h]
  simp only [h2]
theorem still_rng (n : Nat) (h : n ≤ 1000) : DP.still (.rng 0 (n : Int)) = some (intRow 0 n) := by
  have h' : -(2 ^ 62) ≤ (0 : Int) ∧ (0 : Int) < 2 ^ 62 ∧ -(2 ^ 62) ≤ (n : Int) ∧ (n : Int) < 2 ^ 62 := by omega
  have e : ((n : Int) - 0).toNat = n := by omega
  unfold DP.still
  simp only [if_pos h', e]
end DP
namespace DP
section
variable {C : Cf} {Γ : List D} {E : En} {g g1 g2 : Gs} {xs ys : List D} {own : List Nat} {t : IT} {it : II} {elt : IE} {cond : IC}
theorem evE_lcA (h : evI C Γ it E g = some (xs, g1)) (hl : xs.length < lineB) (h2 : lcRun own t (fun _ g => some (true, g)) (evE C Γ elt) E xs g1 = some (ys, g2)) : evE C Γ (.lcA own t it elt) E g = some (.lst ys, g2) := by
  rw [evE, h]
  simp only [if_pos hl, h2]
theorem evE_lc (h : evI C Γ it E g = some (xs, g1)) (hl : xs.length < lineB) (h2 : lcRun own t (evT C Γ cond) (evE C Γ elt) E xs g1 = some (ys, g2)) : evE C Γ (.lc own t it cond elt) E g = some (.lst ys, g2) := by
  rw [evE, h]
  simp only [if_pos hl, h2]
theorem evE_tupOf {a : IE} (h : evE C Γ a E g = some (.lst ys, g2)) : evE C Γ (.toTup (.e a)) E g = some (.tup ys, g2) := by
  rw [evE, evS, h]
theorem evI_range1 {a : IE} {n : Nat} (h : evE C Γ a E g = some (.int (n : Int), g1)) (hn : n ≤ 1000) : evI C Γ (.range1 a) E g = some (intRow 0 n, g1) := by
  have h' : -(2 ^ 62) ≤ (n : Int) ∧ (n : Int) < 2 ^ 62 := by omega
  have e : ((n : Int)).toNat = n := by omega
  rw [evI, h]
  simp only [if_pos h', e]
theorem evX_loop {b : IB} {r : Option (Fl × En × Gs)} (h : evI C Γ it E g = some (xs, g1)) (h2 : loopRun t (evB C Γ b) xs E g1 = r) : evX C Γ (.loop t it b) E g = r := by
  rw [evX, h]
  exact h2
theorem evX_app {i : Nat} {e : IE} {d : D} {ms : List D} (h : evE C Γ e E g = some (d, g1)) (h2 : E[i]? = some (.own ms)) (hl : ms.length < lineB) : evX C Γ (.app i e) E g = some (.nx, E.set i (.own (ms ++ [d])), g1) := by
  rw [evX, h]
  simp only [h2, if_pos hl]
theorem evX_set {i : Nat} {e : IE} {d : D} (h : evE C Γ e E g = some (d, g1)) (hl : i < E.length) : evX C Γ (.set (.name i) e) E g = some (.nx, E.set i (.val d), g1) := by
  rw [evX, h]
  simp only [bindT, if_pos hl]
theorem evB_cons {s : IS} {b : IB} {E1 : En} (h : evX C Γ s E g = some (.nx, E1, g1)) : evB C Γ (.cons s b) E g = evB C Γ b E1 g1 := by
  rw [evB, h]
theorem evB_ret {e : IE} {b : IB} {d : D} (h : evE C Γ e E g = some (d, g1)) : evB C Γ (.cons (.ret e) b) E g = some (.rt d, E, g1) := by
  rw [evB, evX, h]
end
end DP
namespace DP
theorem loop_cons {t : IT} {body : En → Gs → Option (Fl × En × Gs)} {d : D} {ds : List D} {E E1 E2 : En} {g g2 : Gs} (hb : bindT t d E = some E1) (h : body E1 g = some (.nx, E2, g2)) : loopRun t body (d :: ds) E g = loopRun t body ds E2 g2 := by
  rw [loopRun, hb]
  simp only [h]
theorem loop_nil {t : IT} {body : En → Gs → Option (Fl × En × Gs)} {E : En} {g : Gs} : loopRun t body [] E g = some (.nx, E, g) := rfl
end DP
namespace DP
section
variable {C : Cf} {Γ : List D} {E E1 : En} {g g1 g2 : Gs} {c : IC} {a b : IB} {s : IS}
theorem evX_ifsT (h : evT C Γ c E g = some (true, g1)) : evX C Γ (.ifs c a b) E g = evB C Γ a E g1 := by rw [evX, h]
theorem evX_ifsF (h : evT C Γ c E g = some (false, g1)) : evX C Γ (.ifs c a b) E g = evB C Γ b E g1 := by rw [evX, h]
theorem evB_stop {d : D} (h : evX C Γ s E g = some (.rt d, E1, g1)) : evB C Γ (.cons s b) E g = some (.rt d, E1, g1) := by rw [evB, h]
theorem evB_nil : evB C Γ .nil E g = some (.nx, E, g) := by rw [evB]
/-- an if that is passed by -/
theorem evB_pass (h : evT C Γ c E g = some (false, g1)) : evB C Γ (.cons (.ifs c a .nil) b) E g = evB C Γ b E g1 := evB_cons ((evX_ifsF h).trans evB_nil)
end
end DP

set_option linter.all false
set_option Elab.async false
/-! DSh: data that may be compared. By an AI agent. -/
namespace DP
open PySem
structure Sh (n : Nat) (d : D) (p : PyData) : Prop where
  py : toPy d = some p
  lay : p.canLay0 = true
  dp : p.depth ≤ n
structure Shs (n : Nat) (ds : List D) (ps : List PyData) : Prop where
  py : toPys ds = some ps
  lay : PyData.canLayAll0 ps = true
  dp : PyData.depthAll ps ≤ n
theorem Sh.int {n : Nat} (i : Int) : Sh n (.int i) (.int i) := ⟨by rw [toPy], by rw [PyData.canLay0], by rw [PyData.depth]; omega⟩
theorem Shs.nil {n : Nat} : Shs n [] [] := ⟨by rw [toPys], by rw [PyData.canLayAll0], by rw [PyData.depthAll]; omega⟩
theorem Shs.cons {n : Nat} {d : D} {p : PyData} {ds : List D} {ps : List PyData} (h : Sh n d p) (t : Shs n ds ps) : Shs n (d :: ds) (p :: ps) :=
  ⟨by rw [toPys, h.py, t.py], by rw [PyData.canLayAll0, h.lay, t.lay]; rfl, by have := h.dp; have := t.dp; rw [PyData.depthAll]; omega⟩
theorem Shs.map {α : Type} {n : Nat} (f : α → D) (p : α → PyData) (h : ∀ x, Sh n (f x) (p x)) : ∀ xs : List α, Shs n (xs.map f) (xs.map p)
  | [] => .nil
  | x :: xs => .cons (h x) (Shs.map f p h xs)
theorem Sh.tup {n : Nat} {ds : List D} {ps : List PyData} (h : Shs n ds ps) : Sh (n + 1) (.tup ds) (.tuple ps) := ⟨by rw [toPy, h.py]; rfl, by rw [PyData.canLay0]; exact h.lay, by rw [PyData.depth]; have := h.dp; omega⟩
theorem Sh.lst {n : Nat} {ds : List D} {ps : List PyData} (h : Shs n ds ps) : Sh (n + 1) (.lst ds) (.list ps) := ⟨by rw [toPy, h.py]; rfl, by rw [PyData.canLay0]; exact h.lay, by rw [PyData.depth]; have := h.dp; omega⟩
theorem Sh.shaped {n : Nat} {d : D} {p : PyData} (h : Sh n d p) (hn : n ≤ 64) : SeqAt.shaped p = true := by
  unfold SeqAt.shaped
  rw [h.lay, decide_eq_true (Nat.le_trans h.dp hn)]
  rfl
theorem eqD_sh {n : Nat} {a b : D} {p q : PyData} (h : Sh n a p) (k : Sh n b q) (hn : n ≤ 64) : eqD a b = some (PyData.eqv p q) := by
  unfold eqD
  simp only [h.py, k.py, h.shaped hn, k.shaped hn, Bool.and_self, if_true]
theorem eqD_empty {n : Nat} {ds : List D} {ps : List PyData} (h : Shs n ds ps) (hn : n < 64) : eqD (.lst ds) (.lst []) = some ds.isEmpty := by
  rw [eqD_sh (Sh.lst h) (Sh.lst (Shs.nil (n := n))) (by omega)]
  have hl : ps.length = ds.length := by
    have e := h.py
    clear h
    induction ds generalizing ps with
    | nil => rw [toPys] at e; cases e; rfl
    | cons d ds ih =>
      rw [toPys] at e
      split at e
      · rename_i a as e1 e2
        cases e
        rw [List.length_cons, List.length_cons, ih e2]
      · cases e
  cases ds with
  | nil =>
    have : ps = [] := List.length_eq_zero_iff.mp hl
    subst this
    rw [PyData.eqv, PyData.eqvAll]
    rfl
  | cons d ds =>
    match ps, hl with
    | p :: ps, _ => rw [PyData.eqv, PyData.eqvAll]; rfl
/-- a pair of numbers -/
def ipr (q : Int × Int) : D := .tup [.int q.1, .int q.2]
theorem sh_ipr (q : Int × Int) : Sh 1 (ipr q) (.tuple [.int q.1, .int q.2]) := Sh.tup (.cons (.int _) (.cons (.int _) .nil))
theorem inD_ipr (q : Int × Int) (qs : List (Int × Int)) : inD (ipr q) (.lst (qs.map ipr)) = some (qs.contains q) := by
  have h := sh_ipr q
  have hs : Shs 1 (qs.map ipr) (qs.map fun q => .tuple [.int q.1, .int q.2]) := Shs.map _ _ sh_ipr qs
  unfold inD
  simp only [h.py, hs.py, h.shaped (show 1 ≤ 64 by decide), (Sh.lst hs).shaped (show 1 + 1 ≤ 64 by decide), Bool.and_self, if_true]
  congr 1
  induction qs with
  | nil => rfl
  | cons x xs ih =>
    rw [List.map_cons, List.any_cons, List.contains_cons, ih (Shs.map _ _ sh_ipr xs)]
    congr 1
    rw [PyData.eqv, PyData.eqvAll, PyData.eqvAll, PyData.eqvAll, PyData.eqv, PyData.eqv, Bool.and_true]
    obtain ⟨a, b⟩ := q
    obtain ⟨c, d⟩ := x
    show ((c == a) && (d == b)) = ((a, b) == (c, d))
    rw [Bool.eq_iff_iff]
    simp only [Bool.and_eq_true, beq_iff_eq, Prod.mk.injEq]
    constructor
    · rintro ⟨h1, h2⟩; exact ⟨h1.symm, h2.symm⟩
    · rintro ⟨h1, h2⟩; exact ⟨h1.symm, h2.symm⟩
end DP

set_option Elab.async false
set_option linter.all false
set_option maxRecDepth 100000
set_option maxHeartbeats 0
/-! ### the top: where each def stands, what is known of the names -/
namespace K48
open PySem PySem.Spec PyProof.Rows L2
abbrev theProg : Program := PySem.Challenge.pw_surepilot_k48_whole_late_widths_bound_es
abbrev theLaw : PySem.W.OpenLaw := PySem.Challenge.rw_surepilot_k48_whole_late_widths_bound_es
def top (i : Nat) : Stmt := theProg.main.body.getD i (.Pass ⟨0, 0, 0, 0⟩)
def dD (i : Nat) : He.DefD := match top i with
  | .FunctionDef x a b _ _ _ sc _ _ _ => ⟨(x, none), x, x, a, b, sc, [], []⟩
  | _ => ⟨("", none), "", "", defArgs (top 0), [], defScope (top 0), [], []⟩
def defIx : List Nat := [1, 2, 3, 4, 5, 6, 8, 9, 10, 12, 15, 16, 17, 18, 19, 21, 22, 23, 24, 25, 26, 27, 28, 29, 30, 31, 32, 33, 34, 36, 37, 38, 39, 40, 41, 42, 43, 44, 45, 46, 47, 48, 49, 50, 51, 52, 53, 54, 55, 56, 57, 58, 59, 60, 61, 62, 63, 64]
def defNm : List Str := (["greatest_divisor", "ratio", "added", "times", "over", "compare", "box_times", "rates_of", "beat_box", "sum_of_boxes", "down", "up", "made_whole", "halved_units", "widths_of", "read_pair", "read_pairs", "read_box", "box_hull", "change_boxes", "offset_of", "offsets_of", "gone_on", "met_boxes", "offsets_to", "wider_widths", "failed_widths", "late_widths", "late_worths", "_law_deal"] : List Str) ++ (["_law_take", "_law_same", "_law_ratio", "_law_plus", "_law_mult", "_law_minus", "_law_height", "_law_keeps", "_law_pick", "_law_line", "_law_row_has", "_law_floor", "_law_ceil", "_law_not_above", "_law_plant_of", "_law_edge", "_law_ways", "_law_offset", "_law_offsets", "_law_reads", "_law_failed", "_law_between", "_law_inside", "_law_ahead", "_law_reading", "_law_unit", "_law_all_ways", "law"] : List Str)
def bltNm : List Str := ["abs", "bool", "enumerate", "int", "isinstance", "len", "list", "max", "min", "range", "str", "sum", "tuple", "zip"]
def fn : List He.DefD := defIx.map dD
def fa : List He.Fa := defNm.map He.Fa.glo ++ bltNm.map He.Fa.free ++ [.glo "HALF"]
def ex (K : PySem.W.Frag) : Bool := He.tupB K "HALF" [.int (1), .int (2)]
abbrev R : PySem.W.OpenRow := PySem.W.OpenLaw.row theLaw
abbrev hk : PySem.W.Hook := He.hookX 4 fa fn [] [] ex
def ob (s : PySem.W.SharedT) : He.AlX := He.obsX 4 fa fn [] [] ex (HandSHeadRun.getT s)
theorem ob_eq (s : PySem.W.SharedT) : ob s = hk.obs s.abs := He.obsX_eq (HandSHeadRun.getT_eq s)
def looseN : List Str := (["greatest_divisor", "ratio", "added", "times", "over", "compare", "box_times", "rates_of", "beat_box", "sum_of_boxes", "HALF", "down", "up", "made_whole", "halved_units", "widths_of", "read_pair", "read_pairs", "read_box", "box_hull", "change_boxes", "offset_of", "offsets_of", "gone_on", "met_boxes", "offsets_to", "wider_widths", "failed_widths", "late_widths", "late_worths"] : List Str) ++ (["_law_deal", "_law_take", "_law_same", "_law_ratio", "_law_plus", "_law_mult", "_law_minus", "_law_height", "_law_keeps", "_law_pick", "_law_line", "_law_row_has", "_law_floor", "_law_ceil", "_law_not_above", "_law_plant_of", "_law_edge", "_law_ways", "_law_offset", "_law_offsets", "_law_reads", "_law_failed", "_law_between", "_law_inside", "_law_ahead", "_law_reading", "_law_unit", "_law_all_ways"] : List Str)
theorem run (w : World) : HandSHeadRun.RunEq R (PySem.W.view R.prog [64]) hk ob 4000 looseN w := by
  intro os
  kernel_rfl
def lawIx : Nat := 64
end K48
open PySem PySem.W PySem.Calls PyProof.Rows in
theorem K48.holds_of {k : Nat} (hr : L2.Room k callerA) (F : ∀ (w : World) (mg : Str → Option Value) (fa : Addr) (h : Heap) (K : PySem.W.Frag), K.In h → He.SaysX K48.fa K48.fn [] [] K48.ex w h K → h.Ns mainGlobals mg → mg ("law" : Str) = some (.ref fa) →
      ∃ (fd : FuncData) (sp : L2.Sp), (∀ (s : Shared) (u : Value), BindsTo s fd ⟨[u], []⟩ [("script", u)]) ∧
        (∀ (H : L2.Hp) (a : Addr) (ns : List Int), ns.length ≤ 63 → L2.Only H → L2.SqL K H a (ns.map L2.V.int) → sp [.ref a] H (fun v _ => v = .bl true) fun _ _ _ => False) ∧
        ∀ base : Heap, K.In base → base.Ns mainGlobals mg → L2.FnOk K48.theProg w K mg base L2.CX0 k fa fd ["script"] sp) :
    PySem.Challenge.rw_surepilot_k48_whole_late_widths_bound_es.Holds := by
  w_on; o_law
  refine HandSHeadRun.head_any (r := K48.R) (q := view K48.R.prog [64]) (H := K48.hk) (ob := K48.ob) (M := 4000) (loose := K48.looseN) (d := HandSHeadRun.topDef K48.R.prog 64) (kwd := []) K48.ob_eq
    (by kernel_rfl) (fun s => by kernel_rfl) K48.run (by kernel_rfl) (by kernel_rfl) (by kernel_rfl) (by rfl) (by first | assumption | decide +kernel) (by decide +kernel) ⟨rfl, rfl, rfl, rfl, rfl, by decide +kernel⟩ ?hw ?hc
  case hw => w_witness2
  case hc =>
    refine L2.walk_ofE (l := PySem.Challenge.rw_surepilot_k48_whole_late_widths_bound_es) (n := 63) (k := k) (x := "script") (CX := L2.CX0) rfl (by decide) (by kernel_rfl) hr ?F (fun _ _ _ _ z => z)
    intro w mg fa h Y G hmg0
    obtain ⟨K, KX, c⟩ := Y
    have hmg : mg ("law" : PySem.Str) = some (.ref fa) := by
      have e : (HandSHeadRun.topDef K48.R.prog 64).name = ("law" : PySem.Str) := by kernel_rfl
      rw [← e]
      exact hmg0
    obtain ⟨fd, sp, hb, hs, hF⟩ := F w mg fa h K KX c G hmg
    exact ⟨K, fd, sp, KX, hb, hs, hF⟩

set_option linter.all false
set_option maxRecDepth 100000
set_option Elab.async false
/-! ### the texts in DPy -/
namespace K48
open PySem DP
/-- 0: greatest_divisor(p, q); slots 0 p, 1 q -/
def K_greatest_divisor_1 : IC := (.e (.cmp .ne (.e (.var 1)) (.e (.int 0))))
def L_greatest_divisor_2 : IB := (.cons (.par 0 1 (.var 1) (.op .mod (.var 0) (.var 1)))
    .nil)
def B_greatest_divisor : IB := (.cons (.whil K_greatest_divisor_1 L_greatest_divisor_2)
    (.cons (.ret (.abs (.var 0)))
    .nil))
def R_greatest_divisor : Row := ⟨["p", "q"], ⟨2, 2, B_greatest_divisor⟩⟩
/-- 1: ratio(p, q); slots 0 p, 1 q, 2 shared -/
def B_ratio : IB := (.cons (.ifs (.e (.cmp .lt (.e (.var 1)) (.e (.int 0)))) (.cons (.set (.name 0) (.neg (.var 0)))
    (.cons (.set (.name 1) (.neg (.var 1)))
    .nil)) .nil)
    (.cons (.set (.name 2) (.call 0 (.cons (.var 0) (.cons (.var 1) .nil))))
    (.cons (.ret (.tup (.cons (.op .fdiv (.var 0) (.var 2)) (.cons (.op .fdiv (.var 1) (.var 2)) .nil))))
    .nil)))
def R_ratio : Row := ⟨["p", "q", "shared"], ⟨2, 3, B_ratio⟩⟩
/-- 2: added(s, t); slots 0 s, 1 t -/
def B_added : IB := (.cons (.ret (.call 1 (.cons (.op .add (.op .mul (.ix (.e (.var 0)) (.int 0)) (.ix (.e (.var 1)) (.int 1))) (.op .mul (.ix (.e (.var 1)) (.int 0)) (.ix (.e (.var 0)) (.int 1)))) (.cons (.op .mul (.ix (.e (.var 0)) (.int 1)) (.ix (.e (.var 1)) (.int 1))) .nil))))
    .nil)
def R_added : Row := ⟨["s", "t"], ⟨2, 2, B_added⟩⟩
/-- 3: times(s, t); slots 0 s, 1 t -/
def B_times : IB := (.cons (.ret (.call 1 (.cons (.op .mul (.ix (.e (.var 0)) (.int 0)) (.ix (.e (.var 1)) (.int 0))) (.cons (.op .mul (.ix (.e (.var 0)) (.int 1)) (.ix (.e (.var 1)) (.int 1))) .nil))))
    .nil)
def R_times : Row := ⟨["s", "t"], ⟨2, 2, B_times⟩⟩
/-- 4: over(s, t); slots 0 s, 1 t -/
def B_over : IB := (.cons (.ret (.call 1 (.cons (.op .mul (.ix (.e (.var 0)) (.int 0)) (.ix (.e (.var 1)) (.int 1))) (.cons (.op .mul (.ix (.e (.var 0)) (.int 1)) (.ix (.e (.var 1)) (.int 0))) .nil))))
    .nil)
def R_over : Row := ⟨["s", "t"], ⟨2, 2, B_over⟩⟩
/-- 5: compare(s, t); slots 0 s, 1 t, 2 difference -/
def B_compare : IB := (.cons (.set (.name 2) (.op .sub (.op .mul (.ix (.e (.var 0)) (.int 0)) (.ix (.e (.var 1)) (.int 1))) (.op .mul (.ix (.e (.var 1)) (.int 0)) (.ix (.e (.var 0)) (.int 1)))))
    (.cons (.ifs (.e (.cmp .lt (.e (.var 2)) (.e (.int 0)))) (.cons (.ret (.neg (.int 1)))
    .nil) .nil)
    (.cons (.ifs (.e (.cmp .gt (.e (.var 2)) (.e (.int 0)))) (.cons (.ret (.int 1))
    .nil) .nil)
    (.cons (.ret (.int 0))
    .nil))))
def R_compare : Row := ⟨["s", "t", "difference"], ⟨2, 3, B_compare⟩⟩
/-- 6: box_times(box, t); slots 0 box, 1 t, 2 low, 3 high -/
def E_box_times_1 : IE := (.tup (.cons (.call 3 (.cons (.var 2) (.cons (.var 1) .nil))) (.cons (.call 3 (.cons (.var 3) (.cons (.var 1) .nil))) .nil)))
def B_box_times : IB := (.cons (.ret (.toTup (.e (.lcA [2, 3] (.tup [(.name 2), (.name 3)]) (.seq (.e (.var 0))) E_box_times_1))))
    .nil)
def R_box_times : Row := ⟨["box", "t", "low", "high"], ⟨2, 4, B_box_times⟩⟩
/-- 7: rates_of(plant, mode, command); slots 0 plant, 1 mode, 2 command -/
def B_rates_of : IB := (.cons (.ret (.ix (.e (.ix (.e (.ix (.e (.var 0)) (.int 5))) (.var 1))) (.var 2)))
    .nil)
def R_rates_of : Row := ⟨["plant", "mode", "command"], ⟨3, 3, B_rates_of⟩⟩
/-- 8: beat_box(plant, mode, command); slots 0 plant, 1 mode, 2 command -/
def B_beat_box : IB := (.cons (.ret (.call 6 (.cons (.call 7 (.cons (.var 0) (.cons (.var 1) (.cons (.var 2) .nil)))) (.cons (.ix (.e (.var 0)) (.int 4)) .nil))))
    .nil)
def R_beat_box : Row := ⟨["plant", "mode", "command"], ⟨3, 3, B_beat_box⟩⟩
/-- 9: sum_of_boxes(one, other); slots 0 one, 1 other, 2 a, 3 b, 4 c, 5 d -/
def E_sum_of_boxes_1 : IE := (.tup (.cons (.call 2 (.cons (.var 2) (.cons (.var 4) .nil))) (.cons (.call 2 (.cons (.var 3) (.cons (.var 5) .nil))) .nil)))
def B_sum_of_boxes : IB := (.cons (.ret (.toTup (.e (.lcA [2, 3, 4, 5] (.tup [(.tup [(.name 2), (.name 3)]), (.tup [(.name 4), (.name 5)])]) (.zip (.var 0) (.var 1)) E_sum_of_boxes_1))))
    .nil)
def R_sum_of_boxes : Row := ⟨["one", "other", "a", "b", "c", "d"], ⟨2, 6, B_sum_of_boxes⟩⟩
/-- 10: down(t, d); slots 0 t, 1 d, 2 p, 3 q -/
def B_down : IB := (.cons (.set (.tup [(.name 2), (.name 3)]) (.call 4 (.cons (.var 0) (.cons (.var 1) .nil))))
    (.cons (.ret (.op .fdiv (.var 2) (.var 3)))
    .nil))
def R_down : Row := ⟨["t", "d", "p", "q"], ⟨2, 4, B_down⟩⟩
/-- 11: up(t, d); slots 0 t, 1 d, 2 p, 3 q -/
def B_up : IB := (.cons (.set (.tup [(.name 2), (.name 3)]) (.call 4 (.cons (.var 0) (.cons (.var 1) .nil))))
    (.cons (.ret (.neg (.op .fdiv (.neg (.var 2)) (.var 3))))
    .nil))
def R_up : Row := ⟨["t", "d", "p", "q"], ⟨2, 4, B_up⟩⟩
/-- 12: made_whole(units, box); slots 0 units, 1 box, 2 d, 3 low, 4 high -/
def E_made_whole_1 : IE := (.tup (.cons (.call 10 (.cons (.var 3) (.cons (.var 2) .nil))) (.cons (.call 11 (.cons (.var 4) (.cons (.var 2) .nil))) .nil)))
def B_made_whole : IB := (.cons (.ret (.toTup (.e (.lcA [2, 3, 4] (.tup [(.name 2), (.tup [(.name 3), (.name 4)])]) (.zip (.var 0) (.var 1)) E_made_whole_1))))
    .nil)
def R_made_whole : Row := ⟨["units", "box", "d", "low", "high"], ⟨2, 5, B_made_whole⟩⟩
/-- 13: halved_units(units, i); slots 0 units, 1 i, 2 found, 3 _, 4 d -/
def E_halved_units_1 : IE := (.call 3 (.cons (.var 4) (.cons (.gc 0) .nil)))
def L_halved_units_2 : IB := (.cons (.set (.name 2) (.lcA [4] (.name 4) (.seq (.e (.var 2))) E_halved_units_1))
    .nil)
def B_halved_units : IB := (.cons (.set (.name 2) (.toLst (.e (.var 0))))
    (.cons (.loop (.name 3) (.range1 (.var 1)) L_halved_units_2)
    (.cons (.ret (.toTup (.e (.var 2))))
    .nil)))
def R_halved_units : Row := ⟨["units", "i", "found", "_", "d"], ⟨2, 5, B_halved_units⟩⟩
/-- 14: widths_of(whole); slots 0 whole, 1 lo, 2 hi -/
def E_widths_of_1 : IE := (.op .sub (.var 2) (.var 1))
def B_widths_of : IB := (.cons (.ret (.lcA [1, 2] (.tup [(.name 1), (.name 2)]) (.seq (.e (.var 0))) E_widths_of_1))
    .nil)
def R_widths_of : Row := ⟨["whole", "lo", "hi"], ⟨1, 3, B_widths_of⟩⟩
/-- 15: read_pair(error, d); slots 0 error, 1 d, 2 a -/
def B_read_pair : IB := (.cons (.set (.name 2) (.call 11 (.cons (.var 0) (.cons (.var 1) .nil))))
    (.cons (.ret (.tup (.cons (.var 2) (.cons (.op .add (.var 2) (.int 1)) .nil))))
    .nil))
def R_read_pair : Row := ⟨["error", "d", "a"], ⟨2, 3, B_read_pair⟩⟩
/-- 16: read_pairs(plant, units); slots 0 plant, 1 units, 2 error, 3 d -/
def E_read_pairs_1 : IE := (.call 15 (.cons (.var 2) (.cons (.var 3) .nil)))
def B_read_pairs : IB := (.cons (.ret (.toTup (.e (.lcA [2, 3] (.tup [(.name 2), (.name 3)]) (.zip (.ix (.e (.ix (.e (.var 0)) (.int 7))) (.int 0)) (.var 1)) E_read_pairs_1))))
    .nil)
def R_read_pairs : Row := ⟨["plant", "units", "error", "d"], ⟨2, 4, B_read_pairs⟩⟩
/-- 17: read_box(reads, readings); slots 0 reads, 1 readings, 2 r, 3 a, 4 b -/
def E_read_box_1 : IE := (.tup (.cons (.op .sub (.var 2) (.var 3)) (.cons (.op .add (.var 2) (.var 4)) .nil)))
def B_read_box : IB := (.cons (.ret (.toTup (.e (.lcA [2, 3, 4] (.tup [(.tup [(.name 3), (.name 4)]), (.name 2)]) (.zip (.var 0) (.var 1)) E_read_box_1))))
    .nil)
def R_read_box : Row := ⟨["reads", "readings", "r", "a", "b"], ⟨2, 5, B_read_box⟩⟩
/-- 18: box_hull(one, other); slots 0 one, 1 other, 2 found, 3 a, 4 b, 5 c, 6 d -/
def L_box_hull_1 : IB := (.cons (.app 2 (.tup (.cons (.ite (.e (.cmp .lt (.e (.call 5 (.cons (.var 3) (.cons (.var 5) .nil)))) (.e (.int 0)))) (.var 3) (.var 5)) (.cons (.ite (.e (.cmp .gt (.e (.call 5 (.cons (.var 4) (.cons (.var 6) .nil)))) (.e (.int 0)))) (.var 4) (.var 6)) .nil))))
    .nil)
def B_box_hull : IB := (.cons (.own 2 (.lst .nil))
    (.cons (.loop (.tup [(.tup [(.name 3), (.name 4)]), (.tup [(.name 5), (.name 6)])]) (.zip (.var 0) (.var 1)) L_box_hull_1)
    (.cons (.ret (.toTup (.own 2)))
    .nil)))
def R_box_hull : Row := ⟨["one", "other", "found", "a", "b", "c", "d"], ⟨2, 7, B_box_hull⟩⟩
/-- 19: change_boxes(plant, mode, command, now); slots 0 plant, 1 mode, 2 command, 3 now, 4 beat, 5 found, 6 start, 7 _, 8 goal, 9 kicks -/
def L_change_boxes_1 : IB := (.cons (.ifs (.and (.e (.cmp .eq (.e (.var 6)) (.e (.var 1)))) (.e (.cmp .eq (.e (.var 8)) (.e (.var 3))))) (.cons (.app 5 (.call 9 (.cons (.var 4) (.cons (.var 9) .nil))))
    .nil) .nil)
    .nil)
def B_change_boxes : IB := (.cons (.set (.name 4) (.call 8 (.cons (.var 0) (.cons (.var 1) (.cons (.var 2) .nil)))))
    (.cons (.own 5 (.ite (.e (.cmp .eq (.e (.var 3)) (.e (.var 1)))) (.lst (.cons (.var 4) .nil)) (.lst .nil)))
    (.cons (.loop (.tup [(.name 6), (.name 7), (.name 8), (.name 7), (.name 7), (.name 9)]) (.seq (.e (.ix (.e (.var 0)) (.int 6)))) L_change_boxes_1)
    (.cons (.frz 5)
    (.cons (.ret (.var 5))
    .nil)))))
def R_change_boxes : Row := ⟨["plant", "mode", "command", "now", "beat", "found", "start", "_", "goal", "kicks"], ⟨4, 10, B_change_boxes⟩⟩
/-- 20: offset_of(plant, units, mode, command, now); slots 0 plant, 1 units, 2 mode, 3 command, 4 now, 5 found, 6 box -/
def L_offset_of_1 : IB := (.cons (.set (.name 5) (.ite (.e (.isN (.var 5))) (.var 6) (.call 18 (.cons (.var 5) (.cons (.var 6) .nil)))))
    .nil)
def B_offset_of : IB := (.cons (.set (.name 5) .non)
    (.cons (.loop (.name 6) (.seq (.e (.call 19 (.cons (.var 0) (.cons (.var 2) (.cons (.var 3) (.cons (.var 4) .nil))))))) L_offset_of_1)
    (.cons (.ret (.ite (.e (.isN (.var 5))) .non (.call 12 (.cons (.var 1) (.cons (.var 5) .nil)))))
    .nil)))
def R_offset_of : Row := ⟨["plant", "units", "mode", "command", "now", "found", "box"], ⟨5, 7, B_offset_of⟩⟩
/-- 21: offsets_of(plant, units); slots 0 plant, 1 units, 2 modes, 3 commands, 4 found, 5 mode, 6 c, 7 now -/
def E_offsets_of_1 : IE := (.call 20 (.cons (.var 0) (.cons (.var 1) (.cons (.var 5) (.cons (.var 6) (.cons (.var 7) .nil))))))
def E_offsets_of_2 : IE := (.toTup (.e (.lcA [7] (.name 7) (.seq (.e (.var 2))) E_offsets_of_1)))
def L_offsets_of_3 : IB := (.cons (.app 4 (.toTup (.e (.lcA [6] (.name 6) (.seq (.e (.var 3))) E_offsets_of_2))))
    .nil)
def B_offsets_of : IB := (.cons (.set (.name 2) (.rng1 (.len (.e (.ix (.e (.var 0)) (.int 2))))))
    (.cons (.set (.name 3) (.rng1 (.len (.e (.ix (.e (.var 0)) (.int 3))))))
    (.cons (.own 4 (.lst .nil))
    (.cons (.loop (.name 5) (.seq (.e (.var 2))) L_offsets_of_3)
    (.cons (.ret (.toTup (.own 4)))
    .nil)))))
def R_offsets_of : Row := ⟨["plant", "units", "modes", "commands", "found", "mode", "c", "now"], ⟨2, 8, B_offsets_of⟩⟩
/-- 22: gone_on(estimate, offset); slots 0 estimate, 1 offset, 2 lo, 3 hi, 4 a, 5 b -/
def E_gone_on_1 : IE := (.tup (.cons (.op .add (.var 2) (.var 4)) (.cons (.op .add (.var 3) (.var 5)) .nil)))
def B_gone_on : IB := (.cons (.ret (.toTup (.e (.lcA [2, 3, 4, 5] (.tup [(.tup [(.name 2), (.name 3)]), (.tup [(.name 4), (.name 5)])]) (.zip (.var 0) (.var 1)) E_gone_on_1))))
    .nil)
def R_gone_on : Row := ⟨["estimate", "offset", "lo", "hi", "a", "b"], ⟨2, 6, B_gone_on⟩⟩
/-- 23: met_boxes(one, other); slots 0 one, 1 other, 2 found, 3 a, 4 b, 5 c, 6 d, 7 lo, 8 hi -/
def E_met_boxes_1 : IE := (.tup (.cons (.max2 (.var 3) (.var 5)) (.cons (.min2 (.var 4) (.var 6)) .nil)))
def K_met_boxes_2 : IC := (.e (.cmp .gt (.e (.var 7)) (.e (.var 8))))
def E_met_boxes_3 : IE := (.int 1)
def B_met_boxes : IB := (.cons (.set (.name 2) (.toTup (.e (.lcA [3, 4, 5, 6] (.tup [(.tup [(.name 3), (.name 4)]), (.tup [(.name 5), (.name 6)])]) (.zip (.var 0) (.var 1)) E_met_boxes_1))))
    (.cons (.ret (.ite (.e (.cmp .gt (.e (.len (.e (.lc [7, 8] (.tup [(.name 7), (.name 8)]) (.seq (.e (.var 2))) K_met_boxes_2 E_met_boxes_3)))) (.e (.int 0)))) .non (.var 2)))
    .nil))
def R_met_boxes : Row := ⟨["one", "other", "found", "a", "b", "c", "d", "lo", "hi"], ⟨2, 9, B_met_boxes⟩⟩
/-- 24: offsets_to(offsets, now); slots 0 offsets, 1 now, 2 found, 3 mode, 4 row, 5 told -/
def K_offsets_to_1 : IC := (.e (.notN (.ix (.e (.var 5)) (.var 1))))
def E_offsets_to_2 : IE := (.tup (.cons (.var 3) (.cons (.ix (.e (.var 5)) (.var 1)) .nil)))
def L_offsets_to_3 : IB := (.cons (.ext 2 (.lc [5] (.name 5) (.seq (.e (.var 4))) K_offsets_to_1 E_offsets_to_2))
    .nil)
def B_offsets_to : IB := (.cons (.own 2 (.lst .nil))
    (.cons (.loop (.tup [(.name 3), (.name 4)]) (.enum (.var 0)) L_offsets_to_3)
    (.cons (.frz 2)
    (.cons (.ret (.var 2))
    .nil))))
def R_offsets_to : Row := ⟨["offsets", "now", "found", "mode", "row", "told"], ⟨2, 6, B_offsets_to⟩⟩
/-- 25: wider_widths(offsets, widths); slots 0 offsets, 1 widths, 2 found, 3 now, 4 most, 5 mode, 6 offset, 7 told, 8 width, 9 more, 10 one, 11 other -/
def E_wider_widths_1 : IE := (.op .add (.var 8) (.var 9))
def E_wider_widths_2 : IE := (.max2 (.var 10) (.var 11))
def L_wider_widths_3 : IB := (.cons (.set (.name 7) (.lcA [8, 9] (.tup [(.name 8), (.name 9)]) (.zip (.ix (.e (.var 1)) (.var 5)) (.call 14 (.cons (.var 6) .nil))) E_wider_widths_1))
    (.cons (.set (.name 4) (.ite (.e (.isN (.var 4))) (.var 7) (.lcA [10, 11] (.tup [(.name 10), (.name 11)]) (.zip (.var 4) (.var 7)) E_wider_widths_2)))
    .nil))
def L_wider_widths_4 : IB := (.cons (.set (.name 4) .non)
    (.cons (.loop (.tup [(.name 5), (.name 6)]) (.seq (.e (.call 24 (.cons (.var 0) (.cons (.var 3) .nil))))) L_wider_widths_3)
    (.cons (.app 2 (.ite (.e (.isN (.var 4))) (.ix (.e (.var 1)) (.var 3)) (.var 4)))
    .nil)))
def B_wider_widths : IB := (.cons (.own 2 (.lst .nil))
    (.cons (.loop (.name 3) (.range1 (.len (.e (.var 0)))) L_wider_widths_4)
    (.cons (.frz 2)
    (.cons (.ret (.var 2))
    .nil))))
def R_wider_widths : Row := ⟨["offsets", "widths", "found", "now", "most", "mode", "offset", "told", "width", "more", "one", "other"], ⟨2, 12, B_wider_widths⟩⟩
/-- 26: failed_widths(offsets, reads, j); slots 0 offsets, 1 reads, 2 j, 3 widths, 4 _, 5 a, 6 b -/
def E_failed_widths_1 : IE := (.op .add (.var 5) (.var 6))
def E_failed_widths_2 : IE := (.lcA [5, 6] (.tup [(.name 5), (.name 6)]) (.seq (.e (.var 1))) E_failed_widths_1)
def L_failed_widths_3 : IB := (.cons (.set (.name 3) (.call 25 (.cons (.var 0) (.cons (.var 3) .nil))))
    .nil)
def B_failed_widths : IB := (.cons (.set (.name 3) (.lcA [4] (.name 4) (.seq (.e (.var 0))) E_failed_widths_2))
    (.cons (.loop (.name 4) (.range1 (.var 2)) L_failed_widths_3)
    (.cons (.ret (.var 3))
    .nil)))
def R_failed_widths : Row := ⟨["offsets", "reads", "j", "widths", "_", "a", "b"], ⟨3, 7, B_failed_widths⟩⟩
/-- 27: late_widths(offsets, reads, late); slots 0 offsets, 1 reads, 2 late, 3 widths, 4 k, 5 told -/
def E_late_widths_1 : IE := (.ix (.e (.var 5)) (.var 4))
def E_late_widths_2 : IE := (.maxL (.e (.lcA [5] (.name 5) (.seq (.e (.var 3))) E_late_widths_1)))
def B_late_widths : IB := (.cons (.set (.name 3) (.call 26 (.cons (.var 0) (.cons (.var 1) (.cons (.var 2) .nil)))))
    (.cons (.ret (.lcA [4] (.name 4) (.range1 (.len (.e (.var 1)))) E_late_widths_2))
    .nil))
def R_late_widths : Row := ⟨["offsets", "reads", "late", "widths", "k", "told"], ⟨3, 6, B_late_widths⟩⟩
/-- 28: late_worths(units, widths); slots 0 units, 1 widths, 2 d, 3 width -/
def E_late_worths_1 : IE := (.call 3 (.cons (.var 2) (.cons (.tup (.cons (.var 3) (.cons (.int 1) .nil))) .nil)))
def B_late_worths : IB := (.cons (.ret (.toTup (.e (.lcA [2, 3] (.tup [(.name 2), (.name 3)]) (.zip (.var 0) (.var 1)) E_late_worths_1))))
    .nil)
def R_late_worths : Row := ⟨["units", "widths", "d", "width"], ⟨2, 4, B_late_worths⟩⟩
/-- 29: _law_deal(script); slots 0 script, 1 row, 2 k, 3 total, 4 cell, 5 turn -/
def L_law_deal_1 : IB := (.cons (.ifs (.e (.cmp .gt (.e (.var 4)) (.e (.int 0)))) (.cons (.app 1 (.op .mod (.var 4) (.int 1009)))
    (.cons (.set (.name 4) (.op .fdiv (.var 4) (.int 1009)))
    .nil)) .nil)
    .nil)
def L_law_deal_2 : IB := (.cons (.set (.name 4) (.op .mod (.op .add (.op .add (.op .mul (.var 4) (.int 16807)) (.int 12345)) (.var 5)) (.int 2147483647)))
    (.cons (.app 1 (.op .mod (.op .fdiv (.var 4) (.int 7)) (.int 1009)))
    .nil))
def L_law_deal_3 : IB := (.cons (.set (.name 4) (.abs (.toInt (.ix (.e (.var 0)) (.var 2)))))
    (.cons (.ifs (.e (.cmp .ge (.e (.var 4)) (.e (.op .pow (.int 10) (.int 18))))) (.cons (.loop (.name 5) (.range1 (.int 40)) L_law_deal_1)
    .nil) (.cons (.set (.name 4) (.op .add (.op .add (.op .mul (.op .mod (.var 4) (.int 2147483629)) (.int 48271)) (.op .mul (.var 2) (.int 69621))) (.int 11)))
    (.cons (.loop (.name 5) (.range1 (.int 5)) L_law_deal_2)
    .nil)))
    .nil))
def B_law_deal : IB := (.cons (.own 1 (.lst .nil))
    (.cons (.loop (.name 2) (.range1 (.min2 (.len (.e (.var 0))) (.int 63))) L_law_deal_3)
    (.cons (.set (.name 3) (.op .add (.sumL (.own 1)) (.len (.e (.var 0)))))
    (.cons (.retG 1 (.int 0) (.var 3))
    .nil))))
def R_law_deal : Row := ⟨["script", "row", "k", "total", "cell", "turn"], ⟨1, 6, B_law_deal⟩⟩
/-- 30: _law_take(deal, many); slots 0 deal, 1 many, 2 at -/
def B_law_take : IB := (.cons (.set (.name 2) (.ix (.e (.ix (.e (.var 0)) (.int 1))) (.int 0)))
    (.cons (.setR (.ix (.e (.var 0)) (.int 1)) (.int 0) (.op .add (.var 2) (.int 1)))
    (.cons (.ifs (.e (.cmp .lt (.e (.var 2)) (.e (.len (.e (.ix (.e (.var 0)) (.int 0))))))) (.cons (.ret (.op .mod (.ix (.e (.ix (.e (.var 0)) (.int 0))) (.var 2)) (.var 1)))
    .nil) .nil)
    (.cons (.ret (.op .mod (.op .fdiv (.op .add (.op .add (.op .mul (.var 2) (.int 7919)) (.op .mul (.ix (.e (.var 0)) (.int 2)) (.int 31))) (.op .mul (.op .mul (.var 2) (.var 2)) (.int 17))) (.int 3)) (.var 1)))
    .nil))))
def R_law_take : Row := ⟨["deal", "many", "at"], ⟨2, 3, B_law_take⟩⟩
/-- 31: _law_same(a, b); slots 0 a, 1 b, 2 k -/
def L_law_same_1 : IB := (.cons (.ifs (.not (.e (.call 31 (.cons (.ix (.e (.var 0)) (.var 2)) (.cons (.ix (.e (.var 1)) (.var 2)) .nil))))) (.cons (.ret (.bl false))
    .nil) .nil)
    .nil)
def B_law_same : IB := (.cons (.ifs (.or (.e (.isi .tuple (.var 1))) (.e (.isi .list (.var 1)))) (.cons (.ifs (.or (.and (.e (.isi .tuple (.var 1))) (.not (.e (.isi .tuple (.var 0))))) (.and (.e (.isi .list (.var 1))) (.not (.e (.isi .list (.var 0)))))) (.cons (.ret (.bl false))
    .nil) .nil)
    (.cons (.ifs (.e (.cmp .ne (.e (.len (.e (.var 0)))) (.e (.len (.e (.var 1)))))) (.cons (.ret (.bl false))
    .nil) .nil)
    (.cons (.loop (.name 2) (.range1 (.len (.e (.var 1)))) L_law_same_1)
    (.cons (.ret (.bl true))
    .nil)))) .nil)
    (.cons (.ifs (.or (.e (.isi .bool (.var 0))) (.e (.isi .bool (.var 1)))) (.cons (.ret (.and (.isi .bool (.var 0)) (.and (.isi .bool (.var 1)) (.cmp .eq (.e (.var 0)) (.e (.var 1))))))
    .nil) .nil)
    (.cons (.ifs (.e (.isi .int (.var 1))) (.cons (.ret (.and (.isi .int (.var 0)) (.cmp .eq (.e (.var 0)) (.e (.var 1)))))
    .nil) .nil)
    (.cons (.ifs (.e (.isi .str (.var 1))) (.cons (.ret (.and (.isi .str (.var 0)) (.cmp .eq (.e (.var 0)) (.e (.var 1)))))
    .nil) .nil)
    (.cons (.ret (.and (.isN (.var 0)) (.isN (.var 1))))
    .nil)))))
def R_law_same : Row := ⟨["a", "b", "k"], ⟨2, 3, B_law_same⟩⟩
/-- 32: _law_ratio(p, q); slots 0 p, 1 q, 2 a, 3 b, 4 turn -/
def L_law_ratio_1 : IB := (.cons (.ifs (.e (.cmp .eq (.e (.var 2)) (.e (.int 0)))) (.cons .brk
    .nil) .nil)
    (.cons (.par 2 3 (.op .mod (.var 3) (.var 2)) (.var 2))
    .nil))
def B_law_ratio : IB := (.cons (.ifs (.e (.cmp .lt (.e (.var 1)) (.e (.int 0)))) (.cons (.set (.name 0) (.neg (.var 0)))
    (.cons (.set (.name 1) (.neg (.var 1)))
    .nil)) .nil)
    (.cons (.set (.name 2) (.abs (.var 0)))
    (.cons (.set (.name 3) (.var 1))
    (.cons (.loop (.name 4) (.range1 (.int 100000)) L_law_ratio_1)
    (.cons (.ret (.tup (.cons (.op .fdiv (.var 0) (.var 3)) (.cons (.op .fdiv (.var 1) (.var 3)) .nil))))
    .nil)))))
def R_law_ratio : Row := ⟨["p", "q", "a", "b", "turn"], ⟨2, 5, B_law_ratio⟩⟩
/-- 33: _law_plus(s, t); slots 0 s, 1 t -/
def B_law_plus : IB := (.cons (.ret (.call 32 (.cons (.op .add (.op .mul (.ix (.e (.var 0)) (.int 0)) (.ix (.e (.var 1)) (.int 1))) (.op .mul (.ix (.e (.var 1)) (.int 0)) (.ix (.e (.var 0)) (.int 1)))) (.cons (.op .mul (.ix (.e (.var 0)) (.int 1)) (.ix (.e (.var 1)) (.int 1))) .nil))))
    .nil)
def R_law_plus : Row := ⟨["s", "t"], ⟨2, 2, B_law_plus⟩⟩
/-- 34: _law_mult(s, t); slots 0 s, 1 t -/
def B_law_mult : IB := (.cons (.ret (.call 32 (.cons (.op .mul (.ix (.e (.var 0)) (.int 0)) (.ix (.e (.var 1)) (.int 0))) (.cons (.op .mul (.ix (.e (.var 0)) (.int 1)) (.ix (.e (.var 1)) (.int 1))) .nil))))
    .nil)
def R_law_mult : Row := ⟨["s", "t"], ⟨2, 2, B_law_mult⟩⟩
/-- 35: _law_minus(s, t); slots 0 s, 1 t -/
def B_law_minus : IB := (.cons (.ret (.call 33 (.cons (.var 0) (.cons (.tup (.cons (.neg (.ix (.e (.var 1)) (.int 0))) (.cons (.ix (.e (.var 1)) (.int 1)) .nil))) .nil))))
    .nil)
def R_law_minus : Row := ⟨["s", "t"], ⟨2, 2, B_law_minus⟩⟩
/-- 36: _law_height(bound, point); slots 0 bound, 1 point, 2 total, 3 k -/
def L_law_height_1 : IB := (.cons (.set (.name 2) (.call 33 (.cons (.var 2) (.cons (.call 34 (.cons (.ix (.e (.ix (.e (.var 0)) (.int 0))) (.var 3)) (.cons (.ix (.e (.var 1)) (.var 3)) .nil))) .nil))))
    .nil)
def B_law_height : IB := (.cons (.set (.name 2) (.ix (.e (.var 0)) (.int 1)))
    (.cons (.loop (.name 3) (.range1 (.len (.e (.var 1)))) L_law_height_1)
    (.cons (.ret (.var 2))
    .nil)))
def R_law_height : Row := ⟨["bound", "point", "total", "k"], ⟨2, 4, B_law_height⟩⟩
/-- 37: _law_keeps(bound, point); slots 0 bound, 1 point, 2 high -/
def B_law_keeps : IB := (.cons (.set (.name 2) (.call 36 (.cons (.var 0) (.cons (.var 1) .nil))))
    (.cons (.ret (.or (.cmp .gt (.e (.ix (.e (.var 2)) (.int 0))) (.e (.int 0))) (.and (.cmp .eq (.e (.ix (.e (.var 2)) (.int 0))) (.e (.int 0))) (.not (.ix (.e (.var 0)) (.int 2))))))
    .nil))
def R_law_keeps : Row := ⟨["bound", "point", "high"], ⟨2, 3, B_law_keeps⟩⟩
/-- 38: _law_pick(deal, things); slots 0 deal, 1 things -/
def B_law_pick : IB := (.cons (.ret (.ix (.e (.var 1)) (.call 30 (.cons (.var 0) (.cons (.len (.e (.var 1))) .nil)))))
    .nil)
def R_law_pick : Row := ⟨["deal", "things"], ⟨2, 2, B_law_pick⟩⟩
/-- 39: _law_line(k, n, low, high); slots 0 k, 1 n, 2 low, 3 high, 4 one, 5 other, 6 m -/
def E_law_line_1 : IE := (.ite (.e (.cmp .eq (.e (.var 6)) (.e (.var 0)))) (.tup (.cons (.int 1) (.cons (.int 1) .nil))) (.tup (.cons (.int 0) (.cons (.int 1) .nil))))
def E_law_line_2 : IE := (.ite (.e (.cmp .eq (.e (.var 6)) (.e (.var 0)))) (.tup (.cons (.neg (.int 1)) (.cons (.int 1) .nil))) (.tup (.cons (.int 0) (.cons (.int 1) .nil))))
def B_law_line : IB := (.cons (.set (.name 4) (.toTup (.e (.lcA [6] (.name 6) (.range1 (.var 1)) E_law_line_1))))
    (.cons (.set (.name 5) (.toTup (.e (.lcA [6] (.name 6) (.range1 (.var 1)) E_law_line_2))))
    (.cons (.ret (.tup (.cons (.tup (.cons (.var 4) (.cons (.tup (.cons (.neg (.ix (.e (.var 2)) (.int 0))) (.cons (.ix (.e (.var 2)) (.int 1)) .nil))) (.cons (.bl false) .nil)))) (.cons (.tup (.cons (.var 5) (.cons (.var 3) (.cons (.bl false) .nil)))) .nil))))
    .nil)))
def R_law_line : Row := ⟨["k", "n", "low", "high", "one", "other", "m"], ⟨4, 7, B_law_line⟩⟩
/-- 40: _law_row_has(row, point); slots 0 row, 1 point, 2 bound -/
def K_law_row_has_1 : IC := (.not (.e (.call 37 (.cons (.var 2) (.cons (.var 1) .nil)))))
def E_law_row_has_2 : IE := (.int 1)
def B_law_row_has : IB := (.cons (.ret (.cmp .eq (.e (.len (.e (.lc [2] (.name 2) (.seq (.e (.ix (.e (.var 0)) (.int 0)))) K_law_row_has_1 E_law_row_has_2)))) (.e (.int 0))))
    .nil)
def R_law_row_has : Row := ⟨["row", "point", "bound"], ⟨2, 3, B_law_row_has⟩⟩
/-- 41: _law_floor(t, d); slots 0 t, 1 d, 2 q -/
def B_law_floor : IB := (.cons (.set (.name 2) (.call 32 (.cons (.op .mul (.ix (.e (.var 0)) (.int 0)) (.ix (.e (.var 1)) (.int 1))) (.cons (.op .mul (.ix (.e (.var 0)) (.int 1)) (.ix (.e (.var 1)) (.int 0))) .nil))))
    (.cons (.ret (.op .fdiv (.ix (.e (.var 2)) (.int 0)) (.ix (.e (.var 2)) (.int 1))))
    .nil))
def R_law_floor : Row := ⟨["t", "d", "q"], ⟨2, 3, B_law_floor⟩⟩
/-- 42: _law_ceil(t, d); slots 0 t, 1 d -/
def B_law_ceil : IB := (.cons (.ret (.neg (.call 41 (.cons (.tup (.cons (.neg (.ix (.e (.var 0)) (.int 0))) (.cons (.ix (.e (.var 0)) (.int 1)) .nil))) (.cons (.var 1) .nil)))))
    .nil)
def R_law_ceil : Row := ⟨["t", "d"], ⟨2, 2, B_law_ceil⟩⟩
/-- 43: _law_not_above(s, t); slots 0 s, 1 t -/
def B_law_not_above : IB := (.cons (.ret (.cmp .le (.e (.op .mul (.ix (.e (.var 0)) (.int 0)) (.ix (.e (.var 1)) (.int 1)))) (.e (.op .mul (.ix (.e (.var 1)) (.int 0)) (.ix (.e (.var 0)) (.int 1))))))
    .nil)
def R_law_not_above : Row := ⟨["s", "t"], ⟨2, 2, B_law_not_above⟩⟩
/-- 44: _law_plant_of(deal); slots 0 deal, 1 modes, 2 commands, 3 rates, 4 mode, 5 switches, 6 turn, 7 sensors, 8 start, 9 beat, 10 strong, 11 loose, 12 up_v, 13 down_v, 14 kick, 15 kicks, 16 row, 17 box, 18 low, 19 high -/
def L_law_plant_of_1 : IB := (.cons (.set (.name 10) (.op .add (.int 2) (.call 30 (.cons (.var 0) (.cons (.int 3) .nil)))))
    (.cons (.set (.name 11) (.call 30 (.cons (.var 0) (.cons (.int 2) .nil))))
    (.cons (.set (.name 12) (.tup (.cons (.tup (.cons (.tup (.cons (.var 10) (.cons (.int 1) .nil))) (.cons (.tup (.cons (.op .add (.var 10) (.var 11)) (.cons (.int 1) .nil))) .nil))) .nil)))
    (.cons (.set (.name 13) (.tup (.cons (.tup (.cons (.tup (.cons (.op .sub (.neg (.var 10)) (.var 11)) (.cons (.int 1) .nil))) (.cons (.tup (.cons (.neg (.var 10)) (.cons (.int 1) .nil))) .nil))) .nil)))
    (.cons (.app 3 (.slTo (.tup (.cons (.var 12) (.cons (.var 13) (.cons (.tup (.cons (.tup (.cons (.tup (.cons (.op .mul (.neg (.int 1)) (.var 11)) (.cons (.int 2) .nil))) (.cons (.tup (.cons (.var 11) (.cons (.int 2) .nil))) .nil))) .nil)) .nil)))) (.len (.e (.var 2)))))
    .nil)))))
def E_law_plant_of_2 : IE := (.tup (.cons (.call 32 (.cons (.ix (.e (.var 18)) (.int 0)) (.cons (.ix (.e (.var 18)) (.int 1)) .nil))) (.cons (.call 32 (.cons (.ix (.e (.var 19)) (.int 0)) (.cons (.ix (.e (.var 19)) (.int 1)) .nil))) .nil)))
def E_law_plant_of_3 : IE := (.toTup (.e (.lcA [18, 19] (.tup [(.name 18), (.name 19)]) (.seq (.e (.var 17))) E_law_plant_of_2)))
def E_law_plant_of_4 : IE := (.toTup (.e (.lcA [17] (.name 17) (.seq (.e (.var 16))) E_law_plant_of_3)))
def E_law_plant_of_5 : IE := (.tup (.cons (.var 18) (.cons (.call 32 (.cons (.ix (.e (.var 19)) (.int 0)) (.cons (.ix (.e (.var 19)) (.int 1)) .nil))) .nil)))
def L_law_plant_of_6 : IB := (.cons (.set (.name 14) (.call 32 (.cons (.op .sub (.call 30 (.cons (.var 0) (.cons (.int 3) .nil))) (.int 1)) (.cons (.int 2) .nil))))
    (.cons (.set (.name 15) (.tup (.cons (.tup (.cons (.var 14) (.cons (.call 33 (.cons (.var 14) (.cons (.tup (.cons (.call 30 (.cons (.var 0) (.cons (.int 2) .nil))) (.cons (.int 2) .nil))) .nil))) .nil))) .nil)))
    (.cons (.app 5 (.tup (.cons (.var 6) (.cons (.str "go") (.cons (.op .sub (.int 1) (.var 6)) (.cons (.call 45 (.cons (.var 0) .nil)) (.cons (.ix (.e (.lst (.cons (.str "may") (.cons (.str "must") .nil)))) (.toInt (.cmp .eq (.e (.call 30 (.cons (.var 0) (.cons (.int 4) .nil)))) (.e (.int 0))))) (.cons (.toTup (.e (.lcA [18, 19] (.tup [(.name 18), (.name 19)]) (.seq (.e (.var 15))) E_law_plant_of_5))) .nil))))))))
    .nil)))
def B_law_plant_of : IB := (.cons (.set (.name 1) (.slTo (.tup (.cons (.str "m0") (.cons (.str "m1") .nil))) (.op .add (.int 1) (.toInt (.cmp .eq (.e (.call 30 (.cons (.var 0) (.cons (.int 4) .nil)))) (.e (.int 1)))))))
    (.cons (.set (.name 2) (.slTo (.tup (.cons (.str "up") (.cons (.str "down") (.cons (.str "wait") .nil)))) (.op .add (.int 2) (.call 30 (.cons (.var 0) (.cons (.int 2) .nil))))))
    (.cons (.own 3 (.lst .nil))
    (.cons (.loop (.name 4) (.seq (.e (.var 1))) L_law_plant_of_1)
    (.cons (.set (.name 3) (.toTup (.e (.lcA [16] (.name 16) (.seq (.own 3)) E_law_plant_of_4))))
    (.cons (.own 5 (.lst .nil))
    (.cons (.loop (.name 6) (.range1 (.op .mul (.call 30 (.cons (.var 0) (.cons (.int 3) .nil))) (.toInt (.cmp .gt (.e (.len (.e (.var 1)))) (.e (.int 1)))))) L_law_plant_of_6)
    (.cons (.set (.name 7) (.tup (.cons (.tup (.cons (.call 32 (.cons (.call 30 (.cons (.var 0) (.cons (.int 2) .nil))) (.cons (.int 2) .nil))) .nil)) (.cons (.call 30 (.cons (.var 0) (.cons (.int 2) .nil))) .nil))))
    (.cons (.set (.name 8) (.call 39 (.cons (.int 0) (.cons (.int 1) (.cons (.tup (.cons (.neg (.call 30 (.cons (.var 0) (.cons (.int 2) .nil)))) (.cons (.int 1) .nil))) (.cons (.tup (.cons (.call 30 (.cons (.var 0) (.cons (.int 2) .nil))) (.cons (.int 1) .nil))) .nil))))))
    (.cons (.set (.name 9) (.call 38 (.cons (.var 0) (.cons (.lst (.cons (.tup (.cons (.int 1) (.cons (.int 1) .nil))) (.cons (.tup (.cons (.int 1) (.cons (.int 1) .nil))) (.cons (.tup (.cons (.int 1) (.cons (.int 2) .nil))) (.cons (.tup (.cons (.int 2) (.cons (.int 1) .nil))) .nil))))) .nil))))
    (.cons (.ret (.tup (.cons (.str "p") (.cons (.tup (.cons (.str "x") .nil)) (.cons (.var 1) (.cons (.var 2) (.cons (.var 9) (.cons (.var 3) (.cons (.toTup (.own 5)) (.cons (.var 7) (.cons (.tup (.cons (.int 0) (.cons (.var 8) .nil))) .nil)))))))))))
    .nil)))))))))))
def R_law_plant_of : Row := ⟨["deal", "modes", "commands", "rates", "mode", "switches", "turn", "sensors", "start", "beat", "strong", "loose", "up_v", "down_v", "kick", "kicks", "row", "box", "low", "high"], ⟨1, 20, B_law_plant_of⟩⟩
/-- 45: _law_edge(deal); slots 0 deal, 1 side -/
def B_law_edge : IB := (.cons (.ifs (.e (.cmp .eq (.e (.call 30 (.cons (.var 0) (.cons (.int 2) .nil)))) (.e (.int 0)))) (.cons (.ret (.tup .nil))
    .nil) .nil)
    (.cons (.set (.name 1) (.ix (.e (.lst (.cons (.int 1) (.cons (.neg (.int 1)) .nil)))) (.call 30 (.cons (.var 0) (.cons (.int 2) .nil)))))
    (.cons (.ret (.tup (.cons (.tup (.cons (.tup (.cons (.tup (.cons (.var 1) (.cons (.int 1) .nil))) .nil)) (.cons (.tup (.cons (.neg (.call 30 (.cons (.var 0) (.cons (.int 3) .nil)))) (.cons (.int 1) .nil))) (.cons (.bl false) .nil)))) .nil)))
    .nil)))
def R_law_edge : Row := ⟨["deal", "side"], ⟨1, 2, B_law_edge⟩⟩
/-- 46: _law_ways(plant, mode, command, now); slots 0 plant, 1 mode, 2 command, 3 now, 4 found, 5 switch, 6 low, 7 high, 8 t -/
def E_law_ways_1 : IE := (.call 34 (.cons (.ix (.e (.var 0)) (.int 4)) (.cons (.var 8) .nil)))
def L_law_ways_2 : IB := (.cons (.ifs (.and (.e (.cmp .eq (.e (.ix (.e (.var 5)) (.int 0))) (.e (.var 1)))) (.e (.cmp .eq (.e (.ix (.e (.var 5)) (.int 2))) (.e (.var 3))))) (.cons (.app 4 (.tup (.cons (.call 33 (.cons (.var 6) (.cons (.ix (.e (.ix (.e (.ix (.e (.var 5)) (.int 5))) (.int 0))) (.int 0)) .nil))) (.cons (.call 33 (.cons (.var 7) (.cons (.ix (.e (.ix (.e (.ix (.e (.var 5)) (.int 5))) (.int 0))) (.int 1)) .nil))) .nil))))
    .nil) .nil)
    .nil)
def B_law_ways : IB := (.cons (.set (.tupL [(.name 6), (.name 7)]) (.lcA [8] (.name 8) (.seq (.e (.ix (.e (.ix (.e (.ix (.e (.ix (.e (.var 0)) (.int 5))) (.var 1))) (.var 2))) (.int 0)))) E_law_ways_1))
    (.cons (.own 4 (.ite (.e (.cmp .eq (.e (.var 3)) (.e (.var 1)))) (.lst (.cons (.tup (.cons (.var 6) (.cons (.var 7) .nil))) .nil)) (.lst .nil)))
    (.cons (.loop (.name 5) (.seq (.e (.ix (.e (.var 0)) (.int 6)))) L_law_ways_2)
    (.cons (.frz 4)
    (.cons (.ret (.var 4))
    .nil)))))
def R_law_ways : Row := ⟨["plant", "mode", "command", "now", "found", "switch", "low", "high", "t"], ⟨4, 9, B_law_ways⟩⟩
/-- 47: _law_offset(plant, d, mode, command, now); slots 0 plant, 1 d, 2 mode, 3 command, 4 now, 5 ways, 6 way -/
def E_law_offset_1 : IE := (.call 41 (.cons (.ix (.e (.var 6)) (.int 0)) (.cons (.var 1) .nil)))
def E_law_offset_2 : IE := (.call 42 (.cons (.ix (.e (.var 6)) (.int 1)) (.cons (.var 1) .nil)))
def B_law_offset : IB := (.cons (.set (.name 5) (.call 46 (.cons (.var 0) (.cons (.var 2) (.cons (.var 3) (.cons (.var 4) .nil))))))
    (.cons (.ifs (.e (.cmp .eq (.e (.var 5)) (.e (.lst .nil)))) (.cons (.ret .non)
    .nil) .nil)
    (.cons (.ret (.tup (.cons (.tup (.cons (.minL (.e (.lcA [6] (.name 6) (.seq (.e (.var 5))) E_law_offset_1))) (.cons (.maxL (.e (.lcA [6] (.name 6) (.seq (.e (.var 5))) E_law_offset_2))) .nil))) .nil)))
    .nil)))
def R_law_offset : Row := ⟨["plant", "d", "mode", "command", "now", "ways", "way"], ⟨5, 7, B_law_offset⟩⟩
/-- 48: _law_offsets(plant, d); slots 0 plant, 1 d, 2 modes, 3 mode, 4 c, 5 now -/
def E_law_offsets_1 : IE := (.call 47 (.cons (.var 0) (.cons (.var 1) (.cons (.var 3) (.cons (.var 4) (.cons (.var 5) .nil))))))
def E_law_offsets_2 : IE := (.toTup (.e (.lcA [5] (.name 5) (.seq (.e (.var 2))) E_law_offsets_1)))
def E_law_offsets_3 : IE := (.toTup (.e (.lcA [4] (.name 4) (.range1 (.len (.e (.ix (.e (.var 0)) (.int 3))))) E_law_offsets_2)))
def B_law_offsets : IB := (.cons (.set (.name 2) (.lstRng (.len (.e (.ix (.e (.var 0)) (.int 2))))))
    (.cons (.ret (.toTup (.e (.lcA [3] (.name 3) (.seq (.e (.var 2))) E_law_offsets_3))))
    .nil))
def R_law_offsets : Row := ⟨["plant", "d", "modes", "mode", "c", "now"], ⟨2, 6, B_law_offsets⟩⟩
/-- 49: _law_reads(plant, d); slots 0 plant, 1 d, 2 wide -/
def B_law_reads : IB := (.cons (.set (.name 2) (.call 42 (.cons (.ix (.e (.ix (.e (.ix (.e (.var 0)) (.int 7))) (.int 0))) (.int 0)) (.cons (.var 1) .nil))))
    (.cons (.ret (.tup (.cons (.tup (.cons (.var 2) (.cons (.op .add (.var 2) (.int 1)) .nil))) .nil)))
    .nil))
def R_law_reads : Row := ⟨["plant", "d", "wide"], ⟨2, 3, B_law_reads⟩⟩
/-- 50: _law_failed(offsets, wide, j); slots 0 offsets, 1 wide, 2 j, 3 widths, 4 turn, 5 later, 6 mode, 7 row, 8 now -/
def E_law_failed_1 : IE := (.var 1)
def E_law_failed_2 : IE := (.int 0)
def L_law_failed_3 : IB := (.cons (.ifs (.e (.notN (.ix (.e (.var 7)) (.var 8)))) (.cons (.setI 5 (.var 8) (.max2 (.ix (.own 5) (.var 8)) (.op .sub (.op .add (.ix (.e (.var 3)) (.var 6)) (.ix (.e (.ix (.e (.ix (.e (.var 7)) (.var 8))) (.int 0))) (.int 1))) (.ix (.e (.ix (.e (.ix (.e (.var 7)) (.var 8))) (.int 0))) (.int 0)))))
    .nil) .nil)
    .nil)
def L_law_failed_4 : IB := (.cons (.loop (.name 8) (.range1 (.len (.e (.var 0)))) L_law_failed_3)
    .nil)
def L_law_failed_5 : IB := (.cons (.loop (.name 7) (.seq (.e (.ix (.e (.var 0)) (.var 6)))) L_law_failed_4)
    .nil)
def L_law_failed_6 : IB := (.cons (.own 5 (.lcA [6] (.name 6) (.seq (.e (.var 0))) E_law_failed_2))
    (.cons (.loop (.name 6) (.range1 (.len (.e (.var 0)))) L_law_failed_5)
    (.cons (.frz 5)
    (.cons (.set (.name 3) (.var 5))
    .nil))))
def B_law_failed : IB := (.cons (.set (.name 3) (.lcA [6] (.name 6) (.seq (.e (.var 0))) E_law_failed_1))
    (.cons (.loop (.name 4) (.range1 (.var 2)) L_law_failed_6)
    (.cons (.ret (.var 3))
    .nil)))
def R_law_failed : Row := ⟨["offsets", "wide", "j", "widths", "turn", "later", "mode", "row", "now"], ⟨3, 9, B_law_failed⟩⟩
/-- 51: _law_between(deal, low, high); slots 0 deal, 1 low, 2 high, 3 part, 4 wide -/
def B_law_between : IB := (.cons (.set (.name 3) (.call 30 (.cons (.var 0) (.cons (.int 5) .nil))))
    (.cons (.set (.name 4) (.call 35 (.cons (.var 2) (.cons (.var 1) .nil))))
    (.cons (.ret (.call 33 (.cons (.var 1) (.cons (.call 32 (.cons (.op .mul (.ix (.e (.var 4)) (.int 0)) (.var 3)) (.cons (.op .mul (.ix (.e (.var 4)) (.int 1)) (.int 4)) .nil))) .nil))))
    .nil)))
def R_law_between : Row := ⟨["deal", "low", "high", "part", "wide"], ⟨3, 5, B_law_between⟩⟩
/-- 52: _law_inside(point, d, pair); slots 0 point, 1 d, 2 pair -/
def B_law_inside : IB := (.cons (.ret (.and (.call 43 (.cons (.call 34 (.cons (.var 1) (.cons (.tup (.cons (.ix (.e (.var 2)) (.int 0)) (.cons (.int 1) .nil))) .nil))) (.cons (.var 0) .nil))) (.call 43 (.cons (.var 0) (.cons (.call 34 (.cons (.var 1) (.cons (.tup (.cons (.ix (.e (.var 2)) (.int 1)) (.cons (.int 1) .nil))) .nil))) .nil)))))
    .nil)
def R_law_inside : Row := ⟨["point", "d", "pair"], ⟨3, 3, B_law_inside⟩⟩
/-- 53: _law_ahead(deal, plant, mode, command, x); slots 0 deal, 1 plant, 2 mode, 3 command, 4 x, 5 here, 6 open_ways, 7 must, 8 way, 9 kick, 10 low, 11 high, 12 k -/
def K_law_ahead_1 : IC := (.and (.e (.cmp .eq (.e (.ix (.e (.ix (.e (.ix (.e (.var 1)) (.int 6))) (.var 12))) (.int 0))) (.e (.var 2)))) (.e (.call 40 (.cons (.tup (.cons (.ix (.e (.ix (.e (.ix (.e (.var 1)) (.int 6))) (.var 12))) (.int 3)) (.cons (.int 0) .nil))) (.cons (.tup (.cons (.var 5) .nil)) .nil)))))
def E_law_ahead_2 : IE := (.var 12)
def K_law_ahead_3 : IC := (.e (.cmp .eq (.e (.ix (.e (.ix (.e (.ix (.e (.var 1)) (.int 6))) (.var 12))) (.int 4))) (.e (.str "must"))))
def B_law_ahead : IB := (.cons (.set (.tup [(.name 10), (.name 11)]) (.ix (.e (.ix (.e (.ix (.e (.ix (.e (.var 1)) (.int 5))) (.var 2))) (.var 3))) (.int 0)))
    (.cons (.set (.name 5) (.call 33 (.cons (.var 4) (.cons (.call 34 (.cons (.ix (.e (.var 1)) (.int 4)) (.cons (.call 51 (.cons (.var 0) (.cons (.var 10) (.cons (.var 11) .nil)))) .nil))) .nil))))
    (.cons (.set (.name 6) (.lc [12] (.name 12) (.range1 (.len (.e (.ix (.e (.var 1)) (.int 6))))) K_law_ahead_1 E_law_ahead_2))
    (.cons (.set (.name 7) (.lc [12] (.name 12) (.seq (.e (.var 6))) K_law_ahead_3 E_law_ahead_2))
    (.cons (.ifs (.e (.cmp .ne (.e (.var 7)) (.e (.lst .nil)))) (.cons (.set (.name 6) (.var 7))
    .nil) (.cons (.set (.name 6) (.op .add (.var 6) (.lst (.cons .non .nil))))
    .nil))
    (.cons (.set (.name 8) (.ix (.e (.var 6)) (.call 30 (.cons (.var 0) (.cons (.len (.e (.var 6))) .nil)))))
    (.cons (.ifs (.e (.isN (.var 8))) (.cons (.ret (.tup (.cons (.var 2) (.cons (.var 5) (.cons (.var 5) .nil)))))
    .nil) .nil)
    (.cons (.set (.name 9) (.ix (.e (.ix (.e (.ix (.e (.ix (.e (.var 1)) (.int 6))) (.var 8))) (.int 5))) (.int 0)))
    (.cons (.ret (.tup (.cons (.ix (.e (.ix (.e (.ix (.e (.var 1)) (.int 6))) (.var 8))) (.int 2)) (.cons (.var 5) (.cons (.call 33 (.cons (.var 5) (.cons (.call 51 (.cons (.var 0) (.cons (.ix (.e (.var 9)) (.int 0)) (.cons (.ix (.e (.var 9)) (.int 1)) .nil)))) .nil))) .nil)))))
    .nil)))))))))
def R_law_ahead : Row := ⟨["deal", "plant", "mode", "command", "x", "here", "open_ways", "must", "way", "kick", "low", "high", "k"], ⟨5, 13, B_law_ahead⟩⟩
/-- 54: _law_reading(deal, plant, d, x); slots 0 deal, 1 plant, 2 d, 3 x, 4 error -/
def B_law_reading : IB := (.cons (.set (.name 4) (.ix (.e (.ix (.e (.ix (.e (.var 1)) (.int 7))) (.int 0))) (.int 0)))
    (.cons (.ret (.call 41 (.cons (.call 33 (.cons (.var 3) (.cons (.call 51 (.cons (.var 0) (.cons (.tup (.cons (.neg (.ix (.e (.var 4)) (.int 0))) (.cons (.ix (.e (.var 4)) (.int 1)) .nil))) (.cons (.var 4) .nil)))) .nil))) (.cons (.var 2) .nil))))
    .nil))
def R_law_reading : Row := ⟨["deal", "plant", "d", "x", "error"], ⟨4, 5, B_law_reading⟩⟩
/-- 55: _law_unit(deal); slots 0 deal -/
def B_law_unit : IB := (.cons (.ret (.ix (.e (.lst (.cons (.tup (.cons (.int 1) (.cons (.int 2) .nil))) (.cons (.tup (.cons (.int 1) (.cons (.int 4) .nil))) (.cons (.tup (.cons (.int 1) (.cons (.int 1) .nil))) (.cons (.tup (.cons (.int 1) (.cons (.int 3) .nil))) .nil)))))) (.call 30 (.cons (.var 0) (.cons (.int 4) .nil)))))
    .nil)
def R_law_unit : Row := ⟨["deal"], ⟨1, 1, B_law_unit⟩⟩
/-- 56: _law_all_ways(offsets, wide, j); slots 0 offsets, 1 wide, 2 j, 3 found, 4 level, 5 turn, 6 later, 7 mode, 8 width, 9 row, 10 now, 11 pair -/
def E_law_all_ways_1 : IE := (.lst (.cons (.tup (.cons (.var 1) (.cons (.var 7) .nil))) .nil))
def E_law_all_ways_2 : IE := (.tup (.cons (.var 1) (.cons (.var 7) .nil)))
def L_law_all_ways_3 : IB := (.cons (.ifs (.and (.e (.notN (.ix (.e (.var 9)) (.var 10)))) (.e (.cmp .nin (.e (.tup (.cons (.op .sub (.op .add (.var 8) (.ix (.e (.ix (.e (.ix (.e (.var 9)) (.var 10))) (.int 0))) (.int 1))) (.ix (.e (.ix (.e (.ix (.e (.var 9)) (.var 10))) (.int 0))) (.int 0))) (.cons (.var 10) .nil)))) (.own 6)))) (.cons (.app 6 (.tup (.cons (.op .sub (.op .add (.var 8) (.ix (.e (.ix (.e (.ix (.e (.var 9)) (.var 10))) (.int 0))) (.int 1))) (.ix (.e (.ix (.e (.ix (.e (.var 9)) (.var 10))) (.int 0))) (.int 0))) (.cons (.var 10) .nil))))
    .nil) .nil)
    .nil)
def L_law_all_ways_4 : IB := (.cons (.loop (.name 10) (.range1 (.len (.e (.var 0)))) L_law_all_ways_3)
    .nil)
def L_law_all_ways_5 : IB := (.cons (.loop (.name 9) (.seq (.e (.ix (.e (.var 0)) (.var 7)))) L_law_all_ways_4)
    .nil)
def L_law_all_ways_6 : IB := (.cons (.own 6 (.lst .nil))
    (.cons (.loop (.tup [(.name 8), (.name 7)]) (.seq (.e (.var 4))) L_law_all_ways_5)
    (.cons (.frz 6)
    (.cons (.set (.name 4) (.var 6))
    .nil))))
def K_law_all_ways_7 : IC := (.e (.cmp .eq (.e (.ix (.e (.var 11)) (.int 1))) (.e (.var 7))))
def E_law_all_ways_8 : IE := (.var 11)
def E_law_all_ways_9 : IE := (.lc [11] (.name 11) (.seq (.e (.var 4))) K_law_all_ways_7 E_law_all_ways_8)
def E_law_all_ways_10 : IE := (.ix (.e (.var 11)) (.int 0))
def E_law_all_ways_11 : IE := (.maxL (.e (.lcA [11] (.name 11) (.seq (.e (.var 9))) E_law_all_ways_10)))
def B_law_all_ways : IB := (.cons (.set (.name 3) (.lcA [7] (.name 7) (.range1 (.len (.e (.var 0)))) E_law_all_ways_1))
    (.cons (.set (.name 4) (.lcA [7] (.name 7) (.range1 (.len (.e (.var 0)))) E_law_all_ways_2))
    (.cons (.loop (.name 5) (.range1 (.var 2)) L_law_all_ways_6)
    (.cons (.ifs (.e (.cmp .gt (.e (.var 2)) (.e (.int 0)))) (.cons (.set (.name 3) (.lcA [7] (.name 7) (.range1 (.len (.e (.var 0)))) E_law_all_ways_9))
    .nil) .nil)
    (.cons (.ret (.lcA [9] (.name 9) (.seq (.e (.var 3))) E_law_all_ways_11))
    .nil)))))
def R_law_all_ways : Row := ⟨["offsets", "wide", "j", "found", "level", "turn", "later", "mode", "width", "row", "now", "pair"], ⟨3, 12, B_law_all_ways⟩⟩
/-- 57: law(script); slots 0 script, 1 deal, 2 plant, 3 d, 4 offsets, 5 reads, 6 wide, 7 before, 8 j, 9 x, 10 mode, 11 estimate, 12 failed, 13 turn, 14 told, 15 half, 16 finer, 17 worth, 18 c, 19 low, 20 high, 21 now, 22 here, 23 later, 24 width, 25 row, 26 k -/
def E_law_1 : IE := (.lst (.cons (.var 24) .nil))
def E_law_2 : IE := (.ix (.e (.var 25)) (.int 0))
def K_law_3 : IC := (.e (.cmp .lt (.e (.ix (.e (.ix (.e (.var 14)) (.var 26))) (.int 0))) (.e (.ix (.e (.ix (.e (.var 7)) (.var 26))) (.int 0)))))
def E_law_4 : IE := (.int 1)
def L_law_5 : IB := (.cons (.set (.name 14) (.call 26 (.cons (.var 4) (.cons (.var 5) (.cons (.var 8) .nil)))))
    (.cons (.ifs (.or (.not (.e (.call 31 (.cons (.var 14) (.cons (.lcA [24] (.name 24) (.seq (.e (.call 56 (.cons (.var 4) (.cons (.var 6) (.cons (.var 8) .nil)))))) E_law_1) .nil))))) (.not (.e (.call 31 (.cons (.lcA [25] (.name 25) (.seq (.e (.var 14))) E_law_2) (.cons (.call 50 (.cons (.var 4) (.cons (.var 6) (.cons (.var 8) .nil)))) .nil)))))) (.cons (.ret (.bl false))
    .nil) .nil)
    (.cons (.ifs (.e (.cmp .ne (.e (.call 27 (.cons (.var 4) (.cons (.var 5) (.cons (.var 8) .nil))))) (.e (.lst (.cons (.maxL (.e (.lcA [25] (.name 25) (.seq (.e (.var 14))) E_law_2))) .nil))))) (.cons (.ret (.bl false))
    .nil) .nil)
    (.cons (.ifs (.and (.e (.notN (.var 7))) (.e (.cmp .gt (.e (.len (.e (.lc [26] (.name 26) (.range1 (.len (.e (.var 14)))) K_law_3 E_law_4)))) (.e (.int 0))))) (.cons (.ret (.bl false))
    .nil) .nil)
    (.cons (.set (.name 7) (.var 14))
    (.cons (.set (.name 15) (.call 13 (.cons (.tup (.cons (.var 3) .nil)) (.cons (.int 1) .nil))))
    (.cons (.set (.name 16) (.call 27 (.cons (.call 21 (.cons (.var 2) (.cons (.var 15) .nil))) (.cons (.call 16 (.cons (.var 2) (.cons (.var 15) .nil))) (.cons (.var 8) .nil)))))
    (.cons (.set (.name 17) (.call 28 (.cons (.tup (.cons (.var 3) .nil)) (.cons (.call 27 (.cons (.var 4) (.cons (.var 5) (.cons (.var 8) .nil)))) .nil))))
    (.cons (.ifs (.or (.not (.e (.call 31 (.cons (.var 17) (.cons (.tup (.cons (.call 34 (.cons (.var 3) (.cons (.tup (.cons (.maxL (.e (.lcA [25] (.name 25) (.seq (.e (.var 14))) E_law_2))) (.cons (.int 1) .nil))) .nil))) .nil)) .nil))))) (.not (.e (.call 43 (.cons (.ix (.e (.call 28 (.cons (.var 15) (.cons (.var 16) .nil)))) (.int 0)) (.cons (.ix (.e (.var 17)) (.int 0)) .nil)))))) (.cons (.ret (.bl false))
    .nil) .nil)
    .nil)))))))))
def L_law_6 : IB := (.cons (.set (.name 18) (.call 30 (.cons (.var 1) (.cons (.len (.e (.ix (.e (.var 2)) (.int 3)))) .nil))))
    (.cons (.set (.tup [(.name 19), (.name 20)]) (.ix (.e (.call 8 (.cons (.var 2) (.cons (.var 10) (.cons (.var 18) .nil))))) (.int 0)))
    (.cons (.set (.tup [(.name 21), (.name 22), (.name 23)]) (.call 53 (.cons (.var 1) (.cons (.var 2) (.cons (.var 10) (.cons (.var 18) (.cons (.var 9) .nil)))))))
    (.cons (.ifs (.or (.not (.e (.call 43 (.cons (.call 33 (.cons (.var 9) (.cons (.var 19) .nil))) (.cons (.var 22) .nil))))) (.not (.e (.call 43 (.cons (.var 22) (.cons (.call 33 (.cons (.var 9) (.cons (.var 20) .nil))) .nil)))))) (.cons (.ret (.bl false))
    .nil) .nil)
    (.cons (.set (.name 11) (.call 22 (.cons (.var 11) (.cons (.ix (.e (.ix (.e (.ix (.e (.var 4)) (.var 10))) (.var 18))) (.var 21)) .nil))))
    (.cons (.par 10 9 (.var 21) (.var 23))
    (.cons (.set (.name 12) (.op .add (.var 12) (.int 1)))
    (.cons (.ifs (.or (.e (.cmp .gt (.e (.var 12)) (.e (.int 3)))) (.e (.cmp .eq (.e (.call 30 (.cons (.var 1) (.cons (.int 2) .nil)))) (.e (.int 0))))) (.cons (.set (.name 11) (.call 23 (.cons (.var 11) (.cons (.call 17 (.cons (.var 5) (.cons (.tup (.cons (.call 54 (.cons (.var 1) (.cons (.var 2) (.cons (.var 3) (.cons (.var 9) .nil))))) .nil)) .nil))) .nil))))
    (.cons (.set (.name 12) (.int 0))
    .nil)) .nil)
    (.cons (.ifs (.or (.e (.isN (.var 11))) (.or (.not (.e (.call 52 (.cons (.var 9) (.cons (.var 3) (.cons (.ix (.e (.var 11)) (.int 0)) .nil)))))) (.e (.cmp .gt (.e (.ix (.e (.call 14 (.cons (.var 11) .nil))) (.int 0))) (.e (.ix (.e (.ix (.e (.call 26 (.cons (.var 4) (.cons (.var 5) (.cons (.var 12) .nil))))) (.var 10))) (.int 0))))))) (.cons (.ret (.bl false))
    .nil) .nil)
    .nil)))))))))
def B_law : IB := (.cons (.set (.name 1) (.call 29 (.cons (.var 0) .nil)))
    (.cons (.set (.name 2) (.call 44 (.cons (.var 1) .nil)))
    (.cons (.set (.name 3) (.call 55 (.cons (.var 1) .nil)))
    (.cons (.set (.name 4) (.call 21 (.cons (.var 2) (.cons (.tup (.cons (.var 3) .nil)) .nil))))
    (.cons (.set (.name 5) (.call 16 (.cons (.var 2) (.cons (.tup (.cons (.var 3) .nil)) .nil))))
    (.cons (.set (.name 6) (.op .add (.ix (.e (.ix (.e (.var 5)) (.int 0))) (.int 0)) (.ix (.e (.ix (.e (.var 5)) (.int 0))) (.int 1))))
    (.cons (.ifs (.or (.not (.e (.call 31 (.cons (.var 4) (.cons (.call 48 (.cons (.var 2) (.cons (.var 3) .nil))) .nil))))) (.not (.e (.call 31 (.cons (.var 5) (.cons (.call 49 (.cons (.var 2) (.cons (.var 3) .nil))) .nil)))))) (.cons (.ret (.bl false))
    .nil) .nil)
    (.cons (.set (.name 7) .non)
    (.cons (.loop (.name 8) (.range1 (.int 4)) L_law_5)
    (.cons (.set (.name 9) (.call 32 (.cons (.op .sub (.call 30 (.cons (.var 1) (.cons (.int 41) .nil))) (.int 20)) (.cons (.op .add (.int 1) (.call 30 (.cons (.var 1) (.cons (.int 5) .nil)))) .nil))))
    (.cons (.set (.name 10) (.call 30 (.cons (.var 1) (.cons (.len (.e (.ix (.e (.var 2)) (.int 2)))) .nil))))
    (.cons (.set (.name 11) (.call 17 (.cons (.var 5) (.cons (.tup (.cons (.call 54 (.cons (.var 1) (.cons (.var 2) (.cons (.var 3) (.cons (.var 9) .nil))))) .nil)) .nil))))
    (.cons (.set (.name 12) (.int 0))
    (.cons (.loop (.name 13) (.range1 (.int 7)) L_law_6)
    (.cons (.ret (.bl true))
    .nil)))))))))))))))
def R_law : Row := ⟨["script", "deal", "plant", "d", "offsets", "reads", "wide", "before", "j", "x", "mode", "estimate", "failed", "turn", "told", "half", "finer", "worth", "c", "low", "high", "now", "here", "later", "width", "row", "k"], ⟨1, 27, B_law⟩⟩
def rows : List Row := [R_greatest_divisor, R_ratio, R_added, R_times, R_over, R_compare, R_box_times, R_rates_of, R_beat_box, R_sum_of_boxes, R_down, R_up, R_made_whole, R_halved_units, R_widths_of, R_read_pair, R_read_pairs, R_read_box, R_box_hull, R_change_boxes, R_offset_of, R_offsets_of, R_gone_on, R_met_boxes, R_offsets_to, R_wider_widths, R_failed_widths, R_late_widths, R_late_worths, R_law_deal, R_law_take, R_law_same, R_law_ratio, R_law_plus, R_law_mult, R_law_minus, R_law_height, R_law_keeps, R_law_pick, R_law_line, R_law_row_has, R_law_floor, R_law_ceil, R_law_not_above, R_law_plant_of, R_law_edge, R_law_ways, R_law_offset, R_law_offsets, R_law_reads, R_law_failed, R_law_between, R_law_inside, R_law_ahead, R_law_reading, R_law_unit, R_law_all_ways, R_law]
def T : List IDef := rows.map (·.t)
def Cn : List Str := ["HALF"]
def Γ : List D := [.tup [.int 1, .int 2]]
abbrev f_greatest_divisor : Nat := 0
theorem T_greatest_divisor : T[f_greatest_divisor]? = some R_greatest_divisor.t := rfl
abbrev f_ratio : Nat := 1
theorem T_ratio : T[f_ratio]? = some R_ratio.t := rfl
abbrev f_added : Nat := 2
theorem T_added : T[f_added]? = some R_added.t := rfl
abbrev f_times : Nat := 3
theorem T_times : T[f_times]? = some R_times.t := rfl
abbrev f_over : Nat := 4
theorem T_over : T[f_over]? = some R_over.t := rfl
abbrev f_compare : Nat := 5
theorem T_compare : T[f_compare]? = some R_compare.t := rfl
abbrev f_box_times : Nat := 6
theorem T_box_times : T[f_box_times]? = some R_box_times.t := rfl
abbrev f_rates_of : Nat := 7
theorem T_rates_of : T[f_rates_of]? = some R_rates_of.t := rfl
abbrev f_beat_box : Nat := 8
theorem T_beat_box : T[f_beat_box]? = some R_beat_box.t := rfl
abbrev f_sum_of_boxes : Nat := 9
theorem T_sum_of_boxes : T[f_sum_of_boxes]? = some R_sum_of_boxes.t := rfl
abbrev f_down : Nat := 10
theorem T_down : T[f_down]? = some R_down.t := rfl
abbrev f_up : Nat := 11
theorem T_up : T[f_up]? = some R_up.t := rfl
abbrev f_made_whole : Nat := 12
theorem T_made_whole : T[f_made_whole]? = some R_made_whole.t := rfl
abbrev f_halved_units : Nat := 13
theorem T_halved_units : T[f_halved_units]? = some R_halved_units.t := rfl
abbrev f_widths_of : Nat := 14
theorem T_widths_of : T[f_widths_of]? = some R_widths_of.t := rfl
abbrev f_read_pair : Nat := 15
theorem T_read_pair : T[f_read_pair]? = some R_read_pair.t := rfl
abbrev f_read_pairs : Nat := 16
theorem T_read_pairs : T[f_read_pairs]? = some R_read_pairs.t := rfl
abbrev f_read_box : Nat := 17
theorem T_read_box : T[f_read_box]? = some R_read_box.t := rfl
abbrev f_box_hull : Nat := 18
theorem T_box_hull : T[f_box_hull]? = some R_box_hull.t := rfl
abbrev f_change_boxes : Nat := 19
theorem T_change_boxes : T[f_change_boxes]? = some R_change_boxes.t := rfl
abbrev f_offset_of : Nat := 20
theorem T_offset_of : T[f_offset_of]? = some R_offset_of.t := rfl
abbrev f_offsets_of : Nat := 21
theorem T_offsets_of : T[f_offsets_of]? = some R_offsets_of.t := rfl
abbrev f_gone_on : Nat := 22
theorem T_gone_on : T[f_gone_on]? = some R_gone_on.t := rfl
abbrev f_met_boxes : Nat := 23
theorem T_met_boxes : T[f_met_boxes]? = some R_met_boxes.t := rfl
abbrev f_offsets_to : Nat := 24
theorem T_offsets_to : T[f_offsets_to]? = some R_offsets_to.t := rfl
abbrev f_wider_widths : Nat := 25
theorem T_wider_widths : T[f_wider_widths]? = some R_wider_widths.t := rfl
abbrev f_failed_widths : Nat := 26
theorem T_failed_widths : T[f_failed_widths]? = some R_failed_widths.t := rfl
abbrev f_late_widths : Nat := 27
theorem T_late_widths : T[f_late_widths]? = some R_late_widths.t := rfl
abbrev f_late_worths : Nat := 28
theorem T_late_worths : T[f_late_worths]? = some R_late_worths.t := rfl
abbrev f_law_deal : Nat := 29
theorem T_law_deal : T[f_law_deal]? = some R_law_deal.t := rfl
abbrev f_law_take : Nat := 30
theorem T_law_take : T[f_law_take]? = some R_law_take.t := rfl
abbrev f_law_same : Nat := 31
theorem T_law_same : T[f_law_same]? = some R_law_same.t := rfl
abbrev f_law_ratio : Nat := 32
theorem T_law_ratio : T[f_law_ratio]? = some R_law_ratio.t := rfl
abbrev f_law_plus : Nat := 33
theorem T_law_plus : T[f_law_plus]? = some R_law_plus.t := rfl
abbrev f_law_mult : Nat := 34
theorem T_law_mult : T[f_law_mult]? = some R_law_mult.t := rfl
abbrev f_law_minus : Nat := 35
theorem T_law_minus : T[f_law_minus]? = some R_law_minus.t := rfl
abbrev f_law_height : Nat := 36
theorem T_law_height : T[f_law_height]? = some R_law_height.t := rfl
abbrev f_law_keeps : Nat := 37
theorem T_law_keeps : T[f_law_keeps]? = some R_law_keeps.t := rfl
abbrev f_law_pick : Nat := 38
theorem T_law_pick : T[f_law_pick]? = some R_law_pick.t := rfl
abbrev f_law_line : Nat := 39
theorem T_law_line : T[f_law_line]? = some R_law_line.t := rfl
abbrev f_law_row_has : Nat := 40
theorem T_law_row_has : T[f_law_row_has]? = some R_law_row_has.t := rfl
abbrev f_law_floor : Nat := 41
theorem T_law_floor : T[f_law_floor]? = some R_law_floor.t := rfl
abbrev f_law_ceil : Nat := 42
theorem T_law_ceil : T[f_law_ceil]? = some R_law_ceil.t := rfl
abbrev f_law_not_above : Nat := 43
theorem T_law_not_above : T[f_law_not_above]? = some R_law_not_above.t := rfl
abbrev f_law_plant_of : Nat := 44
theorem T_law_plant_of : T[f_law_plant_of]? = some R_law_plant_of.t := rfl
abbrev f_law_edge : Nat := 45
theorem T_law_edge : T[f_law_edge]? = some R_law_edge.t := rfl
abbrev f_law_ways : Nat := 46
theorem T_law_ways : T[f_law_ways]? = some R_law_ways.t := rfl
abbrev f_law_offset : Nat := 47
theorem T_law_offset : T[f_law_offset]? = some R_law_offset.t := rfl
abbrev f_law_offsets : Nat := 48
theorem T_law_offsets : T[f_law_offsets]? = some R_law_offsets.t := rfl
abbrev f_law_reads : Nat := 49
theorem T_law_reads : T[f_law_reads]? = some R_law_reads.t := rfl
abbrev f_law_failed : Nat := 50
theorem T_law_failed : T[f_law_failed]? = some R_law_failed.t := rfl
abbrev f_law_between : Nat := 51
theorem T_law_between : T[f_law_between]? = some R_law_between.t := rfl
abbrev f_law_inside : Nat := 52
theorem T_law_inside : T[f_law_inside]? = some R_law_inside.t := rfl
abbrev f_law_ahead : Nat := 53
theorem T_law_ahead : T[f_law_ahead]? = some R_law_ahead.t := rfl
abbrev f_law_reading : Nat := 54
theorem T_law_reading : T[f_law_reading]? = some R_law_reading.t := rfl
abbrev f_law_unit : Nat := 55
theorem T_law_unit : T[f_law_unit]? = some R_law_unit.t := rfl
abbrev f_law_all_ways : Nat := 56
theorem T_law_all_ways : T[f_law_all_ways]? = some R_law_all_ways.t := rfl
abbrev f_law : Nat := 57
theorem T_law : T[f_law]? = some R_law.t := rfl
end K48
namespace K48
open PySem DP
theorem prg : PrgB fa fn defNm fn rows Cn := prg_of (by decide +kernel) (by decide +kernel) (by decide +kernel) (by decide +kernel)
end K48

set_option linter.all false
set_option maxRecDepth 100000
set_option Elab.async false
namespace K48
open PySem PySem.Spec PyProof.Rows L2 DP
theorem cst {w : World} {mg : Str → Option Value} {h : Heap} {K : PySem.W.Frag} (X : K.In h) (c : He.SaysX fa fn [] [] ex w h K) (G : h.Ns mainGlobals mg) : ∀ (j : Nat) (x : Str) (d : D), Cn[j]? = some x → Γ[j]? = some d → CstOk K mg x d := by
  intro j x d h1 h2
  have hm : (x, d) ∈ Cn.zip Γ := List.mem_of_getElem? (i := j) (by rw [List.getElem?_zip_eq_some]; exact ⟨h1, h2⟩)
  have e : ex K = true := c.more
  simp only [Cn, Γ, List.zip_cons_cons, List.zip_nil_right, List.mem_cons, Prod.mk.injEq, List.not_mem_nil, or_false] at hm
  obtain ⟨rfl, rfl⟩ := hm
  exact cst_tup X G (c.t.d.facts (List.mem_append_right _ (by simp))) (show He.tupB K "HALF" [.int 1, .int 2] = true from e) rfl
theorem final (H : ∀ ns : List Int, ns.length ≤ 63 → ∃ g', runN T Γ 60 f_law [.fro (ns.map .int)] [] = some (.bl true, g')) : PySem.Challenge.rw_surepilot_k48_whole_late_widths_bound_es.Holds := by
  refine holds_of (k := 60) ⟨rfl, by decide, by decide⟩ fun w mg fa h K X c G hm => ?_
  have hx : defNm[f_law]? = some ("law" : Str) := by decide +kernel
  have he := He.glo_ok X G (c.t.d.facts (prg.ok f_law _ _ _ hx (show K48.fn[f_law]? = some (K48.fn[f_law]'(by decide +kernel)) from List.getElem?_eq_getElem _) (show rows[f_law]? = some R_law from rfl)).2.2)
  rw [hm] at he
  cases he
  exact law_of prg X G c.t.d (cst X c G) hx (show rows[f_law]? = some R_law from rfl) rfl H
end K48

set_option linter.all false
set_option maxRecDepth 100000
set_option Elab.async false
namespace K48
open DP
set_option exponentiation.threshold 100000
def res : Option (Fl × En × Gs) → Option (D × Gs)
  | some (.rt v, _, g1) => some (v, g1)
  | some (.nx, _, g1) => some (.non, g1)
  | _ => none
theorem run_eq {k f : Nat} {ds : List D} {g : Gs} {d : IDef} (hT : T[f]? = some d) (hl : ds.length = d.np) : runN T Γ (k + 1) f ds g = res (evB (runN T Γ k) Γ d.body (ds.map Sl.val ++ List.replicate (d.n - d.np) Sl.un) g) := by
  rw [runN]
  simp only [hT]
  rw [if_pos hl]
  generalize evB (runN T Γ k) Γ d.body (ds.map Sl.val ++ List.replicate (d.n - d.np) Sl.un) g = o
  unfold res
  rcases o with _ | ⟨fl, E, g1⟩
  · rfl
  · cases fl <;> rfl
section
variable {k n m : Nat} {p q : Int} {s t : Rat} {g : Gs}
theorem gd (hk : 0 < k) (hq : 0 ≤ q) (hb : Bd 9000 q) : runN T Γ k f_greatest_divisor [.int p, .int q] g = some (.int (Int.gcd p q), g) := by
  obtain ⟨k, rfl⟩ : ∃ k', k = k' + 1 := ⟨k - 1, by omega⟩
  obtain ⟨p', e1, e2⟩ := gd_while (g := g) (c := evT (runN T Γ k) Γ K_greatest_divisor_1) (body := evB (runN T Γ k) Γ L_greatest_divisor_2)
    (fun p q => by simp only [K_greatest_divisor_1, Nat.zero_add, Nat.reduceAdd, Nat.reduceLeDiff, lineB_val, Nat.reduceLT, Nat.zero_lt_succ, Nat.lt_add_one, reduceIte, Nat.one_pos, Nat.lt_irrefl, and_self, and_true, true_and, ne_eq, not_false_eq_true, not_true_eq_false, Nat.reduceEqDiff, Nat.reduceBEq, if_true, if_false, Bool.true_and, Bool.and_true, Bool.false_and, Bool.and_false, Bool.not_true, Bool.not_false, Bool.not_not, decide_true, decide_false, evB, evX, evE, evT, evS, evA, evI, bindT, bindTs, List.getElem?_cons_zero, List.getElem?_cons_succ, List.set_cons_zero, List.set_cons_succ, List.length_cons, List.length_nil, op2_add, op2_sub, cmpD_lt, cmpD_le, cmpD_gt, cmpD_ge, cmpD_eq, cmpD_ne, tru_bl, items_tup, items_lst, items_fro, items_ref, items_rt, still_tup, still_lst, still_fro, at0, at1, at2, at3, at4, at5, at6, at7, at8, Option.map_some]) (fun p q h => by simp only [L_greatest_divisor_2, Nat.zero_add, Nat.reduceAdd, Nat.reduceLeDiff, lineB_val, Nat.reduceLT, Nat.zero_lt_succ, Nat.lt_add_one, reduceIte, Nat.one_pos, Nat.lt_irrefl, and_self, and_true, true_and, ne_eq, not_false_eq_true, not_true_eq_false, Nat.reduceEqDiff, Nat.reduceBEq, if_true, if_false, Bool.true_and, Bool.and_true, Bool.false_and, Bool.and_false, Bool.not_true, Bool.not_false, Bool.not_not, decide_true, decide_false, evB, evX, evE, evT, evS, evA, evI, bindT, bindTs, List.getElem?_cons_zero, List.getElem?_cons_succ, List.set_cons_zero, List.set_cons_succ, List.length_cons, List.length_nil, op2_add, op2_sub, cmpD_lt, cmpD_le, cmpD_gt, cmpD_ge, cmpD_eq, cmpD_ne, tru_bl, items_tup, items_lst, items_fro, items_ref, items_rt, still_tup, still_lst, still_fro, at0, at1, at2, at3, at4, at5, at6, at7, at8, Option.map_some, op2_mod h]) whileMost p q hq (by
      have : (2 : Nat) ^ 9000 ≤ 2 ^ 20000 := two_pow_le (by omega)
      unfold Bd at hb
      unfold whileMost
      omega)
  rw [run_eq T_greatest_divisor rfl]
  show res (evB _ _ B_greatest_divisor [.val (.int p), .val (.int q)] g) = _
  unfold B_greatest_divisor
  rw [evB, evX, e1]
  simp only [Nat.zero_add, Nat.reduceAdd, Nat.reduceLeDiff, lineB_val, Nat.reduceLT, Nat.zero_lt_succ, Nat.lt_add_one, reduceIte, Nat.one_pos, Nat.lt_irrefl, and_self, and_true, true_and, ne_eq, not_false_eq_true, not_true_eq_false, Nat.reduceEqDiff, Nat.reduceBEq, if_true, if_false, Bool.true_and, Bool.and_true, Bool.false_and, Bool.and_false, Bool.not_true, Bool.not_false, Bool.not_not, decide_true, decide_false, evB, evX, evE, evT, evS, evA, evI, bindT, bindTs, List.getElem?_cons_zero, List.getElem?_cons_succ, List.set_cons_zero, List.set_cons_succ, List.length_cons, List.length_nil, op2_add, op2_sub, cmpD_lt, cmpD_le, cmpD_gt, cmpD_ge, cmpD_eq, cmpD_ne, tru_bl, items_tup, items_lst, items_fro, items_ref, items_rt, still_tup, still_lst, still_fro, at0, at1, at2, at3, at4, at5, at6, at7, at8, Option.map_some, res]
  have : (if p' < 0 then -p' else p') = (Int.gcd p q : Int) := by split <;> omega
  rw [this]
theorem run_ratio (hk : 1 < k) (hq : q ≠ 0) (h1 : Bd n p) (h2 : Bd n q) (hn : n ≤ 9000) : runN T Γ k f_ratio [.int p, .int q] g = some (rt (Rat.divInt p q), g) := by
  obtain ⟨k, rfl⟩ : ∃ k', k = k' + 1 := ⟨k - 1, by omega⟩
  rw [run_eq T_ratio rfl]
  show res (evB _ _ B_ratio [.val (.int p), .val (.int q), .un] g) = _
  unfold B_ratio
  have key : ∀ p q : Int, 0 < q → Bd n p → Bd n q → 0 < (Int.gcd p q : Int) ∧ Bd n (Int.gcd p q : Int) := fun p q hq h1 h2 => by
    have h0 : 0 < Int.gcd p q := Int.gcd_pos_of_ne_zero_right _ (by omega)
    refine ⟨by omega, Nat.lt_of_le_of_lt ?_ h2⟩
    have := Int.gcd_le_natAbs_right p (show q ≠ 0 by omega)
    simpa using this
  by_cases z : q < 0
  · obtain ⟨a1, a2⟩ := key (-p) (-q) (by omega) h1.neg h2.neg
    simp only [Nat.zero_add, Nat.reduceAdd, Nat.reduceLeDiff, lineB_val, Nat.reduceLT, Nat.zero_lt_succ, Nat.lt_add_one, reduceIte, Nat.one_pos, Nat.lt_irrefl, and_self, and_true, true_and, ne_eq, not_false_eq_true, not_true_eq_false, Nat.reduceEqDiff, Nat.reduceBEq, if_true, if_false, Bool.true_and, Bool.and_true, Bool.false_and, Bool.and_false, Bool.not_true, Bool.not_false, Bool.not_not, decide_true, decide_false, evB, evX, evE, evT, evS, evA, evI, bindT, bindTs, List.getElem?_cons_zero, List.getElem?_cons_succ, List.set_cons_zero, List.set_cons_succ, List.length_cons, List.length_nil, op2_add, op2_sub, cmpD_lt, cmpD_le, cmpD_gt, cmpD_ge, cmpD_eq, cmpD_ne, tru_bl, items_tup, items_lst, items_fro, items_ref, items_rt, still_tup, still_lst, still_fro, at0, at1, at2, at3, at4, at5, at6, at7, at8, Option.map_some, z, gd (show 0 < k by omega) (show 0 ≤ -q by omega) (h2.neg.mono hn), op2_fdiv a1 a2 hn, res]
    simp [← Rat.neg_divInt_neg p q, rt_divInt (show 0 < -q by omega)]
  · obtain ⟨a1, a2⟩ := key p q (by omega) h1 h2
    simp only [Nat.zero_add, Nat.reduceAdd, Nat.reduceLeDiff, lineB_val, Nat.reduceLT, Nat.zero_lt_succ, Nat.lt_add_one, reduceIte, Nat.one_pos, Nat.lt_irrefl, and_self, and_true, true_and, ne_eq, not_false_eq_true, not_true_eq_false, Nat.reduceEqDiff, Nat.reduceBEq, if_true, if_false, Bool.true_and, Bool.and_true, Bool.false_and, Bool.and_false, Bool.not_true, Bool.not_false, Bool.not_not, decide_true, decide_false, evB, evX, evE, evT, evS, evA, evI, bindT, bindTs, List.getElem?_cons_zero, List.getElem?_cons_succ, List.set_cons_zero, List.set_cons_succ, List.length_cons, List.length_nil, op2_add, op2_sub, cmpD_lt, cmpD_le, cmpD_gt, cmpD_ge, cmpD_eq, cmpD_ne, tru_bl, items_tup, items_lst, items_fro, items_ref, items_rt, still_tup, still_lst, still_fro, at0, at1, at2, at3, at4, at5, at6, at7, at8, Option.map_some, z, decide_false, gd (show 0 < k by omega) (show 0 ≤ q by omega) (h2.mono hn), op2_fdiv a1 a2 hn, res]
    simp [rt_divInt (show 0 < q by omega)]
theorem run_law_ratio (hk : 0 < k) (hq : q ≠ 0) (h1 : Bd n p) (h2 : Bd n q) (hn : n ≤ 9000) : runN T Γ k f_law_ratio [.int p, .int q] g = some (rt (Rat.divInt p q), g) := by
  obtain ⟨k, rfl⟩ : ∃ k', k = k' + 1 := ⟨k - 1, by omega⟩
  have key : ∀ p q : Int, 0 < q → Bd n p → Bd n q → 0 < (Int.gcd p q : Int) ∧ Bd n (Int.gcd p q : Int) := fun p q hq h1 h2 => by
    have h0 : 0 < Int.gcd p q := Int.gcd_pos_of_ne_zero_right _ (by omega)
    refine ⟨by omega, Nat.lt_of_le_of_lt ?_ h2⟩
    have := Int.gcd_le_natAbs_right p (show q ≠ 0 by omega)
    simpa using this
  have loop : ∀ p q : Int, 0 < q → Bd n p → Bd n q → ∃ d, loopRun (.name 4) (evB (runN T Γ k) Γ L_law_ratio_1) (intRow 0 (Int.toNat 100000)) [.val (.int p), .val (.int q), .val (.int (if p < 0 then -p else p)), .val (.int q), .un] g =
      some (.nx, [.val (.int p), .val (.int q), .val (.int 0), .val (.int (Int.gcd p q)), .val d], g) := fun p q hq h1 h2 => by
    have ls := fun body => loop_start (t := .name 4) (body := body) (g := g) (ds := intRow 0 (Int.toNat 100000)) (E := [.val (.int p), .val (.int q), .val (.int (if p < 0 then -p else p)), .val (.int q), .un]) (E' := [.val (.int p), .val (.int q), .val (.int (if p < 0 then -p else p)), .val (.int q), .val .non]) (fun d => rfl) (by rw [intRow_length]; decide)
    rw [ls]
    obtain ⟨d, e⟩ := gd_for (t := .name 4) (g := g) (mk := fun a b => [.val (.int p), .val (.int q), .val (.int a), .val (.int b), .un]) (mk' := fun d a b => [.val (.int p), .val (.int q), .val (.int a), .val (.int b), .val d])
      (body := evB (runN T Γ k) Γ L_law_ratio_1)
      (fun d a b => rfl) (fun d d' a b => rfl) (fun d b => by simp only [L_law_ratio_1, Nat.zero_add, Nat.reduceAdd, Nat.reduceLeDiff, lineB_val, Nat.reduceLT, Nat.zero_lt_succ, Nat.lt_add_one, reduceIte, Nat.one_pos, Nat.lt_irrefl, and_self, and_true, true_and, ne_eq, not_false_eq_true, not_true_eq_false, Nat.reduceEqDiff, Nat.reduceBEq, if_true, if_false, Bool.true_and, Bool.and_true, Bool.false_and, Bool.and_false, Bool.not_true, Bool.not_false, Bool.not_not, decide_true, decide_false, evB, evX, evE, evT, evS, evA, evI, bindT, bindTs, List.getElem?_cons_zero, List.getElem?_cons_succ, List.set_cons_zero, List.set_cons_succ, List.length_cons, List.length_nil, op2_add, op2_sub, cmpD_lt, cmpD_le, cmpD_gt, cmpD_ge, cmpD_eq, cmpD_ne, tru_bl, items_tup, items_lst, items_fro, items_ref, items_rt, still_tup, still_lst, still_fro, at0, at1, at2, at3, at4, at5, at6, at7, at8, Option.map_some, beq_self_eq_true]) (fun d a b h => by
        have : (a == 0) = false := by simp; omega
        simp only [L_law_ratio_1, Nat.zero_add, Nat.reduceAdd, Nat.reduceLeDiff, lineB_val, Nat.reduceLT, Nat.zero_lt_succ, Nat.lt_add_one, reduceIte, Nat.one_pos, Nat.lt_irrefl, and_self, and_true, true_and, ne_eq, not_false_eq_true, not_true_eq_false, Nat.reduceEqDiff, Nat.reduceBEq, if_true, if_false, Bool.true_and, Bool.and_true, Bool.false_and, Bool.and_false, Bool.not_true, Bool.not_false, Bool.not_not, decide_true, decide_false, evB, evX, evE, evT, evS, evA, evI, bindT, bindTs, List.getElem?_cons_zero, List.getElem?_cons_succ, List.set_cons_zero, List.set_cons_succ, List.length_cons, List.length_nil, op2_add, op2_sub, cmpD_lt, cmpD_le, cmpD_gt, cmpD_ge, cmpD_eq, cmpD_ne, tru_bl, items_tup, items_lst, items_fro, items_ref, items_rt, still_tup, still_lst, still_fro, at0, at1, at2, at3, at4, at5, at6, at7, at8, Option.map_some, this, op2_mod h]) n (if p < 0 then -p else p) q .non (intRow 0 (Int.toNat 100000)) (by split <;> omega) (by
        have h1' : (p.natAbs : Int) < ((2 ^ n : Nat) : Int) := Int.ofNat_lt.mpr h1
        rw [Int.natCast_pow] at h1'
        have : (if p < 0 then -p else p) = (p.natAbs : Int) := by split <;> omega
        rw [this]
        exact h1') (by omega) (by rw [intRow_length]; show 2 * n + 1 ≤ 100000; omega)
    refine ⟨d, ?_⟩
    have eg : Int.gcd (if p < 0 then -p else p) q = Int.gcd p q := by split <;> simp [Int.neg_gcd]
    rw [← eg]
    exact e
  rw [run_eq T_law_ratio rfl]
  show res (evB _ _ B_law_ratio [.val (.int p), .val (.int q), .un, .un, .un] g) = _
  unfold B_law_ratio
  have rng : (-(2 ^ 62) ≤ (100000 : Int) ∧ (100000 : Int) < 2 ^ 62) := by decide
  by_cases z : q < 0
  · obtain ⟨a1, a2⟩ := key (-p) (-q) (by omega) h1.neg h2.neg
    obtain ⟨d, e⟩ := loop (-p) (-q) (by omega) h1.neg h2.neg
    simp only [Nat.zero_add, Nat.reduceAdd, Nat.reduceLeDiff, lineB_val, Nat.reduceLT, Nat.zero_lt_succ, Nat.lt_add_one, reduceIte, Nat.one_pos, Nat.lt_irrefl, and_self, and_true, true_and, ne_eq, not_false_eq_true, not_true_eq_false, Nat.reduceEqDiff, Nat.reduceBEq, if_true, if_false, Bool.true_and, Bool.and_true, Bool.false_and, Bool.and_false, Bool.not_true, Bool.not_false, Bool.not_not, decide_true, decide_false, evB, evX, evE, evT, evS, evA, evI, bindT, bindTs, List.getElem?_cons_zero, List.getElem?_cons_succ, List.set_cons_zero, List.set_cons_succ, List.length_cons, List.length_nil, op2_add, op2_sub, cmpD_lt, cmpD_le, cmpD_gt, cmpD_ge, cmpD_eq, cmpD_ne, tru_bl, items_tup, items_lst, items_fro, items_ref, items_rt, still_tup, still_lst, still_fro, at0, at1, at2, at3, at4, at5, at6, at7, at8, Option.map_some, z, rng, e, op2_fdiv a1 a2 hn, res]
    simp [← Rat.neg_divInt_neg p q, rt_divInt (show 0 < -q by omega)]
  · obtain ⟨a1, a2⟩ := key p q (by omega) h1 h2
    obtain ⟨d, e⟩ := loop p q (by omega) h1 h2
    simp only [Nat.zero_add, Nat.reduceAdd, Nat.reduceLeDiff, lineB_val, Nat.reduceLT, Nat.zero_lt_succ, Nat.lt_add_one, reduceIte, Nat.one_pos, Nat.lt_irrefl, and_self, and_true, true_and, ne_eq, not_false_eq_true, not_true_eq_false, Nat.reduceEqDiff, Nat.reduceBEq, if_true, if_false, Bool.true_and, Bool.and_true, Bool.false_and, Bool.and_false, Bool.not_true, Bool.not_false, Bool.not_not, decide_true, decide_false, evB, evX, evE, evT, evS, evA, evI, bindT, bindTs, List.getElem?_cons_zero, List.getElem?_cons_succ, List.set_cons_zero, List.set_cons_succ, List.length_cons, List.length_nil, op2_add, op2_sub, cmpD_lt, cmpD_le, cmpD_gt, cmpD_ge, cmpD_eq, cmpD_ne, tru_bl, items_tup, items_lst, items_fro, items_ref, items_rt, still_tup, still_lst, still_fro, at0, at1, at2, at3, at4, at5, at6, at7, at8, Option.map_some, z, rng, e, op2_fdiv a1 a2 hn, res]
    simp [rt_divInt (show 0 < q by omega)]
variable {a b c d : Int}
theorem run_added (hk : 2 < k) (hb0 : 0 < b) (hd0 : 0 < d) (ha : Bd n a) (hb : Bd n b) (hc : Bd m c) (hd : Bd m d) (hn : n + m + 1 ≤ 9000) : runN T Γ k f_added [pr a b, pr c d] g = some (rt (Rat.divInt a b + Rat.divInt c d), g) := by
  obtain ⟨k, rfl⟩ : ∃ k', k = k' + 1 := ⟨k - 1, by omega⟩
  rw [run_eq T_added rfl, Rat.divInt_add_divInt _ _ (by omega) (by omega)]
  show res (evB _ _ B_added [.val (pr a b), .val (pr c d)] g) = _
  have p0 : 0 < b * d := Int.mul_pos hb0 hd0
  unfold B_added pr
  simp only [Nat.zero_add, Nat.reduceAdd, Nat.reduceLeDiff, lineB_val, Nat.reduceLT, Nat.zero_lt_succ, Nat.lt_add_one, reduceIte, Nat.one_pos, Nat.lt_irrefl, and_self, and_true, true_and, ne_eq, not_false_eq_true, not_true_eq_false, Nat.reduceEqDiff, Nat.reduceBEq, if_true, if_false, Bool.true_and, Bool.and_true, Bool.false_and, Bool.and_false, Bool.not_true, Bool.not_false, Bool.not_not, decide_true, decide_false, evB, evX, evE, evT, evS, evA, evI, bindT, bindTs, List.getElem?_cons_zero, List.getElem?_cons_succ, List.set_cons_zero, List.set_cons_succ, List.length_cons, List.length_nil, op2_add, op2_sub, cmpD_lt, cmpD_le, cmpD_gt, cmpD_ge, cmpD_eq, cmpD_ne, tru_bl, items_tup, items_lst, items_fro, items_ref, items_rt, still_tup, still_lst, still_fro, at0, at1, at2, at3, at4, at5, at6, at7, at8, Option.map_some, op2_mul ha hd (by omega), op2_mul hc hb (by omega), op2_mul hb hd (by omega), run_ratio (n := n + m + 1) (show 1 < k by omega) (show b * d ≠ 0 by omega) (((ha.mul hd).add (hc.mul hb)).mono (by omega)) ((hb.mul hd).mono (by omega)) hn, res]
theorem run_law_plus (hk : 1 < k) (hb0 : 0 < b) (hd0 : 0 < d) (ha : Bd n a) (hb : Bd n b) (hc : Bd m c) (hd : Bd m d) (hn : n + m + 1 ≤ 9000) : runN T Γ k f_law_plus [pr a b, pr c d] g = some (rt (Rat.divInt a b + Rat.divInt c d), g) := by
  obtain ⟨k, rfl⟩ : ∃ k', k = k' + 1 := ⟨k - 1, by omega⟩
  rw [run_eq T_law_plus rfl, Rat.divInt_add_divInt _ _ (by omega) (by omega)]
  show res (evB _ _ B_law_plus [.val (pr a b), .val (pr c d)] g) = _
  have p0 : 0 < b * d := Int.mul_pos hb0 hd0
  unfold B_law_plus pr
  simp only [Nat.zero_add, Nat.reduceAdd, Nat.reduceLeDiff, lineB_val, Nat.reduceLT, Nat.zero_lt_succ, Nat.lt_add_one, reduceIte, Nat.one_pos, Nat.lt_irrefl, and_self, and_true, true_and, ne_eq, not_false_eq_true, not_true_eq_false, Nat.reduceEqDiff, Nat.reduceBEq, if_true, if_false, Bool.true_and, Bool.and_true, Bool.false_and, Bool.and_false, Bool.not_true, Bool.not_false, Bool.not_not, decide_true, decide_false, evB, evX, evE, evT, evS, evA, evI, bindT, bindTs, List.getElem?_cons_zero, List.getElem?_cons_succ, List.set_cons_zero, List.set_cons_succ, List.length_cons, List.length_nil, op2_add, op2_sub, cmpD_lt, cmpD_le, cmpD_gt, cmpD_ge, cmpD_eq, cmpD_ne, tru_bl, items_tup, items_lst, items_fro, items_ref, items_rt, still_tup, still_lst, still_fro, at0, at1, at2, at3, at4, at5, at6, at7, at8, Option.map_some, op2_mul ha hd (by omega), op2_mul hc hb (by omega), op2_mul hb hd (by omega), run_law_ratio (n := n + m + 1) (show 0 < k by omega) (show b * d ≠ 0 by omega) (((ha.mul hd).add (hc.mul hb)).mono (by omega)) ((hb.mul hd).mono (by omega)) hn, res]
theorem run_times (hk : 2 < k) (hb0 : 0 < b) (hd0 : 0 < d) (ha : Bd n a) (hb : Bd n b) (hc : Bd m c) (hd : Bd m d) (hn : n + m ≤ 9000) : runN T Γ k f_times [pr a b, pr c d] g = some (rt (Rat.divInt a b * Rat.divInt c d), g) := by
  obtain ⟨k, rfl⟩ : ∃ k', k = k' + 1 := ⟨k - 1, by omega⟩
  rw [run_eq T_times rfl, Rat.divInt_mul_divInt]
  show res (evB _ _ B_times [.val (pr a b), .val (pr c d)] g) = _
  have p0 : 0 < b * d := Int.mul_pos hb0 hd0
  unfold B_times pr
  simp only [Nat.zero_add, Nat.reduceAdd, Nat.reduceLeDiff, lineB_val, Nat.reduceLT, Nat.zero_lt_succ, Nat.lt_add_one, reduceIte, Nat.one_pos, Nat.lt_irrefl, and_self, and_true, true_and, ne_eq, not_false_eq_true, not_true_eq_false, Nat.reduceEqDiff, Nat.reduceBEq, if_true, if_false, Bool.true_and, Bool.and_true, Bool.false_and, Bool.and_false, Bool.not_true, Bool.not_false, Bool.not_not, decide_true, decide_false, evB, evX, evE, evT, evS, evA, evI, bindT, bindTs, List.getElem?_cons_zero, List.getElem?_cons_succ, List.set_cons_zero, List.set_cons_succ, List.length_cons, List.length_nil, op2_add, op2_sub, cmpD_lt, cmpD_le, cmpD_gt, cmpD_ge, cmpD_eq, cmpD_ne, tru_bl, items_tup, items_lst, items_fro, items_ref, items_rt, still_tup, still_lst, still_fro, at0, at1, at2, at3, at4, at5, at6, at7, at8, Option.map_some, op2_mul ha hc (by omega), op2_mul hb hd (by omega), run_ratio (n := n + m) (show 1 < k by omega) (show b * d ≠ 0 by omega) (ha.mul hc) (hb.mul hd) hn, res]
theorem run_law_mult (hk : 1 < k) (hb0 : 0 < b) (hd0 : 0 < d) (ha : Bd n a) (hb : Bd n b) (hc : Bd m c) (hd : Bd m d) (hn : n + m ≤ 9000) : runN T Γ k f_law_mult [pr a b, pr c d] g = some (rt (Rat.divInt a b * Rat.divInt c d), g) := by
  obtain ⟨k, rfl⟩ : ∃ k', k = k' + 1 := ⟨k - 1, by omega⟩
  rw [run_eq T_law_mult rfl, Rat.divInt_mul_divInt]
  show res (evB _ _ B_law_mult [.val (pr a b), .val (pr c d)] g) = _
  have p0 : 0 < b * d := Int.mul_pos hb0 hd0
  unfold B_law_mult pr
  simp only [Nat.zero_add, Nat.reduceAdd, Nat.reduceLeDiff, lineB_val, Nat.reduceLT, Nat.zero_lt_succ, Nat.lt_add_one, reduceIte, Nat.one_pos, Nat.lt_irrefl, and_self, and_true, true_and, ne_eq, not_false_eq_true, not_true_eq_false, Nat.reduceEqDiff, Nat.reduceBEq, if_true, if_false, Bool.true_and, Bool.and_true, Bool.false_and, Bool.and_false, Bool.not_true, Bool.not_false, Bool.not_not, decide_true, decide_false, evB, evX, evE, evT, evS, evA, evI, bindT, bindTs, List.getElem?_cons_zero, List.getElem?_cons_succ, List.set_cons_zero, List.set_cons_succ, List.length_cons, List.length_nil, op2_add, op2_sub, cmpD_lt, cmpD_le, cmpD_gt, cmpD_ge, cmpD_eq, cmpD_ne, tru_bl, items_tup, items_lst, items_fro, items_ref, items_rt, still_tup, still_lst, still_fro, at0, at1, at2, at3, at4, at5, at6, at7, at8, Option.map_some, op2_mul ha hc (by omega), op2_mul hb hd (by omega), run_law_ratio (n := n + m) (show 0 < k by omega) (show b * d ≠ 0 by omega) (ha.mul hc) (hb.mul hd) hn, res]
theorem run_over (hk : 2 < k) (hb0 : 0 < b) (hc0 : 0 < c) (hd0 : 0 < d) (ha : Bd n a) (hb : Bd n b) (hc : Bd m c) (hd : Bd m d) (hn : n + m ≤ 9000) : runN T Γ k f_over [pr a b, pr c d] g = some (rt (Rat.divInt (a * d) (b * c)), g) := by
  obtain ⟨k, rfl⟩ : ∃ k', k = k' + 1 := ⟨k - 1, by omega⟩
  rw [run_eq T_over rfl]
  show res (evB _ _ B_over [.val (pr a b), .val (pr c d)] g) = _
  have p0 : 0 < b * c := Int.mul_pos hb0 hc0
  unfold B_over pr
  simp only [Nat.zero_add, Nat.reduceAdd, Nat.reduceLeDiff, lineB_val, Nat.reduceLT, Nat.zero_lt_succ, Nat.lt_add_one, reduceIte, Nat.one_pos, Nat.lt_irrefl, and_self, and_true, true_and, ne_eq, not_false_eq_true, not_true_eq_false, Nat.reduceEqDiff, Nat.reduceBEq, if_true, if_false, Bool.true_and, Bool.and_true, Bool.false_and, Bool.and_false, Bool.not_true, Bool.not_false, Bool.not_not, decide_true, decide_false, evB, evX, evE, evT, evS, evA, evI, bindT, bindTs, List.getElem?_cons_zero, List.getElem?_cons_succ, List.set_cons_zero, List.set_cons_succ, List.length_cons, List.length_nil, op2_add, op2_sub, cmpD_lt, cmpD_le, cmpD_gt, cmpD_ge, cmpD_eq, cmpD_ne, tru_bl, items_tup, items_lst, items_fro, items_ref, items_rt, still_tup, still_lst, still_fro, at0, at1, at2, at3, at4, at5, at6, at7, at8, Option.map_some, op2_mul ha hd (by omega), op2_mul hb hc (by omega), run_ratio (n := n + m) (show 1 < k by omega) (show b * c ≠ 0 by omega) (ha.mul hd) (hb.mul hc) hn, res]
theorem run_compare (hk : 0 < k) (ha : Bd n a) (hb : Bd n b) (hc : Bd m c) (hd : Bd m d) (hn : n + m ≤ 9000) : runN T Γ k f_compare [pr a b, pr c d] g = some (.int (if a * d - c * b < 0 then -1 else if 0 < a * d - c * b then 1 else 0), g) := by
  obtain ⟨k, rfl⟩ : ∃ k', k = k' + 1 := ⟨k - 1, by omega⟩
  rw [run_eq T_compare rfl]
  show res (evB _ _ B_compare [.val (pr a b), .val (pr c d), .un] g) = _
  unfold B_compare pr
  by_cases h1 : a * d - c * b < 0
  · simp only [Nat.zero_add, Nat.reduceAdd, Nat.reduceLeDiff, lineB_val, Nat.reduceLT, Nat.zero_lt_succ, Nat.lt_add_one, reduceIte, Nat.one_pos, Nat.lt_irrefl, and_self, and_true, true_and, ne_eq, not_false_eq_true, not_true_eq_false, Nat.reduceEqDiff, Nat.reduceBEq, if_true, if_false, Bool.true_and, Bool.and_true, Bool.false_and, Bool.and_false, Bool.not_true, Bool.not_false, Bool.not_not, decide_true, decide_false, evB, evX, evE, evT, evS, evA, evI, bindT, bindTs, List.getElem?_cons_zero, List.getElem?_cons_succ, List.set_cons_zero, List.set_cons_succ, List.length_cons, List.length_nil, op2_add, op2_sub, cmpD_lt, cmpD_le, cmpD_gt, cmpD_ge, cmpD_eq, cmpD_ne, tru_bl, items_tup, items_lst, items_fro, items_ref, items_rt, still_tup, still_lst, still_fro, at0, at1, at2, at3, at4, at5, at6, at7, at8, Option.map_some, op2_mul ha hd (by omega), op2_mul hc hb (by omega), h1, res]
  · by_cases h2 : 0 < a * d - c * b
    · simp only [Nat.zero_add, Nat.reduceAdd, Nat.reduceLeDiff, lineB_val, Nat.reduceLT, Nat.zero_lt_succ, Nat.lt_add_one, reduceIte, Nat.one_pos, Nat.lt_irrefl, and_self, and_true, true_and, ne_eq, not_false_eq_true, not_true_eq_false, Nat.reduceEqDiff, Nat.reduceBEq, if_true, if_false, Bool.true_and, Bool.and_true, Bool.false_and, Bool.and_false, Bool.not_true, Bool.not_false, Bool.not_not, decide_true, decide_false, evB, evX, evE, evT, evS, evA, evI, bindT, bindTs, List.getElem?_cons_zero, List.getElem?_cons_succ, List.set_cons_zero, List.set_cons_succ, List.length_cons, List.length_nil, op2_add, op2_sub, cmpD_lt, cmpD_le, cmpD_gt, cmpD_ge, cmpD_eq, cmpD_ne, tru_bl, items_tup, items_lst, items_fro, items_ref, items_rt, still_tup, still_lst, still_fro, at0, at1, at2, at3, at4, at5, at6, at7, at8, Option.map_some, op2_mul ha hd (by omega), op2_mul hc hb (by omega), h1, h2, res]
    · simp only [Nat.zero_add, Nat.reduceAdd, Nat.reduceLeDiff, lineB_val, Nat.reduceLT, Nat.zero_lt_succ, Nat.lt_add_one, reduceIte, Nat.one_pos, Nat.lt_irrefl, and_self, and_true, true_and, ne_eq, not_false_eq_true, not_true_eq_false, Nat.reduceEqDiff, Nat.reduceBEq, if_true, if_false, Bool.true_and, Bool.and_true, Bool.false_and, Bool.and_false, Bool.not_true, Bool.not_false, Bool.not_not, decide_true, decide_false, evB, evX, evE, evT, evS, evA, evI, bindT, bindTs, List.getElem?_cons_zero, List.getElem?_cons_succ, List.set_cons_zero, List.set_cons_succ, List.length_cons, List.length_nil, op2_add, op2_sub, cmpD_lt, cmpD_le, cmpD_gt, cmpD_ge, cmpD_eq, cmpD_ne, tru_bl, items_tup, items_lst, items_fro, items_ref, items_rt, still_tup, still_lst, still_fro, at0, at1, at2, at3, at4, at5, at6, at7, at8, Option.map_some, op2_mul ha hd (by omega), op2_mul hc hb (by omega), h1, h2, res]
theorem run_law_not_above (hk : 0 < k) (ha : Bd n a) (hb : Bd n b) (hc : Bd m c) (hd : Bd m d) (hn : n + m ≤ 9000) : runN T Γ k f_law_not_above [pr a b, pr c d] g = some (.bl (decide (a * d ≤ c * b)), g) := by
  obtain ⟨k, rfl⟩ : ∃ k', k = k' + 1 := ⟨k - 1, by omega⟩
  rw [run_eq T_law_not_above rfl]
  show res (evB _ _ B_law_not_above [.val (pr a b), .val (pr c d)] g) = _
  unfold B_law_not_above pr
  simp only [Nat.zero_add, Nat.reduceAdd, Nat.reduceLeDiff, lineB_val, Nat.reduceLT, Nat.zero_lt_succ, Nat.lt_add_one, reduceIte, Nat.one_pos, Nat.lt_irrefl, and_self, and_true, true_and, ne_eq, not_false_eq_true, not_true_eq_false, Nat.reduceEqDiff, Nat.reduceBEq, if_true, if_false, Bool.true_and, Bool.and_true, Bool.false_and, Bool.and_false, Bool.not_true, Bool.not_false, Bool.not_not, decide_true, decide_false, evB, evX, evE, evT, evS, evA, evI, bindT, bindTs, List.getElem?_cons_zero, List.getElem?_cons_succ, List.set_cons_zero, List.set_cons_succ, List.length_cons, List.length_nil, op2_add, op2_sub, cmpD_lt, cmpD_le, cmpD_gt, cmpD_ge, cmpD_eq, cmpD_ne, tru_bl, items_tup, items_lst, items_fro, items_ref, items_rt, still_tup, still_lst, still_fro, at0, at1, at2, at3, at4, at5, at6, at7, at8, Option.map_some, op2_mul ha hd (by omega), op2_mul hc hb (by omega), res]
end
end K48

set_option linter.all false
set_option maxRecDepth 100000
set_option Elab.async false
set_option exponentiation.threshold 100000
namespace K48
open DP
section
variable {k n m : Nat} {p q : Int} {s t d e l h : Rat} {g : Gs}
theorem dv (x : Rat) : Rat.divInt x.num x.den = x := Rat.num_divInt_den x
theorem run_added_rt (hk : 2 < k) (hs : Z n s) (ht : Z m t) (hn : n + m + 1 ≤ 9000) : runN T Γ k f_added [rt s, rt t] g = some (rt (s + t), g) := by
  have := run_added (g := g) hk (den_pos s) (den_pos t) hs.num hs.den ht.num ht.den hn
  rwa [dv, dv] at this
theorem run_times_rt (hk : 2 < k) (hs : Z n s) (ht : Z m t) (hn : n + m ≤ 9000) : runN T Γ k f_times [rt s, rt t] g = some (rt (s * t), g) := by
  have := run_times (g := g) hk (den_pos s) (den_pos t) hs.num hs.den ht.num ht.den hn
  rwa [dv, dv] at this
theorem run_plus_rt (hk : 1 < k) (hs : Z n s) (ht : Z m t) (hn : n + m + 1 ≤ 9000) : runN T Γ k f_law_plus [rt s, rt t] g = some (rt (s + t), g) := by
  have := run_law_plus (g := g) hk (den_pos s) (den_pos t) hs.num hs.den ht.num ht.den hn
  rwa [dv, dv] at this
theorem run_mult_rt (hk : 1 < k) (hs : Z n s) (ht : Z m t) (hn : n + m ≤ 9000) : runN T Γ k f_law_mult [rt s, rt t] g = some (rt (s * t), g) := by
  have := run_law_mult (g := g) hk (den_pos s) (den_pos t) hs.num hs.den ht.num ht.den hn
  rwa [dv, dv] at this
theorem run_minus_rt (hk : 2 < k) (hs : Z n s) (ht : Z m t) (hn : n + m + 1 ≤ 9000) : runN T Γ k f_law_minus [rt s, rt t] g = some (rt (s - t), g) := by
  obtain ⟨k, rfl⟩ : ∃ k', k = k' + 1 := ⟨k - 1, by omega⟩
  rw [run_eq T_law_minus rfl]
  show res (evB _ _ B_law_minus [.val (rt s), .val (rt t)] g) = _
  have := run_plus_rt (g := g) (show 1 < k by omega) hs ht.neg hn
  unfold rt at this ⊢
  rw [Rat.neg_num, Rat.neg_den] at this
  unfold B_law_minus
  simp only [Nat.zero_add, Nat.reduceAdd, Nat.reduceLeDiff, lineB_val, Nat.reduceLT, Nat.zero_lt_succ, Nat.lt_add_one, reduceIte, Nat.one_pos, Nat.lt_irrefl, and_self, and_true, true_and, ne_eq, not_false_eq_true, not_true_eq_false, Nat.reduceEqDiff, Nat.reduceBEq, if_true, if_false, Bool.true_and, Bool.and_true, Bool.false_and, Bool.and_false, Bool.not_true, Bool.not_false, Bool.not_not, decide_true, decide_false, evB, evX, evE, evT, evS, evA, evI, bindT, bindTs, List.getElem?_cons_zero, List.getElem?_cons_succ, List.set_cons_zero, List.set_cons_succ, List.length_cons, List.length_nil, op2_add, op2_sub, cmpD_lt, cmpD_le, cmpD_gt, cmpD_ge, cmpD_eq, cmpD_ne, tru_bl, items_tup, items_lst, items_fro, items_ref, items_rt, still_tup, still_lst, still_fro, at0, at1, at2, at3, at4, at5, at6, at7, at8, Option.map_some, this, res]
  rw [Rat.sub_eq_add_neg]
theorem run_compare_rt (hk : 0 < k) (hs : Z n s) (ht : Z m t) (hn : n + m ≤ 9000) : runN T Γ k f_compare [rt s, rt t] g = some (.int (if s < t then -1 else if t < s then 1 else 0), g) := by
  have := run_compare (g := g) hk hs.num hs.den ht.num ht.den hn
  rw [← rt_pr, ← rt_pr] at this
  rw [this]
  have e1 : (s.num * t.den - t.num * s.den < 0) = (s < t) := propext (lt_cross s t)
  have e2 : (0 < s.num * t.den - t.num * s.den) = (t < s) := propext (by rw [← lt_cross t s]; omega)
  simp only [e1, e2]
theorem run_na_rt (hk : 0 < k) (hs : Z n s) (ht : Z m t) (hn : n + m ≤ 9000) : runN T Γ k f_law_not_above [rt s, rt t] g = some (.bl (decide (s ≤ t)), g) := by
  have := run_law_not_above (g := g) hk hs.num hs.den ht.num ht.den hn
  rw [← rt_pr, ← rt_pr] at this
  rw [this]
  have e1 : (s.num * t.den ≤ t.num * s.den) = (s ≤ t) := propext (le_cross s t)
  simp only [e1]
theorem num_pos {x : Rat} (h : 0 < x) : 0 < x.num := by
  have h1 := Rat.num_nonneg.mpr (Rat.le_of_lt h)
  have h2 : x.num ≠ 0 := fun z => by rw [Rat.num_eq_zero] at z; subst z; exact Rat.lt_irrefl h
  omega
theorem over_rt (hk : 2 < k) (hs : Z n s) (hd : Z m d) (hp : 0 < d) (hn : n + m ≤ 9000) : runN T Γ k f_over [rt s, rt d] g = some (rt (s / d), g) := by
  have := run_over (g := g) hk (den_pos s) (num_pos hp) (den_pos d) hs.num hs.den hd.num hd.den hn
  rw [← div_divInt] at this
  exact this
theorem run_down (hk : 3 < k) (hs : Z n s) (hd : Z m d) (hp : 0 < d) (hn : n + m ≤ 9000) (h0 : 0 < n + m) : runN T Γ k f_down [rt s, rt d] g = some (.int (s / d).floor, g) := by
  obtain ⟨k, rfl⟩ : ∃ k', k = k' + 1 := ⟨k - 1, by omega⟩
  rw [run_eq T_down rfl]
  show res (evB _ _ B_down [.val (rt s), .val (rt d), .un, .un] g) = _
  have z := hs.div hd h0
  unfold B_down
  simp only [Nat.zero_add, Nat.reduceAdd, Nat.reduceLeDiff, lineB_val, Nat.reduceLT, Nat.zero_lt_succ, Nat.lt_add_one, reduceIte, Nat.one_pos, Nat.lt_irrefl, and_self, and_true, true_and, ne_eq, not_false_eq_true, not_true_eq_false, Nat.reduceEqDiff, Nat.reduceBEq, if_true, if_false, Bool.true_and, Bool.and_true, Bool.false_and, Bool.and_false, Bool.not_true, Bool.not_false, Bool.not_not, decide_true, decide_false, evB, evX, evE, evT, evS, evA, evI, bindT, bindTs, List.getElem?_cons_zero, List.getElem?_cons_succ, List.set_cons_zero, List.set_cons_succ, List.length_cons, List.length_nil, op2_add, op2_sub, cmpD_lt, cmpD_le, cmpD_gt, cmpD_ge, cmpD_eq, cmpD_ne, tru_bl, items_tup, items_lst, items_fro, items_ref, items_rt, still_tup, still_lst, still_fro, at0, at1, at2, at3, at4, at5, at6, at7, at8, Option.map_some, over_rt (g := g) (show 2 < k by omega) hs hd hp hn]
  unfold rt
  simp only [Nat.zero_add, Nat.reduceAdd, Nat.reduceLeDiff, lineB_val, Nat.reduceLT, Nat.zero_lt_succ, Nat.lt_add_one, reduceIte, Nat.one_pos, Nat.lt_irrefl, and_self, and_true, true_and, ne_eq, not_false_eq_true, not_true_eq_false, Nat.reduceEqDiff, Nat.reduceBEq, if_true, if_false, Bool.true_and, Bool.and_true, Bool.false_and, Bool.and_false, Bool.not_true, Bool.not_false, Bool.not_not, decide_true, decide_false, evB, evX, evE, evT, evS, evA, evI, bindT, bindTs, List.getElem?_cons_zero, List.getElem?_cons_succ, List.set_cons_zero, List.set_cons_succ, List.length_cons, List.length_nil, op2_add, op2_sub, cmpD_lt, cmpD_le, cmpD_gt, cmpD_ge, cmpD_eq, cmpD_ne, tru_bl, items_tup, items_lst, items_fro, items_ref, items_rt, still_tup, still_lst, still_fro, at0, at1, at2, at3, at4, at5, at6, at7, at8, Option.map_some, op2_fdiv (den_pos _) z.den hn, res]
  rw [Rat.floor_def]
theorem run_up (hk : 3 < k) (hs : Z n s) (hd : Z m d) (hp : 0 < d) (hn : n + m ≤ 9000) (h0 : 0 < n + m) : runN T Γ k f_up [rt s, rt d] g = some (.int (s / d).ceil, g) := by
  obtain ⟨k, rfl⟩ : ∃ k', k = k' + 1 := ⟨k - 1, by omega⟩
  rw [run_eq T_up rfl]
  show res (evB _ _ B_up [.val (rt s), .val (rt d), .un, .un] g) = _
  have z := hs.div hd h0
  unfold B_up
  simp only [Nat.zero_add, Nat.reduceAdd, Nat.reduceLeDiff, lineB_val, Nat.reduceLT, Nat.zero_lt_succ, Nat.lt_add_one, reduceIte, Nat.one_pos, Nat.lt_irrefl, and_self, and_true, true_and, ne_eq, not_false_eq_true, not_true_eq_false, Nat.reduceEqDiff, Nat.reduceBEq, if_true, if_false, Bool.true_and, Bool.and_true, Bool.false_and, Bool.and_false, Bool.not_true, Bool.not_false, Bool.not_not, decide_true, decide_false, evB, evX, evE, evT, evS, evA, evI, bindT, bindTs, List.getElem?_cons_zero, List.getElem?_cons_succ, List.set_cons_zero, List.set_cons_succ, List.length_cons, List.length_nil, op2_add, op2_sub, cmpD_lt, cmpD_le, cmpD_gt, cmpD_ge, cmpD_eq, cmpD_ne, tru_bl, items_tup, items_lst, items_fro, items_ref, items_rt, still_tup, still_lst, still_fro, at0, at1, at2, at3, at4, at5, at6, at7, at8, Option.map_some, over_rt (g := g) (show 2 < k by omega) hs hd hp hn]
  unfold rt
  simp only [Nat.zero_add, Nat.reduceAdd, Nat.reduceLeDiff, lineB_val, Nat.reduceLT, Nat.zero_lt_succ, Nat.lt_add_one, reduceIte, Nat.one_pos, Nat.lt_irrefl, and_self, and_true, true_and, ne_eq, not_false_eq_true, not_true_eq_false, Nat.reduceEqDiff, Nat.reduceBEq, if_true, if_false, Bool.true_and, Bool.and_true, Bool.false_and, Bool.and_false, Bool.not_true, Bool.not_false, Bool.not_not, decide_true, decide_false, evB, evX, evE, evT, evS, evA, evI, bindT, bindTs, List.getElem?_cons_zero, List.getElem?_cons_succ, List.set_cons_zero, List.set_cons_succ, List.length_cons, List.length_nil, op2_add, op2_sub, cmpD_lt, cmpD_le, cmpD_gt, cmpD_ge, cmpD_eq, cmpD_ne, tru_bl, items_tup, items_lst, items_fro, items_ref, items_rt, still_tup, still_lst, still_fro, at0, at1, at2, at3, at4, at5, at6, at7, at8, Option.map_some, op2_fdiv (den_pos _) z.den hn, res]
  rw [Rat.ceil_eq_neg_floor_neg, Rat.floor_def, Rat.neg_num, Rat.neg_den]
theorem run_floor (hk : 1 < k) (hs : Z n s) (hd : Z m d) (hp : 0 < d) (hn : n + m ≤ 9000) (h0 : 0 < n + m) : runN T Γ k f_law_floor [rt s, rt d] g = some (.int (s / d).floor, g) := by
  obtain ⟨k, rfl⟩ : ∃ k', k = k' + 1 := ⟨k - 1, by omega⟩
  rw [run_eq T_law_floor rfl]
  have z := hs.div hd h0
  have p0 : 0 < (s.den : Int) * d.num := Int.mul_pos (den_pos s) (num_pos hp)
  have e := run_law_ratio (g := g) (k := k) (p := s.num * d.den) (q := s.den * d.num) (by omega) (by omega) (hs.num.mul hd.den) (hs.den.mul hd.num) hn
  rw [← div_divInt] at e
  show res (evB _ _ B_law_floor [.val (rt s), .val (rt d), .un] g) = _
  unfold B_law_floor
  unfold rt at e ⊢
  simp only [Nat.zero_add, Nat.reduceAdd, Nat.reduceLeDiff, lineB_val, Nat.reduceLT, Nat.zero_lt_succ, Nat.lt_add_one, reduceIte, Nat.one_pos, Nat.lt_irrefl, and_self, and_true, true_and, ne_eq, not_false_eq_true, not_true_eq_false, Nat.reduceEqDiff, Nat.reduceBEq, if_true, if_false, Bool.true_and, Bool.and_true, Bool.false_and, Bool.and_false, Bool.not_true, Bool.not_false, Bool.not_not, decide_true, decide_false, evB, evX, evE, evT, evS, evA, evI, bindT, bindTs, List.getElem?_cons_zero, List.getElem?_cons_succ, List.set_cons_zero, List.set_cons_succ, List.length_cons, List.length_nil, op2_add, op2_sub, cmpD_lt, cmpD_le, cmpD_gt, cmpD_ge, cmpD_eq, cmpD_ne, tru_bl, items_tup, items_lst, items_fro, items_ref, items_rt, still_tup, still_lst, still_fro, at0, at1, at2, at3, at4, at5, at6, at7, at8, Option.map_some, op2_mul hs.num hd.den (by omega), op2_mul hs.den hd.num (by omega), e, op2_fdiv (den_pos _) z.den hn, res]
  rw [Rat.floor_def]
theorem run_ceil (hk : 2 < k) (hs : Z n s) (hd : Z m d) (hp : 0 < d) (hn : n + m ≤ 9000) (h0 : 0 < n + m) : runN T Γ k f_law_ceil [rt s, rt d] g = some (.int (s / d).ceil, g) := by
  obtain ⟨k, rfl⟩ : ∃ k', k = k' + 1 := ⟨k - 1, by omega⟩
  rw [run_eq T_law_ceil rfl]
  have e := run_floor (g := g) (show 1 < k by omega) hs.neg hd hp hn h0
  show res (evB _ _ B_law_ceil [.val (rt s), .val (rt d)] g) = _
  unfold B_law_ceil
  unfold rt at e ⊢
  rw [Rat.neg_num, Rat.neg_den] at e
  simp only [Nat.zero_add, Nat.reduceAdd, Nat.reduceLeDiff, lineB_val, Nat.reduceLT, Nat.zero_lt_succ, Nat.lt_add_one, reduceIte, Nat.one_pos, Nat.lt_irrefl, and_self, and_true, true_and, ne_eq, not_false_eq_true, not_true_eq_false, Nat.reduceEqDiff, Nat.reduceBEq, if_true, if_false, Bool.true_and, Bool.and_true, Bool.false_and, Bool.and_false, Bool.not_true, Bool.not_false, Bool.not_not, decide_true, decide_false, evB, evX, evE, evT, evS, evA, evI, bindT, bindTs, List.getElem?_cons_zero, List.getElem?_cons_succ, List.set_cons_zero, List.set_cons_succ, List.length_cons, List.length_nil, op2_add, op2_sub, cmpD_lt, cmpD_le, cmpD_gt, cmpD_ge, cmpD_eq, cmpD_ne, tru_bl, items_tup, items_lst, items_fro, items_ref, items_rt, still_tup, still_lst, still_fro, at0, at1, at2, at3, at4, at5, at6, at7, at8, Option.map_some, e, res]
  have : -s / d = -(s / d) := by rw [Rat.div_def, Rat.div_def, Rat.neg_mul]
  rw [Rat.ceil_eq_neg_floor_neg, this]

/-! ### boxes -/
def bx (l h : Rat) : D := .tup [.tup [rt l, rt h]]
def ib (a b : Int) : D := .tup [.tup [.int a, .int b]]
theorem run_box_times (hk : 3 < k) (hl : Z n l) (hh : Z n h) (ht : Z m t) (hn : n + m ≤ 9000) : runN T Γ k f_box_times [bx l h, rt t] g = some (bx (l * t) (h * t), g) := by
  obtain ⟨k, rfl⟩ : ∃ k', k = k' + 1 := ⟨k - 1, by omega⟩
  rw [run_eq T_box_times rfl]
  show res (evB _ _ B_box_times [.val (bx l h), .val (rt t), .un, .un] g) = _
  unfold B_box_times bx
  simp only [Nat.zero_add, Nat.reduceAdd, Nat.reduceLeDiff, lineB_val, Nat.reduceLT, Nat.zero_lt_succ, Nat.lt_add_one, reduceIte, Nat.one_pos, Nat.lt_irrefl, and_self, and_true, true_and, ne_eq, not_false_eq_true, not_true_eq_false, Nat.reduceEqDiff, Nat.reduceBEq, if_true, if_false, Bool.true_and, Bool.and_true, Bool.false_and, Bool.and_false, Bool.not_true, Bool.not_false, Bool.not_not, decide_true, decide_false, evB, evX, evE, evT, evS, evA, evI, bindT, bindTs, List.getElem?_cons_zero, List.getElem?_cons_succ, List.set_cons_zero, List.set_cons_succ, List.length_cons, List.length_nil, op2_add, op2_sub, cmpD_lt, cmpD_le, cmpD_gt, cmpD_ge, cmpD_eq, cmpD_ne, tru_bl, items_tup, items_lst, items_fro, items_ref, items_rt, still_tup, still_lst, still_fro, at0, at1, at2, at3, at4, at5, at6, at7, at8, Option.map_some, lcRun, wipeE, E_box_times_1, run_times_rt (g := g) (show 2 < k by omega) hl ht hn, run_times_rt (g := g) (show 2 < k by omega) hh ht hn, res]
theorem run_sum (hk : 3 < k) {l2 h2 : Rat} (hl : Z n l) (hh : Z n h) (hl2 : Z m l2) (hh2 : Z m h2) (hn : n + m + 1 ≤ 9000) : runN T Γ k f_sum_of_boxes [bx l h, bx l2 h2] g = some (bx (l + l2) (h + h2), g) := by
  obtain ⟨k, rfl⟩ : ∃ k', k = k' + 1 := ⟨k - 1, by omega⟩
  rw [run_eq T_sum_of_boxes rfl]
  show res (evB _ _ B_sum_of_boxes [.val (bx l h), .val (bx l2 h2), .un, .un, .un, .un] g) = _
  unfold B_sum_of_boxes bx
  simp only [Nat.zero_add, Nat.reduceAdd, Nat.reduceLeDiff, lineB_val, Nat.reduceLT, Nat.zero_lt_succ, Nat.lt_add_one, reduceIte, Nat.one_pos, Nat.lt_irrefl, and_self, and_true, true_and, ne_eq, not_false_eq_true, not_true_eq_false, Nat.reduceEqDiff, Nat.reduceBEq, if_true, if_false, Bool.true_and, Bool.and_true, Bool.false_and, Bool.and_false, Bool.not_true, Bool.not_false, Bool.not_not, decide_true, decide_false, evB, evX, evE, evT, evS, evA, evI, bindT, bindTs, List.getElem?_cons_zero, List.getElem?_cons_succ, List.set_cons_zero, List.set_cons_succ, List.length_cons, List.length_nil, op2_add, op2_sub, cmpD_lt, cmpD_le, cmpD_gt, cmpD_ge, cmpD_eq, cmpD_ne, tru_bl, items_tup, items_lst, items_fro, items_ref, items_rt, still_tup, still_lst, still_fro, at0, at1, at2, at3, at4, at5, at6, at7, at8, Option.map_some, lcRun, wipeE, pairs, E_sum_of_boxes_1, run_added_rt (g := g) (show 2 < k by omega) hl hl2 hn, run_added_rt (g := g) (show 2 < k by omega) hh hh2 hn, res]
theorem run_whole (hk : 4 < k) (hl : Z n l) (hh : Z n h) (hd : Z m d) (hp : 0 < d) (hn : n + m ≤ 9000) (h0 : 0 < n + m) : runN T Γ k f_made_whole [.tup [rt d], bx l h] g = some (ib (l / d).floor (h / d).ceil, g) := by
  obtain ⟨k, rfl⟩ : ∃ k', k = k' + 1 := ⟨k - 1, by omega⟩
  rw [run_eq T_made_whole rfl]
  show res (evB _ _ B_made_whole [.val (.tup [rt d]), .val (bx l h), .un, .un, .un] g) = _
  unfold B_made_whole bx ib
  simp only [Nat.zero_add, Nat.reduceAdd, Nat.reduceLeDiff, lineB_val, Nat.reduceLT, Nat.zero_lt_succ, Nat.lt_add_one, reduceIte, Nat.one_pos, Nat.lt_irrefl, and_self, and_true, true_and, ne_eq, not_false_eq_true, not_true_eq_false, Nat.reduceEqDiff, Nat.reduceBEq, if_true, if_false, Bool.true_and, Bool.and_true, Bool.false_and, Bool.and_false, Bool.not_true, Bool.not_false, Bool.not_not, decide_true, decide_false, evB, evX, evE, evT, evS, evA, evI, bindT, bindTs, List.getElem?_cons_zero, List.getElem?_cons_succ, List.set_cons_zero, List.set_cons_succ, List.length_cons, List.length_nil, op2_add, op2_sub, cmpD_lt, cmpD_le, cmpD_gt, cmpD_ge, cmpD_eq, cmpD_ne, tru_bl, items_tup, items_lst, items_fro, items_ref, items_rt, still_tup, still_lst, still_fro, at0, at1, at2, at3, at4, at5, at6, at7, at8, Option.map_some, lcRun, wipeE, pairs, E_made_whole_1, run_down (g := g) (show 3 < k by omega) hl hd hp hn h0, run_up (g := g) (show 3 < k by omega) hh hd hp hn h0, res]
theorem run_widths (hk : 0 < k) : runN T Γ k f_widths_of [ib p q] g = some (.lst [.int (q - p)], g) := by
  obtain ⟨k, rfl⟩ : ∃ k', k = k' + 1 := ⟨k - 1, by omega⟩
  rw [run_eq T_widths_of rfl]
  show res (evB _ _ B_widths_of [.val (ib p q), .un, .un] g) = _
  unfold B_widths_of ib
  simp only [Nat.zero_add, Nat.reduceAdd, Nat.reduceLeDiff, lineB_val, Nat.reduceLT, Nat.zero_lt_succ, Nat.lt_add_one, reduceIte, Nat.one_pos, Nat.lt_irrefl, and_self, and_true, true_and, ne_eq, not_false_eq_true, not_true_eq_false, Nat.reduceEqDiff, Nat.reduceBEq, if_true, if_false, Bool.true_and, Bool.and_true, Bool.false_and, Bool.and_false, Bool.not_true, Bool.not_false, Bool.not_not, decide_true, decide_false, evB, evX, evE, evT, evS, evA, evI, bindT, bindTs, List.getElem?_cons_zero, List.getElem?_cons_succ, List.set_cons_zero, List.set_cons_succ, List.length_cons, List.length_nil, op2_add, op2_sub, cmpD_lt, cmpD_le, cmpD_gt, cmpD_ge, cmpD_eq, cmpD_ne, tru_bl, items_tup, items_lst, items_fro, items_ref, items_rt, still_tup, still_lst, still_fro, at0, at1, at2, at3, at4, at5, at6, at7, at8, Option.map_some, lcRun, wipeE, E_widths_of_1, res]
theorem run_read_pair (hk : 4 < k) (he : Z n e) (hd : Z m d) (hp : 0 < d) (hn : n + m ≤ 9000) (h0 : 0 < n + m) : runN T Γ k f_read_pair [rt e, rt d] g = some (.tup [.int (e / d).ceil, .int ((e / d).ceil + 1)], g) := by
  obtain ⟨k, rfl⟩ : ∃ k', k = k' + 1 := ⟨k - 1, by omega⟩
  rw [run_eq T_read_pair rfl]
  show res (evB _ _ B_read_pair [.val (rt e), .val (rt d), .un] g) = _
  unfold B_read_pair
  simp only [Nat.zero_add, Nat.reduceAdd, Nat.reduceLeDiff, lineB_val, Nat.reduceLT, Nat.zero_lt_succ, Nat.lt_add_one, reduceIte, Nat.one_pos, Nat.lt_irrefl, and_self, and_true, true_and, ne_eq, not_false_eq_true, not_true_eq_false, Nat.reduceEqDiff, Nat.reduceBEq, if_true, if_false, Bool.true_and, Bool.and_true, Bool.false_and, Bool.and_false, Bool.not_true, Bool.not_false, Bool.not_not, decide_true, decide_false, evB, evX, evE, evT, evS, evA, evI, bindT, bindTs, List.getElem?_cons_zero, List.getElem?_cons_succ, List.set_cons_zero, List.set_cons_succ, List.length_cons, List.length_nil, op2_add, op2_sub, cmpD_lt, cmpD_le, cmpD_gt, cmpD_ge, cmpD_eq, cmpD_ne, tru_bl, items_tup, items_lst, items_fro, items_ref, items_rt, still_tup, still_lst, still_fro, at0, at1, at2, at3, at4, at5, at6, at7, at8, Option.map_some, run_up (g := g) (show 3 < k by omega) he hd hp hn h0, res]
theorem run_read_box {a b r : Int} (hk : 0 < k) : runN T Γ k f_read_box [ib a b, .tup [.int r]] g = some (ib (r - a) (r + b), g) := by
  obtain ⟨k, rfl⟩ : ∃ k', k = k' + 1 := ⟨k - 1, by omega⟩
  rw [run_eq T_read_box rfl]
  show res (evB _ _ B_read_box [.val (ib a b), .val (.tup [.int r]), .un, .un, .un] g) = _
  unfold B_read_box ib
  simp only [Nat.zero_add, Nat.reduceAdd, Nat.reduceLeDiff, lineB_val, Nat.reduceLT, Nat.zero_lt_succ, Nat.lt_add_one, reduceIte, Nat.one_pos, Nat.lt_irrefl, and_self, and_true, true_and, ne_eq, not_false_eq_true, not_true_eq_false, Nat.reduceEqDiff, Nat.reduceBEq, if_true, if_false, Bool.true_and, Bool.and_true, Bool.false_and, Bool.and_false, Bool.not_true, Bool.not_false, Bool.not_not, decide_true, decide_false, evB, evX, evE, evT, evS, evA, evI, bindT, bindTs, List.getElem?_cons_zero, List.getElem?_cons_succ, List.set_cons_zero, List.set_cons_succ, List.length_cons, List.length_nil, op2_add, op2_sub, cmpD_lt, cmpD_le, cmpD_gt, cmpD_ge, cmpD_eq, cmpD_ne, tru_bl, items_tup, items_lst, items_fro, items_ref, items_rt, still_tup, still_lst, still_fro, at0, at1, at2, at3, at4, at5, at6, at7, at8, Option.map_some, lcRun, wipeE, pairs, E_read_box_1, res]
theorem run_gone {a b lo hi : Int} (hk : 0 < k) : runN T Γ k f_gone_on [ib lo hi, ib a b] g = some (ib (lo + a) (hi + b), g) := by
  obtain ⟨k, rfl⟩ : ∃ k', k = k' + 1 := ⟨k - 1, by omega⟩
  rw [run_eq T_gone_on rfl]
  show res (evB _ _ B_gone_on [.val (ib lo hi), .val (ib a b), .un, .un, .un, .un] g) = _
  unfold B_gone_on ib
  simp only [Nat.zero_add, Nat.reduceAdd, Nat.reduceLeDiff, lineB_val, Nat.reduceLT, Nat.zero_lt_succ, Nat.lt_add_one, reduceIte, Nat.one_pos, Nat.lt_irrefl, and_self, and_true, true_and, ne_eq, not_false_eq_true, not_true_eq_false, Nat.reduceEqDiff, Nat.reduceBEq, if_true, if_false, Bool.true_and, Bool.and_true, Bool.false_and, Bool.and_false, Bool.not_true, Bool.not_false, Bool.not_not, decide_true, decide_false, evB, evX, evE, evT, evS, evA, evI, bindT, bindTs, List.getElem?_cons_zero, List.getElem?_cons_succ, List.set_cons_zero, List.set_cons_succ, List.length_cons, List.length_nil, op2_add, op2_sub, cmpD_lt, cmpD_le, cmpD_gt, cmpD_ge, cmpD_eq, cmpD_ne, tru_bl, items_tup, items_lst, items_fro, items_ref, items_rt, still_tup, still_lst, still_fro, at0, at1, at2, at3, at4, at5, at6, at7, at8, Option.map_some, lcRun, wipeE, pairs, E_gone_on_1, res]
theorem max2_eq (i j : Int) : (if j > i then j else i) = max i j := by split <;> omega
theorem min2_eq (i j : Int) : (if j < i then j else i) = min i j := by split <;> omega
theorem run_met {a b lo hi : Int} (hk : 0 < k) (hle : max lo a ≤ min hi b) : runN T Γ k f_met_boxes [ib lo hi, ib a b] g = some (ib (max lo a) (min hi b), g) := by
  obtain ⟨k, rfl⟩ : ∃ k', k = k' + 1 := ⟨k - 1, by omega⟩
  rw [run_eq T_met_boxes rfl]
  show res (evB _ _ B_met_boxes [.val (ib lo hi), .val (ib a b), .un, .un, .un, .un, .un, .un, .un] g) = _
  unfold B_met_boxes ib
  have h2 : ¬ (min hi b < max lo a) := by omega
  simp only [Nat.zero_add, Nat.reduceAdd, Nat.reduceLeDiff, lineB_val, Nat.reduceLT, Nat.zero_lt_succ, Nat.lt_add_one, reduceIte, Nat.one_pos, Nat.lt_irrefl, and_self, and_true, true_and, ne_eq, not_false_eq_true, not_true_eq_false, Nat.reduceEqDiff, Nat.reduceBEq, if_true, if_false, Bool.true_and, Bool.and_true, Bool.false_and, Bool.and_false, Bool.not_true, Bool.not_false, Bool.not_not, decide_true, decide_false, evB, evX, evE, evT, evS, evA, evI, bindT, bindTs, List.getElem?_cons_zero, List.getElem?_cons_succ, List.set_cons_zero, List.set_cons_succ, List.length_cons, List.length_nil, op2_add, op2_sub, cmpD_lt, cmpD_le, cmpD_gt, cmpD_ge, cmpD_eq, cmpD_ne, tru_bl, items_tup, items_lst, items_fro, items_ref, items_rt, still_tup, still_lst, still_fro, at0, at1, at2, at3, at4, at5, at6, at7, at8, Option.map_some, lcRun, wipeE, pairs, E_met_boxes_1, K_met_boxes_2, E_met_boxes_3, max2_eq, min2_eq, h2, res, Int.ofNat_zero, Int.natCast_zero, Int.lt_irrefl]
theorem run_hull (hk : 1 < k) {l2 h2 : Rat} (hl : Z n l) (hh : Z n h) (hl2 : Z m l2) (hh2 : Z m h2) (hn : n + m ≤ 9000) : runN T Γ k f_box_hull [bx l h, bx l2 h2] g = some (bx (if l < l2 then l else l2) (if h2 < h then h else h2), g) := by
  obtain ⟨k, rfl⟩ : ∃ k', k = k' + 1 := ⟨k - 1, by omega⟩
  rw [run_eq T_box_hull rfl]
  show res (evB _ _ B_box_hull [.val (bx l h), .val (bx l2 h2), .un, .un, .un, .un, .un] g) = _
  unfold B_box_hull bx
  obtain ⟨v1, c1, y1⟩ : ∃ v, runN T Γ k f_compare [rt l, rt l2] g = some (.int v, g) ∧ (v < 0 ↔ l < l2) := by
    refine ⟨_, run_compare_rt (g := g) (show 0 < k by omega) hl hl2 hn, ?_⟩
    split
    · simp [*]
    · split <;> simp [*]
  obtain ⟨v2, c2, y2⟩ : ∃ v, runN T Γ k f_compare [rt h, rt h2] g = some (.int v, g) ∧ (0 < v ↔ h2 < h) := by
    refine ⟨_, run_compare_rt (g := g) (show 0 < k by omega) hh hh2 hn, ?_⟩
    split
    · rename_i z; simp; exact Rat.not_lt.mpr (Rat.le_of_lt z)
    · split <;> simp [*]
  by_cases z1 : l < l2
  · have w1 := y1.mpr z1
    by_cases z2 : h2 < h
    · have w2 := y2.mpr z2
      simp only [Nat.zero_add, Nat.reduceAdd, Nat.reduceLeDiff, lineB_val, Nat.reduceLT, Nat.zero_lt_succ, Nat.lt_add_one, reduceIte, Nat.one_pos, Nat.lt_irrefl, and_self, and_true, true_and, ne_eq, not_false_eq_true, not_true_eq_false, Nat.reduceEqDiff, Nat.reduceBEq, if_true, if_false, Bool.true_and, Bool.and_true, Bool.false_and, Bool.and_false, Bool.not_true, Bool.not_false, Bool.not_not, decide_true, decide_false, evB, evX, evE, evT, evS, evA, evI, bindT, bindTs, List.getElem?_cons_zero, List.getElem?_cons_succ, List.set_cons_zero, List.set_cons_succ, List.length_cons, List.length_nil, op2_add, op2_sub, cmpD_lt, cmpD_le, cmpD_gt, cmpD_ge, cmpD_eq, cmpD_ne, tru_bl, items_tup, items_lst, items_fro, items_ref, items_rt, still_tup, still_lst, still_fro, at0, at1, at2, at3, at4, at5, at6, at7, at8, Option.map_some, loopRun, L_box_hull_1, pairs, freshL, c1, c2, w1, w2, z1, z2, List.nil_append, res]
    · have w2 : ¬ 0 < v2 := fun q => z2 (y2.mp q)
      simp only [Nat.zero_add, Nat.reduceAdd, Nat.reduceLeDiff, lineB_val, Nat.reduceLT, Nat.zero_lt_succ, Nat.lt_add_one, reduceIte, Nat.one_pos, Nat.lt_irrefl, and_self, and_true, true_and, ne_eq, not_false_eq_true, not_true_eq_false, Nat.reduceEqDiff, Nat.reduceBEq, if_true, if_false, Bool.true_and, Bool.and_true, Bool.false_and, Bool.and_false, Bool.not_true, Bool.not_false, Bool.not_not, decide_true, decide_false, evB, evX, evE, evT, evS, evA, evI, bindT, bindTs, List.getElem?_cons_zero, List.getElem?_cons_succ, List.set_cons_zero, List.set_cons_succ, List.length_cons, List.length_nil, op2_add, op2_sub, cmpD_lt, cmpD_le, cmpD_gt, cmpD_ge, cmpD_eq, cmpD_ne, tru_bl, items_tup, items_lst, items_fro, items_ref, items_rt, still_tup, still_lst, still_fro, at0, at1, at2, at3, at4, at5, at6, at7, at8, Option.map_some, loopRun, L_box_hull_1, pairs, freshL, c1, c2, w1, w2, z1, z2, List.nil_append, res]
  · have w1 : ¬ v1 < 0 := fun q => z1 (y1.mp q)
    by_cases z2 : h2 < h
    · have w2 := y2.mpr z2
      simp only [Nat.zero_add, Nat.reduceAdd, Nat.reduceLeDiff, lineB_val, Nat.reduceLT, Nat.zero_lt_succ, Nat.lt_add_one, reduceIte, Nat.one_pos, Nat.lt_irrefl, and_self, and_true, true_and, ne_eq, not_false_eq_true, not_true_eq_false, Nat.reduceEqDiff, Nat.reduceBEq, if_true, if_false, Bool.true_and, Bool.and_true, Bool.false_and, Bool.and_false, Bool.not_true, Bool.not_false, Bool.not_not, decide_true, decide_false, evB, evX, evE, evT, evS, evA, evI, bindT, bindTs, List.getElem?_cons_zero, List.getElem?_cons_succ, List.set_cons_zero, List.set_cons_succ, List.length_cons, List.length_nil, op2_add, op2_sub, cmpD_lt, cmpD_le, cmpD_gt, cmpD_ge, cmpD_eq, cmpD_ne, tru_bl, items_tup, items_lst, items_fro, items_ref, items_rt, still_tup, still_lst, still_fro, at0, at1, at2, at3, at4, at5, at6, at7, at8, Option.map_some, loopRun, L_box_hull_1, pairs, freshL, c1, c2, w1, w2, z1, z2, List.nil_append, res]
    · have w2 : ¬ 0 < v2 := fun q => z2 (y2.mp q)
      simp only [Nat.zero_add, Nat.reduceAdd, Nat.reduceLeDiff, lineB_val, Nat.reduceLT, Nat.zero_lt_succ, Nat.lt_add_one, reduceIte, Nat.one_pos, Nat.lt_irrefl, and_self, and_true, true_and, ne_eq, not_false_eq_true, not_true_eq_false, Nat.reduceEqDiff, Nat.reduceBEq, if_true, if_false, Bool.true_and, Bool.and_true, Bool.false_and, Bool.and_false, Bool.not_true, Bool.not_false, Bool.not_not, decide_true, decide_false, evB, evX, evE, evT, evS, evA, evI, bindT, bindTs, List.getElem?_cons_zero, List.getElem?_cons_succ, List.set_cons_zero, List.set_cons_succ, List.length_cons, List.length_nil, op2_add, op2_sub, cmpD_lt, cmpD_le, cmpD_gt, cmpD_ge, cmpD_eq, cmpD_ne, tru_bl, items_tup, items_lst, items_fro, items_ref, items_rt, still_tup, still_lst, still_fro, at0, at1, at2, at3, at4, at5, at6, at7, at8, Option.map_some, loopRun, L_box_hull_1, pairs, freshL, c1, c2, w1, w2, z1, z2, List.nil_append, res]
end
end K48

set_option linter.all false
set_option maxRecDepth 100000
set_option Elab.async false
set_option exponentiation.threshold 100000
namespace K48
open DP
/-! ### the draws -/
structure GD (N : Nat) (g : Gs) : Prop where
  is : ∃ (row : List Int) (at_ : Nat) (tot : Int), g = [row.map .int, [.int at_], [.ref 0, .ref 1, .int tot]] ∧ at_ ≤ N ∧ Bd 60 tot
theorem GD.mono {N M : Nat} {g : Gs} (h : GD N g) (l : N ≤ M) : GD M g := by
  obtain ⟨row, a, tot, e, h1, h2⟩ := h.is
  exact ⟨row, a, tot, e, by omega, h2⟩
theorem ixN_0 {n : Nat} : DP.ixN (n + 1) 0 = some 0 := by
  unfold DP.ixN
  rw [if_pos (by omega), if_pos (by omega)]
  rfl
section
variable {k N : Nat} {g : Gs}
theorem run_take (hk : 0 < k) (hg : GD N g) (hN : N ≤ 100000) {many : Int} (hm : 0 < many) : ∃ v g', 0 ≤ v ∧ v < many ∧ runN T Γ k f_law_take [.ref 2, .int many] g = some (.int v, g') ∧ GD (N + 1) g' := by
  obtain ⟨k, rfl⟩ : ∃ k', k = k' + 1 := ⟨k - 1, by omega⟩
  obtain ⟨row, a, tot, rfl, h1, h2⟩ := hg.is
  rw [run_eq T_law_take rfl]
  show ∃ v g', 0 ≤ v ∧ v < many ∧ res (evB _ _ B_law_take [.val (.ref 2), .val (.int many), .un] _) = some (.int v, g') ∧ _
  have ba : Bd 20 (a : Int) := Bd.nat (by
    have : (100000 : Nat) < 2 ^ 20 := by decide
    omega)
  have b1 : Bd 13 (7919 : Int) := by unfold Bd; decide
  have b2 : Bd 5 (31 : Int) := by unfold Bd; decide
  have b3 : Bd 5 (17 : Int) := by unfold Bd; decide
  have b4 : Bd 2 (3 : Int) := by unfold Bd; decide
  unfold B_law_take
  by_cases hl : a < row.length
  · obtain ⟨x, hx⟩ : ∃ x, row[a]? = some x := ⟨_, List.getElem?_eq_getElem hl⟩
    have hx' : (row.map D.int)[a]? = some (.int x) := by rw [List.getElem?_map, hx]; rfl
    have hl' : ((a : Int) < (row.length : Int)) = True := eq_true (by omega)
    refine ⟨x % many, [row.map .int, [.int ((a : Int) + 1)], [.ref 0, .ref 1, .int tot]], Int.emod_nonneg _ (by omega), Int.emod_lt_of_pos _ hm, ?_, ⟨row, a + 1, tot, by simp, by omega, h2⟩⟩
    simp only [Nat.zero_add, Nat.reduceAdd, Nat.reduceLeDiff, lineB_val, Nat.reduceLT, Nat.zero_lt_succ, Nat.lt_add_one, reduceIte, Nat.one_pos, Nat.lt_irrefl, and_self, and_true, true_and, ne_eq, not_false_eq_true, not_true_eq_false, Nat.reduceEqDiff, Nat.reduceBEq, if_true, if_false, Bool.true_and, Bool.and_true, Bool.false_and, Bool.and_false, Bool.not_true, Bool.not_false, Bool.not_not, decide_true, decide_false, evB, evX, evE, evT, evS, evA, evI, bindT, bindTs, List.getElem?_cons_zero, List.getElem?_cons_succ, List.set_cons_zero, List.set_cons_succ, List.length_cons, List.length_nil, op2_add, op2_sub, cmpD_lt, cmpD_le, cmpD_gt, cmpD_ge, cmpD_eq, cmpD_ne, tru_bl, items_tup, items_lst, items_fro, items_ref, items_rt, still_tup, still_lst, still_fro, at0, at1, at2, at3, at4, at5, at6, at7, at8, Option.map_some, ixN_0, List.length_map, hl', atI_nat hx', op2_mod hm, res]
  · have hl' : ((a : Int) < (row.length : Int)) = False := eq_false (by omega)
    refine ⟨((a : Int) * 7919 + tot * 31 + (a : Int) * (a : Int) * 17) / 3 % many, [row.map .int, [.int ((a : Int) + 1)], [.ref 0, .ref 1, .int tot]], Int.emod_nonneg _ (by omega), Int.emod_lt_of_pos _ hm, ?_, ⟨row, a + 1, tot, by simp, by omega, h2⟩⟩
    · simp only [Nat.zero_add, Nat.reduceAdd, Nat.reduceLeDiff, lineB_val, Nat.reduceLT, Nat.zero_lt_succ, Nat.lt_add_one, reduceIte, Nat.one_pos, Nat.lt_irrefl, and_self, and_true, true_and, ne_eq, not_false_eq_true, not_true_eq_false, Nat.reduceEqDiff, Nat.reduceBEq, if_true, if_false, Bool.true_and, Bool.and_true, Bool.false_and, Bool.and_false, Bool.not_true, Bool.not_false, Bool.not_not, decide_true, decide_false, evB, evX, evE, evT, evS, evA, evI, bindT, bindTs, List.getElem?_cons_zero, List.getElem?_cons_succ, List.set_cons_zero, List.set_cons_succ, List.length_cons, List.length_nil, op2_add, op2_sub, cmpD_lt, cmpD_le, cmpD_gt, cmpD_ge, cmpD_eq, cmpD_ne, tru_bl, items_tup, items_lst, items_fro, items_ref, items_rt, still_tup, still_lst, still_fro, at0, at1, at2, at3, at4, at5, at6, at7, at8, Option.map_some, ixN_0, List.length_map, hl', op2_mul ba b1 (by decide), op2_mul h2 b2 (by decide), op2_mul ba ba (by decide), op2_mul (ba.mul ba) b3 (by decide), op2_fdiv (show (0 : Int) < 3 by decide) b4 (by decide), op2_mod hm, res]

/-- a row of draws -/
structure Rw (M : Nat) (rs : List Int) : Prop where
  len : rs.length ≤ M
  all : ∀ x ∈ rs, 0 ≤ x ∧ x < 1009
theorem Rw.push {M : Nat} {rs : List Int} (h : Rw M rs) {x : Int} (h1 : 0 ≤ x) (h2 : x < 1009) : Rw (M + 1) (rs ++ [x]) :=
  ⟨by have := h.len; simp; omega, fun y hy => by
    rcases List.mem_append.mp hy with q | q
    · exact h.all y q
    · simp at q; subst q; exact ⟨h1, h2⟩⟩
theorem Rw.mono {M M' : Nat} {rs : List Int} (h : Rw M rs) (l : M ≤ M') : Rw M' rs := ⟨Nat.le_trans h.len l, h.all⟩
theorem Rw.sum : ∀ {rs : List Int}, (∀ x ∈ rs, 0 ≤ x ∧ x < 1009) → 0 ≤ rs.sum ∧ rs.sum ≤ 1009 * rs.length
  | [], _ => by simp
  | x :: rs, h => by
    have ih := Rw.sum (rs := rs) fun y hy => h y (List.mem_cons_of_mem _ hy)
    have := h x List.mem_cons_self
    rw [List.sum_cons, List.length_cons]
    omega
theorem map_snoc (rs : List Int) (x : Int) : rs.map D.int ++ [.int x] = (rs ++ [x]).map .int := by rw [List.map_append]; rfl
theorem deal1 {S : D} {kk : Int} {t0 : Sl} : ∀ (ds : List D) (M : Nat) (rs : List Int) (cell : Int) (tsl : Sl), M + ds.length ≤ 10000 → Rw M rs → 0 ≤ cell →
    ∃ rs' cell' tsl', loopRun (.name 5) (evB (runN T Γ k) Γ L_law_deal_1) ds [.val S, .own (rs.map .int), .val (.int kk), .un, .val (.int cell), tsl] g = some (.nx, [.val S, .own (rs'.map .int), .val (.int kk), .un, .val (.int cell'), tsl'], g) ∧ Rw (M + ds.length) rs'
  | [], M, rs, cell, tsl, _, h, _ => ⟨rs, cell, tsl, rfl, h⟩
  | d :: ds, M, rs, cell, tsl, hM, h, hc => by
    rw [List.length_cons] at hM
    have b1 : Bd 10 (1009 : Int) := by unfold Bd; decide
    rw [loopRun, show bindT (.name 5) d [.val S, .own (rs.map .int), .val (.int kk), .un, .val (.int cell), tsl] = some [.val S, .own (rs.map .int), .val (.int kk), .un, .val (.int cell), .val d] from rfl]
    simp only
    by_cases z : 0 < cell
    · have hlen : (rs.map D.int).length < 16777216 := by rw [List.length_map]; have := h.len; omega
      have e : evB (runN T Γ k) Γ L_law_deal_1 [.val S, .own (rs.map .int), .val (.int kk), .un, .val (.int cell), .val d] g = some (.nx, [.val S, .own ((rs ++ [cell % 1009]).map .int), .val (.int kk), .un, .val (.int (cell / 1009)), .val d], g) := by
        unfold L_law_deal_1
        rw [List.length_map] at hlen
        simp only [Nat.zero_add, Nat.reduceAdd, Nat.reduceLeDiff, lineB_val, Nat.reduceLT, Nat.zero_lt_succ, Nat.lt_add_one, reduceIte, Nat.one_pos, Nat.lt_irrefl, and_self, and_true, true_and, ne_eq, not_false_eq_true, not_true_eq_false, Nat.reduceEqDiff, Nat.reduceBEq, if_true, if_false, Bool.true_and, Bool.and_true, Bool.false_and, Bool.and_false, Bool.not_true, Bool.not_false, Bool.not_not, decide_true, decide_false, evB, evX, evE, evT, evS, evA, evI, bindT, bindTs, List.getElem?_cons_zero, List.getElem?_cons_succ, List.set_cons_zero, List.set_cons_succ, List.length_cons, List.length_nil, op2_add, op2_sub, cmpD_lt, cmpD_le, cmpD_gt, cmpD_ge, cmpD_eq, cmpD_ne, tru_bl, items_tup, items_lst, items_fro, items_ref, items_rt, still_tup, still_lst, still_fro, at0, at1, at2, at3, at4, at5, at6, at7, at8, Option.map_some, z, op2_mod (show (0 : Int) < 1009 by decide), List.length_map, hlen, op2_fdiv (show (0 : Int) < 1009 by decide) b1 (by decide), map_snoc]
      rw [e]
      simp only
      obtain ⟨rs', c', t', e', h'⟩ := deal1 (S := S) (kk := kk) (t0 := t0) ds (M + 1) (rs ++ [cell % 1009]) (cell / 1009) (.val d) (by omega) (h.push (Int.emod_nonneg _ (by decide)) (Int.emod_lt_of_pos _ (by decide))) (Int.ediv_nonneg hc (by decide))
      exact ⟨rs', c', t', e', h'.mono (by rw [List.length_cons]; omega)⟩
    · have e : evB (runN T Γ k) Γ L_law_deal_1 [.val S, .own (rs.map .int), .val (.int kk), .un, .val (.int cell), .val d] g = some (.nx, [.val S, .own (rs.map .int), .val (.int kk), .un, .val (.int cell), .val d], g) := by
        unfold L_law_deal_1
        simp only [Nat.zero_add, Nat.reduceAdd, Nat.reduceLeDiff, lineB_val, Nat.reduceLT, Nat.zero_lt_succ, Nat.lt_add_one, reduceIte, Nat.one_pos, Nat.lt_irrefl, and_self, and_true, true_and, ne_eq, not_false_eq_true, not_true_eq_false, Nat.reduceEqDiff, Nat.reduceBEq, if_true, if_false, Bool.true_and, Bool.and_true, Bool.false_and, Bool.and_false, Bool.not_true, Bool.not_false, Bool.not_not, decide_true, decide_false, evB, evX, evE, evT, evS, evA, evI, bindT, bindTs, List.getElem?_cons_zero, List.getElem?_cons_succ, List.set_cons_zero, List.set_cons_succ, List.length_cons, List.length_nil, op2_add, op2_sub, cmpD_lt, cmpD_le, cmpD_gt, cmpD_ge, cmpD_eq, cmpD_ne, tru_bl, items_tup, items_lst, items_fro, items_ref, items_rt, still_tup, still_lst, still_fro, at0, at1, at2, at3, at4, at5, at6, at7, at8, Option.map_some, z]
      rw [e]
      simp only
      obtain ⟨rs', c', t', e', h'⟩ := deal1 (S := S) (kk := kk) (t0 := t0) ds M rs cell (.val d) (by omega) h hc
      exact ⟨rs', c', t', e', h'.mono (by rw [List.length_cons]; omega)⟩
theorem deal2 {S : D} {kk : Int} : ∀ (ts : List Int) (M : Nat) (rs : List Int) (cell : Int) (tsl : Sl), M + ts.length ≤ 10000 → Rw M rs → Bd 60 cell →
    ∃ rs' cell' tsl', loopRun (.name 5) (evB (runN T Γ k) Γ L_law_deal_2) (ts.map .int) [.val S, .own (rs.map .int), .val (.int kk), .un, .val (.int cell), tsl] g = some (.nx, [.val S, .own (rs'.map .int), .val (.int kk), .un, .val (.int cell'), tsl'], g) ∧ Rw (M + ts.length) rs'
  | [], M, rs, cell, tsl, _, h, _ => ⟨rs, cell, tsl, rfl, h⟩
  | t :: ts, M, rs, cell, tsl, hM, h, hc => by
    rw [List.length_cons] at hM
    have b0 : Bd 15 (16807 : Int) := by unfold Bd; decide
    have b1 : Bd 3 (7 : Int) := by unfold Bd; decide
    have b2 : Bd 60 (2147483647 : Int) := by unfold Bd; decide
    rw [List.map_cons, loopRun, show bindT (.name 5) (.int t) [.val S, .own (rs.map .int), .val (.int kk), .un, .val (.int cell), tsl] = some [.val S, .own (rs.map .int), .val (.int kk), .un, .val (.int cell), .val (.int t)] from rfl]
    simp only
    have hlen : rs.length < 16777216 := by have := h.len; omega
    have e : evB (runN T Γ k) Γ L_law_deal_2 [.val S, .own (rs.map .int), .val (.int kk), .un, .val (.int cell), .val (.int t)] g = some (.nx, [.val S, .own ((rs ++ [(cell * 16807 + 12345 + t) % 2147483647 / 7 % 1009]).map .int), .val (.int kk), .un, .val (.int ((cell * 16807 + 12345 + t) % 2147483647)), .val (.int t)], g) := by
      unfold L_law_deal_2
      simp only [Nat.zero_add, Nat.reduceAdd, Nat.reduceLeDiff, lineB_val, Nat.reduceLT, Nat.zero_lt_succ, Nat.lt_add_one, reduceIte, Nat.one_pos, Nat.lt_irrefl, and_self, and_true, true_and, ne_eq, not_false_eq_true, not_true_eq_false, Nat.reduceEqDiff, Nat.reduceBEq, if_true, if_false, Bool.true_and, Bool.and_true, Bool.false_and, Bool.and_false, Bool.not_true, Bool.not_false, Bool.not_not, decide_true, decide_false, evB, evX, evE, evT, evS, evA, evI, bindT, bindTs, List.getElem?_cons_zero, List.getElem?_cons_succ, List.set_cons_zero, List.set_cons_succ, List.length_cons, List.length_nil, op2_add, op2_sub, cmpD_lt, cmpD_le, cmpD_gt, cmpD_ge, cmpD_eq, cmpD_ne, tru_bl, items_tup, items_lst, items_fro, items_ref, items_rt, still_tup, still_lst, still_fro, at0, at1, at2, at3, at4, at5, at6, at7, at8, Option.map_some, op2_mul hc b0 (by decide), op2_mod (show (0 : Int) < 2147483647 by decide), op2_mod (show (0 : Int) < 1009 by decide), List.length_map, hlen, op2_fdiv (show (0 : Int) < 7 by decide) b1 (by decide), map_snoc]
    rw [e]
    simp only
    obtain ⟨rs', c', t', e', h'⟩ := deal2 (S := S) (kk := kk) ts (M + 1) _ ((cell * 16807 + 12345 + t) % 2147483647) (.val (.int t)) (by omega) (h.push (Int.emod_nonneg _ (by decide)) (Int.emod_lt_of_pos _ (by decide))) (b2.emod (by decide))
    exact ⟨rs', c', t', e', h'.mono (by rw [List.length_cons]; omega)⟩
theorem deal3 {ns : List Int} (h63 : ns.length ≤ 63) : ∀ (j i M : Nat) (rs : List Int) (s2 s4 s5 : Sl), i + j ≤ ns.length → M + 40 * j ≤ 9000 → Rw M rs →
    ∃ rs' s2' s4' s5', loopRun (.name 2) (evB (runN T Γ k) Γ L_law_deal_3) ((List.range' i j).map fun (x : Nat) => .int (x : Int)) [.val (.fro (ns.map .int)), .own (rs.map .int), s2, .un, s4, s5] g = some (.nx, [.val (.fro (ns.map .int)), .own (rs'.map .int), s2', .un, s4', s5'], g) ∧ Rw (M + 40 * j) rs'
  | 0, i, M, rs, s2, s4, s5, _, _, h => ⟨rs, s2, s4, s5, rfl, h⟩
  | j + 1, i, M, rs, s2, s4, s5, hi, hM, h => by
    rw [List.range'_succ, List.map_cons, loopRun, show bindT (.name 2) (.int (i : Int)) [.val (.fro (ns.map .int)), .own (rs.map .int), s2, .un, s4, s5] = some [.val (.fro (ns.map .int)), .own (rs.map .int), .val (.int i), .un, s4, s5] from rfl]
    simp only
    obtain ⟨x, hx⟩ : ∃ x, ns[i]? = some x := ⟨_, List.getElem?_eq_getElem (by omega)⟩
    have hx' : (ns.map D.int)[i]? = some (.int x) := by rw [List.getElem?_map, hx]; rfl
    have hpow : op2 .pow (.int 10) (.int 18) = some (.int 1000000000000000000) := by
      show (opI .pow 10 18).map D.int = _
      have : opI .pow 10 18 = some 1000000000000000000 := by decide
      rw [this]
      rfl
    have key : ∃ rs' s4' s5', evB (runN T Γ k) Γ L_law_deal_3 [.val (.fro (ns.map .int)), .own (rs.map .int), .val (.int i), .un, s4, s5] g = some (.nx, [.val (.fro (ns.map .int)), .own (rs'.map .int), .val (.int i), .un, s4', s5'], g) ∧ Rw (M + 40) rs' := by
      have r40 : (-(2 ^ 62) ≤ (40 : Int) ∧ (40 : Int) < 2 ^ 62) := by decide
      have r5 : (-(2 ^ 62) ≤ (5 : Int) ∧ (5 : Int) < 2 ^ 62) := by decide
      have ab : 0 ≤ (if x < 0 then -x else x) := by split <;> omega
      by_cases z : 1000000000000000000 ≤ (if x < 0 then -x else x)
      · obtain ⟨rs', c', t', e', h'⟩ := deal1 (k := k) (g := g) (S := .fro (ns.map .int)) (kk := i) (t0 := .un) (intRow 0 (Int.toNat 40)) M rs (if x < 0 then -x else x) s5 (by rw [intRow_length]; show M + 40 ≤ 10000; omega) h ab
        refine ⟨rs', .val (.int c'), t', ?_, by rw [intRow_length] at h'; exact h'⟩
        unfold L_law_deal_3
        simp only [Nat.zero_add, Nat.reduceAdd, Nat.reduceLeDiff, lineB_val, Nat.reduceLT, Nat.zero_lt_succ, Nat.lt_add_one, reduceIte, Nat.one_pos, Nat.lt_irrefl, and_self, and_true, true_and, ne_eq, not_false_eq_true, not_true_eq_false, Nat.reduceEqDiff, Nat.reduceBEq, if_true, if_false, Bool.true_and, Bool.and_true, Bool.false_and, Bool.and_false, Bool.not_true, Bool.not_false, Bool.not_not, decide_true, decide_false, evB, evX, evE, evT, evS, evA, evI, bindT, bindTs, List.getElem?_cons_zero, List.getElem?_cons_succ, List.set_cons_zero, List.set_cons_succ, List.length_cons, List.length_nil, op2_add, op2_sub, cmpD_lt, cmpD_le, cmpD_gt, cmpD_ge, cmpD_eq, cmpD_ne, tru_bl, items_tup, items_lst, items_fro, items_ref, items_rt, still_tup, still_lst, still_fro, at0, at1, at2, at3, at4, at5, at6, at7, at8, Option.map_some, atI_nat hx', hpow, z, r40, e']
      · obtain ⟨rs', c', t', e', h'⟩ := deal2 (k := k) (g := g) (S := .fro (ns.map .int)) (kk := i) [0, 1, 2, 3, 4] M rs ((if x < 0 then -x else x) % 2147483629 * 48271 + i * 69621 + 11) s5 (by show M + 5 ≤ 10000; omega) h (by
          have h1 := Int.emod_nonneg (if x < 0 then -x else x) (show (2147483629 : Int) ≠ 0 by decide)
          have h2 := Int.emod_lt_of_pos (if x < 0 then -x else x) (show (0 : Int) < 2147483629 by decide)
          unfold Bd
          omega)
        refine ⟨rs', .val (.int c'), t', ?_, h'.mono (by show M + 5 ≤ M + 40; omega)⟩
        have b1 : Bd 60 ((if x < 0 then -x else x) % 2147483629) := Bd.emod (by unfold Bd; decide) (by decide)
        have b2 : Bd 20 (48271 : Int) := by unfold Bd; decide
        have b3 : Bd 20 (i : Int) := Bd.nat (by omega)
        have b4 : Bd 20 (69621 : Int) := by unfold Bd; decide
        have e5 : intRow 0 (Int.toNat 5) = [0, 1, 2, 3, 4].map D.int := rfl
        unfold L_law_deal_3
        simp only [Nat.zero_add, Nat.reduceAdd, Nat.reduceLeDiff, lineB_val, Nat.reduceLT, Nat.zero_lt_succ, Nat.lt_add_one, reduceIte, Nat.one_pos, Nat.lt_irrefl, and_self, and_true, true_and, ne_eq, not_false_eq_true, not_true_eq_false, Nat.reduceEqDiff, Nat.reduceBEq, if_true, if_false, Bool.true_and, Bool.and_true, Bool.false_and, Bool.and_false, Bool.not_true, Bool.not_false, Bool.not_not, decide_true, decide_false, evB, evX, evE, evT, evS, evA, evI, bindT, bindTs, List.getElem?_cons_zero, List.getElem?_cons_succ, List.set_cons_zero, List.set_cons_succ, List.length_cons, List.length_nil, op2_add, op2_sub, cmpD_lt, cmpD_le, cmpD_gt, cmpD_ge, cmpD_eq, cmpD_ne, tru_bl, items_tup, items_lst, items_fro, items_ref, items_rt, still_tup, still_lst, still_fro, at0, at1, at2, at3, at4, at5, at6, at7, at8, Option.map_some, atI_nat hx', hpow, z, r5, op2_mod (show (0 : Int) < 2147483629 by decide), op2_mul b1 b2 (by decide), op2_mul b3 b4 (by decide), e5, e']
    obtain ⟨rs', s4', s5', e, h'⟩ := key
    rw [e]
    simp only
    obtain ⟨rs2, a2, a4, a5, e2, h2⟩ := deal3 h63 j (i + 1) (M + 40) rs' (.val (.int i)) s4' s5' (by omega) (by omega) h'
    exact ⟨rs2, a2, a4, a5, e2, h2.mono (by omega)⟩
theorem run_deal (hk : 0 < k) {ns : List Int} (hl : ns.length ≤ 63) : ∃ g', runN T Γ k f_law_deal [.fro (ns.map .int)] [] = some (.ref 2, g') ∧ GD 0 g' := by
  obtain ⟨k, rfl⟩ : ∃ k', k = k' + 1 := ⟨k - 1, by omega⟩
  obtain ⟨rs, s2, s4, s5, e, h⟩ := deal3 (k := k) (g := []) hl ns.length 0 0 [] .un .un .un (by omega) (by omega) ⟨by simp, by simp⟩
  rw [run_eq T_law_deal rfl]
  have hs := Rw.sum h.all
  refine ⟨[rs.map .int, [.int 0], [.ref 0, .ref 1, .int (rs.sum + ns.length)]], ?_, ⟨rs, 0, _, rfl, by omega, ?_⟩⟩
  · show res (evB _ _ B_law_deal [.val (.fro (ns.map .int)), .un, .un, .un, .un, .un] []) = _
    have e1 : (if (63 : Int) < (ns.length : Int) then (63 : Int) else (ns.length : Int)) = (ns.length : Int) := by rw [if_neg (by omega)]
    have r : (-(2 ^ 62) ≤ (ns.length : Int) ∧ (ns.length : Int) < 2 ^ 62) := by omega
    have e2 : intRow 0 (ns.length : Int).toNat = (List.range' 0 ns.length).map fun (x : Nat) => D.int (x : Int) := by
      rw [Int.toNat_natCast, intRow_map, List.range_eq_range']
    rw [show [].map D.int = [] from rfl] at e
    unfold B_law_deal
    simp only [Nat.zero_add, Nat.reduceAdd, Nat.reduceLeDiff, lineB_val, Nat.reduceLT, Nat.zero_lt_succ, Nat.lt_add_one, reduceIte, Nat.one_pos, Nat.lt_irrefl, and_self, and_true, true_and, ne_eq, not_false_eq_true, not_true_eq_false, Nat.reduceEqDiff, Nat.reduceBEq, if_true, if_false, Bool.true_and, Bool.and_true, Bool.false_and, Bool.and_false, Bool.not_true, Bool.not_false, Bool.not_not, decide_true, decide_false, evB, evX, evE, evT, evS, evA, evI, bindT, bindTs, List.getElem?_cons_zero, List.getElem?_cons_succ, List.set_cons_zero, List.set_cons_succ, List.length_cons, List.length_nil, op2_add, op2_sub, cmpD_lt, cmpD_le, cmpD_gt, cmpD_ge, cmpD_eq, cmpD_ne, tru_bl, items_tup, items_lst, items_fro, items_ref, items_rt, still_tup, still_lst, still_fro, at0, at1, at2, at3, at4, at5, at6, at7, at8, Option.map_some, freshL, List.length_map, e1, r, e2, e, intsOf_map, res]
    rfl
  · have := h.len
    unfold Bd
    omega
end
end K48

set_option linter.all false
set_option maxRecDepth 100000
set_option Elab.async false
set_option exponentiation.threshold 100000
namespace K48
open DP
/-! ### the plants that the law makes -/
structure Sw where
  st : Int
  goal : Int
  ed : Option (Int × Int)
  must : Bool
  lo : Rat
  hi : Rat
def edD : Option (Int × Int) → D
  | none => .tup []
  | some (s, n) => .tup [.tup [.tup [pr s 1], pr (-n) 1, .bl false]]
def swD (s : Sw) : D := .tup [.int s.st, .str "go", .int s.goal, edD s.ed, .str (if s.must then "must" else "may"), bx s.lo s.hi]
def rowL (nc : Nat) (q : Int × Int) : List (Rat × Rat) := [(Rat.divInt q.1 1, Rat.divInt (q.1 + q.2) 1), (Rat.divInt (-q.1 - q.2) 1, Rat.divInt (-q.1) 1), (Rat.divInt (-1 * q.2) 2, Rat.divInt q.2 2)].take nc
structure Pl where
  nm : Nat
  nc : Nat
  md : List D
  cm : List D
  beat : Rat
  rs : List (Int × Int)
  sw : List Sw
  err : Rat
  dl : Int
  start : D
def bxs (q : Rat × Rat) : D := bx q.1 q.2
def plD (P : Pl) : D := .tup [.str "p", .tup [.str "x"], .tup P.md, .tup P.cm, rt P.beat, .tup (P.rs.map fun q => .tup ((rowL P.nc q).map bxs)), .tup (P.sw.map swD), .tup [.tup [rt P.err], .int P.dl], P.start]
structure RsOk (q : Int × Int) : Prop where
  s2 : 2 ≤ q.1
  s4 : q.1 ≤ 4
  l0 : 0 ≤ q.2
  l1 : q.2 ≤ 1
structure SwOk (s : Sw) : Prop where
  st : (s.st = 0 ∧ s.goal = 1) ∨ (s.st = 1 ∧ s.goal = 0)
  ed : ∀ q, s.ed = some q → Bd 3 q.1 ∧ Bd 3 q.2
  zl : Z 10 s.lo
  zh : Z 10 s.hi
  le : s.lo ≤ s.hi
structure PlOk (P : Pl) : Prop where
  m1 : 1 ≤ P.nm
  m2 : P.nm ≤ 2
  c2 : 2 ≤ P.nc
  c3 : P.nc ≤ 3
  md : P.md.length = P.nm
  cm : P.cm.length = P.nc
  b0 : 0 < P.beat
  bz : Z 5 P.beat
  rl : P.rs.length = P.nm
  rs : ∀ q ∈ P.rs, RsOk q
  sw : ∀ s ∈ P.sw, SwOk s
  s1 : P.sw ≠ [] → P.nm = 2
  s2 : P.sw.length ≤ 2
  e0 : 0 ≤ P.err
  ez : Z 5 P.err
section
variable {k N : Nat} {g : Gs}
theorem cut_to (xs : List D) (n : Nat) : cut xs none (some (n : Int)) = xs.take n := by
  show List.take ((if (n : Int) < 0 then (max ((n : Int) + xs.length) 0).toNat else min (n : Int).toNat xs.length) - 0) (List.drop 0 xs) = _
  rw [if_neg (by omega)]
  simp only [List.drop_zero, Nat.sub_zero, Int.toNat_natCast]
  rcases Nat.le_total n xs.length with h | h
  · rw [Nat.min_eq_left h]
  · rw [Nat.min_eq_right h, List.take_of_length_le (Nat.le_refl _), List.take_of_length_le h]
theorem run_edge (hk : 1 < k) (G : GD N g) (hN : N ≤ 90000) : ∃ e g', runN T Γ k f_law_edge [.ref 2] g = some (edD e, g') ∧ GD (N + 3) g' ∧ ∀ q, e = some q → Bd 3 q.1 ∧ Bd 3 q.2 := by
  obtain ⟨k, rfl⟩ : ∃ k', k = k' + 1 := ⟨k - 1, by omega⟩
  rw [run_eq T_law_edge rfl]
  obtain ⟨v1, g1, p1, q1, e1, G1⟩ := run_take (k := k) (by omega) G (by omega) (show (0 : Int) < 2 by decide)
  obtain ⟨v2, g2, p2, q2, e2, G2⟩ := run_take (k := k) (by omega) G1 (by omega) (show (0 : Int) < 2 by decide)
  obtain ⟨v3, g3, p3, q3, e3, G3⟩ := run_take (k := k) (by omega) G2 (by omega) (show (0 : Int) < 3 by decide)
  show ∃ e g', res (evB _ _ B_law_edge [.val (.ref 2), .un] g) = some (edD e, g') ∧ _
  unfold B_law_edge
  rcases (show v1 = 0 ∨ v1 = 1 by omega) with rfl | rfl
  · refine ⟨none, g1, ?_, G1.mono (by omega), fun q h => by cases h⟩
    simp only [Bool.false_eq_true, Nat.zero_add, Nat.reduceAdd, Nat.reduceLeDiff, lineB_val, Nat.reduceLT, Nat.zero_lt_succ, Nat.lt_add_one, reduceIte, Nat.one_pos, Nat.lt_irrefl, and_self, and_true, true_and, ne_eq, not_false_eq_true, not_true_eq_false, Nat.reduceEqDiff, Nat.reduceBEq, if_true, if_false, Bool.true_and, Bool.and_true, Bool.false_and, Bool.and_false, Bool.not_true, Bool.not_false, Bool.not_not, decide_true, decide_false, evB, evX, evE, evT, evS, evA, evI, bindT, bindTs, List.getElem?_cons_zero, List.getElem?_cons_succ, List.set_cons_zero, List.set_cons_succ, List.length_cons, List.length_nil, op2_add, op2_sub, cmpD_lt, cmpD_le, cmpD_gt, cmpD_ge, cmpD_eq, cmpD_ne, tru_bl, items_tup, items_lst, items_fro, items_ref, items_rt, still_tup, still_lst, still_fro, at0, at1, at2, at3, at4, at5, at6, at7, at8, Option.map_some, e1, res, beq_self_eq_true]
    rfl
  · have b3 : Bd 3 v3 := by unfold Bd; omega
    have z : ((1 : Int) == 0) = false := rfl
    rcases (show v2 = 0 ∨ v2 = 1 by omega) with rfl | rfl
    · refine ⟨some (1, v3), g3, ?_, G3, fun q h => by cases h; exact ⟨by show _ < _; simp, b3⟩⟩
      simp only [Bool.false_eq_true, Nat.zero_add, Nat.reduceAdd, Nat.reduceLeDiff, lineB_val, Nat.reduceLT, Nat.zero_lt_succ, Nat.lt_add_one, reduceIte, Nat.one_pos, Nat.lt_irrefl, and_self, and_true, true_and, ne_eq, not_false_eq_true, not_true_eq_false, Nat.reduceEqDiff, Nat.reduceBEq, if_true, if_false, Bool.true_and, Bool.and_true, Bool.false_and, Bool.and_false, Bool.not_true, Bool.not_false, Bool.not_not, decide_true, decide_false, evB, evX, evE, evT, evS, evA, evI, bindT, bindTs, List.getElem?_cons_zero, List.getElem?_cons_succ, List.set_cons_zero, List.set_cons_succ, List.length_cons, List.length_nil, op2_add, op2_sub, cmpD_lt, cmpD_le, cmpD_gt, cmpD_ge, cmpD_eq, cmpD_ne, tru_bl, items_tup, items_lst, items_fro, items_ref, items_rt, still_tup, still_lst, still_fro, at0, at1, at2, at3, at4, at5, at6, at7, at8, Option.map_some, e1, e2, e3, z, res]
      rfl
    · refine ⟨some (-1, v3), g3, ?_, G3, fun q h => by cases h; exact ⟨by show _ < _; simp, b3⟩⟩
      simp only [Bool.false_eq_true, Nat.zero_add, Nat.reduceAdd, Nat.reduceLeDiff, lineB_val, Nat.reduceLT, Nat.zero_lt_succ, Nat.lt_add_one, reduceIte, Nat.one_pos, Nat.lt_irrefl, and_self, and_true, true_and, ne_eq, not_false_eq_true, not_true_eq_false, Nat.reduceEqDiff, Nat.reduceBEq, if_true, if_false, Bool.true_and, Bool.and_true, Bool.false_and, Bool.and_false, Bool.not_true, Bool.not_false, Bool.not_not, decide_true, decide_false, evB, evX, evE, evT, evS, evA, evI, bindT, bindTs, List.getElem?_cons_zero, List.getElem?_cons_succ, List.set_cons_zero, List.set_cons_succ, List.length_cons, List.length_nil, op2_add, op2_sub, cmpD_lt, cmpD_le, cmpD_gt, cmpD_ge, cmpD_eq, cmpD_ne, tru_bl, items_tup, items_lst, items_fro, items_ref, items_rt, still_tup, still_lst, still_fro, at0, at1, at2, at3, at4, at5, at6, at7, at8, Option.map_some, e1, e2, e3, z, res]
      rfl
theorem run_line {a b : Int} (hk : 0 < k) {h : D} : ∃ d, runN T Γ k f_law_line [.int 0, .int 1, pr a b, h] g = some (d, g) := by
  obtain ⟨k, rfl⟩ : ∃ k', k = k' + 1 := ⟨k - 1, by omega⟩
  rw [run_eq T_law_line rfl]
  show ∃ d, res (evB _ _ B_law_line [.val (.int 0), .val (.int 1), .val (pr a b), .val h, .un, .un, .un] g) = some (d, g)
  have r : (-(2 ^ 62) ≤ (1 : Int) ∧ (1 : Int) < 2 ^ 62) := by decide
  have e : intRow 0 (Int.toNat 1) = [.int 0] := rfl
  unfold B_law_line pr
  simp only [Bool.false_eq_true, Nat.zero_add, Nat.reduceAdd, Nat.reduceLeDiff, lineB_val, Nat.reduceLT, Nat.zero_lt_succ, Nat.lt_add_one, reduceIte, Nat.one_pos, Nat.lt_irrefl, and_self, and_true, true_and, ne_eq, not_false_eq_true, not_true_eq_false, Nat.reduceEqDiff, Nat.reduceBEq, if_true, if_false, Bool.true_and, Bool.and_true, Bool.false_and, Bool.and_false, Bool.not_true, Bool.not_false, Bool.not_not, decide_true, decide_false, evB, evX, evE, evT, evS, evA, evI, bindT, bindTs, List.getElem?_cons_zero, List.getElem?_cons_succ, List.set_cons_zero, List.set_cons_succ, List.length_cons, List.length_nil, op2_add, op2_sub, cmpD_lt, cmpD_le, cmpD_gt, cmpD_ge, cmpD_eq, cmpD_ne, tru_bl, items_tup, items_lst, items_fro, items_ref, items_rt, still_tup, still_lst, still_fro, at0, at1, at2, at3, at4, at5, at6, at7, at8, Option.map_some, r, e, lcRun, wipeE, E_law_line_1, E_law_line_2, beq_self_eq_true, res]
  exact ⟨_, rfl⟩
theorem run_pick (hk : 1 < k) (G : GD N g) (hN : N ≤ 90000) : ∃ b g', runN T Γ k f_law_pick [.ref 2, .lst [pr 1 1, pr 1 1, pr 1 2, pr 2 1]] g = some (rt b, g') ∧ GD (N + 1) g' ∧ 0 < b ∧ Z 5 b := by
  obtain ⟨k, rfl⟩ : ∃ k', k = k' + 1 := ⟨k - 1, by omega⟩
  rw [run_eq T_law_pick rfl]
  obtain ⟨v, g1, p1, q1, e1, G1⟩ := run_take (k := k) (by omega) G (by omega) (show (0 : Int) < 4 by decide)
  show ∃ b g', res (evB _ _ B_law_pick [.val (.ref 2), .val (.lst [pr 1 1, pr 1 1, pr 1 2, pr 2 1])] g) = some (rt b, g') ∧ _
  have e0 : (((0 + 1 + 1 + 1 + 1 : Nat)) : Int) = 4 := rfl
  unfold B_law_pick
  rcases (show v = 0 ∨ v = 1 ∨ v = 2 ∨ v = 3 by omega) with rfl | rfl | rfl | rfl
  · refine ⟨1, g1, ?_, G1, by decide, by unfold Bd; decide, by unfold Bd; decide⟩
    simp only [Bool.false_eq_true, Nat.zero_add, Nat.reduceAdd, Nat.reduceLeDiff, lineB_val, Nat.reduceLT, Nat.zero_lt_succ, Nat.lt_add_one, reduceIte, Nat.one_pos, Nat.lt_irrefl, and_self, and_true, true_and, ne_eq, not_false_eq_true, not_true_eq_false, Nat.reduceEqDiff, Nat.reduceBEq, if_true, if_false, Bool.true_and, Bool.and_true, Bool.false_and, Bool.and_false, Bool.not_true, Bool.not_false, Bool.not_not, decide_true, decide_false, evB, evX, evE, evT, evS, evA, evI, bindT, bindTs, List.getElem?_cons_zero, List.getElem?_cons_succ, List.set_cons_zero, List.set_cons_succ, List.length_cons, List.length_nil, op2_add, op2_sub, cmpD_lt, cmpD_le, cmpD_gt, cmpD_ge, cmpD_eq, cmpD_ne, tru_bl, items_tup, items_lst, items_fro, items_ref, items_rt, still_tup, still_lst, still_fro, at0, at1, at2, at3, at4, at5, at6, at7, at8, Option.map_some, Int.cast_ofNat_Int, e1, res]
    rfl
  · refine ⟨1, g1, ?_, G1, by decide, by unfold Bd; decide, by unfold Bd; decide⟩
    simp only [Bool.false_eq_true, Nat.zero_add, Nat.reduceAdd, Nat.reduceLeDiff, lineB_val, Nat.reduceLT, Nat.zero_lt_succ, Nat.lt_add_one, reduceIte, Nat.one_pos, Nat.lt_irrefl, and_self, and_true, true_and, ne_eq, not_false_eq_true, not_true_eq_false, Nat.reduceEqDiff, Nat.reduceBEq, if_true, if_false, Bool.true_and, Bool.and_true, Bool.false_and, Bool.and_false, Bool.not_true, Bool.not_false, Bool.not_not, decide_true, decide_false, evB, evX, evE, evT, evS, evA, evI, bindT, bindTs, List.getElem?_cons_zero, List.getElem?_cons_succ, List.set_cons_zero, List.set_cons_succ, List.length_cons, List.length_nil, op2_add, op2_sub, cmpD_lt, cmpD_le, cmpD_gt, cmpD_ge, cmpD_eq, cmpD_ne, tru_bl, items_tup, items_lst, items_fro, items_ref, items_rt, still_tup, still_lst, still_fro, at0, at1, at2, at3, at4, at5, at6, at7, at8, Option.map_some, Int.cast_ofNat_Int, e1, res]
    rfl
  · refine ⟨Rat.divInt 1 2, g1, ?_, G1, by decide, by unfold Bd; decide, by unfold Bd; decide⟩
    simp only [Bool.false_eq_true, Nat.zero_add, Nat.reduceAdd, Nat.reduceLeDiff, lineB_val, Nat.reduceLT, Nat.zero_lt_succ, Nat.lt_add_one, reduceIte, Nat.one_pos, Nat.lt_irrefl, and_self, and_true, true_and, ne_eq, not_false_eq_true, not_true_eq_false, Nat.reduceEqDiff, Nat.reduceBEq, if_true, if_false, Bool.true_and, Bool.and_true, Bool.false_and, Bool.and_false, Bool.not_true, Bool.not_false, Bool.not_not, decide_true, decide_false, evB, evX, evE, evT, evS, evA, evI, bindT, bindTs, List.getElem?_cons_zero, List.getElem?_cons_succ, List.set_cons_zero, List.set_cons_succ, List.length_cons, List.length_nil, op2_add, op2_sub, cmpD_lt, cmpD_le, cmpD_gt, cmpD_ge, cmpD_eq, cmpD_ne, tru_bl, items_tup, items_lst, items_fro, items_ref, items_rt, still_tup, still_lst, still_fro, at0, at1, at2, at3, at4, at5, at6, at7, at8, Option.map_some, Int.cast_ofNat_Int, e1, res]
    rfl
  · refine ⟨2, g1, ?_, G1, by decide, by unfold Bd; decide, by unfold Bd; decide⟩
    simp only [Bool.false_eq_true, Nat.zero_add, Nat.reduceAdd, Nat.reduceLeDiff, lineB_val, Nat.reduceLT, Nat.zero_lt_succ, Nat.lt_add_one, reduceIte, Nat.one_pos, Nat.lt_irrefl, and_self, and_true, true_and, ne_eq, not_false_eq_true, not_true_eq_false, Nat.reduceEqDiff, Nat.reduceBEq, if_true, if_false, Bool.true_and, Bool.and_true, Bool.false_and, Bool.and_false, Bool.not_true, Bool.not_false, Bool.not_not, decide_true, decide_false, evB, evX, evE, evT, evS, evA, evI, bindT, bindTs, List.getElem?_cons_zero, List.getElem?_cons_succ, List.set_cons_zero, List.set_cons_succ, List.length_cons, List.length_nil, op2_add, op2_sub, cmpD_lt, cmpD_le, cmpD_gt, cmpD_ge, cmpD_eq, cmpD_ne, tru_bl, items_tup, items_lst, items_fro, items_ref, items_rt, still_tup, still_lst, still_fro, at0, at1, at2, at3, at4, at5, at6, at7, at8, Option.map_some, Int.cast_ofNat_Int, e1, res]
    rfl
theorem run_unit (hk : 1 < k) (G : GD N g) (hN : N ≤ 90000) : ∃ b g', runN T Γ k f_law_unit [.ref 2] g = some (rt b, g') ∧ GD (N + 1) g' ∧ 0 < b ∧ Z 5 b := by
  obtain ⟨k, rfl⟩ : ∃ k', k = k' + 1 := ⟨k - 1, by omega⟩
  rw [run_eq T_law_unit rfl]
  obtain ⟨v, g1, p1, q1, e1, G1⟩ := run_take (k := k) (by omega) G (by omega) (show (0 : Int) < 4 by decide)
  show ∃ b g', res (evB _ _ B_law_unit [.val (.ref 2)] g) = some (rt b, g') ∧ _
  unfold B_law_unit
  rcases (show v = 0 ∨ v = 1 ∨ v = 2 ∨ v = 3 by omega) with rfl | rfl | rfl | rfl
  · refine ⟨Rat.divInt 1 2, g1, ?_, G1, by decide, by unfold Bd; decide, by unfold Bd; decide⟩
    simp only [Bool.false_eq_true, Nat.zero_add, Nat.reduceAdd, Nat.reduceLeDiff, lineB_val, Nat.reduceLT, Nat.zero_lt_succ, Nat.lt_add_one, reduceIte, Nat.one_pos, Nat.lt_irrefl, and_self, and_true, true_and, ne_eq, not_false_eq_true, not_true_eq_false, Nat.reduceEqDiff, Nat.reduceBEq, if_true, if_false, Bool.true_and, Bool.and_true, Bool.false_and, Bool.and_false, Bool.not_true, Bool.not_false, Bool.not_not, decide_true, decide_false, evB, evX, evE, evT, evS, evA, evI, bindT, bindTs, List.getElem?_cons_zero, List.getElem?_cons_succ, List.set_cons_zero, List.set_cons_succ, List.length_cons, List.length_nil, op2_add, op2_sub, cmpD_lt, cmpD_le, cmpD_gt, cmpD_ge, cmpD_eq, cmpD_ne, tru_bl, items_tup, items_lst, items_fro, items_ref, items_rt, still_tup, still_lst, still_fro, at0, at1, at2, at3, at4, at5, at6, at7, at8, Option.map_some, e1, res]
    rfl
  · refine ⟨Rat.divInt 1 4, g1, ?_, G1, by decide, by unfold Bd; decide, by unfold Bd; decide⟩
    simp only [Bool.false_eq_true, Nat.zero_add, Nat.reduceAdd, Nat.reduceLeDiff, lineB_val, Nat.reduceLT, Nat.zero_lt_succ, Nat.lt_add_one, reduceIte, Nat.one_pos, Nat.lt_irrefl, and_self, and_true, true_and, ne_eq, not_false_eq_true, not_true_eq_false, Nat.reduceEqDiff, Nat.reduceBEq, if_true, if_false, Bool.true_and, Bool.and_true, Bool.false_and, Bool.and_false, Bool.not_true, Bool.not_false, Bool.not_not, decide_true, decide_false, evB, evX, evE, evT, evS, evA, evI, bindT, bindTs, List.getElem?_cons_zero, List.getElem?_cons_succ, List.set_cons_zero, List.set_cons_succ, List.length_cons, List.length_nil, op2_add, op2_sub, cmpD_lt, cmpD_le, cmpD_gt, cmpD_ge, cmpD_eq, cmpD_ne, tru_bl, items_tup, items_lst, items_fro, items_ref, items_rt, still_tup, still_lst, still_fro, at0, at1, at2, at3, at4, at5, at6, at7, at8, Option.map_some, e1, res]
    rfl
  · refine ⟨1, g1, ?_, G1, by decide, by unfold Bd; decide, by unfold Bd; decide⟩
    simp only [Bool.false_eq_true, Nat.zero_add, Nat.reduceAdd, Nat.reduceLeDiff, lineB_val, Nat.reduceLT, Nat.zero_lt_succ, Nat.lt_add_one, reduceIte, Nat.one_pos, Nat.lt_irrefl, and_self, and_true, true_and, ne_eq, not_false_eq_true, not_true_eq_false, Nat.reduceEqDiff, Nat.reduceBEq, if_true, if_false, Bool.true_and, Bool.and_true, Bool.false_and, Bool.and_false, Bool.not_true, Bool.not_false, Bool.not_not, decide_true, decide_false, evB, evX, evE, evT, evS, evA, evI, bindT, bindTs, List.getElem?_cons_zero, List.getElem?_cons_succ, List.set_cons_zero, List.set_cons_succ, List.length_cons, List.length_nil, op2_add, op2_sub, cmpD_lt, cmpD_le, cmpD_gt, cmpD_ge, cmpD_eq, cmpD_ne, tru_bl, items_tup, items_lst, items_fro, items_ref, items_rt, still_tup, still_lst, still_fro, at0, at1, at2, at3, at4, at5, at6, at7, at8, Option.map_some, e1, res]
    rfl
  · refine ⟨Rat.divInt 1 3, g1, ?_, G1, by decide, by unfold Bd; decide, by unfold Bd; decide⟩
    simp only [Bool.false_eq_true, Nat.zero_add, Nat.reduceAdd, Nat.reduceLeDiff, lineB_val, Nat.reduceLT, Nat.zero_lt_succ, Nat.lt_add_one, reduceIte, Nat.one_pos, Nat.lt_irrefl, and_self, and_true, true_and, ne_eq, not_false_eq_true, not_true_eq_false, Nat.reduceEqDiff, Nat.reduceBEq, if_true, if_false, Bool.true_and, Bool.and_true, Bool.false_and, Bool.and_false, Bool.not_true, Bool.not_false, Bool.not_not, decide_true, decide_false, evB, evX, evE, evT, evS, evA, evI, bindT, bindTs, List.getElem?_cons_zero, List.getElem?_cons_succ, List.set_cons_zero, List.set_cons_succ, List.length_cons, List.length_nil, op2_add, op2_sub, cmpD_lt, cmpD_le, cmpD_gt, cmpD_ge, cmpD_eq, cmpD_ne, tru_bl, items_tup, items_lst, items_fro, items_ref, items_rt, still_tup, still_lst, still_fro, at0, at1, at2, at3, at4, at5, at6, at7, at8, Option.map_some, e1, res]
    rfl

/-! #### the rates -/
def rawL (q : Int × Int) : List D := [.tup [.tup [pr q.1 1, pr (q.1 + q.2) 1]], .tup [.tup [pr (-q.1 - q.2) 1, pr (-q.1) 1]], .tup [.tup [pr (-1 * q.2) 2, pr q.2 2]]]
def rawD (nc : Nat) (q : Int × Int) : D := .tup ((rawL q).take nc)
theorem rates_loop {md cm : List D} (hcm : cm.length ≤ 3) {nc : Nat} (hnc : cm.length = nc) : ∀ (ds : List D) (N : Nat) (acc : List (Int × Int)) (g : Gs) (s4 s10 s11 s12 s13 : Sl), 0 < k → GD N g → N + 2 * ds.length ≤ 90000 → acc.length + ds.length ≤ 1000 → ds.length ≤ 100 → (∀ q ∈ acc, RsOk q) →
    ∃ (acc' : List (Int × Int)) (g' : Gs) (t4 t10 t11 t12 t13 : Sl), loopRun (.name 4) (evB (runN T Γ k) Γ L_law_plant_of_1) ds [.val (.ref 2), .val (.tup md), .val (.tup cm), .own (acc.map (rawD nc)), s4, .un, .un, .un, .un, .un, s10, s11, s12, s13, .un, .un, .un, .un, .un, .un] g =
      some (.nx, [.val (.ref 2), .val (.tup md), .val (.tup cm), .own (acc'.map (rawD nc)), t4, .un, .un, .un, .un, .un, t10, t11, t12, t13, .un, .un, .un, .un, .un, .un], g') ∧ GD (N + 2 * ds.length) g' ∧ acc'.length = acc.length + ds.length ∧ ∀ q ∈ acc', RsOk q
  | [], N, acc, g, s4, s10, s11, s12, s13, hk, G, _, _, _, h => ⟨acc, g, s4, s10, s11, s12, s13, rfl, G, rfl, h⟩
  | d :: ds, N, acc, g, s4, s10, s11, s12, s13, hk, G, hN, ha, hd, h => by
    rw [List.length_cons] at hN hd ha
    obtain ⟨v1, g1, p1, q1, e1, G1⟩ := run_take (k := k) (by omega) G (by omega) (show (0 : Int) < 3 by decide)
    obtain ⟨v2, g2, p2, q2, e2, G2⟩ := run_take (k := k) (by omega) G1 (by omega) (show (0 : Int) < 2 by decide)
    have bm : op2 .mul (.int (-1)) (.int v2) = some (.int (-1 * v2)) := op2_mul (a := 1) (b := 2) (by unfold Bd; decide) (by unfold Bd; omega) (by decide)
    have hlen : (acc.map (rawD nc)).length < 16777216 := by rw [List.length_map]; omega
    rw [List.length_map] at hlen
    have e : evB (runN T Γ k) Γ L_law_plant_of_1 [.val (.ref 2), .val (.tup md), .val (.tup cm), .own (acc.map (rawD nc)), .val d, .un, .un, .un, .un, .un, s10, s11, s12, s13, .un, .un, .un, .un, .un, .un] g =
        some (.nx, [.val (.ref 2), .val (.tup md), .val (.tup cm), .own ((acc ++ [(2 + v1, v2)]).map (rawD nc)), .val d, .un, .un, .un, .un, .un, .val (.int (2 + v1)), .val (.int v2), .val (.tup [.tup [pr (2 + v1) 1, pr (2 + v1 + v2) 1]]), .val (.tup [.tup [pr (-(2 + v1) - v2) 1, pr (-(2 + v1)) 1]]), .un, .un, .un, .un, .un, .un], g2) := by
      unfold L_law_plant_of_1
      simp only [Bool.false_eq_true, Nat.zero_add, Nat.reduceAdd, Nat.reduceLeDiff, lineB_val, Nat.reduceLT, Nat.zero_lt_succ, Nat.lt_add_one, reduceIte, Nat.one_pos, Nat.lt_irrefl, and_self, and_true, true_and, ne_eq, not_false_eq_true, not_true_eq_false, Nat.reduceEqDiff, Nat.reduceBEq, if_true, if_false, Bool.true_and, Bool.and_true, Bool.false_and, Bool.and_false, Bool.not_true, Bool.not_false, Bool.not_not, decide_true, decide_false, evB, evX, evE, evT, evS, evA, evI, bindT, bindTs, List.getElem?_cons_zero, List.getElem?_cons_succ, List.set_cons_zero, List.set_cons_succ, List.length_cons, List.length_nil, op2_add, op2_sub, cmpD_lt, cmpD_le, cmpD_gt, cmpD_ge, cmpD_eq, cmpD_ne, tru_bl, items_tup, items_lst, items_fro, items_ref, items_rt, still_tup, still_lst, still_fro, at0, at1, at2, at3, at4, at5, at6, at7, at8, Option.map_some, e1, e2, bm, cut_to, List.length_map, hlen, hnc]
      rw [List.map_append]
      rfl
    rw [loopRun, show bindT (.name 4) d [.val (.ref 2), .val (.tup md), .val (.tup cm), .own (acc.map (rawD nc)), s4, .un, .un, .un, .un, .un, s10, s11, s12, s13, .un, .un, .un, .un, .un, .un] = some [.val (.ref 2), .val (.tup md), .val (.tup cm), .own (acc.map (rawD nc)), .val d, .un, .un, .un, .un, .un, s10, s11, s12, s13, .un, .un, .un, .un, .un, .un] from rfl]
    simp only
    rw [e]
    simp only
    obtain ⟨acc', g', t4, t10, t11, t12, t13, e', G', l', h'⟩ := rates_loop hcm hnc ds (N + 2) (acc ++ [(2 + v1, v2)]) g2 (.val d) (.val (.int (2 + v1))) (.val (.int v2)) (.val (.tup [.tup [pr (2 + v1) 1, pr (2 + v1 + v2) 1]])) (.val (.tup [.tup [pr (-(2 + v1) - v2) 1, pr (-(2 + v1)) 1]])) hk (G2.mono (by omega)) (by omega) (by rw [List.length_append, List.length_singleton]; omega) (by omega) (fun q hq => by
      rcases List.mem_append.mp hq with z | z
      · exact h q z
      · simp at z; subst z; exact ⟨by show 2 ≤ 2 + v1; omega, by show 2 + v1 ≤ 4; omega, p2, by show v2 ≤ 1; omega⟩)
    exact ⟨acc', g', t4, t10, t11, t12, t13, e', G'.mono (by rw [List.length_cons]; omega), by rw [l', List.length_append, List.length_singleton, List.length_cons]; omega, h'⟩
end
end K48

set_option linter.all false
set_option maxRecDepth 100000
set_option Elab.async false
set_option exponentiation.threshold 100000
namespace K48
open DP
theorem lc_mapm {α : Type} {own : List Nat} {t : IT} {elt : En → Gs → Option (D × Gs)} {E : En} {g : Gs} (a b : α → D) : ∀ (xs : List α), (∀ x ∈ xs, ∃ E1, bindT t (a x) (wipeE E own) = some E1 ∧ elt E1 g = some (b x, g)) → lcRun own t (fun _ g => some (true, g)) elt E (xs.map a) g = some (xs.map b, g)
  | [], _ => rfl
  | x :: xs, h => by
    obtain ⟨E1, e1, e2⟩ := h x List.mem_cons_self
    rw [List.map_cons, lcRun, e1]
    simp only
    rw [e2]
    simp only
    rw [lc_mapm a b xs fun y hy => h y (List.mem_cons_of_mem _ hy)]
    rfl
section
variable {k N : Nat} {g : Gs}
theorem norm_box (hk : 0 < k) {a b c d : Int} (ha : Bd 10 a) (hb : Bd 10 b) (hc : Bd 10 c) (hd : Bd 10 d) (b0 : 0 < b) (d0 : 0 < d) {s0 s1 s2 s3 s4 s5 s6 s7 s8 s9 s10 s11 s12 s13 s14 s15 s16 s18 s19 : Sl} :
    evE (runN T Γ k) Γ E_law_plant_of_3 [s0, s1, s2, s3, s4, s5, s6, s7, s8, s9, s10, s11, s12, s13, s14, s15, s16, .val (.tup [.tup [pr a b, pr c d]]), s18, s19] g = some (bx (Rat.divInt a b) (Rat.divInt c d), g) := by
  unfold E_law_plant_of_3 pr bx
  simp only [Bool.false_eq_true, Nat.zero_add, Nat.reduceAdd, Nat.reduceLeDiff, lineB_val, Nat.reduceLT, Nat.zero_lt_succ, Nat.lt_add_one, reduceIte, Nat.one_pos, Nat.lt_irrefl, and_self, and_true, true_and, ne_eq, not_false_eq_true, not_true_eq_false, Nat.reduceEqDiff, Nat.reduceBEq, if_true, if_false, Bool.true_and, Bool.and_true, Bool.false_and, Bool.and_false, Bool.not_true, Bool.not_false, Bool.not_not, decide_true, decide_false, evB, evX, evE, evT, evS, evA, evI, bindT, bindTs, List.getElem?_cons_zero, List.getElem?_cons_succ, List.set_cons_zero, List.set_cons_succ, List.length_cons, List.length_nil, op2_add, op2_sub, cmpD_lt, cmpD_le, cmpD_gt, cmpD_ge, cmpD_eq, cmpD_ne, tru_bl, items_tup, items_lst, items_fro, items_ref, items_rt, still_tup, still_lst, still_fro, at0, at1, at2, at3, at4, at5, at6, at7, at8, Option.map_some, lcRun, wipeE, E_law_plant_of_2, run_law_ratio (g := g) hk (show b ≠ 0 by omega) ha hb (by decide), run_law_ratio (g := g) hk (show d ≠ 0 by omega) hc hd (by decide)]
theorem norm_row (hk : 0 < k) {q : Int × Int} (hq : RsOk q) {nc : Nat} (hn : nc = 2 ∨ nc = 3) {s0 s1 s2 s3 s4 s5 s6 s7 s8 s9 s10 s11 s12 s13 s14 s15 s17 s18 s19 : Sl} :
    evE (runN T Γ k) Γ E_law_plant_of_4 [s0, s1, s2, s3, s4, s5, s6, s7, s8, s9, s10, s11, s12, s13, s14, s15, .val (rawD nc q), s17, s18, s19] g = some (.tup ((rowL nc q).map bxs), g) := by
  have h1 := hq.s2
  have h2 := hq.s4
  have h3 := hq.l0
  have h4 := hq.l1
  have b1 : Bd 10 (1 : Int) := by unfold Bd; decide
  have b2 : Bd 10 (2 : Int) := by unfold Bd; decide
  have n1 := fun (s0 s1 s2 s3 s4 s5 s6 s7 s8 s9 s10 s11 s12 s13 s14 s15 s16 s18 s19 : Sl) => norm_box (g := g) hk (a := q.1) (b := 1) (c := q.1 + q.2) (d := 1) (by unfold Bd; omega) b1 (by unfold Bd; omega) b1 (by decide) (by decide) (s0 := s0) (s1 := s1) (s2 := s2) (s3 := s3) (s4 := s4) (s5 := s5) (s6 := s6) (s7 := s7) (s8 := s8) (s9 := s9) (s10 := s10) (s11 := s11) (s12 := s12) (s13 := s13) (s14 := s14) (s15 := s15) (s16 := s16) (s18 := s18) (s19 := s19)
  have n2 := fun (s0 s1 s2 s3 s4 s5 s6 s7 s8 s9 s10 s11 s12 s13 s14 s15 s16 s18 s19 : Sl) => norm_box (g := g) hk (a := -q.1 - q.2) (b := 1) (c := -q.1) (d := 1) (by unfold Bd; omega) b1 (by unfold Bd; omega) b1 (by decide) (by decide) (s0 := s0) (s1 := s1) (s2 := s2) (s3 := s3) (s4 := s4) (s5 := s5) (s6 := s6) (s7 := s7) (s8 := s8) (s9 := s9) (s10 := s10) (s11 := s11) (s12 := s12) (s13 := s13) (s14 := s14) (s15 := s15) (s16 := s16) (s18 := s18) (s19 := s19)
  have n3 := fun (s0 s1 s2 s3 s4 s5 s6 s7 s8 s9 s10 s11 s12 s13 s14 s15 s16 s18 s19 : Sl) => norm_box (g := g) hk (a := -1 * q.2) (b := 2) (c := q.2) (d := 2) (by unfold Bd; omega) b2 (by unfold Bd; omega) b2 (by decide) (by decide) (s0 := s0) (s1 := s1) (s2 := s2) (s3 := s3) (s4 := s4) (s5 := s5) (s6 := s6) (s7 := s7) (s8 := s8) (s9 := s9) (s10 := s10) (s11 := s11) (s12 := s12) (s13 := s13) (s14 := s14) (s15 := s15) (s16 := s16) (s18 := s18) (s19 := s19)
  unfold E_law_plant_of_4 rawD rawL rowL
  rcases hn with rfl | rfl
  · simp only [List.take_succ_cons, List.take_zero, List.map_cons, List.map_nil, Bool.false_eq_true, Nat.zero_add, Nat.reduceAdd, Nat.reduceLeDiff, lineB_val, Nat.reduceLT, Nat.zero_lt_succ, Nat.lt_add_one, reduceIte, Nat.one_pos, Nat.lt_irrefl, and_self, and_true, true_and, ne_eq, not_false_eq_true, not_true_eq_false, Nat.reduceEqDiff, Nat.reduceBEq, if_true, if_false, Bool.true_and, Bool.and_true, Bool.false_and, Bool.and_false, Bool.not_true, Bool.not_false, Bool.not_not, decide_true, decide_false, evB, evX, evE, evT, evS, evA, evI, bindT, bindTs, List.getElem?_cons_zero, List.getElem?_cons_succ, List.set_cons_zero, List.set_cons_succ, List.length_cons, List.length_nil, op2_add, op2_sub, cmpD_lt, cmpD_le, cmpD_gt, cmpD_ge, cmpD_eq, cmpD_ne, tru_bl, items_tup, items_lst, items_fro, items_ref, items_rt, still_tup, still_lst, still_fro, at0, at1, at2, at3, at4, at5, at6, at7, at8, Option.map_some, lcRun, wipeE, n1, n2, n3]
    rfl
  · simp only [List.take_succ_cons, List.take_zero, List.map_cons, List.map_nil, Bool.false_eq_true, Nat.zero_add, Nat.reduceAdd, Nat.reduceLeDiff, lineB_val, Nat.reduceLT, Nat.zero_lt_succ, Nat.lt_add_one, reduceIte, Nat.one_pos, Nat.lt_irrefl, and_self, and_true, true_and, ne_eq, not_false_eq_true, not_true_eq_false, Nat.reduceEqDiff, Nat.reduceBEq, if_true, if_false, Bool.true_and, Bool.and_true, Bool.false_and, Bool.and_false, Bool.not_true, Bool.not_false, Bool.not_not, decide_true, decide_false, evB, evX, evE, evT, evS, evA, evI, bindT, bindTs, List.getElem?_cons_zero, List.getElem?_cons_succ, List.set_cons_zero, List.set_cons_succ, List.length_cons, List.length_nil, op2_add, op2_sub, cmpD_lt, cmpD_le, cmpD_gt, cmpD_ge, cmpD_eq, cmpD_ne, tru_bl, items_tup, items_lst, items_fro, items_ref, items_rt, still_tup, still_lst, still_fro, at0, at1, at2, at3, at4, at5, at6, at7, at8, Option.map_some, lcRun, wipeE, n1, n2, n3]
    rfl
theorem sw_loop {s1 s2 s3 s4 : Sl} {s7 s8 s9 s10 s11 s12 s13 s16 s17 s18 s19 : Sl} : ∀ (j i N : Nat) (acc : List Sw) (g : Gs) (s6 s14 s15 : Sl), 1 < k → GD N g → N + 10 * j ≤ 80000 → acc.length + j ≤ 1000 → i + j ≤ 2 → (∀ q ∈ acc, SwOk q) →
    ∃ (acc' : List Sw) (g' : Gs) (t6 t14 t15 : Sl), loopRun (.name 6) (evB (runN T Γ k) Γ L_law_plant_of_6) ((List.range' i j).map fun (x : Nat) => .int (x : Int)) [.val (.ref 2), s1, s2, s3, s4, .own (acc.map swD), s6, s7, s8, s9, s10, s11, s12, s13, s14, s15, s16, s17, s18, s19] g =
      some (.nx, [.val (.ref 2), s1, s2, s3, s4, .own (acc'.map swD), t6, s7, s8, s9, s10, s11, s12, s13, t14, t15, s16, s17, s18, s19], g') ∧ GD (N + 10 * j) g' ∧ acc'.length = acc.length + j ∧ ∀ q ∈ acc', SwOk q
  | 0, i, N, acc, g, s6, s14, s15, hk, G, _, _, _, h => ⟨acc, g, s6, s14, s15, rfl, G, rfl, h⟩
  | j + 1, i, N, acc, g, s6, s14, s15, hk, G, hN, ha, hi, h => by
    obtain ⟨v1, g1, p1, q1, e1, G1⟩ := run_take (k := k) (by omega) G (by omega) (show (0 : Int) < 3 by decide)
    obtain ⟨v2, g2, p2, q2, e2, G2⟩ := run_take (k := k) (by omega) G1 (by omega) (show (0 : Int) < 2 by decide)
    obtain ⟨ed, g3, e3, G3, b3⟩ := run_edge (k := k) (by omega) G2 (by omega)
    obtain ⟨v4, g4, p4, q4, e4, G4⟩ := run_take (k := k) (by omega) G3 (by omega) (show (0 : Int) < 4 by decide)
    have b2 : Bd 2 (2 : Int) := by unfold Bd; decide
    have bv : Bd 2 (v1 - 1) := by unfold Bd; omega
    have bw : Bd 2 v2 := by unfold Bd; omega
    have zk : Z 2 (Rat.divInt (v1 - 1) 2) := divInt_Z bv b2 (by decide)
    have zw : Z 2 (Rat.divInt v2 2) := divInt_Z bw b2 (by decide)
    have zh : Z 5 (Rat.divInt (v1 - 1) 2 + Rat.divInt v2 2) := zk.add zw
    have r1 : runN T Γ k f_law_ratio [.int (v1 - 1), .int 2] g1 = some (rt (Rat.divInt (v1 - 1) 2), g1) := run_law_ratio (by omega) (by decide) bv b2 (by decide)
    have r2 : runN T Γ k f_law_plus [rt (Rat.divInt (v1 - 1) 2), .tup [.int v2, .int 2]] g2 = some (rt (Rat.divInt (v1 - 1) 2 + Rat.divInt v2 2), g2) := by
      have := run_law_plus (g := g2) (k := k) (by omega) (den_pos (Rat.divInt (v1 - 1) 2)) (show (0 : Int) < 2 by decide) zk.num zk.den bw b2 (by decide)
      rw [dv] at this
      exact this
    have r3 : runN T Γ k f_law_ratio [.int (Rat.divInt (v1 - 1) 2 + Rat.divInt v2 2).num, .int (Rat.divInt (v1 - 1) 2 + Rat.divInt v2 2).den] g4 = some (rt (Rat.divInt (v1 - 1) 2 + Rat.divInt v2 2), g4) := by
      have := run_law_ratio (g := g4) (k := k) (by omega) (show ((Rat.divInt (v1 - 1) 2 + Rat.divInt v2 2).den : Int) ≠ 0 by have := den_pos (Rat.divInt (v1 - 1) 2 + Rat.divInt v2 2); omega) zh.num zh.den (by decide)
      rw [dv] at this
      exact this
    have hlen : acc.length < 16777216 := by omega
    let sw : Sw := ⟨i, 1 - (i : Int), ed, (v4 == 0), Rat.divInt (v1 - 1) 2, Rat.divInt (v1 - 1) 2 + Rat.divInt v2 2⟩
    have e : evB (runN T Γ k) Γ L_law_plant_of_6 [.val (.ref 2), s1, s2, s3, s4, .own (acc.map swD), .val (.int (i : Int)), s7, s8, s9, s10, s11, s12, s13, s14, s15, s16, s17, s18, s19] g =
        some (.nx, [.val (.ref 2), s1, s2, s3, s4, .own ((acc ++ [sw]).map swD), .val (.int (i : Int)), s7, s8, s9, s10, s11, s12, s13, .val (rt (Rat.divInt (v1 - 1) 2)), .val (bx (Rat.divInt (v1 - 1) 2) (Rat.divInt (v1 - 1) 2 + Rat.divInt v2 2)), s16, s17, s18, s19], g4) := by
      unfold L_law_plant_of_6
      rw [List.map_append]
      cases hz : (v4 == 0) with
      | true =>
        simp only [Bool.false_eq_true, Nat.zero_add, Nat.reduceAdd, Nat.reduceLeDiff, lineB_val, Nat.reduceLT, Nat.zero_lt_succ, Nat.lt_add_one, reduceIte, Nat.one_pos, Nat.lt_irrefl, and_self, and_true, true_and, ne_eq, not_false_eq_true, not_true_eq_false, Nat.reduceEqDiff, Nat.reduceBEq, if_true, if_false, Bool.true_and, Bool.and_true, Bool.false_and, Bool.and_false, Bool.not_true, Bool.not_false, Bool.not_not, decide_true, decide_false, evB, evX, evE, evT, evS, evA, evI, bindT, bindTs, List.getElem?_cons_zero, List.getElem?_cons_succ, List.set_cons_zero, List.set_cons_succ, List.length_cons, List.length_nil, op2_add, op2_sub, cmpD_lt, cmpD_le, cmpD_gt, cmpD_ge, cmpD_eq, cmpD_ne, tru_bl, items_tup, items_lst, items_fro, items_ref, items_rt, still_tup, still_lst, still_fro, at0, at1, at2, at3, at4, at5, at6, at7, at8, Option.map_some, e1, e2, e3, e4, r1, r2, r3, hz, lcRun, wipeE, E_law_plant_of_5, items_rt, List.length_map, hlen]
        simp only [sw, List.map_cons, List.map_nil, swD, bx, hz, if_true]
      | false =>
        simp only [Bool.false_eq_true, Nat.zero_add, Nat.reduceAdd, Nat.reduceLeDiff, lineB_val, Nat.reduceLT, Nat.zero_lt_succ, Nat.lt_add_one, reduceIte, Nat.one_pos, Nat.lt_irrefl, and_self, and_true, true_and, ne_eq, not_false_eq_true, not_true_eq_false, Nat.reduceEqDiff, Nat.reduceBEq, if_true, if_false, Bool.true_and, Bool.and_true, Bool.false_and, Bool.and_false, Bool.not_true, Bool.not_false, Bool.not_not, decide_true, decide_false, evB, evX, evE, evT, evS, evA, evI, bindT, bindTs, List.getElem?_cons_zero, List.getElem?_cons_succ, List.set_cons_zero, List.set_cons_succ, List.length_cons, List.length_nil, op2_add, op2_sub, cmpD_lt, cmpD_le, cmpD_gt, cmpD_ge, cmpD_eq, cmpD_ne, tru_bl, items_tup, items_lst, items_fro, items_ref, items_rt, still_tup, still_lst, still_fro, at0, at1, at2, at3, at4, at5, at6, at7, at8, Option.map_some, e1, e2, e3, e4, r1, r2, r3, hz, lcRun, wipeE, E_law_plant_of_5, items_rt, List.length_map, hlen]
        simp only [sw, List.map_cons, List.map_nil, swD, bx, hz, Bool.false_eq_true, if_false]
    have hle : Rat.divInt (v1 - 1) 2 ≤ Rat.divInt (v1 - 1) 2 + Rat.divInt v2 2 := by
      have h0 : (0 : Rat) ≤ Rat.divInt v2 2 := Rat.divInt_nonneg p2 (by decide)
      have := Rat.add_le_add_left (c := Rat.divInt (v1 - 1) 2).mpr h0
      rwa [Rat.add_zero] at this
    have ok : SwOk sw := ⟨by show ((i : Int) = 0 ∧ 1 - (i : Int) = 1) ∨ ((i : Int) = 1 ∧ 1 - (i : Int) = 0); omega, b3, zk.mono (by decide), zh.mono (by decide), hle⟩
    rw [List.range'_succ, List.map_cons, loopRun, show bindT (.name 6) (.int (i : Int)) [.val (.ref 2), s1, s2, s3, s4, .own (acc.map swD), s6, s7, s8, s9, s10, s11, s12, s13, s14, s15, s16, s17, s18, s19] = some [.val (.ref 2), s1, s2, s3, s4, .own (acc.map swD), .val (.int (i : Int)), s7, s8, s9, s10, s11, s12, s13, s14, s15, s16, s17, s18, s19] from rfl]
    simp only
    rw [e]
    simp only
    obtain ⟨acc', g', t6, t14, t15, e', G', l', h'⟩ := sw_loop (s1 := s1) (s2 := s2) (s3 := s3) (s4 := s4) (s7 := s7) (s8 := s8) (s9 := s9) (s10 := s10) (s11 := s11) (s12 := s12) (s13 := s13) (s16 := s16) (s17 := s17) (s18 := s18) (s19 := s19) j (i + 1) (N + 10) (acc ++ [sw]) g4 _ _ _ hk (G4.mono (by omega)) (by omega) (by rw [List.length_append, List.length_singleton]; omega) (by omega) (fun q hq => by
      rcases List.mem_append.mp hq with z | z
      · exact h q z
      · simp at z; subst z; exact ok)
    exact ⟨acc', g', t6, t14, t15, e', G'.mono (by omega), by rw [l', List.length_append, List.length_singleton]; omega, h'⟩
end
end K48

set_option linter.all false
set_option maxRecDepth 100000
set_option Elab.async false
set_option exponentiation.threshold 100000
namespace K48
open DP
section
variable {k N : Nat} {g : Gs}
theorem run_plant_of (hk : 2 < k) (G0 : GD N g) (hN : N ≤ 1000) : ∃ P g', runN T Γ k f_law_plant_of [.ref 2] g = some (plD P, g') ∧ GD (N + 100) g' ∧ PlOk P := by
  obtain ⟨k, rfl⟩ : ∃ k', k = k' + 1 := ⟨k - 1, by omega⟩
  rw [run_eq T_law_plant_of rfl]
  show ∃ P g', res (evB _ _ B_law_plant_of [.val (.ref 2), .un, .un, .un, .un, .un, .un, .un, .un, .un, .un, .un, .un, .un, .un, .un, .un, .un, .un, .un] g) = _ ∧ _
  obtain ⟨v1, g1, p1, q1, e1, G1⟩ := run_take (k := k) (by omega) G0 (by omega) (show (0 : Int) < 4 by decide)
  obtain ⟨v2, g2, p2, q2, e2, G2⟩ := run_take (k := k) (by omega) G1 (by omega) (show (0 : Int) < 2 by decide)
  obtain ⟨md, hm, m1, m2⟩ : ∃ md : List D, cut [.str "m0", .str "m1"] none (some (1 + if (v1 == 1) = true then 1 else 0)) = md ∧ 1 ≤ md.length ∧ md.length ≤ 2 := by
    by_cases z : (v1 == 1) = true
    · rw [if_pos z]; exact ⟨_, rfl, by decide, by decide⟩
    · rw [if_neg z]; exact ⟨_, rfl, by decide, by decide⟩
  obtain ⟨cm, hc, c2, c3⟩ : ∃ cm : List D, cut [.str "up", .str "down", .str "wait"] none (some (2 + v2)) = cm ∧ 2 ≤ cm.length ∧ cm.length ≤ 3 := by
    rcases (show v2 = 0 ∨ v2 = 1 by omega) with rfl | rfl
    · exact ⟨_, rfl, by decide, by decide⟩
    · exact ⟨_, rfl, by decide, by decide⟩
  obtain ⟨rs, g3, t4, t10, t11, t12, t13, e3, G3, l3, h3⟩ := rates_loop (k := k) (md := md) (cm := cm) c3 rfl md (N + 2) [] g2 .un .un .un .un .un (by omega) G2 (by omega) (by rw [List.length_nil]; omega) (by omega) (by simp)
  rw [List.length_nil, Nat.zero_add] at l3
  have G3 := G3.mono (show N + 2 + 2 * md.length ≤ N + 6 by omega)
  obtain ⟨v4, g4, p4, q4, e4, G4⟩ := run_take (k := k) (by omega) G3 (by omega) (show (0 : Int) < 3 by decide)
  have b4 : Bd 3 v4 := by unfold Bd; omega
  obtain ⟨c, hcn, c0, c1⟩ : ∃ c : Nat, op2 .mul (.int v4) (.int (if (decide ((1 : Int) < (md.length : Int))) = true then 1 else 0)) = some (.int (c : Int)) ∧ c ≤ 2 ∧ (c ≠ 0 → md.length = 2) := by
    by_cases z : (1 : Int) < (md.length : Int)
    · refine ⟨v4.toNat, ?_, by omega, by omega⟩
      rw [decide_eq_true z, if_pos rfl, op2_mul b4 (b := 1) (by unfold Bd; decide) (by decide)]
      rw [Int.mul_one, Int.toNat_of_nonneg p4]
    · refine ⟨0, ?_, by omega, by omega⟩
      rw [decide_eq_false z, if_neg (by decide), op2_mul b4 (b := 1) (by unfold Bd; decide) (by decide)]
      rw [Int.mul_zero]; rfl
  have lcr : ∀ s4 s5 s10 s11 s12 s13, lcRun [16] (.name 16) (fun _ g => some (true, g)) (evE (runN T Γ k) Γ E_law_plant_of_4) [.val (.ref 2), .val (.tup md), .val (.tup cm), .own (rs.map (rawD cm.length)), s4, s5, .un, .un, .un, .un, s10, s11, s12, s13, .un, .un, .un, .un, .un, .un] (rs.map (rawD cm.length)) g3 = some (rs.map fun q => .tup ((rowL cm.length q).map bxs), g3) := by
    intro s4 s5 s10 s11 s12 s13
    refine lc_mapm (rawD cm.length) (fun q => .tup ((rowL cm.length q).map bxs)) rs fun q hq => ⟨[.val (.ref 2), .val (.tup md), .val (.tup cm), .own (rs.map (rawD cm.length)), s4, s5, .un, .un, .un, .un, s10, s11, s12, s13, .un, .un, .val (rawD cm.length q), .un, .un, .un], rfl, ?_⟩
    exact norm_row (by omega) (h3 q hq) (by omega)
  obtain ⟨sw, g5, t6, t14, t15, e5, G5, l5, h5⟩ := sw_loop (k := k) (s1 := .val (.tup md)) (s2 := .val (.tup cm)) (s3 := .val (.tup (rs.map fun q => .tup ((rowL cm.length q).map bxs)))) (s4 := t4) (s7 := .un) (s8 := .un) (s9 := .un) (s10 := t10) (s11 := t11) (s12 := t12) (s13 := t13) (s16 := .un) (s17 := .un) (s18 := .un) (s19 := .un) c 0 (N + 7) [] g4 .un .un .un (by omega) G4 (by omega) (by rw [List.length_nil]; omega) (by omega) (by simp)
  have swn : sw ≠ [] → md.length = 2 := by
    intro z
    refine c1 fun y => z ?_
    subst y
    have : loopRun (.name 6) (evB (runN T Γ k) Γ L_law_plant_of_6) ((List.range' 0 0).map fun (x : Nat) => .int (x : Int)) [.val (.ref 2), .val (.tup md), .val (.tup cm), .val (.tup (rs.map fun q => .tup ((rowL cm.length q).map bxs))), t4, .own ([].map swD), .un, .un, .un, .un, t10, t11, t12, t13, .un, .un, .un, .un, .un, .un] g4 = some (.nx, _, g4) := rfl
    rw [this] at e5
    have e6 := congrArg (fun o => match o with | some (_, E, _) => E[5]? | none => none) e5
    simp at e6
    exact e6
  have G5 := G5.mono (show N + 7 + 10 * c ≤ N + 27 by omega)
  obtain ⟨v6, g6, p6, q6, e6, G6⟩ := run_take (k := k) (by omega) G5 (by omega) (show (0 : Int) < 2 by decide)
  obtain ⟨v7, g7, p7, q7, e7, G7⟩ := run_take (k := k) (by omega) G6 (by omega) (show (0 : Int) < 2 by decide)
  obtain ⟨v8, g8, p8, q8, e8, G8⟩ := run_take (k := k) (by omega) G7 (by omega) (show (0 : Int) < 2 by decide)
  obtain ⟨v9, g9, p9, q9, e9, G9⟩ := run_take (k := k) (by omega) G8 (by omega) (show (0 : Int) < 2 by decide)
  obtain ⟨b, g10, e10, G10, b0, bz⟩ := run_pick (k := k) (by omega) G9 (by omega)
  obtain ⟨st, est⟩ := run_line (k := k) (g := g9) (a := -v8) (b := 1) (by omega) (h := .tup [.int v9, .int 1])
  have b2 : Bd 2 (2 : Int) := by unfold Bd; decide
  have b6 : Bd 2 v6 := by unfold Bd; omega
  have r6 : runN T Γ k f_law_ratio [.int v6, .int 2] g6 = some (rt (Rat.divInt v6 2), g6) := run_law_ratio (by omega) (by decide) b6 b2 (by decide)
  refine ⟨⟨md.length, cm.length, md, cm, b, rs, sw, Rat.divInt v6 2, v7, .tup [.int 0, st]⟩, g10, ?_, G10.mono (by omega), ⟨m1, m2, c2, c3, rfl, rfl, b0, bz, l3, h3, h5, swn, by rw [List.length_nil] at l5; show sw.length ≤ 2; omega, Rat.divInt_nonneg p6 (by decide), (divInt_Z b6 b2 (by decide)).mono (by decide)⟩⟩
  have rr : (-(2 ^ 62) ≤ (c : Int) ∧ (c : Int) < 2 ^ 62) := by omega
  have ri : intRow 0 (c : Int).toNat = (List.range' 0 c).map fun (x : Nat) => D.int (x : Int) := by
    rw [Int.toNat_natCast, intRow_map, List.range_eq_range']
  have hlen : rs.length < 16777216 := by omega
  rw [List.map_nil] at e3 e5
  unfold pr at e10 est
  unfold B_law_plant_of
  simp only [Bool.false_eq_true, Nat.zero_add, Nat.reduceAdd, Nat.reduceLeDiff, lineB_val, Nat.reduceLT, Nat.zero_lt_succ, Nat.lt_add_one, reduceIte, Nat.one_pos, Nat.lt_irrefl, and_self, and_true, true_and, ne_eq, not_false_eq_true, not_true_eq_false, Nat.reduceEqDiff, Nat.reduceBEq, if_true, if_false, Bool.true_and, Bool.and_true, Bool.false_and, Bool.and_false, Bool.not_true, Bool.not_false, Bool.not_not, decide_true, decide_false, evB, evX, evE, evT, evS, evA, evI, bindT, bindTs, List.getElem?_cons_zero, List.getElem?_cons_succ, List.set_cons_zero, List.set_cons_succ, List.length_cons, List.length_nil, op2_add, op2_sub, cmpD_lt, cmpD_le, cmpD_gt, cmpD_ge, cmpD_eq, cmpD_ne, tru_bl, items_tup, items_lst, items_fro, items_ref, items_rt, still_tup, still_lst, still_fro, at0, at1, at2, at3, at4, at5, at6, at7, at8, Option.map_some, freshL, e1, hm, e2, hc, e3, List.length_map, hlen, lcr, e4, hcn, rr, ri, e5, e6, r6, e7, e8, e9, est, e10, res]
  rfl
end
end K48

set_option linter.all false
set_option maxRecDepth 100000
set_option Elab.async false
set_option exponentiation.threshold 100000
namespace K48
open DP
theorem divInt_le {a b d : Int} (hd : 0 < d) (h : a ≤ b) : Rat.divInt a d ≤ Rat.divInt b d := by
  rw [Rat.le_iff_sub_nonneg, Rat.divInt_sub_divInt _ _ (by omega) (by omega)]
  refine Rat.divInt_nonneg ?_ (Int.le_of_lt (Int.mul_pos hd hd))
  rw [← Int.sub_mul]
  exact Int.mul_nonneg (by omega) (by omega)
structure RtOk (p : Rat × Rat) : Prop where
  z1 : Z 5 p.1
  z2 : Z 5 p.2
  le : p.1 ≤ p.2
theorem rowL_ok {q : Int × Int} (h : RsOk q) {nc : Nat} {p : Rat × Rat} (hp : p ∈ rowL nc q) : RtOk p := by
  have h1 := h.s2
  have h2 := h.s4
  have h3 := h.l0
  have h4 := h.l1
  have b1 : Bd 5 (1 : Int) := by unfold Bd; decide
  have b2 : Bd 5 (2 : Int) := by unfold Bd; decide
  have hm := List.mem_of_mem_take hp
  simp only [List.mem_cons, List.not_mem_nil, or_false] at hm
  rcases hm with rfl | rfl | rfl
  · exact ⟨divInt_Z (by unfold Bd; omega) b1 (by decide), divInt_Z (by unfold Bd; omega) b1 (by decide), divInt_le (by decide) (by omega)⟩
  · exact ⟨divInt_Z (by unfold Bd; omega) b1 (by decide), divInt_Z (by unfold Bd; omega) b1 (by decide), divInt_le (by decide) (by omega)⟩
  · exact ⟨divInt_Z (by unfold Bd; omega) b2 (by decide), divInt_Z (by unfold Bd; omega) b2 (by decide), divInt_le (by decide) (by omega)⟩
theorem rowL_length {nc : Nat} (h : nc ≤ 3) (q : Int × Int) : (rowL nc q).length = nc := by
  unfold rowL; rw [List.length_take]; simp; omega
theorem getD_at {α : Type} (l : List α) (c : Nat) (d : α) (h : c < l.length) : l[c]? = some (l.getD c d) := by
  rw [List.getD_eq_getElem?_getD, List.getElem?_eq_getElem h]; rfl
def rate (P : Pl) (m c : Nat) : Rat × Rat := (rowL P.nc (P.rs.getD m (2, 0))).getD c (0, 0)
def bb (P : Pl) (m c : Nat) : Rat × Rat := ((rate P m c).1 * P.beat, (rate P m c).2 * P.beat)
section
variable {k N m c n : Nat} {g : Gs} {P : Pl} {d : Rat}
theorem rs_at (p : PlOk P) (hm : m < P.nm) : P.rs[m]? = some (P.rs.getD m (2, 0)) := by
  have : m < P.rs.length := by rw [p.rl]; exact hm
  rw [List.getD_eq_getElem?_getD, List.getElem?_eq_getElem this]; rfl
theorem row_at (p : PlOk P) (hc : c < P.nc) : (rowL P.nc (P.rs.getD m (2, 0)))[c]? = some (rate P m c) := by
  have : c < (rowL P.nc (P.rs.getD m (2, 0))).length := by rw [rowL_length p.c3]; exact hc
  exact getD_at _ _ _ this
theorem rate_ok (p : PlOk P) (hm : m < P.nm) (hc : c < P.nc) : RtOk (rate P m c) :=
  rowL_ok (p.rs _ (List.mem_of_getElem? (rs_at p hm))) (List.mem_of_getElem? (row_at p hc))
theorem at_rates (p : PlOk P) (hm : m < P.nm) : atI (P.rs.map fun q => D.tup ((rowL P.nc q).map bxs)) (m : Int) = some (.tup ((rowL P.nc (P.rs.getD m (2, 0))).map bxs)) := atI_nat (by rw [List.getElem?_map, rs_at p hm]; rfl)
theorem at_row (p : PlOk P) (hc : c < P.nc) : atI ((rowL P.nc (P.rs.getD m (2, 0))).map bxs) (c : Int) = some (bxs (rate P m c)) := atI_nat (by rw [List.getElem?_map, row_at p hc]; rfl)
theorem run_rates_of (hk : 0 < k) (p : PlOk P) (hm : m < P.nm) (hc : c < P.nc) : runN T Γ k f_rates_of [plD P, .int m, .int c] g = some (bxs (rate P m c), g) := by
  obtain ⟨k, rfl⟩ : ∃ k', k = k' + 1 := ⟨k - 1, by omega⟩
  rw [run_eq T_rates_of rfl]
  show res (evB _ _ B_rates_of [.val (plD P), .val (.int m), .val (.int c)] g) = _
  unfold B_rates_of plD
  simp only [Bool.false_eq_true, Nat.zero_add, Nat.reduceAdd, Nat.reduceLeDiff, lineB_val, Nat.reduceLT, Nat.zero_lt_succ, Nat.lt_add_one, reduceIte, Nat.one_pos, Nat.lt_irrefl, and_self, and_true, true_and, ne_eq, not_false_eq_true, not_true_eq_false, Nat.reduceEqDiff, Nat.reduceBEq, if_true, if_false, Bool.true_and, Bool.and_true, Bool.false_and, Bool.and_false, Bool.not_true, Bool.not_false, Bool.not_not, decide_true, decide_false, evB, evX, evE, evT, evS, evA, evI, bindT, bindTs, List.getElem?_cons_zero, List.getElem?_cons_succ, List.set_cons_zero, List.set_cons_succ, List.length_cons, List.length_nil, op2_add, op2_sub, cmpD_lt, cmpD_le, cmpD_gt, cmpD_ge, cmpD_eq, cmpD_ne, tru_bl, items_tup, items_lst, items_fro, items_ref, items_rt, still_tup, still_lst, still_fro, at0, at1, at2, at3, at4, at5, at6, at7, at8, Option.map_some, at_rates p hm, at_row p hc, res]
theorem bb_ok (p : PlOk P) (hm : m < P.nm) (hc : c < P.nc) : Z 10 (bb P m c).1 ∧ Z 10 (bb P m c).2 ∧ (bb P m c).1 ≤ (bb P m c).2 := by
  have r := rate_ok p hm hc
  exact ⟨r.z1.mul p.bz (by decide), r.z2.mul p.bz (by decide), Rat.mul_le_mul_of_nonneg_right r.le (Rat.le_of_lt p.b0)⟩
theorem run_beat_box (hk : 4 < k) (p : PlOk P) (hm : m < P.nm) (hc : c < P.nc) : runN T Γ k f_beat_box [plD P, .int m, .int c] g = some (bxs (bb P m c), g) := by
  obtain ⟨k, rfl⟩ : ∃ k', k = k' + 1 := ⟨k - 1, by omega⟩
  rw [run_eq T_beat_box rfl]
  show res (evB _ _ B_beat_box [.val (plD P), .val (.int m), .val (.int c)] g) = _
  have r := rate_ok p hm hc
  have e1 := run_rates_of (g := g) (k := k) (by omega) p hm hc
  have e2 : runN T Γ k f_box_times [bxs (rate P m c), rt P.beat] g = some (bxs (bb P m c), g) := run_box_times (by omega) r.z1 r.z2 p.bz (by decide)
  unfold B_beat_box
  unfold plD at e1 ⊢
  simp only [Bool.false_eq_true, Nat.zero_add, Nat.reduceAdd, Nat.reduceLeDiff, lineB_val, Nat.reduceLT, Nat.zero_lt_succ, Nat.lt_add_one, reduceIte, Nat.one_pos, Nat.lt_irrefl, and_self, and_true, true_and, ne_eq, not_false_eq_true, not_true_eq_false, Nat.reduceEqDiff, Nat.reduceBEq, if_true, if_false, Bool.true_and, Bool.and_true, Bool.false_and, Bool.and_false, Bool.not_true, Bool.not_false, Bool.not_not, decide_true, decide_false, evB, evX, evE, evT, evS, evA, evI, bindT, bindTs, List.getElem?_cons_zero, List.getElem?_cons_succ, List.set_cons_zero, List.set_cons_succ, List.length_cons, List.length_nil, op2_add, op2_sub, cmpD_lt, cmpD_le, cmpD_gt, cmpD_ge, cmpD_eq, cmpD_ne, tru_bl, items_tup, items_lst, items_fro, items_ref, items_rt, still_tup, still_lst, still_fro, at0, at1, at2, at3, at4, at5, at6, at7, at8, Option.map_some, e1, e2, res]
/-! ### all ways' boxes -/
def swHit (m n : Nat) (s : Sw) : Bool := s.st == (m : Int) && s.goal == (n : Int)
def boxes (P : Pl) (m c n : Nat) : List (Rat × Rat) := (if n = m then [bb P m c] else []) ++ (P.sw.filter (swHit m n)).map fun s => ((bb P m c).1 + s.lo, (bb P m c).2 + s.hi)
theorem boxes_ok (p : PlOk P) (hm : m < P.nm) (hc : c < P.nc) : ∀ q ∈ boxes P m c n, Z 21 q.1 ∧ Z 21 q.2 ∧ q.1 ≤ q.2 := by
  obtain ⟨h1, h2, h3⟩ := bb_ok p hm hc
  intro q hq
  rcases List.mem_append.mp hq with z | z
  · split at z
    · simp at z; subst z; exact ⟨h1.mono (by decide), h2.mono (by decide), h3⟩
    · cases z
  · obtain ⟨s, hs, rfl⟩ := List.mem_map.mp z
    have ok := p.sw s ((List.mem_filter.mp hs).1)
    refine ⟨h1.add ok.zl, h2.add ok.zh, ?_⟩
    exact Rat.le_trans (Rat.add_le_add_right.mpr h3) (Rat.add_le_add_left.mpr ok.le)
theorem ch_loop (hk : 3 < k) {B : Rat × Rat} (hB : Z 10 B.1 ∧ Z 10 B.2) {s0 s2 : Sl} : ∀ (ss : List Sw) (acc : List (Rat × Rat)) (s6 s7 s8 s9 : Sl), acc.length + ss.length ≤ 1000 → (∀ s ∈ ss, SwOk s) →
    ∃ t6 t7 t8 t9, loopRun (.tup [.name 6, .name 7, .name 8, .name 7, .name 7, .name 9]) (evB (runN T Γ k) Γ L_change_boxes_1) (ss.map swD) [s0, .val (.int m), s2, .val (.int n), .val (bxs B), .own (acc.map bxs), s6, s7, s8, s9] g =
      some (.nx, [s0, .val (.int m), s2, .val (.int n), .val (bxs B), .own ((acc ++ (ss.filter (swHit m n)).map fun s => (B.1 + s.lo, B.2 + s.hi)).map bxs), t6, t7, t8, t9], g)
  | [], acc, s6, s7, s8, s9, _, _ => ⟨s6, s7, s8, s9, by simp [loopRun]⟩
  | s :: ss, acc, s6, s7, s8, s9, hl, h => by
    rw [List.length_cons] at hl
    have ok := h s List.mem_cons_self
    have hlen : acc.length < 16777216 := by omega
    have e1 : runN T Γ k f_sum_of_boxes [bxs B, bx s.lo s.hi] g = some (bxs (B.1 + s.lo, B.2 + s.hi), g) := run_sum hk hB.1 hB.2 ok.zl ok.zh (by decide)
    have ebind : bindT (.tup [.name 6, .name 7, .name 8, .name 7, .name 7, .name 9]) (swD s) [s0, .val (.int m), s2, .val (.int n), .val (bxs B), .own (acc.map bxs), s6, s7, s8, s9] =
      some [s0, .val (.int m), s2, .val (.int n), .val (bxs B), .own (acc.map bxs), .val (.int s.st), .val (.str (if s.must then "must" else "may")), .val (.int s.goal), .val (bx s.lo s.hi)] := rfl
    by_cases z : swHit m n s = true
    · have z1 := (Bool.and_eq_true_iff.mp z).1
      have z2 := (Bool.and_eq_true_iff.mp z).2
      have e : evB (runN T Γ k) Γ L_change_boxes_1 [s0, .val (.int m), s2, .val (.int n), .val (bxs B), .own (acc.map bxs), .val (.int s.st), .val (.str (if s.must then "must" else "may")), .val (.int s.goal), .val (bx s.lo s.hi)] g =
          some (.nx, [s0, .val (.int m), s2, .val (.int n), .val (bxs B), .own ((acc ++ [(B.1 + s.lo, B.2 + s.hi)]).map bxs), .val (.int s.st), .val (.str (if s.must then "must" else "may")), .val (.int s.goal), .val (bx s.lo s.hi)], g) := by
        unfold L_change_boxes_1
        rw [List.map_append]
        simp only [Bool.false_eq_true, Nat.zero_add, Nat.reduceAdd, Nat.reduceLeDiff, lineB_val, Nat.reduceLT, Nat.zero_lt_succ, Nat.lt_add_one, reduceIte, Nat.one_pos, Nat.lt_irrefl, and_self, and_true, true_and, ne_eq, not_false_eq_true, not_true_eq_false, Nat.reduceEqDiff, Nat.reduceBEq, if_true, if_false, Bool.true_and, Bool.and_true, Bool.false_and, Bool.and_false, Bool.not_true, Bool.not_false, Bool.not_not, decide_true, decide_false, evB, evX, evE, evT, evS, evA, evI, bindT, bindTs, List.getElem?_cons_zero, List.getElem?_cons_succ, List.set_cons_zero, List.set_cons_succ, List.length_cons, List.length_nil, op2_add, op2_sub, cmpD_lt, cmpD_le, cmpD_gt, cmpD_ge, cmpD_eq, cmpD_ne, tru_bl, items_tup, items_lst, items_fro, items_ref, items_rt, still_tup, still_lst, still_fro, at0, at1, at2, at3, at4, at5, at6, at7, at8, Option.map_some, z1, z2, e1, List.length_map, hlen]
        rfl
      obtain ⟨t6, t7, t8, t9, e'⟩ := ch_loop hk hB (s0 := s0) (s2 := s2) ss (acc ++ [(B.1 + s.lo, B.2 + s.hi)]) _ _ _ _ (by rw [List.length_append, List.length_singleton]; omega) fun q hq => h q (List.mem_cons_of_mem _ hq)
      refine ⟨t6, t7, t8, t9, ?_⟩
      rw [List.map_cons, loopRun, ebind]
      simp only
      rw [e]
      simp only
      rw [e', List.filter_cons_of_pos z, List.map_cons, List.append_assoc]
      rfl
    · have z' : swHit m n s = false := by simpa using z
      have e : evB (runN T Γ k) Γ L_change_boxes_1 [s0, .val (.int m), s2, .val (.int n), .val (bxs B), .own (acc.map bxs), .val (.int s.st), .val (.str (if s.must then "must" else "may")), .val (.int s.goal), .val (bx s.lo s.hi)] g =
          some (.nx, [s0, .val (.int m), s2, .val (.int n), .val (bxs B), .own (acc.map bxs), .val (.int s.st), .val (.str (if s.must then "must" else "may")), .val (.int s.goal), .val (bx s.lo s.hi)], g) := by
        unfold L_change_boxes_1
        unfold swHit at z'
        cases z1 : s.st == (m : Int) with
        | false => simp only [Bool.false_eq_true, Nat.zero_add, Nat.reduceAdd, Nat.reduceLeDiff, lineB_val, Nat.reduceLT, Nat.zero_lt_succ, Nat.lt_add_one, reduceIte, Nat.one_pos, Nat.lt_irrefl, and_self, and_true, true_and, ne_eq, not_false_eq_true, not_true_eq_false, Nat.reduceEqDiff, Nat.reduceBEq, if_true, if_false, Bool.true_and, Bool.and_true, Bool.false_and, Bool.and_false, Bool.not_true, Bool.not_false, Bool.not_not, decide_true, decide_false, evB, evX, evE, evT, evS, evA, evI, bindT, bindTs, List.getElem?_cons_zero, List.getElem?_cons_succ, List.set_cons_zero, List.set_cons_succ, List.length_cons, List.length_nil, op2_add, op2_sub, cmpD_lt, cmpD_le, cmpD_gt, cmpD_ge, cmpD_eq, cmpD_ne, tru_bl, items_tup, items_lst, items_fro, items_ref, items_rt, still_tup, still_lst, still_fro, at0, at1, at2, at3, at4, at5, at6, at7, at8, Option.map_some, z1]
        | true =>
          rw [z1, Bool.true_and] at z'
          simp only [Bool.false_eq_true, Nat.zero_add, Nat.reduceAdd, Nat.reduceLeDiff, lineB_val, Nat.reduceLT, Nat.zero_lt_succ, Nat.lt_add_one, reduceIte, Nat.one_pos, Nat.lt_irrefl, and_self, and_true, true_and, ne_eq, not_false_eq_true, not_true_eq_false, Nat.reduceEqDiff, Nat.reduceBEq, if_true, if_false, Bool.true_and, Bool.and_true, Bool.false_and, Bool.and_false, Bool.not_true, Bool.not_false, Bool.not_not, decide_true, decide_false, evB, evX, evE, evT, evS, evA, evI, bindT, bindTs, List.getElem?_cons_zero, List.getElem?_cons_succ, List.set_cons_zero, List.set_cons_succ, List.length_cons, List.length_nil, op2_add, op2_sub, cmpD_lt, cmpD_le, cmpD_gt, cmpD_ge, cmpD_eq, cmpD_ne, tru_bl, items_tup, items_lst, items_fro, items_ref, items_rt, still_tup, still_lst, still_fro, at0, at1, at2, at3, at4, at5, at6, at7, at8, Option.map_some, z1, z']
      obtain ⟨t6, t7, t8, t9, e'⟩ := ch_loop hk hB (s0 := s0) (s2 := s2) ss acc _ _ _ _ (by omega) fun q hq => h q (List.mem_cons_of_mem _ hq)
      refine ⟨t6, t7, t8, t9, ?_⟩
      rw [List.map_cons, loopRun, ebind]
      simp only
      rw [e]
      simp only
      rw [e', List.filter_cons_of_neg z]
theorem run_change (hk : 5 < k) (p : PlOk P) (hm : m < P.nm) (hc : c < P.nc) : runN T Γ k f_change_boxes [plD P, .int m, .int c, .int n] g = some (.lst ((boxes P m c n).map bxs), g) := by
  obtain ⟨k, rfl⟩ : ∃ k', k = k' + 1 := ⟨k - 1, by omega⟩
  rw [run_eq T_change_boxes rfl]
  show res (evB _ _ B_change_boxes [.val (plD P), .val (.int m), .val (.int c), .val (.int n), .un, .un, .un, .un, .un, .un] g) = _
  have e1 := run_beat_box (g := g) (k := k) (by omega) p hm hc
  have ok := bb_ok p hm hc
  have lp := ch_loop (g := g) (k := k) (m := m) (n := n) (by omega) (B := bb P m c) ⟨ok.1, ok.2.1⟩ (s0 := .val (plD P)) (s2 := .val (.int c)) P.sw (if n = m then [bb P m c] else []) .un .un .un .un (by have := p.s2; split <;> simp <;> omega) p.sw
  obtain ⟨t6, t7, t8, t9, e2⟩ := lp
  have e3 : ((n : Int) == (m : Int)) = decide (n = m) := by
    by_cases z : n = m
    · subst z; simp
    · rw [decide_eq_false z]; simp; omega
  unfold B_change_boxes boxes
  unfold plD at e1 e2 ⊢
  by_cases z : n = m
  · rw [if_pos z] at e2 ⊢
    rw [List.map_cons, List.map_nil] at e2
    simp only [Bool.false_eq_true, Nat.zero_add, Nat.reduceAdd, Nat.reduceLeDiff, lineB_val, Nat.reduceLT, Nat.zero_lt_succ, Nat.lt_add_one, reduceIte, Nat.one_pos, Nat.lt_irrefl, and_self, and_true, true_and, ne_eq, not_false_eq_true, not_true_eq_false, Nat.reduceEqDiff, Nat.reduceBEq, if_true, if_false, Bool.true_and, Bool.and_true, Bool.false_and, Bool.and_false, Bool.not_true, Bool.not_false, Bool.not_not, decide_true, decide_false, evB, evX, evE, evT, evS, evA, evI, bindT, bindTs, List.getElem?_cons_zero, List.getElem?_cons_succ, List.set_cons_zero, List.set_cons_succ, List.length_cons, List.length_nil, op2_add, op2_sub, cmpD_lt, cmpD_le, cmpD_gt, cmpD_ge, cmpD_eq, cmpD_ne, tru_bl, items_tup, items_lst, items_fro, items_ref, items_rt, still_tup, still_lst, still_fro, at0, at1, at2, at3, at4, at5, at6, at7, at8, Option.map_some, e1, freshL, e3, decide_eq_true z, e2, res]
  · rw [if_neg z] at e2 ⊢
    rw [List.map_nil] at e2
    simp only [Bool.false_eq_true, Nat.zero_add, Nat.reduceAdd, Nat.reduceLeDiff, lineB_val, Nat.reduceLT, Nat.zero_lt_succ, Nat.lt_add_one, reduceIte, Nat.one_pos, Nat.lt_irrefl, and_self, and_true, true_and, ne_eq, not_false_eq_true, not_true_eq_false, Nat.reduceEqDiff, Nat.reduceBEq, if_true, if_false, Bool.true_and, Bool.and_true, Bool.false_and, Bool.and_false, Bool.not_true, Bool.not_false, Bool.not_not, decide_true, decide_false, evB, evX, evE, evT, evS, evA, evI, bindT, bindTs, List.getElem?_cons_zero, List.getElem?_cons_succ, List.set_cons_zero, List.set_cons_succ, List.length_cons, List.length_nil, op2_add, op2_sub, cmpD_lt, cmpD_le, cmpD_gt, cmpD_ge, cmpD_eq, cmpD_ne, tru_bl, items_tup, items_lst, items_fro, items_ref, items_rt, still_tup, still_lst, still_fro, at0, at1, at2, at3, at4, at5, at6, at7, at8, Option.map_some, e1, freshL, e3, decide_eq_false z, e2, res]
end
end K48

set_option linter.all false
set_option maxRecDepth 100000
set_option Elab.async false
set_option exponentiation.threshold 100000
namespace K48
open DP
def hull1 (a b : Rat × Rat) : Rat × Rat := (if a.1 < b.1 then a.1 else b.1, if b.2 < a.2 then a.2 else b.2)
def hullO (o : Option (Rat × Rat)) (b : Rat × Rat) : Option (Rat × Rat) := match o with
  | none => some b
  | some a => some (hull1 a b)
def hD : Option (Rat × Rat) → D
  | none => .non
  | some q => bxs q
def Zo (o : Option (Rat × Rat)) : Prop := ∀ q, o = some q → Z 21 q.1 ∧ Z 21 q.2
def fc (d : Rat) (q : Rat × Rat) : Int × Int := ((q.1 / d).floor, (q.2 / d).ceil)
def offD : Option (Int × Int) → D
  | none => .non
  | some q => ib q.1 q.2
def offs (P : Pl) (d : Rat) (m c n : Nat) : Option (Int × Int) := ((boxes P m c n).foldl hullO none).map (fc d)
theorem Zo.step {o : Option (Rat × Rat)} {b : Rat × Rat} (h : Zo o) (hb : Z 21 b.1 ∧ Z 21 b.2) : Zo (hullO o b) := by
  intro q e
  cases o with
  | none => cases e; exact hb
  | some a =>
    have ha := h a rfl
    cases e
    unfold hull1
    refine ⟨?_, ?_⟩
    · show Z 21 (if a.1 < b.1 then a.1 else b.1); split; exact ha.1; exact hb.1
    · show Z 21 (if b.2 < a.2 then a.2 else b.2); split; exact ha.2; exact hb.2
theorem Zo.fold : ∀ (bs : List (Rat × Rat)) {o : Option (Rat × Rat)}, Zo o → (∀ b ∈ bs, Z 21 b.1 ∧ Z 21 b.2) → Zo (bs.foldl hullO o)
  | [], _, h, _ => h
  | b :: bs, _, h, hb => Zo.fold bs (h.step (hb b List.mem_cons_self)) fun x hx => hb x (List.mem_cons_of_mem _ hx)
section
variable {k N m c n : Nat} {g : Gs} {P : Pl} {d : Rat}
theorem of_loop (hk : 1 < k) {s0 s1 s2 s3 s4 : Sl} : ∀ (bs : List (Rat × Rat)) (o : Option (Rat × Rat)) (s6 : Sl), Zo o → (∀ b ∈ bs, Z 21 b.1 ∧ Z 21 b.2) →
    ∃ t6, loopRun (.name 6) (evB (runN T Γ k) Γ L_offset_of_1) (bs.map bxs) [s0, s1, s2, s3, s4, .val (hD o), s6] g = some (.nx, [s0, s1, s2, s3, s4, .val (hD (bs.foldl hullO o)), t6], g)
  | [], o, s6, _, _ => ⟨s6, rfl⟩
  | b :: bs, o, s6, h, hb => by
    have zb := hb b List.mem_cons_self
    have e : evB (runN T Γ k) Γ L_offset_of_1 [s0, s1, s2, s3, s4, .val (hD o), .val (bxs b)] g = some (.nx, [s0, s1, s2, s3, s4, .val (hD (hullO o b)), .val (bxs b)], g) := by
      unfold L_offset_of_1
      cases o with
      | none =>
        unfold hD
        simp only [Bool.false_eq_true, Nat.zero_add, Nat.reduceAdd, Nat.reduceLeDiff, lineB_val, Nat.reduceLT, Nat.zero_lt_succ, Nat.lt_add_one, reduceIte, Nat.one_pos, Nat.lt_irrefl, and_self, and_true, true_and, ne_eq, not_false_eq_true, not_true_eq_false, Nat.reduceEqDiff, Nat.reduceBEq, if_true, if_false, Bool.true_and, Bool.and_true, Bool.false_and, Bool.and_false, Bool.not_true, Bool.not_false, Bool.not_not, decide_true, decide_false, evB, evX, evE, evT, evS, evA, evI, bindT, bindTs, List.getElem?_cons_zero, List.getElem?_cons_succ, List.set_cons_zero, List.set_cons_succ, List.length_cons, List.length_nil, op2_add, op2_sub, cmpD_lt, cmpD_le, cmpD_gt, cmpD_ge, cmpD_eq, cmpD_ne, tru_bl, items_tup, items_lst, items_fro, items_ref, items_rt, still_tup, still_lst, still_fro, at0, at1, at2, at3, at4, at5, at6, at7, at8, Option.map_some, isNon, hullO]
      | some a =>
        have za := h a rfl
        have e1 : runN T Γ k f_box_hull [bxs a, bxs b] g = some (bxs (hull1 a b), g) := run_hull hk za.1 za.2 zb.1 zb.2 (by decide)
        have e0 : isNon (bxs a) = false := rfl
        unfold hD
        simp only [Bool.false_eq_true, Nat.zero_add, Nat.reduceAdd, Nat.reduceLeDiff, lineB_val, Nat.reduceLT, Nat.zero_lt_succ, Nat.lt_add_one, reduceIte, Nat.one_pos, Nat.lt_irrefl, and_self, and_true, true_and, ne_eq, not_false_eq_true, not_true_eq_false, Nat.reduceEqDiff, Nat.reduceBEq, if_true, if_false, Bool.true_and, Bool.and_true, Bool.false_and, Bool.and_false, Bool.not_true, Bool.not_false, Bool.not_not, decide_true, decide_false, evB, evX, evE, evT, evS, evA, evI, bindT, bindTs, List.getElem?_cons_zero, List.getElem?_cons_succ, List.set_cons_zero, List.set_cons_succ, List.length_cons, List.length_nil, op2_add, op2_sub, cmpD_lt, cmpD_le, cmpD_gt, cmpD_ge, cmpD_eq, cmpD_ne, tru_bl, items_tup, items_lst, items_fro, items_ref, items_rt, still_tup, still_lst, still_fro, at0, at1, at2, at3, at4, at5, at6, at7, at8, Option.map_some, e0, hullO, e1]
    obtain ⟨t6, e'⟩ := of_loop hk (s0 := s0) (s1 := s1) (s2 := s2) (s3 := s3) (s4 := s4) bs (hullO o b) (.val (bxs b)) (h.step zb) fun x hx => hb x (List.mem_cons_of_mem _ hx)
    refine ⟨t6, ?_⟩
    rw [List.map_cons, loopRun, show bindT (.name 6) (bxs b) [s0, s1, s2, s3, s4, .val (hD o), s6] = some [s0, s1, s2, s3, s4, .val (hD o), .val (bxs b)] from rfl]
    simp only
    rw [e]
    exact e'
theorem run_offset_of (hk : 6 < k) (p : PlOk P) (hm : m < P.nm) (hc : c < P.nc) (hd : 0 < d) (zd : Z 20 d) : runN T Γ k f_offset_of [plD P, .tup [rt d], .int m, .int c, .int n] g = some (offD (offs P d m c n), g) := by
  obtain ⟨k, rfl⟩ : ∃ k', k = k' + 1 := ⟨k - 1, by omega⟩
  rw [run_eq T_offset_of rfl]
  show res (evB _ _ B_offset_of [.val (plD P), .val (.tup [rt d]), .val (.int m), .val (.int c), .val (.int n), .un, .un] g) = _
  have bo := boxes_ok (n := n) p hm hc
  have zb : ∀ b ∈ boxes P m c n, Z 21 b.1 ∧ Z 21 b.2 := fun b hb => ⟨(bo b hb).1, (bo b hb).2.1⟩
  have e1 := run_change (g := g) (n := n) (k := k) (by omega) p hm hc
  obtain ⟨t6, e2⟩ := of_loop (g := g) (k := k) (by omega) (s0 := .val (plD P)) (s1 := .val (.tup [rt d])) (s2 := .val (.int m)) (s3 := .val (.int c)) (s4 := .val (.int n)) (boxes P m c n) none .un (fun q h => by cases h) zb
  have e2' : loopRun (.name 6) (evB (runN T Γ k) Γ L_offset_of_1) ((boxes P m c n).map bxs) [.val (plD P), .val (.tup [rt d]), .val (.int m), .val (.int c), .val (.int n), .val .non, .un] g = _ := e2
  unfold B_offset_of offs
  cases hf : (boxes P m c n).foldl hullO none with
  | none =>
    rw [hf] at e2'
    have e0 : isNon (hD none) = true := rfl
    simp only [Bool.false_eq_true, Nat.zero_add, Nat.reduceAdd, Nat.reduceLeDiff, lineB_val, Nat.reduceLT, Nat.zero_lt_succ, Nat.lt_add_one, reduceIte, Nat.one_pos, Nat.lt_irrefl, and_self, and_true, true_and, ne_eq, not_false_eq_true, not_true_eq_false, Nat.reduceEqDiff, Nat.reduceBEq, if_true, if_false, Bool.true_and, Bool.and_true, Bool.false_and, Bool.and_false, Bool.not_true, Bool.not_false, Bool.not_not, decide_true, decide_false, evB, evX, evE, evT, evS, evA, evI, bindT, bindTs, List.getElem?_cons_zero, List.getElem?_cons_succ, List.set_cons_zero, List.set_cons_succ, List.length_cons, List.length_nil, op2_add, op2_sub, cmpD_lt, cmpD_le, cmpD_gt, cmpD_ge, cmpD_eq, cmpD_ne, tru_bl, items_tup, items_lst, items_fro, items_ref, items_rt, still_tup, still_lst, still_fro, at0, at1, at2, at3, at4, at5, at6, at7, at8, Option.map_some, e1, e2', e0, res, Option.map_none]
    rfl
  | some q =>
    rw [hf] at e2'
    have zq := Zo.fold (boxes P m c n) (o := none) (fun q h => by cases h) zb q hf
    have e0 : isNon (hD (some q)) = false := rfl
    have e3 : runN T Γ k f_made_whole [.tup [rt d], hD (some q)] g = some (ib (q.1 / d).floor (q.2 / d).ceil, g) := run_whole (by omega) zq.1 zq.2 zd hd (by decide) (by decide)
    simp only [Bool.false_eq_true, Nat.zero_add, Nat.reduceAdd, Nat.reduceLeDiff, lineB_val, Nat.reduceLT, Nat.zero_lt_succ, Nat.lt_add_one, reduceIte, Nat.one_pos, Nat.lt_irrefl, and_self, and_true, true_and, ne_eq, not_false_eq_true, not_true_eq_false, Nat.reduceEqDiff, Nat.reduceBEq, if_true, if_false, Bool.true_and, Bool.and_true, Bool.false_and, Bool.and_false, Bool.not_true, Bool.not_false, Bool.not_not, decide_true, decide_false, evB, evX, evE, evT, evS, evA, evI, bindT, bindTs, List.getElem?_cons_zero, List.getElem?_cons_succ, List.set_cons_zero, List.set_cons_succ, List.length_cons, List.length_nil, op2_add, op2_sub, cmpD_lt, cmpD_le, cmpD_gt, cmpD_ge, cmpD_eq, cmpD_ne, tru_bl, items_tup, items_lst, items_fro, items_ref, items_rt, still_tup, still_lst, still_fro, at0, at1, at2, at3, at4, at5, at6, at7, at8, Option.map_some, e1, e2', e0, e3, res]
    rfl
def tabD (nm nc : Nat) (O : Nat → Nat → Nat → Option (Int × Int)) : D := .tup ((List.range nm).map fun m => .tup ((List.range nc).map fun c => .tup ((List.range nm).map fun n => offD (O m c n))))
theorem or_row1 (hk : 6 < k) (p : PlOk P) (hd : 0 < d) (zd : Z 20 d) (hm : m < P.nm) (hc : c < P.nc) {s2 s3 s4 : Sl} : evE (runN T Γ k) Γ E_offsets_of_1 [.val (plD P), .val (.tup [rt d]), s2, s3, s4, .val (.int (m : Nat)), .val (.int (c : Nat)), .val (.int (n : Nat))] g = some (offD (offs P d m c n), g) := by
  unfold E_offsets_of_1
  simp only [Bool.false_eq_true, Nat.zero_add, Nat.reduceAdd, Nat.reduceLeDiff, lineB_val, Nat.reduceLT, Nat.zero_lt_succ, Nat.lt_add_one, reduceIte, Nat.one_pos, Nat.lt_irrefl, and_self, and_true, true_and, ne_eq, not_false_eq_true, not_true_eq_false, Nat.reduceEqDiff, Nat.reduceBEq, if_true, if_false, Bool.true_and, Bool.and_true, Bool.false_and, Bool.and_false, Bool.not_true, Bool.not_false, Bool.not_not, decide_true, decide_false, evB, evX, evE, evT, evS, evA, evI, bindT, bindTs, List.getElem?_cons_zero, List.getElem?_cons_succ, List.set_cons_zero, List.set_cons_succ, List.length_cons, List.length_nil, op2_add, op2_sub, cmpD_lt, cmpD_le, cmpD_gt, cmpD_ge, cmpD_eq, cmpD_ne, tru_bl, items_tup, items_lst, items_fro, items_ref, items_rt, still_tup, still_lst, still_fro, at0, at1, at2, at3, at4, at5, at6, at7, at8, Option.map_some, run_offset_of (g := g) (k := k) (n := n) (by omega) p hm hc hd zd]
theorem or_row2 (hk : 6 < k) (p : PlOk P) (hd : 0 < d) (zd : Z 20 d) (hm : m < P.nm) (hc : c < P.nc) {s2 s3 s4 s7 : Sl} : lcRun [7] (.name 7) (fun _ g => some (true, g)) (evE (runN T Γ k) Γ E_offsets_of_1) [.val (plD P), .val (.tup [rt d]), s2, s3, s4, .val (.int (m : Nat)), .val (.int (c : Nat)), s7] (intRow 0 P.nm) g = some ((List.range P.nm).map fun n => offD (offs P d m c n), g) := by
  rw [intRow_map]
  exact lc_mapm _ _ _ fun n hn => ⟨_, rfl, or_row1 hk p hd zd hm hc⟩
theorem or_row3 (p : PlOk P) {s0 s1 s3 s4 s5 s6 s7 : Sl} : evI (runN T Γ k) Γ (.seq (.e (.var 2))) [s0, s1, .val (.rng 0 (P.nm : Int)), s3, s4, s5, s6, s7] g = some (intRow 0 P.nm, g) := by
  have hm2 := p.m2
  exact evI_seq (x := .rng 0 (P.nm : Int)) (by simp only [Bool.false_eq_true, Nat.zero_add, Nat.reduceAdd, Nat.reduceLeDiff, lineB_val, Nat.reduceLT, Nat.zero_lt_succ, Nat.lt_add_one, reduceIte, Nat.one_pos, Nat.lt_irrefl, and_self, and_true, true_and, ne_eq, not_false_eq_true, not_true_eq_false, Nat.reduceEqDiff, Nat.reduceBEq, if_true, if_false, Bool.true_and, Bool.and_true, Bool.false_and, Bool.and_false, Bool.not_true, Bool.not_false, Bool.not_not, decide_true, decide_false, evB, evX, evE, evT, evS, evA, evI, bindT, bindTs, List.getElem?_cons_zero, List.getElem?_cons_succ, List.set_cons_zero, List.set_cons_succ, List.length_cons, List.length_nil, op2_add, op2_sub, cmpD_lt, cmpD_le, cmpD_gt, cmpD_ge, cmpD_eq, cmpD_ne, tru_bl, items_tup, items_lst, items_fro, items_ref, items_rt, still_tup, still_lst, still_fro, at0, at1, at2, at3, at4, at5, at6, at7, at8, Option.map_some]) (still_rng P.nm (by omega))
theorem or_row (hk : 6 < k) (p : PlOk P) (hd : 0 < d) (zd : Z 20 d) (hm : m < P.nm) (hc : c < P.nc) {s3 s4 s7 : Sl} : evE (runN T Γ k) Γ E_offsets_of_2 [.val (plD P), .val (.tup [rt d]), .val (.rng 0 (P.nm : Int)), s3, s4, .val (.int (m : Nat)), .val (.int (c : Nat)), s7] g = some (.tup ((List.range P.nm).map fun n => offD (offs P d m c n)), g) := by
  have hm2 := p.m2
  have hl : (intRow 0 P.nm).length < lineB := by rw [intRow_length, lineB_val]; omega
  rw [E_offsets_of_2, evE, evS, evE, or_row3 p]
  simp only
  rw [if_pos hl, or_row2 hk p hd zd hm hc]
theorem or_step (hk : 6 < k) (p : PlOk P) (hd : 0 < d) (zd : Z 20 d) (hm : m < P.nm) {acc : List D} (ha : acc.length < 1000) {s6 s7 : Sl} : evB (runN T Γ k) Γ L_offsets_of_3 [.val (plD P), .val (.tup [rt d]), .val (.rng 0 (P.nm : Int)), .val (.rng 0 (P.nc : Int)), .own acc, .val (.int (m : Nat)), s6, s7] g =
    some (.nx, [.val (plD P), .val (.tup [rt d]), .val (.rng 0 (P.nm : Int)), .val (.rng 0 (P.nc : Int)), .own (acc ++ [.tup ((List.range P.nc).map fun c => .tup ((List.range P.nm).map fun n => offD (offs P d m c n)))]), .val (.int (m : Nat)), s6, s7], g) := by
  have hc3 := p.c3
  have lc : lcRun [6] (.name 6) (fun _ g => some (true, g)) (evE (runN T Γ k) Γ E_offsets_of_2) [.val (plD P), .val (.tup [rt d]), .val (.rng 0 (P.nm : Int)), .val (.rng 0 (P.nc : Int)), .own acc, .val (.int (m : Nat)), s6, s7] (intRow 0 P.nc) g = some ((List.range P.nc).map fun c => .tup ((List.range P.nm).map fun n => offD (offs P d m c n)), g) := by
    rw [intRow_map]
    exact lc_mapm _ _ _ fun c hc => ⟨_, rfl, or_row hk p hd zd hm (List.mem_range.mp hc)⟩
  have e := evE_tupOf (evE_lcA (own := [6]) (t := .name 6) (evI_seq (C := runN T Γ k) (Γ := Γ) (a := .e (.var 3)) (E := [.val (plD P), .val (.tup [rt d]), .val (.rng 0 (P.nm : Int)), .val (.rng 0 (P.nc : Int)), .own acc, .val (.int (m : Nat)), s6, s7]) (g := g) (x := .rng 0 (P.nc : Int)) (by simp only [Bool.false_eq_true, Nat.zero_add, Nat.reduceAdd, Nat.reduceLeDiff, lineB_val, Nat.reduceLT, Nat.zero_lt_succ, Nat.lt_add_one, reduceIte, Nat.one_pos, Nat.lt_irrefl, and_self, and_true, true_and, ne_eq, not_false_eq_true, not_true_eq_false, Nat.reduceEqDiff, Nat.reduceBEq, if_true, if_false, Bool.true_and, Bool.and_true, Bool.false_and, Bool.and_false, Bool.not_true, Bool.not_false, Bool.not_not, decide_true, decide_false, evB, evX, evE, evT, evS, evA, evI, bindT, bindTs, List.getElem?_cons_zero, List.getElem?_cons_succ, List.set_cons_zero, List.set_cons_succ, List.length_cons, List.length_nil, op2_add, op2_sub, cmpD_lt, cmpD_le, cmpD_gt, cmpD_ge, cmpD_eq, cmpD_ne, tru_bl, items_tup, items_lst, items_fro, items_ref, items_rt, still_tup, still_lst, still_fro, at0, at1, at2, at3, at4, at5, at6, at7, at8, Option.map_some]) (still_rng P.nc (by omega))) (by rw [intRow_length, lineB_val]; omega) lc)
  unfold L_offsets_of_3
  rw [evB_cons (evX_app e rfl (by rw [lineB_val]; omega)), evB]
  rfl
theorem or_loop (hk : 6 < k) (p : PlOk P) (hd : 0 < d) (zd : Z 20 d) {s6 s7 : Sl} : ∀ (j i : Nat) (acc : List D) (s5 : Sl), i + j ≤ P.nm → acc.length = i → ∃ t5, loopRun (.name 5) (evB (runN T Γ k) Γ L_offsets_of_3) ((List.range' i j).map fun (x : Nat) => .int (x : Int)) [.val (plD P), .val (.tup [rt d]), .val (.rng 0 (P.nm : Int)), .val (.rng 0 (P.nc : Int)), .own acc, s5, s6, s7] g =
      some (.nx, [.val (plD P), .val (.tup [rt d]), .val (.rng 0 (P.nm : Int)), .val (.rng 0 (P.nc : Int)), .own (acc ++ (List.range' i j).map fun m => .tup ((List.range P.nc).map fun c => .tup ((List.range P.nm).map fun n => offD (offs P d m c n)))), t5, s6, s7], g)
  | 0, i, acc, s5, _, _ => ⟨s5, by rw [List.range'_zero, List.map_nil, List.map_nil, List.append_nil, loop_nil]⟩
  | j + 1, i, acc, s5, hi, ha => by
    have hm2 := p.m2
    obtain ⟨t5, e'⟩ := or_loop hk p hd zd (s6 := s6) (s7 := s7) j (i + 1) (acc ++ [.tup ((List.range P.nc).map fun c => .tup ((List.range P.nm).map fun n => offD (offs P d i c n)))]) (.val (.int (i : Nat))) (by omega) (by rw [List.length_append, List.length_singleton]; omega)
    refine ⟨t5, ?_⟩
    rw [List.range'_succ, List.map_cons, List.map_cons, loop_cons rfl (or_step hk p hd zd (by omega) (by omega)), e', List.append_assoc, List.singleton_append]
theorem or_1 (p : PlOk P) {l : En} : evE (runN T Γ k) Γ (.len (.e (.ix (.e (.var 0)) (.int 2)))) (.val (plD P) :: l) g = some (.int (P.nm : Int), g) := by
  unfold plD
  simp only [Bool.false_eq_true, Nat.zero_add, Nat.reduceAdd, Nat.reduceLeDiff, lineB_val, Nat.reduceLT, Nat.zero_lt_succ, Nat.lt_add_one, reduceIte, Nat.one_pos, Nat.lt_irrefl, and_self, and_true, true_and, ne_eq, not_false_eq_true, not_true_eq_false, Nat.reduceEqDiff, Nat.reduceBEq, if_true, if_false, Bool.true_and, Bool.and_true, Bool.false_and, Bool.and_false, Bool.not_true, Bool.not_false, Bool.not_not, decide_true, decide_false, evB, evX, evE, evT, evS, evA, evI, bindT, bindTs, List.getElem?_cons_zero, List.getElem?_cons_succ, List.set_cons_zero, List.set_cons_succ, List.length_cons, List.length_nil, op2_add, op2_sub, cmpD_lt, cmpD_le, cmpD_gt, cmpD_ge, cmpD_eq, cmpD_ne, tru_bl, items_tup, items_lst, items_fro, items_ref, items_rt, still_tup, still_lst, still_fro, at0, at1, at2, at3, at4, at5, at6, at7, at8, Option.map_some, p.md]
theorem or_2 (p : PlOk P) {l : En} : evE (runN T Γ k) Γ (.len (.e (.ix (.e (.var 0)) (.int 3)))) (.val (plD P) :: l) g = some (.int (P.nc : Int), g) := by
  unfold plD
  simp only [Bool.false_eq_true, Nat.zero_add, Nat.reduceAdd, Nat.reduceLeDiff, lineB_val, Nat.reduceLT, Nat.zero_lt_succ, Nat.lt_add_one, reduceIte, Nat.one_pos, Nat.lt_irrefl, and_self, and_true, true_and, ne_eq, not_false_eq_true, not_true_eq_false, Nat.reduceEqDiff, Nat.reduceBEq, if_true, if_false, Bool.true_and, Bool.and_true, Bool.false_and, Bool.and_false, Bool.not_true, Bool.not_false, Bool.not_not, decide_true, decide_false, evB, evX, evE, evT, evS, evA, evI, bindT, bindTs, List.getElem?_cons_zero, List.getElem?_cons_succ, List.set_cons_zero, List.set_cons_succ, List.length_cons, List.length_nil, op2_add, op2_sub, cmpD_lt, cmpD_le, cmpD_gt, cmpD_ge, cmpD_eq, cmpD_ne, tru_bl, items_tup, items_lst, items_fro, items_ref, items_rt, still_tup, still_lst, still_fro, at0, at1, at2, at3, at4, at5, at6, at7, at8, Option.map_some, p.cm]
theorem run_offsets_of (hk : 7 < k) (p : PlOk P) (hd : 0 < d) (zd : Z 20 d) : runN T Γ k f_offsets_of [plD P, .tup [rt d]] g = some (tabD P.nm P.nc (offs P d), g) := by
  obtain ⟨k, rfl⟩ : ∃ k', k = k' + 1 := ⟨k - 1, by omega⟩
  rw [run_eq T_offsets_of rfl]
  show res (evB _ _ B_offsets_of [.val (plD P), .val (.tup [rt d]), .un, .un, .un, .un, .un, .un] g) = _
  have hm2 := p.m2
  obtain ⟨t5, e⟩ := or_loop (g := g) (k := k) (by omega) p hd zd (s6 := .un) (s7 := .un) P.nm 0 [] .un (by omega) rfl
  rw [← List.range_eq_range', ← intRow_map, List.nil_append] at e
  have y1 : evE (runN T Γ k) Γ (.rng1 (.len (.e (.ix (.e (.var 0)) (.int 2))))) [.val (plD P), .val (.tup [rt d]), .un, .un, .un, .un, .un, .un] g = some (.rng 0 (P.nm : Int), g) := by rw [evE, or_1 p]
  have y2 : evE (runN T Γ k) Γ (.rng1 (.len (.e (.ix (.e (.var 0)) (.int 3))))) [.val (plD P), .val (.tup [rt d]), .val (.rng 0 (P.nm : Int)), .un, .un, .un, .un, .un] g = some (.rng 0 (P.nc : Int), g) := by rw [evE, or_2 p]
  have e3 := evX_loop (t := .name 5) (b := L_offsets_of_3) (evI_seq (C := runN T Γ k) (Γ := Γ) (a := .e (.var 2)) (E := [.val (plD P), .val (.tup [rt d]), .val (.rng 0 (P.nm : Int)), .val (.rng 0 (P.nc : Int)), .own [], .un, .un, .un]) (g := g) (x := .rng 0 (P.nm : Int)) (by simp only [Bool.false_eq_true, Nat.zero_add, Nat.reduceAdd, Nat.reduceLeDiff, lineB_val, Nat.reduceLT, Nat.zero_lt_succ, Nat.lt_add_one, reduceIte, Nat.one_pos, Nat.lt_irrefl, and_self, and_true, true_and, ne_eq, not_false_eq_true, not_true_eq_false, Nat.reduceEqDiff, Nat.reduceBEq, if_true, if_false, Bool.true_and, Bool.and_true, Bool.false_and, Bool.and_false, Bool.not_true, Bool.not_false, Bool.not_not, decide_true, decide_false, evB, evX, evE, evT, evS, evA, evI, bindT, bindTs, List.getElem?_cons_zero, List.getElem?_cons_succ, List.set_cons_zero, List.set_cons_succ, List.length_cons, List.length_nil, op2_add, op2_sub, cmpD_lt, cmpD_le, cmpD_gt, cmpD_ge, cmpD_eq, cmpD_ne, tru_bl, items_tup, items_lst, items_fro, items_ref, items_rt, still_tup, still_lst, still_fro, at0, at1, at2, at3, at4, at5, at6, at7, at8, Option.map_some]) (still_rng P.nm (by omega))) e
  unfold B_offsets_of
  rw [evB_cons (E1 := [.val (plD P), .val (.tup [rt d]), .val (.rng 0 (P.nm : Int)), .un, .un, .un, .un, .un]) (evX_set y1 (by simp)), evB_cons (E1 := [.val (plD P), .val (.tup [rt d]), .val (.rng 0 (P.nm : Int)), .val (.rng 0 (P.nc : Int)), .un, .un, .un, .un]) (evX_set y2 (by simp))]
  rw [evB_cons (E1 := [.val (plD P), .val (.tup [rt d]), .val (.rng 0 (P.nm : Int)), .val (.rng 0 (P.nc : Int)), .own [], .un, .un, .un]) (g1 := g) (by simp only [Bool.false_eq_true, Nat.zero_add, Nat.reduceAdd, Nat.reduceLeDiff, lineB_val, Nat.reduceLT, Nat.zero_lt_succ, Nat.lt_add_one, reduceIte, Nat.one_pos, Nat.lt_irrefl, and_self, and_true, true_and, ne_eq, not_false_eq_true, not_true_eq_false, Nat.reduceEqDiff, Nat.reduceBEq, if_true, if_false, Bool.true_and, Bool.and_true, Bool.false_and, Bool.and_false, Bool.not_true, Bool.not_false, Bool.not_not, decide_true, decide_false, evB, evX, evE, evT, evS, evA, evI, bindT, bindTs, List.getElem?_cons_zero, List.getElem?_cons_succ, List.set_cons_zero, List.set_cons_succ, List.length_cons, List.length_nil, op2_add, op2_sub, cmpD_lt, cmpD_le, cmpD_gt, cmpD_ge, cmpD_eq, cmpD_ne, tru_bl, items_tup, items_lst, items_fro, items_ref, items_rt, still_tup, still_lst, still_fro, at0, at1, at2, at3, at4, at5, at6, at7, at8, Option.map_some, freshL]), evB_cons e3]
  simp only [Bool.false_eq_true, Nat.zero_add, Nat.reduceAdd, Nat.reduceLeDiff, lineB_val, Nat.reduceLT, Nat.zero_lt_succ, Nat.lt_add_one, reduceIte, Nat.one_pos, Nat.lt_irrefl, and_self, and_true, true_and, ne_eq, not_false_eq_true, not_true_eq_false, Nat.reduceEqDiff, Nat.reduceBEq, if_true, if_false, Bool.true_and, Bool.and_true, Bool.false_and, Bool.and_false, Bool.not_true, Bool.not_false, Bool.not_not, decide_true, decide_false, evB, evX, evE, evT, evS, evA, evI, bindT, bindTs, List.getElem?_cons_zero, List.getElem?_cons_succ, List.set_cons_zero, List.set_cons_succ, List.length_cons, List.length_nil, op2_add, op2_sub, cmpD_lt, cmpD_le, cmpD_gt, cmpD_ge, cmpD_eq, cmpD_ne, tru_bl, items_tup, items_lst, items_fro, items_ref, items_rt, still_tup, still_lst, still_fro, at0, at1, at2, at3, at4, at5, at6, at7, at8, Option.map_some, res]
  rfl
end
end K48

set_option linter.all false
set_option maxRecDepth 100000
set_option Elab.async false
set_option exponentiation.threshold 100000
namespace K48
open DP
def wD (q : Rat × Rat) : D := .tup [rt q.1, rt q.2]
section
variable {k N m c n : Nat} {g : Gs} {P : Pl} {d : Rat}
theorem wy_loop (hk : 1 < k) {B : Rat × Rat} (hB : Z 10 B.1 ∧ Z 10 B.2) {s0 s2 s8 : Sl} : ∀ (ss : List Sw) (acc : List (Rat × Rat)) (s5 : Sl), acc.length + ss.length ≤ 1000 → (∀ s ∈ ss, SwOk s) →
    ∃ t5, loopRun (.name 5) (evB (runN T Γ k) Γ L_law_ways_2) (ss.map swD) [s0, .val (.int m), s2, .val (.int n), .own (acc.map wD), s5, .val (rt B.1), .val (rt B.2), s8] g =
      some (.nx, [s0, .val (.int m), s2, .val (.int n), .own ((acc ++ (ss.filter (swHit m n)).map fun s => (B.1 + s.lo, B.2 + s.hi)).map wD), t5, .val (rt B.1), .val (rt B.2), s8], g)
  | [], acc, s5, _, _ => ⟨s5, by rw [List.map_nil, loop_nil, List.filter_nil, List.map_nil, List.append_nil]⟩
  | s :: ss, acc, s5, hl, h => by
    rw [List.length_cons] at hl
    have ok := h s List.mem_cons_self
    have hlen : acc.length < 16777216 := by omega
    have e1 := run_plus_rt (g := g) (k := k) hk hB.1 ok.zl (by decide)
    have e2 := run_plus_rt (g := g) (k := k) hk hB.2 ok.zh (by decide)
    by_cases z : swHit m n s = true
    · have z1 := (Bool.and_eq_true_iff.mp z).1
      have z2 := (Bool.and_eq_true_iff.mp z).2
      have e : evB (runN T Γ k) Γ L_law_ways_2 [s0, .val (.int m), s2, .val (.int n), .own (acc.map wD), .val (swD s), .val (rt B.1), .val (rt B.2), s8] g =
          some (.nx, [s0, .val (.int m), s2, .val (.int n), .own ((acc ++ [(B.1 + s.lo, B.2 + s.hi)]).map wD), .val (swD s), .val (rt B.1), .val (rt B.2), s8], g) := by
        unfold L_law_ways_2 swD bx
        rw [List.map_append]
        simp only [Bool.false_eq_true, Nat.zero_add, Nat.reduceAdd, Nat.reduceLeDiff, lineB_val, Nat.reduceLT, Nat.zero_lt_succ, Nat.lt_add_one, reduceIte, Nat.one_pos, Nat.lt_irrefl, and_self, and_true, true_and, ne_eq, not_false_eq_true, not_true_eq_false, Nat.reduceEqDiff, Nat.reduceBEq, if_true, if_false, Bool.true_and, Bool.and_true, Bool.false_and, Bool.and_false, Bool.not_true, Bool.not_false, Bool.not_not, decide_true, decide_false, evB, evX, evE, evT, evS, evA, evI, bindT, bindTs, List.getElem?_cons_zero, List.getElem?_cons_succ, List.set_cons_zero, List.set_cons_succ, List.length_cons, List.length_nil, op2_add, op2_sub, cmpD_lt, cmpD_le, cmpD_gt, cmpD_ge, cmpD_eq, cmpD_ne, tru_bl, items_tup, items_lst, items_fro, items_ref, items_rt, still_tup, still_lst, still_fro, at0, at1, at2, at3, at4, at5, at6, at7, at8, Option.map_some, z1, z2, e1, e2, List.length_map, hlen]
        rfl
      obtain ⟨t5, e'⟩ := wy_loop hk hB (s0 := s0) (s2 := s2) (s8 := s8) ss (acc ++ [(B.1 + s.lo, B.2 + s.hi)]) (.val (swD s)) (by rw [List.length_append, List.length_singleton]; omega) fun q hq => h q (List.mem_cons_of_mem _ hq)
      exact ⟨t5, by rw [List.map_cons, loop_cons rfl e, e', List.filter_cons_of_pos z, List.map_cons, List.append_assoc, List.singleton_append]⟩
    · have z' : swHit m n s = false := by simpa using z
      have e : evB (runN T Γ k) Γ L_law_ways_2 [s0, .val (.int m), s2, .val (.int n), .own (acc.map wD), .val (swD s), .val (rt B.1), .val (rt B.2), s8] g =
          some (.nx, [s0, .val (.int m), s2, .val (.int n), .own (acc.map wD), .val (swD s), .val (rt B.1), .val (rt B.2), s8], g) := by
        unfold L_law_ways_2 swD
        unfold swHit at z'
        cases z1 : s.st == (m : Int) with
        | false => simp only [Bool.false_eq_true, Nat.zero_add, Nat.reduceAdd, Nat.reduceLeDiff, lineB_val, Nat.reduceLT, Nat.zero_lt_succ, Nat.lt_add_one, reduceIte, Nat.one_pos, Nat.lt_irrefl, and_self, and_true, true_and, ne_eq, not_false_eq_true, not_true_eq_false, Nat.reduceEqDiff, Nat.reduceBEq, if_true, if_false, Bool.true_and, Bool.and_true, Bool.false_and, Bool.and_false, Bool.not_true, Bool.not_false, Bool.not_not, decide_true, decide_false, evB, evX, evE, evT, evS, evA, evI, bindT, bindTs, List.getElem?_cons_zero, List.getElem?_cons_succ, List.set_cons_zero, List.set_cons_succ, List.length_cons, List.length_nil, op2_add, op2_sub, cmpD_lt, cmpD_le, cmpD_gt, cmpD_ge, cmpD_eq, cmpD_ne, tru_bl, items_tup, items_lst, items_fro, items_ref, items_rt, still_tup, still_lst, still_fro, at0, at1, at2, at3, at4, at5, at6, at7, at8, Option.map_some, z1]
        | true =>
          rw [z1, Bool.true_and] at z'
          simp only [Bool.false_eq_true, Nat.zero_add, Nat.reduceAdd, Nat.reduceLeDiff, lineB_val, Nat.reduceLT, Nat.zero_lt_succ, Nat.lt_add_one, reduceIte, Nat.one_pos, Nat.lt_irrefl, and_self, and_true, true_and, ne_eq, not_false_eq_true, not_true_eq_false, Nat.reduceEqDiff, Nat.reduceBEq, if_true, if_false, Bool.true_and, Bool.and_true, Bool.false_and, Bool.and_false, Bool.not_true, Bool.not_false, Bool.not_not, decide_true, decide_false, evB, evX, evE, evT, evS, evA, evI, bindT, bindTs, List.getElem?_cons_zero, List.getElem?_cons_succ, List.set_cons_zero, List.set_cons_succ, List.length_cons, List.length_nil, op2_add, op2_sub, cmpD_lt, cmpD_le, cmpD_gt, cmpD_ge, cmpD_eq, cmpD_ne, tru_bl, items_tup, items_lst, items_fro, items_ref, items_rt, still_tup, still_lst, still_fro, at0, at1, at2, at3, at4, at5, at6, at7, at8, Option.map_some, z1, z']
      obtain ⟨t5, e'⟩ := wy_loop hk hB (s0 := s0) (s2 := s2) (s8 := s8) ss acc (.val (swD s)) (by omega) fun q hq => h q (List.mem_cons_of_mem _ hq)
      exact ⟨t5, by rw [List.map_cons, loop_cons rfl e, e', List.filter_cons_of_neg z]⟩
theorem run_ways (hk : 2 < k) (p : PlOk P) (hm : m < P.nm) (hc : c < P.nc) : runN T Γ k f_law_ways [plD P, .int m, .int c, .int n] g = some (.lst ((boxes P m c n).map wD), g) := by
  obtain ⟨k, rfl⟩ : ∃ k', k = k' + 1 := ⟨k - 1, by omega⟩
  rw [run_eq T_law_ways rfl]
  show res (evB _ _ B_law_ways [.val (plD P), .val (.int m), .val (.int c), .val (.int n), .un, .un, .un, .un, .un] g) = _
  have r := rate_ok p hm hc
  have ok := bb_ok p hm hc
  have c1 := run_mult_rt (g := g) (k := k) (by omega) p.bz r.z1 (by decide)
  have c2 := run_mult_rt (g := g) (k := k) (by omega) p.bz r.z2 (by decide)
  rw [Rat.mul_comm] at c1 c2
  obtain ⟨t5, e2⟩ := wy_loop (g := g) (k := k) (m := m) (n := n) (by omega) (B := bb P m c) ⟨ok.1, ok.2.1⟩ (s0 := .val (plD P)) (s2 := .val (.int c)) (s8 := .un) P.sw (if n = m then [bb P m c] else []) .un (by have := p.s2; split <;> simp <;> omega) p.sw
  have e3 : ((n : Int) == (m : Int)) = decide (n = m) := by
    by_cases z : n = m
    · subst z; simp
    · rw [decide_eq_false z]; simp; omega
  have a2 : atI ((rowL P.nc (P.rs.getD m (2, 0))).map bxs) (c : Int) = some (.tup [.tup [rt (rate P m c).1, rt (rate P m c).2]]) := at_row p hc
  unfold B_law_ways boxes
  unfold plD at e2 ⊢
  unfold bb at e2 ⊢
  by_cases z : n = m
  · rw [if_pos z] at e2 ⊢
    rw [List.map_cons, List.map_nil] at e2
    simp only [wD] at e2
    simp only [Bool.false_eq_true, Nat.zero_add, Nat.reduceAdd, Nat.reduceLeDiff, lineB_val, Nat.reduceLT, Nat.zero_lt_succ, Nat.lt_add_one, reduceIte, Nat.one_pos, Nat.lt_irrefl, and_self, and_true, true_and, ne_eq, not_false_eq_true, not_true_eq_false, Nat.reduceEqDiff, Nat.reduceBEq, if_true, if_false, Bool.true_and, Bool.and_true, Bool.false_and, Bool.and_false, Bool.not_true, Bool.not_false, Bool.not_not, decide_true, decide_false, evB, evX, evE, evT, evS, evA, evI, bindT, bindTs, List.getElem?_cons_zero, List.getElem?_cons_succ, List.set_cons_zero, List.set_cons_succ, List.length_cons, List.length_nil, op2_add, op2_sub, cmpD_lt, cmpD_le, cmpD_gt, cmpD_ge, cmpD_eq, cmpD_ne, tru_bl, items_tup, items_lst, items_fro, items_ref, items_rt, still_tup, still_lst, still_fro, at0, at1, at2, at3, at4, at5, at6, at7, at8, Option.map_some, at_rates p hm, a2, lcRun, wipeE, E_law_ways_1, c1, c2, freshL, e3, decide_eq_true z, e2, res, Bool.and_self]
  · rw [if_neg z] at e2 ⊢
    rw [List.map_nil] at e2
    simp only [Bool.false_eq_true, Nat.zero_add, Nat.reduceAdd, Nat.reduceLeDiff, lineB_val, Nat.reduceLT, Nat.zero_lt_succ, Nat.lt_add_one, reduceIte, Nat.one_pos, Nat.lt_irrefl, and_self, and_true, true_and, ne_eq, not_false_eq_true, not_true_eq_false, Nat.reduceEqDiff, Nat.reduceBEq, if_true, if_false, Bool.true_and, Bool.and_true, Bool.false_and, Bool.and_false, Bool.not_true, Bool.not_false, Bool.not_not, decide_true, decide_false, evB, evX, evE, evT, evS, evA, evI, bindT, bindTs, List.getElem?_cons_zero, List.getElem?_cons_succ, List.set_cons_zero, List.set_cons_succ, List.length_cons, List.length_nil, op2_add, op2_sub, cmpD_lt, cmpD_le, cmpD_gt, cmpD_ge, cmpD_eq, cmpD_ne, tru_bl, items_tup, items_lst, items_fro, items_ref, items_rt, still_tup, still_lst, still_fro, at0, at1, at2, at3, at4, at5, at6, at7, at8, Option.map_some, at_rates p hm, a2, lcRun, wipeE, E_law_ways_1, c1, c2, freshL, e3, decide_eq_false z, e2, res, Bool.and_self]
/-! #### the smallest floor is the floor of the smallest -/
theorem fc_hull {d : Rat} (hd : 0 < d) (a b : Rat × Rat) : fc d (hull1 a b) = (min (fc d a).1 (fc d b).1, max (fc d a).2 (fc d b).2) := by
  have mono : ∀ x y : Rat, x ≤ y → (x / d).floor ≤ (y / d).floor := fun x y h => Rat.floor_monotone (by
    rw [Rat.div_def, Rat.div_def]
    exact Rat.mul_le_mul_of_nonneg_right h (Rat.le_of_lt (Rat.inv_pos.mpr hd)))
  have mono2 : ∀ x y : Rat, x ≤ y → (x / d).ceil ≤ (y / d).ceil := fun x y h => by
    rw [Rat.ceil_eq_neg_floor_neg, Rat.ceil_eq_neg_floor_neg]
    have e : ∀ z : Rat, -(z / d) = (-z) / d := fun z => by rw [Rat.div_def, Rat.div_def, Rat.neg_mul]
    rw [e, e]
    have := mono (-y) (-x) (Rat.neg_le_neg h)
    omega
  unfold fc hull1
  refine Prod.ext ?_ ?_
  · show ((if a.1 < b.1 then a.1 else b.1) / d).floor = min (a.1 / d).floor (b.1 / d).floor
    split
    · rename_i h; have := mono a.1 b.1 (Rat.le_of_lt h); omega
    · rename_i h; have := mono b.1 a.1 (Rat.not_lt.mp h); omega
  · show ((if b.2 < a.2 then a.2 else b.2) / d).ceil = max (a.2 / d).ceil (b.2 / d).ceil
    split
    · rename_i h; have := mono2 b.2 a.2 (Rat.le_of_lt h); omega
    · rename_i h; have := mono2 a.2 b.2 (Rat.not_lt.mp h); omega
theorem fold_hull {d : Rat} (hd : 0 < d) : ∀ (bs : List (Rat × Rat)) (a : Rat × Rat), ∃ q, bs.foldl hullO (some a) = some q ∧ fc d q = ((bs.map fun b => (fc d b).1).foldl min (fc d a).1, (bs.map fun b => (fc d b).2).foldl max (fc d a).2)
  | [], a => ⟨a, rfl, rfl⟩
  | b :: bs, a => by
    obtain ⟨q, e1, e2⟩ := fold_hull hd bs (hull1 a b)
    refine ⟨q, e1, ?_⟩
    rw [e2, fc_hull hd]
    rfl
theorem sh_rt {n : Nat} (x : Rat) : Sh (n + 1) (rt x) (.tuple [.int x.num, .int x.den]) := Sh.tup (.cons (.int _) (.cons (.int _) .nil))
theorem sh_wD (q : Rat × Rat) : Sh 2 (wD q) (.tuple [.tuple [.int q.1.num, .int q.1.den], .tuple [.int q.2.num, .int q.2.den]]) := Sh.tup (.cons (sh_rt _) (.cons (sh_rt _) .nil))
theorem run_law_offset (hk : 3 < k) (p : PlOk P) (hm : m < P.nm) (hc : c < P.nc) (hd : 0 < d) (zd : Z 20 d) : runN T Γ k f_law_offset [plD P, rt d, .int m, .int c, .int n] g = some (offD (offs P d m c n), g) := by
  obtain ⟨k, rfl⟩ : ∃ k', k = k' + 1 := ⟨k - 1, by omega⟩
  rw [run_eq T_law_offset rfl]
  show res (evB _ _ B_law_offset [.val (plD P), .val (rt d), .val (.int m), .val (.int c), .val (.int n), .un, .un] g) = _
  have e1 := run_ways (g := g) (n := n) (k := k) (by omega) p hm hc
  have bo := boxes_ok (n := n) p hm hc
  have hl : (boxes P m c n).length < 16777216 := by
    have : (boxes P m c n).length ≤ 1 + P.sw.length := by
      unfold boxes
      rw [List.length_append, List.length_map]
      have := List.length_filter_le (swHit m n) P.sw
      split <;> simp <;> omega
    have := p.s2
    omega
  have em : eqD (.lst ((boxes P m c n).map wD)) (.lst []) = some (boxes P m c n).isEmpty := by
    rw [eqD_empty (Shs.map _ _ sh_wD _) (by decide), List.isEmpty_map]
  have cm : cmpD .eq (.lst ((boxes P m c n).map wD)) (.lst []) = some (boxes P m c n).isEmpty := em
  have l1 : ∀ s0 s2 s3 s4 s5, lcRun [6] (.name 6) (fun _ g => some (true, g)) (evE (runN T Γ k) Γ E_law_offset_1) [s0, .val (rt d), s2, s3, s4, s5, .un] ((boxes P m c n).map wD) g = some ((boxes P m c n).map fun b => .int (fc d b).1, g) := by
    intro s0 s2 s3 s4 s5
    refine lc_mapm _ _ _ fun b hb => ⟨[s0, .val (rt d), s2, s3, s4, s5, .val (wD b)], rfl, ?_⟩
    unfold E_law_offset_1 wD
    simp only [Bool.false_eq_true, Nat.zero_add, Nat.reduceAdd, Nat.reduceLeDiff, lineB_val, Nat.reduceLT, Nat.zero_lt_succ, Nat.lt_add_one, reduceIte, Nat.one_pos, Nat.lt_irrefl, and_self, and_true, true_and, ne_eq, not_false_eq_true, not_true_eq_false, Nat.reduceEqDiff, Nat.reduceBEq, if_true, if_false, Bool.true_and, Bool.and_true, Bool.false_and, Bool.and_false, Bool.not_true, Bool.not_false, Bool.not_not, decide_true, decide_false, evB, evX, evE, evT, evS, evA, evI, bindT, bindTs, List.getElem?_cons_zero, List.getElem?_cons_succ, List.set_cons_zero, List.set_cons_succ, List.length_cons, List.length_nil, op2_add, op2_sub, cmpD_lt, cmpD_le, cmpD_gt, cmpD_ge, cmpD_eq, cmpD_ne, tru_bl, items_tup, items_lst, items_fro, items_ref, items_rt, still_tup, still_lst, still_fro, at0, at1, at2, at3, at4, at5, at6, at7, at8, Option.map_some, run_floor (g := g) (k := k) (by omega) (bo b hb).1 zd hd (by decide) (by decide)]
    rfl
  have l2 : ∀ s0 s2 s3 s4 s5, lcRun [6] (.name 6) (fun _ g => some (true, g)) (evE (runN T Γ k) Γ E_law_offset_2) [s0, .val (rt d), s2, s3, s4, s5, .un] ((boxes P m c n).map wD) g = some ((boxes P m c n).map fun b => .int (fc d b).2, g) := by
    intro s0 s2 s3 s4 s5
    refine lc_mapm _ _ _ fun b hb => ⟨[s0, .val (rt d), s2, s3, s4, s5, .val (wD b)], rfl, ?_⟩
    unfold E_law_offset_2 wD
    simp only [Bool.false_eq_true, Nat.zero_add, Nat.reduceAdd, Nat.reduceLeDiff, lineB_val, Nat.reduceLT, Nat.zero_lt_succ, Nat.lt_add_one, reduceIte, Nat.one_pos, Nat.lt_irrefl, and_self, and_true, true_and, ne_eq, not_false_eq_true, not_true_eq_false, Nat.reduceEqDiff, Nat.reduceBEq, if_true, if_false, Bool.true_and, Bool.and_true, Bool.false_and, Bool.and_false, Bool.not_true, Bool.not_false, Bool.not_not, decide_true, decide_false, evB, evX, evE, evT, evS, evA, evI, bindT, bindTs, List.getElem?_cons_zero, List.getElem?_cons_succ, List.set_cons_zero, List.set_cons_succ, List.length_cons, List.length_nil, op2_add, op2_sub, cmpD_lt, cmpD_le, cmpD_gt, cmpD_ge, cmpD_eq, cmpD_ne, tru_bl, items_tup, items_lst, items_fro, items_ref, items_rt, still_tup, still_lst, still_fro, at0, at1, at2, at3, at4, at5, at6, at7, at8, Option.map_some, run_ceil (g := g) (k := k) (by omega) (bo b hb).2.1 zd hd (by decide) (by decide)]
    rfl
  have i1 : intsOf ((boxes P m c n).map fun b => .int (fc d b).1) = some ((boxes P m c n).map fun b => (fc d b).1) := by
    have := intsOf_map ((boxes P m c n).map fun b => (fc d b).1)
    rwa [List.map_map] at this
  have i2 : intsOf ((boxes P m c n).map fun b => .int (fc d b).2) = some ((boxes P m c n).map fun b => (fc d b).2) := by
    have := intsOf_map ((boxes P m c n).map fun b => (fc d b).2)
    rwa [List.map_map] at this
  unfold B_law_offset offs
  cases hb : boxes P m c n with
  | nil =>
    rw [hb] at e1 cm
    rw [List.map_nil] at e1 cm
    simp only [Bool.false_eq_true, Nat.zero_add, Nat.reduceAdd, Nat.reduceLeDiff, lineB_val, Nat.reduceLT, Nat.zero_lt_succ, Nat.lt_add_one, reduceIte, Nat.one_pos, Nat.lt_irrefl, and_self, and_true, true_and, ne_eq, not_false_eq_true, not_true_eq_false, Nat.reduceEqDiff, Nat.reduceBEq, if_true, if_false, Bool.true_and, Bool.and_true, Bool.false_and, Bool.and_false, Bool.not_true, Bool.not_false, Bool.not_not, decide_true, decide_false, evB, evX, evE, evT, evS, evA, evI, bindT, bindTs, List.getElem?_cons_zero, List.getElem?_cons_succ, List.set_cons_zero, List.set_cons_succ, List.length_cons, List.length_nil, op2_add, op2_sub, cmpD_lt, cmpD_le, cmpD_gt, cmpD_ge, cmpD_eq, cmpD_ne, tru_bl, items_tup, items_lst, items_fro, items_ref, items_rt, still_tup, still_lst, still_fro, at0, at1, at2, at3, at4, at5, at6, at7, at8, Option.map_some, e1, List.map_nil, cm, List.isEmpty_nil, res]
    rfl
  | cons b bs =>
    obtain ⟨q, q1, q2⟩ := fold_hull hd bs b
    rw [hb] at e1 cm l1 l2 i1 i2 hl
    have hl' : bs.length + 1 < 16777216 := hl
    have m1 : minI ((b :: bs).map fun b => (fc d b).1) = some (fc d q).1 := by rw [q2]; rfl
    have m2 : maxI ((b :: bs).map fun b => (fc d b).2) = some (fc d q).2 := by rw [q2]; rfl
    simp only [Bool.false_eq_true, Nat.zero_add, Nat.reduceAdd, Nat.reduceLeDiff, lineB_val, Nat.reduceLT, Nat.zero_lt_succ, Nat.lt_add_one, reduceIte, Nat.one_pos, Nat.lt_irrefl, and_self, and_true, true_and, ne_eq, not_false_eq_true, not_true_eq_false, Nat.reduceEqDiff, Nat.reduceBEq, if_true, if_false, Bool.true_and, Bool.and_true, Bool.false_and, Bool.and_false, Bool.not_true, Bool.not_false, Bool.not_not, decide_true, decide_false, evB, evX, evE, evT, evS, evA, evI, bindT, bindTs, List.getElem?_cons_zero, List.getElem?_cons_succ, List.set_cons_zero, List.set_cons_succ, List.length_cons, List.length_nil, op2_add, op2_sub, cmpD_lt, cmpD_le, cmpD_gt, cmpD_ge, cmpD_eq, cmpD_ne, tru_bl, items_tup, items_lst, items_fro, items_ref, items_rt, still_tup, still_lst, still_fro, at0, at1, at2, at3, at4, at5, at6, at7, at8, Option.map_some, e1, cm, List.isEmpty_cons, List.length_map, hl', l1, l2, i1, i2, m1, m2, res, List.foldl_cons]
    show _ = some (offD (Option.map (fc d) (bs.foldl hullO (some b))), g)
    rw [q1]
    rfl
end
end K48

set_option linter.all false
set_option maxRecDepth 100000
set_option Elab.async false
set_option exponentiation.threshold 100000
namespace K48
open DP
/-! ### the same -/
def okS : Nat → D → Bool
  | _, .non => true
  | _, .int _ => true
  | n + 1, .tup xs => decide (xs.length ≤ 1000) && xs.all (okS n)
  | n + 1, .lst xs => decide (xs.length ≤ 1000) && xs.all (okS n)
  | _, _ => false
section
variable {k N m c n : Nat} {g : Gs} {P : Pl} {d : Rat}
theorem same_loop {a : D} {xs : List D} (hi : items g a = some xs) (hx : ∀ x ∈ xs, runN T Γ k f_law_same [x, x] g = some (.bl true, g)) : ∀ (j i : Nat) (s2 : Sl), i + j ≤ xs.length →
    ∃ t2, loopRun (.name 2) (evB (runN T Γ k) Γ L_law_same_1) ((List.range' i j).map fun (x : Nat) => .int (x : Int)) [.val a, .val a, s2] g = some (.nx, [.val a, .val a, t2], g)
  | 0, i, s2, _ => ⟨s2, rfl⟩
  | j + 1, i, s2, h => by
    obtain ⟨x, e⟩ : ∃ x, xs[i]? = some x := ⟨_, List.getElem?_eq_getElem (by omega)⟩
    have hs := hx x (List.mem_of_getElem? e)
    have eb : evB (runN T Γ k) Γ L_law_same_1 [.val a, .val a, .val (.int (i : Nat))] g = some (.nx, [.val a, .val a, .val (.int (i : Nat))], g) := by
      unfold L_law_same_1
      simp only [Bool.false_eq_true, Nat.zero_add, Nat.reduceAdd, Nat.reduceLeDiff, lineB_val, Nat.reduceLT, Nat.zero_lt_succ, Nat.lt_add_one, reduceIte, Nat.one_pos, Nat.lt_irrefl, and_self, and_true, true_and, ne_eq, not_false_eq_true, not_true_eq_false, Nat.reduceEqDiff, Nat.reduceBEq, if_true, if_false, Bool.true_and, Bool.and_true, Bool.false_and, Bool.and_false, Bool.not_true, Bool.not_false, Bool.not_not, decide_true, decide_false, evB, evX, evE, evT, evS, evA, evI, bindT, bindTs, List.getElem?_cons_zero, List.getElem?_cons_succ, List.set_cons_zero, List.set_cons_succ, List.length_cons, List.length_nil, op2_add, op2_sub, cmpD_lt, cmpD_le, cmpD_gt, cmpD_ge, cmpD_eq, cmpD_ne, tru_bl, items_tup, items_lst, items_fro, items_ref, items_rt, still_tup, still_lst, still_fro, at0, at1, at2, at3, at4, at5, at6, at7, at8, Option.map_some, hi, atI_nat e, hs]
    obtain ⟨t2, e'⟩ := same_loop hi hx j (i + 1) (.val (.int (i : Nat))) (by omega)
    exact ⟨t2, by rw [List.range'_succ, List.map_cons, loop_cons rfl eb, e']⟩
theorem run_same : ∀ (n : Nat) (d : D) (k : Nat), n < k → okS n d = true → runN T Γ k f_law_same [d, d] g = some (.bl true, g) := by
  intro n
  induction n with
  | zero =>
    intro d k hk h
    obtain ⟨k, rfl⟩ : ∃ k', k = k' + 1 := ⟨k - 1, by omega⟩
    rw [run_eq T_law_same rfl]
    show res (evB _ _ B_law_same [.val d, .val d, .un] g) = _
    unfold B_law_same
    cases d with
    | non => simp only [Bool.false_eq_true, Nat.zero_add, Nat.reduceAdd, Nat.reduceLeDiff, lineB_val, Nat.reduceLT, Nat.zero_lt_succ, Nat.lt_add_one, reduceIte, Nat.one_pos, Nat.lt_irrefl, and_self, and_true, true_and, ne_eq, not_false_eq_true, not_true_eq_false, Nat.reduceEqDiff, Nat.reduceBEq, if_true, if_false, Bool.true_and, Bool.and_true, Bool.false_and, Bool.and_false, Bool.not_true, Bool.not_false, Bool.not_not, decide_true, decide_false, evB, evX, evE, evT, evS, evA, evI, bindT, bindTs, List.getElem?_cons_zero, List.getElem?_cons_succ, List.set_cons_zero, List.set_cons_succ, List.length_cons, List.length_nil, op2_add, op2_sub, cmpD_lt, cmpD_le, cmpD_gt, cmpD_ge, cmpD_eq, cmpD_ne, tru_bl, items_tup, items_lst, items_fro, items_ref, items_rt, still_tup, still_lst, still_fro, at0, at1, at2, at3, at4, at5, at6, at7, at8, Option.map_some, isiB, isNon, res]
    | int i => simp only [Bool.false_eq_true, Nat.zero_add, Nat.reduceAdd, Nat.reduceLeDiff, lineB_val, Nat.reduceLT, Nat.zero_lt_succ, Nat.lt_add_one, reduceIte, Nat.one_pos, Nat.lt_irrefl, and_self, and_true, true_and, ne_eq, not_false_eq_true, not_true_eq_false, Nat.reduceEqDiff, Nat.reduceBEq, if_true, if_false, Bool.true_and, Bool.and_true, Bool.false_and, Bool.and_false, Bool.not_true, Bool.not_false, Bool.not_not, decide_true, decide_false, evB, evX, evE, evT, evS, evA, evI, bindT, bindTs, List.getElem?_cons_zero, List.getElem?_cons_succ, List.set_cons_zero, List.set_cons_succ, List.length_cons, List.length_nil, op2_add, op2_sub, cmpD_lt, cmpD_le, cmpD_gt, cmpD_ge, cmpD_eq, cmpD_ne, tru_bl, items_tup, items_lst, items_fro, items_ref, items_rt, still_tup, still_lst, still_fro, at0, at1, at2, at3, at4, at5, at6, at7, at8, Option.map_some, isiB, isNon, res, beq_self_eq_true]
    | _ => cases h
  | succ n ih =>
    intro d k hk h
    obtain ⟨k, rfl⟩ : ∃ k', k = k' + 1 := ⟨k - 1, by omega⟩
    rw [run_eq T_law_same rfl]
    show res (evB _ _ B_law_same [.val d, .val d, .un] g) = _
    cases d with
    | non => unfold B_law_same; simp only [Bool.false_eq_true, Nat.zero_add, Nat.reduceAdd, Nat.reduceLeDiff, lineB_val, Nat.reduceLT, Nat.zero_lt_succ, Nat.lt_add_one, reduceIte, Nat.one_pos, Nat.lt_irrefl, and_self, and_true, true_and, ne_eq, not_false_eq_true, not_true_eq_false, Nat.reduceEqDiff, Nat.reduceBEq, if_true, if_false, Bool.true_and, Bool.and_true, Bool.false_and, Bool.and_false, Bool.not_true, Bool.not_false, Bool.not_not, decide_true, decide_false, evB, evX, evE, evT, evS, evA, evI, bindT, bindTs, List.getElem?_cons_zero, List.getElem?_cons_succ, List.set_cons_zero, List.set_cons_succ, List.length_cons, List.length_nil, op2_add, op2_sub, cmpD_lt, cmpD_le, cmpD_gt, cmpD_ge, cmpD_eq, cmpD_ne, tru_bl, items_tup, items_lst, items_fro, items_ref, items_rt, still_tup, still_lst, still_fro, at0, at1, at2, at3, at4, at5, at6, at7, at8, Option.map_some, isiB, isNon, res]
    | int i => unfold B_law_same; simp only [Bool.false_eq_true, Nat.zero_add, Nat.reduceAdd, Nat.reduceLeDiff, lineB_val, Nat.reduceLT, Nat.zero_lt_succ, Nat.lt_add_one, reduceIte, Nat.one_pos, Nat.lt_irrefl, and_self, and_true, true_and, ne_eq, not_false_eq_true, not_true_eq_false, Nat.reduceEqDiff, Nat.reduceBEq, if_true, if_false, Bool.true_and, Bool.and_true, Bool.false_and, Bool.and_false, Bool.not_true, Bool.not_false, Bool.not_not, decide_true, decide_false, evB, evX, evE, evT, evS, evA, evI, bindT, bindTs, List.getElem?_cons_zero, List.getElem?_cons_succ, List.set_cons_zero, List.set_cons_succ, List.length_cons, List.length_nil, op2_add, op2_sub, cmpD_lt, cmpD_le, cmpD_gt, cmpD_ge, cmpD_eq, cmpD_ne, tru_bl, items_tup, items_lst, items_fro, items_ref, items_rt, still_tup, still_lst, still_fro, at0, at1, at2, at3, at4, at5, at6, at7, at8, Option.map_some, isiB, isNon, res, beq_self_eq_true]
    | tup xs =>
      obtain ⟨h1, h2⟩ := Bool.and_eq_true_iff.mp (show (decide (xs.length ≤ 1000) && xs.all (okS n)) = true from h)
      have h1 := of_decide_eq_true h1
      obtain ⟨t2, e⟩ := same_loop (k := k) (g := g) (a := .tup xs) (xs := xs) rfl (fun x hx => ih x k (by omega) (List.all_eq_true.mp h2 x hx)) xs.length 0 .un (by omega)
      rw [← List.range_eq_range', ← intRow_map] at e
      have t1 : evT (runN T Γ k) Γ (.or (.e (.isi .tuple (.var 1))) (.e (.isi .list (.var 1)))) [.val (.tup xs), .val (.tup xs), .un] g = some (true, g) := by simp only [Bool.false_eq_true, Nat.zero_add, Nat.reduceAdd, Nat.reduceLeDiff, lineB_val, Nat.reduceLT, Nat.zero_lt_succ, Nat.lt_add_one, reduceIte, Nat.one_pos, Nat.lt_irrefl, and_self, and_true, true_and, ne_eq, not_false_eq_true, not_true_eq_false, Nat.reduceEqDiff, Nat.reduceBEq, if_true, if_false, Bool.true_and, Bool.and_true, Bool.false_and, Bool.and_false, Bool.not_true, Bool.not_false, Bool.not_not, decide_true, decide_false, evB, evX, evE, evT, evS, evA, evI, bindT, bindTs, List.getElem?_cons_zero, List.getElem?_cons_succ, List.set_cons_zero, List.set_cons_succ, List.length_cons, List.length_nil, op2_add, op2_sub, cmpD_lt, cmpD_le, cmpD_gt, cmpD_ge, cmpD_eq, cmpD_ne, tru_bl, items_tup, items_lst, items_fro, items_ref, items_rt, still_tup, still_lst, still_fro, at0, at1, at2, at3, at4, at5, at6, at7, at8, Option.map_some, isiB]
      have t2 : evT (runN T Γ k) Γ (.or (.and (.e (.isi .tuple (.var 1))) (.not (.e (.isi .tuple (.var 0))))) (.and (.e (.isi .list (.var 1))) (.not (.e (.isi .list (.var 0)))))) [.val (.tup xs), .val (.tup xs), .un] g = some (false, g) := by simp only [Bool.false_eq_true, Nat.zero_add, Nat.reduceAdd, Nat.reduceLeDiff, lineB_val, Nat.reduceLT, Nat.zero_lt_succ, Nat.lt_add_one, reduceIte, Nat.one_pos, Nat.lt_irrefl, and_self, and_true, true_and, ne_eq, not_false_eq_true, not_true_eq_false, Nat.reduceEqDiff, Nat.reduceBEq, if_true, if_false, Bool.true_and, Bool.and_true, Bool.false_and, Bool.and_false, Bool.not_true, Bool.not_false, Bool.not_not, decide_true, decide_false, evB, evX, evE, evT, evS, evA, evI, bindT, bindTs, List.getElem?_cons_zero, List.getElem?_cons_succ, List.set_cons_zero, List.set_cons_succ, List.length_cons, List.length_nil, op2_add, op2_sub, cmpD_lt, cmpD_le, cmpD_gt, cmpD_ge, cmpD_eq, cmpD_ne, tru_bl, items_tup, items_lst, items_fro, items_ref, items_rt, still_tup, still_lst, still_fro, at0, at1, at2, at3, at4, at5, at6, at7, at8, Option.map_some, isiB]
      have t3 : evT (runN T Γ k) Γ (.e (.cmp .ne (.e (.len (.e (.var 0)))) (.e (.len (.e (.var 1)))))) [.val (.tup xs), .val (.tup xs), .un] g = some (false, g) := by simp only [Bool.false_eq_true, Nat.zero_add, Nat.reduceAdd, Nat.reduceLeDiff, lineB_val, Nat.reduceLT, Nat.zero_lt_succ, Nat.lt_add_one, reduceIte, Nat.one_pos, Nat.lt_irrefl, and_self, and_true, true_and, ne_eq, not_false_eq_true, not_true_eq_false, Nat.reduceEqDiff, Nat.reduceBEq, if_true, if_false, Bool.true_and, Bool.and_true, Bool.false_and, Bool.and_false, Bool.not_true, Bool.not_false, Bool.not_not, decide_true, decide_false, evB, evX, evE, evT, evS, evA, evI, bindT, bindTs, List.getElem?_cons_zero, List.getElem?_cons_succ, List.set_cons_zero, List.set_cons_succ, List.length_cons, List.length_nil, op2_add, op2_sub, cmpD_lt, cmpD_le, cmpD_gt, cmpD_ge, cmpD_eq, cmpD_ne, tru_bl, items_tup, items_lst, items_fro, items_ref, items_rt, still_tup, still_lst, still_fro, at0, at1, at2, at3, at4, at5, at6, at7, at8, Option.map_some, beq_self_eq_true]
      have t4 : evX (runN T Γ k) Γ (.loop (.name 2) (.range1 (.len (.e (.var 1)))) L_law_same_1) [.val (.tup xs), .val (.tup xs), .un] g = _ := evX_loop (evI_range1 (n := xs.length) (by simp only [Bool.false_eq_true, Nat.zero_add, Nat.reduceAdd, Nat.reduceLeDiff, lineB_val, Nat.reduceLT, Nat.zero_lt_succ, Nat.lt_add_one, reduceIte, Nat.one_pos, Nat.lt_irrefl, and_self, and_true, true_and, ne_eq, not_false_eq_true, not_true_eq_false, Nat.reduceEqDiff, Nat.reduceBEq, if_true, if_false, Bool.true_and, Bool.and_true, Bool.false_and, Bool.and_false, Bool.not_true, Bool.not_false, Bool.not_not, decide_true, decide_false, evB, evX, evE, evT, evS, evA, evI, bindT, bindTs, List.getElem?_cons_zero, List.getElem?_cons_succ, List.set_cons_zero, List.set_cons_succ, List.length_cons, List.length_nil, op2_add, op2_sub, cmpD_lt, cmpD_le, cmpD_gt, cmpD_ge, cmpD_eq, cmpD_ne, tru_bl, items_tup, items_lst, items_fro, items_ref, items_rt, still_tup, still_lst, still_fro, at0, at1, at2, at3, at4, at5, at6, at7, at8, Option.map_some]) h1) e
      unfold B_law_same
      rw [evB_stop ((evX_ifsT t1).trans ((evB_pass t2).trans ((evB_pass t3).trans ((evB_cons t4).trans (evB_ret (by rw [evE]))))))]
      rfl
    | lst xs =>
      obtain ⟨h1, h2⟩ := Bool.and_eq_true_iff.mp (show (decide (xs.length ≤ 1000) && xs.all (okS n)) = true from h)
      have h1 := of_decide_eq_true h1
      obtain ⟨t2, e⟩ := same_loop (k := k) (g := g) (a := .lst xs) (xs := xs) rfl (fun x hx => ih x k (by omega) (List.all_eq_true.mp h2 x hx)) xs.length 0 .un (by omega)
      rw [← List.range_eq_range', ← intRow_map] at e
      have t1 : evT (runN T Γ k) Γ (.or (.e (.isi .tuple (.var 1))) (.e (.isi .list (.var 1)))) [.val (.lst xs), .val (.lst xs), .un] g = some (true, g) := by simp only [Bool.false_eq_true, Nat.zero_add, Nat.reduceAdd, Nat.reduceLeDiff, lineB_val, Nat.reduceLT, Nat.zero_lt_succ, Nat.lt_add_one, reduceIte, Nat.one_pos, Nat.lt_irrefl, and_self, and_true, true_and, ne_eq, not_false_eq_true, not_true_eq_false, Nat.reduceEqDiff, Nat.reduceBEq, if_true, if_false, Bool.true_and, Bool.and_true, Bool.false_and, Bool.and_false, Bool.not_true, Bool.not_false, Bool.not_not, decide_true, decide_false, evB, evX, evE, evT, evS, evA, evI, bindT, bindTs, List.getElem?_cons_zero, List.getElem?_cons_succ, List.set_cons_zero, List.set_cons_succ, List.length_cons, List.length_nil, op2_add, op2_sub, cmpD_lt, cmpD_le, cmpD_gt, cmpD_ge, cmpD_eq, cmpD_ne, tru_bl, items_tup, items_lst, items_fro, items_ref, items_rt, still_tup, still_lst, still_fro, at0, at1, at2, at3, at4, at5, at6, at7, at8, Option.map_some, isiB]
      have t2 : evT (runN T Γ k) Γ (.or (.and (.e (.isi .tuple (.var 1))) (.not (.e (.isi .tuple (.var 0))))) (.and (.e (.isi .list (.var 1))) (.not (.e (.isi .list (.var 0)))))) [.val (.lst xs), .val (.lst xs), .un] g = some (false, g) := by simp only [Bool.false_eq_true, Nat.zero_add, Nat.reduceAdd, Nat.reduceLeDiff, lineB_val, Nat.reduceLT, Nat.zero_lt_succ, Nat.lt_add_one, reduceIte, Nat.one_pos, Nat.lt_irrefl, and_self, and_true, true_and, ne_eq, not_false_eq_true, not_true_eq_false, Nat.reduceEqDiff, Nat.reduceBEq, if_true, if_false, Bool.true_and, Bool.and_true, Bool.false_and, Bool.and_false, Bool.not_true, Bool.not_false, Bool.not_not, decide_true, decide_false, evB, evX, evE, evT, evS, evA, evI, bindT, bindTs, List.getElem?_cons_zero, List.getElem?_cons_succ, List.set_cons_zero, List.set_cons_succ, List.length_cons, List.length_nil, op2_add, op2_sub, cmpD_lt, cmpD_le, cmpD_gt, cmpD_ge, cmpD_eq, cmpD_ne, tru_bl, items_tup, items_lst, items_fro, items_ref, items_rt, still_tup, still_lst, still_fro, at0, at1, at2, at3, at4, at5, at6, at7, at8, Option.map_some, isiB]
      have t3 : evT (runN T Γ k) Γ (.e (.cmp .ne (.e (.len (.e (.var 0)))) (.e (.len (.e (.var 1)))))) [.val (.lst xs), .val (.lst xs), .un] g = some (false, g) := by simp only [Bool.false_eq_true, Nat.zero_add, Nat.reduceAdd, Nat.reduceLeDiff, lineB_val, Nat.reduceLT, Nat.zero_lt_succ, Nat.lt_add_one, reduceIte, Nat.one_pos, Nat.lt_irrefl, and_self, and_true, true_and, ne_eq, not_false_eq_true, not_true_eq_false, Nat.reduceEqDiff, Nat.reduceBEq, if_true, if_false, Bool.true_and, Bool.and_true, Bool.false_and, Bool.and_false, Bool.not_true, Bool.not_false, Bool.not_not, decide_true, decide_false, evB, evX, evE, evT, evS, evA, evI, bindT, bindTs, List.getElem?_cons_zero, List.getElem?_cons_succ, List.set_cons_zero, List.set_cons_succ, List.length_cons, List.length_nil, op2_add, op2_sub, cmpD_lt, cmpD_le, cmpD_gt, cmpD_ge, cmpD_eq, cmpD_ne, tru_bl, items_tup, items_lst, items_fro, items_ref, items_rt, still_tup, still_lst, still_fro, at0, at1, at2, at3, at4, at5, at6, at7, at8, Option.map_some, beq_self_eq_true]
      have t4 : evX (runN T Γ k) Γ (.loop (.name 2) (.range1 (.len (.e (.var 1)))) L_law_same_1) [.val (.lst xs), .val (.lst xs), .un] g = _ := evX_loop (evI_range1 (n := xs.length) (by simp only [Bool.false_eq_true, Nat.zero_add, Nat.reduceAdd, Nat.reduceLeDiff, lineB_val, Nat.reduceLT, Nat.zero_lt_succ, Nat.lt_add_one, reduceIte, Nat.one_pos, Nat.lt_irrefl, and_self, and_true, true_and, ne_eq, not_false_eq_true, not_true_eq_false, Nat.reduceEqDiff, Nat.reduceBEq, if_true, if_false, Bool.true_and, Bool.and_true, Bool.false_and, Bool.and_false, Bool.not_true, Bool.not_false, Bool.not_not, decide_true, decide_false, evB, evX, evE, evT, evS, evA, evI, bindT, bindTs, List.getElem?_cons_zero, List.getElem?_cons_succ, List.set_cons_zero, List.set_cons_succ, List.length_cons, List.length_nil, op2_add, op2_sub, cmpD_lt, cmpD_le, cmpD_gt, cmpD_ge, cmpD_eq, cmpD_ne, tru_bl, items_tup, items_lst, items_fro, items_ref, items_rt, still_tup, still_lst, still_fro, at0, at1, at2, at3, at4, at5, at6, at7, at8, Option.map_some]) h1) e
      unfold B_law_same
      rw [evB_stop ((evX_ifsT t1).trans ((evB_pass t2).trans ((evB_pass t3).trans ((evB_cons t4).trans (evB_ret (by rw [evE]))))))]
      rfl
    | _ => cases h
theorem okS_offD (o : Option (Int × Int)) : okS 2 (offD o) = true := by
  cases o <;> rfl
theorem okS_tab {nm nc : Nat} (h1 : nm ≤ 1000) (h2 : nc ≤ 1000) (O : Nat → Nat → Nat → Option (Int × Int)) : okS 5 (tabD nm nc O) = true := by
  unfold tabD
  show (decide (_ ≤ 1000) && List.all _ (okS 4)) = true
  rw [List.length_map, List.length_range, decide_eq_true h1, Bool.true_and, List.all_eq_true]
  intro x hx
  obtain ⟨m, _, rfl⟩ := List.mem_map.mp hx
  show (decide (_ ≤ 1000) && List.all _ (okS 3)) = true
  rw [List.length_map, List.length_range, decide_eq_true h2, Bool.true_and, List.all_eq_true]
  intro x hx
  obtain ⟨c, _, rfl⟩ := List.mem_map.mp hx
  show (decide (_ ≤ 1000) && List.all _ (okS 2)) = true
  rw [List.length_map, List.length_range, decide_eq_true h1, Bool.true_and, List.all_eq_true]
  intro x hx
  obtain ⟨n, _, rfl⟩ := List.mem_map.mp hx
  exact okS_offD _
/-! ### the law's offsets -/
theorem lo_row1 (hk : 3 < k) (p : PlOk P) (hd : 0 < d) (zd : Z 20 d) (hm : m < P.nm) (hc : c < P.nc) {s5 : Sl} : evE (runN T Γ k) Γ E_law_offsets_2 [.val (plD P), .val (rt d), .val (.lst (intRow 0 P.nm)), .val (.int (m : Nat)), .val (.int (c : Nat)), s5] g = some (.tup ((List.range P.nm).map fun n => offD (offs P d m c n)), g) := by
  have hm2 := p.m2
  have lc : lcRun [5] (.name 5) (fun _ g => some (true, g)) (evE (runN T Γ k) Γ E_law_offsets_1) [.val (plD P), .val (rt d), .val (.lst (intRow 0 P.nm)), .val (.int (m : Nat)), .val (.int (c : Nat)), s5] (intRow 0 P.nm) g = some ((List.range P.nm).map fun n => offD (offs P d m c n), g) := by
    conv => lhs; rw [intRow_map]
    refine lc_mapm _ _ _ fun n hn => ⟨[.val (plD P), .val (rt d), .val (.lst ((List.range P.nm).map fun (k : Nat) => .int (k : Int))), .val (.int (m : Nat)), .val (.int (c : Nat)), .val (.int (n : Nat))], rfl, ?_⟩
    unfold E_law_offsets_1
    simp only [Bool.false_eq_true, Nat.zero_add, Nat.reduceAdd, Nat.reduceLeDiff, lineB_val, Nat.reduceLT, Nat.zero_lt_succ, Nat.lt_add_one, reduceIte, Nat.one_pos, Nat.lt_irrefl, and_self, and_true, true_and, ne_eq, not_false_eq_true, not_true_eq_false, Nat.reduceEqDiff, Nat.reduceBEq, if_true, if_false, Bool.true_and, Bool.and_true, Bool.false_and, Bool.and_false, Bool.not_true, Bool.not_false, Bool.not_not, decide_true, decide_false, evB, evX, evE, evT, evS, evA, evI, bindT, bindTs, List.getElem?_cons_zero, List.getElem?_cons_succ, List.set_cons_zero, List.set_cons_succ, List.length_cons, List.length_nil, op2_add, op2_sub, cmpD_lt, cmpD_le, cmpD_gt, cmpD_ge, cmpD_eq, cmpD_ne, tru_bl, items_tup, items_lst, items_fro, items_ref, items_rt, still_tup, still_lst, still_fro, at0, at1, at2, at3, at4, at5, at6, at7, at8, Option.map_some, run_law_offset (g := g) (k := k) (n := n) (by omega) p hm hc hd zd]
  exact evE_tupOf (evE_lcA (evI_seq (x := .lst (intRow 0 P.nm)) (by simp only [Bool.false_eq_true, Nat.zero_add, Nat.reduceAdd, Nat.reduceLeDiff, lineB_val, Nat.reduceLT, Nat.zero_lt_succ, Nat.lt_add_one, reduceIte, Nat.one_pos, Nat.lt_irrefl, and_self, and_true, true_and, ne_eq, not_false_eq_true, not_true_eq_false, Nat.reduceEqDiff, Nat.reduceBEq, if_true, if_false, Bool.true_and, Bool.and_true, Bool.false_and, Bool.and_false, Bool.not_true, Bool.not_false, Bool.not_not, decide_true, decide_false, evB, evX, evE, evT, evS, evA, evI, bindT, bindTs, List.getElem?_cons_zero, List.getElem?_cons_succ, List.set_cons_zero, List.set_cons_succ, List.length_cons, List.length_nil, op2_add, op2_sub, cmpD_lt, cmpD_le, cmpD_gt, cmpD_ge, cmpD_eq, cmpD_ne, tru_bl, items_tup, items_lst, items_fro, items_ref, items_rt, still_tup, still_lst, still_fro, at0, at1, at2, at3, at4, at5, at6, at7, at8, Option.map_some]) rfl) (by rw [intRow_length, lineB_val]; omega) lc)
theorem lo_row2 (hk : 3 < k) (p : PlOk P) (hd : 0 < d) (zd : Z 20 d) (hm : m < P.nm) {s4 s5 : Sl} : evE (runN T Γ k) Γ E_law_offsets_3 [.val (plD P), .val (rt d), .val (.lst (intRow 0 P.nm)), .val (.int (m : Nat)), s4, s5] g = some (.tup ((List.range P.nc).map fun c => .tup ((List.range P.nm).map fun n => offD (offs P d m c n))), g) := by
  have hc3 := p.c3
  have lc : lcRun [4] (.name 4) (fun _ g => some (true, g)) (evE (runN T Γ k) Γ E_law_offsets_2) [.val (plD P), .val (rt d), .val (.lst (intRow 0 P.nm)), .val (.int (m : Nat)), s4, s5] (intRow 0 P.nc) g = some ((List.range P.nc).map fun c => .tup ((List.range P.nm).map fun n => offD (offs P d m c n)), g) := by
    rw [intRow_map P.nc]
    exact lc_mapm _ _ _ fun c hc => ⟨_, rfl, lo_row1 hk p hd zd hm (List.mem_range.mp hc)⟩
  exact evE_tupOf (evE_lcA (evI_range1 (or_2 p) (by omega)) (by rw [intRow_length, lineB_val]; omega) lc)
theorem run_law_offsets (hk : 4 < k) (p : PlOk P) (hd : 0 < d) (zd : Z 20 d) : runN T Γ k f_law_offsets [plD P, rt d] g = some (tabD P.nm P.nc (offs P d), g) := by
  obtain ⟨k, rfl⟩ : ∃ k', k = k' + 1 := ⟨k - 1, by omega⟩
  rw [run_eq T_law_offsets rfl]
  show res (evB _ _ B_law_offsets [.val (plD P), .val (rt d), .un, .un, .un, .un] g) = _
  have hm2 := p.m2
  have y : evE (runN T Γ k) Γ (.lstRng (.len (.e (.ix (.e (.var 0)) (.int 2))))) [.val (plD P), .val (rt d), .un, .un, .un, .un] g = some (.lst (intRow 0 P.nm), g) := by
    have h' : (-1000000 < (P.nm : Int) ∧ (P.nm : Int) < 1000000) := by omega
    rw [evE, or_1 p]
    simp only [if_pos h', Int.toNat_natCast]
  have lc : lcRun [3] (.name 3) (fun _ g => some (true, g)) (evE (runN T Γ k) Γ E_law_offsets_3) [.val (plD P), .val (rt d), .val (.lst (intRow 0 P.nm)), .un, .un, .un] (intRow 0 P.nm) g = some ((List.range P.nm).map fun m => .tup ((List.range P.nc).map fun c => .tup ((List.range P.nm).map fun n => offD (offs P d m c n))), g) := by
    have : intRow 0 P.nm = (List.range P.nm).map fun (k : Nat) => D.int (k : Int) := intRow_map P.nm
    have l2 := lc_mapm (own := [3]) (t := .name 3) (elt := evE (runN T Γ k) Γ E_law_offsets_3) (E := [.val (plD P), .val (rt d), .val (.lst (intRow 0 P.nm)), .un, .un, .un]) (g := g) (fun k : Nat => D.int (k : Int)) (fun m => .tup ((List.range P.nc).map fun c => .tup ((List.range P.nm).map fun n => offD (offs P d m c n)))) (List.range P.nm) fun m hm => ⟨_, rfl, lo_row2 (by omega) p hd zd (List.mem_range.mp hm)⟩
    rw [← this] at l2
    exact l2
  unfold B_law_offsets
  rw [evB_cons (E1 := [.val (plD P), .val (rt d), .val (.lst (intRow 0 P.nm)), .un, .un, .un]) (evX_set y (by simp)), evB_ret (evE_tupOf (evE_lcA (evI_seq (x := .lst (intRow 0 P.nm)) (by simp only [Bool.false_eq_true, Nat.zero_add, Nat.reduceAdd, Nat.reduceLeDiff, lineB_val, Nat.reduceLT, Nat.zero_lt_succ, Nat.lt_add_one, reduceIte, Nat.one_pos, Nat.lt_irrefl, and_self, and_true, true_and, ne_eq, not_false_eq_true, not_true_eq_false, Nat.reduceEqDiff, Nat.reduceBEq, if_true, if_false, Bool.true_and, Bool.and_true, Bool.false_and, Bool.and_false, Bool.not_true, Bool.not_false, Bool.not_not, decide_true, decide_false, evB, evX, evE, evT, evS, evA, evI, bindT, bindTs, List.getElem?_cons_zero, List.getElem?_cons_succ, List.set_cons_zero, List.set_cons_succ, List.length_cons, List.length_nil, op2_add, op2_sub, cmpD_lt, cmpD_le, cmpD_gt, cmpD_ge, cmpD_eq, cmpD_ne, tru_bl, items_tup, items_lst, items_fro, items_ref, items_rt, still_tup, still_lst, still_fro, at0, at1, at2, at3, at4, at5, at6, at7, at8, Option.map_some]) rfl) (by rw [intRow_length, lineB_val]; omega) lc))]
  rfl
/-! ### the reads -/
def rdA (P : Pl) (d : Rat) : Int := (P.err / d).ceil
theorem run_read_pairs (hk : 5 < k) (p : PlOk P) (hd : 0 < d) (zd : Z 20 d) : runN T Γ k f_read_pairs [plD P, .tup [rt d]] g = some (ib (rdA P d) (rdA P d + 1), g) := by
  obtain ⟨k, rfl⟩ : ∃ k', k = k' + 1 := ⟨k - 1, by omega⟩
  rw [run_eq T_read_pairs rfl]
  show res (evB _ _ B_read_pairs [.val (plD P), .val (.tup [rt d]), .un, .un] g) = _
  unfold B_read_pairs plD ib
  simp only [Bool.false_eq_true, Nat.zero_add, Nat.reduceAdd, Nat.reduceLeDiff, lineB_val, Nat.reduceLT, Nat.zero_lt_succ, Nat.lt_add_one, reduceIte, Nat.one_pos, Nat.lt_irrefl, and_self, and_true, true_and, ne_eq, not_false_eq_true, not_true_eq_false, Nat.reduceEqDiff, Nat.reduceBEq, if_true, if_false, Bool.true_and, Bool.and_true, Bool.false_and, Bool.and_false, Bool.not_true, Bool.not_false, Bool.not_not, decide_true, decide_false, evB, evX, evE, evT, evS, evA, evI, bindT, bindTs, List.getElem?_cons_zero, List.getElem?_cons_succ, List.set_cons_zero, List.set_cons_succ, List.length_cons, List.length_nil, op2_add, op2_sub, cmpD_lt, cmpD_le, cmpD_gt, cmpD_ge, cmpD_eq, cmpD_ne, tru_bl, items_tup, items_lst, items_fro, items_ref, items_rt, still_tup, still_lst, still_fro, at0, at1, at2, at3, at4, at5, at6, at7, at8, Option.map_some, pairs, lcRun, wipeE, E_read_pairs_1, run_read_pair (g := g) (k := k) (by omega) p.ez zd hd (by decide) (by decide), res]
  rfl
theorem run_law_reads (hk : 3 < k) (p : PlOk P) (hd : 0 < d) (zd : Z 20 d) : runN T Γ k f_law_reads [plD P, rt d] g = some (ib (rdA P d) (rdA P d + 1), g) := by
  obtain ⟨k, rfl⟩ : ∃ k', k = k' + 1 := ⟨k - 1, by omega⟩
  rw [run_eq T_law_reads rfl]
  show res (evB _ _ B_law_reads [.val (plD P), .val (rt d), .un] g) = _
  unfold B_law_reads plD ib
  simp only [Bool.false_eq_true, Nat.zero_add, Nat.reduceAdd, Nat.reduceLeDiff, lineB_val, Nat.reduceLT, Nat.zero_lt_succ, Nat.lt_add_one, reduceIte, Nat.one_pos, Nat.lt_irrefl, and_self, and_true, true_and, ne_eq, not_false_eq_true, not_true_eq_false, Nat.reduceEqDiff, Nat.reduceBEq, if_true, if_false, Bool.true_and, Bool.and_true, Bool.false_and, Bool.and_false, Bool.not_true, Bool.not_false, Bool.not_not, decide_true, decide_false, evB, evX, evE, evT, evS, evA, evI, bindT, bindTs, List.getElem?_cons_zero, List.getElem?_cons_succ, List.set_cons_zero, List.set_cons_succ, List.length_cons, List.length_nil, op2_add, op2_sub, cmpD_lt, cmpD_le, cmpD_gt, cmpD_ge, cmpD_eq, cmpD_ne, tru_bl, items_tup, items_lst, items_fro, items_ref, items_rt, still_tup, still_lst, still_fro, at0, at1, at2, at3, at4, at5, at6, at7, at8, Option.map_some, run_ceil (g := g) (k := k) (by omega) p.ez zd hd (by decide) (by decide), res]
  rfl
theorem run_halved (hk : 3 < k) (zd : Z 10 d) : runN T Γ k f_halved_units [.tup [rt d], .int 1] g = some (.tup [rt (d * Rat.divInt 1 2)], g) := by
  obtain ⟨k, rfl⟩ : ∃ k', k = k' + 1 := ⟨k - 1, by omega⟩
  rw [run_eq T_halved_units rfl]
  show res (evB _ _ B_halved_units [.val (.tup [rt d]), .val (.int 1), .un, .un, .un] g) = _
  have r : (-(2 ^ 62) ≤ (1 : Int) ∧ (1 : Int) < 2 ^ 62) := by decide
  have ei : intRow 0 (Int.toNat 1) = [.int 0] := rfl
  have e := run_times_rt (g := g) (k := k) (t := Rat.divInt 1 2) (m := 5) (by omega) zd ⟨by unfold Bd; decide, by unfold Bd; decide⟩ (by decide)
  have eh : rt (Rat.divInt 1 2) = .tup [.int 1, .int 2] := rfl
  rw [eh] at e
  have g0 : Γ[0]? = some (.tup [.int 1, .int 2]) := rfl
  unfold B_halved_units
  simp only [Bool.false_eq_true, Nat.zero_add, Nat.reduceAdd, Nat.reduceLeDiff, lineB_val, Nat.reduceLT, Nat.zero_lt_succ, Nat.lt_add_one, reduceIte, Nat.one_pos, Nat.lt_irrefl, and_self, and_true, true_and, ne_eq, not_false_eq_true, not_true_eq_false, Nat.reduceEqDiff, Nat.reduceBEq, if_true, if_false, Bool.true_and, Bool.and_true, Bool.false_and, Bool.and_false, Bool.not_true, Bool.not_false, Bool.not_not, decide_true, decide_false, evB, evX, evE, evT, evS, evA, evI, bindT, bindTs, List.getElem?_cons_zero, List.getElem?_cons_succ, List.set_cons_zero, List.set_cons_succ, List.length_cons, List.length_nil, op2_add, op2_sub, cmpD_lt, cmpD_le, cmpD_gt, cmpD_ge, cmpD_eq, cmpD_ne, tru_bl, items_tup, items_lst, items_fro, items_ref, items_rt, still_tup, still_lst, still_fro, at0, at1, at2, at3, at4, at5, at6, at7, at8, Option.map_some, r, ei, loopRun, L_halved_units_2, lcRun, wipeE, E_halved_units_1, g0, e, res]
end
end K48

set_option linter.all false
set_option maxRecDepth 100000
set_option Elab.async false
set_option exponentiation.threshold 100000
namespace K48
open DP
theorem lc_filterm {α : Type} {own : List Nat} {t : IT} {cond : En → Gs → Option (Bool × Gs)} {elt : En → Gs → Option (D × Gs)} {E : En} {g : Gs} (a b : α → D) (q : α → Bool) : ∀ (xs : List α), (∀ x ∈ xs, ∃ E1, bindT t (a x) (wipeE E own) = some E1 ∧ cond E1 g = some (q x, g) ∧ (q x = true → elt E1 g = some (b x, g))) → lcRun own t cond elt E (xs.map a) g = some ((xs.filter q).map b, g)
  | [], _ => rfl
  | x :: xs, h => by
    obtain ⟨E1, e1, e2, e3⟩ := h x List.mem_cons_self
    have ih := lc_filterm a b q xs fun y hy => h y (List.mem_cons_of_mem _ hy)
    rw [List.map_cons, lcRun, e1]
    simp only
    rw [e2]
    cases hq : q x with
    | false =>
      simp only
      rw [ih, List.filter_cons_of_neg (by simp [hq])]
    | true =>
      simp only
      rw [e3 hq]
      simp only
      rw [ih, List.filter_cons_of_pos hq]
      rfl
/-! ### tables of offsets -/
abbrev Tb := Nat → Nat → Nat → Option (Int × Int)
structure TbOk (nm nc : Nat) (O : Tb) : Prop where
  m1 : 1 ≤ nm
  m2 : nm ≤ 2
  c1 : 1 ≤ nc
  c3 : nc ≤ 3
  le : ∀ m c n q, m < nm → c < nc → O m c n = some q → q.1 ≤ q.2
  stay : ∀ m c, m < nm → c < nc → ∃ q, O m c m = some q
def wv (w : Nat → Int) (x : Nat × Int × Int) : Int := w x.1 + (x.2.2 - x.2.1)
def rowW (nc : Nat) (O : Tb) (n m : Nat) : List (Nat × Int × Int) := ((List.range nc).filter fun c => (O m c n).isSome).map fun c => (m, (O m c n).getD (0, 0))
def ways (nm nc : Nat) (O : Tb) (n : Nat) : List (Nat × Int × Int) := (List.range nm).flatMap (rowW nc O n)
theorem mem_ways {nm nc n : Nat} {O : Tb} {x : Nat × Int × Int} : x ∈ ways nm nc O n ↔ ∃ c, x.1 < nm ∧ c < nc ∧ O x.1 c n = some x.2 := by
  unfold ways rowW
  rw [List.mem_flatMap]
  constructor
  · rintro ⟨m, hm, hx⟩
    obtain ⟨c, hc, rfl⟩ := List.mem_map.mp hx
    obtain ⟨h1, h2⟩ := List.mem_filter.mp hc
    refine ⟨c, List.mem_range.mp hm, List.mem_range.mp h1, ?_⟩
    cases e : O m c n with
    | none => rw [e] at h2; cases h2
    | some q => rfl
  · rintro ⟨c, h1, h2, e⟩
    refine ⟨x.1, List.mem_range.mpr h1, List.mem_map.mpr ⟨c, List.mem_filter.mpr ⟨List.mem_range.mpr h2, by rw [e]; rfl⟩, ?_⟩⟩
    rw [e]
    rfl
def wyD (x : Nat × Int × Int) : D := .tup [.int (x.1 : Int), ib x.2.1 x.2.2]
def rowD (nm nc : Nat) (O : Tb) (m : Nat) : D := .tup ((List.range nc).map fun c => .tup ((List.range nm).map fun n => offD (O m c n)))
theorem tabD_row (nm nc : Nat) (O : Tb) : tabD nm nc O = .tup ((List.range nm).map (rowD nm nc O)) := rfl
section
variable {k N m c n nm nc : Nat} {g : Gs} {O : Tb}
theorem range_map_at {α : Type} (f : Nat → α) {n m : Nat} (h : m < n) : ((List.range n).map f)[m]? = some (f m) := by
  rw [List.getElem?_map, List.getElem?_range h]; rfl
theorem ot_row (hn : n < nm) {s0 s3 : Sl} {ms : List D} : lcRun [5] (.name 5) (evT (runN T Γ k) Γ K_offsets_to_1) (evE (runN T Γ k) Γ E_offsets_to_2) [s0, .val (.int (n : Nat)), .own ms, .val (.int (m : Nat)), .val (rowD nm nc O m), s3] ((List.range nc).map fun c => .tup ((List.range nm).map fun n => offD (O m c n))) g = some ((rowW nc O n m).map wyD, g) := by
  have l := lc_filterm (own := [5]) (t := .name 5) (cond := evT (runN T Γ k) Γ K_offsets_to_1) (elt := evE (runN T Γ k) Γ E_offsets_to_2) (E := [s0, .val (.int (n : Nat)), .own ms, .val (.int (m : Nat)), .val (rowD nm nc O m), s3]) (g := g)
    (fun c => .tup ((List.range nm).map fun n => offD (O m c n))) (fun c => wyD (m, (O m c n).getD (0, 0))) (fun c => (O m c n).isSome) (List.range nc) fun c hc => by
      refine ⟨[s0, .val (.int (n : Nat)), .own ms, .val (.int (m : Nat)), .val (rowD nm nc O m), .val (.tup ((List.range nm).map fun n => offD (O m c n)))], rfl, ?_, fun hs => ?_⟩
      · unfold K_offsets_to_1
        simp only [Bool.false_eq_true, Nat.zero_add, Nat.reduceAdd, Nat.reduceLeDiff, lineB_val, Nat.reduceLT, Nat.zero_lt_succ, Nat.lt_add_one, reduceIte, Nat.one_pos, Nat.lt_irrefl, and_self, and_true, true_and, ne_eq, not_false_eq_true, not_true_eq_false, Nat.reduceEqDiff, Nat.reduceBEq, if_true, if_false, Bool.true_and, Bool.and_true, Bool.false_and, Bool.and_false, Bool.not_true, Bool.not_false, Bool.not_not, decide_true, decide_false, evB, evX, evE, evT, evS, evA, evI, bindT, bindTs, List.getElem?_cons_zero, List.getElem?_cons_succ, List.set_cons_zero, List.set_cons_succ, List.length_cons, List.length_nil, op2_add, op2_sub, cmpD_lt, cmpD_le, cmpD_gt, cmpD_ge, cmpD_eq, cmpD_ne, tru_bl, items_tup, items_lst, items_fro, items_ref, items_rt, still_tup, still_lst, still_fro, at0, at1, at2, at3, at4, at5, at6, at7, at8, Option.map_some, atI_nat (range_map_at _ hn)]
        cases O m c n <;> rfl
      · unfold E_offsets_to_2
        simp only [Bool.false_eq_true, Nat.zero_add, Nat.reduceAdd, Nat.reduceLeDiff, lineB_val, Nat.reduceLT, Nat.zero_lt_succ, Nat.lt_add_one, reduceIte, Nat.one_pos, Nat.lt_irrefl, and_self, and_true, true_and, ne_eq, not_false_eq_true, not_true_eq_false, Nat.reduceEqDiff, Nat.reduceBEq, if_true, if_false, Bool.true_and, Bool.and_true, Bool.false_and, Bool.and_false, Bool.not_true, Bool.not_false, Bool.not_not, decide_true, decide_false, evB, evX, evE, evT, evS, evA, evI, bindT, bindTs, List.getElem?_cons_zero, List.getElem?_cons_succ, List.set_cons_zero, List.set_cons_succ, List.length_cons, List.length_nil, op2_add, op2_sub, cmpD_lt, cmpD_le, cmpD_gt, cmpD_ge, cmpD_eq, cmpD_ne, tru_bl, items_tup, items_lst, items_fro, items_ref, items_rt, still_tup, still_lst, still_fro, at0, at1, at2, at3, at4, at5, at6, at7, at8, Option.map_some, atI_nat (range_map_at _ hn)]
        cases e : O m c n with
        | none => rw [e] at hs; cases hs
        | some q => rfl
  rw [l]
  unfold rowW
  rw [List.map_map]
  rfl
theorem rowW_len : (rowW nc O n m).length ≤ nc := by
  unfold rowW
  rw [List.length_map]
  have := List.length_filter_le (fun c => (O m c n).isSome) (List.range nc)
  rw [List.length_range] at this
  exact this
theorem ot_loop (hn : n < nm) (hc : nc ≤ 3) {s0 : Sl} : ∀ (j i : Nat) (acc : List (Nat × Int × Int)) (s3 s4 : Sl), acc.length + 3 * j ≤ 1000 → ∃ t3 t4, loopRun (.tup [.name 3, .name 4]) (evB (runN T Γ k) Γ L_offsets_to_3) (numbered i ((List.range' i j).map (rowD nm nc O))) [s0, .val (.int (n : Nat)), .own (acc.map wyD), s3, s4, .un] g =
    some (.nx, [s0, .val (.int (n : Nat)), .own ((acc ++ (List.range' i j).flatMap (rowW nc O n)).map wyD), t3, t4, .un], g)
  | 0, i, acc, s3, s4, _ => ⟨s3, s4, by rw [List.range'_zero, List.map_nil, numbered, loop_nil, List.flatMap_nil, List.append_nil]⟩
  | j + 1, i, acc, s3, s4, ha => by
    have hl := rowW_len (nc := nc) (O := O) (n := n) (m := i)
    have e1 : evE (runN T Γ k) Γ (.lc [5] (.name 5) (.seq (.e (.var 4))) K_offsets_to_1 E_offsets_to_2) [s0, .val (.int (n : Nat)), .own (acc.map wyD), .val (.int (i : Nat)), .val (rowD nm nc O i), .un] g = some (.lst ((rowW nc O n i).map wyD), g) :=
      evE_lc (evI_seq (x := rowD nm nc O i) (xs := (List.range nc).map fun c => .tup ((List.range nm).map fun n => offD (O i c n))) (by simp only [Bool.false_eq_true, Nat.zero_add, Nat.reduceAdd, Nat.reduceLeDiff, lineB_val, Nat.reduceLT, Nat.zero_lt_succ, Nat.lt_add_one, reduceIte, Nat.one_pos, Nat.lt_irrefl, and_self, and_true, true_and, ne_eq, not_false_eq_true, not_true_eq_false, Nat.reduceEqDiff, Nat.reduceBEq, if_true, if_false, Bool.true_and, Bool.and_true, Bool.false_and, Bool.and_false, Bool.not_true, Bool.not_false, Bool.not_not, decide_true, decide_false, evB, evX, evE, evT, evS, evA, evI, bindT, bindTs, List.getElem?_cons_zero, List.getElem?_cons_succ, List.set_cons_zero, List.set_cons_succ, List.length_cons, List.length_nil, op2_add, op2_sub, cmpD_lt, cmpD_le, cmpD_gt, cmpD_ge, cmpD_eq, cmpD_ne, tru_bl, items_tup, items_lst, items_fro, items_ref, items_rt, still_tup, still_lst, still_fro, at0, at1, at2, at3, at4, at5, at6, at7, at8, Option.map_some]) rfl) (by rw [List.length_map, List.length_range, lineB_val]; omega) (ot_row hn)
    have hlen : (acc.map wyD).length + ((rowW nc O n i).map wyD).length ≤ lineB := by rw [List.length_map, List.length_map, lineB_val]; omega
    have e : evB (runN T Γ k) Γ L_offsets_to_3 [s0, .val (.int (n : Nat)), .own (acc.map wyD), .val (.int (i : Nat)), .val (rowD nm nc O i), .un] g = some (.nx, [s0, .val (.int (n : Nat)), .own ((acc ++ rowW nc O n i).map wyD), .val (.int (i : Nat)), .val (rowD nm nc O i), .un], g) := by
      unfold L_offsets_to_3
      rw [evB, evX, e1]
      simp only [List.getElem?_cons_succ, List.getElem?_cons_zero, if_pos hlen, List.set_cons_succ, List.set_cons_zero, evB, List.map_append]
    obtain ⟨t3, t4, e'⟩ := ot_loop hn hc (s0 := s0) j (i + 1) (acc ++ rowW nc O n i) (.val (.int (i : Nat))) (.val (rowD nm nc O i)) (by rw [List.length_append]; omega)
    refine ⟨t3, t4, ?_⟩
    rw [List.range'_succ, List.map_cons, numbered, loop_cons rfl e, e', List.append_assoc, List.flatMap_cons]
theorem run_offsets_to (hk : 0 < k) (ok : TbOk nm nc O) (hn : n < nm) : runN T Γ k f_offsets_to [tabD nm nc O, .int n] g = some (.lst ((ways nm nc O n).map wyD), g) := by
  obtain ⟨k, rfl⟩ : ∃ k', k = k' + 1 := ⟨k - 1, by omega⟩
  rw [run_eq T_offsets_to rfl]
  show res (evB _ _ B_offsets_to [.val (tabD nm nc O), .val (.int n), .un, .un, .un, .un] g) = _
  have := ok.m2
  obtain ⟨t3, t4, e⟩ := ot_loop (k := k) (g := g) hn ok.c3 (s0 := .val (tabD nm nc O)) (O := O) nm 0 [] .un .un (by rw [List.length_nil]; omega)
  rw [← List.range_eq_range', List.map_nil, List.nil_append] at e
  unfold B_offsets_to
  have e0 : evX (runN T Γ k) Γ (.loop (.tup [.name 3, .name 4]) (.enum (.var 0)) L_offsets_to_3) [.val (tabD nm nc O), .val (.int n), .own [], .un, .un, .un] g = _ := evX_loop (xs := numbered 0 ((List.range nm).map (rowD nm nc O))) (by rw [tabD_row]; simp only [Bool.false_eq_true, Nat.zero_add, Nat.reduceAdd, Nat.reduceLeDiff, lineB_val, Nat.reduceLT, Nat.zero_lt_succ, Nat.lt_add_one, reduceIte, Nat.one_pos, Nat.lt_irrefl, and_self, and_true, true_and, ne_eq, not_false_eq_true, not_true_eq_false, Nat.reduceEqDiff, Nat.reduceBEq, if_true, if_false, Bool.true_and, Bool.and_true, Bool.false_and, Bool.and_false, Bool.not_true, Bool.not_false, Bool.not_not, decide_true, decide_false, evB, evX, evE, evT, evS, evA, evI, bindT, bindTs, List.getElem?_cons_zero, List.getElem?_cons_succ, List.set_cons_zero, List.set_cons_succ, List.length_cons, List.length_nil, op2_add, op2_sub, cmpD_lt, cmpD_le, cmpD_gt, cmpD_ge, cmpD_eq, cmpD_ne, tru_bl, items_tup, items_lst, items_fro, items_ref, items_rt, still_tup, still_lst, still_fro, at0, at1, at2, at3, at4, at5, at6, at7, at8, Option.map_some]) e
  rw [evB_cons (E1 := [.val (tabD nm nc O), .val (.int n), .own [], .un, .un, .un]) (g1 := g) (by simp only [Bool.false_eq_true, Nat.zero_add, Nat.reduceAdd, Nat.reduceLeDiff, lineB_val, Nat.reduceLT, Nat.zero_lt_succ, Nat.lt_add_one, reduceIte, Nat.one_pos, Nat.lt_irrefl, and_self, and_true, true_and, ne_eq, not_false_eq_true, not_true_eq_false, Nat.reduceEqDiff, Nat.reduceBEq, if_true, if_false, Bool.true_and, Bool.and_true, Bool.false_and, Bool.and_false, Bool.not_true, Bool.not_false, Bool.not_not, decide_true, decide_false, evB, evX, evE, evT, evS, evA, evI, bindT, bindTs, List.getElem?_cons_zero, List.getElem?_cons_succ, List.set_cons_zero, List.set_cons_succ, List.length_cons, List.length_nil, op2_add, op2_sub, cmpD_lt, cmpD_le, cmpD_gt, cmpD_ge, cmpD_eq, cmpD_ne, tru_bl, items_tup, items_lst, items_fro, items_ref, items_rt, still_tup, still_lst, still_fro, at0, at1, at2, at3, at4, at5, at6, at7, at8, Option.map_some, freshL]), evB_cons e0]
  simp only [Bool.false_eq_true, Nat.zero_add, Nat.reduceAdd, Nat.reduceLeDiff, lineB_val, Nat.reduceLT, Nat.zero_lt_succ, Nat.lt_add_one, reduceIte, Nat.one_pos, Nat.lt_irrefl, and_self, and_true, true_and, ne_eq, not_false_eq_true, not_true_eq_false, Nat.reduceEqDiff, Nat.reduceBEq, if_true, if_false, Bool.true_and, Bool.and_true, Bool.false_and, Bool.and_false, Bool.not_true, Bool.not_false, Bool.not_not, decide_true, decide_false, evB, evX, evE, evT, evS, evA, evI, bindT, bindTs, List.getElem?_cons_zero, List.getElem?_cons_succ, List.set_cons_zero, List.set_cons_succ, List.length_cons, List.length_nil, op2_add, op2_sub, cmpD_lt, cmpD_le, cmpD_gt, cmpD_ge, cmpD_eq, cmpD_ne, tru_bl, items_tup, items_lst, items_fro, items_ref, items_rt, still_tup, still_lst, still_fro, at0, at1, at2, at3, at4, at5, at6, at7, at8, Option.map_some, res]
  rfl
/-! ### wider -/
def mD : Option Int → D
  | none => .non
  | some v => .lst [.int v]
def mx1 (o : Option Int) (v : Int) : Option Int := match o with
  | none => some v
  | some u => some (max u v)
def wsD (nm : Nat) (w : Nat → Int) : D := .lst ((List.range nm).map fun n => .lst [.int (w n)])
theorem ww_loop (hk : 0 < k) {w : Nat → Int} {s0 s2 s3 : Sl} : ∀ (xs : List (Nat × Int × Int)) (o : Option Int) (s5 s6 s7 : Sl), (∀ x ∈ xs, x.1 < nm) → ∃ t5 t6 t7, loopRun (.tup [.name 5, .name 6]) (evB (runN T Γ k) Γ L_wider_widths_3) (xs.map wyD) [s0, .val (wsD nm w), s2, s3, .val (mD o), s5, s6, s7, .un, .un, .un, .un] g =
    some (.nx, [s0, .val (wsD nm w), s2, s3, .val (mD ((xs.map (wv w)).foldl mx1 o)), t5, t6, t7, .un, .un, .un, .un], g)
  | [], o, s5, s6, s7, _ => ⟨s5, s6, s7, rfl⟩
  | x :: xs, o, s5, s6, s7, h => by
    have hx := h x List.mem_cons_self
    have e1 := run_widths (g := g) (p := x.2.1) (q := x.2.2) hk
    have a1 : atI ((List.range nm).map fun n => .lst [.int (w n)]) (x.1 : Int) = some (.lst [.int (w x.1)]) := atI_nat (range_map_at (fun n => D.lst [.int (w n)]) hx)
    have e : evB (runN T Γ k) Γ L_wider_widths_3 [s0, .val (wsD nm w), s2, s3, .val (mD o), .val (.int (x.1 : Int)), .val (ib x.2.1 x.2.2), s7, .un, .un, .un, .un] g =
        some (.nx, [s0, .val (wsD nm w), s2, s3, .val (mD (mx1 o (wv w x))), .val (.int (x.1 : Int)), .val (ib x.2.1 x.2.2), .val (.lst [.int (wv w x)]), .un, .un, .un, .un], g) := by
      unfold L_wider_widths_3 wsD
      cases o with
      | none =>
        have i0 : isNon (mD none) = true := rfl
        simp only [Bool.false_eq_true, Nat.zero_add, Nat.reduceAdd, Nat.reduceLeDiff, lineB_val, Nat.reduceLT, Nat.zero_lt_succ, Nat.lt_add_one, reduceIte, Nat.one_pos, Nat.lt_irrefl, and_self, and_true, true_and, ne_eq, not_false_eq_true, not_true_eq_false, Nat.reduceEqDiff, Nat.reduceBEq, if_true, if_false, Bool.true_and, Bool.and_true, Bool.false_and, Bool.and_false, Bool.not_true, Bool.not_false, Bool.not_not, decide_true, decide_false, evB, evX, evE, evT, evS, evA, evI, bindT, bindTs, List.getElem?_cons_zero, List.getElem?_cons_succ, List.set_cons_zero, List.set_cons_succ, List.length_cons, List.length_nil, op2_add, op2_sub, cmpD_lt, cmpD_le, cmpD_gt, cmpD_ge, cmpD_eq, cmpD_ne, tru_bl, items_tup, items_lst, items_fro, items_ref, items_rt, still_tup, still_lst, still_fro, at0, at1, at2, at3, at4, at5, at6, at7, at8, Option.map_some, a1, e1, pairs, lcRun, wipeE, E_wider_widths_1, i0, mx1]
        rfl
      | some u =>
        have i0 : isNon (mD (some u)) = false := rfl
        simp only [Bool.false_eq_true, Nat.zero_add, Nat.reduceAdd, Nat.reduceLeDiff, lineB_val, Nat.reduceLT, Nat.zero_lt_succ, Nat.lt_add_one, reduceIte, Nat.one_pos, Nat.lt_irrefl, and_self, and_true, true_and, ne_eq, not_false_eq_true, not_true_eq_false, Nat.reduceEqDiff, Nat.reduceBEq, if_true, if_false, Bool.true_and, Bool.and_true, Bool.false_and, Bool.and_false, Bool.not_true, Bool.not_false, Bool.not_not, decide_true, decide_false, evB, evX, evE, evT, evS, evA, evI, bindT, bindTs, List.getElem?_cons_zero, List.getElem?_cons_succ, List.set_cons_zero, List.set_cons_succ, List.length_cons, List.length_nil, op2_add, op2_sub, cmpD_lt, cmpD_le, cmpD_gt, cmpD_ge, cmpD_eq, cmpD_ne, tru_bl, items_tup, items_lst, items_fro, items_ref, items_rt, still_tup, still_lst, still_fro, at0, at1, at2, at3, at4, at5, at6, at7, at8, Option.map_some, a1, e1, pairs, lcRun, wipeE, E_wider_widths_1, i0, mx1]
        unfold mD
        simp only [Bool.false_eq_true, Nat.zero_add, Nat.reduceAdd, Nat.reduceLeDiff, lineB_val, Nat.reduceLT, Nat.zero_lt_succ, Nat.lt_add_one, reduceIte, Nat.one_pos, Nat.lt_irrefl, and_self, and_true, true_and, ne_eq, not_false_eq_true, not_true_eq_false, Nat.reduceEqDiff, Nat.reduceBEq, if_true, if_false, Bool.true_and, Bool.and_true, Bool.false_and, Bool.and_false, Bool.not_true, Bool.not_false, Bool.not_not, decide_true, decide_false, evB, evX, evE, evT, evS, evA, evI, bindT, bindTs, List.getElem?_cons_zero, List.getElem?_cons_succ, List.set_cons_zero, List.set_cons_succ, List.length_cons, List.length_nil, op2_add, op2_sub, cmpD_lt, cmpD_le, cmpD_gt, cmpD_ge, cmpD_eq, cmpD_ne, tru_bl, items_tup, items_lst, items_fro, items_ref, items_rt, still_tup, still_lst, still_fro, at0, at1, at2, at3, at4, at5, at6, at7, at8, Option.map_some, pairs, lcRun, wipeE, E_wider_widths_2, max2_eq]
        rfl
    obtain ⟨t5, t6, t7, e'⟩ := ww_loop hk (s0 := s0) (s2 := s2) (s3 := s3) xs (mx1 o (wv w x)) (.val (.int (x.1 : Int))) (.val (ib x.2.1 x.2.2)) (.val (.lst [.int (wv w x)])) fun y hy => h y (List.mem_cons_of_mem _ hy)
    exact ⟨t5, t6, t7, by rw [List.map_cons, loop_cons rfl e, e']; rfl⟩
def wNext (nm nc : Nat) (O : Tb) (w : Nat → Int) (n : Nat) : Int := (((ways nm nc O n).map (wv w)).foldl mx1 none).getD 0
theorem fold_mx1 : ∀ (xs : List Int) (u : Int), xs.foldl mx1 (some u) = some (xs.foldl max u)
  | [], _ => rfl
  | x :: xs, u => by rw [List.foldl_cons, List.foldl_cons]; exact fold_mx1 xs (max u x)
theorem ways_ne (ok : TbOk nm nc O) (hn : n < nm) : ways nm nc O n ≠ [] := by
  obtain ⟨q, e⟩ := ok.stay n 0 hn ok.c1
  exact List.ne_nil_of_mem ((mem_ways (x := (n, q))).mpr ⟨0, hn, ok.c1, e⟩)
theorem wNext_some (ok : TbOk nm nc O) (hn : n < nm) (w : Nat → Int) : ((ways nm nc O n).map (wv w)).foldl mx1 none = some (wNext nm nc O w n) ∧ Mx (fun v => ∃ x ∈ ways nm nc O n, v = wv w x) (wNext nm nc O w n) := by
  unfold wNext
  cases hw : ways nm nc O n with
  | nil => exact absurd hw (ways_ne ok hn)
  | cons x xs =>
    have e : ((x :: xs).map (wv w)).foldl mx1 none = some ((xs.map (wv w)).foldl max (wv w x)) := fold_mx1 _ _
    rw [e]
    refine ⟨rfl, (foldl_max_mx (xs.map (wv w)) (wv w x)).iff fun u => ?_⟩
    constructor
    · rintro (h | h)
      · exact ⟨x, List.mem_cons_self, h⟩
      · obtain ⟨y, hy, rfl⟩ := List.mem_map.mp h; exact ⟨y, List.mem_cons_of_mem _ hy, rfl⟩
    · rintro ⟨y, hy, rfl⟩
      rcases List.mem_cons.mp hy with z | z
      · subst z; exact .inl rfl
      · exact .inr (List.mem_map.mpr ⟨y, z, rfl⟩)
theorem wd_loop (hk : 1 < k) (ok : TbOk nm nc O) {w : Nat → Int} : ∀ (j i : Nat) (acc : List D) (s3 s4 s5 s6 s7 : Sl), i + j ≤ nm → acc.length = i → ∃ t3 t4 t5 t6 t7, loopRun (.name 3) (evB (runN T Γ k) Γ L_wider_widths_4) ((List.range' i j).map fun (x : Nat) => .int (x : Int)) [.val (tabD nm nc O), .val (wsD nm w), .own acc, s3, s4, s5, s6, s7, .un, .un, .un, .un] g =
    some (.nx, [.val (tabD nm nc O), .val (wsD nm w), .own (acc ++ (List.range' i j).map fun n => .lst [.int (wNext nm nc O w n)]), t3, t4, t5, t6, t7, .un, .un, .un, .un], g)
  | 0, i, acc, s3, s4, s5, s6, s7, _, _ => ⟨s3, s4, s5, s6, s7, by rw [List.range'_zero, List.map_nil, List.map_nil, List.append_nil, loop_nil]⟩
  | j + 1, i, acc, s3, s4, s5, s6, s7, hi, ha => by
    have h2 := ok.m2
    have e1 := run_offsets_to (g := g) (k := k) (by omega) ok (show i < nm by omega)
    obtain ⟨t5, t6, t7, e2⟩ := ww_loop (k := k) (g := g) (by omega) (nm := nm) (w := w) (s0 := .val (tabD nm nc O)) (s2 := .own acc) (s3 := .val (.int (i : Nat))) (ways nm nc O i) none s5 s6 s7 fun x hx => by
      obtain ⟨c, h, _⟩ := mem_ways.mp hx
      exact h
    rw [(wNext_some ok (show i < nm by omega) w).1] at e2
    have e2' : loopRun (.tup [.name 5, .name 6]) (evB (runN T Γ k) Γ L_wider_widths_3) ((ways nm nc O i).map wyD) [.val (tabD nm nc O), .val (wsD nm w), .own acc, .val (.int (i : Nat)), .val .non, s5, s6, s7, .un, .un, .un, .un] g = _ := e2
    have hl : acc.length < 16777216 := by omega
    have i0 : isNon (mD (some (wNext nm nc O w i))) = false := rfl
    have e : evB (runN T Γ k) Γ L_wider_widths_4 [.val (tabD nm nc O), .val (wsD nm w), .own acc, .val (.int (i : Nat)), s4, s5, s6, s7, .un, .un, .un, .un] g =
        some (.nx, [.val (tabD nm nc O), .val (wsD nm w), .own (acc ++ [.lst [.int (wNext nm nc O w i)]]), .val (.int (i : Nat)), .val (mD (some (wNext nm nc O w i))), t5, t6, t7, .un, .un, .un, .un], g) := by
      unfold L_wider_widths_4
      simp only [Bool.false_eq_true, Nat.zero_add, Nat.reduceAdd, Nat.reduceLeDiff, lineB_val, Nat.reduceLT, Nat.zero_lt_succ, Nat.lt_add_one, reduceIte, Nat.one_pos, Nat.lt_irrefl, and_self, and_true, true_and, ne_eq, not_false_eq_true, not_true_eq_false, Nat.reduceEqDiff, Nat.reduceBEq, if_true, if_false, Bool.true_and, Bool.and_true, Bool.false_and, Bool.and_false, Bool.not_true, Bool.not_false, Bool.not_not, decide_true, decide_false, evB, evX, evE, evT, evS, evA, evI, bindT, bindTs, List.getElem?_cons_zero, List.getElem?_cons_succ, List.set_cons_zero, List.set_cons_succ, List.length_cons, List.length_nil, op2_add, op2_sub, cmpD_lt, cmpD_le, cmpD_gt, cmpD_ge, cmpD_eq, cmpD_ne, tru_bl, items_tup, items_lst, items_fro, items_ref, items_rt, still_tup, still_lst, still_fro, at0, at1, at2, at3, at4, at5, at6, at7, at8, Option.map_some, e1, e2', i0, hl]
      rfl
    obtain ⟨t3, t4, t5', t6', t7', e'⟩ := wd_loop hk ok (w := w) j (i + 1) (acc ++ [.lst [.int (wNext nm nc O w i)]]) (.val (.int (i : Nat))) (.val (mD (some (wNext nm nc O w i)))) t5 t6 t7 (by omega) (by rw [List.length_append, List.length_singleton]; omega)
    exact ⟨t3, t4, t5', t6', t7', by rw [List.range'_succ, List.map_cons, List.map_cons, loop_cons rfl e, e', List.append_assoc, List.singleton_append]⟩
theorem run_wider (hk : 2 < k) (ok : TbOk nm nc O) {w : Nat → Int} : runN T Γ k f_wider_widths [tabD nm nc O, wsD nm w] g = some (wsD nm (wNext nm nc O w), g) := by
  obtain ⟨k, rfl⟩ : ∃ k', k = k' + 1 := ⟨k - 1, by omega⟩
  rw [run_eq T_wider_widths rfl]
  show res (evB _ _ B_wider_widths [.val (tabD nm nc O), .val (wsD nm w), .un, .un, .un, .un, .un, .un, .un, .un, .un, .un] g) = _
  have h2 := ok.m2
  obtain ⟨t3, t4, t5, t6, t7, e⟩ := wd_loop (k := k) (g := g) (by omega) ok (w := w) nm 0 [] .un .un .un .un .un (by omega) rfl
  rw [← List.range_eq_range', ← intRow_map, List.nil_append] at e
  have l1 : evE (runN T Γ k) Γ (.len (.e (.var 0))) [.val (tabD nm nc O), .val (wsD nm w), .own [], .un, .un, .un, .un, .un, .un, .un, .un, .un] g = some (.int (nm : Int), g) := by
    rw [tabD_row]
    simp only [Bool.false_eq_true, Nat.zero_add, Nat.reduceAdd, Nat.reduceLeDiff, lineB_val, Nat.reduceLT, Nat.zero_lt_succ, Nat.lt_add_one, reduceIte, Nat.one_pos, Nat.lt_irrefl, and_self, and_true, true_and, ne_eq, not_false_eq_true, not_true_eq_false, Nat.reduceEqDiff, Nat.reduceBEq, if_true, if_false, Bool.true_and, Bool.and_true, Bool.false_and, Bool.and_false, Bool.not_true, Bool.not_false, Bool.not_not, decide_true, decide_false, evB, evX, evE, evT, evS, evA, evI, bindT, bindTs, List.getElem?_cons_zero, List.getElem?_cons_succ, List.set_cons_zero, List.set_cons_succ, List.length_cons, List.length_nil, op2_add, op2_sub, cmpD_lt, cmpD_le, cmpD_gt, cmpD_ge, cmpD_eq, cmpD_ne, tru_bl, items_tup, items_lst, items_fro, items_ref, items_rt, still_tup, still_lst, still_fro, at0, at1, at2, at3, at4, at5, at6, at7, at8, Option.map_some, List.length_map, List.length_range]
  unfold B_wider_widths
  rw [evB_cons (E1 := [.val (tabD nm nc O), .val (wsD nm w), .own [], .un, .un, .un, .un, .un, .un, .un, .un, .un]) (g1 := g) (by simp only [Bool.false_eq_true, Nat.zero_add, Nat.reduceAdd, Nat.reduceLeDiff, lineB_val, Nat.reduceLT, Nat.zero_lt_succ, Nat.lt_add_one, reduceIte, Nat.one_pos, Nat.lt_irrefl, and_self, and_true, true_and, ne_eq, not_false_eq_true, not_true_eq_false, Nat.reduceEqDiff, Nat.reduceBEq, if_true, if_false, Bool.true_and, Bool.and_true, Bool.false_and, Bool.and_false, Bool.not_true, Bool.not_false, Bool.not_not, decide_true, decide_false, evB, evX, evE, evT, evS, evA, evI, bindT, bindTs, List.getElem?_cons_zero, List.getElem?_cons_succ, List.set_cons_zero, List.set_cons_succ, List.length_cons, List.length_nil, op2_add, op2_sub, cmpD_lt, cmpD_le, cmpD_gt, cmpD_ge, cmpD_eq, cmpD_ne, tru_bl, items_tup, items_lst, items_fro, items_ref, items_rt, still_tup, still_lst, still_fro, at0, at1, at2, at3, at4, at5, at6, at7, at8, Option.map_some, freshL]), evB_cons (evX_loop (evI_range1 l1 (by omega)) e)]
  simp only [Bool.false_eq_true, Nat.zero_add, Nat.reduceAdd, Nat.reduceLeDiff, lineB_val, Nat.reduceLT, Nat.zero_lt_succ, Nat.lt_add_one, reduceIte, Nat.one_pos, Nat.lt_irrefl, and_self, and_true, true_and, ne_eq, not_false_eq_true, not_true_eq_false, Nat.reduceEqDiff, Nat.reduceBEq, if_true, if_false, Bool.true_and, Bool.and_true, Bool.false_and, Bool.and_false, Bool.not_true, Bool.not_false, Bool.not_not, decide_true, decide_false, evB, evX, evE, evT, evS, evA, evI, bindT, bindTs, List.getElem?_cons_zero, List.getElem?_cons_succ, List.set_cons_zero, List.set_cons_succ, List.length_cons, List.length_nil, op2_add, op2_sub, cmpD_lt, cmpD_le, cmpD_gt, cmpD_ge, cmpD_eq, cmpD_ne, tru_bl, items_tup, items_lst, items_fro, items_ref, items_rt, still_tup, still_lst, still_fro, at0, at1, at2, at3, at4, at5, at6, at7, at8, Option.map_some, res]
  rfl
def Wj (nm nc : Nat) (O : Tb) (wide : Int) : Nat → Nat → Int
  | 0, _ => wide
  | j + 1, n => wNext nm nc O (Wj nm nc O wide j) n
theorem fw_loop (hk : 2 < k) (ok : TbOk nm nc O) {wide : Int} {s1 s2 : Sl} : ∀ (ds : List D) (j : Nat) (s4 : Sl), ∃ t4, loopRun (.name 4) (evB (runN T Γ k) Γ L_failed_widths_3) ds [.val (tabD nm nc O), s1, s2, .val (wsD nm (Wj nm nc O wide j)), s4, .un, .un] g =
    some (.nx, [.val (tabD nm nc O), s1, s2, .val (wsD nm (Wj nm nc O wide (j + ds.length))), t4, .un, .un], g)
  | [], j, s4 => ⟨s4, rfl⟩
  | d :: ds, j, s4 => by
    have e : evB (runN T Γ k) Γ L_failed_widths_3 [.val (tabD nm nc O), s1, s2, .val (wsD nm (Wj nm nc O wide j)), .val d, .un, .un] g = some (.nx, [.val (tabD nm nc O), s1, s2, .val (wsD nm (Wj nm nc O wide (j + 1))), .val d, .un, .un], g) := by
      unfold L_failed_widths_3
      simp only [Bool.false_eq_true, Nat.zero_add, Nat.reduceAdd, Nat.reduceLeDiff, lineB_val, Nat.reduceLT, Nat.zero_lt_succ, Nat.lt_add_one, reduceIte, Nat.one_pos, Nat.lt_irrefl, and_self, and_true, true_and, ne_eq, not_false_eq_true, not_true_eq_false, Nat.reduceEqDiff, Nat.reduceBEq, if_true, if_false, Bool.true_and, Bool.and_true, Bool.false_and, Bool.and_false, Bool.not_true, Bool.not_false, Bool.not_not, decide_true, decide_false, evB, evX, evE, evT, evS, evA, evI, bindT, bindTs, List.getElem?_cons_zero, List.getElem?_cons_succ, List.set_cons_zero, List.set_cons_succ, List.length_cons, List.length_nil, op2_add, op2_sub, cmpD_lt, cmpD_le, cmpD_gt, cmpD_ge, cmpD_eq, cmpD_ne, tru_bl, items_tup, items_lst, items_fro, items_ref, items_rt, still_tup, still_lst, still_fro, at0, at1, at2, at3, at4, at5, at6, at7, at8, Option.map_some, run_wider (g := g) hk ok]
      rfl
    obtain ⟨t4, e'⟩ := fw_loop hk ok (wide := wide) (s1 := s1) (s2 := s2) ds (j + 1) (.val d)
    exact ⟨t4, by rw [loop_cons rfl e, e', List.length_cons, show j + 1 + ds.length = j + (ds.length + 1) by omega]⟩
theorem run_failed (hk : 3 < k) (ok : TbOk nm nc O) {a b : Int} {j : Nat} (hj : j ≤ 1000) : runN T Γ k f_failed_widths [tabD nm nc O, ib a b, .int j] g = some (wsD nm (Wj nm nc O (a + b) j), g) := by
  obtain ⟨k, rfl⟩ : ∃ k', k = k' + 1 := ⟨k - 1, by omega⟩
  rw [run_eq T_failed_widths rfl]
  show res (evB _ _ B_failed_widths [.val (tabD nm nc O), .val (ib a b), .val (.int j), .un, .un, .un, .un] g) = _
  have h2 := ok.m2
  obtain ⟨t4, e⟩ := fw_loop (k := k) (g := g) (by omega) ok (wide := a + b) (s1 := .val (ib a b)) (s2 := .val (.int j)) (intRow 0 j) 0 .un
  rw [intRow_length, Nat.zero_add] at e
  have lc : lcRun [4] (.name 4) (fun _ g => some (true, g)) (evE (runN T Γ k) Γ E_failed_widths_2) [.val (tabD nm nc O), .val (ib a b), .val (.int j), .un, .un, .un, .un] ((List.range nm).map (rowD nm nc O)) g = some ((List.range nm).map fun n => .lst [.int (a + b)], g) := by
    refine lc_mapm _ _ _ fun n hn => ⟨_, rfl, ?_⟩
    unfold E_failed_widths_2 ib
    simp only [Bool.false_eq_true, Nat.zero_add, Nat.reduceAdd, Nat.reduceLeDiff, lineB_val, Nat.reduceLT, Nat.zero_lt_succ, Nat.lt_add_one, reduceIte, Nat.one_pos, Nat.lt_irrefl, and_self, and_true, true_and, ne_eq, not_false_eq_true, not_true_eq_false, Nat.reduceEqDiff, Nat.reduceBEq, if_true, if_false, Bool.true_and, Bool.and_true, Bool.false_and, Bool.and_false, Bool.not_true, Bool.not_false, Bool.not_not, decide_true, decide_false, evB, evX, evE, evT, evS, evA, evI, bindT, bindTs, List.getElem?_cons_zero, List.getElem?_cons_succ, List.set_cons_zero, List.set_cons_succ, List.length_cons, List.length_nil, op2_add, op2_sub, cmpD_lt, cmpD_le, cmpD_gt, cmpD_ge, cmpD_eq, cmpD_ne, tru_bl, items_tup, items_lst, items_fro, items_ref, items_rt, still_tup, still_lst, still_fro, at0, at1, at2, at3, at4, at5, at6, at7, at8, Option.map_some, lcRun, wipeE, E_failed_widths_1]
  have e0 : evE (runN T Γ k) Γ (.lcA [4] (.name 4) (.seq (.e (.var 0))) E_failed_widths_2) [.val (tabD nm nc O), .val (ib a b), .val (.int j), .un, .un, .un, .un] g = some (wsD nm (Wj nm nc O (a + b) 0), g) := evE_lcA (evI_seq (x := tabD nm nc O) (by simp only [Bool.false_eq_true, Nat.zero_add, Nat.reduceAdd, Nat.reduceLeDiff, lineB_val, Nat.reduceLT, Nat.zero_lt_succ, Nat.lt_add_one, reduceIte, Nat.one_pos, Nat.lt_irrefl, and_self, and_true, true_and, ne_eq, not_false_eq_true, not_true_eq_false, Nat.reduceEqDiff, Nat.reduceBEq, if_true, if_false, Bool.true_and, Bool.and_true, Bool.false_and, Bool.and_false, Bool.not_true, Bool.not_false, Bool.not_not, decide_true, decide_false, evB, evX, evE, evT, evS, evA, evI, bindT, bindTs, List.getElem?_cons_zero, List.getElem?_cons_succ, List.set_cons_zero, List.set_cons_succ, List.length_cons, List.length_nil, op2_add, op2_sub, cmpD_lt, cmpD_le, cmpD_gt, cmpD_ge, cmpD_eq, cmpD_ne, tru_bl, items_tup, items_lst, items_fro, items_ref, items_rt, still_tup, still_lst, still_fro, at0, at1, at2, at3, at4, at5, at6, at7, at8, Option.map_some]) rfl) (by rw [List.length_map, List.length_range, lineB_val]; omega) lc
  unfold B_failed_widths
  rw [evB_cons (E1 := [.val (tabD nm nc O), .val (ib a b), .val (.int j), .val (wsD nm (Wj nm nc O (a + b) 0)), .un, .un, .un]) (evX_set e0 (by simp)), evB_cons (evX_loop (evI_range1 (n := j) (by simp only [Bool.false_eq_true, Nat.zero_add, Nat.reduceAdd, Nat.reduceLeDiff, lineB_val, Nat.reduceLT, Nat.zero_lt_succ, Nat.lt_add_one, reduceIte, Nat.one_pos, Nat.lt_irrefl, and_self, and_true, true_and, ne_eq, not_false_eq_true, not_true_eq_false, Nat.reduceEqDiff, Nat.reduceBEq, if_true, if_false, Bool.true_and, Bool.and_true, Bool.false_and, Bool.and_false, Bool.not_true, Bool.not_false, Bool.not_not, decide_true, decide_false, evB, evX, evE, evT, evS, evA, evI, bindT, bindTs, List.getElem?_cons_zero, List.getElem?_cons_succ, List.set_cons_zero, List.set_cons_succ, List.length_cons, List.length_nil, op2_add, op2_sub, cmpD_lt, cmpD_le, cmpD_gt, cmpD_ge, cmpD_eq, cmpD_ne, tru_bl, items_tup, items_lst, items_fro, items_ref, items_rt, still_tup, still_lst, still_fro, at0, at1, at2, at3, at4, at5, at6, at7, at8, Option.map_some]) hj) e)]
  simp only [Bool.false_eq_true, Nat.zero_add, Nat.reduceAdd, Nat.reduceLeDiff, lineB_val, Nat.reduceLT, Nat.zero_lt_succ, Nat.lt_add_one, reduceIte, Nat.one_pos, Nat.lt_irrefl, and_self, and_true, true_and, ne_eq, not_false_eq_true, not_true_eq_false, Nat.reduceEqDiff, Nat.reduceBEq, if_true, if_false, Bool.true_and, Bool.and_true, Bool.false_and, Bool.and_false, Bool.not_true, Bool.not_false, Bool.not_not, decide_true, decide_false, evB, evX, evE, evT, evS, evA, evI, bindT, bindTs, List.getElem?_cons_zero, List.getElem?_cons_succ, List.set_cons_zero, List.set_cons_succ, List.length_cons, List.length_nil, op2_add, op2_sub, cmpD_lt, cmpD_le, cmpD_gt, cmpD_ge, cmpD_eq, cmpD_ne, tru_bl, items_tup, items_lst, items_fro, items_ref, items_rt, still_tup, still_lst, still_fro, at0, at1, at2, at3, at4, at5, at6, at7, at8, Option.map_some, res]
end
end K48

set_option linter.all false
set_option maxRecDepth 100000
set_option Elab.async false
set_option exponentiation.threshold 100000
namespace K48
open DP
section
variable {k N m c n nm nc : Nat} {g : Gs} {O : Tb}
/-! ### the widths are not below 0, and they grow -/
theorem wNext_ge (ok : TbOk nm nc O) {w : Nat → Int} (hm : m < nm) (hn : n < nm) (hc : c < nc) {q : Int × Int} (e : O m c n = some q) : w m + (q.2 - q.1) ≤ wNext nm nc O w n :=
  (wNext_some ok hn w).2.top _ ⟨(m, q), (mem_ways (x := (m, q))).mpr ⟨c, hm, hc, e⟩, rfl⟩
theorem wNext_stay (ok : TbOk nm nc O) {w : Nat → Int} (hn : n < nm) : w n ≤ wNext nm nc O w n := by
  obtain ⟨q, e⟩ := ok.stay n 0 hn ok.c1
  have h1 := wNext_ge ok (w := w) hn hn ok.c1 e
  have h2 := ok.le n 0 n q hn ok.c1 e
  omega
theorem Wj_grow (ok : TbOk nm nc O) {wide : Int} (hn : n < nm) (j : Nat) : Wj nm nc O wide j n ≤ Wj nm nc O wide (j + 1) n := wNext_stay ok hn
theorem Wj_nn (ok : TbOk nm nc O) {wide : Int} (h0 : 0 ≤ wide) : ∀ (j n : Nat), n < nm → 0 ≤ Wj nm nc O wide j n
  | 0, _, _ => h0
  | j + 1, n, hn => Int.le_trans (Wj_nn ok h0 j n hn) (Wj_grow ok hn j)
/-! ### the law's own -/
def lstep (O : Tb) (w : Nat → Int) (m c : Nat) (L : Nat → Int) (n : Nat) : Int := match O m c n with
  | some q => max (L n) (w m + (q.2 - q.1))
  | none => L n
def liD (nm : Nat) (L : Nat → Int) : List D := (List.range nm).map fun n => .int (L n)
theorem liD_set {L : Nat → Int} (hn : n < nm) (v : Int) : (liD nm L).set n (.int v) = liD nm (fun i => if i = n then v else L i) := by
  unfold liD
  apply List.ext_getElem?
  intro i
  by_cases hi : i < nm
  · rw [List.getElem?_set, List.getElem?_map, List.getElem?_map, List.getElem?_range hi]
    simp only [List.length_map, List.length_range, Option.map_some]
    by_cases z : n = i
    · subst z; simp [hi]
    · rw [if_neg z, if_neg (fun y => z y.symm)]
  · have h1 : (((List.range nm).map fun n => D.int (L n)).set n (.int v))[i]? = none := by rw [List.getElem?_eq_none_iff]; simp; omega
    rw [h1, eq_comm, List.getElem?_eq_none_iff]; simp; omega
theorem liD_at {L : Nat → Int} (hn : n < nm) : (liD nm L)[n]? = some (.int (L n)) := range_map_at (fun n => D.int (L n)) hn
theorem liD_congr {L L' : Nat → Int} (h : ∀ n, n < nm → L n = L' n) : liD nm L = liD nm L' := List.map_congr_left fun n hn => by rw [h n (List.mem_range.mp hn)]
theorem ixN_nat {a b : Nat} (h : a < b) : DP.ixN b (a : Int) = some a := by
  unfold DP.ixN
  rw [if_pos (by omega), if_pos (by omega), Int.toNat_natCast]
theorem liD_len {L : Nat → Int} : (liD nm L).length = nm := by unfold liD; simp
theorem lf_loop3 (hm : m < nm) {w : Nat → Int} {s0 s1 s2 s4 : Sl} : ∀ (j i : Nat) (L : Nat → Int) (s8 : Sl), i + j ≤ nm → ∃ t8, loopRun (.name 8) (evB (runN T Γ k) Γ L_law_failed_3) ((List.range' i j).map fun (x : Nat) => .int (x : Int)) [s0, s1, s2, .val (.lst (liD nm w)), s4, .own (liD nm L), .val (.int (m : Nat)), .val (.tup ((List.range nm).map fun n => offD (O m c n))), s8] g =
    some (.nx, [s0, s1, s2, .val (.lst (liD nm w)), s4, .own (liD nm (fun n => if i ≤ n ∧ n < i + j then lstep O w m c L n else L n)), .val (.int (m : Nat)), .val (.tup ((List.range nm).map fun n => offD (O m c n))), t8], g)
  | 0, i, L, s8, _ => ⟨s8, by
    rw [List.range'_zero, List.map_nil, loop_nil]
    have : liD nm (fun n => if i ≤ n ∧ n < i + 0 then lstep O w m c L n else L n) = liD nm L := liD_congr fun n _ => if_neg (by omega)
    rw [this]⟩
  | j + 1, i, L, s8, hi => by
    have a1 := atI_nat (range_map_at (fun n => offD (O m c n)) (show i < nm by omega))
    have a2 := atI_nat (liD_at (L := w) hm)
    have a3 := atI_nat (liD_at (L := L) (show i < nm by omega))
    have e : evB (runN T Γ k) Γ L_law_failed_3 [s0, s1, s2, .val (.lst (liD nm w)), s4, .own (liD nm L), .val (.int (m : Nat)), .val (.tup ((List.range nm).map fun n => offD (O m c n))), .val (.int (i : Nat))] g =
        some (.nx, [s0, s1, s2, .val (.lst (liD nm w)), s4, .own (liD nm (fun n => if n = i then lstep O w m c L n else L n)), .val (.int (m : Nat)), .val (.tup ((List.range nm).map fun n => offD (O m c n))), .val (.int (i : Nat))], g) := by
      unfold L_law_failed_3
      cases hq : O m c i with
      | none =>
        rw [hq] at a1
        have i0 : isNon (offD none) = true := rfl
        have : liD nm (fun n => if n = i then lstep O w m c L n else L n) = liD nm L := liD_congr fun n _ => by
          split
          · rename_i z; subst z; unfold lstep; rw [hq]
          · rfl
        rw [this]
        simp only [Bool.false_eq_true, Nat.zero_add, Nat.reduceAdd, Nat.reduceLeDiff, lineB_val, Nat.reduceLT, Nat.zero_lt_succ, Nat.lt_add_one, reduceIte, Nat.one_pos, Nat.lt_irrefl, and_self, and_true, true_and, ne_eq, not_false_eq_true, not_true_eq_false, Nat.reduceEqDiff, Nat.reduceBEq, if_true, if_false, Bool.true_and, Bool.and_true, Bool.false_and, Bool.and_false, Bool.not_true, Bool.not_false, Bool.not_not, decide_true, decide_false, evB, evX, evE, evT, evS, evA, evI, bindT, bindTs, List.getElem?_cons_zero, List.getElem?_cons_succ, List.set_cons_zero, List.set_cons_succ, List.length_cons, List.length_nil, op2_add, op2_sub, cmpD_lt, cmpD_le, cmpD_gt, cmpD_ge, cmpD_eq, cmpD_ne, tru_bl, items_tup, items_lst, items_fro, items_ref, items_rt, still_tup, still_lst, still_fro, at0, at1, at2, at3, at4, at5, at6, at7, at8, Option.map_some, a1, i0]
      | some q =>
        rw [hq] at a1
        have i0 : isNon (offD (some q)) = false := rfl
        have : liD nm (fun n => if n = i then lstep O w m c L n else L n) = (liD nm L).set i (.int (max (L i) (w m + q.2 - q.1))) := by
          rw [liD_set (by omega)]
          refine liD_congr fun n _ => ?_
          split
          · rename_i z; subst z; unfold lstep; rw [hq]; simp only; omega
          · rfl
        rw [this]
        simp only [Bool.false_eq_true, Nat.zero_add, Nat.reduceAdd, Nat.reduceLeDiff, lineB_val, Nat.reduceLT, Nat.zero_lt_succ, Nat.lt_add_one, reduceIte, Nat.one_pos, Nat.lt_irrefl, and_self, and_true, true_and, ne_eq, not_false_eq_true, not_true_eq_false, Nat.reduceEqDiff, Nat.reduceBEq, if_true, if_false, Bool.true_and, Bool.and_true, Bool.false_and, Bool.and_false, Bool.not_true, Bool.not_false, Bool.not_not, decide_true, decide_false, evB, evX, evE, evT, evS, evA, evI, bindT, bindTs, List.getElem?_cons_zero, List.getElem?_cons_succ, List.set_cons_zero, List.set_cons_succ, List.length_cons, List.length_nil, op2_add, op2_sub, cmpD_lt, cmpD_le, cmpD_gt, cmpD_ge, cmpD_eq, cmpD_ne, tru_bl, items_tup, items_lst, items_fro, items_ref, items_rt, still_tup, still_lst, still_fro, at0, at1, at2, at3, at4, at5, at6, at7, at8, Option.map_some, a1, i0, a2, a3, liD_len, ixN_nat (show i < nm by omega)]
        unfold offD ib
        simp only [Bool.false_eq_true, Nat.zero_add, Nat.reduceAdd, Nat.reduceLeDiff, lineB_val, Nat.reduceLT, Nat.zero_lt_succ, Nat.lt_add_one, reduceIte, Nat.one_pos, Nat.lt_irrefl, and_self, and_true, true_and, ne_eq, not_false_eq_true, not_true_eq_false, Nat.reduceEqDiff, Nat.reduceBEq, if_true, if_false, Bool.true_and, Bool.and_true, Bool.false_and, Bool.and_false, Bool.not_true, Bool.not_false, Bool.not_not, decide_true, decide_false, evB, evX, evE, evT, evS, evA, evI, bindT, bindTs, List.getElem?_cons_zero, List.getElem?_cons_succ, List.set_cons_zero, List.set_cons_succ, List.length_cons, List.length_nil, op2_add, op2_sub, cmpD_lt, cmpD_le, cmpD_gt, cmpD_ge, cmpD_eq, cmpD_ne, tru_bl, items_tup, items_lst, items_fro, items_ref, items_rt, still_tup, still_lst, still_fro, at0, at1, at2, at3, at4, at5, at6, at7, at8, Option.map_some, max2_eq, ixN_nat (show i < nm by omega), liD_len]
    obtain ⟨t8, e'⟩ := lf_loop3 hm (w := w) (s0 := s0) (s1 := s1) (s2 := s2) (s4 := s4) j (i + 1) (fun n => if n = i then lstep O w m c L n else L n) (.val (.int (i : Nat))) (by omega)
    refine ⟨t8, ?_⟩
    rw [List.range'_succ, List.map_cons, loop_cons rfl e, e']
    have : liD nm (fun n => if i + 1 ≤ n ∧ n < i + 1 + j then lstep O w m c (fun n => if n = i then lstep O w m c L n else L n) n else if n = i then lstep O w m c L n else L n) = liD nm (fun n => if i ≤ n ∧ n < i + (j + 1) then lstep O w m c L n else L n) := by
      refine liD_congr fun n _ => ?_
      by_cases z1 : n = i
      · subst z1
        rw [if_neg (by omega), if_pos rfl, if_pos (by omega)]
      · by_cases z2 : i + 1 ≤ n ∧ n < i + 1 + j
        · rw [if_pos z2, if_pos (by omega)]
          unfold lstep
          simp only [if_neg z1]
        · rw [if_neg z2, if_neg z1, if_neg (by omega)]
    rw [this]
theorem lf_loop4 (ok : TbOk nm nc O) (hm : m < nm) {w : Nat → Int} {s1 s2 s4 : Sl} : ∀ (j i : Nat) (L : Nat → Int) (s7 s8 : Sl), ∃ t7 t8, loopRun (.name 7) (evB (runN T Γ k) Γ L_law_failed_4) ((List.range' i j).map fun c => .tup ((List.range nm).map fun n => offD (O m c n))) [.val (tabD nm nc O), s1, s2, .val (.lst (liD nm w)), s4, .own (liD nm L), .val (.int (m : Nat)), s7, s8] g =
    some (.nx, [.val (tabD nm nc O), s1, s2, .val (.lst (liD nm w)), s4, .own (liD nm ((List.range' i j).foldl (fun L c => lstep O w m c L) L)), .val (.int (m : Nat)), t7, t8], g)
  | 0, i, L, s7, s8 => ⟨s7, s8, rfl⟩
  | j + 1, i, L, s7, s8 => by
    have h2 := ok.m2
    obtain ⟨t8, e1⟩ := lf_loop3 (k := k) (g := g) (O := O) (c := i) hm (w := w) (s0 := .val (tabD nm nc O)) (s1 := s1) (s2 := s2) (s4 := s4) nm 0 L s8 (by omega)
    rw [← List.range_eq_range', ← intRow_map] at e1
    have cg : liD nm (fun n => if 0 ≤ n ∧ n < 0 + nm then lstep O w m i L n else L n) = liD nm (lstep O w m i L) := liD_congr fun n hn => if_pos (by omega)
    rw [cg] at e1
    have l1 : evE (runN T Γ k) Γ (.len (.e (.var 0))) [.val (tabD nm nc O), s1, s2, .val (.lst (liD nm w)), s4, .own (liD nm L), .val (.int (m : Nat)), .val (.tup ((List.range nm).map fun n => offD (O m i n))), s8] g = some (.int (nm : Int), g) := by
      rw [tabD_row]
      simp only [Bool.false_eq_true, Nat.zero_add, Nat.reduceAdd, Nat.reduceLeDiff, lineB_val, Nat.reduceLT, Nat.zero_lt_succ, Nat.lt_add_one, reduceIte, Nat.one_pos, Nat.lt_irrefl, and_self, and_true, true_and, ne_eq, not_false_eq_true, not_true_eq_false, Nat.reduceEqDiff, Nat.reduceBEq, if_true, if_false, Bool.true_and, Bool.and_true, Bool.false_and, Bool.and_false, Bool.not_true, Bool.not_false, Bool.not_not, decide_true, decide_false, evB, evX, evE, evT, evS, evA, evI, bindT, bindTs, List.getElem?_cons_zero, List.getElem?_cons_succ, List.set_cons_zero, List.set_cons_succ, List.length_cons, List.length_nil, op2_add, op2_sub, cmpD_lt, cmpD_le, cmpD_gt, cmpD_ge, cmpD_eq, cmpD_ne, tru_bl, items_tup, items_lst, items_fro, items_ref, items_rt, still_tup, still_lst, still_fro, at0, at1, at2, at3, at4, at5, at6, at7, at8, Option.map_some, List.length_map, List.length_range]
    have e : evB (runN T Γ k) Γ L_law_failed_4 [.val (tabD nm nc O), s1, s2, .val (.lst (liD nm w)), s4, .own (liD nm L), .val (.int (m : Nat)), .val (.tup ((List.range nm).map fun n => offD (O m i n))), s8] g = some (.nx, [.val (tabD nm nc O), s1, s2, .val (.lst (liD nm w)), s4, .own (liD nm (lstep O w m i L)), .val (.int (m : Nat)), .val (.tup ((List.range nm).map fun n => offD (O m i n))), t8], g) := by
      unfold L_law_failed_4
      exact (evB_cons (evX_loop (evI_range1 l1 (by omega)) e1)).trans evB_nil
    obtain ⟨t7, t8', e'⟩ := lf_loop4 ok hm (w := w) (s1 := s1) (s2 := s2) (s4 := s4) j (i + 1) (lstep O w m i L) (.val (.tup ((List.range nm).map fun n => offD (O m i n)))) t8
    exact ⟨t7, t8', by rw [List.range'_succ, List.map_cons, loop_cons rfl e, e', List.foldl_cons]⟩
theorem lf_loop5 (ok : TbOk nm nc O) {w : Nat → Int} {s1 s2 s4 : Sl} : ∀ (j i : Nat) (L : Nat → Int) (s6 s7 s8 : Sl), i + j ≤ nm → ∃ t6 t7 t8, loopRun (.name 6) (evB (runN T Γ k) Γ L_law_failed_5) ((List.range' i j).map fun (x : Nat) => .int (x : Int)) [.val (tabD nm nc O), s1, s2, .val (.lst (liD nm w)), s4, .own (liD nm L), s6, s7, s8] g =
    some (.nx, [.val (tabD nm nc O), s1, s2, .val (.lst (liD nm w)), s4, .own (liD nm ((List.range' i j).foldl (fun L m => (List.range nc).foldl (fun L c => lstep O w m c L) L) L)), t6, t7, t8], g)
  | 0, i, L, s6, s7, s8, _ => ⟨s6, s7, s8, rfl⟩
  | j + 1, i, L, s6, s7, s8, hi => by
    obtain ⟨t7, t8, e1⟩ := lf_loop4 (k := k) (g := g) ok (show i < nm by omega) (w := w) (s1 := s1) (s2 := s2) (s4 := s4) nc 0 L s7 s8
    rw [← List.range_eq_range'] at e1
    have a1 : evS (runN T Γ k) Γ (.e (.ix (.e (.var 0)) (.var 6))) [.val (tabD nm nc O), s1, s2, .val (.lst (liD nm w)), s4, .own (liD nm L), .val (.int (i : Nat)), s7, s8] g = some (rowD nm nc O i, g) := by
      rw [tabD_row]
      simp only [Bool.false_eq_true, Nat.zero_add, Nat.reduceAdd, Nat.reduceLeDiff, lineB_val, Nat.reduceLT, Nat.zero_lt_succ, Nat.lt_add_one, reduceIte, Nat.one_pos, Nat.lt_irrefl, and_self, and_true, true_and, ne_eq, not_false_eq_true, not_true_eq_false, Nat.reduceEqDiff, Nat.reduceBEq, if_true, if_false, Bool.true_and, Bool.and_true, Bool.false_and, Bool.and_false, Bool.not_true, Bool.not_false, Bool.not_not, decide_true, decide_false, evB, evX, evE, evT, evS, evA, evI, bindT, bindTs, List.getElem?_cons_zero, List.getElem?_cons_succ, List.set_cons_zero, List.set_cons_succ, List.length_cons, List.length_nil, op2_add, op2_sub, cmpD_lt, cmpD_le, cmpD_gt, cmpD_ge, cmpD_eq, cmpD_ne, tru_bl, items_tup, items_lst, items_fro, items_ref, items_rt, still_tup, still_lst, still_fro, at0, at1, at2, at3, at4, at5, at6, at7, at8, Option.map_some, atI_nat (range_map_at (rowD nm nc O) (show i < nm by omega))]
    have e : evB (runN T Γ k) Γ L_law_failed_5 [.val (tabD nm nc O), s1, s2, .val (.lst (liD nm w)), s4, .own (liD nm L), .val (.int (i : Nat)), s7, s8] g = some (.nx, [.val (tabD nm nc O), s1, s2, .val (.lst (liD nm w)), s4, .own (liD nm ((List.range nc).foldl (fun L c => lstep O w i c L) L)), .val (.int (i : Nat)), t7, t8], g) := by
      unfold L_law_failed_5
      exact (evB_cons (evX_loop (evI_seq a1 rfl) e1)).trans evB_nil
    obtain ⟨t6, t7', t8', e'⟩ := lf_loop5 ok (w := w) (s1 := s1) (s2 := s2) (s4 := s4) j (i + 1) ((List.range nc).foldl (fun L c => lstep O w i c L) L) (.val (.int (i : Nat))) t7 t8 (by omega)
    exact ⟨t6, t7', t8', by rw [List.range'_succ, List.map_cons, loop_cons rfl e, e', List.foldl_cons]⟩
/-- a value of the law's fold -/
def LS (O : Tb) (w : Nat → Int) (n : Nat) (ms cs : List Nat) (v : Int) : Prop := ∃ m c q, m ∈ ms ∧ c ∈ cs ∧ O m c n = some q ∧ v = w m + (q.2 - q.1)
theorem fold_c {w : Nat → Int} : ∀ (cs : List Nat) (L : Nat → Int), Mx (fun v => v = L n ∨ LS O w n [m] cs v) (cs.foldl (fun L c => lstep O w m c L) L n)
  | [], L => ⟨.inl rfl, fun u hu => by
    rcases hu with h | ⟨m', c', q, _, h, _⟩
    · exact Int.le_of_eq h
    · cases h⟩
  | c :: cs, L => by
    have ih := fold_c (w := w) cs (lstep O w m c L)
    rw [List.foldl_cons]
    have hst : lstep O w m c L n = L n ∨ LS O w n [m] [c] (lstep O w m c L n) := by
      unfold lstep
      cases e : O m c n with
      | none => exact .inl rfl
      | some q =>
        show max (L n) (w m + (q.2 - q.1)) = L n ∨ LS O w n [m] [c] (max (L n) (w m + (q.2 - q.1)))
        rcases Int.le_total (L n) (w m + (q.2 - q.1)) with z | z
        · rw [Int.max_eq_right z]; exact .inr ⟨m, c, q, by simp, by simp, e, rfl⟩
        · exact .inl (Int.max_eq_left z)
    have hge : L n ≤ lstep O w m c L n ∧ ∀ q, O m c n = some q → w m + (q.2 - q.1) ≤ lstep O w m c L n := by
      unfold lstep
      cases e : O m c n with
      | none => exact ⟨Int.le_refl _, fun q h => by cases h⟩
      | some q => exact ⟨Int.le_max_left _ _, fun q' h => by cases h; exact Int.le_max_right _ _⟩
    refine ⟨?_, fun u hu => ?_⟩
    · rcases ih.has with h | ⟨m', c', q, h1, h2, h3, h4⟩
      · rcases hst with z | ⟨m', c', q, h1, h2, h3, h4⟩
        · exact .inl (h.trans z)
        · exact .inr ⟨m', c', q, h1, by simp at h2; subst h2; exact List.mem_cons_self, h3, h.trans h4⟩
      · exact .inr ⟨m', c', q, h1, List.mem_cons_of_mem _ h2, h3, h4⟩
    · have t0 := ih.top _ (.inl rfl)
      rcases hu with h | ⟨m', c', q, h1, h2, h3, h4⟩
      · have := hge.1; omega
      · simp at h1; subst h1
        rcases List.mem_cons.mp h2 with z | z
        · subst z; have := hge.2 q h3; omega
        · exact ih.top _ (.inr ⟨m', c', q, by simp, z, h3, h4⟩)
theorem fold_m {w : Nat → Int} (cs : List Nat) : ∀ (ms : List Nat) (L : Nat → Int), Mx (fun v => v = L n ∨ LS O w n ms cs v) (ms.foldl (fun L m => cs.foldl (fun L c => lstep O w m c L) L) L n)
  | [], L => ⟨.inl rfl, fun u hu => by
    rcases hu with h | ⟨m', c', q, h, _⟩
    · exact Int.le_of_eq h
    · cases h⟩
  | m :: ms, L => by
    have ih := fold_m (w := w) cs ms (cs.foldl (fun L c => lstep O w m c L) L)
    have h0 := fold_c (O := O) (n := n) (m := m) (w := w) cs L
    rw [List.foldl_cons]
    refine ⟨?_, fun u hu => ?_⟩
    · rcases ih.has with h | ⟨m', c', q, h1, h2, h3, h4⟩
      · rcases h0.has with z | ⟨m', c', q, h1, h2, h3, h4⟩
        · exact .inl (h.trans z)
        · exact .inr ⟨m', c', q, by simp at h1; subst h1; exact List.mem_cons_self, h2, h3, h.trans h4⟩
      · exact .inr ⟨m', c', q, List.mem_cons_of_mem _ h1, h2, h3, h4⟩
    · have t0 := ih.top _ (.inl rfl)
      rcases hu with h | ⟨m', c', q, h1, h2, h3, h4⟩
      · have := h0.top _ (.inl rfl); omega
      · rcases List.mem_cons.mp h1 with z | z
        · subst z; have := h0.top u (.inr ⟨m', c', q, by simp, h2, h3, h4⟩); omega
        · exact ih.top _ (.inr ⟨m', c', q, z, h2, h3, h4⟩)
theorem fold_is (ok : TbOk nm nc O) {w : Nat → Int} (hw : ∀ n, n < nm → 0 ≤ w n) (hn : n < nm) : (List.range nm).foldl (fun L m => (List.range nc).foldl (fun L c => lstep O w m c L) L) (fun _ => 0) n = wNext nm nc O w n := by
  have h := fold_m (O := O) (n := n) (w := w) (List.range nc) (List.range nm) (fun _ => 0)
  have h2 := (wNext_some ok hn w).2
  refine h.eq ⟨?_, fun u hu => ?_⟩
  · obtain ⟨x, hx, e⟩ := h2.has
    obtain ⟨c, h3, h4, h5⟩ := mem_ways.mp hx
    exact .inr ⟨x.1, c, x.2, List.mem_range.mpr h3, List.mem_range.mpr h4, h5, e⟩
  · rcases hu with z | ⟨m, c, q, h3, h4, h5, h6⟩
    · have := wNext_stay ok (w := w) hn
      have := hw n hn
      omega
    · rw [h6]; exact wNext_ge ok (List.mem_range.mp h3) hn (List.mem_range.mp h4) h5
theorem lf_loop6 (ok : TbOk nm nc O) {wide : Int} (h0 : 0 ≤ wide) {s1 s2 : Sl} : ∀ (ds : List D) (j : Nat) (s4 s5 s6 s7 s8 : Sl), ∃ t4 t5 t6 t7 t8, loopRun (.name 4) (evB (runN T Γ k) Γ L_law_failed_6) ds [.val (tabD nm nc O), s1, s2, .val (.lst (liD nm (Wj nm nc O wide j))), s4, s5, s6, s7, s8] g =
    some (.nx, [.val (tabD nm nc O), s1, s2, .val (.lst (liD nm (Wj nm nc O wide (j + ds.length)))), t4, t5, t6, t7, t8], g)
  | [], j, s4, s5, s6, s7, s8 => ⟨s4, s5, s6, s7, s8, rfl⟩
  | d :: ds, j, s4, s5, s6, s7, s8 => by
    have h2 := ok.m2
    obtain ⟨t6, t7, t8, e1⟩ := lf_loop5 (k := k) (g := g) ok (w := Wj nm nc O wide j) (s1 := s1) (s2 := s2) (s4 := .val d) nm 0 (fun _ => 0) s6 s7 s8 (by omega)
    rw [← List.range_eq_range', ← intRow_map] at e1
    have cg : liD nm ((List.range nm).foldl (fun L m => (List.range nc).foldl (fun L c => lstep O (Wj nm nc O wide j) m c L) L) (fun _ => 0)) = liD nm (Wj nm nc O wide (j + 1)) := liD_congr fun n hn => fold_is ok (fun n hn => Wj_nn ok h0 j n hn) hn
    rw [cg] at e1
    have lc : lcRun [6] (.name 6) (fun _ g => some (true, g)) (evE (runN T Γ k) Γ E_law_failed_2) [.val (tabD nm nc O), s1, s2, .val (.lst (liD nm (Wj nm nc O wide j))), .val d, s5, s6, s7, s8] ((List.range nm).map (rowD nm nc O)) g = some (liD nm (fun _ => 0), g) :=
      lc_mapm _ _ _ fun n hn => ⟨_, rfl, by unfold E_law_failed_2; rw [evE]⟩
    have x1 : evE (runN T Γ k) Γ (.lcA [6] (.name 6) (.seq (.e (.var 0))) E_law_failed_2) [.val (tabD nm nc O), s1, s2, .val (.lst (liD nm (Wj nm nc O wide j))), .val d, s5, s6, s7, s8] g = some (.lst (liD nm (fun _ => 0)), g) := evE_lcA (evI_seq (x := tabD nm nc O) (by simp only [Bool.false_eq_true, Nat.zero_add, Nat.reduceAdd, Nat.reduceLeDiff, lineB_val, Nat.reduceLT, Nat.zero_lt_succ, Nat.lt_add_one, reduceIte, Nat.one_pos, Nat.lt_irrefl, and_self, and_true, true_and, ne_eq, not_false_eq_true, not_true_eq_false, Nat.reduceEqDiff, Nat.reduceBEq, if_true, if_false, Bool.true_and, Bool.and_true, Bool.false_and, Bool.and_false, Bool.not_true, Bool.not_false, Bool.not_not, decide_true, decide_false, evB, evX, evE, evT, evS, evA, evI, bindT, bindTs, List.getElem?_cons_zero, List.getElem?_cons_succ, List.set_cons_zero, List.set_cons_succ, List.length_cons, List.length_nil, op2_add, op2_sub, cmpD_lt, cmpD_le, cmpD_gt, cmpD_ge, cmpD_eq, cmpD_ne, tru_bl, items_tup, items_lst, items_fro, items_ref, items_rt, still_tup, still_lst, still_fro, at0, at1, at2, at3, at4, at5, at6, at7, at8, Option.map_some]) rfl) (by rw [List.length_map, List.length_range, lineB_val]; omega) lc
    have x2 : evX (runN T Γ k) Γ (.own 5 (.lcA [6] (.name 6) (.seq (.e (.var 0))) E_law_failed_2)) [.val (tabD nm nc O), s1, s2, .val (.lst (liD nm (Wj nm nc O wide j))), .val d, s5, s6, s7, s8] g = some (.nx, [.val (tabD nm nc O), s1, s2, .val (.lst (liD nm (Wj nm nc O wide j))), .val d, .own (liD nm (fun _ => 0)), s6, s7, s8], g) := by
      rw [evX, x1]
      rfl
    have l1 : evE (runN T Γ k) Γ (.len (.e (.var 0))) [.val (tabD nm nc O), s1, s2, .val (.lst (liD nm (Wj nm nc O wide j))), .val d, .own (liD nm (fun _ => 0)), s6, s7, s8] g = some (.int (nm : Int), g) := by
      rw [tabD_row]
      simp only [Bool.false_eq_true, Nat.zero_add, Nat.reduceAdd, Nat.reduceLeDiff, lineB_val, Nat.reduceLT, Nat.zero_lt_succ, Nat.lt_add_one, reduceIte, Nat.one_pos, Nat.lt_irrefl, and_self, and_true, true_and, ne_eq, not_false_eq_true, not_true_eq_false, Nat.reduceEqDiff, Nat.reduceBEq, if_true, if_false, Bool.true_and, Bool.and_true, Bool.false_and, Bool.and_false, Bool.not_true, Bool.not_false, Bool.not_not, decide_true, decide_false, evB, evX, evE, evT, evS, evA, evI, bindT, bindTs, List.getElem?_cons_zero, List.getElem?_cons_succ, List.set_cons_zero, List.set_cons_succ, List.length_cons, List.length_nil, op2_add, op2_sub, cmpD_lt, cmpD_le, cmpD_gt, cmpD_ge, cmpD_eq, cmpD_ne, tru_bl, items_tup, items_lst, items_fro, items_ref, items_rt, still_tup, still_lst, still_fro, at0, at1, at2, at3, at4, at5, at6, at7, at8, Option.map_some, List.length_map, List.length_range]
    have e : evB (runN T Γ k) Γ L_law_failed_6 [.val (tabD nm nc O), s1, s2, .val (.lst (liD nm (Wj nm nc O wide j))), .val d, s5, s6, s7, s8] g = some (.nx, [.val (tabD nm nc O), s1, s2, .val (.lst (liD nm (Wj nm nc O wide (j + 1)))), .val d, .val (.lst (liD nm (Wj nm nc O wide (j + 1)))), t6, t7, t8], g) := by
      unfold L_law_failed_6
      rw [evB_cons x2, evB_cons (evX_loop (evI_range1 l1 (by omega)) e1)]
      simp only [Bool.false_eq_true, Nat.zero_add, Nat.reduceAdd, Nat.reduceLeDiff, lineB_val, Nat.reduceLT, Nat.zero_lt_succ, Nat.lt_add_one, reduceIte, Nat.one_pos, Nat.lt_irrefl, and_self, and_true, true_and, ne_eq, not_false_eq_true, not_true_eq_false, Nat.reduceEqDiff, Nat.reduceBEq, if_true, if_false, Bool.true_and, Bool.and_true, Bool.false_and, Bool.and_false, Bool.not_true, Bool.not_false, Bool.not_not, decide_true, decide_false, evB, evX, evE, evT, evS, evA, evI, bindT, bindTs, List.getElem?_cons_zero, List.getElem?_cons_succ, List.set_cons_zero, List.set_cons_succ, List.length_cons, List.length_nil, op2_add, op2_sub, cmpD_lt, cmpD_le, cmpD_gt, cmpD_ge, cmpD_eq, cmpD_ne, tru_bl, items_tup, items_lst, items_fro, items_ref, items_rt, still_tup, still_lst, still_fro, at0, at1, at2, at3, at4, at5, at6, at7, at8, Option.map_some]
    obtain ⟨t4, t5, t6', t7', t8', e'⟩ := lf_loop6 ok h0 (s1 := s1) (s2 := s2) ds (j + 1) (.val d) (.val (.lst (liD nm (Wj nm nc O wide (j + 1))))) t6 t7 t8
    exact ⟨t4, t5, t6', t7', t8', by rw [loop_cons rfl e, e', List.length_cons, show j + 1 + ds.length = j + (ds.length + 1) by omega]⟩
theorem run_law_failed (hk : 0 < k) (ok : TbOk nm nc O) {wide : Int} (h0 : 0 ≤ wide) {j : Nat} (hj : j ≤ 1000) : runN T Γ k f_law_failed [tabD nm nc O, .int wide, .int j] g = some (.lst (liD nm (Wj nm nc O wide j)), g) := by
  obtain ⟨k, rfl⟩ : ∃ k', k = k' + 1 := ⟨k - 1, by omega⟩
  rw [run_eq T_law_failed rfl]
  show res (evB _ _ B_law_failed [.val (tabD nm nc O), .val (.int wide), .val (.int j), .un, .un, .un, .un, .un, .un] g) = _
  have h2 := ok.m2
  obtain ⟨t4, t5, t6, t7, t8, e⟩ := lf_loop6 (k := k) (g := g) ok h0 (s1 := .val (.int wide)) (s2 := .val (.int j)) (intRow 0 j) 0 .un .un .un .un .un
  rw [intRow_length, Nat.zero_add] at e
  have lc : lcRun [6] (.name 6) (fun _ g => some (true, g)) (evE (runN T Γ k) Γ E_law_failed_1) [.val (tabD nm nc O), .val (.int wide), .val (.int j), .un, .un, .un, .un, .un, .un] ((List.range nm).map (rowD nm nc O)) g = some (liD nm (Wj nm nc O wide 0), g) :=
    lc_mapm _ _ _ fun n hn => ⟨_, rfl, by unfold E_law_failed_1; simp only [Bool.false_eq_true, Nat.zero_add, Nat.reduceAdd, Nat.reduceLeDiff, lineB_val, Nat.reduceLT, Nat.zero_lt_succ, Nat.lt_add_one, reduceIte, Nat.one_pos, Nat.lt_irrefl, and_self, and_true, true_and, ne_eq, not_false_eq_true, not_true_eq_false, Nat.reduceEqDiff, Nat.reduceBEq, if_true, if_false, Bool.true_and, Bool.and_true, Bool.false_and, Bool.and_false, Bool.not_true, Bool.not_false, Bool.not_not, decide_true, decide_false, evB, evX, evE, evT, evS, evA, evI, bindT, bindTs, List.getElem?_cons_zero, List.getElem?_cons_succ, List.set_cons_zero, List.set_cons_succ, List.length_cons, List.length_nil, op2_add, op2_sub, cmpD_lt, cmpD_le, cmpD_gt, cmpD_ge, cmpD_eq, cmpD_ne, tru_bl, items_tup, items_lst, items_fro, items_ref, items_rt, still_tup, still_lst, still_fro, at0, at1, at2, at3, at4, at5, at6, at7, at8, Option.map_some]; rfl⟩
  have e0 : evE (runN T Γ k) Γ (.lcA [6] (.name 6) (.seq (.e (.var 0))) E_law_failed_1) [.val (tabD nm nc O), .val (.int wide), .val (.int j), .un, .un, .un, .un, .un, .un] g = some (.lst (liD nm (Wj nm nc O wide 0)), g) := evE_lcA (evI_seq (x := tabD nm nc O) (by simp only [Bool.false_eq_true, Nat.zero_add, Nat.reduceAdd, Nat.reduceLeDiff, lineB_val, Nat.reduceLT, Nat.zero_lt_succ, Nat.lt_add_one, reduceIte, Nat.one_pos, Nat.lt_irrefl, and_self, and_true, true_and, ne_eq, not_false_eq_true, not_true_eq_false, Nat.reduceEqDiff, Nat.reduceBEq, if_true, if_false, Bool.true_and, Bool.and_true, Bool.false_and, Bool.and_false, Bool.not_true, Bool.not_false, Bool.not_not, decide_true, decide_false, evB, evX, evE, evT, evS, evA, evI, bindT, bindTs, List.getElem?_cons_zero, List.getElem?_cons_succ, List.set_cons_zero, List.set_cons_succ, List.length_cons, List.length_nil, op2_add, op2_sub, cmpD_lt, cmpD_le, cmpD_gt, cmpD_ge, cmpD_eq, cmpD_ne, tru_bl, items_tup, items_lst, items_fro, items_ref, items_rt, still_tup, still_lst, still_fro, at0, at1, at2, at3, at4, at5, at6, at7, at8, Option.map_some]) rfl) (by rw [List.length_map, List.length_range, lineB_val]; omega) lc
  unfold B_law_failed
  rw [evB_cons (E1 := [.val (tabD nm nc O), .val (.int wide), .val (.int j), .val (.lst (liD nm (Wj nm nc O wide 0))), .un, .un, .un, .un, .un]) (evX_set e0 (by simp)), evB_cons (evX_loop (evI_range1 (n := j) (by simp only [Bool.false_eq_true, Nat.zero_add, Nat.reduceAdd, Nat.reduceLeDiff, lineB_val, Nat.reduceLT, Nat.zero_lt_succ, Nat.lt_add_one, reduceIte, Nat.one_pos, Nat.lt_irrefl, and_self, and_true, true_and, ne_eq, not_false_eq_true, not_true_eq_false, Nat.reduceEqDiff, Nat.reduceBEq, if_true, if_false, Bool.true_and, Bool.and_true, Bool.false_and, Bool.and_false, Bool.not_true, Bool.not_false, Bool.not_not, decide_true, decide_false, evB, evX, evE, evT, evS, evA, evI, bindT, bindTs, List.getElem?_cons_zero, List.getElem?_cons_succ, List.set_cons_zero, List.set_cons_succ, List.length_cons, List.length_nil, op2_add, op2_sub, cmpD_lt, cmpD_le, cmpD_gt, cmpD_ge, cmpD_eq, cmpD_ne, tru_bl, items_tup, items_lst, items_fro, items_ref, items_rt, still_tup, still_lst, still_fro, at0, at1, at2, at3, at4, at5, at6, at7, at8, Option.map_some]) hj) e)]
  simp only [Bool.false_eq_true, Nat.zero_add, Nat.reduceAdd, Nat.reduceLeDiff, lineB_val, Nat.reduceLT, Nat.zero_lt_succ, Nat.lt_add_one, reduceIte, Nat.one_pos, Nat.lt_irrefl, and_self, and_true, true_and, ne_eq, not_false_eq_true, not_true_eq_false, Nat.reduceEqDiff, Nat.reduceBEq, if_true, if_false, Bool.true_and, Bool.and_true, Bool.false_and, Bool.and_false, Bool.not_true, Bool.not_false, Bool.not_not, decide_true, decide_false, evB, evX, evE, evT, evS, evA, evI, bindT, bindTs, List.getElem?_cons_zero, List.getElem?_cons_succ, List.set_cons_zero, List.set_cons_succ, List.length_cons, List.length_nil, op2_add, op2_sub, cmpD_lt, cmpD_le, cmpD_gt, cmpD_ge, cmpD_eq, cmpD_ne, tru_bl, items_tup, items_lst, items_fro, items_ref, items_rt, still_tup, still_lst, still_fro, at0, at1, at2, at3, at4, at5, at6, at7, at8, Option.map_some, res]
end
end K48

set_option linter.all false
set_option maxRecDepth 100000
set_option Elab.async false
set_option exponentiation.threshold 100000
namespace K48
open DP
abbrev Lp := Int × Nat
def lvD (x : Lp) : D := ipr (x.1, (x.2 : Int))
theorem inD_lv (x : Lp) (l : List Lp) : inD (lvD x) (.lst (l.map lvD)) = some (l.contains x) := by
  have h := inD_ipr (x.1, (x.2 : Int)) (l.map fun y => (y.1, (y.2 : Int)))
  rw [List.map_map] at h
  refine Eq.trans h ?_
  congr 1
  induction l with
  | nil => rfl
  | cons y l ih =>
    rw [List.map_cons, List.contains_cons, List.contains_cons, ih (by have := inD_ipr (x.1, (x.2 : Int)) (l.map fun y => (y.1, (y.2 : Int))); rwa [List.map_map] at this)]
    congr 1
    rw [Bool.eq_iff_iff]
    simp only [beq_iff_eq, Prod.mk.injEq, Prod.ext_iff]
    omega
theorem fold_mem {α β : Type} {f : List β → α → List β} {R : α → β → Prop} (h : ∀ a l x, x ∈ f l a ↔ x ∈ l ∨ R a x) : ∀ (as : List α) (l : List β) (x : β), x ∈ as.foldl f l ↔ x ∈ l ∨ ∃ a ∈ as, R a x
  | [], l, x => by simp
  | a :: as, l, x => by
    rw [List.foldl_cons, fold_mem h as (f l a) x, h a l x]
    constructor
    · rintro ((h | h) | ⟨b, h1, h2⟩)
      · exact .inl h
      · exact .inr ⟨a, List.mem_cons_self, h⟩
      · exact .inr ⟨b, List.mem_cons_of_mem _ h1, h2⟩
    · rintro (h | ⟨b, h1, h2⟩)
      · exact .inl (.inl h)
      · rcases List.mem_cons.mp h1 with z | z
        · subst z; exact .inl (.inr h2)
        · exact .inr ⟨b, z, h2⟩
theorem fold_len {α β : Type} {f : List β → α → List β} {K : Nat} (h : ∀ a l, (f l a).length ≤ l.length + K) : ∀ (as : List α) (l : List β), (as.foldl f l).length ≤ l.length + K * as.length
  | [], l => by simp
  | a :: as, l => by
    rw [List.foldl_cons, List.length_cons, Nat.mul_succ]
    have := fold_len h as (f l a)
    have := h a l
    omega
def add1 (l : List Lp) (x : Lp) : List Lp := if l.contains x then l else l ++ [x]
theorem add1_mem (l : List Lp) (x y : Lp) : y ∈ add1 l x ↔ y ∈ l ∨ y = x := by
  unfold add1
  split
  · rename_i h
    have hx : x ∈ l := by simpa using h
    constructor
    · exact .inl
    · rintro (h | h)
      · exact h
      · subst h; exact hx
  · simp
theorem add1_len (l : List Lp) (x : Lp) : (add1 l x).length ≤ l.length + 1 := by
  unfold add1; split <;> simp
def n3 (O : Tb) (v : Int) (m c : Nat) (l : List Lp) (n : Nat) : List Lp := match O m c n with
  | some q => add1 l (v + q.2 - q.1, n)
  | none => l
def n4 (O : Tb) (nm : Nat) (v : Int) (m : Nat) (l : List Lp) (c : Nat) : List Lp := (List.range nm).foldl (n3 O v m c) l
def n5 (O : Tb) (nm nc : Nat) (l : List Lp) (x : Lp) : List Lp := (List.range nc).foldl (n4 O nm x.1 x.2) l
def Lv (O : Tb) (nm nc : Nat) (wide : Int) : Nat → List Lp
  | 0 => (List.range nm).map fun m => (wide, m)
  | j + 1 => (Lv O nm nc wide j).foldl (n5 O nm nc) []
section
variable {k N m c n nm nc : Nat} {g : Gs} {O : Tb}
theorem n3_mem (v : Int) (n : Nat) (l : List Lp) (x : Lp) : x ∈ n3 O v m c l n ↔ x ∈ l ∨ ∃ q, O m c n = some q ∧ x = (v + q.2 - q.1, n) := by
  unfold n3
  cases e : O m c n with
  | none => simp
  | some q => simp only [add1_mem]; simp
theorem n3_len (v : Int) (n : Nat) (l : List Lp) : (n3 O v m c l n).length ≤ l.length + 1 := by
  unfold n3
  split
  · exact add1_len _ _
  · omega
theorem n4_mem (v : Int) (c : Nat) (l : List Lp) (x : Lp) : x ∈ n4 O nm v m l c ↔ x ∈ l ∨ ∃ n ∈ List.range nm, ∃ q, O m c n = some q ∧ x = (v + q.2 - q.1, n) :=
  fold_mem (f := n3 O v m c) (R := fun n x => ∃ q, O m c n = some q ∧ x = (v + q.2 - q.1, n)) (fun n l x => n3_mem v n l x) (List.range nm) l x
theorem n4_len (v : Int) (c : Nat) (l : List Lp) : (n4 O nm v m l c).length ≤ l.length + nm := by
  have := fold_len (f := n3 O v m c) (K := 1) (fun n l => n3_len v n l) (List.range nm) l
  rw [List.length_range, Nat.one_mul] at this
  exact this
theorem n5_mem (y : Lp) (l : List Lp) (x : Lp) : x ∈ n5 O nm nc l y ↔ x ∈ l ∨ ∃ c ∈ List.range nc, ∃ n ∈ List.range nm, ∃ q, O y.2 c n = some q ∧ x = (y.1 + q.2 - q.1, n) :=
  fold_mem (f := n4 O nm y.1 y.2) (R := fun c x => ∃ n ∈ List.range nm, ∃ q, O y.2 c n = some q ∧ x = (y.1 + q.2 - q.1, n)) (fun c l x => n4_mem y.1 c l x) (List.range nc) l x
theorem n5_len (y : Lp) (l : List Lp) : (n5 O nm nc l y).length ≤ l.length + nm * nc := by
  have := fold_len (f := n4 O nm y.1 y.2) (K := nm) (fun c l => n4_len y.1 c l) (List.range nc) l
  rw [List.length_range] at this
  exact this
structure LvOk (O : Tb) (nm nc : Nat) (wide : Int) (j : Nat) : Prop where
  le : ∀ x ∈ Lv O nm nc wide j, x.2 < nm ∧ x.1 ≤ Wj nm nc O wide j x.2
  has : ∀ m, m < nm → (Wj nm nc O wide j m, m) ∈ Lv O nm nc wide j
  len : (Lv O nm nc wide j).length ≤ 2 * 6 ^ j
theorem lvOk (ok : TbOk nm nc O) {wide : Int} : ∀ j, LvOk O nm nc wide j
  | 0 => ⟨fun x hx => by
    obtain ⟨m, hm, rfl⟩ := List.mem_map.mp hx
    exact ⟨List.mem_range.mp hm, Int.le_refl _⟩, fun m hm => List.mem_map.mpr ⟨m, List.mem_range.mpr hm, rfl⟩, by
    have := ok.m2
    unfold Lv; rw [List.length_map, List.length_range]; omega⟩
  | j + 1 => by
    have ih := lvOk ok (wide := wide) j
    have key : ∀ x, x ∈ Lv O nm nc wide (j + 1) ↔ ∃ y ∈ Lv O nm nc wide j, ∃ c ∈ List.range nc, ∃ n ∈ List.range nm, ∃ q, O y.2 c n = some q ∧ x = (y.1 + q.2 - q.1, n) := fun x => by
      have := fold_mem (fun y l x => n5_mem (O := O) (nm := nm) (nc := nc) y l x) (Lv O nm nc wide j) [] x
      simpa [Lv] using this
    refine ⟨fun x hx => ?_, fun m hm => ?_, ?_⟩
    · obtain ⟨y, hy, c, hc, n, hn, q, e, rfl⟩ := (key x).mp hx
      obtain ⟨h1, h2⟩ := ih.le y hy
      have := wNext_ge ok (w := Wj nm nc O wide j) h1 (List.mem_range.mp hn) (List.mem_range.mp hc) e
      exact ⟨List.mem_range.mp hn, by show y.1 + q.2 - q.1 ≤ wNext nm nc O (Wj nm nc O wide j) n; omega⟩
    · obtain ⟨x, hx, e⟩ := (wNext_some ok hm (Wj nm nc O wide j)).2.has
      obtain ⟨c, h3, h4, h5⟩ := mem_ways.mp hx
      refine (key _).mpr ⟨(Wj nm nc O wide j x.1, x.1), ih.has x.1 h3, c, List.mem_range.mpr h4, m, List.mem_range.mpr hm, x.2, h5, ?_⟩
      show (wNext nm nc O (Wj nm nc O wide j) m, m) = _
      rw [e]
      unfold wv
      exact Prod.ext (by show Wj nm nc O wide j x.1 + (x.2.2 - x.2.1) = Wj nm nc O wide j x.1 + x.2.2 - x.2.1; omega) rfl
    · have h := fold_len (f := n5 O nm nc) (K := nm * nc) (fun y l => n5_len y l) (Lv O nm nc wide j) []
      have h1 := ih.len
      have h2 : nm * nc ≤ 6 := Nat.mul_le_mul ok.m2 ok.c3
      have h3 : nm * nc * (Lv O nm nc wide j).length ≤ 6 * (2 * 6 ^ j) := Nat.mul_le_mul h2 h1
      rw [List.length_nil, Nat.zero_add] at h
      have h4 : 6 * (2 * 6 ^ j) = 2 * 6 ^ (j + 1) := by rw [Nat.pow_succ]; omega
      show ((Lv O nm nc wide j).foldl (n5 O nm nc) []).length ≤ _
      omega
theorem aw_loop3 {v : Int} {s0 s1 s2 s3 s4 s5 s11 : Sl} : ∀ (j i : Nat) (l : List Lp) (s10 : Sl), i + j ≤ nm → l.length + j ≤ 100000 → ∃ t10, loopRun (.name 10) (evB (runN T Γ k) Γ L_law_all_ways_3) ((List.range' i j).map fun (x : Nat) => .int (x : Int)) [s0, s1, s2, s3, s4, s5, .own (l.map lvD), .val (.int (m : Nat)), .val (.int v), .val (.tup ((List.range nm).map fun n => offD (O m c n))), s10, s11] g =
    some (.nx, [s0, s1, s2, s3, s4, s5, .own (((List.range' i j).foldl (n3 O v m c) l).map lvD), .val (.int (m : Nat)), .val (.int v), .val (.tup ((List.range nm).map fun n => offD (O m c n))), t10, s11], g)
  | 0, i, l, s10, _, _ => ⟨s10, rfl⟩
  | j + 1, i, l, s10, hi, hl => by
    have a1 := atI_nat (range_map_at (fun n => offD (O m c n)) (show i < nm by omega))
    have e : evB (runN T Γ k) Γ L_law_all_ways_3 [s0, s1, s2, s3, s4, s5, .own (l.map lvD), .val (.int (m : Nat)), .val (.int v), .val (.tup ((List.range nm).map fun n => offD (O m c n))), .val (.int (i : Nat)), s11] g =
        some (.nx, [s0, s1, s2, s3, s4, s5, .own ((n3 O v m c l i).map lvD), .val (.int (m : Nat)), .val (.int v), .val (.tup ((List.range nm).map fun n => offD (O m c n))), .val (.int (i : Nat)), s11], g) := by
      unfold L_law_all_ways_3 n3
      cases hq : O m c i with
      | none =>
        rw [hq] at a1
        have i0 : isNon (offD none) = true := rfl
        simp only [Bool.false_eq_true, Nat.zero_add, Nat.reduceAdd, Nat.reduceLeDiff, lineB_val, Nat.reduceLT, Nat.zero_lt_succ, Nat.lt_add_one, reduceIte, Nat.one_pos, Nat.lt_irrefl, and_self, and_true, true_and, ne_eq, not_false_eq_true, not_true_eq_false, Nat.reduceEqDiff, Nat.reduceBEq, if_true, if_false, Bool.true_and, Bool.and_true, Bool.false_and, Bool.and_false, Bool.not_true, Bool.not_false, Bool.not_not, decide_true, decide_false, evB, evX, evE, evT, evS, evA, evI, bindT, bindTs, List.getElem?_cons_zero, List.getElem?_cons_succ, List.set_cons_zero, List.set_cons_succ, List.length_cons, List.length_nil, op2_add, op2_sub, cmpD_lt, cmpD_le, cmpD_gt, cmpD_ge, cmpD_eq, cmpD_ne, tru_bl, items_tup, items_lst, items_fro, items_ref, items_rt, still_tup, still_lst, still_fro, at0, at1, at2, at3, at4, at5, at6, at7, at8, Option.map_some, a1, i0]
      | some q =>
        rw [hq] at a1
        have i0 : isNon (offD (some q)) = false := rfl
        have hn : cmpD .nin (.tup [.int (v + q.2 - q.1), .int (i : Int)]) (.lst (l.map lvD)) = some (!(l.contains (v + q.2 - q.1, i))) := by
          show (inD (lvD (v + q.2 - q.1, i)) (.lst (l.map lvD))).map (!·) = _
          rw [inD_lv]
          rfl
        have hlen : l.length < 16777216 := by omega
        unfold add1
        cases hc : l.contains (v + q.2 - q.1, i) with
        | true =>
          rw [hc] at hn
          simp only [Bool.false_eq_true, Nat.zero_add, Nat.reduceAdd, Nat.reduceLeDiff, lineB_val, Nat.reduceLT, Nat.zero_lt_succ, Nat.lt_add_one, reduceIte, Nat.one_pos, Nat.lt_irrefl, and_self, and_true, true_and, ne_eq, not_false_eq_true, not_true_eq_false, Nat.reduceEqDiff, Nat.reduceBEq, if_true, if_false, Bool.true_and, Bool.and_true, Bool.false_and, Bool.and_false, Bool.not_true, Bool.not_false, Bool.not_not, decide_true, decide_false, evB, evX, evE, evT, evS, evA, evI, bindT, bindTs, List.getElem?_cons_zero, List.getElem?_cons_succ, List.set_cons_zero, List.set_cons_succ, List.length_cons, List.length_nil, op2_add, op2_sub, cmpD_lt, cmpD_le, cmpD_gt, cmpD_ge, cmpD_eq, cmpD_ne, tru_bl, items_tup, items_lst, items_fro, items_ref, items_rt, still_tup, still_lst, still_fro, at0, at1, at2, at3, at4, at5, at6, at7, at8, Option.map_some, a1, i0]
          unfold offD ib
          simp only [Bool.false_eq_true, Nat.zero_add, Nat.reduceAdd, Nat.reduceLeDiff, lineB_val, Nat.reduceLT, Nat.zero_lt_succ, Nat.lt_add_one, reduceIte, Nat.one_pos, Nat.lt_irrefl, and_self, and_true, true_and, ne_eq, not_false_eq_true, not_true_eq_false, Nat.reduceEqDiff, Nat.reduceBEq, if_true, if_false, Bool.true_and, Bool.and_true, Bool.false_and, Bool.and_false, Bool.not_true, Bool.not_false, Bool.not_not, decide_true, decide_false, evB, evX, evE, evT, evS, evA, evI, bindT, bindTs, List.getElem?_cons_zero, List.getElem?_cons_succ, List.set_cons_zero, List.set_cons_succ, List.length_cons, List.length_nil, op2_add, op2_sub, cmpD_lt, cmpD_le, cmpD_gt, cmpD_ge, cmpD_eq, cmpD_ne, tru_bl, items_tup, items_lst, items_fro, items_ref, items_rt, still_tup, still_lst, still_fro, at0, at1, at2, at3, at4, at5, at6, at7, at8, Option.map_some, hn, hc]
        | false =>
          rw [hc] at hn
          simp only [Bool.false_eq_true, Nat.zero_add, Nat.reduceAdd, Nat.reduceLeDiff, lineB_val, Nat.reduceLT, Nat.zero_lt_succ, Nat.lt_add_one, reduceIte, Nat.one_pos, Nat.lt_irrefl, and_self, and_true, true_and, ne_eq, not_false_eq_true, not_true_eq_false, Nat.reduceEqDiff, Nat.reduceBEq, if_true, if_false, Bool.true_and, Bool.and_true, Bool.false_and, Bool.and_false, Bool.not_true, Bool.not_false, Bool.not_not, decide_true, decide_false, evB, evX, evE, evT, evS, evA, evI, bindT, bindTs, List.getElem?_cons_zero, List.getElem?_cons_succ, List.set_cons_zero, List.set_cons_succ, List.length_cons, List.length_nil, op2_add, op2_sub, cmpD_lt, cmpD_le, cmpD_gt, cmpD_ge, cmpD_eq, cmpD_ne, tru_bl, items_tup, items_lst, items_fro, items_ref, items_rt, still_tup, still_lst, still_fro, at0, at1, at2, at3, at4, at5, at6, at7, at8, Option.map_some, a1, i0]
          unfold offD ib
          simp only [Bool.false_eq_true, Nat.zero_add, Nat.reduceAdd, Nat.reduceLeDiff, lineB_val, Nat.reduceLT, Nat.zero_lt_succ, Nat.lt_add_one, reduceIte, Nat.one_pos, Nat.lt_irrefl, and_self, and_true, true_and, ne_eq, not_false_eq_true, not_true_eq_false, Nat.reduceEqDiff, Nat.reduceBEq, if_true, if_false, Bool.true_and, Bool.and_true, Bool.false_and, Bool.and_false, Bool.not_true, Bool.not_false, Bool.not_not, decide_true, decide_false, evB, evX, evE, evT, evS, evA, evI, bindT, bindTs, List.getElem?_cons_zero, List.getElem?_cons_succ, List.set_cons_zero, List.set_cons_succ, List.length_cons, List.length_nil, op2_add, op2_sub, cmpD_lt, cmpD_le, cmpD_gt, cmpD_ge, cmpD_eq, cmpD_ne, tru_bl, items_tup, items_lst, items_fro, items_ref, items_rt, still_tup, still_lst, still_fro, at0, at1, at2, at3, at4, at5, at6, at7, at8, Option.map_some, hn, hc, List.length_map, hlen, List.map_append]
          rfl
    have hl3 := n3_len (O := O) (m := m) (c := c) v i l
    obtain ⟨t10, e'⟩ := aw_loop3 (v := v) (s0 := s0) (s1 := s1) (s2 := s2) (s3 := s3) (s4 := s4) (s5 := s5) (s11 := s11) j (i + 1) (n3 O v m c l i) (.val (.int (i : Nat))) (by omega) (by omega)
    exact ⟨t10, by rw [List.range'_succ, List.map_cons, loop_cons rfl e, e', List.foldl_cons]⟩
theorem aw_loop4 (ok : TbOk nm nc O) {v : Int} {s1 s2 s3 s4 s5 s11 : Sl} : ∀ (j i : Nat) (l : List Lp) (s9 s10 : Sl), l.length + 2 * j ≤ 90000 → ∃ t9 t10, loopRun (.name 9) (evB (runN T Γ k) Γ L_law_all_ways_4) ((List.range' i j).map fun c => .tup ((List.range nm).map fun n => offD (O m c n))) [.val (tabD nm nc O), s1, s2, s3, s4, s5, .own (l.map lvD), .val (.int (m : Nat)), .val (.int v), s9, s10, s11] g =
    some (.nx, [.val (tabD nm nc O), s1, s2, s3, s4, s5, .own (((List.range' i j).foldl (n4 O nm v m) l).map lvD), .val (.int (m : Nat)), .val (.int v), t9, t10, s11], g)
  | 0, i, l, s9, s10, _ => ⟨s9, s10, rfl⟩
  | j + 1, i, l, s9, s10, hl => by
    have h2 := ok.m2
    obtain ⟨t10, e1⟩ := aw_loop3 (k := k) (g := g) (nm := nm) (O := O) (m := m) (c := i) (v := v) (s0 := .val (tabD nm nc O)) (s1 := s1) (s2 := s2) (s3 := s3) (s4 := s4) (s5 := s5) (s11 := s11) nm 0 l s10 (by omega) (by omega)
    rw [← List.range_eq_range', ← intRow_map] at e1
    have l1 : evE (runN T Γ k) Γ (.len (.e (.var 0))) [.val (tabD nm nc O), s1, s2, s3, s4, s5, .own (l.map lvD), .val (.int (m : Nat)), .val (.int v), .val (.tup ((List.range nm).map fun n => offD (O m i n))), s10, s11] g = some (.int (nm : Int), g) := by
      rw [tabD_row]
      simp only [Bool.false_eq_true, Nat.zero_add, Nat.reduceAdd, Nat.reduceLeDiff, lineB_val, Nat.reduceLT, Nat.zero_lt_succ, Nat.lt_add_one, reduceIte, Nat.one_pos, Nat.lt_irrefl, and_self, and_true, true_and, ne_eq, not_false_eq_true, not_true_eq_false, Nat.reduceEqDiff, Nat.reduceBEq, if_true, if_false, Bool.true_and, Bool.and_true, Bool.false_and, Bool.and_false, Bool.not_true, Bool.not_false, Bool.not_not, decide_true, decide_false, evB, evX, evE, evT, evS, evA, evI, bindT, bindTs, List.getElem?_cons_zero, List.getElem?_cons_succ, List.set_cons_zero, List.set_cons_succ, List.length_cons, List.length_nil, op2_add, op2_sub, cmpD_lt, cmpD_le, cmpD_gt, cmpD_ge, cmpD_eq, cmpD_ne, tru_bl, items_tup, items_lst, items_fro, items_ref, items_rt, still_tup, still_lst, still_fro, at0, at1, at2, at3, at4, at5, at6, at7, at8, Option.map_some, List.length_map, List.length_range]
    have e : evB (runN T Γ k) Γ L_law_all_ways_4 [.val (tabD nm nc O), s1, s2, s3, s4, s5, .own (l.map lvD), .val (.int (m : Nat)), .val (.int v), .val (.tup ((List.range nm).map fun n => offD (O m i n))), s10, s11] g = some (.nx, [.val (tabD nm nc O), s1, s2, s3, s4, s5, .own ((n4 O nm v m l i).map lvD), .val (.int (m : Nat)), .val (.int v), .val (.tup ((List.range nm).map fun n => offD (O m i n))), t10, s11], g) := by
      unfold L_law_all_ways_4
      exact (evB_cons (evX_loop (evI_range1 l1 (by omega)) e1)).trans evB_nil
    have hl4 := n4_len (O := O) (nm := nm) (m := m) v i l
    obtain ⟨t9, t10', e'⟩ := aw_loop4 ok (v := v) (s1 := s1) (s2 := s2) (s3 := s3) (s4 := s4) (s5 := s5) (s11 := s11) j (i + 1) (n4 O nm v m l i) (.val (.tup ((List.range nm).map fun n => offD (O m i n)))) t10 (by omega)
    exact ⟨t9, t10', by rw [List.range'_succ, List.map_cons, loop_cons rfl e]; exact e'⟩
theorem aw_loop5 (ok : TbOk nm nc O) {s1 s2 s3 s4 s5 s11 : Sl} : ∀ (xs : List Lp) (l : List Lp) (s7 s8 s9 s10 : Sl), (∀ x ∈ xs, x.2 < nm) → l.length + 6 * xs.length ≤ 80000 → ∃ t7 t8 t9 t10, loopRun (.tup [.name 8, .name 7]) (evB (runN T Γ k) Γ L_law_all_ways_5) (xs.map lvD) [.val (tabD nm nc O), s1, s2, s3, s4, s5, .own (l.map lvD), s7, s8, s9, s10, s11] g =
    some (.nx, [.val (tabD nm nc O), s1, s2, s3, s4, s5, .own ((xs.foldl (n5 O nm nc) l).map lvD), t7, t8, t9, t10, s11], g)
  | [], l, s7, s8, s9, s10, _, _ => ⟨s7, s8, s9, s10, rfl⟩
  | x :: xs, l, s7, s8, s9, s10, hx, hl => by
    rw [List.length_cons] at hl
    have hm := hx x List.mem_cons_self
    have h2 := ok.m2
    have h3 := ok.c3
    obtain ⟨t9, t10, e1⟩ := aw_loop4 (k := k) (g := g) ok (m := x.2) (v := x.1) (s1 := s1) (s2 := s2) (s3 := s3) (s4 := s4) (s5 := s5) (s11 := s11) nc 0 l s9 s10 (by omega)
    rw [← List.range_eq_range'] at e1
    have a1 : evS (runN T Γ k) Γ (.e (.ix (.e (.var 0)) (.var 7))) [.val (tabD nm nc O), s1, s2, s3, s4, s5, .own (l.map lvD), .val (.int (x.2 : Nat)), .val (.int x.1), s9, s10, s11] g = some (rowD nm nc O x.2, g) := by
      rw [tabD_row]
      simp only [Bool.false_eq_true, Nat.zero_add, Nat.reduceAdd, Nat.reduceLeDiff, lineB_val, Nat.reduceLT, Nat.zero_lt_succ, Nat.lt_add_one, reduceIte, Nat.one_pos, Nat.lt_irrefl, and_self, and_true, true_and, ne_eq, not_false_eq_true, not_true_eq_false, Nat.reduceEqDiff, Nat.reduceBEq, if_true, if_false, Bool.true_and, Bool.and_true, Bool.false_and, Bool.and_false, Bool.not_true, Bool.not_false, Bool.not_not, decide_true, decide_false, evB, evX, evE, evT, evS, evA, evI, bindT, bindTs, List.getElem?_cons_zero, List.getElem?_cons_succ, List.set_cons_zero, List.set_cons_succ, List.length_cons, List.length_nil, op2_add, op2_sub, cmpD_lt, cmpD_le, cmpD_gt, cmpD_ge, cmpD_eq, cmpD_ne, tru_bl, items_tup, items_lst, items_fro, items_ref, items_rt, still_tup, still_lst, still_fro, at0, at1, at2, at3, at4, at5, at6, at7, at8, Option.map_some, atI_nat (range_map_at (rowD nm nc O) hm)]
    have e : evB (runN T Γ k) Γ L_law_all_ways_5 [.val (tabD nm nc O), s1, s2, s3, s4, s5, .own (l.map lvD), .val (.int (x.2 : Nat)), .val (.int x.1), s9, s10, s11] g = some (.nx, [.val (tabD nm nc O), s1, s2, s3, s4, s5, .own ((n5 O nm nc l x).map lvD), .val (.int (x.2 : Nat)), .val (.int x.1), t9, t10, s11], g) := by
      unfold L_law_all_ways_5
      exact (evB_cons (evX_loop (evI_seq a1 rfl) e1)).trans evB_nil
    have hl5 := n5_len (O := O) (nm := nm) (nc := nc) x l
    have h6 : nm * nc ≤ 6 := Nat.mul_le_mul h2 h3
    obtain ⟨t7, t8, t9', t10', e'⟩ := aw_loop5 ok (s1 := s1) (s2 := s2) (s3 := s3) (s4 := s4) (s5 := s5) (s11 := s11) xs (n5 O nm nc l x) (.val (.int (x.2 : Nat))) (.val (.int x.1)) t9 t10 (fun y hy => hx y (List.mem_cons_of_mem _ hy)) (by omega)
    exact ⟨t7, t8, t9', t10', by rw [List.map_cons, loop_cons rfl e]; exact e'⟩
theorem aw_loop6 (ok : TbOk nm nc O) {wide : Int} {s1 s2 s3 s11 : Sl} : ∀ (ds : List D) (j : Nat) (s5 s6 s7 s8 s9 s10 : Sl), j + ds.length ≤ 4 → ∃ t5 t6 t7 t8 t9 t10, loopRun (.name 5) (evB (runN T Γ k) Γ L_law_all_ways_6) ds [.val (tabD nm nc O), s1, s2, s3, .val (.lst ((Lv O nm nc wide j).map lvD)), s5, s6, s7, s8, s9, s10, s11] g =
    some (.nx, [.val (tabD nm nc O), s1, s2, s3, .val (.lst ((Lv O nm nc wide (j + ds.length)).map lvD)), t5, t6, t7, t8, t9, t10, s11], g)
  | [], j, s5, s6, s7, s8, s9, s10, _ => ⟨s5, s6, s7, s8, s9, s10, rfl⟩
  | d :: ds, j, s5, s6, s7, s8, s9, s10, hj => by
    rw [List.length_cons] at hj
    have lo := lvOk ok (wide := wide) j
    have hlen : (Lv O nm nc wide j).length ≤ 2 * 6 ^ 4 := Nat.le_trans lo.len (Nat.mul_le_mul_left _ (Nat.pow_le_pow_right (by decide) (by omega)))
    obtain ⟨t7, t8, t9, t10, e1⟩ := aw_loop5 (k := k) (g := g) ok (s1 := s1) (s2 := s2) (s3 := s3) (s4 := .val (.lst ((Lv O nm nc wide j).map lvD))) (s5 := .val d) (s11 := s11) (Lv O nm nc wide j) [] s7 s8 s9 s10 (fun x hx => (lo.le x hx).1) (by rw [List.length_nil]; omega)
    have x2 : evX (runN T Γ k) Γ (.own 6 (.lst .nil)) [.val (tabD nm nc O), s1, s2, s3, .val (.lst ((Lv O nm nc wide j).map lvD)), .val d, s6, s7, s8, s9, s10, s11] g = some (.nx, [.val (tabD nm nc O), s1, s2, s3, .val (.lst ((Lv O nm nc wide j).map lvD)), .val d, .own (([] : List Lp).map lvD), s7, s8, s9, s10, s11], g) := by
      simp only [Bool.false_eq_true, Nat.zero_add, Nat.reduceAdd, Nat.reduceLeDiff, lineB_val, Nat.reduceLT, Nat.zero_lt_succ, Nat.lt_add_one, reduceIte, Nat.one_pos, Nat.lt_irrefl, and_self, and_true, true_and, ne_eq, not_false_eq_true, not_true_eq_false, Nat.reduceEqDiff, Nat.reduceBEq, if_true, if_false, Bool.true_and, Bool.and_true, Bool.false_and, Bool.and_false, Bool.not_true, Bool.not_false, Bool.not_not, decide_true, decide_false, evB, evX, evE, evT, evS, evA, evI, bindT, bindTs, List.getElem?_cons_zero, List.getElem?_cons_succ, List.set_cons_zero, List.set_cons_succ, List.length_cons, List.length_nil, op2_add, op2_sub, cmpD_lt, cmpD_le, cmpD_gt, cmpD_ge, cmpD_eq, cmpD_ne, tru_bl, items_tup, items_lst, items_fro, items_ref, items_rt, still_tup, still_lst, still_fro, at0, at1, at2, at3, at4, at5, at6, at7, at8, Option.map_some, freshL, List.map_nil]
    have e : evB (runN T Γ k) Γ L_law_all_ways_6 [.val (tabD nm nc O), s1, s2, s3, .val (.lst ((Lv O nm nc wide j).map lvD)), .val d, s6, s7, s8, s9, s10, s11] g = some (.nx, [.val (tabD nm nc O), s1, s2, s3, .val (.lst ((Lv O nm nc wide (j + 1)).map lvD)), .val d, .val (.lst ((Lv O nm nc wide (j + 1)).map lvD)), t7, t8, t9, t10, s11], g) := by
      unfold L_law_all_ways_6
      rw [evB_cons x2, evB_cons (evX_loop (evI_seq (x := .lst ((Lv O nm nc wide j).map lvD)) (by simp only [Bool.false_eq_true, Nat.zero_add, Nat.reduceAdd, Nat.reduceLeDiff, lineB_val, Nat.reduceLT, Nat.zero_lt_succ, Nat.lt_add_one, reduceIte, Nat.one_pos, Nat.lt_irrefl, and_self, and_true, true_and, ne_eq, not_false_eq_true, not_true_eq_false, Nat.reduceEqDiff, Nat.reduceBEq, if_true, if_false, Bool.true_and, Bool.and_true, Bool.false_and, Bool.and_false, Bool.not_true, Bool.not_false, Bool.not_not, decide_true, decide_false, evB, evX, evE, evT, evS, evA, evI, bindT, bindTs, List.getElem?_cons_zero, List.getElem?_cons_succ, List.set_cons_zero, List.set_cons_succ, List.length_cons, List.length_nil, op2_add, op2_sub, cmpD_lt, cmpD_le, cmpD_gt, cmpD_ge, cmpD_eq, cmpD_ne, tru_bl, items_tup, items_lst, items_fro, items_ref, items_rt, still_tup, still_lst, still_fro, at0, at1, at2, at3, at4, at5, at6, at7, at8, Option.map_some]) rfl) e1)]
      simp only [Bool.false_eq_true, Nat.zero_add, Nat.reduceAdd, Nat.reduceLeDiff, lineB_val, Nat.reduceLT, Nat.zero_lt_succ, Nat.lt_add_one, reduceIte, Nat.one_pos, Nat.lt_irrefl, and_self, and_true, true_and, ne_eq, not_false_eq_true, not_true_eq_false, Nat.reduceEqDiff, Nat.reduceBEq, if_true, if_false, Bool.true_and, Bool.and_true, Bool.false_and, Bool.and_false, Bool.not_true, Bool.not_false, Bool.not_not, decide_true, decide_false, evB, evX, evE, evT, evS, evA, evI, bindT, bindTs, List.getElem?_cons_zero, List.getElem?_cons_succ, List.set_cons_zero, List.set_cons_succ, List.length_cons, List.length_nil, op2_add, op2_sub, cmpD_lt, cmpD_le, cmpD_gt, cmpD_ge, cmpD_eq, cmpD_ne, tru_bl, items_tup, items_lst, items_fro, items_ref, items_rt, still_tup, still_lst, still_fro, at0, at1, at2, at3, at4, at5, at6, at7, at8, Option.map_some]
      rfl
    obtain ⟨t5, t6, t7', t8', t9', t10', e'⟩ := aw_loop6 ok (wide := wide) (s1 := s1) (s2 := s2) (s3 := s3) (s11 := s11) ds (j + 1) (.val d) (.val (.lst ((Lv O nm nc wide (j + 1)).map lvD))) t7 t8 t9 t10 (by omega)
    exact ⟨t5, t6, t7', t8', t9', t10', by rw [loop_cons rfl e, e', List.length_cons, show j + 1 + ds.length = j + (ds.length + 1) by omega]⟩
end
end K48

set_option linter.all false
set_option maxRecDepth 100000
set_option Elab.async false
set_option exponentiation.threshold 100000
namespace K48
open DP
theorem maxI_of {xs : List Int} {v : Int} (h1 : v ∈ xs) (h2 : ∀ u ∈ xs, u ≤ v) : maxI xs = some v := by
  obtain ⟨u, e, h⟩ := maxI_mx (List.ne_nil_of_mem h1)
  rw [e, h.eq (v := v) ⟨h1, h2⟩]
section
variable {k N m c n nm nc : Nat} {g : Gs} {O : Tb}
theorem aw_max {wide : Int} {j : Nat} {rw_ : List Lp} {v : Int} (h1 : (v, m) ∈ rw_) (h2 : ∀ x ∈ rw_, x.1 ≤ v) (hl : rw_.length < 10000) {s0 s1 s2 s3 s4 s5 s6 s7 s8 s10 : Sl} :
    evE (runN T Γ k) Γ E_law_all_ways_11 [s0, s1, s2, s3, s4, s5, s6, s7, s8, .val (.lst (rw_.map lvD)), s10, .un] g = some (.int v, g) := by
  have lc : lcRun [11] (.name 11) (fun _ g => some (true, g)) (evE (runN T Γ k) Γ E_law_all_ways_10) [s0, s1, s2, s3, s4, s5, s6, s7, s8, .val (.lst (rw_.map lvD)), s10, .un] (rw_.map lvD) g = some (rw_.map fun x => .int x.1, g) := by
    refine lc_mapm _ _ _ fun x hx => ⟨[s0, s1, s2, s3, s4, s5, s6, s7, s8, .val (.lst (rw_.map lvD)), s10, .val (lvD x)], rfl, ?_⟩
    unfold E_law_all_ways_10 lvD ipr
    simp only [Bool.false_eq_true, Nat.zero_add, Nat.reduceAdd, Nat.reduceLeDiff, lineB_val, Nat.reduceLT, Nat.zero_lt_succ, Nat.lt_add_one, reduceIte, Nat.one_pos, Nat.lt_irrefl, and_self, and_true, true_and, ne_eq, not_false_eq_true, not_true_eq_false, Nat.reduceEqDiff, Nat.reduceBEq, if_true, if_false, Bool.true_and, Bool.and_true, Bool.false_and, Bool.and_false, Bool.not_true, Bool.not_false, Bool.not_not, decide_true, decide_false, evB, evX, evE, evT, evS, evA, evI, bindT, bindTs, List.getElem?_cons_zero, List.getElem?_cons_succ, List.set_cons_zero, List.set_cons_succ, List.length_cons, List.length_nil, op2_add, op2_sub, cmpD_lt, cmpD_le, cmpD_gt, cmpD_ge, cmpD_eq, cmpD_ne, tru_bl, items_tup, items_lst, items_fro, items_ref, items_rt, still_tup, still_lst, still_fro, at0, at1, at2, at3, at4, at5, at6, at7, at8, Option.map_some]
  have e1 := evE_lcA (own := [11]) (t := .name 11) (elt := E_law_all_ways_10) (C := runN T Γ k) (Γ := Γ) (evI_seq (a := .e (.var 9)) (E := [s0, s1, s2, s3, s4, s5, s6, s7, s8, .val (.lst (rw_.map lvD)), s10, .un]) (g := g) (x := .lst (rw_.map lvD)) (by simp only [Bool.false_eq_true, Nat.zero_add, Nat.reduceAdd, Nat.reduceLeDiff, lineB_val, Nat.reduceLT, Nat.zero_lt_succ, Nat.lt_add_one, reduceIte, Nat.one_pos, Nat.lt_irrefl, and_self, and_true, true_and, ne_eq, not_false_eq_true, not_true_eq_false, Nat.reduceEqDiff, Nat.reduceBEq, if_true, if_false, Bool.true_and, Bool.and_true, Bool.false_and, Bool.and_false, Bool.not_true, Bool.not_false, Bool.not_not, decide_true, decide_false, evB, evX, evE, evT, evS, evA, evI, bindT, bindTs, List.getElem?_cons_zero, List.getElem?_cons_succ, List.set_cons_zero, List.set_cons_succ, List.length_cons, List.length_nil, op2_add, op2_sub, cmpD_lt, cmpD_le, cmpD_gt, cmpD_ge, cmpD_eq, cmpD_ne, tru_bl, items_tup, items_lst, items_fro, items_ref, items_rt, still_tup, still_lst, still_fro, at0, at1, at2, at3, at4, at5, at6, at7, at8, Option.map_some]) rfl) (by rw [List.length_map, lineB_val]; omega) lc
  have i1 : intsOf (rw_.map fun x => .int x.1) = some (rw_.map fun x => x.1) := by
    have := intsOf_map (rw_.map fun x => x.1)
    rwa [List.map_map] at this
  have m1 : maxI (rw_.map fun x => x.1) = some v := maxI_of (List.mem_map.mpr ⟨_, h1, rfl⟩) fun u hu => by
    obtain ⟨x, hx, rfl⟩ := List.mem_map.mp hu
    exact h2 x hx
  unfold E_law_all_ways_11
  rw [evE, evS, e1]
  simp only [i1, m1]
theorem run_all_ways (hk : 0 < k) (ok : TbOk nm nc O) {wide : Int} {j : Nat} (hj : j ≤ 4) : runN T Γ k f_law_all_ways [tabD nm nc O, .int wide, .int j] g = some (.lst (liD nm (Wj nm nc O wide j)), g) := by
  obtain ⟨k, rfl⟩ : ∃ k', k = k' + 1 := ⟨k - 1, by omega⟩
  rw [run_eq T_law_all_ways rfl]
  show res (evB _ _ B_law_all_ways [.val (tabD nm nc O), .val (.int wide), .val (.int j), .un, .un, .un, .un, .un, .un, .un, .un, .un] g) = _
  have hm2 := ok.m2
  have lenD : ∀ l : En, evE (runN T Γ k) Γ (.len (.e (.var 0))) (.val (tabD nm nc O) :: l) g = some (.int (nm : Int), g) := fun l => by
    rw [tabD_row]
    simp only [Bool.false_eq_true, Nat.zero_add, Nat.reduceAdd, Nat.reduceLeDiff, lineB_val, Nat.reduceLT, Nat.zero_lt_succ, Nat.lt_add_one, reduceIte, Nat.one_pos, Nat.lt_irrefl, and_self, and_true, true_and, ne_eq, not_false_eq_true, not_true_eq_false, Nat.reduceEqDiff, Nat.reduceBEq, if_true, if_false, Bool.true_and, Bool.and_true, Bool.false_and, Bool.and_false, Bool.not_true, Bool.not_false, Bool.not_not, decide_true, decide_false, evB, evX, evE, evT, evS, evA, evI, bindT, bindTs, List.getElem?_cons_zero, List.getElem?_cons_succ, List.set_cons_zero, List.set_cons_succ, List.length_cons, List.length_nil, op2_add, op2_sub, cmpD_lt, cmpD_le, cmpD_gt, cmpD_ge, cmpD_eq, cmpD_ne, tru_bl, items_tup, items_lst, items_fro, items_ref, items_rt, still_tup, still_lst, still_fro, at0, at1, at2, at3, at4, at5, at6, at7, at8, Option.map_some, List.length_map, List.length_range]
  have c1 : ∀ {s3 s4 s5 s6 s7 s8 s9 s10 s11}, lcRun [7] (.name 7) (fun _ g => some (true, g)) (evE (runN T Γ k) Γ E_law_all_ways_1) [.val (tabD nm nc O), .val (.int wide), .val (.int j), s3, s4, s5, s6, s7, s8, s9, s10, s11] (intRow 0 nm) g = some ((List.range nm).map fun m => .lst ([(wide, m)].map lvD), g) := by
    intro s3 s4 s5 s6 s7 s8 s9 s10 s11
    rw [intRow_map]
    refine lc_mapm _ _ _ fun m hm => ⟨[.val (tabD nm nc O), .val (.int wide), .val (.int j), s3, s4, s5, s6, .val (.int (m : Nat)), s8, s9, s10, s11], rfl, ?_⟩
    unfold E_law_all_ways_1
    simp only [Bool.false_eq_true, Nat.zero_add, Nat.reduceAdd, Nat.reduceLeDiff, lineB_val, Nat.reduceLT, Nat.zero_lt_succ, Nat.lt_add_one, reduceIte, Nat.one_pos, Nat.lt_irrefl, and_self, and_true, true_and, ne_eq, not_false_eq_true, not_true_eq_false, Nat.reduceEqDiff, Nat.reduceBEq, if_true, if_false, Bool.true_and, Bool.and_true, Bool.false_and, Bool.and_false, Bool.not_true, Bool.not_false, Bool.not_not, decide_true, decide_false, evB, evX, evE, evT, evS, evA, evI, bindT, bindTs, List.getElem?_cons_zero, List.getElem?_cons_succ, List.set_cons_zero, List.set_cons_succ, List.length_cons, List.length_nil, op2_add, op2_sub, cmpD_lt, cmpD_le, cmpD_gt, cmpD_ge, cmpD_eq, cmpD_ne, tru_bl, items_tup, items_lst, items_fro, items_ref, items_rt, still_tup, still_lst, still_fro, at0, at1, at2, at3, at4, at5, at6, at7, at8, Option.map_some]
    rfl
  have c2 : ∀ {s3 s4 s5 s6 s7 s8 s9 s10 s11}, lcRun [7] (.name 7) (fun _ g => some (true, g)) (evE (runN T Γ k) Γ E_law_all_ways_2) [.val (tabD nm nc O), .val (.int wide), .val (.int j), s3, s4, s5, s6, s7, s8, s9, s10, s11] (intRow 0 nm) g = some ((Lv O nm nc wide 0).map lvD, g) := by
    intro s3 s4 s5 s6 s7 s8 s9 s10 s11
    rw [intRow_map, Lv, List.map_map]
    refine lc_mapm _ _ _ fun m hm => ⟨[.val (tabD nm nc O), .val (.int wide), .val (.int j), s3, s4, s5, s6, .val (.int (m : Nat)), s8, s9, s10, s11], rfl, ?_⟩
    unfold E_law_all_ways_2
    simp only [Bool.false_eq_true, Nat.zero_add, Nat.reduceAdd, Nat.reduceLeDiff, lineB_val, Nat.reduceLT, Nat.zero_lt_succ, Nat.lt_add_one, reduceIte, Nat.one_pos, Nat.lt_irrefl, and_self, and_true, true_and, ne_eq, not_false_eq_true, not_true_eq_false, Nat.reduceEqDiff, Nat.reduceBEq, if_true, if_false, Bool.true_and, Bool.and_true, Bool.false_and, Bool.and_false, Bool.not_true, Bool.not_false, Bool.not_not, decide_true, decide_false, evB, evX, evE, evT, evS, evA, evI, bindT, bindTs, List.getElem?_cons_zero, List.getElem?_cons_succ, List.set_cons_zero, List.set_cons_succ, List.length_cons, List.length_nil, op2_add, op2_sub, cmpD_lt, cmpD_le, cmpD_gt, cmpD_ge, cmpD_eq, cmpD_ne, tru_bl, items_tup, items_lst, items_fro, items_ref, items_rt, still_tup, still_lst, still_fro, at0, at1, at2, at3, at4, at5, at6, at7, at8, Option.map_some]
    rfl
  have lo := lvOk ok (wide := wide) j
  have hlen : (Lv O nm nc wide j).length ≤ 2 * 6 ^ 4 := Nat.le_trans lo.len (Nat.mul_le_mul_left _ (Nat.pow_le_pow_right (by decide) (by omega)))
  have f1 : evE (runN T Γ k) Γ (.lcA [7] (.name 7) (.range1 (.len (.e (.var 0)))) E_law_all_ways_1) [.val (tabD nm nc O), .val (.int wide), .val (.int j), .un, .un, .un, .un, .un, .un, .un, .un, .un] g = _ := evE_lcA (evI_range1 (lenD _) (by omega)) (by rw [intRow_length, lineB_val]; omega) c1
  have f2 : evE (runN T Γ k) Γ (.lcA [7] (.name 7) (.range1 (.len (.e (.var 0)))) E_law_all_ways_2) [.val (tabD nm nc O), .val (.int wide), .val (.int j), .val (.lst ((List.range nm).map fun m => .lst ([(wide, m)].map lvD))), .un, .un, .un, .un, .un, .un, .un, .un] g = _ := evE_lcA (evI_range1 (lenD _) (by omega)) (by rw [intRow_length, lineB_val]; omega) c2
  obtain ⟨t5, t6, t7, t8, t9, t10, lp⟩ := aw_loop6 (k := k) (g := g) ok (wide := wide) (s1 := .val (.int wide)) (s2 := .val (.int j)) (s3 := .val (.lst ((List.range nm).map fun m => .lst ([(wide, m)].map lvD)))) (s11 := .un) (intRow 0 j) 0 .un .un .un .un .un .un (by rw [intRow_length]; omega)
  rw [intRow_length, Nat.zero_add] at lp
  have fin : ∀ (Rw : Nat → List Lp), (∀ m, m < nm → (Wj nm nc O wide j m, m) ∈ Rw m) → (∀ m, m < nm → ∀ x ∈ Rw m, x.1 ≤ Wj nm nc O wide j m) → (∀ m, (Rw m).length < 10000) →
      evB (runN T Γ k) Γ (.cons (.ret (.lcA [9] (.name 9) (.seq (.e (.var 3))) E_law_all_ways_11)) .nil) [.val (tabD nm nc O), .val (.int wide), .val (.int j), .val (.lst ((List.range nm).map fun m => .lst ((Rw m).map lvD))), .val (.lst ((Lv O nm nc wide j).map lvD)), t5, t6, t7, t8, t9, t10, .un] g = some (.rt (.lst (liD nm (Wj nm nc O wide j))), [.val (tabD nm nc O), .val (.int wide), .val (.int j), .val (.lst ((List.range nm).map fun m => .lst ((Rw m).map lvD))), .val (.lst ((Lv O nm nc wide j).map lvD)), t5, t6, t7, t8, t9, t10, .un], g) := by
    intro Rw h1 h2 h3
    refine evB_ret (evE_lcA (evI_seq (g1 := g) (x := .lst ((List.range nm).map fun m => .lst ((Rw m).map lvD))) (by simp only [Bool.false_eq_true, Nat.zero_add, Nat.reduceAdd, Nat.reduceLeDiff, lineB_val, Nat.reduceLT, Nat.zero_lt_succ, Nat.lt_add_one, reduceIte, Nat.one_pos, Nat.lt_irrefl, and_self, and_true, true_and, ne_eq, not_false_eq_true, not_true_eq_false, Nat.reduceEqDiff, Nat.reduceBEq, if_true, if_false, Bool.true_and, Bool.and_true, Bool.false_and, Bool.and_false, Bool.not_true, Bool.not_false, Bool.not_not, decide_true, decide_false, evB, evX, evE, evT, evS, evA, evI, bindT, bindTs, List.getElem?_cons_zero, List.getElem?_cons_succ, List.set_cons_zero, List.set_cons_succ, List.length_cons, List.length_nil, op2_add, op2_sub, cmpD_lt, cmpD_le, cmpD_gt, cmpD_ge, cmpD_eq, cmpD_ne, tru_bl, items_tup, items_lst, items_fro, items_ref, items_rt, still_tup, still_lst, still_fro, at0, at1, at2, at3, at4, at5, at6, at7, at8, Option.map_some]) rfl) (by rw [List.length_map, List.length_range, lineB_val]; omega) ?_)
    exact lc_mapm _ _ _ fun m hm => ⟨_, rfl, aw_max (wide := wide) (j := j) (h1 m (List.mem_range.mp hm)) (h2 m (List.mem_range.mp hm)) (h3 m)⟩
  unfold B_law_all_ways
  rw [evB_cons (E1 := [.val (tabD nm nc O), .val (.int wide), .val (.int j), .val (.lst ((List.range nm).map fun m => .lst ([(wide, m)].map lvD))), .un, .un, .un, .un, .un, .un, .un, .un]) (evX_set f1 (by simp)),
    evB_cons (E1 := [.val (tabD nm nc O), .val (.int wide), .val (.int j), .val (.lst ((List.range nm).map fun m => .lst ([(wide, m)].map lvD))), .val (.lst ((Lv O nm nc wide 0).map lvD)), .un, .un, .un, .un, .un, .un, .un]) (evX_set f2 (by simp)),
    evB_cons (evX_loop (evI_range1 (n := j) (by simp only [Bool.false_eq_true, Nat.zero_add, Nat.reduceAdd, Nat.reduceLeDiff, lineB_val, Nat.reduceLT, Nat.zero_lt_succ, Nat.lt_add_one, reduceIte, Nat.one_pos, Nat.lt_irrefl, and_self, and_true, true_and, ne_eq, not_false_eq_true, not_true_eq_false, Nat.reduceEqDiff, Nat.reduceBEq, if_true, if_false, Bool.true_and, Bool.and_true, Bool.false_and, Bool.and_false, Bool.not_true, Bool.not_false, Bool.not_not, decide_true, decide_false, evB, evX, evE, evT, evS, evA, evI, bindT, bindTs, List.getElem?_cons_zero, List.getElem?_cons_succ, List.set_cons_zero, List.set_cons_succ, List.length_cons, List.length_nil, op2_add, op2_sub, cmpD_lt, cmpD_le, cmpD_gt, cmpD_ge, cmpD_eq, cmpD_ne, tru_bl, items_tup, items_lst, items_fro, items_ref, items_rt, still_tup, still_lst, still_fro, at0, at1, at2, at3, at4, at5, at6, at7, at8, Option.map_some]) (by omega)) lp)]
  by_cases hz : 0 < j
  · have tt : evT (runN T Γ k) Γ (.e (.cmp .gt (.e (.var 2)) (.e (.int 0)))) [.val (tabD nm nc O), .val (.int wide), .val (.int j), .val (.lst ((List.range nm).map fun m => .lst ([(wide, m)].map lvD))), .val (.lst ((Lv O nm nc wide j).map lvD)), t5, t6, t7, t8, t9, t10, .un] g = some (true, g) := by
      have : (0 : Int) < (j : Int) := by omega
      simp only [Bool.false_eq_true, Nat.zero_add, Nat.reduceAdd, Nat.reduceLeDiff, lineB_val, Nat.reduceLT, Nat.zero_lt_succ, Nat.lt_add_one, reduceIte, Nat.one_pos, Nat.lt_irrefl, and_self, and_true, true_and, ne_eq, not_false_eq_true, not_true_eq_false, Nat.reduceEqDiff, Nat.reduceBEq, if_true, if_false, Bool.true_and, Bool.and_true, Bool.false_and, Bool.and_false, Bool.not_true, Bool.not_false, Bool.not_not, decide_true, decide_false, evB, evX, evE, evT, evS, evA, evI, bindT, bindTs, List.getElem?_cons_zero, List.getElem?_cons_succ, List.set_cons_zero, List.set_cons_succ, List.length_cons, List.length_nil, op2_add, op2_sub, cmpD_lt, cmpD_le, cmpD_gt, cmpD_ge, cmpD_eq, cmpD_ne, tru_bl, items_tup, items_lst, items_fro, items_ref, items_rt, still_tup, still_lst, still_fro, at0, at1, at2, at3, at4, at5, at6, at7, at8, Option.map_some, this]
    have c9 : lcRun [7] (.name 7) (fun _ g => some (true, g)) (evE (runN T Γ k) Γ E_law_all_ways_9) [.val (tabD nm nc O), .val (.int wide), .val (.int j), .val (.lst ((List.range nm).map fun m => .lst ([(wide, m)].map lvD))), .val (.lst ((Lv O nm nc wide j).map lvD)), t5, t6, t7, t8, t9, t10, .un] (intRow 0 nm) g = some ((List.range nm).map fun m => .lst (((Lv O nm nc wide j).filter fun x => x.2 == m).map lvD), g) := by
      rw [intRow_map]
      refine lc_mapm _ _ _ fun m hm => ⟨[.val (tabD nm nc O), .val (.int wide), .val (.int j), .val (.lst ((List.range nm).map fun m => .lst ([(wide, m)].map lvD))), .val (.lst ((Lv O nm nc wide j).map lvD)), t5, t6, .val (.int (m : Nat)), t8, t9, t10, .un], rfl, ?_⟩
      unfold E_law_all_ways_9
      refine evE_lc (evI_seq (g1 := g) (x := .lst ((Lv O nm nc wide j).map lvD)) (by simp only [Bool.false_eq_true, Nat.zero_add, Nat.reduceAdd, Nat.reduceLeDiff, lineB_val, Nat.reduceLT, Nat.zero_lt_succ, Nat.lt_add_one, reduceIte, Nat.one_pos, Nat.lt_irrefl, and_self, and_true, true_and, ne_eq, not_false_eq_true, not_true_eq_false, Nat.reduceEqDiff, Nat.reduceBEq, if_true, if_false, Bool.true_and, Bool.and_true, Bool.false_and, Bool.and_false, Bool.not_true, Bool.not_false, Bool.not_not, decide_true, decide_false, evB, evX, evE, evT, evS, evA, evI, bindT, bindTs, List.getElem?_cons_zero, List.getElem?_cons_succ, List.set_cons_zero, List.set_cons_succ, List.length_cons, List.length_nil, op2_add, op2_sub, cmpD_lt, cmpD_le, cmpD_gt, cmpD_ge, cmpD_eq, cmpD_ne, tru_bl, items_tup, items_lst, items_fro, items_ref, items_rt, still_tup, still_lst, still_fro, at0, at1, at2, at3, at4, at5, at6, at7, at8, Option.map_some]) rfl) (by rw [List.length_map, lineB_val]; omega) ?_
      refine lc_filterm _ _ (fun x : Lp => x.2 == m) _ fun x hx => ⟨[.val (tabD nm nc O), .val (.int wide), .val (.int j), .val (.lst ((List.range nm).map fun m => .lst ([(wide, m)].map lvD))), .val (.lst ((Lv O nm nc wide j).map lvD)), t5, t6, .val (.int (m : Nat)), t8, t9, t10, .val (lvD x)], rfl, ?_, fun _ => ?_⟩
      · have : (((x.2 : Nat) : Int) == (m : Int)) = (x.2 == m) := by rw [Bool.eq_iff_iff]; simp only [beq_iff_eq]; omega
        unfold K_law_all_ways_7 lvD ipr
        simp only [Bool.false_eq_true, Nat.zero_add, Nat.reduceAdd, Nat.reduceLeDiff, lineB_val, Nat.reduceLT, Nat.zero_lt_succ, Nat.lt_add_one, reduceIte, Nat.one_pos, Nat.lt_irrefl, and_self, and_true, true_and, ne_eq, not_false_eq_true, not_true_eq_false, Nat.reduceEqDiff, Nat.reduceBEq, if_true, if_false, Bool.true_and, Bool.and_true, Bool.false_and, Bool.and_false, Bool.not_true, Bool.not_false, Bool.not_not, decide_true, decide_false, evB, evX, evE, evT, evS, evA, evI, bindT, bindTs, List.getElem?_cons_zero, List.getElem?_cons_succ, List.set_cons_zero, List.set_cons_succ, List.length_cons, List.length_nil, op2_add, op2_sub, cmpD_lt, cmpD_le, cmpD_gt, cmpD_ge, cmpD_eq, cmpD_ne, tru_bl, items_tup, items_lst, items_fro, items_ref, items_rt, still_tup, still_lst, still_fro, at0, at1, at2, at3, at4, at5, at6, at7, at8, Option.map_some, this]
      · unfold E_law_all_ways_8
        simp only [Bool.false_eq_true, Nat.zero_add, Nat.reduceAdd, Nat.reduceLeDiff, lineB_val, Nat.reduceLT, Nat.zero_lt_succ, Nat.lt_add_one, reduceIte, Nat.one_pos, Nat.lt_irrefl, and_self, and_true, true_and, ne_eq, not_false_eq_true, not_true_eq_false, Nat.reduceEqDiff, Nat.reduceBEq, if_true, if_false, Bool.true_and, Bool.and_true, Bool.false_and, Bool.and_false, Bool.not_true, Bool.not_false, Bool.not_not, decide_true, decide_false, evB, evX, evE, evT, evS, evA, evI, bindT, bindTs, List.getElem?_cons_zero, List.getElem?_cons_succ, List.set_cons_zero, List.set_cons_succ, List.length_cons, List.length_nil, op2_add, op2_sub, cmpD_lt, cmpD_le, cmpD_gt, cmpD_ge, cmpD_eq, cmpD_ne, tru_bl, items_tup, items_lst, items_fro, items_ref, items_rt, still_tup, still_lst, still_fro, at0, at1, at2, at3, at4, at5, at6, at7, at8, Option.map_some]
    have f9 := evE_lcA (own := [7]) (t := .name 7) (elt := E_law_all_ways_9) (C := runN T Γ k) (Γ := Γ) (evI_range1 (lenD ([.val (.int wide), .val (.int j), .val (.lst ((List.range nm).map fun m => .lst ([(wide, m)].map lvD))), .val (.lst ((Lv O nm nc wide j).map lvD)), t5, t6, t7, t8, t9, t10, .un])) (by omega)) (by rw [intRow_length, lineB_val]; omega) c9
    rw [evB_cons ((evX_ifsT tt).trans ((evB_cons (evX_set f9 (by simp))).trans evB_nil))]
    have := fin (fun m => (Lv O nm nc wide j).filter fun x => x.2 == m) (fun m hm => List.mem_filter.mpr ⟨lo.has m hm, by simp⟩) (fun m hm x hx => by
      obtain ⟨h1, h2⟩ := List.mem_filter.mp hx
      have h3 := (lo.le x h1).2
      have : x.2 = m := by simpa using h2
      rw [this] at h3
      exact h3) (fun m => by have := List.length_filter_le (fun x : Lp => x.2 == m) (Lv O nm nc wide j); omega)
    exact congrArg res this
  · have j0 : j = 0 := by omega
    have tf : evT (runN T Γ k) Γ (.e (.cmp .gt (.e (.var 2)) (.e (.int 0)))) [.val (tabD nm nc O), .val (.int wide), .val (.int j), .val (.lst ((List.range nm).map fun m => .lst ([(wide, m)].map lvD))), .val (.lst ((Lv O nm nc wide j).map lvD)), t5, t6, t7, t8, t9, t10, .un] g = some (false, g) := by
      have : ¬ (0 : Int) < (j : Int) := by omega
      simp only [Bool.false_eq_true, Nat.zero_add, Nat.reduceAdd, Nat.reduceLeDiff, lineB_val, Nat.reduceLT, Nat.zero_lt_succ, Nat.lt_add_one, reduceIte, Nat.one_pos, Nat.lt_irrefl, and_self, and_true, true_and, ne_eq, not_false_eq_true, not_true_eq_false, Nat.reduceEqDiff, Nat.reduceBEq, if_true, if_false, Bool.true_and, Bool.and_true, Bool.false_and, Bool.and_false, Bool.not_true, Bool.not_false, Bool.not_not, decide_true, decide_false, evB, evX, evE, evT, evS, evA, evI, bindT, bindTs, List.getElem?_cons_zero, List.getElem?_cons_succ, List.set_cons_zero, List.set_cons_succ, List.length_cons, List.length_nil, op2_add, op2_sub, cmpD_lt, cmpD_le, cmpD_gt, cmpD_ge, cmpD_eq, cmpD_ne, tru_bl, items_tup, items_lst, items_fro, items_ref, items_rt, still_tup, still_lst, still_fro, at0, at1, at2, at3, at4, at5, at6, at7, at8, Option.map_some, this]
    rw [evB_pass tf]
    have := fin (fun m => [(wide, m)]) (fun m hm => by subst j0; exact List.mem_singleton.mpr rfl) (fun m hm x hx => by
      subst j0
      have : x = (wide, m) := List.mem_singleton.mp hx
      subst this
      exact Int.le_refl _) (fun m => by simp)
    exact congrArg res this
/-! ### late widths -/
def maxW (nm : Nat) (w : Nat → Int) : Int := ((List.range nm).map w).foldl max (w 0)
theorem maxW_mx (h : 1 ≤ nm) (w : Nat → Int) : Mx (fun v => ∃ n, n < nm ∧ v = w n) (maxW nm w) := by
  refine (foldl_max_mx ((List.range nm).map w) (w 0)).iff fun u => ?_
  constructor
  · rintro (h | h)
    · exact ⟨0, by omega, h⟩
    · obtain ⟨n, hn, rfl⟩ := List.mem_map.mp h
      exact ⟨n, List.mem_range.mp hn, rfl⟩
  · rintro ⟨n, hn, rfl⟩
    exact .inr (List.mem_map.mpr ⟨n, List.mem_range.mpr hn, rfl⟩)
theorem maxI_W (h : 1 ≤ nm) (w : Nat → Int) : maxI ((List.range nm).map w) = some (maxW nm w) := by
  have m := maxW_mx h w
  refine maxI_of ?_ fun u hu => ?_
  · obtain ⟨n, hn, e⟩ := m.has
    rw [e]
    exact List.mem_map.mpr ⟨n, List.mem_range.mpr hn, rfl⟩
  · obtain ⟨n, hn, rfl⟩ := List.mem_map.mp hu
    exact m.top _ ⟨n, List.mem_range.mp hn, rfl⟩
theorem intsOf_li (w : Nat → Int) : intsOf (liD nm w) = some ((List.range nm).map w) := by
  have := intsOf_map ((List.range nm).map w)
  rwa [List.map_map] at this
theorem run_late (hk : 4 < k) (ok : TbOk nm nc O) {a b : Int} {j : Nat} (hj : j ≤ 1000) : runN T Γ k f_late_widths [tabD nm nc O, ib a b, .int j] g = some (.lst [.int (maxW nm (Wj nm nc O (a + b) j))], g) := by
  obtain ⟨k, rfl⟩ : ∃ k', k = k' + 1 := ⟨k - 1, by omega⟩
  rw [run_eq T_late_widths rfl]
  show res (evB _ _ B_late_widths [.val (tabD nm nc O), .val (ib a b), .val (.int j), .un, .un, .un] g) = _
  have h2 := ok.m2
  have e1 := run_failed (g := g) (k := k) (by omega) ok (a := a) (b := b) hj
  have lc : ∀ {s0 s1 s2 : Sl}, lcRun [5] (.name 5) (fun _ g => some (true, g)) (evE (runN T Γ k) Γ E_late_widths_1) [s0, s1, s2, .val (wsD nm (Wj nm nc O (a + b) j)), .val (.int 0), .un] ((List.range nm).map fun n => .lst [.int (Wj nm nc O (a + b) j n)]) g = some (liD nm (Wj nm nc O (a + b) j), g) := by
    intro s0 s1 s2
    refine lc_mapm _ _ _ fun n hn => ⟨_, rfl, ?_⟩
    unfold E_late_widths_1
    simp only [Bool.false_eq_true, Nat.zero_add, Nat.reduceAdd, Nat.reduceLeDiff, lineB_val, Nat.reduceLT, Nat.zero_lt_succ, Nat.lt_add_one, reduceIte, Nat.one_pos, Nat.lt_irrefl, and_self, and_true, true_and, ne_eq, not_false_eq_true, not_true_eq_false, Nat.reduceEqDiff, Nat.reduceBEq, if_true, if_false, Bool.true_and, Bool.and_true, Bool.false_and, Bool.and_false, Bool.not_true, Bool.not_false, Bool.not_not, decide_true, decide_false, evB, evX, evE, evT, evS, evA, evI, bindT, bindTs, List.getElem?_cons_zero, List.getElem?_cons_succ, List.set_cons_zero, List.set_cons_succ, List.length_cons, List.length_nil, op2_add, op2_sub, cmpD_lt, cmpD_le, cmpD_gt, cmpD_ge, cmpD_eq, cmpD_ne, tru_bl, items_tup, items_lst, items_fro, items_ref, items_rt, still_tup, still_lst, still_fro, at0, at1, at2, at3, at4, at5, at6, at7, at8, Option.map_some, wipeE]
  have e2 : ∀ {s0 s1 s2 : Sl}, evE (runN T Γ k) Γ E_late_widths_2 [s0, s1, s2, .val (wsD nm (Wj nm nc O (a + b) j)), .val (.int 0), .un] g = some (.int (maxW nm (Wj nm nc O (a + b) j)), g) := by
    intro s0 s1 s2
    have e3 := evE_lcA (own := [5]) (t := .name 5) (elt := E_late_widths_1) (C := runN T Γ k) (Γ := Γ) (evI_seq (a := .e (.var 3)) (E := [s0, s1, s2, .val (wsD nm (Wj nm nc O (a + b) j)), .val (.int 0), .un]) (g := g) (x := wsD nm (Wj nm nc O (a + b) j)) (by simp only [Bool.false_eq_true, Nat.zero_add, Nat.reduceAdd, Nat.reduceLeDiff, lineB_val, Nat.reduceLT, Nat.zero_lt_succ, Nat.lt_add_one, reduceIte, Nat.one_pos, Nat.lt_irrefl, and_self, and_true, true_and, ne_eq, not_false_eq_true, not_true_eq_false, Nat.reduceEqDiff, Nat.reduceBEq, if_true, if_false, Bool.true_and, Bool.and_true, Bool.false_and, Bool.and_false, Bool.not_true, Bool.not_false, Bool.not_not, decide_true, decide_false, evB, evX, evE, evT, evS, evA, evI, bindT, bindTs, List.getElem?_cons_zero, List.getElem?_cons_succ, List.set_cons_zero, List.set_cons_succ, List.length_cons, List.length_nil, op2_add, op2_sub, cmpD_lt, cmpD_le, cmpD_gt, cmpD_ge, cmpD_eq, cmpD_ne, tru_bl, items_tup, items_lst, items_fro, items_ref, items_rt, still_tup, still_lst, still_fro, at0, at1, at2, at3, at4, at5, at6, at7, at8, Option.map_some]) rfl) (by rw [List.length_map, List.length_range, lineB_val]; omega) lc
    unfold E_late_widths_2
    rw [evE, evS, e3]
    simp only [intsOf_li, maxI_W ok.m1]
  have r : (-(2 ^ 62) ≤ (1 : Int) ∧ (1 : Int) < 2 ^ 62) := by decide
  have ei : intRow 0 (Int.toNat 1) = [.int 0] := rfl
  unfold B_late_widths
  rw [evB_cons (E1 := [.val (tabD nm nc O), .val (ib a b), .val (.int j), .val (wsD nm (Wj nm nc O (a + b) j)), .un, .un]) (g1 := g) (by simp only [Bool.false_eq_true, Nat.zero_add, Nat.reduceAdd, Nat.reduceLeDiff, lineB_val, Nat.reduceLT, Nat.zero_lt_succ, Nat.lt_add_one, reduceIte, Nat.one_pos, Nat.lt_irrefl, and_self, and_true, true_and, ne_eq, not_false_eq_true, not_true_eq_false, Nat.reduceEqDiff, Nat.reduceBEq, if_true, if_false, Bool.true_and, Bool.and_true, Bool.false_and, Bool.and_false, Bool.not_true, Bool.not_false, Bool.not_not, decide_true, decide_false, evB, evX, evE, evT, evS, evA, evI, bindT, bindTs, List.getElem?_cons_zero, List.getElem?_cons_succ, List.set_cons_zero, List.set_cons_succ, List.length_cons, List.length_nil, op2_add, op2_sub, cmpD_lt, cmpD_le, cmpD_gt, cmpD_ge, cmpD_eq, cmpD_ne, tru_bl, items_tup, items_lst, items_fro, items_ref, items_rt, still_tup, still_lst, still_fro, at0, at1, at2, at3, at4, at5, at6, at7, at8, Option.map_some, e1])]
  unfold ib
  simp only [Bool.false_eq_true, Nat.zero_add, Nat.reduceAdd, Nat.reduceLeDiff, lineB_val, Nat.reduceLT, Nat.zero_lt_succ, Nat.lt_add_one, reduceIte, Nat.one_pos, Nat.lt_irrefl, and_self, and_true, true_and, ne_eq, not_false_eq_true, not_true_eq_false, Nat.reduceEqDiff, Nat.reduceBEq, if_true, if_false, Bool.true_and, Bool.and_true, Bool.false_and, Bool.and_false, Bool.not_true, Bool.not_false, Bool.not_not, decide_true, decide_false, evB, evX, evE, evT, evS, evA, evI, bindT, bindTs, List.getElem?_cons_zero, List.getElem?_cons_succ, List.set_cons_zero, List.set_cons_succ, List.length_cons, List.length_nil, op2_add, op2_sub, cmpD_lt, cmpD_le, cmpD_gt, cmpD_ge, cmpD_eq, cmpD_ne, tru_bl, items_tup, items_lst, items_fro, items_ref, items_rt, still_tup, still_lst, still_fro, at0, at1, at2, at3, at4, at5, at6, at7, at8, Option.map_some, Int.cast_ofNat_Int, Int.natCast_one, Int.ofNat_one, r, ei, lcRun, wipeE, e2, res]
theorem run_worths (hk : 3 < k) {d : Rat} {w : Int} (zd : Z 20 d) (bw : Bd 1000 w) : runN T Γ k f_late_worths [.tup [rt d], .lst [.int w]] g = some (.tup [rt (d * (w : Rat))], g) := by
  obtain ⟨k, rfl⟩ : ∃ k', k = k' + 1 := ⟨k - 1, by omega⟩
  rw [run_eq T_late_worths rfl]
  show res (evB _ _ B_late_worths [.val (.tup [rt d]), .val (.lst [.int w]), .un, .un] g) = _
  have e := run_times_rt (g := g) (k := k) (s := d) (t := (w : Rat)) (by omega) zd (Z.int bw (by decide)) (by decide)
  have ew : rt (w : Rat) = .tup [.int w, .int 1] := rfl
  rw [ew] at e
  unfold B_late_worths
  simp only [Bool.false_eq_true, Nat.zero_add, Nat.reduceAdd, Nat.reduceLeDiff, lineB_val, Nat.reduceLT, Nat.zero_lt_succ, Nat.lt_add_one, reduceIte, Nat.one_pos, Nat.lt_irrefl, and_self, and_true, true_and, ne_eq, not_false_eq_true, not_true_eq_false, Nat.reduceEqDiff, Nat.reduceBEq, if_true, if_false, Bool.true_and, Bool.and_true, Bool.false_and, Bool.and_false, Bool.not_true, Bool.not_false, Bool.not_not, decide_true, decide_false, evB, evX, evE, evT, evS, evA, evI, bindT, bindTs, List.getElem?_cons_zero, List.getElem?_cons_succ, List.set_cons_zero, List.set_cons_succ, List.length_cons, List.length_nil, op2_add, op2_sub, cmpD_lt, cmpD_le, cmpD_gt, cmpD_ge, cmpD_eq, cmpD_ne, tru_bl, items_tup, items_lst, items_fro, items_ref, items_rt, still_tup, still_lst, still_fro, at0, at1, at2, at3, at4, at5, at6, at7, at8, Option.map_some, pairs, lcRun, wipeE, E_late_worths_1, e, res]
end
end K48

set_option linter.all false
set_option maxRecDepth 100000
set_option Elab.async false
set_option exponentiation.threshold 100000
namespace K48
open DP
theorem floor_mono_div {d x y : Rat} (hd : 0 < d) (h : x ≤ y) : (x / d).floor ≤ (y / d).floor := Rat.floor_monotone (by
  rw [Rat.div_def, Rat.div_def]
  exact Rat.mul_le_mul_of_nonneg_right h (Rat.le_of_lt (Rat.inv_pos.mpr hd)))
theorem div_mono {d x y : Rat} (hd : 0 < d) (h : x ≤ y) : x / d ≤ y / d := by
  rw [Rat.div_def, Rat.div_def]
  exact Rat.mul_le_mul_of_nonneg_right h (Rat.le_of_lt (Rat.inv_pos.mpr hd))
theorem floor_le_ceil {x y : Rat} (h : x ≤ y) : x.floor ≤ y.ceil := by
  have h1 := Rat.floor_le x
  have h2 := Rat.le_ceil (x := y)
  have h3 := Rat.le_trans h1 (Rat.le_trans h h2)
  exact Rat.intCast_le_intCast.mp h3
theorem fc_le {d : Rat} (hd : 0 < d) {b : Rat × Rat} (h : b.1 ≤ b.2) : (fc d b).1 ≤ (fc d b).2 := floor_le_ceil (div_mono hd h)
theorem floor_Bd {n : Nat} {x : Rat} (h : Z n x) : Bd n x.floor := by
  rw [Rat.floor_def]; exact h.num.ediv
theorem ceil_Bd {n : Nat} {x : Rat} (h : Z n x) : Bd n x.ceil := by
  rw [Rat.ceil_eq_neg_floor_neg]; exact (floor_Bd h.neg).neg
section
variable {k N m c n : Nat} {g : Gs} {P : Pl} {d : Rat}
theorem offs_has (hd : 0 < d) {b : Rat × Rat} (hb : b ∈ boxes P m c n) : ∃ q, offs P d m c n = some q ∧ q.1 ≤ (fc d b).1 ∧ (fc d b).2 ≤ q.2 := by
  unfold offs
  cases hbs : boxes P m c n with
  | nil => rw [hbs] at hb; cases hb
  | cons x xs =>
    rw [hbs] at hb
    obtain ⟨q, e1, e2⟩ := fold_hull hd xs x
    refine ⟨fc d q, ?_, ?_, ?_⟩
    · show Option.map (fc d) (xs.foldl hullO (some x)) = _
      rw [e1]; rfl
    · rw [e2]
      have := foldl_min (xs.map fun b => (fc d b).1) (fc d x).1
      rcases List.mem_cons.mp hb with z | z
      · subst z; exact this.2.1
      · exact this.2.2 _ (List.mem_map.mpr ⟨b, z, rfl⟩)
    · rw [e2]
      have := foldl_max (xs.map fun b => (fc d b).2) (fc d x).2
      rcases List.mem_cons.mp hb with z | z
      · subst z; exact this.2.1
      · exact this.2.2 _ (List.mem_map.mpr ⟨b, z, rfl⟩)
/-- what an offset is made of -/
theorem offs_of (hd : 0 < d) {q : Int × Int} (e : offs P d m c n = some q) : (∃ b ∈ boxes P m c n, q.1 = (fc d b).1) ∧ ∃ b ∈ boxes P m c n, q.2 = (fc d b).2 := by
  unfold offs at e
  cases hbs : boxes P m c n with
  | nil => rw [hbs] at e; cases e
  | cons x xs =>
    rw [hbs] at e
    obtain ⟨r, e1, e2⟩ := fold_hull hd xs x
    have e3 : Option.map (fc d) (xs.foldl hullO (some x)) = some q := e
    rw [e1] at e3
    cases e3
    have h1 := (foldl_min (xs.map fun b => (fc d b).1) (fc d x).1).1
    have h2 := (foldl_max (xs.map fun b => (fc d b).2) (fc d x).2).1
    constructor
    · rcases h1 with z | z
      · exact ⟨x, List.mem_cons_self, by show (fc d r).1 = _; rw [e2]; exact z⟩
      · obtain ⟨b, hb, z⟩ := List.mem_map.mp z
        exact ⟨b, List.mem_cons_of_mem _ hb, by show (fc d r).1 = _; rw [e2]; exact z.symm⟩
    · rcases h2 with z | z
      · exact ⟨x, List.mem_cons_self, by show (fc d r).2 = _; rw [e2]; exact z⟩
      · obtain ⟨b, hb, z⟩ := List.mem_map.mp z
        exact ⟨b, List.mem_cons_of_mem _ hb, by show (fc d r).2 = _; rw [e2]; exact z.symm⟩
theorem tbOk (p : PlOk P) (hd : 0 < d) : TbOk P.nm P.nc (offs P d) := by
  have h2 := p.c2
  refine ⟨p.m1, p.m2, by omega, p.c3, fun m c n q hm hc e => ?_, fun m c hm hc => ?_⟩
  · obtain ⟨⟨b, hb, e1⟩, _⟩ := offs_of hd e
    obtain ⟨q', e2, h3, h4⟩ := offs_has (d := d) hd hb
    rw [e] at e2
    cases e2
    have := fc_le hd (boxes_ok p hm hc b hb).2.2
    omega
  · have : bb P m c ∈ boxes P m c m := by
      unfold boxes
      rw [if_pos rfl]
      exact List.mem_append_left _ (List.mem_singleton.mpr rfl)
    obtain ⟨q, e, _⟩ := offs_has (d := d) hd this
    exact ⟨q, e⟩
theorem offs_Bd (p : PlOk P) (hd : 0 < d) (zd : Z 20 d) (hm : m < P.nm) (hc : c < P.nc) {q : Int × Int} (e : offs P d m c n = some q) : Bd 41 q.1 ∧ Bd 41 q.2 := by
  obtain ⟨⟨b, hb, e1⟩, ⟨b', hb', e2⟩⟩ := offs_of hd e
  rw [e1, e2]
  exact ⟨floor_Bd ((boxes_ok p hm hc b hb).1.div zd (by decide)), ceil_Bd ((boxes_ok p hm hc b' hb').2.1.div zd (by decide))⟩
theorem Wj_Bd (p : PlOk P) (hd : 0 < d) (zd : Z 20 d) {wide : Int} (hw : Bd 60 wide) : ∀ (j n : Nat), n < P.nm → Bd (60 + j) (Wj P.nm P.nc (offs P d) wide j n)
  | 0, n, _ => hw
  | j + 1, n, hn => by
    obtain ⟨x, hx, e⟩ := (wNext_some (tbOk p hd) hn (Wj P.nm P.nc (offs P d) wide j)).2.has
    obtain ⟨c, h3, h4, h5⟩ := mem_ways.mp hx
    have ih := Wj_Bd p hd zd hw j x.1 h3
    have hb := offs_Bd p hd zd h3 h4 h5
    show Bd _ (wNext P.nm P.nc (offs P d) (Wj P.nm P.nc (offs P d) wide j) n)
    rw [e]
    exact (ih.add (hb.2.sub hb.1)).mono (by omega)
theorem maxW_Bd (p : PlOk P) (hd : 0 < d) (zd : Z 20 d) {wide : Int} (hw : Bd 60 wide) (j : Nat) : Bd (60 + j) (maxW P.nm (Wj P.nm P.nc (offs P d) wide j)) := by
  obtain ⟨n, hn, e⟩ := (maxW_mx p.m1 (Wj P.nm P.nc (offs P d) wide j)).has
  rw [e]
  exact Wj_Bd p hd zd hw j n hn
/-! ### half the unit -/
def hf (d : Rat) : Rat := d * Rat.divInt 1 2
theorem hf_pos (hd : 0 < d) : 0 < hf d := Rat.mul_pos hd (by decide)
theorem hf_div (x : Rat) : x / hf d = x / d * 2 := by
  unfold hf
  rw [Rat.div_def, Rat.div_def, Rat.inv_mul_rev]
  have : (Rat.divInt 1 2)⁻¹ = (2 : Rat) := by decide +kernel
  rw [this, Rat.mul_comm 2, Rat.mul_assoc]
theorem two_floor (y : Rat) : 2 * y.floor ≤ (y * 2).floor := by
  rw [Rat.le_floor_iff, Rat.intCast_mul, Rat.mul_comm]
  exact Rat.mul_le_mul_of_nonneg_right (Rat.floor_le y) (by decide)
theorem two_ceil (y : Rat) : (y * 2).ceil ≤ 2 * y.ceil := by
  rw [Rat.ceil_le_iff, Rat.intCast_mul, Rat.mul_comm ((2 : Int) : Rat)]
  exact Rat.mul_le_mul_of_nonneg_right Rat.le_ceil (by decide)
theorem fc_half (b : Rat × Rat) : 2 * (fc d b).1 ≤ (fc (hf d) b).1 ∧ (fc (hf d) b).2 ≤ 2 * (fc d b).2 := by
  unfold fc
  rw [hf_div, hf_div]
  exact ⟨two_floor _, two_ceil _⟩
theorem offs_half (hd : 0 < d) {q' : Int × Int} (e : offs P (hf d) m c n = some q') : ∃ q, offs P d m c n = some q ∧ q'.2 - q'.1 ≤ 2 * (q.2 - q.1) := by
  obtain ⟨⟨b, hb, e1⟩, ⟨b', hb', e2⟩⟩ := offs_of (hf_pos hd) e
  obtain ⟨q, e3, h3, _⟩ := offs_has hd hb
  obtain ⟨q2, e4, _, h4⟩ := offs_has hd hb'
  rw [e3] at e4
  cases e4
  refine ⟨q, e3, ?_⟩
  have := (fc_half (d := d) b).1
  have := (fc_half (d := d) b').2
  omega
theorem Wj_half (p : PlOk P) (hd : 0 < d) {wide wide' : Int} (hw : wide' ≤ 2 * wide) : ∀ (j n : Nat), n < P.nm → Wj P.nm P.nc (offs P (hf d)) wide' j n ≤ 2 * Wj P.nm P.nc (offs P d) wide j n
  | 0, n, _ => hw
  | j + 1, n, hn => by
    obtain ⟨x, hx, e⟩ := (wNext_some (tbOk p (hf_pos hd)) hn (Wj P.nm P.nc (offs P (hf d)) wide' j)).2.has
    obtain ⟨c, h3, h4, h5⟩ := mem_ways.mp hx
    obtain ⟨q, e2, h6⟩ := offs_half hd h5
    have ih := Wj_half p hd hw j x.1 h3
    have := wNext_ge (tbOk p hd) (w := Wj P.nm P.nc (offs P d) wide j) h3 hn h4 e2
    show wNext P.nm P.nc (offs P (hf d)) (Wj P.nm P.nc (offs P (hf d)) wide' j) n ≤ 2 * wNext P.nm P.nc (offs P d) (Wj P.nm P.nc (offs P d) wide j) n
    rw [e]
    unfold wv
    omega
theorem maxW_half (p : PlOk P) (hd : 0 < d) {wide wide' : Int} (hw : wide' ≤ 2 * wide) (j : Nat) : maxW P.nm (Wj P.nm P.nc (offs P (hf d)) wide' j) ≤ 2 * maxW P.nm (Wj P.nm P.nc (offs P d) wide j) := by
  obtain ⟨n, hn, e⟩ := (maxW_mx p.m1 (Wj P.nm P.nc (offs P (hf d)) wide' j)).has
  rw [e]
  have h1 := Wj_half p hd hw j n hn
  have h2 := (maxW_mx p.m1 (Wj P.nm P.nc (offs P d) wide j)).top _ ⟨n, hn, rfl⟩
  omega
theorem rdA_half : rdA P (hf d) ≤ 2 * rdA P d := by
  unfold rdA
  rw [hf_div]
  exact two_ceil _
theorem rdA_nn (p : PlOk P) (hd : 0 < d) : 0 ≤ rdA P d := by
  have h : (0 : Rat) ≤ P.err / d := by
    rw [Rat.div_def]
    exact Rat.mul_nonneg p.e0 (Rat.le_of_lt (Rat.inv_pos.mpr hd))
  have := floor_le_ceil h
  exact this
theorem rdA_Bd (p : PlOk P) (zd : Z 20 d) : Bd 25 (rdA P d) := ceil_Bd (p.ez.div zd (by decide))
theorem worth_half (hd : 0 < d) {u v : Int} (h : u ≤ 2 * v) : hf d * (u : Rat) ≤ d * (v : Rat) := by
  have h1 : (u : Rat) ≤ ((2 * v : Int) : Rat) := Rat.intCast_le_intCast.mpr h
  have h2 := Rat.mul_le_mul_of_nonneg_left h1 (Rat.le_of_lt (hf_pos hd))
  have e : hf d * ((2 * v : Int) : Rat) = d * (v : Rat) := by
    unfold hf
    rw [Rat.intCast_mul, ← Rat.mul_assoc, Rat.mul_assoc d]
    have : Rat.divInt 1 2 * ((2 : Int) : Rat) = 1 := by decide +kernel
    rw [this, Rat.mul_one]
  rwa [e] at h2
end
end K48

set_option linter.all false
set_option maxRecDepth 100000
set_option Elab.async false
set_option exponentiation.threshold 100000
namespace K48
open DP
def WD (P : Pl) (d : Rat) (j : Nat) : Nat → Int := Wj P.nm P.nc (offs P d) (rdA P d + (rdA P d + 1)) j
section
variable {k N m c n : Nat} {g : Gs} {P : Pl} {d : Rat}
theorem wsD_at {nm : Nat} {w : Nat → Int} (h : n < nm) : atI ((List.range nm).map fun n => D.lst [.int (w n)]) (n : Int) = some (.lst [.int (w n)]) := atI_nat (range_map_at (fun n => D.lst [.int (w n)]) h)
theorem okS_ws {nm : Nat} (h : nm ≤ 2) (w : Nat → Int) : okS 2 (wsD nm w) = true := by
  unfold wsD
  show (decide (_ ≤ 1000) && List.all _ (okS 1)) = true
  rw [List.length_map, List.length_range, decide_eq_true (by omega), Bool.true_and, List.all_eq_true]
  intro x hx
  obtain ⟨n, _, rfl⟩ := List.mem_map.mp hx
  rfl
theorem okS_li {nm : Nat} (h : nm ≤ 2) (w : Nat → Int) : okS 1 (.lst (liD nm w)) = true := by
  unfold liD
  show (decide (_ ≤ 1000) && List.all _ (okS 0)) = true
  rw [List.length_map, List.length_range, decide_eq_true (by omega), Bool.true_and, List.all_eq_true]
  intro x hx
  obtain ⟨n, _, rfl⟩ := List.mem_map.mp hx
  rfl
theorem l5_rows {nm : Nat} {w : Nat → Int} {s0 s1 s2 s3 s4 s5 s6 s7 s8 s9 s10 s11 s12 s13 s15 s16 s17 s18 s19 s20 s21 s22 s23 s24 s26 : Sl} (h : nm ≤ 2) :
    evE (runN T Γ k) Γ (.lcA [25] (.name 25) (.seq (.e (.var 14))) E_law_2) [s0, s1, s2, s3, s4, s5, s6, s7, s8, s9, s10, s11, s12, s13, .val (wsD nm w), s15, s16, s17, s18, s19, s20, s21, s22, s23, s24, .un, s26] g = some (.lst (liD nm w), g) := by
  refine evE_lcA (evI_seq (g1 := g) (x := wsD nm w) (by simp only [Bool.false_eq_true, Nat.zero_add, Nat.reduceAdd, Nat.reduceLeDiff, lineB_val, Nat.reduceLT, Nat.zero_lt_succ, Nat.lt_add_one, reduceIte, Nat.one_pos, Nat.lt_irrefl, and_self, and_true, true_and, ne_eq, not_false_eq_true, not_true_eq_false, Nat.reduceEqDiff, Nat.reduceBEq, if_true, if_false, Bool.true_and, Bool.and_true, Bool.false_and, Bool.and_false, Bool.not_true, Bool.not_false, Bool.not_not, decide_true, decide_false, evB, evX, evE, evT, evS, evA, evI, bindT, bindTs, List.getElem?_cons_zero, List.getElem?_cons_succ, List.set_cons_zero, List.set_cons_succ, List.length_cons, List.length_nil, op2_add, op2_sub, cmpD_lt, cmpD_le, cmpD_gt, cmpD_ge, cmpD_eq, cmpD_ne, tru_bl, items_tup, items_lst, items_fro, items_ref, items_rt, still_tup, still_lst, still_fro, at0, at1, at2, at3, at4, at5, at6, at7, at8, Option.map_some]) rfl) (by rw [List.length_map, List.length_range, lineB_val]; omega) ?_
  refine lc_mapm _ _ _ fun n hn => ⟨_, rfl, ?_⟩
  unfold E_law_2
  simp only [Bool.false_eq_true, Nat.zero_add, Nat.reduceAdd, Nat.reduceLeDiff, lineB_val, Nat.reduceLT, Nat.zero_lt_succ, Nat.lt_add_one, reduceIte, Nat.one_pos, Nat.lt_irrefl, and_self, and_true, true_and, ne_eq, not_false_eq_true, not_true_eq_false, Nat.reduceEqDiff, Nat.reduceBEq, if_true, if_false, Bool.true_and, Bool.and_true, Bool.false_and, Bool.and_false, Bool.not_true, Bool.not_false, Bool.not_not, decide_true, decide_false, evB, evX, evE, evT, evS, evA, evI, bindT, bindTs, List.getElem?_cons_zero, List.getElem?_cons_succ, List.set_cons_zero, List.set_cons_succ, List.length_cons, List.length_nil, op2_add, op2_sub, cmpD_lt, cmpD_le, cmpD_gt, cmpD_ge, cmpD_eq, cmpD_ne, tru_bl, items_tup, items_lst, items_fro, items_ref, items_rt, still_tup, still_lst, still_fro, at0, at1, at2, at3, at4, at5, at6, at7, at8, Option.map_some, wipeE]
theorem l5_max {nm : Nat} {w : Nat → Int} {s0 s1 s2 s3 s4 s5 s6 s7 s8 s9 s10 s11 s12 s13 s15 s16 s17 s18 s19 s20 s21 s22 s23 s24 s26 : Sl} (h1 : 1 ≤ nm) (h : nm ≤ 2) :
    evE (runN T Γ k) Γ (.maxL (.e (.lcA [25] (.name 25) (.seq (.e (.var 14))) E_law_2))) [s0, s1, s2, s3, s4, s5, s6, s7, s8, s9, s10, s11, s12, s13, .val (wsD nm w), s15, s16, s17, s18, s19, s20, s21, s22, s23, s24, .un, s26] g = some (.int (maxW nm w), g) := by
  rw [evE, evS, l5_rows h]
  simp only [intsOf_li, maxI_W h1]
theorem l5 (hk : 20 < k) (p : PlOk P) (hd : 0 < d) (zd : Z 10 d) {j : Nat} (hj : j < 4) {s0 s14 s15 s16 s17 : Sl} {b : D} (hb : b = .non ∨ ∃ w, b = wsD P.nm w ∧ ∀ n, n < P.nm → w n ≤ WD P d j n) :
    ∃ t16, evB (runN T Γ k) Γ L_law_5 [s0, .val (.ref 2), .val (plD P), .val (rt d), .val (tabD P.nm P.nc (offs P d)), .val (ib (rdA P d) (rdA P d + 1)), .val (.int (rdA P d + (rdA P d + 1))), .val b, .val (.int j), .un, .un, .un, .un, .un, s14, s15, s16, s17, .un, .un, .un, .un, .un, .un, .un, .un, .un] g = some (.nx, [s0, .val (.ref 2), .val (plD P), .val (rt d), .val (tabD P.nm P.nc (offs P d)), .val (ib (rdA P d) (rdA P d + 1)), .val (.int (rdA P d + (rdA P d + 1))), .val (wsD P.nm (WD P d j)), .val (.int j), .un, .un, .un, .un, .un, .val (wsD P.nm (WD P d j)), .val (.tup [rt (hf d)]), t16, .val (.tup [rt (d * ((maxW P.nm (WD P d j) : Int) : Rat))]), .un, .un, .un, .un, .un, .un, .un, .un, .un], g) := by
  have zd' : Z 20 d := zd.mono (by decide)
  have ok := tbOk p hd
  have hp := hf_pos hd
  have okh := tbOk p hp
  have zh : Z 20 (hf d) := (zd.mul (b := 5) (t := Rat.divInt 1 2) ⟨by unfold Bd; decide, by unfold Bd; decide⟩ (by decide)).mono (by decide)
  have a0 := rdA_nn p hd
  have ab := rdA_Bd p zd'
  have abh := rdA_Bd (P := P) p zh
  have b1 : Bd 1 (1 : Int) := by unfold Bd; decide
  have hw : Bd 60 (rdA P d + (rdA P d + 1)) := (ab.add (ab.add b1)).mono (by decide)
  have hwh : Bd 60 (rdA P (hf d) + (rdA P (hf d) + 1)) := (abh.add (abh.add b1)).mono (by decide)
  have hm2 := p.m2
  have mb : Bd 1000 (maxW P.nm (WD P d j)) := (maxW_Bd p hd zd' hw j).mono (by omega)
  have mbh : Bd 1000 (maxW P.nm (Wj P.nm P.nc (offs P (hf d)) (rdA P (hf d) + (rdA P (hf d) + 1)) j)) := (maxW_Bd p hp zh hwh j).mono (by omega)
  have e14 := run_failed (g := g) (k := k) (by omega) ok (a := rdA P d) (b := rdA P d + 1) (j := j) (by omega)
  have eaw := run_all_ways (g := g) (k := k) (by omega) ok (wide := rdA P d + (rdA P d + 1)) (j := j) (by omega)
  have elf := run_law_failed (g := g) (k := k) (by omega) ok (wide := rdA P d + (rdA P d + 1)) (by omega) (j := j) (by omega)
  have elate := run_late (g := g) (k := k) (by omega) ok (a := rdA P d) (b := rdA P d + 1) (j := j) (by omega)
  have ehalf : runN T Γ k f_halved_units [.tup [rt d], .int 1] g = some (.tup [rt (hf d)], g) := run_halved (by omega) zd
  have eoh := run_offsets_of (g := g) (k := k) (by omega) p hp zh
  have erh := run_read_pairs (g := g) (k := k) (by omega) p hp zh
  have elh := run_late (g := g) (k := k) (by omega) okh (a := rdA P (hf d)) (b := rdA P (hf d) + 1) (j := j) (by omega)
  have ew := run_worths (g := g) (k := k) (by omega) zd' mb
  have ewh := run_worths (g := g) (k := k) (by omega) zh mbh
  have emul : runN T Γ k f_law_mult [rt d, .tup [.int (maxW P.nm (WD P d j)), .int 1]] g = some (rt (d * ((maxW P.nm (WD P d j) : Int) : Rat)), g) := run_mult_rt (t := ((maxW P.nm (WD P d j) : Int) : Rat)) (by omega) zd' (Z.int mb (by decide)) (by decide)
  have same1 := run_same (g := g) 2 (wsD P.nm (WD P d j)) k (by omega) (okS_ws hm2 _)
  have same2 := run_same (g := g) 1 (.lst (liD P.nm (WD P d j))) k (by omega) (okS_li hm2 _)
  have same3 := run_same (g := g) 2 (.tup [rt (d * ((maxW P.nm (WD P d j) : Int) : Rat))]) k (by omega) rfl
  have zw := zd'.mul (Z.int mb (by decide)) (by decide)
  have zwh := zh.mul (Z.int mbh (by decide)) (by decide)
  have le := worth_half hd (maxW_half p hd (wide := rdA P d + (rdA P d + 1)) (wide' := rdA P (hf d) + (rdA P (hf d) + 1)) (by have := rdA_half (P := P) (d := d); omega) j)
  have ena := run_na_rt (g := g) (k := k) (by omega) zwh zw (by decide)
  rw [show decide (hf d * ((maxW P.nm (Wj P.nm P.nc (offs P (hf d)) (rdA P (hf d) + (rdA P (hf d) + 1)) j) : Int) : Rat) ≤ d * ((maxW P.nm (WD P d j) : Int) : Rat)) = true from decide_eq_true le] at ena
  refine ⟨.val (.lst [.int (maxW P.nm (Wj P.nm P.nc (offs P (hf d)) (rdA P (hf d) + (rdA P (hf d) + 1)) j))]), ?_⟩
  have lc1 : evE (runN T Γ k) Γ (.lcA [24] (.name 24) (.seq (.e (.call 56 (.cons (.var 4) (.cons (.var 6) (.cons (.var 8) .nil)))))) E_law_1) [s0, .val (.ref 2), .val (plD P), .val (rt d), .val (tabD P.nm P.nc (offs P d)), .val (ib (rdA P d) (rdA P d + 1)), .val (.int (rdA P d + (rdA P d + 1))), .val b, .val (.int j), .un, .un, .un, .un, .un, .val (wsD P.nm (WD P d j)), s15, s16, s17, .un, .un, .un, .un, .un, .un, .un, .un, .un] g = some (wsD P.nm (WD P d j), g) := by
    refine evE_lcA (evI_seq (g1 := g) (x := .lst (liD P.nm (WD P d j))) (by simp only [Bool.false_eq_true, Nat.zero_add, Nat.reduceAdd, Nat.reduceLeDiff, lineB_val, Nat.reduceLT, Nat.zero_lt_succ, Nat.lt_add_one, reduceIte, Nat.one_pos, Nat.lt_irrefl, and_self, and_true, true_and, ne_eq, not_false_eq_true, not_true_eq_false, Nat.reduceEqDiff, Nat.reduceBEq, if_true, if_false, Bool.true_and, Bool.and_true, Bool.false_and, Bool.and_false, Bool.not_true, Bool.not_false, Bool.not_not, decide_true, decide_false, evB, evX, evE, evT, evS, evA, evI, bindT, bindTs, List.getElem?_cons_zero, List.getElem?_cons_succ, List.set_cons_zero, List.set_cons_succ, List.length_cons, List.length_nil, op2_add, op2_sub, cmpD_lt, cmpD_le, cmpD_gt, cmpD_ge, cmpD_eq, cmpD_ne, tru_bl, items_tup, items_lst, items_fro, items_ref, items_rt, still_tup, still_lst, still_fro, at0, at1, at2, at3, at4, at5, at6, at7, at8, Option.map_some, eaw]; rfl) rfl) (by rw [liD_len, lineB_val]; omega) ?_
    refine lc_mapm _ _ _ fun n hn => ⟨_, rfl, ?_⟩
    unfold E_law_1
    simp only [Bool.false_eq_true, Nat.zero_add, Nat.reduceAdd, Nat.reduceLeDiff, lineB_val, Nat.reduceLT, Nat.zero_lt_succ, Nat.lt_add_one, reduceIte, Nat.one_pos, Nat.lt_irrefl, and_self, and_true, true_and, ne_eq, not_false_eq_true, not_true_eq_false, Nat.reduceEqDiff, Nat.reduceBEq, if_true, if_false, Bool.true_and, Bool.and_true, Bool.false_and, Bool.and_false, Bool.not_true, Bool.not_false, Bool.not_not, decide_true, decide_false, evB, evX, evE, evT, evS, evA, evI, bindT, bindTs, List.getElem?_cons_zero, List.getElem?_cons_succ, List.set_cons_zero, List.set_cons_succ, List.length_cons, List.length_nil, op2_add, op2_sub, cmpD_lt, cmpD_le, cmpD_gt, cmpD_ge, cmpD_eq, cmpD_ne, tru_bl, items_tup, items_lst, items_fro, items_ref, items_rt, still_tup, still_lst, still_fro, at0, at1, at2, at3, at4, at5, at6, at7, at8, Option.map_some, wipeE]
  have t1 : evT (runN T Γ k) Γ (.or (.not (.e (.call 31 (.cons (.var 14) (.cons (.lcA [24] (.name 24) (.seq (.e (.call 56 (.cons (.var 4) (.cons (.var 6) (.cons (.var 8) .nil)))))) E_law_1) .nil))))) (.not (.e (.call 31 (.cons (.lcA [25] (.name 25) (.seq (.e (.var 14))) E_law_2) (.cons (.call 50 (.cons (.var 4) (.cons (.var 6) (.cons (.var 8) .nil)))) .nil)))))) [s0, .val (.ref 2), .val (plD P), .val (rt d), .val (tabD P.nm P.nc (offs P d)), .val (ib (rdA P d) (rdA P d + 1)), .val (.int (rdA P d + (rdA P d + 1))), .val b, .val (.int j), .un, .un, .un, .un, .un, .val (wsD P.nm (WD P d j)), s15, s16, s17, .un, .un, .un, .un, .un, .un, .un, .un, .un] g = some (false, g) := by
    have r1 := l5_rows (k := k) (g := g) (w := WD P d j) hm2 (s0 := s0) (s1 := .val (.ref 2)) (s2 := .val (plD P)) (s3 := .val (rt d)) (s4 := .val (tabD P.nm P.nc (offs P d))) (s5 := .val (ib (rdA P d) (rdA P d + 1))) (s6 := .val (.int (rdA P d + (rdA P d + 1)))) (s7 := .val b) (s8 := .val (.int j)) (s9 := .un) (s10 := .un) (s11 := .un) (s12 := .un) (s13 := .un) (s15 := s15) (s16 := s16) (s17 := s17) (s18 := .un) (s19 := .un) (s20 := .un) (s21 := .un) (s22 := .un) (s23 := .un) (s24 := .un) (s26 := .un)
    have x1 : evA (runN T Γ k) Γ (.cons (.var 14) (.cons (.lcA [24] (.name 24) (.seq (.e (.call 56 (.cons (.var 4) (.cons (.var 6) (.cons (.var 8) .nil)))))) E_law_1) .nil)) [s0, .val (.ref 2), .val (plD P), .val (rt d), .val (tabD P.nm P.nc (offs P d)), .val (ib (rdA P d) (rdA P d + 1)), .val (.int (rdA P d + (rdA P d + 1))), .val b, .val (.int j), .un, .un, .un, .un, .un, .val (wsD P.nm (WD P d j)), s15, s16, s17, .un, .un, .un, .un, .un, .un, .un, .un, .un] g = some ([wsD P.nm (WD P d j), wsD P.nm (WD P d j)], g) := by
      rw [evA, evE]
      simp only [List.getElem?_cons_succ, List.getElem?_cons_zero]
      rw [evA, lc1]
      simp only [Bool.false_eq_true, Nat.zero_add, Nat.reduceAdd, Nat.reduceLeDiff, lineB_val, Nat.reduceLT, Nat.zero_lt_succ, Nat.lt_add_one, reduceIte, Nat.one_pos, Nat.lt_irrefl, and_self, and_true, true_and, ne_eq, not_false_eq_true, not_true_eq_false, Nat.reduceEqDiff, Nat.reduceBEq, if_true, if_false, Bool.true_and, Bool.and_true, Bool.false_and, Bool.and_false, Bool.not_true, Bool.not_false, Bool.not_not, decide_true, decide_false, evB, evX, evE, evT, evS, evA, evI, bindT, bindTs, List.getElem?_cons_zero, List.getElem?_cons_succ, List.set_cons_zero, List.set_cons_succ, List.length_cons, List.length_nil, op2_add, op2_sub, cmpD_lt, cmpD_le, cmpD_gt, cmpD_ge, cmpD_eq, cmpD_ne, tru_bl, items_tup, items_lst, items_fro, items_ref, items_rt, still_tup, still_lst, still_fro, at0, at1, at2, at3, at4, at5, at6, at7, at8, Option.map_some]
    have x2 : evA (runN T Γ k) Γ (.cons (.lcA [25] (.name 25) (.seq (.e (.var 14))) E_law_2) (.cons (.call 50 (.cons (.var 4) (.cons (.var 6) (.cons (.var 8) .nil)))) .nil)) [s0, .val (.ref 2), .val (plD P), .val (rt d), .val (tabD P.nm P.nc (offs P d)), .val (ib (rdA P d) (rdA P d + 1)), .val (.int (rdA P d + (rdA P d + 1))), .val b, .val (.int j), .un, .un, .un, .un, .un, .val (wsD P.nm (WD P d j)), s15, s16, s17, .un, .un, .un, .un, .un, .un, .un, .un, .un] g = some ([.lst (liD P.nm (WD P d j)), .lst (liD P.nm (WD P d j))], g) := by
      rw [evA, r1]
      simp only [Bool.false_eq_true, Nat.zero_add, Nat.reduceAdd, Nat.reduceLeDiff, lineB_val, Nat.reduceLT, Nat.zero_lt_succ, Nat.lt_add_one, reduceIte, Nat.one_pos, Nat.lt_irrefl, and_self, and_true, true_and, ne_eq, not_false_eq_true, not_true_eq_false, Nat.reduceEqDiff, Nat.reduceBEq, if_true, if_false, Bool.true_and, Bool.and_true, Bool.false_and, Bool.and_false, Bool.not_true, Bool.not_false, Bool.not_not, decide_true, decide_false, evB, evX, evE, evT, evS, evA, evI, bindT, bindTs, List.getElem?_cons_zero, List.getElem?_cons_succ, List.set_cons_zero, List.set_cons_succ, List.length_cons, List.length_nil, op2_add, op2_sub, cmpD_lt, cmpD_le, cmpD_gt, cmpD_ge, cmpD_eq, cmpD_ne, tru_bl, items_tup, items_lst, items_fro, items_ref, items_rt, still_tup, still_lst, still_fro, at0, at1, at2, at3, at4, at5, at6, at7, at8, Option.map_some, elf]
      rfl
    rw [evT, evT, evT, evE, x1]
    simp only [same1, tru_bl, Bool.not_true]
    rw [evT, evT, evE, x2]
    simp only [same2, tru_bl, Bool.not_true]
  have mx := fun (s7 s15 s16 s17 : Sl) => l5_max (k := k) (g := g) (w := WD P d j) p.m1 hm2 (s0 := s0) (s1 := .val (.ref 2)) (s2 := .val (plD P)) (s3 := .val (rt d)) (s4 := .val (tabD P.nm P.nc (offs P d))) (s5 := .val (ib (rdA P d) (rdA P d + 1))) (s6 := .val (.int (rdA P d + (rdA P d + 1)))) (s7 := s7) (s8 := .val (.int j)) (s9 := .un) (s10 := .un) (s11 := .un) (s12 := .un) (s13 := .un) (s15 := s15) (s16 := s16) (s17 := s17) (s18 := .un) (s19 := .un) (s20 := .un) (s21 := .un) (s22 := .un) (s23 := .un) (s24 := .un) (s26 := .un)
  have t2 : evT (runN T Γ k) Γ (.e (.cmp .ne (.e (.call 27 (.cons (.var 4) (.cons (.var 5) (.cons (.var 8) .nil))))) (.e (.lst (.cons (.maxL (.e (.lcA [25] (.name 25) (.seq (.e (.var 14))) E_law_2))) .nil))))) [s0, .val (.ref 2), .val (plD P), .val (rt d), .val (tabD P.nm P.nc (offs P d)), .val (ib (rdA P d) (rdA P d + 1)), .val (.int (rdA P d + (rdA P d + 1))), .val b, .val (.int j), .un, .un, .un, .un, .un, .val (wsD P.nm (WD P d j)), s15, s16, s17, .un, .un, .un, .un, .un, .un, .un, .un, .un] g = some (false, g) := by
    have y1 : evE (runN T Γ k) Γ (.lst (.cons (.maxL (.e (.lcA [25] (.name 25) (.seq (.e (.var 14))) E_law_2))) .nil)) [s0, .val (.ref 2), .val (plD P), .val (rt d), .val (tabD P.nm P.nc (offs P d)), .val (ib (rdA P d) (rdA P d + 1)), .val (.int (rdA P d + (rdA P d + 1))), .val b, .val (.int j), .un, .un, .un, .un, .un, .val (wsD P.nm (WD P d j)), s15, s16, s17, .un, .un, .un, .un, .un, .un, .un, .un, .un] g = some (.lst [.int (maxW P.nm (WD P d j))], g) := by
      rw [evE, evA, mx (.val b) s15 s16 s17]
      simp only [Bool.false_eq_true, Nat.zero_add, Nat.reduceAdd, Nat.reduceLeDiff, lineB_val, Nat.reduceLT, Nat.zero_lt_succ, Nat.lt_add_one, reduceIte, Nat.one_pos, Nat.lt_irrefl, and_self, and_true, true_and, ne_eq, not_false_eq_true, not_true_eq_false, Nat.reduceEqDiff, Nat.reduceBEq, if_true, if_false, Bool.true_and, Bool.and_true, Bool.false_and, Bool.and_false, Bool.not_true, Bool.not_false, Bool.not_not, decide_true, decide_false, evB, evX, evE, evT, evS, evA, evI, bindT, bindTs, List.getElem?_cons_zero, List.getElem?_cons_succ, List.set_cons_zero, List.set_cons_succ, List.length_cons, List.length_nil, op2_add, op2_sub, cmpD_lt, cmpD_le, cmpD_gt, cmpD_ge, cmpD_eq, cmpD_ne, tru_bl, items_tup, items_lst, items_fro, items_ref, items_rt, still_tup, still_lst, still_fro, at0, at1, at2, at3, at4, at5, at6, at7, at8, Option.map_some]
    have y2 : evE (runN T Γ k) Γ (.call 27 (.cons (.var 4) (.cons (.var 5) (.cons (.var 8) .nil)))) [s0, .val (.ref 2), .val (plD P), .val (rt d), .val (tabD P.nm P.nc (offs P d)), .val (ib (rdA P d) (rdA P d + 1)), .val (.int (rdA P d + (rdA P d + 1))), .val b, .val (.int j), .un, .un, .un, .un, .un, .val (wsD P.nm (WD P d j)), s15, s16, s17, .un, .un, .un, .un, .un, .un, .un, .un, .un] g = some (.lst [.int (maxW P.nm (WD P d j))], g) := by
      simp only [Bool.false_eq_true, Nat.zero_add, Nat.reduceAdd, Nat.reduceLeDiff, lineB_val, Nat.reduceLT, Nat.zero_lt_succ, Nat.lt_add_one, reduceIte, Nat.one_pos, Nat.lt_irrefl, and_self, and_true, true_and, ne_eq, not_false_eq_true, not_true_eq_false, Nat.reduceEqDiff, Nat.reduceBEq, if_true, if_false, Bool.true_and, Bool.and_true, Bool.false_and, Bool.and_false, Bool.not_true, Bool.not_false, Bool.not_not, decide_true, decide_false, evB, evX, evE, evT, evS, evA, evI, bindT, bindTs, List.getElem?_cons_zero, List.getElem?_cons_succ, List.set_cons_zero, List.set_cons_succ, List.length_cons, List.length_nil, op2_add, op2_sub, cmpD_lt, cmpD_le, cmpD_gt, cmpD_ge, cmpD_eq, cmpD_ne, tru_bl, items_tup, items_lst, items_fro, items_ref, items_rt, still_tup, still_lst, still_fro, at0, at1, at2, at3, at4, at5, at6, at7, at8, Option.map_some, elate]
      rfl
    have y3 : cmpD .ne (.lst [.int (maxW P.nm (WD P d j))]) (.lst [.int (maxW P.nm (WD P d j))]) = some false := by
      have h := Sh.lst (n := 0) (Shs.cons (.int (maxW P.nm (WD P d j))) .nil)
      have h2 := eqD_sh h h (by decide)
      rw [PySem.PyData.eqv, PySem.PyData.eqvAll, PySem.PyData.eqvAll, PySem.PyData.eqv, beq_self_eq_true] at h2
      show (eqD (.lst [.int (maxW P.nm (WD P d j))]) (.lst [.int (maxW P.nm (WD P d j))])).map (!·) = some false
      rw [h2]
      rfl
    rw [evT, evE, evS, y2]
    simp only [evS, y1, y3, tru_bl]
  have t3 : evT (runN T Γ k) Γ (.and (.e (.notN (.var 7))) (.e (.cmp .gt (.e (.len (.e (.lc [26] (.name 26) (.range1 (.len (.e (.var 14)))) K_law_3 E_law_4)))) (.e (.int 0))))) [s0, .val (.ref 2), .val (plD P), .val (rt d), .val (tabD P.nm P.nc (offs P d)), .val (ib (rdA P d) (rdA P d + 1)), .val (.int (rdA P d + (rdA P d + 1))), .val b, .val (.int j), .un, .un, .un, .un, .un, .val (wsD P.nm (WD P d j)), s15, s16, s17, .un, .un, .un, .un, .un, .un, .un, .un, .un] g = some (false, g) := by
    rcases hb with rfl | ⟨w, rfl, hw2⟩
    · simp only [Bool.false_eq_true, Nat.zero_add, Nat.reduceAdd, Nat.reduceLeDiff, lineB_val, Nat.reduceLT, Nat.zero_lt_succ, Nat.lt_add_one, reduceIte, Nat.one_pos, Nat.lt_irrefl, and_self, and_true, true_and, ne_eq, not_false_eq_true, not_true_eq_false, Nat.reduceEqDiff, Nat.reduceBEq, if_true, if_false, Bool.true_and, Bool.and_true, Bool.false_and, Bool.and_false, Bool.not_true, Bool.not_false, Bool.not_not, decide_true, decide_false, evB, evX, evE, evT, evS, evA, evI, bindT, bindTs, List.getElem?_cons_zero, List.getElem?_cons_succ, List.set_cons_zero, List.set_cons_succ, List.length_cons, List.length_nil, op2_add, op2_sub, cmpD_lt, cmpD_le, cmpD_gt, cmpD_ge, cmpD_eq, cmpD_ne, tru_bl, items_tup, items_lst, items_fro, items_ref, items_rt, still_tup, still_lst, still_fro, at0, at1, at2, at3, at4, at5, at6, at7, at8, Option.map_some, isNon]
    · have l1 : evE (runN T Γ k) Γ (.len (.e (.var 14))) [s0, .val (.ref 2), .val (plD P), .val (rt d), .val (tabD P.nm P.nc (offs P d)), .val (ib (rdA P d) (rdA P d + 1)), .val (.int (rdA P d + (rdA P d + 1))), .val (wsD P.nm w), .val (.int j), .un, .un, .un, .un, .un, .val (wsD P.nm (WD P d j)), s15, s16, s17, .un, .un, .un, .un, .un, .un, .un, .un, .un] g = some (.int (P.nm : Int), g) := by
        unfold wsD
        simp only [Bool.false_eq_true, Nat.zero_add, Nat.reduceAdd, Nat.reduceLeDiff, lineB_val, Nat.reduceLT, Nat.zero_lt_succ, Nat.lt_add_one, reduceIte, Nat.one_pos, Nat.lt_irrefl, and_self, and_true, true_and, ne_eq, not_false_eq_true, not_true_eq_false, Nat.reduceEqDiff, Nat.reduceBEq, if_true, if_false, Bool.true_and, Bool.and_true, Bool.false_and, Bool.and_false, Bool.not_true, Bool.not_false, Bool.not_not, decide_true, decide_false, evB, evX, evE, evT, evS, evA, evI, bindT, bindTs, List.getElem?_cons_zero, List.getElem?_cons_succ, List.set_cons_zero, List.set_cons_succ, List.length_cons, List.length_nil, op2_add, op2_sub, cmpD_lt, cmpD_le, cmpD_gt, cmpD_ge, cmpD_eq, cmpD_ne, tru_bl, items_tup, items_lst, items_fro, items_ref, items_rt, still_tup, still_lst, still_fro, at0, at1, at2, at3, at4, at5, at6, at7, at8, Option.map_some, List.length_map, List.length_range]
      have lc3 : evE (runN T Γ k) Γ (.lc [26] (.name 26) (.range1 (.len (.e (.var 14)))) K_law_3 E_law_4) [s0, .val (.ref 2), .val (plD P), .val (rt d), .val (tabD P.nm P.nc (offs P d)), .val (ib (rdA P d) (rdA P d + 1)), .val (.int (rdA P d + (rdA P d + 1))), .val (wsD P.nm w), .val (.int j), .un, .un, .un, .un, .un, .val (wsD P.nm (WD P d j)), s15, s16, s17, .un, .un, .un, .un, .un, .un, .un, .un, .un] g = some (.lst [], g) := by
        have l2 := lc_filterm (own := [26]) (t := .name 26) (cond := evT (runN T Γ k) Γ K_law_3) (elt := evE (runN T Γ k) Γ E_law_4) (E := [s0, .val (.ref 2), .val (plD P), .val (rt d), .val (tabD P.nm P.nc (offs P d)), .val (ib (rdA P d) (rdA P d + 1)), .val (.int (rdA P d + (rdA P d + 1))), .val (wsD P.nm w), .val (.int j), .un, .un, .un, .un, .un, .val (wsD P.nm (WD P d j)), s15, s16, s17, .un, .un, .un, .un, .un, .un, .un, .un, .un]) (g := g) (fun x : Nat => D.int (x : Int)) (fun _ => .int 1) (fun _ => false) (List.range P.nm) fun n hn => ⟨_, rfl, by
          have h1 := wsD_at (w := w) (List.mem_range.mp hn)
          have h2 := wsD_at (w := WD P d j) (List.mem_range.mp hn)
          have h3 : ¬ (WD P d j n < w n) := by have := hw2 n (List.mem_range.mp hn); omega
          unfold K_law_3 wsD
          simp only [Bool.false_eq_true, Nat.zero_add, Nat.reduceAdd, Nat.reduceLeDiff, lineB_val, Nat.reduceLT, Nat.zero_lt_succ, Nat.lt_add_one, reduceIte, Nat.one_pos, Nat.lt_irrefl, and_self, and_true, true_and, ne_eq, not_false_eq_true, not_true_eq_false, Nat.reduceEqDiff, Nat.reduceBEq, if_true, if_false, Bool.true_and, Bool.and_true, Bool.false_and, Bool.and_false, Bool.not_true, Bool.not_false, Bool.not_not, decide_true, decide_false, evB, evX, evE, evT, evS, evA, evI, bindT, bindTs, List.getElem?_cons_zero, List.getElem?_cons_succ, List.set_cons_zero, List.set_cons_succ, List.length_cons, List.length_nil, op2_add, op2_sub, cmpD_lt, cmpD_le, cmpD_gt, cmpD_ge, cmpD_eq, cmpD_ne, tru_bl, items_tup, items_lst, items_fro, items_ref, items_rt, still_tup, still_lst, still_fro, at0, at1, at2, at3, at4, at5, at6, at7, at8, Option.map_some, wipeE, h1, h2, h3], fun h => by cases h⟩
        rw [← intRow_map] at l2
        have l3 := evE_lc (evI_range1 l1 (by omega)) (by rw [intRow_length, lineB_val]; omega) l2
        rw [l3]
        simp
      have i0 : isNon (wsD P.nm w) = false := rfl
      rw [evT, evT, evE]
      simp only [evE, List.getElem?_cons_succ, List.getElem?_cons_zero, i0, Bool.not_false, tru_bl]
      rw [evT, evE, evS, evE, evS, lc3]
      simp only [Bool.false_eq_true, Nat.zero_add, Nat.reduceAdd, Nat.reduceLeDiff, lineB_val, Nat.reduceLT, Nat.zero_lt_succ, Nat.lt_add_one, reduceIte, Nat.one_pos, Nat.lt_irrefl, and_self, and_true, true_and, ne_eq, not_false_eq_true, not_true_eq_false, Nat.reduceEqDiff, Nat.reduceBEq, if_true, if_false, Bool.true_and, Bool.and_true, Bool.false_and, Bool.and_false, Bool.not_true, Bool.not_false, Bool.not_not, decide_true, decide_false, evB, evX, evE, evT, evS, evA, evI, bindT, bindTs, List.getElem?_cons_zero, List.getElem?_cons_succ, List.set_cons_zero, List.set_cons_succ, List.length_cons, List.length_nil, op2_add, op2_sub, cmpD_lt, cmpD_le, cmpD_gt, cmpD_ge, cmpD_eq, cmpD_ne, tru_bl, items_tup, items_lst, items_fro, items_ref, items_rt, still_tup, still_lst, still_fro, at0, at1, at2, at3, at4, at5, at6, at7, at8, Option.map_some, Int.natCast_zero, Int.ofNat_zero, Int.cast_ofNat_Int, Int.lt_irrefl]
  have t4 : evT (runN T Γ k) Γ (.or (.not (.e (.call 31 (.cons (.var 17) (.cons (.tup (.cons (.call 34 (.cons (.var 3) (.cons (.tup (.cons (.maxL (.e (.lcA [25] (.name 25) (.seq (.e (.var 14))) E_law_2))) (.cons (.int 1) .nil))) .nil))) .nil)) .nil))))) (.not (.e (.call 43 (.cons (.ix (.e (.call 28 (.cons (.var 15) (.cons (.var 16) .nil)))) (.int 0)) (.cons (.ix (.e (.var 17)) (.int 0)) .nil)))))) [s0, .val (.ref 2), .val (plD P), .val (rt d), .val (tabD P.nm P.nc (offs P d)), .val (ib (rdA P d) (rdA P d + 1)), .val (.int (rdA P d + (rdA P d + 1))), .val (wsD P.nm (WD P d j)), .val (.int j), .un, .un, .un, .un, .un, .val (wsD P.nm (WD P d j)), .val (.tup [rt (hf d)]), .val (.lst [.int (maxW P.nm (Wj P.nm P.nc (offs P (hf d)) (rdA P (hf d) + (rdA P (hf d) + 1)) j))]), .val (.tup [rt (d * ((maxW P.nm (WD P d j) : Int) : Rat))]), .un, .un, .un, .un, .un, .un, .un, .un, .un] g = some (false, g) := by
    have y1 : evA (runN T Γ k) Γ (.cons (.maxL (.e (.lcA [25] (.name 25) (.seq (.e (.var 14))) E_law_2))) (.cons (.int 1) .nil)) [s0, .val (.ref 2), .val (plD P), .val (rt d), .val (tabD P.nm P.nc (offs P d)), .val (ib (rdA P d) (rdA P d + 1)), .val (.int (rdA P d + (rdA P d + 1))), .val (wsD P.nm (WD P d j)), .val (.int j), .un, .un, .un, .un, .un, .val (wsD P.nm (WD P d j)), .val (.tup [rt (hf d)]), .val (.lst [.int (maxW P.nm (Wj P.nm P.nc (offs P (hf d)) (rdA P (hf d) + (rdA P (hf d) + 1)) j))]), .val (.tup [rt (d * ((maxW P.nm (WD P d j) : Int) : Rat))]), .un, .un, .un, .un, .un, .un, .un, .un, .un] g = some ([.int (maxW P.nm (WD P d j)), .int 1], g) := by
      rw [evA, mx]
      simp only [Bool.false_eq_true, Nat.zero_add, Nat.reduceAdd, Nat.reduceLeDiff, lineB_val, Nat.reduceLT, Nat.zero_lt_succ, Nat.lt_add_one, reduceIte, Nat.one_pos, Nat.lt_irrefl, and_self, and_true, true_and, ne_eq, not_false_eq_true, not_true_eq_false, Nat.reduceEqDiff, Nat.reduceBEq, if_true, if_false, Bool.true_and, Bool.and_true, Bool.false_and, Bool.and_false, Bool.not_true, Bool.not_false, Bool.not_not, decide_true, decide_false, evB, evX, evE, evT, evS, evA, evI, bindT, bindTs, List.getElem?_cons_zero, List.getElem?_cons_succ, List.set_cons_zero, List.set_cons_succ, List.length_cons, List.length_nil, op2_add, op2_sub, cmpD_lt, cmpD_le, cmpD_gt, cmpD_ge, cmpD_eq, cmpD_ne, tru_bl, items_tup, items_lst, items_fro, items_ref, items_rt, still_tup, still_lst, still_fro, at0, at1, at2, at3, at4, at5, at6, at7, at8, Option.map_some]
    have y2 : evE (runN T Γ k) Γ (.tup (.cons (.call 34 (.cons (.var 3) (.cons (.tup (.cons (.maxL (.e (.lcA [25] (.name 25) (.seq (.e (.var 14))) E_law_2))) (.cons (.int 1) .nil))) .nil))) .nil)) [s0, .val (.ref 2), .val (plD P), .val (rt d), .val (tabD P.nm P.nc (offs P d)), .val (ib (rdA P d) (rdA P d + 1)), .val (.int (rdA P d + (rdA P d + 1))), .val (wsD P.nm (WD P d j)), .val (.int j), .un, .un, .un, .un, .un, .val (wsD P.nm (WD P d j)), .val (.tup [rt (hf d)]), .val (.lst [.int (maxW P.nm (Wj P.nm P.nc (offs P (hf d)) (rdA P (hf d) + (rdA P (hf d) + 1)) j))]), .val (.tup [rt (d * ((maxW P.nm (WD P d j) : Int) : Rat))]), .un, .un, .un, .un, .un, .un, .un, .un, .un] g = some (.tup [rt (d * ((maxW P.nm (WD P d j) : Int) : Rat))], g) := by
      rw [evE, evA, evE, evA, evE]
      simp only [List.getElem?_cons_succ, List.getElem?_cons_zero]
      rw [evA, evE, y1]
      simp only [Bool.false_eq_true, Nat.zero_add, Nat.reduceAdd, Nat.reduceLeDiff, lineB_val, Nat.reduceLT, Nat.zero_lt_succ, Nat.lt_add_one, reduceIte, Nat.one_pos, Nat.lt_irrefl, and_self, and_true, true_and, ne_eq, not_false_eq_true, not_true_eq_false, Nat.reduceEqDiff, Nat.reduceBEq, if_true, if_false, Bool.true_and, Bool.and_true, Bool.false_and, Bool.and_false, Bool.not_true, Bool.not_false, Bool.not_not, decide_true, decide_false, evB, evX, evE, evT, evS, evA, evI, bindT, bindTs, List.getElem?_cons_zero, List.getElem?_cons_succ, List.set_cons_zero, List.set_cons_succ, List.length_cons, List.length_nil, op2_add, op2_sub, cmpD_lt, cmpD_le, cmpD_gt, cmpD_ge, cmpD_eq, cmpD_ne, tru_bl, items_tup, items_lst, items_fro, items_ref, items_rt, still_tup, still_lst, still_fro, at0, at1, at2, at3, at4, at5, at6, at7, at8, Option.map_some, emul]
    rw [evT, evT, evT, evE, evA, evE]
    simp only [List.getElem?_cons_succ, List.getElem?_cons_zero]
    rw [evA, y2]
    simp only [Bool.false_eq_true, Nat.zero_add, Nat.reduceAdd, Nat.reduceLeDiff, lineB_val, Nat.reduceLT, Nat.zero_lt_succ, Nat.lt_add_one, reduceIte, Nat.one_pos, Nat.lt_irrefl, and_self, and_true, true_and, ne_eq, not_false_eq_true, not_true_eq_false, Nat.reduceEqDiff, Nat.reduceBEq, if_true, if_false, Bool.true_and, Bool.and_true, Bool.false_and, Bool.and_false, Bool.not_true, Bool.not_false, Bool.not_not, decide_true, decide_false, evB, evX, evE, evT, evS, evA, evI, bindT, bindTs, List.getElem?_cons_zero, List.getElem?_cons_succ, List.set_cons_zero, List.set_cons_succ, List.length_cons, List.length_nil, op2_add, op2_sub, cmpD_lt, cmpD_le, cmpD_gt, cmpD_ge, cmpD_eq, cmpD_ne, tru_bl, items_tup, items_lst, items_fro, items_ref, items_rt, still_tup, still_lst, still_fro, at0, at1, at2, at3, at4, at5, at6, at7, at8, Option.map_some, same3, ewh, ena]
  unfold L_law_5
  rw [evB_cons (E1 := [s0, .val (.ref 2), .val (plD P), .val (rt d), .val (tabD P.nm P.nc (offs P d)), .val (ib (rdA P d) (rdA P d + 1)), .val (.int (rdA P d + (rdA P d + 1))), .val b, .val (.int j), .un, .un, .un, .un, .un, .val (wsD P.nm (WD P d j)), s15, s16, s17, .un, .un, .un, .un, .un, .un, .un, .un, .un]) (g1 := g) (by simp only [Bool.false_eq_true, Nat.zero_add, Nat.reduceAdd, Nat.reduceLeDiff, lineB_val, Nat.reduceLT, Nat.zero_lt_succ, Nat.lt_add_one, reduceIte, Nat.one_pos, Nat.lt_irrefl, and_self, and_true, true_and, ne_eq, not_false_eq_true, not_true_eq_false, Nat.reduceEqDiff, Nat.reduceBEq, if_true, if_false, Bool.true_and, Bool.and_true, Bool.false_and, Bool.and_false, Bool.not_true, Bool.not_false, Bool.not_not, decide_true, decide_false, evB, evX, evE, evT, evS, evA, evI, bindT, bindTs, List.getElem?_cons_zero, List.getElem?_cons_succ, List.set_cons_zero, List.set_cons_succ, List.length_cons, List.length_nil, op2_add, op2_sub, cmpD_lt, cmpD_le, cmpD_gt, cmpD_ge, cmpD_eq, cmpD_ne, tru_bl, items_tup, items_lst, items_fro, items_ref, items_rt, still_tup, still_lst, still_fro, at0, at1, at2, at3, at4, at5, at6, at7, at8, Option.map_some, e14]; rfl), evB_pass t1, evB_pass t2, evB_pass t3]
  rw [evB_cons (E1 := [s0, .val (.ref 2), .val (plD P), .val (rt d), .val (tabD P.nm P.nc (offs P d)), .val (ib (rdA P d) (rdA P d + 1)), .val (.int (rdA P d + (rdA P d + 1))), .val (wsD P.nm (WD P d j)), .val (.int j), .un, .un, .un, .un, .un, .val (wsD P.nm (WD P d j)), s15, s16, s17, .un, .un, .un, .un, .un, .un, .un, .un, .un]) (g1 := g) (by simp only [Bool.false_eq_true, Nat.zero_add, Nat.reduceAdd, Nat.reduceLeDiff, lineB_val, Nat.reduceLT, Nat.zero_lt_succ, Nat.lt_add_one, reduceIte, Nat.one_pos, Nat.lt_irrefl, and_self, and_true, true_and, ne_eq, not_false_eq_true, not_true_eq_false, Nat.reduceEqDiff, Nat.reduceBEq, if_true, if_false, Bool.true_and, Bool.and_true, Bool.false_and, Bool.and_false, Bool.not_true, Bool.not_false, Bool.not_not, decide_true, decide_false, evB, evX, evE, evT, evS, evA, evI, bindT, bindTs, List.getElem?_cons_zero, List.getElem?_cons_succ, List.set_cons_zero, List.set_cons_succ, List.length_cons, List.length_nil, op2_add, op2_sub, cmpD_lt, cmpD_le, cmpD_gt, cmpD_ge, cmpD_eq, cmpD_ne, tru_bl, items_tup, items_lst, items_fro, items_ref, items_rt, still_tup, still_lst, still_fro, at0, at1, at2, at3, at4, at5, at6, at7, at8, Option.map_some])]
  rw [evB_cons (E1 := [s0, .val (.ref 2), .val (plD P), .val (rt d), .val (tabD P.nm P.nc (offs P d)), .val (ib (rdA P d) (rdA P d + 1)), .val (.int (rdA P d + (rdA P d + 1))), .val (wsD P.nm (WD P d j)), .val (.int j), .un, .un, .un, .un, .un, .val (wsD P.nm (WD P d j)), .val (.tup [rt (hf d)]), s16, s17, .un, .un, .un, .un, .un, .un, .un, .un, .un]) (g1 := g) (by simp only [Bool.false_eq_true, Nat.zero_add, Nat.reduceAdd, Nat.reduceLeDiff, lineB_val, Nat.reduceLT, Nat.zero_lt_succ, Nat.lt_add_one, reduceIte, Nat.one_pos, Nat.lt_irrefl, and_self, and_true, true_and, ne_eq, not_false_eq_true, not_true_eq_false, Nat.reduceEqDiff, Nat.reduceBEq, if_true, if_false, Bool.true_and, Bool.and_true, Bool.false_and, Bool.and_false, Bool.not_true, Bool.not_false, Bool.not_not, decide_true, decide_false, evB, evX, evE, evT, evS, evA, evI, bindT, bindTs, List.getElem?_cons_zero, List.getElem?_cons_succ, List.set_cons_zero, List.set_cons_succ, List.length_cons, List.length_nil, op2_add, op2_sub, cmpD_lt, cmpD_le, cmpD_gt, cmpD_ge, cmpD_eq, cmpD_ne, tru_bl, items_tup, items_lst, items_fro, items_ref, items_rt, still_tup, still_lst, still_fro, at0, at1, at2, at3, at4, at5, at6, at7, at8, Option.map_some, ehalf])]
  rw [evB_cons (E1 := [s0, .val (.ref 2), .val (plD P), .val (rt d), .val (tabD P.nm P.nc (offs P d)), .val (ib (rdA P d) (rdA P d + 1)), .val (.int (rdA P d + (rdA P d + 1))), .val (wsD P.nm (WD P d j)), .val (.int j), .un, .un, .un, .un, .un, .val (wsD P.nm (WD P d j)), .val (.tup [rt (hf d)]), .val (.lst [.int (maxW P.nm (Wj P.nm P.nc (offs P (hf d)) (rdA P (hf d) + (rdA P (hf d) + 1)) j))]), s17, .un, .un, .un, .un, .un, .un, .un, .un, .un]) (g1 := g) (by simp only [Bool.false_eq_true, Nat.zero_add, Nat.reduceAdd, Nat.reduceLeDiff, lineB_val, Nat.reduceLT, Nat.zero_lt_succ, Nat.lt_add_one, reduceIte, Nat.one_pos, Nat.lt_irrefl, and_self, and_true, true_and, ne_eq, not_false_eq_true, not_true_eq_false, Nat.reduceEqDiff, Nat.reduceBEq, if_true, if_false, Bool.true_and, Bool.and_true, Bool.false_and, Bool.and_false, Bool.not_true, Bool.not_false, Bool.not_not, decide_true, decide_false, evB, evX, evE, evT, evS, evA, evI, bindT, bindTs, List.getElem?_cons_zero, List.getElem?_cons_succ, List.set_cons_zero, List.set_cons_succ, List.length_cons, List.length_nil, op2_add, op2_sub, cmpD_lt, cmpD_le, cmpD_gt, cmpD_ge, cmpD_eq, cmpD_ne, tru_bl, items_tup, items_lst, items_fro, items_ref, items_rt, still_tup, still_lst, still_fro, at0, at1, at2, at3, at4, at5, at6, at7, at8, Option.map_some, eoh, erh, elh])]
  rw [evB_cons (E1 := [s0, .val (.ref 2), .val (plD P), .val (rt d), .val (tabD P.nm P.nc (offs P d)), .val (ib (rdA P d) (rdA P d + 1)), .val (.int (rdA P d + (rdA P d + 1))), .val (wsD P.nm (WD P d j)), .val (.int j), .un, .un, .un, .un, .un, .val (wsD P.nm (WD P d j)), .val (.tup [rt (hf d)]), .val (.lst [.int (maxW P.nm (Wj P.nm P.nc (offs P (hf d)) (rdA P (hf d) + (rdA P (hf d) + 1)) j))]), .val (.tup [rt (d * ((maxW P.nm (WD P d j) : Int) : Rat))]), .un, .un, .un, .un, .un, .un, .un, .un, .un]) (g1 := g) (by
    have ew' := ew
    unfold WD at ew' ⊢
    simp only [Bool.false_eq_true, Nat.zero_add, Nat.reduceAdd, Nat.reduceLeDiff, lineB_val, Nat.reduceLT, Nat.zero_lt_succ, Nat.lt_add_one, reduceIte, Nat.one_pos, Nat.lt_irrefl, and_self, and_true, true_and, ne_eq, not_false_eq_true, not_true_eq_false, Nat.reduceEqDiff, Nat.reduceBEq, if_true, if_false, Bool.true_and, Bool.and_true, Bool.false_and, Bool.and_false, Bool.not_true, Bool.not_false, Bool.not_not, decide_true, decide_false, evB, evX, evE, evT, evS, evA, evI, bindT, bindTs, List.getElem?_cons_zero, List.getElem?_cons_succ, List.set_cons_zero, List.set_cons_succ, List.length_cons, List.length_nil, op2_add, op2_sub, cmpD_lt, cmpD_le, cmpD_gt, cmpD_ge, cmpD_eq, cmpD_ne, tru_bl, items_tup, items_lst, items_fro, items_ref, items_rt, still_tup, still_lst, still_fro, at0, at1, at2, at3, at4, at5, at6, at7, at8, Option.map_some, elate, ew'])]
  rw [evB_pass t4, evB_nil]
end
end K48

set_option linter.all false
set_option maxRecDepth 100000
set_option Elab.async false
set_option exponentiation.threshold 100000
namespace K48
open DP
section
variable {k N m c n : Nat} {g : Gs} {P : Pl} {d lo hi x : Rat}
theorem part_le {p : Int} (h1 : 0 ≤ p) (h2 : p < 5) : 0 ≤ Rat.divInt p 4 ∧ Rat.divInt p 4 ≤ 1 := by
  refine ⟨Rat.divInt_nonneg h1 (by decide), ?_⟩
  have := divInt_le (a := p) (b := 4) (d := 4) (by decide) (by omega)
  have e : Rat.divInt 4 4 = 1 := by decide +kernel
  rwa [e] at this
theorem run_between (hk : 3 < k) (G : GD N g) (hN : N ≤ 90000) (zl : Z n lo) (zh : Z n hi) (hn : n ≤ 1000) (h : lo ≤ hi) : ∃ v g', runN T Γ k f_law_between [.ref 2, rt lo, rt hi] g = some (rt v, g') ∧ GD (N + 1) g' ∧ lo ≤ v ∧ v ≤ hi ∧ Z (3 * n + 6) v := by
  obtain ⟨k, rfl⟩ : ∃ k', k = k' + 1 := ⟨k - 1, by omega⟩
  rw [run_eq T_law_between rfl]
  obtain ⟨p, g1, p1, q1, e1, G1⟩ := run_take (k := k) (by omega) G (by omega) (show (0 : Int) < 5 by decide)
  have zw : Z (n + n + 1) (hi - lo) := by rw [Rat.sub_eq_add_neg]; exact zh.add zl.neg
  have e2 := run_minus_rt (g := g1) (k := k) (by omega) zh zl (by omega)
  have bp : Bd 3 p := by unfold Bd; omega
  have b4 : Bd 3 (4 : Int) := by unfold Bd; decide
  have e3 := run_law_ratio (g := g1) (k := k) (p := (hi - lo).num * p) (q := (hi - lo).den * 4) (by omega) (by have := den_pos (hi - lo); omega) (zw.num.mul bp) (zw.den.mul b4) (by omega)
  have ef : Rat.divInt ((hi - lo).num * p) ((hi - lo).den * 4) = (hi - lo) * Rat.divInt p 4 := by
    rw [← Rat.divInt_mul_divInt, dv]
  rw [ef] at e3
  have zp : Z 3 (Rat.divInt p 4) := divInt_Z bp b4 (by decide)
  have zf : Z (n + n + 1 + 3) ((hi - lo) * Rat.divInt p 4) := zw.mul zp (by omega)
  have e4 := run_plus_rt (g := g1) (k := k) (by omega) zl zf (by omega)
  have hw : 0 ≤ hi - lo := Rat.le_iff_sub_nonneg _ _ |>.mp h
  obtain ⟨h1, h2⟩ := part_le p1 q1
  refine ⟨lo + (hi - lo) * Rat.divInt p 4, g1, ?_, G1, ?_, ?_, (zl.add zf).mono (by omega)⟩
  · show res (evB _ _ B_law_between [.val (.ref 2), .val (rt lo), .val (rt hi), .un, .un] g) = _
    unfold B_law_between
    simp only [Bool.false_eq_true, Nat.zero_add, Nat.reduceAdd, Nat.reduceLeDiff, lineB_val, Nat.reduceLT, Nat.zero_lt_succ, Nat.lt_add_one, reduceIte, Nat.one_pos, Nat.lt_irrefl, and_self, and_true, true_and, ne_eq, not_false_eq_true, not_true_eq_false, Nat.reduceEqDiff, Nat.reduceBEq, if_true, if_false, Bool.true_and, Bool.and_true, Bool.false_and, Bool.and_false, Bool.not_true, Bool.not_false, Bool.not_not, decide_true, decide_false, evB, evX, evE, evT, evS, evA, evI, bindT, bindTs, List.getElem?_cons_zero, List.getElem?_cons_succ, List.set_cons_zero, List.set_cons_succ, List.length_cons, List.length_nil, op2_add, op2_sub, cmpD_lt, cmpD_le, cmpD_gt, cmpD_ge, cmpD_eq, cmpD_ne, tru_bl, items_tup, items_lst, items_fro, items_ref, items_rt, still_tup, still_lst, still_fro, at0, at1, at2, at3, at4, at5, at6, at7, at8, Option.map_some, e1, e2, op2_mul zw.num bp (by omega), op2_mul zw.den b4 (by omega), e3, e4, res]
  · have := Rat.add_le_add_left (c := lo).mpr (Rat.mul_nonneg hw h1)
    rwa [Rat.add_zero] at this
  · have h3 := Rat.mul_le_mul_of_nonneg_left h2 hw
    rw [Rat.mul_one] at h3
    have h4 := Rat.add_le_add_left (c := lo).mpr h3
    have e : lo + (hi - lo) = hi := by rw [Rat.add_comm, Rat.sub_add_cancel]
    rwa [e] at h4
theorem run_inside (hk : 2 < k) {a b : Int} (zx : Z n x) (zd : Z 20 d) (ba : Bd 2000 a) (bb : Bd 2000 b) (hn : n ≤ 2000) (h1 : d * (a : Rat) ≤ x) (h2 : x ≤ d * (b : Rat)) : runN T Γ k f_law_inside [rt x, rt d, .tup [.int a, .int b]] g = some (.bl true, g) := by
  obtain ⟨k, rfl⟩ : ∃ k', k = k' + 1 := ⟨k - 1, by omega⟩
  rw [run_eq T_law_inside rfl]
  show res (evB _ _ B_law_inside [.val (rt x), .val (rt d), .val (.tup [.int a, .int b])] g) = _
  have e1 : runN T Γ k f_law_mult [rt d, .tup [.int a, .int 1]] g = some (rt (d * (a : Rat)), g) := run_mult_rt (t := (a : Rat)) (by omega) zd (Z.int ba (by decide)) (by decide)
  have e2 : runN T Γ k f_law_mult [rt d, .tup [.int b, .int 1]] g = some (rt (d * (b : Rat)), g) := run_mult_rt (t := (b : Rat)) (by omega) zd (Z.int bb (by decide)) (by decide)
  have za := zd.mul (Z.int ba (by decide)) (by decide)
  have zb := zd.mul (Z.int bb (by decide)) (by decide)
  have n1 := run_na_rt (g := g) (k := k) (by omega) za zx (by omega)
  have n2 := run_na_rt (g := g) (k := k) (by omega) zx zb (by omega)
  rw [decide_eq_true h1] at n1
  rw [decide_eq_true h2] at n2
  unfold B_law_inside
  simp only [Bool.false_eq_true, Nat.zero_add, Nat.reduceAdd, Nat.reduceLeDiff, lineB_val, Nat.reduceLT, Nat.zero_lt_succ, Nat.lt_add_one, reduceIte, Nat.one_pos, Nat.lt_irrefl, and_self, and_true, true_and, ne_eq, not_false_eq_true, not_true_eq_false, Nat.reduceEqDiff, Nat.reduceBEq, if_true, if_false, Bool.true_and, Bool.and_true, Bool.false_and, Bool.and_false, Bool.not_true, Bool.not_false, Bool.not_not, decide_true, decide_false, evB, evX, evE, evT, evS, evA, evI, bindT, bindTs, List.getElem?_cons_zero, List.getElem?_cons_succ, List.set_cons_zero, List.set_cons_succ, List.length_cons, List.length_nil, op2_add, op2_sub, cmpD_lt, cmpD_le, cmpD_gt, cmpD_ge, cmpD_eq, cmpD_ne, tru_bl, items_tup, items_lst, items_fro, items_ref, items_rt, still_tup, still_lst, still_fro, at0, at1, at2, at3, at4, at5, at6, at7, at8, Option.map_some, e1, e2, n1, n2, res]
theorem run_row_has (hk : 4 < k) {e : Option (Int × Int)} (he : ∀ q, e = some q → Bd 3 q.1 ∧ Bd 3 q.2) (zx : Z n x) (hn : n ≤ 2000) : ∃ b, runN T Γ k f_law_row_has [.tup [edD e, .int 0], .tup [rt x]] g = some (.bl b, g) := by
  obtain ⟨k, rfl⟩ : ∃ k', k = k' + 1 := ⟨k - 1, by omega⟩
  rw [run_eq T_law_row_has rfl]
  show ∃ b, res (evB _ _ B_law_row_has [.val (.tup [edD e, .int 0]), .val (.tup [rt x]), .un] g) = _
  cases e with
  | none =>
    unfold B_law_row_has edD
    simp only [Bool.false_eq_true, Nat.zero_add, Nat.reduceAdd, Nat.reduceLeDiff, lineB_val, Nat.reduceLT, Nat.zero_lt_succ, Nat.lt_add_one, reduceIte, Nat.one_pos, Nat.lt_irrefl, and_self, and_true, true_and, ne_eq, not_false_eq_true, not_true_eq_false, Nat.reduceEqDiff, Nat.reduceBEq, if_true, if_false, Bool.true_and, Bool.and_true, Bool.false_and, Bool.and_false, Bool.not_true, Bool.not_false, Bool.not_not, decide_true, decide_false, evB, evX, evE, evT, evS, evA, evI, bindT, bindTs, List.getElem?_cons_zero, List.getElem?_cons_succ, List.set_cons_zero, List.set_cons_succ, List.length_cons, List.length_nil, op2_add, op2_sub, cmpD_lt, cmpD_le, cmpD_gt, cmpD_ge, cmpD_eq, cmpD_ne, tru_bl, items_tup, items_lst, items_fro, items_ref, items_rt, still_tup, still_lst, still_fro, at0, at1, at2, at3, at4, at5, at6, at7, at8, Option.map_some, lcRun, wipeE, res]
    exact ⟨_, rfl⟩
  | some q =>
    obtain ⟨b1, b2⟩ := he q rfl
    have o1 : Bd 3 (1 : Int) := by unfold Bd; decide
    obtain ⟨s, t⟩ := q
    have kp : ∃ b, runN T Γ k f_law_keeps [.tup [.tup [pr s 1], pr (-t) 1, .bl false], .tup [rt x]] g = some (.bl b, g) := by
      obtain ⟨k, rfl⟩ : ∃ k', k = k' + 1 := ⟨k - 1, by omega⟩
      rw [run_eq T_law_keeps rfl]
      have zm : Z (3 + n) (Rat.divInt s 1 * x) := (divInt_Z b1 o1 (by decide)).mul zx (by omega)
      have hh : ∃ y : Rat, runN T Γ k f_law_height [.tup [.tup [pr s 1], pr (-t) 1, .bl false], .tup [rt x]] g = some (rt y, g) := by
        obtain ⟨k, rfl⟩ : ∃ k', k = k' + 1 := ⟨k - 1, by omega⟩
        rw [run_eq T_law_height rfl]
        have e1 : runN T Γ k f_law_mult [pr s 1, rt x] g = some (rt (Rat.divInt s 1 * x), g) := by
          have := run_law_mult (g := g) (k := k) (by omega) (show (0 : Int) < 1 by decide) (den_pos x) b1 o1 zx.num zx.den (by omega)
          rwa [dv] at this
        have e2 : runN T Γ k f_law_plus [pr (-t) 1, rt (Rat.divInt s 1 * x)] g = some (rt (Rat.divInt (-t) 1 + Rat.divInt s 1 * x), g) := by
          have := run_law_plus (g := g) (k := k) (by omega) (show (0 : Int) < 1 by decide) (den_pos (Rat.divInt s 1 * x)) b2.neg o1 zm.num zm.den (by omega)
          rwa [dv] at this
        have r : (-(2 ^ 62) ≤ (1 : Int) ∧ (1 : Int) < 2 ^ 62) := by decide
        have ei : intRow 0 (Int.toNat 1) = [.int 0] := rfl
        refine ⟨Rat.divInt (-t) 1 + Rat.divInt s 1 * x, ?_⟩
        show res (evB _ _ B_law_height [.val (.tup [.tup [pr s 1], pr (-t) 1, .bl false]), .val (.tup [rt x]), .un, .un] g) = _
        unfold B_law_height
        simp only [Bool.false_eq_true, Nat.zero_add, Nat.reduceAdd, Nat.reduceLeDiff, lineB_val, Nat.reduceLT, Nat.zero_lt_succ, Nat.lt_add_one, reduceIte, Nat.one_pos, Nat.lt_irrefl, and_self, and_true, true_and, ne_eq, not_false_eq_true, not_true_eq_false, Nat.reduceEqDiff, Nat.reduceBEq, if_true, if_false, Bool.true_and, Bool.and_true, Bool.false_and, Bool.and_false, Bool.not_true, Bool.not_false, Bool.not_not, decide_true, decide_false, evB, evX, evE, evT, evS, evA, evI, bindT, bindTs, List.getElem?_cons_zero, List.getElem?_cons_succ, List.set_cons_zero, List.set_cons_succ, List.length_cons, List.length_nil, op2_add, op2_sub, cmpD_lt, cmpD_le, cmpD_gt, cmpD_ge, cmpD_eq, cmpD_ne, tru_bl, items_tup, items_lst, items_fro, items_ref, items_rt, still_tup, still_lst, still_fro, at0, at1, at2, at3, at4, at5, at6, at7, at8, Option.map_some, Int.cast_ofNat_Int, Int.natCast_one, Int.ofNat_one, r, ei, loopRun, L_law_height_1, e1, e2, res]
      obtain ⟨y, e3⟩ := hh
      show ∃ b, res (evB _ _ B_law_keeps [.val (.tup [.tup [pr s 1], pr (-t) 1, .bl false]), .val (.tup [rt x]), .un] g) = _
      unfold B_law_keeps
      by_cases h1 : 0 < y.num
      · refine ⟨true, ?_⟩
        simp only [Bool.false_eq_true, Nat.zero_add, Nat.reduceAdd, Nat.reduceLeDiff, lineB_val, Nat.reduceLT, Nat.zero_lt_succ, Nat.lt_add_one, reduceIte, Nat.one_pos, Nat.lt_irrefl, and_self, and_true, true_and, ne_eq, not_false_eq_true, not_true_eq_false, Nat.reduceEqDiff, Nat.reduceBEq, if_true, if_false, Bool.true_and, Bool.and_true, Bool.false_and, Bool.and_false, Bool.not_true, Bool.not_false, Bool.not_not, decide_true, decide_false, evB, evX, evE, evT, evS, evA, evI, bindT, bindTs, List.getElem?_cons_zero, List.getElem?_cons_succ, List.set_cons_zero, List.set_cons_succ, List.length_cons, List.length_nil, op2_add, op2_sub, cmpD_lt, cmpD_le, cmpD_gt, cmpD_ge, cmpD_eq, cmpD_ne, tru_bl, items_tup, items_lst, items_fro, items_ref, items_rt, still_tup, still_lst, still_fro, at0, at1, at2, at3, at4, at5, at6, at7, at8, Option.map_some, e3, h1, res]
      · cases h2 : (y.num == 0) with
        | true => exact ⟨true, by simp only [Bool.false_eq_true, Nat.zero_add, Nat.reduceAdd, Nat.reduceLeDiff, lineB_val, Nat.reduceLT, Nat.zero_lt_succ, Nat.lt_add_one, reduceIte, Nat.one_pos, Nat.lt_irrefl, and_self, and_true, true_and, ne_eq, not_false_eq_true, not_true_eq_false, Nat.reduceEqDiff, Nat.reduceBEq, if_true, if_false, Bool.true_and, Bool.and_true, Bool.false_and, Bool.and_false, Bool.not_true, Bool.not_false, Bool.not_not, decide_true, decide_false, evB, evX, evE, evT, evS, evA, evI, bindT, bindTs, List.getElem?_cons_zero, List.getElem?_cons_succ, List.set_cons_zero, List.set_cons_succ, List.length_cons, List.length_nil, op2_add, op2_sub, cmpD_lt, cmpD_le, cmpD_gt, cmpD_ge, cmpD_eq, cmpD_ne, tru_bl, items_tup, items_lst, items_fro, items_ref, items_rt, still_tup, still_lst, still_fro, at0, at1, at2, at3, at4, at5, at6, at7, at8, Option.map_some, e3, h1, h2, res]⟩
        | false => exact ⟨false, by simp only [Bool.false_eq_true, Nat.zero_add, Nat.reduceAdd, Nat.reduceLeDiff, lineB_val, Nat.reduceLT, Nat.zero_lt_succ, Nat.lt_add_one, reduceIte, Nat.one_pos, Nat.lt_irrefl, and_self, and_true, true_and, ne_eq, not_false_eq_true, not_true_eq_false, Nat.reduceEqDiff, Nat.reduceBEq, if_true, if_false, Bool.true_and, Bool.and_true, Bool.false_and, Bool.and_false, Bool.not_true, Bool.not_false, Bool.not_not, decide_true, decide_false, evB, evX, evE, evT, evS, evA, evI, bindT, bindTs, List.getElem?_cons_zero, List.getElem?_cons_succ, List.set_cons_zero, List.set_cons_succ, List.length_cons, List.length_nil, op2_add, op2_sub, cmpD_lt, cmpD_le, cmpD_gt, cmpD_ge, cmpD_eq, cmpD_ne, tru_bl, items_tup, items_lst, items_fro, items_ref, items_rt, still_tup, still_lst, still_fro, at0, at1, at2, at3, at4, at5, at6, at7, at8, Option.map_some, e3, h1, h2, res]⟩
    obtain ⟨b, kp⟩ := kp
    unfold B_law_row_has edD
    cases b with
    | true =>
      simp only [Bool.false_eq_true, Nat.zero_add, Nat.reduceAdd, Nat.reduceLeDiff, lineB_val, Nat.reduceLT, Nat.zero_lt_succ, Nat.lt_add_one, reduceIte, Nat.one_pos, Nat.lt_irrefl, and_self, and_true, true_and, ne_eq, not_false_eq_true, not_true_eq_false, Nat.reduceEqDiff, Nat.reduceBEq, if_true, if_false, Bool.true_and, Bool.and_true, Bool.false_and, Bool.and_false, Bool.not_true, Bool.not_false, Bool.not_not, decide_true, decide_false, evB, evX, evE, evT, evS, evA, evI, bindT, bindTs, List.getElem?_cons_zero, List.getElem?_cons_succ, List.set_cons_zero, List.set_cons_succ, List.length_cons, List.length_nil, op2_add, op2_sub, cmpD_lt, cmpD_le, cmpD_gt, cmpD_ge, cmpD_eq, cmpD_ne, tru_bl, items_tup, items_lst, items_fro, items_ref, items_rt, still_tup, still_lst, still_fro, at0, at1, at2, at3, at4, at5, at6, at7, at8, Option.map_some, lcRun, wipeE, K_law_row_has_1, E_law_row_has_2, kp, res]
      exact ⟨_, rfl⟩
    | false =>
      simp only [Bool.false_eq_true, Nat.zero_add, Nat.reduceAdd, Nat.reduceLeDiff, lineB_val, Nat.reduceLT, Nat.zero_lt_succ, Nat.lt_add_one, reduceIte, Nat.one_pos, Nat.lt_irrefl, and_self, and_true, true_and, ne_eq, not_false_eq_true, not_true_eq_false, Nat.reduceEqDiff, Nat.reduceBEq, if_true, if_false, Bool.true_and, Bool.and_true, Bool.false_and, Bool.and_false, Bool.not_true, Bool.not_false, Bool.not_not, decide_true, decide_false, evB, evX, evE, evT, evS, evA, evI, bindT, bindTs, List.getElem?_cons_zero, List.getElem?_cons_succ, List.set_cons_zero, List.set_cons_succ, List.length_cons, List.length_nil, op2_add, op2_sub, cmpD_lt, cmpD_le, cmpD_gt, cmpD_ge, cmpD_eq, cmpD_ne, tru_bl, items_tup, items_lst, items_fro, items_ref, items_rt, still_tup, still_lst, still_fro, at0, at1, at2, at3, at4, at5, at6, at7, at8, Option.map_some, lcRun, wipeE, K_law_row_has_1, E_law_row_has_2, kp, res]
      exact ⟨_, rfl⟩
theorem run_reading (hk : 4 < k) (p : PlOk P) (G : GD N g) (hN : N ≤ 90000) (zx : Z n x) (zd : Z 10 d) (hd : 0 < d) (hn : n ≤ 2000) : ∃ e g', runN T Γ k f_law_reading [.ref 2, plD P, rt d, rt x] g = some (.int ((x + e) / d).floor, g') ∧ GD (N + 1) g' ∧ -P.err ≤ e ∧ e ≤ P.err := by
  obtain ⟨k, rfl⟩ : ∃ k', k = k' + 1 := ⟨k - 1, by omega⟩
  rw [run_eq T_law_reading rfl]
  have hle : -P.err ≤ P.err := Rat.le_trans (by have := Rat.neg_le_neg p.e0; simpa using this) p.e0
  obtain ⟨e, g', e1, G1, h1, h2, ze⟩ := run_between (k := k) (by omega) G hN p.ez.neg p.ez (by decide) hle
  have e2 := run_plus_rt (g := g') (k := k) (by omega) zx ze (by omega)
  have e3 := run_floor (g := g') (k := k) (by omega) (zx.add ze) zd hd (by omega) (by omega)
  refine ⟨e, g', ?_, G1, h1, h2⟩
  show res (evB _ _ B_law_reading [.val (.ref 2), .val (plD P), .val (rt d), .val (rt x), .un] g) = _
  unfold rt at e1
  rw [Rat.neg_num, Rat.neg_den] at e1
  unfold B_law_reading plD
  simp only [Bool.false_eq_true, Nat.zero_add, Nat.reduceAdd, Nat.reduceLeDiff, lineB_val, Nat.reduceLT, Nat.zero_lt_succ, Nat.lt_add_one, reduceIte, Nat.one_pos, Nat.lt_irrefl, and_self, and_true, true_and, ne_eq, not_false_eq_true, not_true_eq_false, Nat.reduceEqDiff, Nat.reduceBEq, if_true, if_false, Bool.true_and, Bool.and_true, Bool.false_and, Bool.and_false, Bool.not_true, Bool.not_false, Bool.not_not, decide_true, decide_false, evB, evX, evE, evT, evS, evA, evI, bindT, bindTs, List.getElem?_cons_zero, List.getElem?_cons_succ, List.set_cons_zero, List.set_cons_succ, List.length_cons, List.length_nil, op2_add, op2_sub, cmpD_lt, cmpD_le, cmpD_gt, cmpD_ge, cmpD_eq, cmpD_ne, tru_bl, items_tup, items_lst, items_fro, items_ref, items_rt, still_tup, still_lst, still_fro, at0, at1, at2, at3, at4, at5, at6, at7, at8, Option.map_some]
  unfold rt at e2 e3 ⊢
  simp only [Bool.false_eq_true, Nat.zero_add, Nat.reduceAdd, Nat.reduceLeDiff, lineB_val, Nat.reduceLT, Nat.zero_lt_succ, Nat.lt_add_one, reduceIte, Nat.one_pos, Nat.lt_irrefl, and_self, and_true, true_and, ne_eq, not_false_eq_true, not_true_eq_false, Nat.reduceEqDiff, Nat.reduceBEq, if_true, if_false, Bool.true_and, Bool.and_true, Bool.false_and, Bool.and_false, Bool.not_true, Bool.not_false, Bool.not_not, decide_true, decide_false, evB, evX, evE, evT, evS, evA, evI, bindT, bindTs, List.getElem?_cons_zero, List.getElem?_cons_succ, List.set_cons_zero, List.set_cons_succ, List.length_cons, List.length_nil, op2_add, op2_sub, cmpD_lt, cmpD_le, cmpD_gt, cmpD_ge, cmpD_eq, cmpD_ne, tru_bl, items_tup, items_lst, items_fro, items_ref, items_rt, still_tup, still_lst, still_fro, at0, at1, at2, at3, at4, at5, at6, at7, at8, Option.map_some, e1, e2, e3, res]
end
end K48

set_option linter.all false
set_option maxRecDepth 100000
set_option Elab.async false
set_option exponentiation.threshold 100000
namespace K48
open DP
section
variable {k N m c n : Nat} {g : Gs} {P : Pl} {d lo hi x : Rat}
theorem sw_at {i : Nat} (h : i < P.sw.length) : ∃ s, P.sw[i]? = some s ∧ s ∈ P.sw ∧ atI (P.sw.map swD) (i : Int) = some (swD s) := by
  refine ⟨P.sw[i], List.getElem?_eq_getElem h, List.getElem_mem h, atI_nat ?_⟩
  rw [List.getElem?_map, List.getElem?_eq_getElem h]; rfl
theorem ah_open (hk : 4 < k) (p : PlOk P) {here : Rat} (zh : Z n here) (hn : n ≤ 2000) {s6 s7 s8 s9 s10 s11 : Sl} : ∀ xs : List Nat, (∀ i ∈ xs, i < P.sw.length) → ∃ L : List Nat, lcRun [12] (.name 12) (evT (runN T Γ k) Γ K_law_ahead_1) (evE (runN T Γ k) Γ E_law_ahead_2) [.val (.ref 2), .val (plD P), .val (.int (m : Nat)), .val (.int (c : Nat)), .val (rt x), .val (rt here), s6, s7, s8, s9, s10, s11, .un] (xs.map fun (i : Nat) => .int (i : Int)) g = some (L.map fun (i : Nat) => .int (i : Int), g) ∧ L.length ≤ xs.length ∧ ∀ i ∈ L, ∃ s, P.sw[i]? = some s ∧ s.st = (m : Int)
  | [], _ => ⟨[], rfl, Nat.le_refl _, fun i hi => by cases hi⟩
  | i :: xs, h => by
    obtain ⟨L, e, hl, hL⟩ := ah_open hk p zh hn (s6 := s6) (s7 := s7) (s8 := s8) (s9 := s9) (s10 := s10) (s11 := s11) xs fun j hj => h j (List.mem_cons_of_mem _ hj)
    obtain ⟨s, e1, hs, e2⟩ := sw_at (h i List.mem_cons_self)
    obtain ⟨b, e3⟩ := run_row_has (g := g) hk (p.sw s hs).ed zh hn
    have bt : bindT (.name 12) (.int (i : Int)) (wipeE [.val (.ref 2), .val (plD P), .val (.int (m : Nat)), .val (.int (c : Nat)), .val (rt x), .val (rt here), s6, s7, s8, s9, s10, s11, .un] [12]) = some [.val (.ref 2), .val (plD P), .val (.int (m : Nat)), .val (.int (c : Nat)), .val (rt x), .val (rt here), s6, s7, s8, s9, s10, s11, .val (.int (i : Int))] := rfl
    have c1 : evT (runN T Γ k) Γ K_law_ahead_1 [.val (.ref 2), .val (plD P), .val (.int (m : Nat)), .val (.int (c : Nat)), .val (rt x), .val (rt here), s6, s7, s8, s9, s10, s11, .val (.int (i : Int))] g = some (s.st == (m : Int) && b, g) := by
      unfold K_law_ahead_1 plD
      simp only [Bool.false_eq_true, Nat.zero_add, Nat.reduceAdd, Nat.reduceLeDiff, lineB_val, Nat.reduceLT, Nat.zero_lt_succ, Nat.lt_add_one, reduceIte, Nat.one_pos, Nat.lt_irrefl, and_self, and_true, true_and, ne_eq, not_false_eq_true, not_true_eq_false, Nat.reduceEqDiff, Nat.reduceBEq, if_true, if_false, Bool.true_and, Bool.and_true, Bool.false_and, Bool.and_false, Bool.not_true, Bool.not_false, Bool.not_not, decide_true, decide_false, evB, evX, evE, evT, evS, evA, evI, bindT, bindTs, List.getElem?_cons_zero, List.getElem?_cons_succ, List.set_cons_zero, List.set_cons_succ, List.length_cons, List.length_nil, op2_add, op2_sub, cmpD_lt, cmpD_le, cmpD_gt, cmpD_ge, cmpD_eq, cmpD_ne, tru_bl, items_tup, items_lst, items_fro, items_ref, items_rt, still_tup, still_lst, still_fro, at0, at1, at2, at3, at4, at5, at6, at7, at8, Option.map_some, e2]
      unfold swD
      cases z : (s.st == (m : Int)) with
      | true => simp only [Bool.false_eq_true, Nat.zero_add, Nat.reduceAdd, Nat.reduceLeDiff, lineB_val, Nat.reduceLT, Nat.zero_lt_succ, Nat.lt_add_one, reduceIte, Nat.one_pos, Nat.lt_irrefl, and_self, and_true, true_and, ne_eq, not_false_eq_true, not_true_eq_false, Nat.reduceEqDiff, Nat.reduceBEq, if_true, if_false, Bool.true_and, Bool.and_true, Bool.false_and, Bool.and_false, Bool.not_true, Bool.not_false, Bool.not_not, decide_true, decide_false, evB, evX, evE, evT, evS, evA, evI, bindT, bindTs, List.getElem?_cons_zero, List.getElem?_cons_succ, List.set_cons_zero, List.set_cons_succ, List.length_cons, List.length_nil, op2_add, op2_sub, cmpD_lt, cmpD_le, cmpD_gt, cmpD_ge, cmpD_eq, cmpD_ne, tru_bl, items_tup, items_lst, items_fro, items_ref, items_rt, still_tup, still_lst, still_fro, at0, at1, at2, at3, at4, at5, at6, at7, at8, Option.map_some, z, e3]
      | false => simp only [Bool.false_eq_true, Nat.zero_add, Nat.reduceAdd, Nat.reduceLeDiff, lineB_val, Nat.reduceLT, Nat.zero_lt_succ, Nat.lt_add_one, reduceIte, Nat.one_pos, Nat.lt_irrefl, and_self, and_true, true_and, ne_eq, not_false_eq_true, not_true_eq_false, Nat.reduceEqDiff, Nat.reduceBEq, if_true, if_false, Bool.true_and, Bool.and_true, Bool.false_and, Bool.and_false, Bool.not_true, Bool.not_false, Bool.not_not, decide_true, decide_false, evB, evX, evE, evT, evS, evA, evI, bindT, bindTs, List.getElem?_cons_zero, List.getElem?_cons_succ, List.set_cons_zero, List.set_cons_succ, List.length_cons, List.length_nil, op2_add, op2_sub, cmpD_lt, cmpD_le, cmpD_gt, cmpD_ge, cmpD_eq, cmpD_ne, tru_bl, items_tup, items_lst, items_fro, items_ref, items_rt, still_tup, still_lst, still_fro, at0, at1, at2, at3, at4, at5, at6, at7, at8, Option.map_some, z]
    have c2 : evE (runN T Γ k) Γ E_law_ahead_2 [.val (.ref 2), .val (plD P), .val (.int (m : Nat)), .val (.int (c : Nat)), .val (rt x), .val (rt here), s6, s7, s8, s9, s10, s11, .val (.int (i : Int))] g = some (.int (i : Int), g) := by
      unfold E_law_ahead_2
      simp only [Bool.false_eq_true, Nat.zero_add, Nat.reduceAdd, Nat.reduceLeDiff, lineB_val, Nat.reduceLT, Nat.zero_lt_succ, Nat.lt_add_one, reduceIte, Nat.one_pos, Nat.lt_irrefl, and_self, and_true, true_and, ne_eq, not_false_eq_true, not_true_eq_false, Nat.reduceEqDiff, Nat.reduceBEq, if_true, if_false, Bool.true_and, Bool.and_true, Bool.false_and, Bool.and_false, Bool.not_true, Bool.not_false, Bool.not_not, decide_true, decide_false, evB, evX, evE, evT, evS, evA, evI, bindT, bindTs, List.getElem?_cons_zero, List.getElem?_cons_succ, List.set_cons_zero, List.set_cons_succ, List.length_cons, List.length_nil, op2_add, op2_sub, cmpD_lt, cmpD_le, cmpD_gt, cmpD_ge, cmpD_eq, cmpD_ne, tru_bl, items_tup, items_lst, items_fro, items_ref, items_rt, still_tup, still_lst, still_fro, at0, at1, at2, at3, at4, at5, at6, at7, at8, Option.map_some]
    cases z : (s.st == (m : Int) && b) with
    | true =>
      rw [z] at c1
      refine ⟨i :: L, ?_, by rw [List.length_cons, List.length_cons]; omega, fun j hj => ?_⟩
      · rw [List.map_cons, lcRun, bt]
        simp only
        rw [c1]
        simp only
        rw [c2]
        simp only
        rw [e]
        rfl
      · rcases List.mem_cons.mp hj with y | y
        · subst y
          exact ⟨s, e1, by simpa using (Bool.and_eq_true_iff.mp z).1⟩
        · exact hL j y
    | false =>
      rw [z] at c1
      refine ⟨L, ?_, by rw [List.length_cons]; omega, hL⟩
      rw [List.map_cons, lcRun, bt]
      simp only
      rw [c1]
      exact e
theorem must_eq (b : Bool) : cmpD .eq (.str (if b then "must" else "may")) (.str "must") = some b := by
  cases b <;> decide +kernel
theorem ah_must {here : Rat} {s6 s7 s8 s9 s10 s11 : Sl} : ∀ xs : List Nat, (∀ i ∈ xs, ∃ s, P.sw[i]? = some s ∧ s.st = (m : Int)) → ∃ L : List Nat, lcRun [12] (.name 12) (evT (runN T Γ k) Γ K_law_ahead_3) (evE (runN T Γ k) Γ E_law_ahead_2) [.val (.ref 2), .val (plD P), .val (.int (m : Nat)), .val (.int (c : Nat)), .val (rt x), .val (rt here), s6, s7, s8, s9, s10, s11, .un] (xs.map fun (i : Nat) => .int (i : Int)) g = some (L.map fun (i : Nat) => .int (i : Int), g) ∧ L.length ≤ xs.length ∧ ∀ i ∈ L, ∃ s, P.sw[i]? = some s ∧ s.st = (m : Int)
  | [], _ => ⟨[], rfl, Nat.le_refl _, fun i hi => by cases hi⟩
  | i :: xs, h => by
    obtain ⟨L, e, hl, hL⟩ := ah_must (here := here) (s6 := s6) (s7 := s7) (s8 := s8) (s9 := s9) (s10 := s10) (s11 := s11) xs fun j hj => h j (List.mem_cons_of_mem _ hj)
    obtain ⟨s, e1, hs⟩ := h i List.mem_cons_self
    obtain ⟨s', e1', _, e2⟩ := sw_at (P := P) (i := i) (List.getElem?_eq_some_iff.mp e1).1
    rw [e1] at e1'
    cases e1'
    have bt : bindT (.name 12) (.int (i : Int)) (wipeE [.val (.ref 2), .val (plD P), .val (.int (m : Nat)), .val (.int (c : Nat)), .val (rt x), .val (rt here), s6, s7, s8, s9, s10, s11, .un] [12]) = some [.val (.ref 2), .val (plD P), .val (.int (m : Nat)), .val (.int (c : Nat)), .val (rt x), .val (rt here), s6, s7, s8, s9, s10, s11, .val (.int (i : Int))] := rfl
    have c1 : evT (runN T Γ k) Γ K_law_ahead_3 [.val (.ref 2), .val (plD P), .val (.int (m : Nat)), .val (.int (c : Nat)), .val (rt x), .val (rt here), s6, s7, s8, s9, s10, s11, .val (.int (i : Int))] g = some (s.must, g) := by
      unfold K_law_ahead_3 plD
      simp only [Bool.false_eq_true, Nat.zero_add, Nat.reduceAdd, Nat.reduceLeDiff, lineB_val, Nat.reduceLT, Nat.zero_lt_succ, Nat.lt_add_one, reduceIte, Nat.one_pos, Nat.lt_irrefl, and_self, and_true, true_and, ne_eq, not_false_eq_true, not_true_eq_false, Nat.reduceEqDiff, Nat.reduceBEq, if_true, if_false, Bool.true_and, Bool.and_true, Bool.false_and, Bool.and_false, Bool.not_true, Bool.not_false, Bool.not_not, decide_true, decide_false, evB, evX, evE, evT, evS, evA, evI, bindT, bindTs, List.getElem?_cons_zero, List.getElem?_cons_succ, List.set_cons_zero, List.set_cons_succ, List.length_cons, List.length_nil, op2_add, op2_sub, cmpD_lt, cmpD_le, cmpD_gt, cmpD_ge, cmpD_eq, cmpD_ne, tru_bl, items_tup, items_lst, items_fro, items_ref, items_rt, still_tup, still_lst, still_fro, at0, at1, at2, at3, at4, at5, at6, at7, at8, Option.map_some, e2]
      unfold swD
      simp only [Bool.false_eq_true, Nat.zero_add, Nat.reduceAdd, Nat.reduceLeDiff, lineB_val, Nat.reduceLT, Nat.zero_lt_succ, Nat.lt_add_one, reduceIte, Nat.one_pos, Nat.lt_irrefl, and_self, and_true, true_and, ne_eq, not_false_eq_true, not_true_eq_false, Nat.reduceEqDiff, Nat.reduceBEq, if_true, if_false, Bool.true_and, Bool.and_true, Bool.false_and, Bool.and_false, Bool.not_true, Bool.not_false, Bool.not_not, decide_true, decide_false, evB, evX, evE, evT, evS, evA, evI, bindT, bindTs, List.getElem?_cons_zero, List.getElem?_cons_succ, List.set_cons_zero, List.set_cons_succ, List.length_cons, List.length_nil, op2_add, op2_sub, cmpD_lt, cmpD_le, cmpD_gt, cmpD_ge, cmpD_eq, cmpD_ne, tru_bl, items_tup, items_lst, items_fro, items_ref, items_rt, still_tup, still_lst, still_fro, at0, at1, at2, at3, at4, at5, at6, at7, at8, Option.map_some, must_eq]
    have c2 : evE (runN T Γ k) Γ E_law_ahead_2 [.val (.ref 2), .val (plD P), .val (.int (m : Nat)), .val (.int (c : Nat)), .val (rt x), .val (rt here), s6, s7, s8, s9, s10, s11, .val (.int (i : Int))] g = some (.int (i : Int), g) := by
      unfold E_law_ahead_2
      simp only [Bool.false_eq_true, Nat.zero_add, Nat.reduceAdd, Nat.reduceLeDiff, lineB_val, Nat.reduceLT, Nat.zero_lt_succ, Nat.lt_add_one, reduceIte, Nat.one_pos, Nat.lt_irrefl, and_self, and_true, true_and, ne_eq, not_false_eq_true, not_true_eq_false, Nat.reduceEqDiff, Nat.reduceBEq, if_true, if_false, Bool.true_and, Bool.and_true, Bool.false_and, Bool.and_false, Bool.not_true, Bool.not_false, Bool.not_not, decide_true, decide_false, evB, evX, evE, evT, evS, evA, evI, bindT, bindTs, List.getElem?_cons_zero, List.getElem?_cons_succ, List.set_cons_zero, List.set_cons_succ, List.length_cons, List.length_nil, op2_add, op2_sub, cmpD_lt, cmpD_le, cmpD_gt, cmpD_ge, cmpD_eq, cmpD_ne, tru_bl, items_tup, items_lst, items_fro, items_ref, items_rt, still_tup, still_lst, still_fro, at0, at1, at2, at3, at4, at5, at6, at7, at8, Option.map_some]
    cases z : s.must with
    | true =>
      rw [z] at c1
      refine ⟨i :: L, ?_, by rw [List.length_cons, List.length_cons]; omega, fun j hj => ?_⟩
      · rw [List.map_cons, lcRun, bt]
        simp only
        rw [c1]
        simp only
        rw [c2]
        simp only
        rw [e]
        rfl
      · rcases List.mem_cons.mp hj with y | y
        · subst y
          exact ⟨s, e1, hs⟩
        · exact hL j y
    | false =>
      rw [z] at c1
      refine ⟨L, ?_, by rw [List.length_cons]; omega, hL⟩
      rw [List.map_cons, lcRun, bt]
      simp only
      rw [c1]
      exact e
theorem run_ahead (hk : 6 < k) (p : PlOk P) (G : GD N g) (hN : N ≤ 80000) (hm : m < P.nm) (hc : c < P.nc) (zx : Z n x) (hn : n ≤ 1000) : ∃ (nw : Nat) (here later : Rat) (b : Rat × Rat) (g' : Gs), nw < P.nm ∧ runN T Γ k f_law_ahead [.ref 2, plD P, .int m, .int c, rt x] g = some (.tup [.int nw, rt here, rt later], g') ∧ GD (N + 3) g' ∧
    x + (bb P m c).1 ≤ here ∧ here ≤ x + (bb P m c).2 ∧ b ∈ boxes P m c nw ∧ x + b.1 ≤ later ∧ later ≤ x + b.2 ∧ Z (n + 70) here ∧ Z (n + 70) later := by
  obtain ⟨k, rfl⟩ : ∃ k', k = k' + 1 := ⟨k - 1, by omega⟩
  rw [run_eq T_law_ahead rfl]
  have r := rate_ok p hm hc
  obtain ⟨v, g1, e1, G1, h1, h2, zv⟩ := run_between (k := k) (by omega) G (by omega) r.z1 r.z2 (by decide) r.le
  have e2 := run_mult_rt (g := g1) (k := k) (by omega) p.bz zv (by decide)
  have zb := p.bz.mul zv (by decide)
  have e3 := run_plus_rt (g := g1) (k := k) (by omega) zx zb (by omega)
  have zh : Z (n + 27) (x + P.beat * v) := (zx.add zb).mono (by omega)
  have hb1 : (bb P m c).1 ≤ P.beat * v := by
    show (rate P m c).1 * P.beat ≤ _
    rw [Rat.mul_comm P.beat]
    exact Rat.mul_le_mul_of_nonneg_right h1 (Rat.le_of_lt p.b0)
  have hb2 : P.beat * v ≤ (bb P m c).2 := by
    show _ ≤ (rate P m c).2 * P.beat
    rw [Rat.mul_comm P.beat]
    exact Rat.mul_le_mul_of_nonneg_right h2 (Rat.le_of_lt p.b0)
  have hh1 := Rat.add_le_add_left (c := x).mpr hb1
  have hh2 := Rat.add_le_add_left (c := x).mpr hb2
  have s2 := p.s2
  obtain ⟨L, eL, lL, hL⟩ := ah_open (k := k) (g := g1) (c := c) (m := m) (x := x) (by omega) p zh (by omega) (s6 := .un) (s7 := .un) (s8 := .un) (s9 := .un) (s10 := .val (rt (rate P m c).1)) (s11 := .val (rt (rate P m c).2)) (List.range P.sw.length) fun i hi => List.mem_range.mp hi
  rw [← intRow_map] at eL
  rw [List.length_range] at lL
  obtain ⟨L2, eL2, lL2, hL2⟩ := ah_must (k := k) (g := g1) (c := c) (m := m) (x := x) (P := P) (here := x + P.beat * v) (s6 := .val (.lst (L.map fun (i : Nat) => .int (i : Int)))) (s7 := .un) (s8 := .un) (s9 := .un) (s10 := .val (rt (rate P m c).1)) (s11 := .val (rt (rate P m c).2)) L hL
  have a2 : atI ((rowL P.nc (P.rs.getD m (2, 0))).map bxs) (c : Int) = some (.tup [.tup [rt (rate P m c).1, rt (rate P m c).2]]) := at_row p hc
  have x1 : evX (runN T Γ k) Γ (.set (.tup [(.name 10), (.name 11)]) (.ix (.e (.ix (.e (.ix (.e (.ix (.e (.var 1)) (.int 5))) (.var 2))) (.var 3))) (.int 0))) [.val (.ref 2), .val (plD P), .val (.int (m : Nat)), .val (.int (c : Nat)), .val (rt x), .un, .un, .un, .un, .un, .un, .un, .un] g = some (.nx, [.val (.ref 2), .val (plD P), .val (.int (m : Nat)), .val (.int (c : Nat)), .val (rt x), .un, .un, .un, .un, .un, .val (rt (rate P m c).1), .val (rt (rate P m c).2), .un], g) := by
    unfold plD
    simp only [Bool.false_eq_true, Nat.zero_add, Nat.reduceAdd, Nat.reduceLeDiff, lineB_val, Nat.reduceLT, Nat.zero_lt_succ, Nat.lt_add_one, reduceIte, Nat.one_pos, Nat.lt_irrefl, and_self, and_true, true_and, ne_eq, not_false_eq_true, not_true_eq_false, Nat.reduceEqDiff, Nat.reduceBEq, if_true, if_false, Bool.true_and, Bool.and_true, Bool.false_and, Bool.and_false, Bool.not_true, Bool.not_false, Bool.not_not, decide_true, decide_false, evB, evX, evE, evT, evS, evA, evI, bindT, bindTs, List.getElem?_cons_zero, List.getElem?_cons_succ, List.set_cons_zero, List.set_cons_succ, List.length_cons, List.length_nil, op2_add, op2_sub, cmpD_lt, cmpD_le, cmpD_gt, cmpD_ge, cmpD_eq, cmpD_ne, tru_bl, items_tup, items_lst, items_fro, items_ref, items_rt, still_tup, still_lst, still_fro, at0, at1, at2, at3, at4, at5, at6, at7, at8, Option.map_some, at_rates p hm, a2]
  have x2 : evX (runN T Γ k) Γ (.set (.name 5) (.call 33 (.cons (.var 4) (.cons (.call 34 (.cons (.ix (.e (.var 1)) (.int 4)) (.cons (.call 51 (.cons (.var 0) (.cons (.var 10) (.cons (.var 11) .nil)))) .nil))) .nil)))) [.val (.ref 2), .val (plD P), .val (.int (m : Nat)), .val (.int (c : Nat)), .val (rt x), .un, .un, .un, .un, .un, .val (rt (rate P m c).1), .val (rt (rate P m c).2), .un] g = some (.nx, [.val (.ref 2), .val (plD P), .val (.int (m : Nat)), .val (.int (c : Nat)), .val (rt x), .val (rt (x + P.beat * v)), .un, .un, .un, .un, .val (rt (rate P m c).1), .val (rt (rate P m c).2), .un], g1) := by
    unfold plD
    simp only [Bool.false_eq_true, Nat.zero_add, Nat.reduceAdd, Nat.reduceLeDiff, lineB_val, Nat.reduceLT, Nat.zero_lt_succ, Nat.lt_add_one, reduceIte, Nat.one_pos, Nat.lt_irrefl, and_self, and_true, true_and, ne_eq, not_false_eq_true, not_true_eq_false, Nat.reduceEqDiff, Nat.reduceBEq, if_true, if_false, Bool.true_and, Bool.and_true, Bool.false_and, Bool.and_false, Bool.not_true, Bool.not_false, Bool.not_not, decide_true, decide_false, evB, evX, evE, evT, evS, evA, evI, bindT, bindTs, List.getElem?_cons_zero, List.getElem?_cons_succ, List.set_cons_zero, List.set_cons_succ, List.length_cons, List.length_nil, op2_add, op2_sub, cmpD_lt, cmpD_le, cmpD_gt, cmpD_ge, cmpD_eq, cmpD_ne, tru_bl, items_tup, items_lst, items_fro, items_ref, items_rt, still_tup, still_lst, still_fro, at0, at1, at2, at3, at4, at5, at6, at7, at8, Option.map_some, e1, e2, e3]
  have ln : evE (runN T Γ k) Γ (.len (.e (.ix (.e (.var 1)) (.int 6)))) [.val (.ref 2), .val (plD P), .val (.int (m : Nat)), .val (.int (c : Nat)), .val (rt x), .val (rt (x + P.beat * v)), .un, .un, .un, .un, .val (rt (rate P m c).1), .val (rt (rate P m c).2), .un] g1 = some (.int (P.sw.length : Int), g1) := by
    unfold plD
    simp only [Bool.false_eq_true, Nat.zero_add, Nat.reduceAdd, Nat.reduceLeDiff, lineB_val, Nat.reduceLT, Nat.zero_lt_succ, Nat.lt_add_one, reduceIte, Nat.one_pos, Nat.lt_irrefl, and_self, and_true, true_and, ne_eq, not_false_eq_true, not_true_eq_false, Nat.reduceEqDiff, Nat.reduceBEq, if_true, if_false, Bool.true_and, Bool.and_true, Bool.false_and, Bool.and_false, Bool.not_true, Bool.not_false, Bool.not_not, decide_true, decide_false, evB, evX, evE, evT, evS, evA, evI, bindT, bindTs, List.getElem?_cons_zero, List.getElem?_cons_succ, List.set_cons_zero, List.set_cons_succ, List.length_cons, List.length_nil, op2_add, op2_sub, cmpD_lt, cmpD_le, cmpD_gt, cmpD_ge, cmpD_eq, cmpD_ne, tru_bl, items_tup, items_lst, items_fro, items_ref, items_rt, still_tup, still_lst, still_fro, at0, at1, at2, at3, at4, at5, at6, at7, at8, Option.map_some, List.length_map]
  have y3 := evE_lc (evI_range1 ln (by omega)) (by rw [intRow_length, lineB_val]; omega) eL
  have y4 := evE_lc (C := runN T Γ k) (Γ := Γ) (cond := K_law_ahead_3) (elt := E_law_ahead_2) (own := [12]) (t := .name 12) (evI_seq (a := .e (.var 6)) (E := [.val (.ref 2), .val (plD P), .val (.int (m : Nat)), .val (.int (c : Nat)), .val (rt x), .val (rt (x + P.beat * v)), .val (.lst (L.map fun (i : Nat) => .int (i : Int))), .un, .un, .un, .val (rt (rate P m c).1), .val (rt (rate P m c).2), .un]) (g := g1) (g1 := g1) (x := .lst (L.map fun (i : Nat) => .int (i : Int))) (by simp only [Bool.false_eq_true, Nat.zero_add, Nat.reduceAdd, Nat.reduceLeDiff, lineB_val, Nat.reduceLT, Nat.zero_lt_succ, Nat.lt_add_one, reduceIte, Nat.one_pos, Nat.lt_irrefl, and_self, and_true, true_and, ne_eq, not_false_eq_true, not_true_eq_false, Nat.reduceEqDiff, Nat.reduceBEq, if_true, if_false, Bool.true_and, Bool.and_true, Bool.false_and, Bool.and_false, Bool.not_true, Bool.not_false, Bool.not_not, decide_true, decide_false, evB, evX, evE, evT, evS, evA, evI, bindT, bindTs, List.getElem?_cons_zero, List.getElem?_cons_succ, List.set_cons_zero, List.set_cons_succ, List.length_cons, List.length_nil, op2_add, op2_sub, cmpD_lt, cmpD_le, cmpD_gt, cmpD_ge, cmpD_eq, cmpD_ne, tru_bl, items_tup, items_lst, items_fro, items_ref, items_rt, still_tup, still_lst, still_fro, at0, at1, at2, at3, at4, at5, at6, at7, at8, Option.map_some]) rfl) (by rw [List.length_map, lineB_val]; omega) eL2
  have em : cmpD .ne (.lst (L2.map fun (i : Nat) => .int (i : Int))) (.lst []) = some (!(L2.map fun (i : Nat) => D.int (i : Int)).isEmpty) := by
    have := eqD_empty (n := 0) (Shs.map (fun (i : Nat) => D.int (i : Int)) (fun (i : Nat) => .int (i : Int)) (fun i => Sh.int _) L2) (by decide)
    show (eqD (.lst (L2.map fun (i : Nat) => .int (i : Int))) (.lst [])).map (!·) = _
    rw [this]
    rfl
  -- the ways that stand open
  obtain ⟨op, x5, o1, o2, o3⟩ : ∃ op : List D, evX (runN T Γ k) Γ (.ifs (.e (.cmp .ne (.e (.var 7)) (.e (.lst .nil)))) (.cons (.set (.name 6) (.var 7)) .nil) (.cons (.set (.name 6) (.op .add (.var 6) (.lst (.cons .non .nil)))) .nil)) [.val (.ref 2), .val (plD P), .val (.int (m : Nat)), .val (.int (c : Nat)), .val (rt x), .val (rt (x + P.beat * v)), .val (.lst (L.map fun (i : Nat) => .int (i : Int))), .val (.lst (L2.map fun (i : Nat) => .int (i : Int))), .un, .un, .val (rt (rate P m c).1), .val (rt (rate P m c).2), .un] g1 =
      some (.nx, [.val (.ref 2), .val (plD P), .val (.int (m : Nat)), .val (.int (c : Nat)), .val (rt x), .val (rt (x + P.beat * v)), .val (.lst op), .val (.lst (L2.map fun (i : Nat) => .int (i : Int))), .un, .un, .val (rt (rate P m c).1), .val (rt (rate P m c).2), .un], g1) ∧ 0 < op.length ∧ op.length ≤ 1000 ∧ ∀ y ∈ op, y = .non ∨ ∃ i : Nat, y = .int (i : Int) ∧ ∃ s, P.sw[i]? = some s ∧ s.st = (m : Int) := by
    cases hL2' : L2 with
    | nil =>
      rw [hL2'] at em
      have ha : op2 .add (.lst (L.map fun (i : Nat) => D.int (i : Int))) (.lst [.non]) = some (.lst ((L.map fun (i : Nat) => D.int (i : Int)) ++ [.non])) := by
        show (if _ then _ else _) = _
        rw [if_pos (by rw [List.length_map, lineB_val]; simp; omega)]
      refine ⟨(L.map fun (i : Nat) => D.int (i : Int)) ++ [.non], ?_, by simp, by simp; omega, fun y hy => ?_⟩
      · rw [List.map_nil] at em ⊢
        simp only [Bool.false_eq_true, Nat.zero_add, Nat.reduceAdd, Nat.reduceLeDiff, lineB_val, Nat.reduceLT, Nat.zero_lt_succ, Nat.lt_add_one, reduceIte, Nat.one_pos, Nat.lt_irrefl, and_self, and_true, true_and, ne_eq, not_false_eq_true, not_true_eq_false, Nat.reduceEqDiff, Nat.reduceBEq, if_true, if_false, Bool.true_and, Bool.and_true, Bool.false_and, Bool.and_false, Bool.not_true, Bool.not_false, Bool.not_not, decide_true, decide_false, evB, evX, evE, evT, evS, evA, evI, bindT, bindTs, List.getElem?_cons_zero, List.getElem?_cons_succ, List.set_cons_zero, List.set_cons_succ, List.length_cons, List.length_nil, op2_add, op2_sub, cmpD_lt, cmpD_le, cmpD_gt, cmpD_ge, cmpD_eq, cmpD_ne, tru_bl, items_tup, items_lst, items_fro, items_ref, items_rt, still_tup, still_lst, still_fro, at0, at1, at2, at3, at4, at5, at6, at7, at8, Option.map_some, em, List.isEmpty_nil, ha]
      · rcases List.mem_append.mp hy with z | z
        · obtain ⟨i, hi, rfl⟩ := List.mem_map.mp z
          exact .inr ⟨i, rfl, hL i hi⟩
        · exact .inl (List.mem_singleton.mp z)
    | cons i L3 =>
      rw [hL2'] at em lL2 hL2
      rw [List.length_cons] at lL2
      refine ⟨(i :: L3).map fun (i : Nat) => D.int (i : Int), ?_, by simp, by rw [List.length_map, List.length_cons]; omega, fun y hy => ?_⟩
      · rw [List.map_cons] at em ⊢
        simp only [Bool.false_eq_true, Nat.zero_add, Nat.reduceAdd, Nat.reduceLeDiff, lineB_val, Nat.reduceLT, Nat.zero_lt_succ, Nat.lt_add_one, reduceIte, Nat.one_pos, Nat.lt_irrefl, and_self, and_true, true_and, ne_eq, not_false_eq_true, not_true_eq_false, Nat.reduceEqDiff, Nat.reduceBEq, if_true, if_false, Bool.true_and, Bool.and_true, Bool.false_and, Bool.and_false, Bool.not_true, Bool.not_false, Bool.not_not, decide_true, decide_false, evB, evX, evE, evT, evS, evA, evI, bindT, bindTs, List.getElem?_cons_zero, List.getElem?_cons_succ, List.set_cons_zero, List.set_cons_succ, List.length_cons, List.length_nil, op2_add, op2_sub, cmpD_lt, cmpD_le, cmpD_gt, cmpD_ge, cmpD_eq, cmpD_ne, tru_bl, items_tup, items_lst, items_fro, items_ref, items_rt, still_tup, still_lst, still_fro, at0, at1, at2, at3, at4, at5, at6, at7, at8, Option.map_some, em, List.isEmpty_cons]
      · obtain ⟨j, hj, rfl⟩ := List.mem_map.mp hy
        exact .inr ⟨j, rfl, hL2 j hj⟩
  obtain ⟨w, g2, w1, w2, e5, G2⟩ := run_take (k := k) (by omega) G1 (by omega) (show (0 : Int) < (op.length : Int) by omega)
  obtain ⟨wn, rfl⟩ := Int.eq_ofNat_of_zero_le w1
  obtain ⟨y, hy⟩ : ∃ y, op[wn]? = some y := ⟨_, List.getElem?_eq_getElem (by omega)⟩
  have x6 : evX (runN T Γ k) Γ (.set (.name 8) (.ix (.e (.var 6)) (.call 30 (.cons (.var 0) (.cons (.len (.e (.var 6))) .nil))))) [.val (.ref 2), .val (plD P), .val (.int (m : Nat)), .val (.int (c : Nat)), .val (rt x), .val (rt (x + P.beat * v)), .val (.lst op), .val (.lst (L2.map fun (i : Nat) => .int (i : Int))), .un, .un, .val (rt (rate P m c).1), .val (rt (rate P m c).2), .un] g1 = some (.nx, [.val (.ref 2), .val (plD P), .val (.int (m : Nat)), .val (.int (c : Nat)), .val (rt x), .val (rt (x + P.beat * v)), .val (.lst op), .val (.lst (L2.map fun (i : Nat) => .int (i : Int))), .val y, .un, .val (rt (rate P m c).1), .val (rt (rate P m c).2), .un], g2) := by
    simp only [Bool.false_eq_true, Nat.zero_add, Nat.reduceAdd, Nat.reduceLeDiff, lineB_val, Nat.reduceLT, Nat.zero_lt_succ, Nat.lt_add_one, reduceIte, Nat.one_pos, Nat.lt_irrefl, and_self, and_true, true_and, ne_eq, not_false_eq_true, not_true_eq_false, Nat.reduceEqDiff, Nat.reduceBEq, if_true, if_false, Bool.true_and, Bool.and_true, Bool.false_and, Bool.and_false, Bool.not_true, Bool.not_false, Bool.not_not, decide_true, decide_false, evB, evX, evE, evT, evS, evA, evI, bindT, bindTs, List.getElem?_cons_zero, List.getElem?_cons_succ, List.set_cons_zero, List.set_cons_succ, List.length_cons, List.length_nil, op2_add, op2_sub, cmpD_lt, cmpD_le, cmpD_gt, cmpD_ge, cmpD_eq, cmpD_ne, tru_bl, items_tup, items_lst, items_fro, items_ref, items_rt, still_tup, still_lst, still_fro, at0, at1, at2, at3, at4, at5, at6, at7, at8, Option.map_some, e5, atI_nat hy]
  have stay : bb P m c ∈ boxes P m c m := by
    unfold boxes
    rw [if_pos rfl]
    exact List.mem_append_left _ (List.mem_singleton.mpr rfl)
  show ∃ (nw : Nat) (here later : Rat) (b : Rat × Rat) (g' : Gs), nw < P.nm ∧ res (evB _ _ B_law_ahead [.val (.ref 2), .val (plD P), .val (.int (m : Nat)), .val (.int (c : Nat)), .val (rt x), .un, .un, .un, .un, .un, .un, .un, .un] g) = _ ∧ _
  unfold B_law_ahead
  rw [evB_cons x1, evB_cons x2, evB_cons (E1 := [.val (.ref 2), .val (plD P), .val (.int (m : Nat)), .val (.int (c : Nat)), .val (rt x), .val (rt (x + P.beat * v)), .val (.lst (L.map fun (i : Nat) => .int (i : Int))), .un, .un, .un, .val (rt (rate P m c).1), .val (rt (rate P m c).2), .un]) (evX_set y3 (by simp)), evB_cons (E1 := [.val (.ref 2), .val (plD P), .val (.int (m : Nat)), .val (.int (c : Nat)), .val (rt x), .val (rt (x + P.beat * v)), .val (.lst (L.map fun (i : Nat) => .int (i : Int))), .val (.lst (L2.map fun (i : Nat) => .int (i : Int))), .un, .un, .val (rt (rate P m c).1), .val (rt (rate P m c).2), .un]) (evX_set y4 (by simp)), evB_cons x5, evB_cons x6]
  rcases o3 y (List.mem_of_getElem? hy) with rfl | ⟨i, rfl, s, es, est⟩
  · refine ⟨m, x + P.beat * v, x + P.beat * v, bb P m c, g2, hm, ?_, G2.mono (by omega), hh1, hh2, stay, hh1, hh2, zh.mono (by omega), zh.mono (by omega)⟩
    simp only [Bool.false_eq_true, Nat.zero_add, Nat.reduceAdd, Nat.reduceLeDiff, lineB_val, Nat.reduceLT, Nat.zero_lt_succ, Nat.lt_add_one, reduceIte, Nat.one_pos, Nat.lt_irrefl, and_self, and_true, true_and, ne_eq, not_false_eq_true, not_true_eq_false, Nat.reduceEqDiff, Nat.reduceBEq, if_true, if_false, Bool.true_and, Bool.and_true, Bool.false_and, Bool.and_false, Bool.not_true, Bool.not_false, Bool.not_not, decide_true, decide_false, evB, evX, evE, evT, evS, evA, evI, bindT, bindTs, List.getElem?_cons_zero, List.getElem?_cons_succ, List.set_cons_zero, List.set_cons_succ, List.length_cons, List.length_nil, op2_add, op2_sub, cmpD_lt, cmpD_le, cmpD_gt, cmpD_ge, cmpD_eq, cmpD_ne, tru_bl, items_tup, items_lst, items_fro, items_ref, items_rt, still_tup, still_lst, still_fro, at0, at1, at2, at3, at4, at5, at6, at7, at8, Option.map_some, isNon, res]
  · have hs := List.mem_of_getElem? es
    have ok := p.sw s hs
    obtain ⟨u, g3, e6, G3, u1, u2, zu⟩ := run_between (k := k) (by omega) G2 (by omega) ok.zl ok.zh (by decide) ok.le
    have e7 := run_plus_rt (g := g3) (k := k) (by omega) zh zu (by omega)
    obtain ⟨s', es', _, a6⟩ := sw_at (P := P) (i := i) (List.getElem?_eq_some_iff.mp es).1
    rw [es] at es'
    cases es'
    obtain ⟨nw, hnw, hnw2⟩ : ∃ nw : Nat, s.goal = (nw : Int) ∧ nw < P.nm := by
      have m2 := p.s1 (List.ne_nil_of_mem hs)
      rcases ok.st with ⟨_, z⟩ | ⟨_, z⟩
      · exact ⟨1, z, by omega⟩
      · exact ⟨0, z, by omega⟩
    have hbx : ((bb P m c).1 + s.lo, (bb P m c).2 + s.hi) ∈ boxes P m c nw := by
      unfold boxes
      refine List.mem_append_right _ (List.mem_map.mpr ⟨s, List.mem_filter.mpr ⟨hs, ?_⟩, rfl⟩)
      unfold swHit
      rw [est, hnw]
      simp
    refine ⟨nw, x + P.beat * v, x + P.beat * v + u, ((bb P m c).1 + s.lo, (bb P m c).2 + s.hi), g3, hnw2, ?_, G3.mono (by omega), hh1, hh2, hbx, ?_, ?_, zh.mono (by omega), (zh.add zu).mono (by omega)⟩
    · have gl : atI (P.sw.map swD) ((i : Nat) : Int) = some (.tup [.int s.st, .str "go", .int (nw : Int), edD s.ed, .str (if s.must then "must" else "may"), .tup [.tup [rt s.lo, rt s.hi]]]) := by rw [a6, ← hnw]; rfl
      unfold plD
      simp only [Bool.false_eq_true, Nat.zero_add, Nat.reduceAdd, Nat.reduceLeDiff, lineB_val, Nat.reduceLT, Nat.zero_lt_succ, Nat.lt_add_one, reduceIte, Nat.one_pos, Nat.lt_irrefl, and_self, and_true, true_and, ne_eq, not_false_eq_true, not_true_eq_false, Nat.reduceEqDiff, Nat.reduceBEq, if_true, if_false, Bool.true_and, Bool.and_true, Bool.false_and, Bool.and_false, Bool.not_true, Bool.not_false, Bool.not_not, decide_true, decide_false, evB, evX, evE, evT, evS, evA, evI, bindT, bindTs, List.getElem?_cons_zero, List.getElem?_cons_succ, List.set_cons_zero, List.set_cons_succ, List.length_cons, List.length_nil, op2_add, op2_sub, cmpD_lt, cmpD_le, cmpD_gt, cmpD_ge, cmpD_eq, cmpD_ne, tru_bl, items_tup, items_lst, items_fro, items_ref, items_rt, still_tup, still_lst, still_fro, at0, at1, at2, at3, at4, at5, at6, at7, at8, Option.map_some, isNon, gl, e6, e7, res]
    · show x + ((bb P m c).1 + s.lo) ≤ _
      rw [← Rat.add_assoc]
      exact Rat.le_trans (Rat.add_le_add_right.mpr hh1) (Rat.add_le_add_left.mpr u1)
    · show _ ≤ x + ((bb P m c).2 + s.hi)
      rw [← Rat.add_assoc]
      exact Rat.le_trans (Rat.add_le_add_right.mpr hh2) (Rat.add_le_add_left.mpr u2)
end
end K48

set_option linter.all false
set_option maxRecDepth 100000
set_option Elab.async false
set_option exponentiation.threshold 100000
namespace K48
open DP
structure In (d x : Rat) (lo hi : Int) : Prop where
  lo : (lo : Rat) ≤ x / d
  hi : x / d ≤ (hi : Rat)
theorem add_div (x y d : Rat) : (x + y) / d = x / d + y / d := by
  rw [Rat.div_def, Rat.div_def, Rat.div_def, Rat.add_mul]
theorem in_move {d x x' : Rat} {lo hi : Int} {b : Rat × Rat} {q : Int × Int} (hd : 0 < d) (h : In d x lo hi) (h1 : x + b.1 ≤ x') (h2 : x' ≤ x + b.2) (q1 : q.1 ≤ (fc d b).1) (q2 : (fc d b).2 ≤ q.2) : In d x' (lo + q.1) (hi + q.2) := by
  have e1 := div_mono hd h1
  have e2 := div_mono hd h2
  rw [add_div] at e1 e2
  have f1 : (q.1 : Rat) ≤ b.1 / d := Rat.le_trans (Rat.intCast_le_intCast.mpr q1) (Rat.floor_le _)
  have f2 : b.2 / d ≤ (q.2 : Rat) := Rat.le_trans Rat.le_ceil (Rat.intCast_le_intCast.mpr q2)
  constructor
  · rw [Rat.intCast_add]
    exact Rat.le_trans (Rat.le_trans (Rat.add_le_add_right.mpr h.lo) (Rat.add_le_add_left.mpr f1)) e1
  · rw [Rat.intCast_add]
    exact Rat.le_trans e2 (Rat.le_trans (Rat.add_le_add_right.mpr h.hi) (Rat.add_le_add_left.mpr f2))
theorem in_read {d x e : Rat} {P : Pl} (hd : 0 < d) (h1 : -P.err ≤ e) (h2 : e ≤ P.err) : In d x (((x + e) / d).floor - rdA P d) (((x + e) / d).floor + (rdA P d + 1)) := by
  have f1 := Rat.floor_le ((x + e) / d)
  have f2 := Rat.lt_floor_add_one ((x + e) / d)
  have f3 : P.err / d ≤ (rdA P d : Rat) := Rat.le_ceil
  have g1 := div_mono hd h1
  have g2 := div_mono hd h2
  have en : -P.err / d = -(P.err / d) := by rw [Rat.div_def, Rat.div_def, Rat.neg_mul]
  rw [en] at g1
  generalize hr : ((x + e) / d).floor = r at f1 f2 ⊢
  rw [add_div] at f1 f2
  constructor
  · rw [Rat.intCast_sub, Rat.sub_right_le_iff_le_add]
    exact Rat.le_trans f1 (Rat.add_le_add_left.mpr (Rat.le_trans g2 f3))
  · rw [Rat.intCast_add, Rat.intCast_add]
    rw [Rat.intCast_add] at f2
    have f4 := Rat.le_of_lt f2
    have f5 : x / d + e / d + (rdA P d : Rat) ≤ (r : Rat) + (1 : Int) + (rdA P d : Rat) := Rat.add_le_add_right.mpr f4
    have f6 : (0 : Rat) ≤ e / d + (rdA P d : Rat) := by
      have a1 := Rat.add_le_add_right (c := (rdA P d : Rat)).mpr g1
      have a2 := Rat.add_le_add_left (c := -(P.err / d)).mpr f3
      rw [Rat.neg_add_cancel] at a2
      exact Rat.le_trans a2 a1
    have f7 := Rat.add_le_add_left (c := x / d).mpr f6
    rw [Rat.add_zero, ← Rat.add_assoc] at f7
    have f8 := Rat.le_trans f7 f5
    rw [Rat.add_assoc, Rat.add_comm ((1 : Int) : Rat)] at f8
    exact f8
theorem in_floor {d x : Rat} {lo hi : Int} (h : In d x lo hi) : lo ≤ (x / d).floor ∧ (x / d).ceil ≤ hi := ⟨Rat.le_floor_iff.mpr h.lo, Rat.ceil_le_iff.mpr h.hi⟩
theorem Bd.btw {n : Nat} {a b i : Int} (ha : Bd n a) (hb : Bd n b) (h1 : a ≤ i) (h2 : i ≤ b) : Bd n i := by
  unfold Bd at *; omega
theorem in_le {d x : Rat} {lo hi lo' hi' : Int} (h : In d x lo hi) (h' : In d x lo' hi') : lo ≤ hi' := Rat.intCast_le_intCast.mp (Rat.le_trans h.lo h'.hi)
theorem in_met {d x : Rat} {lo hi lo' hi' : Int} (h : In d x lo hi) (h' : In d x lo' hi') : max lo lo' ≤ min hi hi' ∧ In d x (max lo lo') (min hi hi') := by
  have h1 := in_le h h
  have h2 := in_le h h'
  have h3 := in_le h' h
  have h4 := in_le h' h'
  refine ⟨by omega, ⟨?_, ?_⟩⟩
  · rcases Int.le_total lo lo' with z | z
    · rw [Int.max_eq_right z]; exact h'.lo
    · rw [Int.max_eq_left z]; exact h.lo
  · rcases Int.le_total hi hi' with z | z
    · rw [Int.min_eq_left z]; exact h.hi
    · rw [Int.min_eq_right z]; exact h'.hi
theorem in_mul {d x : Rat} {lo hi : Int} (hd : 0 < d) (h : In d x lo hi) : d * (lo : Rat) ≤ x ∧ x ≤ d * (hi : Rat) := by
  have e : d * (x / d) = x := by rw [Rat.mul_comm, Rat.div_mul_cancel (fun z => by rw [z] at hd; exact Rat.lt_irrefl hd)]
  have h1 := Rat.mul_le_mul_of_nonneg_left h.lo (Rat.le_of_lt hd)
  have h2 := Rat.mul_le_mul_of_nonneg_left h.hi (Rat.le_of_lt hd)
  rw [e] at h1 h2
  exact ⟨h1, h2⟩
section
variable {k N m c n : Nat} {g : Gs} {P : Pl} {d : Rat}
structure Es (P : Pl) (d : Rat) (zn m f : Nat) (x : Rat) (lo hi : Int) : Prop where
  gm : m < P.nm
  gz : Z zn x
  gi : In d x lo hi
  gw : hi - lo ≤ WD P d f m
  gf : f ≤ 3
theorem l6 (hk : 20 < k) (p : PlOk P) (hd : 0 < d) (zd : Z 10 d) (G : GD N g) (hN : N ≤ 10000) {zn f : Nat} (hzn : zn ≤ 600) {x : Rat} {lo hi : Int} (S : Es P d zn m f x lo hi) {s0 s6 s7 s8 s13 s14 s15 s16 s17 s18 s19 s20 s21 s22 s23 s24 s25 s26 : Sl} :
    ∃ (m' f' : Nat) (x' : Rat) (lo' hi' : Int) (g' : Gs) (t18 t19 t20 t21 t22 t23 : Sl), evB (runN T Γ k) Γ L_law_6 [s0, .val (.ref 2), .val (plD P), .val (rt d), .val (tabD P.nm P.nc (offs P d)), .val (ib (rdA P d) (rdA P d + 1)), s6, s7, s8, .val (rt x), .val (.int (m : Nat)), .val (ib lo hi), .val (.int (f : Nat)), s13, s14, s15, s16, s17, s18, s19, s20, s21, s22, s23, s24, s25, s26] g =
      some (.nx, [s0, .val (.ref 2), .val (plD P), .val (rt d), .val (tabD P.nm P.nc (offs P d)), .val (ib (rdA P d) (rdA P d + 1)), s6, s7, s8, .val (rt x'), .val (.int (m' : Nat)), .val (ib lo' hi'), .val (.int (f' : Nat)), s13, s14, s15, s16, s17, t18, t19, t20, t21, t22, t23, s24, s25, s26], g') ∧ GD (N + 10) g' ∧ Es P d (zn + 70) m' f' x' lo' hi' := by
  have zd' : Z 20 d := zd.mono (by decide)
  have ok := tbOk p hd
  have hm := S.gm
  have hc2 := p.c2
  have hm2 := p.m2
  obtain ⟨cv, g1, c1, c2, e1, G1⟩ := run_take (k := k) (by omega) G (by omega) (show (0 : Int) < (P.nc : Int) by omega)
  obtain ⟨c, rfl⟩ := Int.eq_ofNat_of_zero_le c1
  have hc : c < P.nc := by omega
  have e2 := run_beat_box (g := g1) (k := k) (by omega) p hm hc
  obtain ⟨nw, here, later, b, g2, hnw, e3, G2, i1, i2, hb, j1, j2, zh, zl⟩ := run_ahead (k := k) (by omega) p G1 (by omega) hm hc S.gz (by omega)
  have bok := bb_ok p hm hc
  have e4 := run_plus_rt (g := g2) (k := k) (by omega) S.gz bok.1 (by omega)
  have e5 := run_plus_rt (g := g2) (k := k) (by omega) S.gz bok.2.1 (by omega)
  have n1 := run_na_rt (g := g2) (k := k) (by omega) (S.gz.add bok.1) zh (by omega)
  have n2 := run_na_rt (g := g2) (k := k) (by omega) zh (S.gz.add bok.2.1) (by omega)
  rw [decide_eq_true i1] at n1
  rw [decide_eq_true i2] at n2
  obtain ⟨q, eq, q1, q2⟩ := offs_has hd hb
  have e6 := run_gone (g := g2) (k := k) (a := q.1) (b := q.2) (lo := lo) (hi := hi) (by omega)
  have I1 := in_move hd S.gi j1 j2 q1 q2
  have W1 : hi + q.2 - (lo + q.1) ≤ WD P d (f + 1) nw := by
    have := wNext_ge ok (w := WD P d f) hm hnw hc eq
    have hw := S.gw
    show _ ≤ wNext P.nm P.nc (offs P d) (WD P d f) nw
    omega
  have bbx : (bxs (bb P m c)) = .tup [.tup [rt (bb P m c).1, rt (bb P m c).2]] := rfl
  have x1 : evX (runN T Γ k) Γ (.set (.name 18) (.call 30 (.cons (.var 1) (.cons (.len (.e (.ix (.e (.var 2)) (.int 3)))) .nil)))) [s0, .val (.ref 2), .val (plD P), .val (rt d), .val (tabD P.nm P.nc (offs P d)), .val (ib (rdA P d) (rdA P d + 1)), s6, s7, s8, .val (rt x), .val (.int (m : Nat)), .val (ib lo hi), .val (.int (f : Nat)), s13, s14, s15, s16, s17, s18, s19, s20, s21, s22, s23, s24, s25, s26] g = some (.nx, [s0, .val (.ref 2), .val (plD P), .val (rt d), .val (tabD P.nm P.nc (offs P d)), .val (ib (rdA P d) (rdA P d + 1)), s6, s7, s8, .val (rt x), .val (.int (m : Nat)), .val (ib lo hi), .val (.int (f : Nat)), s13, s14, s15, s16, s17, .val (.int (c : Nat)), s19, s20, s21, s22, s23, s24, s25, s26], g1) := by
    unfold plD
    simp only [Bool.false_eq_true, Nat.zero_add, Nat.reduceAdd, Nat.reduceLeDiff, lineB_val, Nat.reduceLT, Nat.zero_lt_succ, Nat.lt_add_one, reduceIte, Nat.one_pos, Nat.lt_irrefl, and_self, and_true, true_and, ne_eq, not_false_eq_true, not_true_eq_false, Nat.reduceEqDiff, Nat.reduceBEq, if_true, if_false, Bool.true_and, Bool.and_true, Bool.false_and, Bool.and_false, Bool.not_true, Bool.not_false, Bool.not_not, decide_true, decide_false, evB, evX, evE, evT, evS, evA, evI, bindT, bindTs, List.getElem?_cons_zero, List.getElem?_cons_succ, List.set_cons_zero, List.set_cons_succ, List.length_cons, List.length_nil, op2_add, op2_sub, cmpD_lt, cmpD_le, cmpD_gt, cmpD_ge, cmpD_eq, cmpD_ne, tru_bl, items_tup, items_lst, items_fro, items_ref, items_rt, still_tup, still_lst, still_fro, at0, at1, at2, at3, at4, at5, at6, at7, at8, Option.map_some, p.cm, e1]
  have x2 : evX (runN T Γ k) Γ (.set (.tup [(.name 19), (.name 20)]) (.ix (.e (.call 8 (.cons (.var 2) (.cons (.var 10) (.cons (.var 18) .nil))))) (.int 0))) [s0, .val (.ref 2), .val (plD P), .val (rt d), .val (tabD P.nm P.nc (offs P d)), .val (ib (rdA P d) (rdA P d + 1)), s6, s7, s8, .val (rt x), .val (.int (m : Nat)), .val (ib lo hi), .val (.int (f : Nat)), s13, s14, s15, s16, s17, .val (.int (c : Nat)), s19, s20, s21, s22, s23, s24, s25, s26] g1 = some (.nx, [s0, .val (.ref 2), .val (plD P), .val (rt d), .val (tabD P.nm P.nc (offs P d)), .val (ib (rdA P d) (rdA P d + 1)), s6, s7, s8, .val (rt x), .val (.int (m : Nat)), .val (ib lo hi), .val (.int (f : Nat)), s13, s14, s15, s16, s17, .val (.int (c : Nat)), .val (rt (bb P m c).1), .val (rt (bb P m c).2), s21, s22, s23, s24, s25, s26], g1) := by
    simp only [Bool.false_eq_true, Nat.zero_add, Nat.reduceAdd, Nat.reduceLeDiff, lineB_val, Nat.reduceLT, Nat.zero_lt_succ, Nat.lt_add_one, reduceIte, Nat.one_pos, Nat.lt_irrefl, and_self, and_true, true_and, ne_eq, not_false_eq_true, not_true_eq_false, Nat.reduceEqDiff, Nat.reduceBEq, if_true, if_false, Bool.true_and, Bool.and_true, Bool.false_and, Bool.and_false, Bool.not_true, Bool.not_false, Bool.not_not, decide_true, decide_false, evB, evX, evE, evT, evS, evA, evI, bindT, bindTs, List.getElem?_cons_zero, List.getElem?_cons_succ, List.set_cons_zero, List.set_cons_succ, List.length_cons, List.length_nil, op2_add, op2_sub, cmpD_lt, cmpD_le, cmpD_gt, cmpD_ge, cmpD_eq, cmpD_ne, tru_bl, items_tup, items_lst, items_fro, items_ref, items_rt, still_tup, still_lst, still_fro, at0, at1, at2, at3, at4, at5, at6, at7, at8, Option.map_some, e2, bbx]
  have x3 : evX (runN T Γ k) Γ (.set (.tup [(.name 21), (.name 22), (.name 23)]) (.call 53 (.cons (.var 1) (.cons (.var 2) (.cons (.var 10) (.cons (.var 18) (.cons (.var 9) .nil))))))) [s0, .val (.ref 2), .val (plD P), .val (rt d), .val (tabD P.nm P.nc (offs P d)), .val (ib (rdA P d) (rdA P d + 1)), s6, s7, s8, .val (rt x), .val (.int (m : Nat)), .val (ib lo hi), .val (.int (f : Nat)), s13, s14, s15, s16, s17, .val (.int (c : Nat)), .val (rt (bb P m c).1), .val (rt (bb P m c).2), s21, s22, s23, s24, s25, s26] g1 = some (.nx, [s0, .val (.ref 2), .val (plD P), .val (rt d), .val (tabD P.nm P.nc (offs P d)), .val (ib (rdA P d) (rdA P d + 1)), s6, s7, s8, .val (rt x), .val (.int (m : Nat)), .val (ib lo hi), .val (.int (f : Nat)), s13, s14, s15, s16, s17, .val (.int (c : Nat)), .val (rt (bb P m c).1), .val (rt (bb P m c).2), .val (.int (nw : Nat)), .val (rt here), .val (rt later), s24, s25, s26], g2) := by
    simp only [Bool.false_eq_true, Nat.zero_add, Nat.reduceAdd, Nat.reduceLeDiff, lineB_val, Nat.reduceLT, Nat.zero_lt_succ, Nat.lt_add_one, reduceIte, Nat.one_pos, Nat.lt_irrefl, and_self, and_true, true_and, ne_eq, not_false_eq_true, not_true_eq_false, Nat.reduceEqDiff, Nat.reduceBEq, if_true, if_false, Bool.true_and, Bool.and_true, Bool.false_and, Bool.and_false, Bool.not_true, Bool.not_false, Bool.not_not, decide_true, decide_false, evB, evX, evE, evT, evS, evA, evI, bindT, bindTs, List.getElem?_cons_zero, List.getElem?_cons_succ, List.set_cons_zero, List.set_cons_succ, List.length_cons, List.length_nil, op2_add, op2_sub, cmpD_lt, cmpD_le, cmpD_gt, cmpD_ge, cmpD_eq, cmpD_ne, tru_bl, items_tup, items_lst, items_fro, items_ref, items_rt, still_tup, still_lst, still_fro, at0, at1, at2, at3, at4, at5, at6, at7, at8, Option.map_some, e3]
  have t4 : evT (runN T Γ k) Γ (.or (.not (.e (.call 43 (.cons (.call 33 (.cons (.var 9) (.cons (.var 19) .nil))) (.cons (.var 22) .nil))))) (.not (.e (.call 43 (.cons (.var 22) (.cons (.call 33 (.cons (.var 9) (.cons (.var 20) .nil))) .nil)))))) [s0, .val (.ref 2), .val (plD P), .val (rt d), .val (tabD P.nm P.nc (offs P d)), .val (ib (rdA P d) (rdA P d + 1)), s6, s7, s8, .val (rt x), .val (.int (m : Nat)), .val (ib lo hi), .val (.int (f : Nat)), s13, s14, s15, s16, s17, .val (.int (c : Nat)), .val (rt (bb P m c).1), .val (rt (bb P m c).2), .val (.int (nw : Nat)), .val (rt here), .val (rt later), s24, s25, s26] g2 = some (false, g2) := by
    simp only [Bool.false_eq_true, Nat.zero_add, Nat.reduceAdd, Nat.reduceLeDiff, lineB_val, Nat.reduceLT, Nat.zero_lt_succ, Nat.lt_add_one, reduceIte, Nat.one_pos, Nat.lt_irrefl, and_self, and_true, true_and, ne_eq, not_false_eq_true, not_true_eq_false, Nat.reduceEqDiff, Nat.reduceBEq, if_true, if_false, Bool.true_and, Bool.and_true, Bool.false_and, Bool.and_false, Bool.not_true, Bool.not_false, Bool.not_not, decide_true, decide_false, evB, evX, evE, evT, evS, evA, evI, bindT, bindTs, List.getElem?_cons_zero, List.getElem?_cons_succ, List.set_cons_zero, List.set_cons_succ, List.length_cons, List.length_nil, op2_add, op2_sub, cmpD_lt, cmpD_le, cmpD_gt, cmpD_ge, cmpD_eq, cmpD_ne, tru_bl, items_tup, items_lst, items_fro, items_ref, items_rt, still_tup, still_lst, still_fro, at0, at1, at2, at3, at4, at5, at6, at7, at8, Option.map_some, e4, e5, n1, n2]
  have o1 : evE (runN T Γ k) Γ (.ix (.e (.ix (.e (.ix (.e (.var 4)) (.var 10))) (.var 18))) (.var 21)) [s0, .val (.ref 2), .val (plD P), .val (rt d), .val (tabD P.nm P.nc (offs P d)), .val (ib (rdA P d) (rdA P d + 1)), s6, s7, s8, .val (rt x), .val (.int (m : Nat)), .val (ib lo hi), .val (.int (f : Nat)), s13, s14, s15, s16, s17, .val (.int (c : Nat)), .val (rt (bb P m c).1), .val (rt (bb P m c).2), .val (.int (nw : Nat)), .val (rt here), .val (rt later), s24, s25, s26] g2 = some (ib q.1 q.2, g2) := by
    have a3 := atI_nat (range_map_at (fun n => offD (offs P d m c n)) hnw)
    rw [eq] at a3
    have a2 := atI_nat (range_map_at (fun c => D.tup ((List.range P.nm).map fun n => offD (offs P d m c n))) hc)
    have a1 := atI_nat (range_map_at (rowD P.nm P.nc (offs P d)) hm)
    rw [tabD_row]
    simp only [Bool.false_eq_true, Nat.zero_add, Nat.reduceAdd, Nat.reduceLeDiff, lineB_val, Nat.reduceLT, Nat.zero_lt_succ, Nat.lt_add_one, reduceIte, Nat.one_pos, Nat.lt_irrefl, and_self, and_true, true_and, ne_eq, not_false_eq_true, not_true_eq_false, Nat.reduceEqDiff, Nat.reduceBEq, if_true, if_false, Bool.true_and, Bool.and_true, Bool.false_and, Bool.and_false, Bool.not_true, Bool.not_false, Bool.not_not, decide_true, decide_false, evB, evX, evE, evT, evS, evA, evI, bindT, bindTs, List.getElem?_cons_zero, List.getElem?_cons_succ, List.set_cons_zero, List.set_cons_succ, List.length_cons, List.length_nil, op2_add, op2_sub, cmpD_lt, cmpD_le, cmpD_gt, cmpD_ge, cmpD_eq, cmpD_ne, tru_bl, items_tup, items_lst, items_fro, items_ref, items_rt, still_tup, still_lst, still_fro, at0, at1, at2, at3, at4, at5, at6, at7, at8, Option.map_some, a1]
    unfold rowD
    simp only [Bool.false_eq_true, Nat.zero_add, Nat.reduceAdd, Nat.reduceLeDiff, lineB_val, Nat.reduceLT, Nat.zero_lt_succ, Nat.lt_add_one, reduceIte, Nat.one_pos, Nat.lt_irrefl, and_self, and_true, true_and, ne_eq, not_false_eq_true, not_true_eq_false, Nat.reduceEqDiff, Nat.reduceBEq, if_true, if_false, Bool.true_and, Bool.and_true, Bool.false_and, Bool.and_false, Bool.not_true, Bool.not_false, Bool.not_not, decide_true, decide_false, evB, evX, evE, evT, evS, evA, evI, bindT, bindTs, List.getElem?_cons_zero, List.getElem?_cons_succ, List.set_cons_zero, List.set_cons_succ, List.length_cons, List.length_nil, op2_add, op2_sub, cmpD_lt, cmpD_le, cmpD_gt, cmpD_ge, cmpD_eq, cmpD_ne, tru_bl, items_tup, items_lst, items_fro, items_ref, items_rt, still_tup, still_lst, still_fro, at0, at1, at2, at3, at4, at5, at6, at7, at8, Option.map_some, a2, a3]
    rfl
  have x5 : evX (runN T Γ k) Γ (.set (.name 11) (.call 22 (.cons (.var 11) (.cons (.ix (.e (.ix (.e (.ix (.e (.var 4)) (.var 10))) (.var 18))) (.var 21)) .nil)))) [s0, .val (.ref 2), .val (plD P), .val (rt d), .val (tabD P.nm P.nc (offs P d)), .val (ib (rdA P d) (rdA P d + 1)), s6, s7, s8, .val (rt x), .val (.int (m : Nat)), .val (ib lo hi), .val (.int (f : Nat)), s13, s14, s15, s16, s17, .val (.int (c : Nat)), .val (rt (bb P m c).1), .val (rt (bb P m c).2), .val (.int (nw : Nat)), .val (rt here), .val (rt later), s24, s25, s26] g2 = some (.nx, [s0, .val (.ref 2), .val (plD P), .val (rt d), .val (tabD P.nm P.nc (offs P d)), .val (ib (rdA P d) (rdA P d + 1)), s6, s7, s8, .val (rt x), .val (.int (m : Nat)), .val (ib (lo + q.1) (hi + q.2)), .val (.int (f : Nat)), s13, s14, s15, s16, s17, .val (.int (c : Nat)), .val (rt (bb P m c).1), .val (rt (bb P m c).2), .val (.int (nw : Nat)), .val (rt here), .val (rt later), s24, s25, s26], g2) := by
    have y1 : evE (runN T Γ k) Γ (.call 22 (.cons (.var 11) (.cons (.ix (.e (.ix (.e (.ix (.e (.var 4)) (.var 10))) (.var 18))) (.var 21)) .nil))) [s0, .val (.ref 2), .val (plD P), .val (rt d), .val (tabD P.nm P.nc (offs P d)), .val (ib (rdA P d) (rdA P d + 1)), s6, s7, s8, .val (rt x), .val (.int (m : Nat)), .val (ib lo hi), .val (.int (f : Nat)), s13, s14, s15, s16, s17, .val (.int (c : Nat)), .val (rt (bb P m c).1), .val (rt (bb P m c).2), .val (.int (nw : Nat)), .val (rt here), .val (rt later), s24, s25, s26] g2 = some (ib (lo + q.1) (hi + q.2), g2) := by
      rw [evE, evA, evE]
      simp only [List.getElem?_cons_succ, List.getElem?_cons_zero]
      rw [evA, o1]
      simp only [Bool.false_eq_true, Nat.zero_add, Nat.reduceAdd, Nat.reduceLeDiff, lineB_val, Nat.reduceLT, Nat.zero_lt_succ, Nat.lt_add_one, reduceIte, Nat.one_pos, Nat.lt_irrefl, and_self, and_true, true_and, ne_eq, not_false_eq_true, not_true_eq_false, Nat.reduceEqDiff, Nat.reduceBEq, if_true, if_false, Bool.true_and, Bool.and_true, Bool.false_and, Bool.and_false, Bool.not_true, Bool.not_false, Bool.not_not, decide_true, decide_false, evB, evX, evE, evT, evS, evA, evI, bindT, bindTs, List.getElem?_cons_zero, List.getElem?_cons_succ, List.set_cons_zero, List.set_cons_succ, List.length_cons, List.length_nil, op2_add, op2_sub, cmpD_lt, cmpD_le, cmpD_gt, cmpD_ge, cmpD_eq, cmpD_ne, tru_bl, items_tup, items_lst, items_fro, items_ref, items_rt, still_tup, still_lst, still_fro, at0, at1, at2, at3, at4, at5, at6, at7, at8, Option.map_some, e6]
    exact evX_set y1 (by simp)
  have x6 : evX (runN T Γ k) Γ (.par 10 9 (.var 21) (.var 23)) [s0, .val (.ref 2), .val (plD P), .val (rt d), .val (tabD P.nm P.nc (offs P d)), .val (ib (rdA P d) (rdA P d + 1)), s6, s7, s8, .val (rt x), .val (.int (m : Nat)), .val (ib (lo + q.1) (hi + q.2)), .val (.int (f : Nat)), s13, s14, s15, s16, s17, .val (.int (c : Nat)), .val (rt (bb P m c).1), .val (rt (bb P m c).2), .val (.int (nw : Nat)), .val (rt here), .val (rt later), s24, s25, s26] g2 = some (.nx, [s0, .val (.ref 2), .val (plD P), .val (rt d), .val (tabD P.nm P.nc (offs P d)), .val (ib (rdA P d) (rdA P d + 1)), s6, s7, s8, .val (rt later), .val (.int (nw : Nat)), .val (ib (lo + q.1) (hi + q.2)), .val (.int (f : Nat)), s13, s14, s15, s16, s17, .val (.int (c : Nat)), .val (rt (bb P m c).1), .val (rt (bb P m c).2), .val (.int (nw : Nat)), .val (rt here), .val (rt later), s24, s25, s26], g2) := by
    simp only [Bool.false_eq_true, Nat.zero_add, Nat.reduceAdd, Nat.reduceLeDiff, lineB_val, Nat.reduceLT, Nat.zero_lt_succ, Nat.lt_add_one, reduceIte, Nat.one_pos, Nat.lt_irrefl, and_self, and_true, true_and, ne_eq, not_false_eq_true, not_true_eq_false, Nat.reduceEqDiff, Nat.reduceBEq, if_true, if_false, Bool.true_and, Bool.and_true, Bool.false_and, Bool.and_false, Bool.not_true, Bool.not_false, Bool.not_not, decide_true, decide_false, evB, evX, evE, evT, evS, evA, evI, bindT, bindTs, List.getElem?_cons_zero, List.getElem?_cons_succ, List.set_cons_zero, List.set_cons_succ, List.length_cons, List.length_nil, op2_add, op2_sub, cmpD_lt, cmpD_le, cmpD_gt, cmpD_ge, cmpD_eq, cmpD_ne, tru_bl, items_tup, items_lst, items_fro, items_ref, items_rt, still_tup, still_lst, still_fro, at0, at1, at2, at3, at4, at5, at6, at7, at8, Option.map_some]
  have x7 : evX (runN T Γ k) Γ (.set (.name 12) (.op .add (.var 12) (.int 1))) [s0, .val (.ref 2), .val (plD P), .val (rt d), .val (tabD P.nm P.nc (offs P d)), .val (ib (rdA P d) (rdA P d + 1)), s6, s7, s8, .val (rt later), .val (.int (nw : Nat)), .val (ib (lo + q.1) (hi + q.2)), .val (.int (f : Nat)), s13, s14, s15, s16, s17, .val (.int (c : Nat)), .val (rt (bb P m c).1), .val (rt (bb P m c).2), .val (.int (nw : Nat)), .val (rt here), .val (rt later), s24, s25, s26] g2 = some (.nx, [s0, .val (.ref 2), .val (plD P), .val (rt d), .val (tabD P.nm P.nc (offs P d)), .val (ib (rdA P d) (rdA P d + 1)), s6, s7, s8, .val (rt later), .val (.int (nw : Nat)), .val (ib (lo + q.1) (hi + q.2)), .val (.int ((f : Int) + 1)), s13, s14, s15, s16, s17, .val (.int (c : Nat)), .val (rt (bb P m c).1), .val (rt (bb P m c).2), .val (.int (nw : Nat)), .val (rt here), .val (rt later), s24, s25, s26], g2) := by
    simp only [Bool.false_eq_true, Nat.zero_add, Nat.reduceAdd, Nat.reduceLeDiff, lineB_val, Nat.reduceLT, Nat.zero_lt_succ, Nat.lt_add_one, reduceIte, Nat.one_pos, Nat.lt_irrefl, and_self, and_true, true_and, ne_eq, not_false_eq_true, not_true_eq_false, Nat.reduceEqDiff, Nat.reduceBEq, if_true, if_false, Bool.true_and, Bool.and_true, Bool.false_and, Bool.and_false, Bool.not_true, Bool.not_false, Bool.not_not, decide_true, decide_false, evB, evX, evE, evT, evS, evA, evI, bindT, bindTs, List.getElem?_cons_zero, List.getElem?_cons_succ, List.set_cons_zero, List.set_cons_succ, List.length_cons, List.length_nil, op2_add, op2_sub, cmpD_lt, cmpD_le, cmpD_gt, cmpD_ge, cmpD_eq, cmpD_ne, tru_bl, items_tup, items_lst, items_fro, items_ref, items_rt, still_tup, still_lst, still_fro, at0, at1, at2, at3, at4, at5, at6, at7, at8, Option.map_some]
  -- a reading, or none
  obtain ⟨f', lo', hi', g3, x8, G3, S'⟩ : ∃ (f' : Nat) (lo' hi' : Int) (g3 : Gs), evX (runN T Γ k) Γ (.ifs (.or (.e (.cmp .gt (.e (.var 12)) (.e (.int 3)))) (.e (.cmp .eq (.e (.call 30 (.cons (.var 1) (.cons (.int 2) .nil)))) (.e (.int 0))))) (.cons (.set (.name 11) (.call 23 (.cons (.var 11) (.cons (.call 17 (.cons (.var 5) (.cons (.tup (.cons (.call 54 (.cons (.var 1) (.cons (.var 2) (.cons (.var 3) (.cons (.var 9) .nil))))) .nil)) .nil))) .nil)))) (.cons (.set (.name 12) (.int 0)) .nil)) .nil) [s0, .val (.ref 2), .val (plD P), .val (rt d), .val (tabD P.nm P.nc (offs P d)), .val (ib (rdA P d) (rdA P d + 1)), s6, s7, s8, .val (rt later), .val (.int (nw : Nat)), .val (ib (lo + q.1) (hi + q.2)), .val (.int ((f : Int) + 1)), s13, s14, s15, s16, s17, .val (.int (c : Nat)), .val (rt (bb P m c).1), .val (rt (bb P m c).2), .val (.int (nw : Nat)), .val (rt here), .val (rt later), s24, s25, s26] g2 =
      some (.nx, [s0, .val (.ref 2), .val (plD P), .val (rt d), .val (tabD P.nm P.nc (offs P d)), .val (ib (rdA P d) (rdA P d + 1)), s6, s7, s8, .val (rt later), .val (.int (nw : Nat)), .val (ib lo' hi'), .val (.int (f' : Nat)), s13, s14, s15, s16, s17, .val (.int (c : Nat)), .val (rt (bb P m c).1), .val (rt (bb P m c).2), .val (.int (nw : Nat)), .val (rt here), .val (rt later), s24, s25, s26], g3) ∧ GD (N + 10) g3 ∧ Es P d (zn + 70) nw f' later lo' hi' := by
    have rd : ∀ (ga : Gs) (Na : Nat), GD Na ga → Na ≤ 20000 → ∃ (lo' hi' : Int) (gb : Gs), evB (runN T Γ k) Γ (.cons (.set (.name 11) (.call 23 (.cons (.var 11) (.cons (.call 17 (.cons (.var 5) (.cons (.tup (.cons (.call 54 (.cons (.var 1) (.cons (.var 2) (.cons (.var 3) (.cons (.var 9) .nil))))) .nil)) .nil))) .nil)))) (.cons (.set (.name 12) (.int 0)) .nil)) [s0, .val (.ref 2), .val (plD P), .val (rt d), .val (tabD P.nm P.nc (offs P d)), .val (ib (rdA P d) (rdA P d + 1)), s6, s7, s8, .val (rt later), .val (.int (nw : Nat)), .val (ib (lo + q.1) (hi + q.2)), .val (.int ((f : Int) + 1)), s13, s14, s15, s16, s17, .val (.int (c : Nat)), .val (rt (bb P m c).1), .val (rt (bb P m c).2), .val (.int (nw : Nat)), .val (rt here), .val (rt later), s24, s25, s26] ga =
        some (.nx, [s0, .val (.ref 2), .val (plD P), .val (rt d), .val (tabD P.nm P.nc (offs P d)), .val (ib (rdA P d) (rdA P d + 1)), s6, s7, s8, .val (rt later), .val (.int (nw : Nat)), .val (ib lo' hi'), .val (.int ((0 : Nat) : Int)), s13, s14, s15, s16, s17, .val (.int (c : Nat)), .val (rt (bb P m c).1), .val (rt (bb P m c).2), .val (.int (nw : Nat)), .val (rt here), .val (rt later), s24, s25, s26], gb) ∧ GD (Na + 1) gb ∧ Es P d (zn + 70) nw 0 later lo' hi' := by
      intro ga Na Ga hNa
      obtain ⟨e, gb, r1, Gb, r2, r3⟩ := run_reading (k := k) (by omega) p Ga (by omega) zl zd hd (by omega)
      have I2 := in_read (x := later) hd r2 r3
      obtain ⟨mm, I3⟩ := in_met I1 I2
      have r4 := run_read_box (g := gb) (k := k) (a := rdA P d) (b := rdA P d + 1) (r := ((later + e) / d).floor) (by omega)
      have r5 := run_met (g := gb) (k := k) (by omega) mm
      refine ⟨_, _, gb, ?_, Gb, ⟨hnw, zl, I3, ?_, by omega⟩⟩
      · simp only [Bool.false_eq_true, Nat.zero_add, Nat.reduceAdd, Nat.reduceLeDiff, lineB_val, Nat.reduceLT, Nat.zero_lt_succ, Nat.lt_add_one, reduceIte, Nat.one_pos, Nat.lt_irrefl, and_self, and_true, true_and, ne_eq, not_false_eq_true, not_true_eq_false, Nat.reduceEqDiff, Nat.reduceBEq, if_true, if_false, Bool.true_and, Bool.and_true, Bool.false_and, Bool.and_false, Bool.not_true, Bool.not_false, Bool.not_not, decide_true, decide_false, evB, evX, evE, evT, evS, evA, evI, bindT, bindTs, List.getElem?_cons_zero, List.getElem?_cons_succ, List.set_cons_zero, List.set_cons_succ, List.length_cons, List.length_nil, op2_add, op2_sub, cmpD_lt, cmpD_le, cmpD_gt, cmpD_ge, cmpD_eq, cmpD_ne, tru_bl, items_tup, items_lst, items_fro, items_ref, items_rt, still_tup, still_lst, still_fro, at0, at1, at2, at3, at4, at5, at6, at7, at8, Option.map_some, r1, r4, r5]
        rfl
      · show _ ≤ rdA P d + (rdA P d + 1)
        omega
    by_cases z : (3 : Int) < (f : Int) + 1
    · obtain ⟨lo', hi', gb, r1, Gb, Sb⟩ := rd g2 _ G2 (by omega)
      refine ⟨0, lo', hi', gb, ?_, Gb.mono (by omega), Sb⟩
      rw [evX_ifsT (g1 := g2) (by simp only [Bool.false_eq_true, Nat.zero_add, Nat.reduceAdd, Nat.reduceLeDiff, lineB_val, Nat.reduceLT, Nat.zero_lt_succ, Nat.lt_add_one, reduceIte, Nat.one_pos, Nat.lt_irrefl, and_self, and_true, true_and, ne_eq, not_false_eq_true, not_true_eq_false, Nat.reduceEqDiff, Nat.reduceBEq, if_true, if_false, Bool.true_and, Bool.and_true, Bool.false_and, Bool.and_false, Bool.not_true, Bool.not_false, Bool.not_not, decide_true, decide_false, evB, evX, evE, evT, evS, evA, evI, bindT, bindTs, List.getElem?_cons_zero, List.getElem?_cons_succ, List.set_cons_zero, List.set_cons_succ, List.length_cons, List.length_nil, op2_add, op2_sub, cmpD_lt, cmpD_le, cmpD_gt, cmpD_ge, cmpD_eq, cmpD_ne, tru_bl, items_tup, items_lst, items_fro, items_ref, items_rt, still_tup, still_lst, still_fro, at0, at1, at2, at3, at4, at5, at6, at7, at8, Option.map_some, z])]
      exact r1
    · obtain ⟨v, ga, v1, v2, ev, Ga⟩ := run_take (k := k) (by omega) G2 (by omega) (show (0 : Int) < 2 by decide)
      rcases (show v = 0 ∨ v = 1 by omega) with rfl | rfl
      · obtain ⟨lo', hi', gb, r1, Gb, Sb⟩ := rd ga _ Ga (by omega)
        refine ⟨0, lo', hi', gb, ?_, Gb.mono (by omega), Sb⟩
        rw [evX_ifsT (g1 := ga) (by simp only [Bool.false_eq_true, Nat.zero_add, Nat.reduceAdd, Nat.reduceLeDiff, lineB_val, Nat.reduceLT, Nat.zero_lt_succ, Nat.lt_add_one, reduceIte, Nat.one_pos, Nat.lt_irrefl, and_self, and_true, true_and, ne_eq, not_false_eq_true, not_true_eq_false, Nat.reduceEqDiff, Nat.reduceBEq, if_true, if_false, Bool.true_and, Bool.and_true, Bool.false_and, Bool.and_false, Bool.not_true, Bool.not_false, Bool.not_not, decide_true, decide_false, evB, evX, evE, evT, evS, evA, evI, bindT, bindTs, List.getElem?_cons_zero, List.getElem?_cons_succ, List.set_cons_zero, List.set_cons_succ, List.length_cons, List.length_nil, op2_add, op2_sub, cmpD_lt, cmpD_le, cmpD_gt, cmpD_ge, cmpD_eq, cmpD_ne, tru_bl, items_tup, items_lst, items_fro, items_ref, items_rt, still_tup, still_lst, still_fro, at0, at1, at2, at3, at4, at5, at6, at7, at8, Option.map_some, z, ev, beq_self_eq_true])]
        exact r1
      · have z1 : ((1 : Int) == 0) = false := rfl
        refine ⟨f + 1, _, _, ga, ?_, Ga.mono (by omega), ⟨hnw, zl, I1, W1, by omega⟩⟩
        rw [evX_ifsF (g1 := ga) (by simp only [Bool.false_eq_true, Nat.zero_add, Nat.reduceAdd, Nat.reduceLeDiff, lineB_val, Nat.reduceLT, Nat.zero_lt_succ, Nat.lt_add_one, reduceIte, Nat.one_pos, Nat.lt_irrefl, and_self, and_true, true_and, ne_eq, not_false_eq_true, not_true_eq_false, Nat.reduceEqDiff, Nat.reduceBEq, if_true, if_false, Bool.true_and, Bool.and_true, Bool.false_and, Bool.and_false, Bool.not_true, Bool.not_false, Bool.not_not, decide_true, decide_false, evB, evX, evE, evT, evS, evA, evI, bindT, bindTs, List.getElem?_cons_zero, List.getElem?_cons_succ, List.set_cons_zero, List.set_cons_succ, List.length_cons, List.length_nil, op2_add, op2_sub, cmpD_lt, cmpD_le, cmpD_gt, cmpD_ge, cmpD_eq, cmpD_ne, tru_bl, items_tup, items_lst, items_fro, items_ref, items_rt, still_tup, still_lst, still_fro, at0, at1, at2, at3, at4, at5, at6, at7, at8, Option.map_some, z, ev, z1]), evB_nil]
        rfl
  have t9 : evT (runN T Γ k) Γ (.or (.e (.isN (.var 11))) (.or (.not (.e (.call 52 (.cons (.var 9) (.cons (.var 3) (.cons (.ix (.e (.var 11)) (.int 0)) .nil)))))) (.e (.cmp .gt (.e (.ix (.e (.call 14 (.cons (.var 11) .nil))) (.int 0))) (.e (.ix (.e (.ix (.e (.call 26 (.cons (.var 4) (.cons (.var 5) (.cons (.var 12) .nil))))) (.var 10))) (.int 0))))))) [s0, .val (.ref 2), .val (plD P), .val (rt d), .val (tabD P.nm P.nc (offs P d)), .val (ib (rdA P d) (rdA P d + 1)), s6, s7, s8, .val (rt later), .val (.int (nw : Nat)), .val (ib lo' hi'), .val (.int (f' : Nat)), s13, s14, s15, s16, s17, .val (.int (c : Nat)), .val (rt (bb P m c).1), .val (rt (bb P m c).2), .val (.int (nw : Nat)), .val (rt here), .val (rt later), s24, s25, s26] g3 = some (false, g3) := by
    have i0 : isNon (ib lo' hi') = false := rfl
    have b1 : Bd 1 (1 : Int) := by unfold Bd; decide
    have ab := rdA_Bd p zd'
    have hw : Bd 60 (rdA P d + (rdA P d + 1)) := (ab.add (ab.add b1)).mono (by decide)
    have wb : Bd 1000 (WD P d f' nw) := (Wj_Bd p hd zd' hw f' nw hnw).mono (by have := S'.gf; omega)
    obtain ⟨fl, ce⟩ := in_floor S'.gi
    have zq := S'.gz.div zd' (by omega)
    have bf : Bd 1000 (later / d).floor := (floor_Bd zq).mono (by omega)
    have bc : Bd 1000 (later / d).ceil := (ceil_Bd zq).mono (by omega)
    have sw := S'.gw
    have blo : Bd 2000 lo' := Bd.btw ((bc.sub wb).mono (by decide)) (bf.mono (by decide)) (by omega) fl
    have bhi : Bd 2000 hi' := Bd.btw (bc.mono (by decide)) ((bf.add wb).mono (by decide)) ce (by omega)
    obtain ⟨m1, m2⟩ := in_mul hd S'.gi
    have r1 := run_inside (g := g3) (k := k) (by omega) S'.gz zd' blo bhi (by omega) m1 m2
    have r2 := run_widths (g := g3) (k := k) (p := lo') (q := hi') (by omega)
    have r3 := run_failed (g := g3) (k := k) (by omega) ok (a := rdA P d) (b := rdA P d + 1) (j := f') (by have := S'.gf; omega)
    have a1 := wsD_at (w := WD P d f') hnw
    have nlt : ¬ (WD P d f' nw < hi' - lo') := by omega
    have r3' : runN T Γ k f_failed_widths [tabD P.nm P.nc (offs P d), ib (rdA P d) (rdA P d + 1), .int (f' : Nat)] g3 = some (.lst ((List.range P.nm).map fun n => D.lst [.int (WD P d f' n)]), g3) := r3
    have ii : ∀ a b : Int, items g3 (ib a b) = some [.tup [.int a, .int b]] := fun a b => rfl
    simp only [Bool.false_eq_true, Nat.zero_add, Nat.reduceAdd, Nat.reduceLeDiff, lineB_val, Nat.reduceLT, Nat.zero_lt_succ, Nat.lt_add_one, reduceIte, Nat.one_pos, Nat.lt_irrefl, and_self, and_true, true_and, ne_eq, not_false_eq_true, not_true_eq_false, Nat.reduceEqDiff, Nat.reduceBEq, if_true, if_false, Bool.true_and, Bool.and_true, Bool.false_and, Bool.and_false, Bool.not_true, Bool.not_false, Bool.not_not, decide_true, decide_false, evB, evX, evE, evT, evS, evA, evI, bindT, bindTs, List.getElem?_cons_zero, List.getElem?_cons_succ, List.set_cons_zero, List.set_cons_succ, List.length_cons, List.length_nil, op2_add, op2_sub, cmpD_lt, cmpD_le, cmpD_gt, cmpD_ge, cmpD_eq, cmpD_ne, tru_bl, items_tup, items_lst, items_fro, items_ref, items_rt, still_tup, still_lst, still_fro, at0, at1, at2, at3, at4, at5, at6, at7, at8, Option.map_some, i0, ii, r1, r2, r3', a1, nlt]
  refine ⟨nw, f', later, lo', hi', g3, .val (.int (c : Nat)), .val (rt (bb P m c).1), .val (rt (bb P m c).2), .val (.int (nw : Nat)), .val (rt here), .val (rt later), ?_, G3, S'⟩
  unfold L_law_6
  rw [evB_cons x1, evB_cons x2, evB_cons x3, evB_pass t4, evB_cons x5, evB_cons x6, evB_cons x7, evB_cons x8, evB_pass t9, evB_nil]
end
end K48

set_option linter.all false
set_option maxRecDepth 100000
set_option Elab.async false
set_option exponentiation.threshold 100000
namespace K48
open DP
section
variable {k N m c n : Nat} {g : Gs} {P : Pl} {d : Rat}
theorem l5_loop (hk : 20 < k) (p : PlOk P) (hd : 0 < d) (zd : Z 10 d) {s0 : Sl} : ∀ (cnt i : Nat) (b : D) (s8 s14 s15 s16 s17 : Sl), i + cnt ≤ 4 → (b = .non ∨ ∃ w, b = wsD P.nm w ∧ ∀ n, n < P.nm → w n ≤ WD P d i n) →
    ∃ t7 t8 t14 t15 t16 t17, loopRun (.name 8) (evB (runN T Γ k) Γ L_law_5) ((List.range' i cnt).map fun (x : Nat) => .int (x : Int)) [s0, .val (.ref 2), .val (plD P), .val (rt d), .val (tabD P.nm P.nc (offs P d)), .val (ib (rdA P d) (rdA P d + 1)), .val (.int (rdA P d + (rdA P d + 1))), .val b, s8, .un, .un, .un, .un, .un, s14, s15, s16, s17, .un, .un, .un, .un, .un, .un, .un, .un, .un] g = some (.nx, [s0, .val (.ref 2), .val (plD P), .val (rt d), .val (tabD P.nm P.nc (offs P d)), .val (ib (rdA P d) (rdA P d + 1)), .val (.int (rdA P d + (rdA P d + 1))), t7, t8, .un, .un, .un, .un, .un, t14, t15, t16, t17, .un, .un, .un, .un, .un, .un, .un, .un, .un], g)
  | 0, i, b, s8, s14, s15, s16, s17, _, _ => ⟨.val b, s8, s14, s15, s16, s17, rfl⟩
  | cnt + 1, i, b, s8, s14, s15, s16, s17, hi, hb => by
    obtain ⟨t16, e⟩ := l5 (g := g) hk p hd zd (j := i) (by omega) (s0 := s0) (s14 := s14) (s15 := s15) (s16 := s16) (s17 := s17) hb
    obtain ⟨u7, u8, u14, u15, u16, u17, e'⟩ := l5_loop hk p hd zd (s0 := s0) cnt (i + 1) (wsD P.nm (WD P d i)) (.val (.int i)) (.val (wsD P.nm (WD P d i))) (.val (.tup [rt (hf d)])) t16 (.val (.tup [rt (d * ((maxW P.nm (WD P d i) : Int) : Rat))])) (by omega) (.inr ⟨_, rfl, fun n hn => Wj_grow (tbOk p hd) hn i⟩)
    exact ⟨u7, u8, u14, u15, u16, u17, by rw [List.range'_succ, List.map_cons, loop_cons rfl e, e']⟩
theorem l6_loop (hk : 20 < k) (p : PlOk P) (hd : 0 < d) (zd : Z 10 d) {s0 s6 s7 s8 s14 s15 s16 s17 s24 s25 s26 : Sl} : ∀ (ds : List D) (N zn m f : Nat) (g : Gs) (x : Rat) (lo hi : Int) (s13 s18 s19 s20 s21 s22 s23 : Sl), GD N g → N + 10 * ds.length ≤ 10000 → zn + 70 * ds.length ≤ 600 → Es P d zn m f x lo hi →
    ∃ E' g', loopRun (.name 13) (evB (runN T Γ k) Γ L_law_6) ds [s0, .val (.ref 2), .val (plD P), .val (rt d), .val (tabD P.nm P.nc (offs P d)), .val (ib (rdA P d) (rdA P d + 1)), s6, s7, s8, .val (rt x), .val (.int (m : Nat)), .val (ib lo hi), .val (.int (f : Nat)), s13, s14, s15, s16, s17, s18, s19, s20, s21, s22, s23, s24, s25, s26] g = some (.nx, E', g')
  | [], N, zn, m, f, g, x, lo, hi, s13, s18, s19, s20, s21, s22, s23, _, _, _, _ => ⟨_, g, rfl⟩
  | a :: ds, N, zn, m, f, g, x, lo, hi, s13, s18, s19, s20, s21, s22, s23, G, hN, hz, S => by
    rw [List.length_cons] at hN hz
    obtain ⟨m', f', x', lo', hi', g', t18, t19, t20, t21, t22, t23, e, G', S'⟩ := l6 hk p hd zd G (by omega) (by omega) S (s0 := s0) (s6 := s6) (s7 := s7) (s8 := s8) (s13 := .val a) (s14 := s14) (s15 := s15) (s16 := s16) (s17 := s17) (s18 := s18) (s19 := s19) (s20 := s20) (s21 := s21) (s22 := s22) (s23 := s23) (s24 := s24) (s25 := s25) (s26 := s26)
    obtain ⟨E', g'', e'⟩ := l6_loop hk p hd zd (s0 := s0) (s6 := s6) (s7 := s7) (s8 := s8) (s14 := s14) (s15 := s15) (s16 := s16) (s17 := s17) (s24 := s24) (s25 := s25) (s26 := s26) ds (N + 10) (zn + 70) m' f' g' x' lo' hi' (.val a) t18 t19 t20 t21 t22 t23 G' (by omega) (by omega) S'
    exact ⟨E', g'', by rw [loop_cons rfl e, e']⟩
theorem run_law (hk : 21 < k) {ns : List Int} (hl : ns.length ≤ 63) : ∃ g', runN T Γ k f_law [.fro (ns.map .int)] [] = some (.bl true, g') := by
  obtain ⟨k, rfl⟩ : ∃ k', k = k' + 1 := ⟨k - 1, by omega⟩
  rw [run_eq T_law rfl]
  obtain ⟨g1, e1, G1⟩ := run_deal (k := k) (by omega) hl
  obtain ⟨P, g2, e2, G2, p⟩ := run_plant_of (k := k) (by omega) G1 (by omega)
  obtain ⟨d, g3, e3, G3, hd, zd5⟩ := run_unit (k := k) (by omega) G2 (by omega)
  have zd : Z 10 d := zd5.mono (by decide)
  have zd' : Z 20 d := zd.mono (by decide)
  have hm1 := p.m1
  have hm2 := p.m2
  have hc3 := p.c3
  have e4 := run_offsets_of (g := g3) (k := k) (by omega) p hd zd'
  have e5 := run_read_pairs (g := g3) (k := k) (by omega) p hd zd'
  have e6 := run_law_offsets (g := g3) (k := k) (by omega) p hd zd'
  have e7 := run_law_reads (g := g3) (k := k) (by omega) p hd zd'
  have s1 := run_same (g := g3) 5 (tabD P.nm P.nc (offs P d)) k (by omega) (okS_tab (by omega) (by omega) _)
  have s2 := run_same (g := g3) 2 (ib (rdA P d) (rdA P d + 1)) k (by omega) rfl
  obtain ⟨u7, u8, u14, u15, u16, u17, lp5⟩ := l5_loop (g := g3) (k := k) (by omega) p hd zd (s0 := .val (.fro (ns.map .int))) 4 0 .non .un .un .un .un .un (by omega) (.inl rfl)
  obtain ⟨v1, g4, p1, q1, e8, G4⟩ := run_take (k := k) (by omega) G3 (by omega) (show (0 : Int) < 41 by decide)
  obtain ⟨v2, g5, p2, q2, e9, G5⟩ := run_take (k := k) (by omega) G4 (by omega) (show (0 : Int) < 5 by decide)
  have b1 : Bd 6 (v1 - 20) := by unfold Bd; omega
  have b2 : Bd 6 (1 + v2) := by unfold Bd; omega
  have e10 := run_law_ratio (g := g5) (k := k) (p := v1 - 20) (q := 1 + v2) (by omega) (by omega) b1 b2 (by decide)
  have zx : Z 6 (Rat.divInt (v1 - 20) (1 + v2)) := divInt_Z b1 b2 (by decide)
  obtain ⟨v3, g6, p3, q3, e11, G6⟩ := run_take (k := k) (by omega) G5 (by omega) (show (0 : Int) < (P.nm : Int) by omega)
  obtain ⟨m, rfl⟩ := Int.eq_ofNat_of_zero_le p3
  obtain ⟨e, g7, e12, G7, r2, r3⟩ := run_reading (k := k) (by omega) p G6 (by omega) zx zd hd (by decide)
  have e13 := run_read_box (g := g7) (k := k) (a := rdA P d) (b := rdA P d + 1) (r := ((Rat.divInt (v1 - 20) (1 + v2) + e) / d).floor) (by omega)
  have S : Es P d 6 m 0 (Rat.divInt (v1 - 20) (1 + v2)) (((Rat.divInt (v1 - 20) (1 + v2) + e) / d).floor - rdA P d) (((Rat.divInt (v1 - 20) (1 + v2) + e) / d).floor + (rdA P d + 1)) := by
    have hm : m < P.nm := by omega
    refine ⟨hm, zx, in_read hd r2 r3, ?_, by omega⟩
    show _ ≤ rdA P d + (rdA P d + 1)
    omega
  obtain ⟨E', g8, lp6⟩ := l6_loop (k := k) (by omega) p hd zd (s0 := .val (.fro (ns.map .int))) (s6 := .val (.int (rdA P d + (rdA P d + 1)))) (s7 := u7) (s8 := u8) (s14 := u14) (s15 := u15) (s16 := u16) (s17 := u17) (s24 := .un) (s25 := .un) (s26 := .un) (intRow 0 (Int.toNat 7)) _ 6 m 0 g7 _ _ _ .un .un .un .un .un .un .un G7 (by rw [intRow_length]; show _ + 10 * 7 ≤ _; omega) (by rw [intRow_length]; decide) S
  refine ⟨g8, ?_⟩
  show res (evB _ _ B_law [.val (.fro (ns.map .int)), .un, .un, .un, .un, .un, .un, .un, .un, .un, .un, .un, .un, .un, .un, .un, .un, .un, .un, .un, .un, .un, .un, .un, .un, .un, .un] []) = _
  have r4 : (-(2 ^ 62) ≤ (4 : Int) ∧ (4 : Int) < 2 ^ 62) := by decide
  have r7 : (-(2 ^ 62) ≤ (7 : Int) ∧ (7 : Int) < 2 ^ 62) := by decide
  have i4 : intRow 0 (Int.toNat 4) = (List.range' 0 4).map fun (x : Nat) => D.int (x : Int) := rfl
  have ii : ∀ (g : Gs) (a b : Int), items g (ib a b) = some [.tup [.int a, .int b]] := fun g a b => rfl
  have pm : evE (runN T Γ k) Γ (.len (.e (.ix (.e (.var 2)) (.int 2)))) [.val (.fro (ns.map .int)), .val (.ref 2), .val (plD P), .val (rt d), .val (tabD P.nm P.nc (offs P d)), .val (ib (rdA P d) (rdA P d + 1)), .val (.int (rdA P d + (rdA P d + 1))), u7, u8, .val (rt (Rat.divInt (v1 - 20) (1 + v2))), .un, .un, .un, .un, u14, u15, u16, u17, .un, .un, .un, .un, .un, .un, .un, .un, .un] g5 = some (.int (P.nm : Int), g5) := by
    unfold plD
    simp only [Bool.false_eq_true, Nat.zero_add, Nat.reduceAdd, Nat.reduceLeDiff, lineB_val, Nat.reduceLT, Nat.zero_lt_succ, Nat.lt_add_one, reduceIte, Nat.one_pos, Nat.lt_irrefl, and_self, and_true, true_and, ne_eq, not_false_eq_true, not_true_eq_false, Nat.reduceEqDiff, Nat.reduceBEq, if_true, if_false, Bool.true_and, Bool.and_true, Bool.false_and, Bool.and_false, Bool.not_true, Bool.not_false, Bool.not_not, decide_true, decide_false, evB, evX, evE, evT, evS, evA, evI, bindT, bindTs, List.getElem?_cons_zero, List.getElem?_cons_succ, List.set_cons_zero, List.set_cons_succ, List.length_cons, List.length_nil, op2_add, op2_sub, cmpD_lt, cmpD_le, cmpD_gt, cmpD_ge, cmpD_eq, cmpD_ne, tru_bl, items_tup, items_lst, items_fro, items_ref, items_rt, still_tup, still_lst, still_fro, at0, at1, at2, at3, at4, at5, at6, at7, at8, Option.map_some, p.md]
  have x10 : evX (runN T Γ k) Γ (.set (.name 10) (.call 30 (.cons (.var 1) (.cons (.len (.e (.ix (.e (.var 2)) (.int 2)))) .nil)))) [.val (.fro (ns.map .int)), .val (.ref 2), .val (plD P), .val (rt d), .val (tabD P.nm P.nc (offs P d)), .val (ib (rdA P d) (rdA P d + 1)), .val (.int (rdA P d + (rdA P d + 1))), u7, u8, .val (rt (Rat.divInt (v1 - 20) (1 + v2))), .un, .un, .un, .un, u14, u15, u16, u17, .un, .un, .un, .un, .un, .un, .un, .un, .un] g5 =
      some (.nx, [.val (.fro (ns.map .int)), .val (.ref 2), .val (plD P), .val (rt d), .val (tabD P.nm P.nc (offs P d)), .val (ib (rdA P d) (rdA P d + 1)), .val (.int (rdA P d + (rdA P d + 1))), u7, u8, .val (rt (Rat.divInt (v1 - 20) (1 + v2))), .val (.int ((m : Nat) : Int)), .un, .un, .un, u14, u15, u16, u17, .un, .un, .un, .un, .un, .un, .un, .un, .un], g6) := by
    have y : evE (runN T Γ k) Γ (.call 30 (.cons (.var 1) (.cons (.len (.e (.ix (.e (.var 2)) (.int 2)))) .nil))) [.val (.fro (ns.map .int)), .val (.ref 2), .val (plD P), .val (rt d), .val (tabD P.nm P.nc (offs P d)), .val (ib (rdA P d) (rdA P d + 1)), .val (.int (rdA P d + (rdA P d + 1))), u7, u8, .val (rt (Rat.divInt (v1 - 20) (1 + v2))), .un, .un, .un, .un, u14, u15, u16, u17, .un, .un, .un, .un, .un, .un, .un, .un, .un] g5 = some (.int ((m : Nat) : Int), g6) := by
      rw [evE, evA, evE]
      simp only [List.getElem?_cons_succ, List.getElem?_cons_zero]
      rw [evA, pm]
      simp only [Bool.false_eq_true, Nat.zero_add, Nat.reduceAdd, Nat.reduceLeDiff, lineB_val, Nat.reduceLT, Nat.zero_lt_succ, Nat.lt_add_one, reduceIte, Nat.one_pos, Nat.lt_irrefl, and_self, and_true, true_and, ne_eq, not_false_eq_true, not_true_eq_false, Nat.reduceEqDiff, Nat.reduceBEq, if_true, if_false, Bool.true_and, Bool.and_true, Bool.false_and, Bool.and_false, Bool.not_true, Bool.not_false, Bool.not_not, decide_true, decide_false, evB, evX, evE, evT, evS, evA, evI, bindT, bindTs, List.getElem?_cons_zero, List.getElem?_cons_succ, List.set_cons_zero, List.set_cons_succ, List.length_cons, List.length_nil, op2_add, op2_sub, cmpD_lt, cmpD_le, cmpD_gt, cmpD_ge, cmpD_eq, cmpD_ne, tru_bl, items_tup, items_lst, items_fro, items_ref, items_rt, still_tup, still_lst, still_fro, at0, at1, at2, at3, at4, at5, at6, at7, at8, Option.map_some, e11]
    exact evX_set y (by simp)
  have lp6' : loopRun (.name 13) (evB (runN T Γ k) Γ L_law_6) (intRow 0 (Int.toNat 7)) [.val (.fro (ns.map .int)), .val (.ref 2), .val (plD P), .val (rt d), .val (tabD P.nm P.nc (offs P d)), .val (ib (rdA P d) (rdA P d + 1)), .val (.int (rdA P d + (rdA P d + 1))), u7, u8, .val (rt (Rat.divInt (v1 - 20) (1 + v2))), .val (.int ((m : Nat) : Int)), .val (ib (((Rat.divInt (v1 - 20) (1 + v2) + e) / d).floor - rdA P d) (((Rat.divInt (v1 - 20) (1 + v2) + e) / d).floor + (rdA P d + 1))), .val (.int 0), .un, u14, u15, u16, u17, .un, .un, .un, .un, .un, .un, .un, .un, .un] g7 = some (.nx, E', g8) := lp6
  unfold B_law
  rw [evB_cons (E1 := [.val (.fro (ns.map .int)), .val (.ref 2), .un, .un, .un, .un, .un, .un, .un, .un, .un, .un, .un, .un, .un, .un, .un, .un, .un, .un, .un, .un, .un, .un, .un, .un, .un]) (g1 := g1) (by simp only [Bool.false_eq_true, Nat.zero_add, Nat.reduceAdd, Nat.reduceLeDiff, lineB_val, Nat.reduceLT, Nat.zero_lt_succ, Nat.lt_add_one, reduceIte, Nat.one_pos, Nat.lt_irrefl, and_self, and_true, true_and, ne_eq, not_false_eq_true, not_true_eq_false, Nat.reduceEqDiff, Nat.reduceBEq, if_true, if_false, Bool.true_and, Bool.and_true, Bool.false_and, Bool.and_false, Bool.not_true, Bool.not_false, Bool.not_not, decide_true, decide_false, evB, evX, evE, evT, evS, evA, evI, bindT, bindTs, List.getElem?_cons_zero, List.getElem?_cons_succ, List.set_cons_zero, List.set_cons_succ, List.length_cons, List.length_nil, op2_add, op2_sub, cmpD_lt, cmpD_le, cmpD_gt, cmpD_ge, cmpD_eq, cmpD_ne, tru_bl, items_tup, items_lst, items_fro, items_ref, items_rt, still_tup, still_lst, still_fro, at0, at1, at2, at3, at4, at5, at6, at7, at8, Option.map_some, e1])]
  rw [evB_cons (E1 := [.val (.fro (ns.map .int)), .val (.ref 2), .val (plD P), .un, .un, .un, .un, .un, .un, .un, .un, .un, .un, .un, .un, .un, .un, .un, .un, .un, .un, .un, .un, .un, .un, .un, .un]) (g1 := g2) (by simp only [Bool.false_eq_true, Nat.zero_add, Nat.reduceAdd, Nat.reduceLeDiff, lineB_val, Nat.reduceLT, Nat.zero_lt_succ, Nat.lt_add_one, reduceIte, Nat.one_pos, Nat.lt_irrefl, and_self, and_true, true_and, ne_eq, not_false_eq_true, not_true_eq_false, Nat.reduceEqDiff, Nat.reduceBEq, if_true, if_false, Bool.true_and, Bool.and_true, Bool.false_and, Bool.and_false, Bool.not_true, Bool.not_false, Bool.not_not, decide_true, decide_false, evB, evX, evE, evT, evS, evA, evI, bindT, bindTs, List.getElem?_cons_zero, List.getElem?_cons_succ, List.set_cons_zero, List.set_cons_succ, List.length_cons, List.length_nil, op2_add, op2_sub, cmpD_lt, cmpD_le, cmpD_gt, cmpD_ge, cmpD_eq, cmpD_ne, tru_bl, items_tup, items_lst, items_fro, items_ref, items_rt, still_tup, still_lst, still_fro, at0, at1, at2, at3, at4, at5, at6, at7, at8, Option.map_some, e2])]
  rw [evB_cons (E1 := [.val (.fro (ns.map .int)), .val (.ref 2), .val (plD P), .val (rt d), .un, .un, .un, .un, .un, .un, .un, .un, .un, .un, .un, .un, .un, .un, .un, .un, .un, .un, .un, .un, .un, .un, .un]) (g1 := g3) (by simp only [Bool.false_eq_true, Nat.zero_add, Nat.reduceAdd, Nat.reduceLeDiff, lineB_val, Nat.reduceLT, Nat.zero_lt_succ, Nat.lt_add_one, reduceIte, Nat.one_pos, Nat.lt_irrefl, and_self, and_true, true_and, ne_eq, not_false_eq_true, not_true_eq_false, Nat.reduceEqDiff, Nat.reduceBEq, if_true, if_false, Bool.true_and, Bool.and_true, Bool.false_and, Bool.and_false, Bool.not_true, Bool.not_false, Bool.not_not, decide_true, decide_false, evB, evX, evE, evT, evS, evA, evI, bindT, bindTs, List.getElem?_cons_zero, List.getElem?_cons_succ, List.set_cons_zero, List.set_cons_succ, List.length_cons, List.length_nil, op2_add, op2_sub, cmpD_lt, cmpD_le, cmpD_gt, cmpD_ge, cmpD_eq, cmpD_ne, tru_bl, items_tup, items_lst, items_fro, items_ref, items_rt, still_tup, still_lst, still_fro, at0, at1, at2, at3, at4, at5, at6, at7, at8, Option.map_some, e3])]
  rw [evB_cons (E1 := [.val (.fro (ns.map .int)), .val (.ref 2), .val (plD P), .val (rt d), .val (tabD P.nm P.nc (offs P d)), .un, .un, .un, .un, .un, .un, .un, .un, .un, .un, .un, .un, .un, .un, .un, .un, .un, .un, .un, .un, .un, .un]) (g1 := g3) (by simp only [Bool.false_eq_true, Nat.zero_add, Nat.reduceAdd, Nat.reduceLeDiff, lineB_val, Nat.reduceLT, Nat.zero_lt_succ, Nat.lt_add_one, reduceIte, Nat.one_pos, Nat.lt_irrefl, and_self, and_true, true_and, ne_eq, not_false_eq_true, not_true_eq_false, Nat.reduceEqDiff, Nat.reduceBEq, if_true, if_false, Bool.true_and, Bool.and_true, Bool.false_and, Bool.and_false, Bool.not_true, Bool.not_false, Bool.not_not, decide_true, decide_false, evB, evX, evE, evT, evS, evA, evI, bindT, bindTs, List.getElem?_cons_zero, List.getElem?_cons_succ, List.set_cons_zero, List.set_cons_succ, List.length_cons, List.length_nil, op2_add, op2_sub, cmpD_lt, cmpD_le, cmpD_gt, cmpD_ge, cmpD_eq, cmpD_ne, tru_bl, items_tup, items_lst, items_fro, items_ref, items_rt, still_tup, still_lst, still_fro, at0, at1, at2, at3, at4, at5, at6, at7, at8, Option.map_some, e4])]
  rw [evB_cons (E1 := [.val (.fro (ns.map .int)), .val (.ref 2), .val (plD P), .val (rt d), .val (tabD P.nm P.nc (offs P d)), .val (ib (rdA P d) (rdA P d + 1)), .un, .un, .un, .un, .un, .un, .un, .un, .un, .un, .un, .un, .un, .un, .un, .un, .un, .un, .un, .un, .un]) (g1 := g3) (by simp only [Bool.false_eq_true, Nat.zero_add, Nat.reduceAdd, Nat.reduceLeDiff, lineB_val, Nat.reduceLT, Nat.zero_lt_succ, Nat.lt_add_one, reduceIte, Nat.one_pos, Nat.lt_irrefl, and_self, and_true, true_and, ne_eq, not_false_eq_true, not_true_eq_false, Nat.reduceEqDiff, Nat.reduceBEq, if_true, if_false, Bool.true_and, Bool.and_true, Bool.false_and, Bool.and_false, Bool.not_true, Bool.not_false, Bool.not_not, decide_true, decide_false, evB, evX, evE, evT, evS, evA, evI, bindT, bindTs, List.getElem?_cons_zero, List.getElem?_cons_succ, List.set_cons_zero, List.set_cons_succ, List.length_cons, List.length_nil, op2_add, op2_sub, cmpD_lt, cmpD_le, cmpD_gt, cmpD_ge, cmpD_eq, cmpD_ne, tru_bl, items_tup, items_lst, items_fro, items_ref, items_rt, still_tup, still_lst, still_fro, at0, at1, at2, at3, at4, at5, at6, at7, at8, Option.map_some, e5])]
  rw [evB_cons (E1 := [.val (.fro (ns.map .int)), .val (.ref 2), .val (plD P), .val (rt d), .val (tabD P.nm P.nc (offs P d)), .val (ib (rdA P d) (rdA P d + 1)), .val (.int (rdA P d + (rdA P d + 1))), .un, .un, .un, .un, .un, .un, .un, .un, .un, .un, .un, .un, .un, .un, .un, .un, .un, .un, .un, .un]) (g1 := g3) (by simp only [Bool.false_eq_true, Nat.zero_add, Nat.reduceAdd, Nat.reduceLeDiff, lineB_val, Nat.reduceLT, Nat.zero_lt_succ, Nat.lt_add_one, reduceIte, Nat.one_pos, Nat.lt_irrefl, and_self, and_true, true_and, ne_eq, not_false_eq_true, not_true_eq_false, Nat.reduceEqDiff, Nat.reduceBEq, if_true, if_false, Bool.true_and, Bool.and_true, Bool.false_and, Bool.and_false, Bool.not_true, Bool.not_false, Bool.not_not, decide_true, decide_false, evB, evX, evE, evT, evS, evA, evI, bindT, bindTs, List.getElem?_cons_zero, List.getElem?_cons_succ, List.set_cons_zero, List.set_cons_succ, List.length_cons, List.length_nil, op2_add, op2_sub, cmpD_lt, cmpD_le, cmpD_gt, cmpD_ge, cmpD_eq, cmpD_ne, tru_bl, items_tup, items_lst, items_fro, items_ref, items_rt, still_tup, still_lst, still_fro, at0, at1, at2, at3, at4, at5, at6, at7, at8, Option.map_some, ii])]
  rw [evB_pass (g1 := g3) (by simp only [Bool.false_eq_true, Nat.zero_add, Nat.reduceAdd, Nat.reduceLeDiff, lineB_val, Nat.reduceLT, Nat.zero_lt_succ, Nat.lt_add_one, reduceIte, Nat.one_pos, Nat.lt_irrefl, and_self, and_true, true_and, ne_eq, not_false_eq_true, not_true_eq_false, Nat.reduceEqDiff, Nat.reduceBEq, if_true, if_false, Bool.true_and, Bool.and_true, Bool.false_and, Bool.and_false, Bool.not_true, Bool.not_false, Bool.not_not, decide_true, decide_false, evB, evX, evE, evT, evS, evA, evI, bindT, bindTs, List.getElem?_cons_zero, List.getElem?_cons_succ, List.set_cons_zero, List.set_cons_succ, List.length_cons, List.length_nil, op2_add, op2_sub, cmpD_lt, cmpD_le, cmpD_gt, cmpD_ge, cmpD_eq, cmpD_ne, tru_bl, items_tup, items_lst, items_fro, items_ref, items_rt, still_tup, still_lst, still_fro, at0, at1, at2, at3, at4, at5, at6, at7, at8, Option.map_some, e6, e7, s1, s2])]
  rw [evB_cons (E1 := [.val (.fro (ns.map .int)), .val (.ref 2), .val (plD P), .val (rt d), .val (tabD P.nm P.nc (offs P d)), .val (ib (rdA P d) (rdA P d + 1)), .val (.int (rdA P d + (rdA P d + 1))), .val .non, .un, .un, .un, .un, .un, .un, .un, .un, .un, .un, .un, .un, .un, .un, .un, .un, .un, .un, .un]) (g1 := g3) (by simp only [Bool.false_eq_true, Nat.zero_add, Nat.reduceAdd, Nat.reduceLeDiff, lineB_val, Nat.reduceLT, Nat.zero_lt_succ, Nat.lt_add_one, reduceIte, Nat.one_pos, Nat.lt_irrefl, and_self, and_true, true_and, ne_eq, not_false_eq_true, not_true_eq_false, Nat.reduceEqDiff, Nat.reduceBEq, if_true, if_false, Bool.true_and, Bool.and_true, Bool.false_and, Bool.and_false, Bool.not_true, Bool.not_false, Bool.not_not, decide_true, decide_false, evB, evX, evE, evT, evS, evA, evI, bindT, bindTs, List.getElem?_cons_zero, List.getElem?_cons_succ, List.set_cons_zero, List.set_cons_succ, List.length_cons, List.length_nil, op2_add, op2_sub, cmpD_lt, cmpD_le, cmpD_gt, cmpD_ge, cmpD_eq, cmpD_ne, tru_bl, items_tup, items_lst, items_fro, items_ref, items_rt, still_tup, still_lst, still_fro, at0, at1, at2, at3, at4, at5, at6, at7, at8, Option.map_some])]
  rw [evB_cons (evX_loop (g1 := g3) (xs := intRow 0 (Int.toNat 4)) (by simp only [evI, evE, r4, and_self, if_true]) (by rw [i4]; exact lp5))]
  rw [evB_cons (E1 := [.val (.fro (ns.map .int)), .val (.ref 2), .val (plD P), .val (rt d), .val (tabD P.nm P.nc (offs P d)), .val (ib (rdA P d) (rdA P d + 1)), .val (.int (rdA P d + (rdA P d + 1))), u7, u8, .val (rt (Rat.divInt (v1 - 20) (1 + v2))), .un, .un, .un, .un, u14, u15, u16, u17, .un, .un, .un, .un, .un, .un, .un, .un, .un]) (g1 := g5) (by simp only [Bool.false_eq_true, Nat.zero_add, Nat.reduceAdd, Nat.reduceLeDiff, lineB_val, Nat.reduceLT, Nat.zero_lt_succ, Nat.lt_add_one, reduceIte, Nat.one_pos, Nat.lt_irrefl, and_self, and_true, true_and, ne_eq, not_false_eq_true, not_true_eq_false, Nat.reduceEqDiff, Nat.reduceBEq, if_true, if_false, Bool.true_and, Bool.and_true, Bool.false_and, Bool.and_false, Bool.not_true, Bool.not_false, Bool.not_not, decide_true, decide_false, evB, evX, evE, evT, evS, evA, evI, bindT, bindTs, List.getElem?_cons_zero, List.getElem?_cons_succ, List.set_cons_zero, List.set_cons_succ, List.length_cons, List.length_nil, op2_add, op2_sub, cmpD_lt, cmpD_le, cmpD_gt, cmpD_ge, cmpD_eq, cmpD_ne, tru_bl, items_tup, items_lst, items_fro, items_ref, items_rt, still_tup, still_lst, still_fro, at0, at1, at2, at3, at4, at5, at6, at7, at8, Option.map_some, e8, e9, e10])]
  rw [evB_cons x10]
  rw [evB_cons (E1 := [.val (.fro (ns.map .int)), .val (.ref 2), .val (plD P), .val (rt d), .val (tabD P.nm P.nc (offs P d)), .val (ib (rdA P d) (rdA P d + 1)), .val (.int (rdA P d + (rdA P d + 1))), u7, u8, .val (rt (Rat.divInt (v1 - 20) (1 + v2))), .val (.int ((m : Nat) : Int)), .val (ib (((Rat.divInt (v1 - 20) (1 + v2) + e) / d).floor - rdA P d) (((Rat.divInt (v1 - 20) (1 + v2) + e) / d).floor + (rdA P d + 1))), .un, .un, u14, u15, u16, u17, .un, .un, .un, .un, .un, .un, .un, .un, .un]) (g1 := g7) (by simp only [Bool.false_eq_true, Nat.zero_add, Nat.reduceAdd, Nat.reduceLeDiff, lineB_val, Nat.reduceLT, Nat.zero_lt_succ, Nat.lt_add_one, reduceIte, Nat.one_pos, Nat.lt_irrefl, and_self, and_true, true_and, ne_eq, not_false_eq_true, not_true_eq_false, Nat.reduceEqDiff, Nat.reduceBEq, if_true, if_false, Bool.true_and, Bool.and_true, Bool.false_and, Bool.and_false, Bool.not_true, Bool.not_false, Bool.not_not, decide_true, decide_false, evB, evX, evE, evT, evS, evA, evI, bindT, bindTs, List.getElem?_cons_zero, List.getElem?_cons_succ, List.set_cons_zero, List.set_cons_succ, List.length_cons, List.length_nil, op2_add, op2_sub, cmpD_lt, cmpD_le, cmpD_gt, cmpD_ge, cmpD_eq, cmpD_ne, tru_bl, items_tup, items_lst, items_fro, items_ref, items_rt, still_tup, still_lst, still_fro, at0, at1, at2, at3, at4, at5, at6, at7, at8, Option.map_some, e12, e13])]
  rw [evB_cons (E1 := [.val (.fro (ns.map .int)), .val (.ref 2), .val (plD P), .val (rt d), .val (tabD P.nm P.nc (offs P d)), .val (ib (rdA P d) (rdA P d + 1)), .val (.int (rdA P d + (rdA P d + 1))), u7, u8, .val (rt (Rat.divInt (v1 - 20) (1 + v2))), .val (.int ((m : Nat) : Int)), .val (ib (((Rat.divInt (v1 - 20) (1 + v2) + e) / d).floor - rdA P d) (((Rat.divInt (v1 - 20) (1 + v2) + e) / d).floor + (rdA P d + 1))), .val (.int 0), .un, u14, u15, u16, u17, .un, .un, .un, .un, .un, .un, .un, .un, .un]) (g1 := g7) (by simp only [Bool.false_eq_true, Nat.zero_add, Nat.reduceAdd, Nat.reduceLeDiff, lineB_val, Nat.reduceLT, Nat.zero_lt_succ, Nat.lt_add_one, reduceIte, Nat.one_pos, Nat.lt_irrefl, and_self, and_true, true_and, ne_eq, not_false_eq_true, not_true_eq_false, Nat.reduceEqDiff, Nat.reduceBEq, if_true, if_false, Bool.true_and, Bool.and_true, Bool.false_and, Bool.and_false, Bool.not_true, Bool.not_false, Bool.not_not, decide_true, decide_false, evB, evX, evE, evT, evS, evA, evI, bindT, bindTs, List.getElem?_cons_zero, List.getElem?_cons_succ, List.set_cons_zero, List.set_cons_succ, List.length_cons, List.length_nil, op2_add, op2_sub, cmpD_lt, cmpD_le, cmpD_gt, cmpD_ge, cmpD_eq, cmpD_ne, tru_bl, items_tup, items_lst, items_fro, items_ref, items_rt, still_tup, still_lst, still_fro, at0, at1, at2, at3, at4, at5, at6, at7, at8, Option.map_some])]
  rw [evB_cons (evX_loop (g1 := g7) (xs := intRow 0 (Int.toNat 7)) (by simp only [evI, evE, r7, and_self, if_true]) lp6')]
  rw [evB_ret (d := .bl true) (g1 := g8) (by rw [evE])]
  rfl
end
end K48

theorem PySem.Challenge.cw_surepilot_k48_whole_late_widths_bound_es_holds : PySem.Challenge.rw_surepilot_k48_whole_late_widths_bound_es.Holds := by
  exact K48.final fun ns hl => K48.run_law (by decide) hl
