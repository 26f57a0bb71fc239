import PyProof.Rows.All
import Wide.All
import OpenK.AllK
import Wide.FinOn
import PySem.Challenge.RW_firstsapart_k04_fractions_in_lowest_term
import HandS.ForMost
import HandS.Deep
import HandS.Walk
import HandS.Gcd
import HandS.Wide
import HandS.Conv
import HandS.Rev
import HandS.RevRange
import HandS.IsInst
import HandS.NoneIn
import HandS.Style
import HandS.Flow
import HandS.TupAny
import HandS.SetFor
import HandS.SortInts
import HandS.CallSlots
import HandS.ForExc
import HandS.WordsExc
import HandS.Codes
set_option Elab.async false
set_option linter.all false
set_option maxRecDepth 100000
set_option maxHeartbeats 8000000
set_option autoImplicit false
section
/-! Pv1: a small pure language for the programs' Python, its evaluator (value semantics with owned lists). -/
namespace Pv
open PySem

abbrev D := PyData
/-- what a name holds: nothing, a value that is shared and never changes, a list or dict that this name alone holds -/
inductive Slot where
  | un | val (d : D) | own (d : D)
abbrev En := List Slot
/-- an expression's result: shared, or a new list or dict that nobody holds -/
inductive R where
  | val (d : D) | fresh (d : D)
/-- .. or what a name alone holds -/
inductive X where
  | val (d : D) | fresh (d : D) | slot (i : Nat)
def R.x : R → X
  | .val d => .val d
  | .fresh d => .fresh d
@[simp] theorem R.x_val (d : D) : (R.val d).x = .val d := rfl
@[simp] theorem R.x_fresh (d : D) : (R.fresh d).x = .fresh d := rfl
inductive Res (α : Type) where
  | ok (a : α) | rs (c : Str) (d : D) (ρ : En) | bad
def Res.bind {α β : Type} : Res α → (α → Res β) → Res β
  | .ok a, f => f a
  | .rs c d ρ, _ => .rs c d ρ
  | .bad, _ => .bad
@[simp] theorem bind_ok {α β : Type} (a : α) (f : α → Res β) : (Res.ok a).bind f = f a := rfl
@[simp] theorem bind_bad {α β : Type} (f : α → Res β) : (Res.bad : Res α).bind f = .bad := rfl
@[simp] theorem bind_rs {α β : Type} (c d ρ) (f : α → Res β) : (Res.rs c d ρ : Res α).bind f = .rs c d ρ := rfl

inductive Bop where
  | add | sub | mul | fdiv | mod | pow
  deriving DecidableEq, Repr
inductive Cop where
  | eq | ne | lt | le | gt | ge | isin | notin | is | isnot
  deriving DecidableEq, Repr
/-- built-in functions of values -/
inductive Bi where
  | len | abs | int | sum | any | all | max | min | gcd | list | tuple | sorted | str
  | isi (ts : List String)
  deriving DecidableEq, Repr
/-- methods that change nothing -/
inductive Me where
  | index | count | get | join
  deriving DecidableEq, Repr
/-- methods that change a list that a name alone holds -/
inductive Mu where
  | append | extend | reverse | remove | pop
  deriving DecidableEq, Repr
inductive Tg where
  | one (i : Nat) | tup (is : List Nat) | bad
  deriving Repr
mutual
inductive Ex where
  | bad | non | bl (b : Bool) | int (i : Int) | str (x : Str)
  | var (i : Nat) | glo (x : Str)
  | neg (a : Ex) | bin (o : Bop) (a b : Ex) | cmp (o : Cop) (a b : Ex) | chn (o p : Cop) (a b c : Ex)
  | and (a b : Ex) | or (a b : Ex) | not (a : Ex) | tru (a : Ex) | ite (c a b : Ex)
  | tup (es : List Ex) | lst (es : List Ex)
  | sub (a i : Ex) | sli (a : Ex) (lo hi : Option Ex) | rvs (a : Ex)
  | call (f : Str) (es : List Ex) | bi (b : Bi) (es : List Ex) | met (m : Me) (a : Ex) (es : List Ex)
  | lrng (es : List Ex) | trng (es : List Ex) | trev (a : Ex)
  | mut (i : Nat) (m : Mu) (es : List Ex)
  | lc (own : List Nat) (tg : Tg) (it : It) (cs : Option Ex) (e : Ex)
inductive It where
  | seq (a : Ex) | hid (i : Nat) | rng (es : List Ex) | enum (a : Ex) | zip (a b : Ex) | rev (a : Ex)
end
inductive St where
  | bad | pas | brk | cnt
  | set (i : Nat) (e : Ex) | par (is : List Nat) (es : List Ex) | unp (is : List Nat) (e : Ex)
  | sto (i : Nat) (ix e : Ex)
  | exp (e : Ex) | ret (e : Ex) | retv (i : Nat) | retN
  | ifs (c : Ex) (a b : List St) | fo (tg : Tg) (it : It) (body : List St) | whl (c : Ex) (body : List St)
  | rse (c : Str) (e : Ex)

/-- the size line of lists and texts -/
def LIM : Nat := 16777216
/-- ints of which the product is taken: together below a million bits -/
def mulOk (i j : Int) : Bool := decide (i.natAbs.log2 + j.natAbs.log2 < 1000000)
def divOk (j : Int) : Bool := decide (j ≠ 0) && decide (j.natAbs.log2 < 9000)
def rngOk (i : Int) : Bool := decide (-(2 ^ 62) ≤ i) && decide (i < 2 ^ 62)
def shp (d : D) : Bool := SeqAt.shaped d

def binD : Bop → D → D → Option R
  | .add, .int i, .int j => some (.val (.int (i + j)))
  | .add, .list xs, .list ys => if xs.length + ys.length ≤ LIM then some (.fresh (.list (xs ++ ys))) else none
  | .add, .tuple xs, .tuple ys => if xs.length + ys.length ≤ LIM then some (.val (.tuple (xs ++ ys))) else none
  | .add, .str x, .str y => if x.length + y.length ≤ LIM then some (.val (.str (x ++ y))) else none
  | .sub, .int i, .int j => some (.val (.int (i - j)))
  | .mul, .int i, .int j => if mulOk i j then some (.val (.int (i * j))) else none
  | .mul, .list xs, .int k => if rngOk k && decide (xs.length * k.toNat ≤ LIM) then some (.fresh (.list (List.replicate k.toNat xs).flatten)) else none
  | .fdiv, .int i, .int j => if divOk j then some (.val (.int (i.fdiv j))) else none
  | .mod, .int i, .int j => if 0 < j then some (.val (.int (i % j))) else none
  | .pow, .int i, .int j => if decide (0 ≤ j) && decide (j ≤ 1000000) && decide (i.natAbs < 2 ^ 64) then some (.val (.int (i ^ j.toNat))) else none
  | _, _, _ => none

def isFlat : D → Bool
  | .none | .bool _ => true
  | _ => false
def sameFlat : D → D → Bool
  | .none, .none => true
  | .bool a, .bool b => a == b
  | _, _ => false
def intsOf : List D → Option (List Int)
  | [] => some []
  | .int i :: r => (intsOf r).map (i :: ·)
  | _ :: _ => none
def boolsOf : List D → Option (List Bool)
  | [] => some []
  | .bool i :: r => (boolsOf r).map (i :: ·)
  | _ :: _ => none
def inD (x : D) : D → Option Bool
  | .list xs => if shp x && shp (.list xs) then some (xs.any fun z => PyData.eqv z x) else none
  | .tuple xs => if shp x && shp (.tuple xs) then some (xs.any fun z => PyData.eqv z x) else none
  | _ => none
def ltD : D → D → Option Bool
  | .int i, .int j => some (decide (i < j))
  | .tuple xs, .tuple ys => match intsOf xs, intsOf ys with
    | some a, some b => some (HT.lexLt a b)
    | _, _ => none
  | _, _ => none
def isNon : D → Bool
  | .none => true
  | _ => false
def isBo (b : Bool) : D → Bool
  | .bool c => c == b
  | _ => false
def cmpD : Cop → D → D → Option Bool
  | .eq, a, b => if shp a && shp b then some (PyData.eqv a b) else none
  | .ne, a, b => if shp a && shp b then some (!PyData.eqv a b) else none
  | .lt, a, b => ltD a b
  | .le, .int i, .int j => some (decide (i ≤ j))
  | .gt, .int i, .int j => some (decide (j < i))
  | .ge, .int i, .int j => some (decide (j ≤ i))
  | .isin, a, b => inD a b
  | .notin, a, b => (inD a b).map (!·)
  | .is, a, .none => some (isNon a)
  | .isnot, a, .none => some (!isNon a)
  | .is, a, .bool b => some (isBo b a)
  | .isnot, a, .bool b => some (!isBo b a)
  | _, _, _ => none
def truD : D → Option Bool
  | .bool b => some b
  | .none => some false
  | .int i => some (i != 0)
  | .list xs => some !xs.isEmpty
  | .tuple xs => some !xs.isEmpty
  | .str x => if x.length ≤ LIM then some ((x.length : Int) != 0) else none
  | .dict _ => none
/-- xs[i] of a list or tuple -/
def subD : D → D → Option D
  | .list xs, .int i => L2.atI xs i
  | .tuple xs, .int i => L2.atI xs i
  | .str z, .int i => if z.length ≤ LIM then (L2.atI z.cps.toList i).map fun c => .str ⟨#[c]⟩ else none
  | _, _ => none
def cutD (xs : List D) (lo hi : Option Int) : List D := (xs.drop (HT.sIx xs.length 0 lo)).take (HT.sIx xs.length xs.length hi - HT.sIx xs.length 0 lo)
def sliD : D → Option Int → Option Int → Option R
  | .list xs, lo, hi => some (.fresh (.list (cutD xs lo hi)))
  | .tuple xs, lo, hi => some (.val (.tuple (cutD xs lo hi)))
  | _, _, _ => none
def rvsD : D → Option R
  | .list xs => some (.fresh (.list xs.reverse))
  | _ => none
def tyD : D → String
  | .none => "NoneType"
  | .bool _ => "bool"
  | .int _ => "int"
  | .str _ => "str"
  | .list _ => "list"
  | .tuple _ => "tuple"
  | .dict _ => "dict"
def isiD (ts : List String) (d : D) : Bool := ts.any fun t => tyD d == t || (t == "int" && tyD d == "bool")
def insI (x : Int) : List Int → List Int
  | [] => [x]
  | y :: r => if x ≤ y then x :: y :: r else y :: insI x r
def sortI : List Int → List Int
  | [] => []
  | x :: r => insI x (sortI r)
def itemsD : D → Option (List D)
  | .list xs => some xs
  | .tuple xs => some xs
  | _ => none
def biD : Bi → List D → Option R
  | .len, [.list xs] => some (.val (.int xs.length))
  | .len, [.tuple xs] => some (.val (.int xs.length))
  | .len, [.str x] => if x.length ≤ LIM then some (.val (.int x.length)) else none
  | .abs, [.int i] => some (.val (.int i.natAbs))
  | .int, [.int i] => some (.val (.int i))
  | .int, [.bool b] => some (.val (.int (if b then 1 else 0)))
  | .sum, [.list xs] => (intsOf xs).map fun ns => .val (.int ns.sum)
  | .any, [.list xs] => (boolsOf xs).map fun bs => .val (.bool (bs.any id))
  | .all, [.list xs] => (boolsOf xs).map fun bs => .val (.bool (bs.all id))
  | .max, [.int i, .int j] => some (.val (.int (max i j)))
  | .min, [.int i, .int j] => some (.val (.int (min i j)))
  | .gcd, [.int i, .int j] => some (.val (.int (Int.gcd i j)))
  | .list, [.list xs] => some (.fresh (.list xs))
  | .list, [.tuple xs] => some (.fresh (.list xs))
  | .tuple, [.list xs] => some (.val (.tuple xs))
  | .tuple, [.tuple xs] => some (.val (.tuple xs))
  | .sorted, [.list xs] => (intsOf xs).map fun ns => .fresh (.list ((sortI ns).map .int))
  | .isi ts, [d] => some (.val (.bool (isiD ts d)))
  | _, _ => none
def firstIx (x : D) : List D → Option Nat
  | [] => none
  | y :: r => if PyData.eqv y x then some 0 else (firstIx x r).map (· + 1)
def meD : Me → D → List D → Option R
  | .index, .list xs, [x] => if shp x && shp (.list xs) then (firstIx x xs).map fun i => .val (.int i) else none
  | _, _, _ => none
/-- a change of a list: the answer, the list -/
def muD : Mu → List D → List D → Option (D × List D)
  | .append, xs, [x] => if xs.length < LIM then some (.none, xs ++ [x]) else none
  | .extend, xs, [.list ys] => if xs.length + ys.length ≤ LIM then some (.none, xs ++ ys) else none
  | .reverse, xs, [] => some (.none, xs.reverse)
  | .pop, xs, [] => match xs.getLast? with | some y => some (y, xs.dropLast) | none => none
  | .pop, xs, [.int i] => match L2.ixN xs.length i with | some j => (xs[j]?).map fun y => (y, xs.eraseIdx j) | none => none
  | .remove, xs, [.int k] => match intsOf xs with
    | some ns => if k ∈ ns then some (.none, (ns.erase k).map .int) else none
    | none => none
  | _, _, _ => none
def rngL (a b : Int) : List D := (List.range (b - a).toNat).map fun i => .int (a + (i : Nat))
def rngC (a b c : Int) : List D := (List.range (Builtin.Range.rangeSize a b c).toNat).map fun i => .int (a + (i : Nat) * c)

/-- an operand: a value, or what a name alone holds at the time of use -/
inductive Op where
  | imm (d : D) | slot (i : Nat)
def peek (ρ : En) : Op → Option D
  | .imm d => some d
  | .slot i => match ρ[i]? with
    | some (.own d) => some d
    | some (.val d) => some d
    | _ => none
def peeks (ρ : En) : List Op → Option (List D)
  | [] => some []
  | o :: r => match peek ρ o, peeks ρ r with
    | some d, some ds => some (d :: ds)
    | _, _ => none
def opt {α : Type} : Option α → Res α
  | some a => .ok a
  | none => .bad
@[simp] theorem opt_some {α : Type} (a : α) : opt (some a) = .ok a := rfl
@[simp] theorem opt_none {α : Type} : opt (none : Option α) = .bad := rfl

/-- the arguments of a call -/
def argOf (ρ : En) : Op → Option Slot
  | .imm d => some (.val d)
  | .slot i => match ρ[i]? with
    | some (.own d) => some (.own d)
    | some (.val d) => some (.val d)
    | _ => none
def argsOf (ρ : En) : List Op → Option (List Slot)
  | [] => some []
  | o :: r => match argOf ρ o, argsOf ρ r with
    | some d, some ds => some (d :: ds)
    | _, _ => none
def slotsOf : List Op → List Nat
  | [] => []
  | .imm _ :: r => slotsOf r
  | .slot i :: r => i :: slotsOf r
def distinct : List Nat → Bool
  | [] => true
  | i :: r => !r.contains i && distinct r
/-- the lists handed to a call, as it left them -/
def backs : List Op → List Slot → List Slot → En → En
  | .slot i :: r, .own _ :: as, s :: ss, ρ => backs r as ss (ρ.set i s)
  | _ :: r, _ :: as, _ :: ss, ρ => backs r as ss ρ
  | _, _, _, ρ => ρ
/-- gcd is known where the program has it -/
def okBi (g : Bool) : Bi → Bool
  | .gcd => g
  | _ => true
structure Tb where
  call : Str → List Slot → Res (R × List Slot)
  gl : Str → Option D
  wf : Nat
  gcd : Bool
  has : Str → Bool
inductive Fl where
  | nxt | brk | cnt | ret (r : R)
def R.slot : R → Slot
  | .val d => .val d
  | .fresh d => .own d
def opX : X → Op
  | .val d => .imm d
  | .fresh d => .imm d
  | .slot i => .slot i
/-- the value of a result, shared from now on -/
def frz : X × En → Res (D × En)
  | (.val d, ρ) => .ok (d, ρ)
  | (.fresh d, ρ) => .ok (d, ρ)
  | (.slot i, ρ) => match ρ[i]? with
    | some (.own d) => .ok (d, ρ.set i (.val d))
    | _ => .bad
/-- a bool -/
def boo : X × En → Res (Bool × En)
  | (.val (.bool b), ρ) => .ok (b, ρ)
  | _ => .bad
def peek2 (ρ : En) (x y : Op) : Res (D × D) := match peek ρ x, peek ρ y with
  | some d, some e => .ok (d, e)
  | _, _ => .bad
def peek1 (ρ : En) (x : Op) : Res D := match peek ρ x with
  | some d => .ok d
  | _ => .bad
def retX (ρ : En) (r : R) : Res (X × En) := .ok (r.x, ρ)
def retB (ρ : En) (b : Bool) : Res (X × En) := .ok (.val (.bool b), ρ)
def retD (ρ : En) (d : D) : Res (X × En) := .ok (.val d, ρ)
def rngD : List D → Option (List D)
  | [.int j] => if rngOk j then some (rngL 0 j) else none
  | [.int i, .int j] => if rngOk i && rngOk j then some (rngL i j) else none
  | _ => none
def rngI : List D → Option (List D)
  | [.int j] => if rngOk j then some (rngL 0 j) else none
  | [.int i, .int j] => if rngOk i && rngOk j then some (rngL i j) else none
  | [.int i, .int j, .int c] => if rngOk i && rngOk j && decide (c = -1) then some (rngC i j c) else none
  | _ => none
def intD : D → Option Int
  | .int i => some i
  | _ => none
def negD : D → Option D
  | .int i => some (.int (-i))
  | _ => none
/-- nothing may be raised within a comprehension -/
def noRs {α : Type} : Res α → Res α
  | .ok a => .ok a
  | _ => .bad
@[simp] theorem noRs_ok {α : Type} (a : α) : noRs (.ok a) = .ok a := rfl
@[simp] theorem noRs_bad {α : Type} : noRs (.bad : Res α) = .bad := rfl
def lim {α : Type} (ds : List D) (r : Res α) : Res α := if ds.length ≤ LIM then r else .bad
def wipeE (ρ : En) : List Nat → En
  | [] => ρ
  | v :: vs => (wipeE ρ vs).set v .un
/-- the slots vs of ρ back in ρ' -/
def backE (ρ ρ' : En) : List Nat → En
  | [] => ρ'
  | v :: vs => (backE ρ ρ' vs).set v (ρ[v]?.getD .un)
def asgTs : List Nat → List D → En → Option En
  | [], [], ρ => some ρ
  | i :: is, d :: ds, ρ => asgTs is ds (ρ.set i (.val d))
  | _, _, _ => none
def asgT : Tg → D → En → Option En
  | .one i, d, ρ => some (ρ.set i (.val d))
  | .tup is, d, ρ => match itemsD d with
    | some ds => if ds.length = is.length then asgTs is ds ρ else none
    | none => none
  | .bad, _, _ => none
def zipL : List D → List D → List D
  | x :: xs, y :: ys => .tuple [x, y] :: zipL xs ys
  | _, _ => []
def enumL (k : Nat) : List D → List D
  | [] => []
  | x :: xs => .tuple [.int k, x] :: enumL (k + 1) xs
/-- the turns of a comprehension -/
def compL (turn : D → En → Res (Option D × En)) : List D → En → List D → Res (List D × En)
  | [], ρ, acc => .ok (acc, ρ)
  | x :: xs, ρ, acc => (turn x ρ).bind fun
    | (none, ρ') => compL turn xs ρ' acc
    | (some y, ρ') => if acc.length < LIM then compL turn xs ρ' (acc ++ [y]) else .bad
def forL (turn : D → En → Res (Fl × En)) : List D → En → Res (Fl × En)
  | [], ρ => .ok (.nxt, ρ)
  | x :: xs, ρ => (turn x ρ).bind fun
    | (.nxt, ρ') => forL turn xs ρ'
    | (.cnt, ρ') => forL turn xs ρ'
    | (.brk, ρ') => .ok (.nxt, ρ')
    | (.ret r, ρ') => .ok (.ret r, ρ')
def whlL (c : En → Res (Bool × En)) (turn : En → Res (Fl × En)) : Nat → En → Res (Fl × En)
  | 0, _ => .bad
  | n + 1, ρ => (c ρ).bind fun
    | (false, ρ') => .ok (.nxt, ρ')
    | (true, ρ') => (turn ρ').bind fun
      | (.nxt, ρ'') => whlL c turn n ρ''
      | (.cnt, ρ'') => whlL c turn n ρ''
      | (.brk, ρ'') => .ok (.nxt, ρ'')
      | (.ret r, ρ'') => .ok (.ret r, ρ'')

section
variable (T : Tb)
/-- a call, the arguments told -/
def callX (f : Str) (xs : List Op) (ρ : En) : Res (X × En) := match argsOf ρ xs with
  | some as => if distinct (slotsOf xs) then
      match T.call f as with
      | .ok (r, outs) => .ok (r.x, backs xs as outs ρ)
      | .rs c d outs => .rs c d (backs xs as outs ρ)
      | .bad => .bad
    else .bad
  | none => .bad
/-- the name i alone holds a list -/
def holds (ρ : En) (i : Nat) : Bool := match ρ[i]? with
  | some (.own (.list _)) => true
  | _ => false
def mutX (i : Nat) (m : Mu) (ds : List D) (ρ : En) : Res (X × En) := match ρ[i]? with
  | some (.own (.list xs)) => (opt (muD m xs ds)).bind fun p => .ok (.val p.1, ρ.set i (.own (.list p.2)))
  | _ => .bad
mutual
def ev : Ex → En → Res (X × En)
  | .bad => fun _ => .bad
  | .non => fun ρ => .ok (.val .none, ρ)
  | .bl b => fun ρ => .ok (.val (.bool b), ρ)
  | .int i => fun ρ => .ok (.val (.int i), ρ)
  | .str x => fun ρ => .ok (.val (.str x), ρ)
  | .var i => fun ρ => match ρ[i]? with
    | some (.val d) => .ok (.val d, ρ)
    | some (.own _) => .ok (.slot i, ρ)
    | _ => .bad
  | .glo x => fun ρ => (opt (T.gl x)).bind fun d => .ok (.val d, ρ)
  | .neg a => fun ρ => (ev a ρ).bind fun p => (peek1 p.2 (opX p.1)).bind fun d => (opt (negD d)).bind (retD p.2)
  | .bin o a b => fun ρ => (ev a ρ).bind fun p => (ev b p.2).bind fun q => (peek2 q.2 (opX p.1) (opX q.1)).bind fun de => (opt (binD o de.1 de.2)).bind (retX q.2)
  | .cmp o a b => fun ρ => (ev a ρ).bind fun p => (ev b p.2).bind fun q => (peek2 q.2 (opX p.1) (opX q.1)).bind fun de => (opt (cmpD o de.1 de.2)).bind (retB q.2)
  | .chn o o' a b c => fun ρ => (ev a ρ).bind fun p => (ev b p.2).bind fun q => (peek2 q.2 (opX p.1) (opX q.1)).bind fun de => (opt (cmpD o de.1 de.2)).bind fun r =>
      if r then (ev c q.2).bind fun z => (peek2 z.2 (opX q.1) (opX z.1)).bind fun ef => (opt (cmpD o' ef.1 ef.2)).bind (retB z.2)
      else retB q.2 false
  | .and a b => fun ρ => (ev a ρ).bind fun p => (boo p).bind fun c => if c.1 then ev b c.2 else retB c.2 false
  | .or a b => fun ρ => (ev a ρ).bind fun p => (boo p).bind fun c => if c.1 then retB c.2 true else ev b c.2
  | .not a => fun ρ => (ev a ρ).bind fun p => (boo p).bind fun c => retB c.2 (!c.1)
  | .tru a => fun ρ => (ev a ρ).bind fun p => (peek1 p.2 (opX p.1)).bind fun d => (opt (truD d)).bind (retB p.2)
  | .ite c a b => fun ρ => (ev c ρ).bind fun p => (boo p).bind fun t => if t.1 then ev a t.2 else ev b t.2
  | .tup es => fun ρ => (evL es ρ).bind fun p => lim p.1 (.ok (.val (.tuple p.1), p.2))
  | .lst es => fun ρ => (evL es ρ).bind fun p => lim p.1 (.ok (.fresh (.list p.1), p.2))
  | .sub a i => fun ρ => (ev a ρ).bind fun p => (ev i p.2).bind fun q => (peek2 q.2 (opX p.1) (opX q.1)).bind fun de => (opt (subD de.1 de.2)).bind (retD q.2)
  | .sli a lo hi => fun ρ => (ev a ρ).bind fun p => (evP lo p.2).bind fun l => (evP hi l.2).bind fun h => (peek1 h.2 (opX p.1)).bind fun d => (opt (sliD d l.1 h.1)).bind (retX h.2)
  | .rvs a => fun ρ => (ev a ρ).bind fun p => (peek1 p.2 (opX p.1)).bind fun d => (opt (rvsD d)).bind (retX p.2)
  | .call f es => fun ρ => if T.has f then (evOs es ρ).bind fun p => callX T f p.1 p.2 else .bad
  | .bi b es => fun ρ => if okBi T.gcd b then (evOs es ρ).bind fun p => (opt (peeks p.2 p.1)).bind fun ds => (opt (biD b ds)).bind (retX p.2) else .bad
  | .met m a es => fun ρ => (ev a ρ).bind fun p => (evOs es p.2).bind fun q => (peek1 q.2 (opX p.1)).bind fun d => (opt (peeks q.2 q.1)).bind fun ds => (opt (meD m d ds)).bind (retX q.2)
  | .lrng es => fun ρ => (evL es ρ).bind fun p => (opt (rngD p.1)).bind fun xs => lim xs (.ok (.fresh (.list xs), p.2))
  | .trng es => fun ρ => (evL es ρ).bind fun p => (opt (rngD p.1)).bind fun xs => lim xs (.ok (.val (.tuple xs), p.2))
  | .trev a => fun ρ => (ev a ρ).bind fun p => (peek1 p.2 (opX p.1)).bind fun d => match d with
    | .list xs => .ok (.val (.tuple xs.reverse), p.2)
    | _ => .bad
  | .mut i m es => fun ρ => if holds ρ i then (evL es ρ).bind fun p => mutX i m p.1 p.2 else .bad
  | .lc own tg it cs e => fun ρ => (evI it ρ).bind fun w =>
      (compL (fun x ρ => noRs ((opt (asgT tg x (wipeE ρ own))).bind fun ρ => (evC cs ρ).bind fun c =>
        if c.1 then ((ev e c.2).bind frz).bind fun r => .ok (some r.1, r.2) else .ok (none, c.2))) w.1.1 (wipeE w.2 w.1.2) []).bind fun p => .ok (.fresh (.list p.1), backE w.2 p.2 (w.1.2 ++ own))
def evOs : List Ex → En → Res (List Op × En)
  | [] => fun ρ => .ok ([], ρ)
  | e :: r => fun ρ => (ev e ρ).bind fun p => (evOs r p.2).bind fun q => .ok (opX p.1 :: q.1, q.2)
def evL : List Ex → En → Res (List D × En)
  | [] => fun ρ => .ok ([], ρ)
  | e :: r => fun ρ => ((ev e ρ).bind frz).bind fun p => (evL r p.2).bind fun q => .ok (p.1 :: q.1, q.2)
def evP : Option Ex → En → Res (Option Int × En)
  | none => fun ρ => .ok (none, ρ)
  | some e => fun ρ => ((ev e ρ).bind frz).bind fun p => (opt (intD p.1)).bind fun i => .ok (some i, p.2)
def evC : Option Ex → En → Res (Bool × En)
  | none => fun ρ => .ok (true, ρ)
  | some e => fun ρ => (ev e ρ).bind boo
/-- what is walked: the items, the state, the names that are hidden meanwhile -/
def evI : It → En → Res ((List D × List Nat) × En)
  | .seq a => fun ρ => ((ev a ρ).bind frz).bind fun p => (opt (itemsD p.1)).bind fun xs => .ok ((xs, []), p.2)
  | .hid i => fun ρ => match ρ[i]? with
    | some (.own (.list xs)) => .ok ((xs, [i]), ρ)
    | some (.val d) => (opt (itemsD d)).bind fun xs => .ok ((xs, []), ρ)
    | _ => .bad
  | .rng es => fun ρ => (evL es ρ).bind fun p => (opt (rngI p.1)).bind fun xs => .ok ((xs, []), p.2)
  | .enum a => fun ρ => ((ev a ρ).bind frz).bind fun p => match p.1 with
    | .list xs => .ok ((enumL 0 xs, []), p.2)
    | _ => .bad
  | .zip a b => fun ρ => ((ev a ρ).bind frz).bind fun p => ((ev b p.2).bind frz).bind fun q => match p.1, q.1 with
    | .list xs, .list ys => .ok ((zipL xs ys, []), q.2)
    | _, _ => .bad
  | .rev a => fun ρ => ((ev a ρ).bind frz).bind fun p => (opt (itemsD p.1)).bind fun xs => .ok ((xs.reverse, []), p.2)
end
/-- a name's new value -/
def setX (i : Nat) : X × En → Res (Fl × En)
  | (.val d, ρ) => .ok (.nxt, ρ.set i (.val d))
  | (.fresh d, ρ) => .ok (.nxt, ρ.set i (.own d))
  | (.slot j, ρ) => match ρ[j]? with
    | some (.own d) => .ok (.nxt, (ρ.set j (.val d)).set i (.val d))
    | _ => .bad
def retR : X × En → Res (Fl × En)
  | (.val d, ρ) => .ok (.ret (.val d), ρ)
  | (.fresh d, ρ) => .ok (.ret (.fresh d), ρ)
  | (.slot j, ρ) => match ρ[j]? with
    | some (.own d) => .ok (.ret (.val d), ρ.set j (.val d))
    | _ => .bad
mutual
def exS : St → En → Res (Fl × En)
  | .bad => fun _ => .bad
  | .pas => fun ρ => .ok (.nxt, ρ)
  | .brk => fun ρ => .ok (.brk, ρ)
  | .cnt => fun ρ => .ok (.cnt, ρ)
  | .set i e => fun ρ => (ev T e ρ).bind (setX i)
  | .par is es => fun ρ => (evL T es ρ).bind fun p => (opt (asgTs is p.1 p.2)).bind fun ρ => .ok (.nxt, ρ)
  | .unp is e => fun ρ => ((ev T e ρ).bind frz).bind fun p => (opt (asgT (.tup is) p.1 p.2)).bind fun ρ => .ok (.nxt, ρ)
  | .sto i ix e => fun ρ => ((ev T e ρ).bind frz).bind fun p => if holds p.2 i then ((ev T ix p.2).bind frz).bind fun q => match q.2[i]?, q.1 with
    | some (.own (.list xs)), .int k => (opt (L2.ixN xs.length k)).bind fun j => .ok (.nxt, q.2.set i (.own (.list (xs.set j p.1))))
    | _, _ => .bad
    else .bad
  | .exp e => fun ρ => (ev T e ρ).bind fun p => .ok (.nxt, p.2)
  | .ret e => fun ρ => (ev T e ρ).bind retR
  | .retv i => fun ρ => match ρ[i]? with
    | some (.val d) => .ok (.ret (.val d), ρ)
    | some (.own d) => .ok (.ret (.fresh d), ρ.set i .un)
    | _ => .bad
  | .retN => fun ρ => .ok (.ret (.val .none), ρ)
  | .ifs c a b => fun ρ => ((ev T c ρ).bind boo).bind fun p => if p.1 then exB a p.2 else exB b p.2
  | .fo tg it body => fun ρ => (evI T it ρ).bind fun w => (forL (fun x ρ => (opt (asgT tg x ρ)).bind fun ρ => exB body ρ) w.1.1 (wipeE w.2 w.1.2)).bind fun p => .ok (p.1, backE w.2 p.2 w.1.2)
  | .whl c body => fun ρ => whlL (fun ρ => (ev T c ρ).bind boo) (fun ρ => exB body ρ) T.wf ρ
  | .rse c e => fun ρ => ((ev T e ρ).bind frz).bind fun p => .rs c p.1 p.2
def exB : List St → En → Res (Fl × En)
  | [] => fun ρ => .ok (.nxt, ρ)
  | s :: r => fun ρ => (exS s ρ).bind fun p => match p.1 with
    | .nxt => exB r p.2
    | f => .ok (f, p.2)
end
end
/-- a def: its parameters, all names, the parameters that it stores anew, the body -/
structure Fn where
  ps : List Str
  N : List Str
  rb : List Nat
  body : List St
def retOf : Fl → Option R
  | .nxt => some (.val .none)
  | .ret r => some r
  | _ => none
/-- what the parameters' lists are behind the call -/
def outsOf (rb : List Nat) : Nat → List Slot → En → List Slot
  | j, a :: as, s :: ρ => (if rb.contains j then a else s) :: outsOf rb (j + 1) as ρ
  | _, _, _ => []
def rbOk (rb : List Nat) (as : List Slot) : Bool := rb.all fun j => match as[j]? with
  | some (.own _) => false
  | _ => true
def runFn (T : Tb) (f : Fn) (as : List Slot) : Res (R × List Slot) :=
  if as.length = f.ps.length ∧ rbOk f.rb as = true then
    match exB T f.body (as ++ List.replicate (f.N.length - as.length) .un) with
    | .ok (fl, ρ) => (opt (retOf fl)).bind fun r => .ok (r, outsOf f.rb 0 as ρ)
    | .rs c d ρ => .rs c d (outsOf f.rb 0 as ρ)
    | .bad => .bad
  else .bad
/-- the program's defs, its constants; k calls deep, loops of w turns at most -/
structure Prog where
  fn : Str → Option Fn
  gl : Str → Option D
  fld : Str → Option Str
  gcd : Bool
def tbl (G : Prog) (w : Nat) : Nat → Tb
  | 0 => ⟨fun _ _ => .bad, G.gl, w, G.gcd, fun x => (G.fn x).isSome⟩
  | k + 1 => ⟨fun x as => match G.fn x with
    | some f => runFn (tbl G w k) f as
    | none => .bad, G.gl, w, G.gcd, fun x => (G.fn x).isSome⟩
end Pv
end
section
/-! Pv2: how the small language's values and states lie in the abstract heap. -/
namespace Pv
open PySem PySem.Spec PyProof.Rows
open L2 (V Hp HO SqL SqT upd upd_same upd_ne VK TE Cx PE Inv Same)
abbrev SS := L2.St
abbrev Frag := PySem.W.Frag

mutual
/-- the shared value d stands at v; F: the part of the heap that never changes -/
inductive VR (K : Frag) (F : Hp) : D → V → Prop
  | non : VR K F .none .non
  | bl (b : Bool) : VR K F (.bool b) (.bl b)
  | int (i : Int) : VR K F (.int i) (.int i)
  | str (x : Str) : VR K F (.str x) (.str x)
  | lst {a : Addr} {vs : List V} {ds : List D} : SqL K F a vs → VRs K F ds vs → VR K F (.list ds) (.ref a)
  | tup {a : Addr} {vs : List V} {ds : List D} : SqT K F a vs → VRs K F ds vs → VR K F (.tuple ds) (.ref a)
inductive VRs (K : Frag) (F : Hp) : List D → List V → Prop
  | nil : VRs K F [] []
  | cons {d : D} {v : V} {ds : List D} {vs : List V} : VR K F d v → VRs K F ds vs → VRs K F (d :: ds) (v :: vs)
end
/-- F lies within H -/
def Le (F H : Hp) : Prop := ∀ b o, F b = some o → H b = some o
theorem Le.refl (F : Hp) : Le F F := fun _ _ h => h
theorem Le.trans {F G H : Hp} (a : Le F G) (b : Le G H) : Le F H := fun x o h => b x o (a x o h)
theorem Le.rd {F H : Hp} (l : Le F H) {a : Addr} {u : HO} (h : L2.Rd F a u) : L2.Rd H a u := by
  rcases h with h | ⟨o, h⟩
  · exact .inl (l _ _ h)
  · exact .inr ⟨o, l _ _ h⟩
theorem Le.sqL {K : Frag} {F H : Hp} (l : Le F H) {a : Addr} {vs : List V} (h : SqL K F a vs) : SqL K H a vs := by
  rcases h with h | h
  · rcases h with h | ⟨o, h⟩
    · exact .inl (.inl (l _ _ h))
    · exact .inl (.inr ⟨o, l _ _ h⟩)
  · exact .inr h
theorem Le.sqT {K : Frag} {F H : Hp} (l : Le F H) {a : Addr} {vs : List V} (h : SqT K F a vs) : SqT K H a vs := by
  rcases h with h | h
  · rcases h with h | ⟨o, h⟩
    · exact .inl (.inl (l _ _ h))
    · exact .inl (.inr ⟨o, l _ _ h⟩)
  · exact .inr h
mutual
theorem VR.mono {K : Frag} {F G : Hp} (l : Le F G) : ∀ {d : D} {v : V}, VR K F d v → VR K G d v
  | _, _, .non => .non
  | _, _, .bl b => .bl b
  | _, _, .int i => .int i
  | _, _, .str x => .str x
  | _, _, .lst h r => .lst (l.sqL h) (r.mono l)
  | _, _, .tup h r => .tup (l.sqT h) (r.mono l)
theorem VRs.mono {K : Frag} {F G : Hp} (l : Le F G) : ∀ {ds : List D} {vs : List V}, VRs K F ds vs → VRs K G ds vs
  | _, _, .nil => .nil
  | _, _, .cons r t => .cons (r.mono l) (t.mono l)
end
theorem VRs.length {K : Frag} {F : Hp} : ∀ {ds : List D} {vs : List V}, VRs K F ds vs → ds.length = vs.length
  | _, _, .nil => rfl
  | _, _, .cons _ t => by rw [List.length_cons, List.length_cons, t.length]
theorem VRs.append {K : Frag} {F : Hp} : ∀ {ds es : List D} {vs ws : List V}, VRs K F ds vs → VRs K F es ws → VRs K F (ds ++ es) (vs ++ ws)
  | _, _, _, _, .nil, s => s
  | _, _, _, _, .cons r t, s => .cons r (t.append s)
theorem VRs.get {K : Frag} {F : Hp} : ∀ {ds : List D} {vs : List V} {i : Nat} {d : D}, VRs K F ds vs → ds[i]? = some d → ∃ v, vs[i]? = some v ∧ VR K F d v
  | _, _, _, _, .nil, e => by simp at e
  | _, _, 0, _, .cons r _, e => by simp at e; subst e; exact ⟨_, rfl, r⟩
  | _, _, i + 1, d, .cons _ t, e => by
    obtain ⟨v, h1, h2⟩ := VRs.get (i := i) (d := d) t (by simpa using e)
    exact ⟨v, by simpa using h1, h2⟩
theorem VRs.take {K : Frag} {F : Hp} : ∀ {ds : List D} {vs : List V} (n : Nat), VRs K F ds vs → VRs K F (ds.take n) (vs.take n)
  | _, _, 0, _ => by simpa using VRs.nil
  | _, _, _ + 1, .nil => by simpa using VRs.nil
  | _, _, n + 1, .cons r t => by simpa using VRs.cons r (t.take n)
theorem VRs.drop {K : Frag} {F : Hp} : ∀ {ds : List D} {vs : List V} (n : Nat), VRs K F ds vs → VRs K F (ds.drop n) (vs.drop n)
  | _, _, 0, r => r
  | _, _, _ + 1, .nil => by simpa using VRs.nil
  | _, _, n + 1, .cons _ t => by simpa using t.drop n
theorem VRs.set {K : Frag} {F : Hp} {d : D} {v : V} (r : VR K F d v) : ∀ {ds : List D} {vs : List V} (i : Nat), VRs K F ds vs → VRs K F (ds.set i d) (vs.set i v)
  | _, _, _, .nil => .nil
  | _, _, 0, .cons _ t => .cons r t
  | _, _, i + 1, .cons q t => .cons q (t.set r i)
theorem VRs.eraseIdx {K : Frag} {F : Hp} : ∀ {ds : List D} {vs : List V} (i : Nat), VRs K F ds vs → VRs K F (ds.eraseIdx i) (vs.eraseIdx i)
  | _, _, _, .nil => .nil
  | _, _, 0, .cons _ t => t
  | _, _, i + 1, .cons q t => .cons q (t.eraseIdx i)
theorem VRs.reverse {K : Frag} {F : Hp} : ∀ {ds : List D} {vs : List V}, VRs K F ds vs → VRs K F ds.reverse vs.reverse
  | _, _, .nil => .nil
  | _, _, .cons r t => by rw [List.reverse_cons, List.reverse_cons]; exact t.reverse.append (.cons r .nil)
theorem VRs.dropLast {K : Frag} {F : Hp} {ds : List D} {vs : List V} (r : VRs K F ds vs) : VRs K F ds.dropLast vs.dropLast := by
  rw [List.dropLast_eq_take, List.dropLast_eq_take, r.length]; exact r.take _
theorem VRs.rep {K : Frag} {F : Hp} {ds : List D} {vs : List V} (r : VRs K F ds vs) : ∀ k : Nat, VRs K F (List.replicate k ds).flatten (List.replicate k vs).flatten
  | 0 => .nil
  | k + 1 => by rw [List.replicate_succ, List.replicate_succ, List.flatten_cons, List.flatten_cons]; exact r.append (r.rep k)
theorem VRs.ints {K : Frag} {F : Hp} : ∀ {ds : List D} {vs : List V} {ns : List Int}, VRs K F ds vs → intsOf ds = some ns → vs = ns.map V.int
  | _, _, _, .nil, e => by simp [intsOf] at e; subst e; rfl
  | _, _, _, .cons (d := d) r t, e => by
    cases r with
    | int i =>
      simp only [intsOf, Option.map_eq_some_iff] at e
      obtain ⟨ms, e1, e2⟩ := e
      subst e2
      rw [t.ints e1]; rfl
    | _ => simp [intsOf] at e
theorem VRs.bools {K : Frag} {F : Hp} : ∀ {ds : List D} {vs : List V} {ns : List Bool}, VRs K F ds vs → boolsOf ds = some ns → vs = ns.map V.bl
  | _, _, _, .nil, e => by simp [boolsOf] at e; subst e; rfl
  | _, _, _, .cons (d := d) r t, e => by
    cases r with
    | bl i =>
      simp only [boolsOf, Option.map_eq_some_iff] at e
      obtain ⟨ms, e1, e2⟩ := e
      subst e2
      rw [t.bools e1]; rfl
    | _ => simp [boolsOf] at e
theorem VRs.of_ints {K : Frag} {F : Hp} : ∀ (ns : List Int), VRs K F (ns.map .int) (ns.map V.int)
  | [] => .nil
  | i :: r => .cons (.int i) (VRs.of_ints r)
/-! data, as HandS takes it for == -/
mutual
theorem VR.dp {K : Frag} {F H : Hp} (l : Le F H) : ∀ {d : D} {v : V}, VR K F d v → L2.Dp K H v d
  | _, _, .non => .non
  | _, _, .bl b => .bl b
  | _, _, .int i => .int i
  | _, _, .str x => .str x
  | _, _, .lst h r => .lst (l.sqL h) (r.dps l)
  | _, _, .tup h r => .tup (l.sqT h) (r.dps l)
theorem VRs.dps {K : Frag} {F H : Hp} (l : Le F H) : ∀ {ds : List D} {vs : List V}, VRs K F ds vs → L2.DpAll K H vs ds
  | _, _, .nil => .nil
  | _, _, .cons r t => .cons (r.dp l) (t.dps l)
end

/-- a list that a name alone holds -/
def OwnC (K : Frag) (F H : Hp) (d : D) (v : V) : Prop := match d with
  | .list xs => ∃ p vs, v = .ref p ∧ H p = some (.lst vs) ∧ F p = none ∧ VRs K F xs vs
  | _ => False
def SlotR (K : Frag) (F H : Hp) : Slot → Option V → Prop
  | .un, _ => True
  | .val d, some v => VR K F d v
  | .own d, some v => OwnC K F H d v
  | _, none => False
/-- what a name alone holds stands at p -/
def Own (ρ : En) (σ : SS) (p : Addr) : Prop := ∃ (i : Nat) (d : D), ρ[i]? = some (Slot.own d) ∧ σ[i]? = some (some (.ref p))
structure SR (K : Frag) (ρ : En) (F : Hp) (σ : SS) (H : Hp) : Prop where
  sub : Le F H
  len : ρ.length = σ.length
  slots : ∀ (i : Nat) (s : Slot), ρ[i]? = some s → SlotR K F H s (σ[i]?.getD none)
  apart : ∀ (i j : Nat) (d e : D) (p : Addr), ρ[i]? = some (Slot.own d) → ρ[j]? = some (Slot.own e) → σ[i]? = some (some (V.ref p)) → σ[j]? = some (some (V.ref p)) → i = j
/-- from (F, H) to (F', H'): nothing but what stands at O changes -/
structure Stp (O : Addr → Prop) (F H F' H' : Hp) : Prop where
  sub : Le F F'
  frm : ∀ b o, H b = some o → ¬ O b → H' b = some o
  ext : ∀ b o, F' b = some o → F b = some o ∨ O b ∨ H b = none
  dom : ∀ b, H' b = none → H b = none
theorem Stp.refl {O : Addr → Prop} {F H : Hp} : Stp O F H F H := ⟨Le.refl _, fun _ _ h _ => h, fun _ _ h => .inl h, fun _ h => h⟩
theorem Stp.trans {O O1 : Addr → Prop} {F H F1 H1 F2 H2 : Hp} (a : Stp O F H F1 H1) (b' : Stp O1 F1 H1 F2 H2) (s : ∀ p, O1 p → O p ∨ H p = none) : Stp O F H F2 H2 where
  sub := a.sub.trans b'.sub
  frm := fun c o h n => b'.frm c o (a.frm c o h n) fun z => by
    rcases s c z with q | q
    · exact n q
    · rw [h] at q; cases q
  ext := fun c o h => by
    rcases b'.ext c o h with q | q | q
    · exact a.ext c o q
    · exact .inr (s c q)
    · by_cases z : O c
      · exact .inr (.inl z)
      · refine .inr (.inr ?_)
        cases e : H c with
        | none => rfl
        | some u => rw [a.frm c u e z] at q; cases q
  dom := fun b h => a.dom b (b'.dom b h)
theorem Stp.mono {O O1 : Addr → Prop} {F H F' H' : Hp} (a : Stp O F H F' H') (s : ∀ p, O p → O1 p) : Stp O1 F H F' H' :=
  ⟨a.sub, fun b o h n => a.frm b o h fun z => n (s b z), fun b o h => (a.ext b o h).imp_right (Or.imp_left (s b)), a.dom⟩
/-- a new shared object -/
theorem Stp.laid {O : Addr → Prop} {F H : Hp} {p : Addr} {o : HO} (l : Le F H) (n : H p = none) : Stp O F H (upd F p o) (upd H p o) where
  sub := fun b u h => by
    rw [upd_ne]; exact h
    rintro rfl; rw [l _ _ h] at n; cases n
  frm := fun b u h _ => by
    rw [upd_ne]; exact h
    rintro rfl; rw [h] at n; cases n
  ext := fun b u h => by
    by_cases e : b = p
    · subst e; exact .inr (.inr n)
    · rw [upd_ne e] at h; exact .inl h
  dom := fun b h => by
    by_cases e : b = p
    · subst e; exact n
    · rw [upd_ne e] at h; exact h
/-- a new object that nobody shares yet -/
theorem Stp.laidO {O : Addr → Prop} {F H : Hp} {p : Addr} {o : HO} (n : H p = none) : Stp O F H F (upd H p o) where
  sub := Le.refl _
  frm := fun b u h _ => by
    rw [upd_ne]; exact h
    rintro rfl; rw [h] at n; cases n
  ext := fun _ _ h => .inl h
  dom := fun b h => by
    by_cases e : b = p
    · subst e; exact n
    · rw [upd_ne e] at h; exact h
theorem Le.laid {F H : Hp} {p : Addr} {o : HO} (l : Le F H) : Le (upd F p o) (upd H p o) := fun b u h => by
  by_cases e : b = p
  · subst e; rw [upd_same] at h ⊢; exact h
  · rw [upd_ne e] at h ⊢; exact l _ _ h
theorem Le.laidR {F H : Hp} {p : Addr} {o : HO} (l : Le F H) (n : F p = none) : Le F (upd H p o) := fun b u h => by
  rw [upd_ne]; exact l _ _ h
  rintro rfl; rw [h] at n; cases n
theorem OwnC.mono {K : Frag} {F F' H H' : Hp} {d : D} {v : V} (h : OwnC K F H d v) (l : Le F F') (k : ∀ p, v = .ref p → ∀ o, H p = some o → H' p = some o) (n : ∀ p, v = .ref p → F p = none → F' p = none) : OwnC K F' H' d v := by
  cases d with
  | list xs =>
    obtain ⟨p, vs, e, h1, h2, h3⟩ := h
    exact ⟨p, vs, e, k p e _ h1, n p e h2, h3.mono l⟩
  | _ => exact h.elim
/-- the owned ones stay where O is apart from them -/
theorem SR.step {K : Frag} {ρ : En} {F H F' H' : Hp} {σ : SS} {O : Addr → Prop} (S : SR K ρ F σ H) (t : Stp O F H F' H') (l : Le F' H') (n : ∀ p, Own ρ σ p → ¬ O p) : SR K ρ F' σ H' where
  sub := l
  len := S.len
  slots := fun i s h => by
    have q := S.slots i s h
    cases s with
    | un => trivial
    | val d =>
      cases e : σ[i]?.getD none with
      | none => rw [e] at q; exact q
      | some v => rw [e] at q; exact VR.mono t.sub q
    | own d =>
      cases e : σ[i]?.getD none with
      | none => rw [e] at q; exact q
      | some v =>
        rw [e] at q
        have hσ : σ[i]? = some (some v) := by
          cases e2 : σ[i]? with
          | none => rw [e2] at e; cases e
          | some w => rw [e2] at e; exact congrArg some e
        refine OwnC.mono q t.sub (fun p hp o ho => t.frm p o ho (n p ⟨i, d, h, by rw [hσ, hp]⟩)) fun p hp hf => ?_
        cases e3 : F' p with
        | none => rfl
        | some o =>
          have own : Own ρ σ p := ⟨i, d, h, by rw [hσ, hp]⟩
          rcases t.ext p o e3 with z | z | z
          · rw [hf] at z; cases z
          · exact absurd z (n p own)
          · exfalso
            cases d with
            | list xs =>
              obtain ⟨p', vs, e4, h1, _, _⟩ := q
              rw [hp] at e4; cases e4; rw [z] at h1; cases h1
            | _ => exact q.elim
  apart := S.apart
theorem SR.val {K : Frag} {ρ : En} {F H : Hp} {σ : SS} (S : SR K ρ F σ H) {i : Nat} {d : D} (h : ρ[i]? = some (.val d)) : ∃ v, σ[i]? = some (some v) ∧ VR K F d v := by
  have q := S.slots i _ h
  cases e : σ[i]? with
  | none => rw [e] at q; exact q.elim
  | some w =>
    rw [e] at q
    cases w with
    | none => exact q.elim
    | some v => exact ⟨v, rfl, q⟩
theorem SR.own {K : Frag} {ρ : En} {F H : Hp} {σ : SS} (S : SR K ρ F σ H) {i : Nat} {d : D} (h : ρ[i]? = some (.own d)) : ∃ v, σ[i]? = some (some v) ∧ OwnC K F H d v := by
  have q := S.slots i _ h
  cases e : σ[i]? with
  | none => rw [e] at q; exact q.elim
  | some w =>
    rw [e] at q
    cases w with
    | none => exact q.elim
    | some v => exact ⟨v, rfl, q⟩
theorem SR.lt {K : Frag} {ρ : En} {F H : Hp} {σ : SS} (S : SR K ρ F σ H) {i : Nat} {s : Slot} (h : ρ[i]? = some s) : i < σ.length := by
  rw [← S.len]; exact (List.getElem?_eq_some_iff.mp h).1
/-- sharing what a name alone held -/
theorem SR.freeze {K : Frag} {ρ : En} {F H : Hp} {σ : SS} (S : SR K ρ F σ H) {i : Nat} {d : D} (h : ρ[i]? = some (.own d)) :
    ∃ v F', σ[i]? = some (some v) ∧ VR K F' d v ∧ SR K (ρ.set i (.val d)) F' σ H ∧ Stp (Own ρ σ) F H F' H ∧ (∀ (j : Nat) (e : D), (ρ.set i (.val d))[j]? = some (Slot.own e) → ∃ e, ρ[j]? = some (Slot.own e)) ∧ ∃ p, v = .ref p ∧ Own ρ σ p ∧ ¬ Own (ρ.set i (.val d)) σ p := by
  obtain ⟨v, e, q⟩ := S.own h
  have hi : i < ρ.length := (List.getElem?_eq_some_iff.mp h).1
  cases d with
  | list xs =>
    obtain ⟨p, vs, e1, h1, h2, h3⟩ := q
    subst e1
    have lF : Le F (upd F p (.lst vs)) := fun b u hb => by
      rw [upd_ne]; exact hb
      rintro rfl; rw [hb] at h2; cases h2
    have l2 : Le (upd F p (.lst vs)) H := fun b u hb => by
      by_cases eb : b = p
      · subst eb; rw [upd_same] at hb; cases hb; exact h1
      · rw [upd_ne eb] at hb; exact S.sub _ _ hb
    have v1 : VR K (upd F p (.lst vs)) (.list xs) (.ref p) := .lst (.inl (.inl upd_same)) (h3.mono lF)
    have nset : ∀ (j : Nat) (d' : D), (ρ.set i (.val (.list xs)))[j]? = some (.own d') → j ≠ i ∧ ρ[j]? = some (.own d') := fun j d' hj => by
      by_cases ej : j = i
      · subst ej; rw [List.getElem?_set_self hi] at hj; cases hj
      · rw [List.getElem?_set_ne (Ne.symm ej)] at hj; exact ⟨ej, hj⟩
    have sub : ∀ (j : Nat) (e : D), (ρ.set i (.val (.list xs)))[j]? = some (Slot.own e) → ∃ e, ρ[j]? = some (Slot.own e) := fun j e hj => ⟨e, (nset j e hj).2⟩
    have np : ¬ Own (ρ.set i (.val (.list xs))) σ p := fun ⟨j, d', hj, hs⟩ => (nset j d' hj).1 (S.apart j i d' _ p (nset j d' hj).2 h hs e)
    refine ⟨.ref p, upd F p (.lst vs), e, v1, ⟨l2, by rw [List.length_set]; exact S.len, fun j s hj => ?_, fun j k d' e' q hj hk hs ht => S.apart j k d' e' q (nset j d' hj).2 (nset k e' hk).2 hs ht⟩, ⟨lF, fun _ _ hb _ => hb, fun b o hb => ?_, fun _ hb => hb⟩, sub, p, rfl, ⟨i, _, h, e⟩, np⟩
    · by_cases ej : j = i
      · subst ej
        rw [List.getElem?_set_self hi] at hj; cases hj
        rw [e]; exact v1
      · rw [List.getElem?_set_ne (Ne.symm ej)] at hj
        have r := S.slots j s hj
        cases s with
        | un => trivial
        | val d' =>
          cases e2 : σ[j]?.getD none with
          | none => rw [e2] at r; exact r
          | some w => rw [e2] at r; exact VR.mono lF r
        | own d' =>
          cases e2 : σ[j]?.getD none with
          | none => rw [e2] at r; exact r
          | some w =>
            rw [e2] at r
            have hσ : σ[j]? = some (some w) := by
              cases e3 : σ[j]? with
              | none => rw [e3] at e2; cases e2
              | some z => rw [e3] at e2; exact congrArg some e2
            refine OwnC.mono r lF (fun _ _ _ ho => ho) fun q hq hf => ?_
            rw [upd_ne]; exact hf
            rintro rfl
            exact ej (S.apart j i d' _ q hj h (by rw [hσ, hq]) e)
    · by_cases eb : b = p
      · subst eb; exact .inr (.inl ⟨i, _, h, e⟩)
      · rw [upd_ne eb] at hb; exact .inl hb
  | _ => exact q.elim

/-! ### from one state to another -/
structure Mid (K : Frag) (σ : SS) (ρ : En) (F H : Hp) (ρ' : En) (F' H' : Hp) : Prop where
  S : SR K ρ' F' σ H'
  st : Stp (Own ρ σ) F H F' H'
  ix : ∀ (i : Nat) (d : D), ρ'[i]? = some (Slot.own d) → ∃ e, ρ[i]? = some (Slot.own e)
theorem Mid.os {K : Frag} {σ : SS} {ρ ρ' : En} {F H F' H' : Hp} (m : Mid K σ ρ F H ρ' F' H') : ∀ p, Own ρ' σ p → Own ρ σ p := fun p ⟨i, d, h, hs⟩ =>
  let ⟨e, h2⟩ := m.ix i d h
  ⟨i, e, h2, hs⟩
section
variable {K : Frag} {σ : SS} {ρ ρ1 ρ2 : En} {F H F1 H1 F2 H2 : Hp}
theorem Mid.refl (S : SR K ρ F σ H) : Mid K σ ρ F H ρ F H := ⟨S, Stp.refl, fun _ d h => ⟨d, h⟩⟩
theorem Mid.trans (a : Mid K σ ρ F H ρ1 F1 H1) (b : Mid K σ ρ1 F1 H1 ρ2 F2 H2) : Mid K σ ρ F H ρ2 F2 H2 :=
  ⟨b.S, a.st.trans b.st fun p h => .inl (a.os p h), fun i d h => let ⟨e, h2⟩ := b.ix i d h; a.ix i e h2⟩
/-- nothing of the names' own changes -/
theorem Mid.of (S : SR K ρ F σ H) (t : Stp (fun _ => False) F H F1 H1) (l : Le F1 H1) : Mid K σ ρ F H ρ F1 H1 :=
  ⟨S.step t l fun _ _ z => z, t.mono fun _ z => z.elim, fun _ d h => ⟨d, h⟩⟩

/-- how a result lies; H: the heap ahead of it -/
def XR (K : Frag) (σ : SS) (H : Hp) (ρ' : En) (F' H' : Hp) : X → V → Prop
  | .val d, v => VR K F' d v
  | .fresh d, v => OwnC K F' H' d v ∧ ∀ p, v = .ref p → H p = none
  | .slot i, v => σ[i]? = some (some v) ∧ ∃ d, ρ'[i]? = some (.own d)
def OpR (K : Frag) (σ : SS) (F : Hp) : Op → V → Prop
  | .imm d, v => VR K F d v
  | .slot i, v => σ[i]? = some (some v)
inductive OpRs (K : Frag) (σ : SS) (F : Hp) : List Op → List V → Prop
  | nil : OpRs K σ F [] []
  | cons {o : Op} {v : V} {os : List Op} {vs : List V} : OpR K σ F o v → OpRs K σ F os vs → OpRs K σ F (o :: os) (v :: vs)
theorem OpR.mono (l : Le F F1) : ∀ {o : Op} {v : V}, OpR K σ F o v → OpR K σ F1 o v
  | .imm _, _, h => VR.mono l h
  | .slot _, _, h => h
theorem OpRs.mono (l : Le F F1) : ∀ {o : List Op} {v : List V}, OpRs K σ F o v → OpRs K σ F1 o v
  | _, _, .nil => .nil
  | _, _, .cons r t => .cons (r.mono l) (t.mono l)
/-- a value at the time of its use -/
def OR (K : Frag) (F H : Hp) (d : D) (v : V) : Prop := VR K F d v ∨ OwnC K F H d v
theorem SR.peek (S : SR K ρ F σ H) {o : Op} {v : V} {d : D} (r : OpR K σ F o v) (h : peek ρ o = some d) : OR K F H d v := by
  cases o with
  | imm e => simp [Pv.peek] at h; subst h; exact .inl r
  | slot i =>
    have r' : σ[i]? = some (some v) := r
    simp only [Pv.peek] at h
    split at h
    · rename_i d' e
      cases h
      obtain ⟨w, e1, q⟩ := S.own e
      rw [r'] at e1; cases e1; exact .inr q
    · rename_i d' e
      cases h
      obtain ⟨w, e1, q⟩ := S.val e
      rw [r'] at e1; cases e1; exact .inl q
    · cases h
inductive ORs (K : Frag) (F H : Hp) : List D → List V → Prop
  | nil : ORs K F H [] []
  | cons {d : D} {v : V} {ds : List D} {vs : List V} : OR K F H d v → ORs K F H ds vs → ORs K F H (d :: ds) (v :: vs)
theorem SR.peeks (S : SR K ρ F σ H) : ∀ {os : List Op} {vs : List V} {ds : List D}, OpRs K σ F os vs → peeks ρ os = some ds → ORs K F H ds vs
  | _, _, _, .nil, h => by simp [Pv.peeks] at h; subst h; exact .nil
  | _, _, _, .cons r t, h => by
    simp only [Pv.peeks] at h
    split at h
    · rename_i d ds e1 e2
      cases h
      exact .cons (S.peek r e1) (S.peeks t e2)
    · cases h
theorem OR.list {xs : List D} {v : V} (l : Le F H) (h : OR K F H (.list xs) v) : ∃ p vs, v = .ref p ∧ SqL K H p vs ∧ VRs K F xs vs := by
  rcases h with h | h
  · cases h with
    | lst h r => exact ⟨_, _, rfl, l.sqL h, r⟩
  · obtain ⟨p, vs, e, h1, h2, h3⟩ := h
    exact ⟨p, vs, e, .inl (.inl h1), h3⟩
theorem OR.tuple {xs : List D} {v : V} (l : Le F H) (h : OR K F H (.tuple xs) v) : ∃ p vs, v = .ref p ∧ SqT K H p vs ∧ VRs K F xs vs := by
  rcases h with h | h
  · cases h with
    | tup h r => exact ⟨_, _, rfl, l.sqT h, r⟩
  · exact h.elim
theorem OR.int {i : Int} {v : V} (h : OR K F H (.int i) v) : v = .int i := by
  rcases h with h | h
  · cases h; rfl
  · exact h.elim
theorem OR.str {i : Str} {v : V} (h : OR K F H (.str i) v) : v = .str i := by
  rcases h with h | h
  · cases h; rfl
  · exact h.elim
theorem OR.bool {i : Bool} {v : V} (h : OR K F H (.bool i) v) : v = .bl i := by
  rcases h with h | h
  · cases h; rfl
  · exact h.elim
theorem OR.none {v : V} (h : OR K F H .none v) : v = .non := by
  rcases h with h | h
  · cases h; rfl
  · exact h.elim
theorem OR.dp {d : D} {v : V} (l : Le F H) (h : OR K F H d v) : L2.Dp K H v d := by
  rcases h with h | h
  · exact h.dp l
  · cases d with
    | list xs =>
      obtain ⟨p, vs, e, h1, h2, h3⟩ := h
      subst e
      exact .lst (.inl (.inl h1)) (h3.dps l)
    | _ => exact h.elim
/-- what a new list needs to be shared -/
theorem OwnC.share {d : D} {v : V} (h : OwnC K F H d v) : ∃ p vs, v = .ref p ∧ H p = some (.lst vs) ∧ F p = none ∧ VR K (upd F p (.lst vs)) d v := by
  cases d with
  | list xs =>
    obtain ⟨p, vs, e, h1, h2, h3⟩ := h
    subst e
    refine ⟨p, vs, rfl, h1, h2, .lst (.inl (.inl upd_same)) (h3.mono fun b u hb => ?_)⟩
    rw [upd_ne]; exact hb
    rintro rfl; rw [hb] at h2; cases h2
  | _ => exact h.elim
end
end Pv
end
section
/-! Pv3: what an evaluation says of the program's run; the steps from one to the next. -/
namespace Pv
open PySem PySem.Spec PyProof.Rows
open L2 (V Hp HO SqL SqT upd upd_same upd_ne VK TE TA Cx PE PA PT Inv Same)
theorem bind_assoc {α β γ : Type} (m : Res α) (f : α → Res β) (g : β → Res γ) : (m.bind f).bind g = m.bind fun a => (f a).bind g := by cases m <;> rfl
/-- what is wanted of an exception: class, field, the state -/
abbrev ExW := Str → D → En → Hp → SS → Hp → Prop
/-- how results lie: the heap ahead, the state, the parts, the result, its values -/
abbrev Rel (α β : Type) := Hp → En → Hp → Hp → α → β → Prop
def Post {α β : Type} (K : Frag) (E : ExW) (Rl : Rel α β) (σ : SS) (ρ : En) (F H : Hp) (res : Res (α × En)) (Q : β → Hp → Prop) : Prop :=
  match res with
  | .ok (a, ρ') => ∀ b F' H', Mid K σ ρ F H ρ' F' H' → Rl H ρ' F' H' a b → Q b H'
  | .rs c d ρ' => ∀ F' H', Mid K σ ρ F H ρ' F' H' → E c d ρ' F' σ H'
  | .bad => False
structure Con {α β : Type} (K : Frag) (E : ExW) (Rl : Rel α β) (σ : SS) (ρ : En) (F H : Hp) (res : Res (α × En)) (Q : β → Hp → Prop) : Prop where
  S : SR K ρ F σ H
  P : Post K E Rl σ ρ F H res Q
/-- a relation that may be looked at from a later heap -/
def Sh {α β : Type} (Rl : Rel α β) : Prop := ∀ H H1, (∀ b, H1 b = none → H b = none) → ∀ ρ F' H' a b, Rl H1 ρ F' H' a b → Rl H ρ F' H' a b
section
variable {α β γ δ : Type} {K : Frag} {E : ExW} {σ : SS} {ρ ρ1 : En} {F H F1 H1 : Hp}
theorem Post.shift {Rl : Rel α β} (sh : Sh Rl) {res : Res (α × En)} {Q : β → Hp → Prop} (m : Mid K σ ρ F H ρ1 F1 H1) (p : Post K E Rl σ ρ F H res Q) : Post K E Rl σ ρ1 F1 H1 res Q := by
  cases res with
  | ok x => exact fun b F' H' m' r => p b F' H' (m.trans m') (sh _ _ m.st.dom _ _ _ _ _ r)
  | rs c d ρ' => exact fun F' H' m' => p F' H' (m.trans m')
  | bad => exact p
theorem Con.shift {Rl : Rel α β} (sh : Sh Rl) {res : Res (α × En)} {Q : β → Hp → Prop} (c : Con K E Rl σ ρ F H res Q) (m : Mid K σ ρ F H ρ1 F1 H1) : Con K E Rl σ ρ1 F1 H1 res Q := ⟨m.S, c.P.shift sh m⟩
/-- the first part of a chain -/
theorem Con.bind {Ra : Rel α β} {Rb : Rel γ δ} (sh : Sh Rb) {m : Res (α × En)} {f : α × En → Res (γ × En)} {Q : δ → Hp → Prop} (c : Con K E Rb σ ρ F H (m.bind f) Q) :
    Con K E Ra σ ρ F H m fun b H1 => ∃ a ρ1 F1, Ra H ρ1 F1 H1 a b ∧ Mid K σ ρ F H ρ1 F1 H1 ∧ Con K E Rb σ ρ1 F1 H1 (f (a, ρ1)) Q := by
  refine ⟨c.S, ?_⟩
  cases e : m with
  | ok x =>
    have p := c.P
    rw [e] at p
    exact fun b F' H' m' r => ⟨x.1, x.2, F', r, m', m'.S, Post.shift sh m' (show Post K E Rb σ ρ F H (f (x.1, x.2)) Q from p)⟩
  | rs q d ρ' =>
    have p := c.P
    rw [e] at p
    exact p
  | bad =>
    have p := c.P
    rw [e] at p
    exact p
theorem Con.opt {Rl : Rel α β} {o : Option γ} {f : γ → Res (α × En)} {Q : β → Hp → Prop} (c : Con K E Rl σ ρ F H ((opt o).bind f) Q) : ∃ a, o = some a ∧ Con K E Rl σ ρ F H (f a) Q := by
  cases o with
  | none => exact c.P.elim
  | some a => exact ⟨a, rfl, c⟩
theorem Con.lim {Rl : Rel α β} {ds : List D} {r : Res (α × En)} {Q : β → Hp → Prop} (c : Con K E Rl σ ρ F H (lim ds r) Q) : ds.length ≤ LIM ∧ Con K E Rl σ ρ F H r Q := by
  unfold Pv.lim at c
  split at c
  · exact ⟨by assumption, c⟩
  · exact c.P.elim
theorem Con.le {Rl : Rel α β} {res : Res (α × En)} {Q : β → Hp → Prop} (c : Con K E Rl σ ρ F H res Q) : Le F H := c.S.sub
/-- the end of a chain -/
theorem Con.fin {Rl : Rel α β} {a : α} {Q : β → Hp → Prop} (c : Con K E Rl σ ρ F H (.ok (a, ρ)) Q) {b : β} {F' H' : Hp} (t : Stp (fun _ => False) F H F' H') (l : Le F' H') (r : Rl H ρ F' H' a b) : Q b H' :=
  c.P b F' H' (Mid.of c.S t l) r
theorem Con.fin0 {Rl : Rel α β} {a : α} {Q : β → Hp → Prop} (c : Con K E Rl σ ρ F H (.ok (a, ρ)) Q) {b : β} (r : Rl H ρ F H a b) : Q b H := c.fin Stp.refl c.S.sub r
end

abbrev RX (K : Frag) (σ : SS) : Rel X V := fun H ρ' F' H' x v => XR K σ H ρ' F' H' x v
abbrev RD (K : Frag) : Rel D V := fun _ _ F' _ d v => VR K F' d v
abbrev RB : Rel Bool Bool := fun _ _ _ _ a b => a = b
abbrev ROs (K : Frag) (σ : SS) : Rel (List Op) (List V) := fun _ _ F' _ x v => OpRs K σ F' x v
abbrev RDs (K : Frag) : Rel (List D) (List V) := fun _ _ F' _ x v => VRs K F' x v
abbrev RP (K : Frag) : Rel (Option D) (Option V) := fun _ _ F' _ x v => match x, v with
  | none, none => True
  | some d, some u => VR K F' d u
  | _, _ => False
theorem sh_X {K : Frag} {σ : SS} : Sh (RX K σ) := fun H H1 d ρ F' H' a b r => by
  cases a with
  | val _ => exact r
  | fresh _ => exact ⟨r.1, fun p e => d p (r.2 p e)⟩
  | slot _ => exact r
theorem sh_D {K : Frag} : Sh (RD K) := fun _ _ _ _ _ _ _ _ r => r
theorem sh_B : Sh RB := fun _ _ _ _ _ _ _ _ r => r
theorem sh_Os {K : Frag} {σ : SS} : Sh (ROs K σ) := fun _ _ _ _ _ _ _ _ r => r
theorem sh_Ds {K : Frag} : Sh (RDs K) := fun _ _ _ _ _ _ _ _ r => r
theorem sh_P {K : Frag} : Sh (RP K) := fun _ _ _ _ _ _ _ _ r => r

section
variable {α β : Type} {K : Frag} {E : ExW} {σ : SS} {ρ ρ1 : En} {F H F1 H1 : Hp}
/-- a new list is shared from now on -/
theorem Mid.share (S0 : SR K ρ F σ H) (m : Mid K σ ρ F H ρ1 F1 H1) {p : Addr} {vs : List V} (h1 : H1 p = some (.lst vs)) (h2 : F1 p = none) (np : H p = none) : Mid K σ ρ F H ρ1 (upd F1 p (.lst vs)) H1 := by
  have lF : Le F1 (upd F1 p (.lst vs)) := fun b u hb => by
    rw [upd_ne]; exact hb
    rintro rfl; rw [hb] at h2; cases h2
  have l2 : Le (upd F1 p (.lst vs)) H1 := fun b u hb => by
    by_cases eb : b = p
    · subst eb; rw [upd_same] at hb; cases hb; exact h1
    · rw [upd_ne eb] at hb; exact m.S.sub _ _ hb
  have nown : ¬ Own ρ σ p := fun ⟨i, d, hi, hs⟩ => by
    obtain ⟨w, e1, q⟩ := S0.own hi
    rw [hs] at e1; cases e1
    cases d with
    | list xs =>
      obtain ⟨p', vs', e4, h5, _, _⟩ := q
      cases e4; rw [np] at h5; cases h5
    | _ => exact q.elim
  have st : Stp (fun b => b = p) F1 H1 (upd F1 p (.lst vs)) H1 := ⟨lF, fun _ _ hb _ => hb, fun b o hb => by
    by_cases eb : b = p
    · exact .inr (.inl eb)
    · rw [upd_ne eb] at hb; exact .inl hb, fun _ hb => hb⟩
  exact ⟨m.S.step st l2 fun q ho e => nown (by rw [← e]; exact m.os q ho), m.st.trans st fun b e => .inr (by rw [e]; exact np), m.ix⟩
/-- a result as an operand -/
theorem XR.op {x : X} {v : V} (S0 : SR K ρ F σ H) (m : Mid K σ ρ F H ρ1 F1 H1) (r : XR K σ H ρ1 F1 H1 x v) : ∃ F2, Mid K σ ρ F H ρ1 F2 H1 ∧ Le F1 F2 ∧ OpR K σ F2 (opX x) v := by
  cases x with
  | val d => exact ⟨F1, m, Le.refl _, r⟩
  | slot i => exact ⟨F1, m, Le.refl _, r.1⟩
  | fresh d =>
    obtain ⟨r1, r2⟩ := r
    obtain ⟨p, vs, e, h1, h2, h3⟩ := r1.share
    subst e
    have m2 := Mid.share S0 m h1 h2 (r2 p rfl)
    refine ⟨_, m2, fun b u hb => ?_, h3⟩
    rw [upd_ne]; exact hb
    rintro rfl; rw [hb] at h2; cases h2
/-- .. as a shared value -/
theorem XR.frz {x : X} {v : V} {d : D} {ρ2 : En} (S0 : SR K ρ F σ H) (m : Mid K σ ρ F H ρ1 F1 H1) (r : XR K σ H ρ1 F1 H1 x v) (h : frz (x, ρ1) = .ok (d, ρ2)) : ∃ F2, Mid K σ ρ F H ρ2 F2 H1 ∧ VR K F2 d v := by
  cases x with
  | val d => cases h; exact ⟨F1, m, r⟩
  | fresh d =>
    obtain ⟨F2, m2, _, r2⟩ := XR.op S0 m r
    cases h
    exact ⟨F2, m2, r2⟩
  | slot i =>
    obtain ⟨hs, d', hd⟩ := r
    simp only [Pv.frz, hd] at h
    cases h
    obtain ⟨w, F2, e1, h1, h2, h3, h4, _⟩ := m.S.freeze hd
    rw [hs] at e1; cases e1
    exact ⟨F2, m.trans ⟨h2, h3, h4⟩, h1⟩
theorem frz_not_rs {p : X × En} {c d ρ'} (h : frz p = .rs c d ρ') : False := by
  obtain ⟨x, ρ⟩ := p
  cases x with
  | val _ => cases h
  | fresh _ => cases h
  | slot i => simp only [Pv.frz] at h; split at h <;> cases h

/-- an expression's reading -/
def tE (T : Tb) (K : Frag) (E : ExW) (e : Ex) : TE := fun σ H Q => ∃ ρ F, Con K E (RX K σ) σ ρ F H (ev T e ρ) Q
def tF (T : Tb) (K : Frag) (E : ExW) (e : Ex) : TE := fun σ H Q => ∃ ρ F, Con K E (RD K) σ ρ F H ((ev T e ρ).bind frz) Q
def tB (T : Tb) (K : Frag) (E : ExW) (e : Ex) : L2.TT := fun σ H Q => ∃ ρ F, Con K E RB σ ρ F H ((ev T e ρ).bind boo) Q
def tOs (T : Tb) (K : Frag) (E : ExW) (es : List Ex) : TA := fun σ H Q => ∃ ρ F, Con K E (ROs K σ) σ ρ F H (evOs T es ρ) Q
def tDs (T : Tb) (K : Frag) (E : ExW) (es : List Ex) : TA := fun σ H Q => ∃ ρ F, Con K E (RDs K) σ ρ F H (evL T es ρ) Q
variable {T : Tb} {γ δ : Type}
/-- the first part of a chain, as an operand -/
theorem Con.bindO {Rb : Rel γ δ} (sh : Sh Rb) {a : Ex} {f : X × En → Res (γ × En)} {Q : δ → Hp → Prop} (c : Con K E Rb σ ρ F H ((ev T a ρ).bind f) Q) :
    tE T K E a σ H fun v H1 => ∃ x ρ1 F1, OpR K σ F1 (opX x) v ∧ Le F F1 ∧ Con K E Rb σ ρ1 F1 H1 (f (x, ρ1)) Q := by
  refine ⟨ρ, F, ⟨c.S, ?_⟩⟩
  have q := (c.bind (Ra := RX K σ) sh).P
  cases e : ev T a ρ with
  | bad => rw [e] at q; exact q
  | rs _ _ _ => rw [e] at q; exact q
  | ok x =>
    rw [e] at q
    intro v F1 H1 m r
    obtain ⟨x', ρ1, F1', h1, h2, h3⟩ := q v F1 H1 m r
    -- the state told by the chain
    have p := c.P
    rw [e] at p
    obtain ⟨F2, m2, l2, r2⟩ := XR.op c.S m r
    exact ⟨x.1, x.2, F2, r2, m2.st.sub, ⟨m2.S, Post.shift sh m2 (show Post K E Rb σ ρ F H (f (x.1, x.2)) Q from p)⟩⟩
/-- .. shared -/
theorem Con.bindF {Rb : Rel γ δ} (sh : Sh Rb) {a : Ex} {f : D × En → Res (γ × En)} {Q : δ → Hp → Prop} (c : Con K E Rb σ ρ F H (((ev T a ρ).bind frz).bind f) Q) :
    tE T K E a σ H fun v H1 => ∃ d ρ1 F1, VR K F1 d v ∧ Le F F1 ∧ Con K E Rb σ ρ1 F1 H1 (f (d, ρ1)) Q := by
  refine ⟨ρ, F, ⟨c.S, ?_⟩⟩
  have p := c.P
  cases e : ev T a ρ with
  | bad => rw [e] at p; exact p
  | rs _ _ _ => rw [e] at p; exact p
  | ok x =>
    rw [e] at p
    intro v F1 H1 m r
    cases e2 : frz x with
    | bad => rw [bind_ok, e2] at p; exact p.elim
    | rs _ _ _ => exact (frz_not_rs e2).elim
    | ok y =>
      rw [bind_ok, e2] at p
      obtain ⟨F2, m2, r2⟩ := XR.frz c.S m r (d := y.1) (ρ2 := y.2) e2
      exact ⟨y.1, y.2, F2, r2, m2.st.sub, ⟨m2.S, Post.shift sh m2 (show Post K E Rb σ ρ F H (f (y.1, y.2)) Q from p)⟩⟩
/-- .. with its equation -/
theorem Con.bindFe {Rb : Rel γ δ} (sh : Sh Rb) {a : Ex} {f : D × En → Res (γ × En)} {Q : δ → Hp → Prop} (c : Con K E Rb σ ρ F H (((ev T a ρ).bind frz).bind f) Q) :
    tE T K E a σ H fun v H1 => ∃ d ρ1 F1, (ev T a ρ).bind frz = .ok (d, ρ1) ∧ VR K F1 d v ∧ Le F F1 ∧ Con K E Rb σ ρ1 F1 H1 (f (d, ρ1)) Q := by
  refine ⟨ρ, F, ⟨c.S, ?_⟩⟩
  have p := c.P
  cases e : ev T a ρ with
  | bad => rw [e] at p; exact p
  | rs _ _ _ => rw [e] at p; exact p
  | ok x =>
    rw [e] at p
    intro v F1 H1 m r
    cases e2 : frz x with
    | bad => rw [bind_ok, e2] at p; exact p.elim
    | rs _ _ _ => exact (frz_not_rs e2).elim
    | ok y =>
      rw [bind_ok, e2] at p
      obtain ⟨F2, m2, r2⟩ := XR.frz c.S m r (d := y.1) (ρ2 := y.2) e2
      exact ⟨y.1, y.2, F2, e2, r2, m2.st.sub, ⟨m2.S, Post.shift sh m2 (show Post K E Rb σ ρ F H (f (y.1, y.2)) Q from p)⟩⟩
theorem tF_of {a : Ex} {Q : VK} {σ : SS} {H : Hp} (h : tF T K E a σ H Q) : tE T K E a σ H Q := by
  obtain ⟨ρ, F, c⟩ := h
  refine ⟨ρ, F, ⟨c.S, ?_⟩⟩
  have p := c.P
  cases e : ev T a ρ with
  | bad => rw [e] at p; exact p
  | rs _ _ _ => rw [e] at p; exact p
  | ok x =>
    rw [e] at p
    intro v F1 H1 m r
    cases e2 : frz x with
    | bad => rw [bind_ok, e2] at p; exact p.elim
    | rs _ _ _ => exact (frz_not_rs e2).elim
    | ok y =>
      rw [bind_ok, e2] at p
      obtain ⟨F2, m2, r2⟩ := XR.frz c.S m r (d := y.1) (ρ2 := y.2) e2
      exact p v F2 H1 m2 r2
/-- .. a bool -/
theorem Con.bindB {Rb : Rel γ δ} (sh : Sh Rb) {a : Ex} {f : Bool × En → Res (γ × En)} {Q : δ → Hp → Prop} (c : Con K E Rb σ ρ F H (((ev T a ρ).bind boo).bind f) Q) :
    tB T K E a σ H fun b H1 => ∃ ρ1 F1, Le F F1 ∧ Con K E Rb σ ρ1 F1 H1 (f (b, ρ1)) Q := by
  refine ⟨ρ, F, ?_⟩
  have q := c.bind (Ra := RB) sh
  refine ⟨q.S, ?_⟩
  have p := q.P
  revert p
  cases (ev T a ρ).bind boo with
  | bad => exact id
  | rs _ _ _ => exact id
  | ok x =>
    intro p b F1 H1 m r
    obtain ⟨a', ρ1, F1', h1, h2, h3⟩ := p b F1 H1 m r
    cases h1
    exact ⟨ρ1, F1', h2.st.sub, h3⟩
/-- a bool's value, where the bool is wanted -/
theorem boo_val {x : X} {ρ ρ' : En} {b : Bool} (h : boo (x, ρ) = .ok (b, ρ')) : x = .val (.bool b) ∧ ρ' = ρ := by
  unfold boo at h
  split at h
  · rename_i e; cases h; cases e; exact ⟨rfl, rfl⟩
  · cases h
theorem boo_not_rs {p : X × En} {c d ρ'} (h : boo p = .rs c d ρ') : False := by
  unfold boo at h
  split at h <;> cases h
theorem tB_of {a : Ex} {Q : Bool → Hp → Prop} {σ : SS} {H : Hp} (h : tB T K E a σ H Q) : tE T K E a σ H fun v H1 => ∃ b, v = .bl b ∧ Q b H1 := by
  obtain ⟨ρ, F, c⟩ := h
  refine ⟨ρ, F, ⟨c.S, ?_⟩⟩
  have p := c.P
  cases e : ev T a ρ with
  | bad => rw [e] at p; exact p
  | rs _ _ _ => rw [e] at p; exact p
  | ok x =>
    rw [e] at p
    intro v F1 H1 m r
    cases e2 : boo x with
    | bad => rw [bind_ok, e2] at p; exact p.elim
    | rs _ _ _ => exact (boo_not_rs e2).elim
    | ok y =>
      rw [bind_ok, e2] at p
      obtain ⟨h1, h2⟩ := boo_val (x := x.1) (ρ := x.2) (b := y.1) (ρ' := y.2) e2
      have r' : XR K σ H x.2 F1 H1 x.1 v := r
      rw [h1] at r'
      cases r'
      refine ⟨y.1, rfl, p y.1 F1 H1 ?_ rfl⟩
      rw [h2]; exact m
theorem Con.bindOs {Rb : Rel γ δ} (sh : Sh Rb) {es : List Ex} {f : List Op × En → Res (γ × En)} {Q : δ → Hp → Prop} (c : Con K E Rb σ ρ F H ((evOs T es ρ).bind f) Q) :
    tOs T K E es σ H fun vs H1 => ∃ xs ρ1 F1, OpRs K σ F1 xs vs ∧ Le F F1 ∧ Con K E Rb σ ρ1 F1 H1 (f (xs, ρ1)) Q := by
  refine ⟨ρ, F, ?_⟩
  have q := c.bind (Ra := ROs K σ) sh
  refine ⟨q.S, ?_⟩
  have p := q.P
  revert p
  cases evOs T es ρ with
  | bad => exact id
  | rs _ _ _ => exact id
  | ok x =>
    intro p b F1 H1 m r
    obtain ⟨a', ρ1, F1', h1, h2, h3⟩ := p b F1 H1 m r
    exact ⟨a', ρ1, F1', h1, h2.st.sub, h3⟩
theorem Con.bindDs {Rb : Rel γ δ} (sh : Sh Rb) {es : List Ex} {f : List D × En → Res (γ × En)} {Q : δ → Hp → Prop} (c : Con K E Rb σ ρ F H ((evL T es ρ).bind f) Q) :
    tDs T K E es σ H fun vs H1 => ∃ xs ρ1 F1, VRs K F1 xs vs ∧ Le F F1 ∧ Con K E Rb σ ρ1 F1 H1 (f (xs, ρ1)) Q := by
  refine ⟨ρ, F, ?_⟩
  have q := c.bind (Ra := RDs K) sh
  refine ⟨q.S, ?_⟩
  have p := q.P
  revert p
  cases evL T es ρ with
  | bad => exact id
  | rs _ _ _ => exact id
  | ok x =>
    intro p b F1 H1 m r
    obtain ⟨a', ρ1, F1', h1, h2, h3⟩ := p b F1 H1 m r
    exact ⟨a', ρ1, F1', h1, h2.st.sub, h3⟩
end
theorem PE.imp {X : Cx} {e : Expr} {t u : TE} (h : PE X e t) (i : ∀ σ H Q, u σ H Q → t σ H Q) : PE X e u := ⟨fun pins s σ H Q I q => h.run pins s σ H Q I (i σ H Q q)⟩
theorem PT.imp {X : Cx} {e : Expr} {t u : L2.TT} (h : PT X e t) (i : ∀ σ H Q, u σ H Q → t σ H Q) : PT X e u := ⟨fun pins s σ H Q I q => h.run pins s σ H Q I (i σ H Q q)⟩
theorem PA.imp {X : Cx} {e : List Expr} {t u : TA} (h : PA X e t) (i : ∀ σ H Q, u σ H Q → t σ H Q) : PA X e u := ⟨fun pos pins s σ H Q I q => h.run pos pins s σ H Q I (i σ H Q q)⟩
end Pv
end
section
/-! Pv4: the operators, by value. -/
namespace Pv
open PySem PySem.Spec PyProof.Rows
open L2 (V Hp HO SqL SqT upd upd_same upd_ne VK TE TA Cx PE PA PT Inv Same Vals RelV)
theorem lim_line : LIM = sizeLine := by rw [sizeLine_eq]; rfl
def RRes (K : Frag) (H F' H' : Hp) : R → V → Prop
  | .val d, v => VR K F' d v
  | .fresh d, v => OwnC K F' H' d v ∧ ∀ p, v = .ref p → H p = none
/-- what is wanted of a result -/
def Fin (K : Frag) (F H : Hp) (r : R) (Q : VK) : Prop := ∀ v F' H', Stp (fun _ => False) F H F' H' → Le F' H' → RRes K H F' H' r v → Q v H'
section
variable {K : Frag} {F H : Hp} {Q : VK} {d : D} {v : V} {ds : List D} {vs : List V}
theorem Fin.val (f : Fin K F H (.val d) Q) (l : Le F H) (r : VR K F d v) : Q v H := f v F H Stp.refl l r
theorem Le.tie {F H : Hp} {p : Addr} (l : Le F H) (n : H p = none) : F p = none := by
  cases e : F p with
  | none => rfl
  | some o => rw [l _ _ e] at n; cases n
theorem Le.put {F H : Hp} {p : Addr} {o : HO} (l : Le F H) (n : H p = none) : Le F (upd F p o) := fun b u hb => by
  rw [upd_ne]; exact hb
  rintro rfl; rw [l.tie n] at hb; cases hb
theorem Fin.newT (f : Fin K F H (.val (.tuple ds)) Q) (l : Le F H) (r : VRs K F ds vs) (p : Addr) (n : H p = none) : Q (.ref p) (upd H p (.tup vs)) :=
  f _ _ _ (Stp.laid l n) l.laid (VR.tup (.inl (.inl upd_same)) (r.mono (l.put n)))
theorem Fin.newL (f : Fin K F H (.fresh (.list ds)) Q) (l : Le F H) (r : VRs K F ds vs) (p : Addr) (n : H p = none) : Q (.ref p) (upd H p (.lst vs)) :=
  f _ _ _ (Stp.laidO n) (l.laidR (l.tie n)) ⟨⟨p, vs, rfl, upd_same, l.tie n, r⟩, fun q e => by cases e; exact n⟩
end
section
variable {X : Cx} {pins : List (Addr × Obj)} {σ : SS} {H : Hp} {s : Shared} {l : Addr} {xs : List V}
/-- a list that is tracked, or locked -/
theorem Inv.readL (I : Inv X pins σ H s) (h : SqL X.K H l xs) : xs.length ≤ sizeLine ∧ ∃ (its : List Value) (n : Nat) (dd : Option Addr) (sl : Array (Option Value)), Vals xs its ∧ xs.length = its.length ∧ s.heap.get? l = some { cls := .type "list", dict := dd, data := .seq its.toArray n, slots := sl } := by
  obtain ⟨its, r, ⟨⟨cls, dd, data, sl⟩, n, e, hc, hd, hs⟩, z⟩ := I.list h
  simp only at hc hd hs
  subst hc hd hs
  exact ⟨z, its, n, _, sl, r, r.length, e⟩
end
def rB (K : Frag) (o : Bop) : L2.R2 := fun x y H Q => ∃ F d e r, Le F H ∧ OR K F H d x ∧ OR K F H e y ∧ binD o d e = some r ∧ Fin K F H r Q
section
variable {X : Cx}
theorem ok_add : L2.OpR X (binaryOp .Add) (rB X.K .add) := by
  intro pins s σ H x y v u Q I rx ry h
  obtain ⟨F, d, e, r, l, ox, oy, hr, fin⟩ := h
  cases d <;> cases e <;> simp only [binD, Option.some.injEq, reduceCtorEq] at hr
  · rename_i i j
    subst hr
    exact L2.op_add pins s σ H x y v u Q I rx ry ⟨i, j, ox.int, oy.int, fin.val l (.int _)⟩
  · rename_i i j
    split at hr
    · rename_i hz
      cases hr
      exact L2.op_add_str pins s σ H x y v u Q I rx ry ⟨i, j, ox.str, oy.str, by rw [← lim_line]; exact hz, fin.val l (.str _)⟩
    · cases hr
  · rename_i xs ys
    split at hr
    · rename_i hz
      cases hr
      obtain ⟨p, vs, rfl, hp, rp⟩ := ox.list l
      obtain ⟨q, ws, rfl, hq, rq⟩ := oy.list l
      cases rx
      cases ry
      obtain ⟨z, a, n, dd, sl, ra, la, ea⟩ := Inv.readL I hp
      obtain ⟨z2, b, n2, dd2, sl2, rb, lb, eb⟩ := Inv.readL I hq
      have hlen : vs.length + ws.length ≤ sizeLine := by rw [← lim_line, ← rp.length, ← rq.length]; exact hz
      refine PySem.concat_meets ⟨_, ea, rfl⟩ ⟨_, eb, rfl⟩ noFill_list_add seq_list_add PySem.F.slot_list_add PySem.F.entry_list_add (PySem.F.args_list_add_2 _ _) (PyProof.Rows.list_addW p q a.toArray b.toArray n n2 dd dd2 sl sl2 (by rw [List.size_toArray, List.size_toArray, ← la, ← lb]; exact hlen)) ⟨ea, eb, ?_⟩
      rw [show a.toArray ++ b.toArray = (a ++ b).toArray by simp]
      refine ⟨V.ref _, _, I.lnew (t' := s.toks) (ra.append rb) ?_, rfl, fin.newL l (rp.append rq) _ I.fresh⟩
      rw [List.length_append]; exact hlen
    · cases hr
  · rename_i xs ys
    split at hr
    · rename_i hz
      cases hr
      obtain ⟨p, vs, rfl, hp, rp⟩ := ox.tuple l
      obtain ⟨q, ws, rfl, hq, rq⟩ := oy.tuple l
      refine L2.op_catA pins s σ H _ _ v u Q I rx ry ⟨p, q, vs, ws, rfl, rfl, hp, hq, by rw [← lim_line, ← rp.length, ← rq.length]; exact hz, fun e => ?_, fun _ e => ?_, fun _ _ w hw => fin.newT l (rp.append rq) w hw⟩
      · have : xs = [] := List.length_eq_zero_iff.mp (by rw [rp.length, e]; rfl)
        subst this
        rcases oy with oy | oy
        · exact fin.val l (by simpa using oy)
        · exact oy.elim
      · have : ys = [] := List.length_eq_zero_iff.mp (by rw [rq.length, e]; rfl)
        subst this
        rcases ox with ox | ox
        · exact fin.val l (by simpa using ox)
        · exact ox.elim
    · cases hr
theorem ok_sub : L2.OpR X (binaryOp .Sub) (rB X.K .sub) := by
  intro pins s σ H x y v u Q I rx ry h
  obtain ⟨F, d, e, r, l, ox, oy, hr, fin⟩ := h
  cases d <;> cases e <;> simp only [binD, Option.some.injEq, reduceCtorEq] at hr
  rename_i i j
  subst hr
  exact L2.op_sub pins s σ H x y v u Q I rx ry ⟨i, j, ox.int, oy.int, fin.val l (.int _)⟩
theorem ok_mul : L2.OpR X (binaryOp .Mult) (rB X.K .mul) := by
  intro pins s σ H x y v u Q I rx ry h
  obtain ⟨F, d, e, r, l, ox, oy, hr, fin⟩ := h
  cases d <;> cases e <;> simp only [binD, Option.some.injEq, reduceCtorEq] at hr
  · rename_i i j
    split at hr
    · rename_i hz
      cases hr
      exact L2.op_mulW pins s σ H x y v u Q I rx ry ⟨i, j, ox.int, oy.int, (show i.natAbs.log2 + j.natAbs.log2 < 1000000 from of_decide_eq_true hz), fin.val l (.int _)⟩
    · cases hr
  · rename_i xs k
    split at hr
    · rename_i hz
      cases hr
      rw [Bool.and_eq_true] at hz
      obtain ⟨hz1, hz2⟩ := hz
      unfold rngOk at hz1
      rw [Bool.and_eq_true] at hz1
      have h1 := of_decide_eq_true hz1.1
      have h2 := of_decide_eq_true hz1.2
      have h3 := of_decide_eq_true hz2
      obtain ⟨p, vs, rfl, hp, rp⟩ := ox.list l
      have hy := oy.int
      subst hy
      cases rx
      obtain ⟨t, rfl⟩ := ry
      obtain ⟨z, a, n, dd, sl, ra, la, ea⟩ := Inv.readL I hp
      have hlen : a.toArray.size * k.toNat ≤ sizeLine := by rw [List.size_toArray, ← la, ← rp.length, ← lim_line]; exact h3
      have hcap : ¬ a.toArray.size * k.toNat > (2 ^ 63 - 1) / 8 := by
        have : (sizeLine : Nat) ≤ (2 ^ 63 - 1) / 8 := by decide
        omega
      have hfit : ¬ (!Builtin.List.listFitsIndex k) = true := by
        rw [PySem.fitsIndex_both (by omega) (by omega)]; exact Bool.false_ne_true
      have hlong : ¬ Builtin.List.listTooLong (a.toArray.size * k.toNat) = true := by
        rw [L2.notLongL hlen]; exact Bool.false_ne_true
      have hnew : List.foldl (fun x1 x2 => x1 ++ x2) #[] (List.replicate (if a.toArray.isEmpty = true then 0 else k.toNat) a.toArray) = (List.replicate k.toNat a).flatten.toArray := by
        have f0 : ∀ m : Nat, List.foldl (fun x1 x2 => x1 ++ x2) #[] (List.replicate m a.toArray) = (List.replicate m a).flatten.toArray := fun m => by
          simpa using L2.foldl_rep a m []
        rw [f0]
        cases a with
        | nil => simp
        | cons b r' => rw [if_neg (by simp)]
      have typed : ∀ s', Shared.TypeIs s' (.int k t) "int" := fun s' => typeIs_int s' k t
      refine wpAny_binaryOp_repeat_ref (T := "list") (U := "int") (by decide) ⟨_, ea, rfl⟩ typed noFill_list_mul PySem.F.fills_int_mul PySem.F.slot_int_rmul repeat_list PySem.F.slot_int_index.lookup
        (call_meets PySem.F.slot_int_rmul (typed s) PySem.F.entry_int_rmul (PySem.F.args_int_rmul_2 _ _) (PySem.lm_int_rmul_list_any k t p a.toArray n dd sl) ⟨ea, rfl, ⟨_, ea, rfl⟩, ?_⟩)
      refine call_meets PySem.F.slot_list_mul ⟨_, ea, rfl⟩ PySem.F.entry_list_mul (PySem.F.args_list_mul_2 _ _) (PySem.lm_list_mul_any p a.toArray n dd sl k t hfit hcap hlong) ⟨ea, ?_⟩
      rw [hnew]
      refine ⟨V.ref _, _, I.lnew (t' := s.toks) (ra.rep k.toNat) ?_, rfl, fin.newL l (rp.rep k.toNat) _ I.fresh⟩
      rw [PyProof.Rows.lm_len_rep_flat, Nat.mul_comm, ← rp.length, ← lim_line]; exact h3
    · cases hr
theorem ok_fdiv : L2.OpR X (binaryOp .FloorDiv) (rB X.K .fdiv) := by
  intro pins s σ H x y v u Q I rx ry h
  obtain ⟨F, d, e, r, l, ox, oy, hr, fin⟩ := h
  cases d <;> cases e <;> simp only [binD, Option.some.injEq, reduceCtorEq] at hr
  rename_i i j
  split at hr
  · rename_i hz
    cases hr
    unfold divOk at hz
    rw [Bool.and_eq_true] at hz
    cases ox.int
    cases oy.int
    obtain ⟨t, rfl⟩ := rx
    obtain ⟨t', rfl⟩ := ry
    exact floordiv_int (of_decide_eq_true hz.1) ⟨.int _, H, I.tok _, ⟨_, rfl⟩, fin.val l (.int _)⟩ (.inl (PyProof.noPylong_of_log2 (of_decide_eq_true hz.2)))
  · cases hr
theorem ok_mod : L2.OpR X (binaryOp .Mod) (rB X.K .mod) := by
  intro pins s σ H x y v u Q I rx ry h
  obtain ⟨F, d, e, r, l, ox, oy, hr, fin⟩ := h
  cases d <;> cases e <;> simp only [binD, Option.some.injEq, reduceCtorEq] at hr
  rename_i i j
  split at hr
  · rename_i hz
    cases hr
    exact L2.op_mod pins s σ H x y v u Q I rx ry ⟨i, j, ox.int, oy.int, hz, fin.val l (.int _)⟩
  · cases hr
theorem ok_pow : L2.OpR X (binaryOp .Pow) (rB X.K .pow) := by
  intro pins s σ H x y v u Q I rx ry h
  obtain ⟨F, d, e, r, l, ox, oy, hr, fin⟩ := h
  cases d <;> cases e <;> simp only [binD, Option.some.injEq, reduceCtorEq] at hr
  rename_i i j
  split at hr
  · rename_i hz
    cases hr
    rw [Bool.and_eq_true, Bool.and_eq_true] at hz
    exact L2.op_pow pins s σ H x y v u Q I rx ry ⟨i, j, ox.int, oy.int, ⟨of_decide_eq_true hz.1.1, of_decide_eq_true hz.1.2, of_decide_eq_true hz.2⟩, fin.val l (.int _)⟩
  · cases hr
end
end Pv
end
section
/-! Pv5: comparisons, truth, items, slices, by value. -/
namespace Pv
open PySem PySem.Spec PyProof.Rows
open L2 (V Hp HO SqL SqT upd upd_same upd_ne VK TE TA Cx PE PA PT Inv Same Vals RelV EP)
def rC (K : Frag) (o : Cop) : L2.R2 := fun x y H Q => ∃ F d e b, Le F H ∧ OR K F H d x ∧ OR K F H e y ∧ cmpD o d e = some b ∧ Q (.bl b) H
section
variable {X : Cx}
theorem ok_eq (hu : X.A.units + 64 < cLine) : L2.OpR X (compareOp .Eq) (rC X.K .eq) := by
  intro pins s σ H x y v u Q I rx ry h
  obtain ⟨F, d, e, b, l, ox, oy, hb, q⟩ := h
  simp only [cmpD] at hb
  split at hb
  · rename_i hz
    rw [Bool.and_eq_true] at hz
    cases hb
    exact L2.op_eqD hu pins s σ H x y v u Q I rx ry ⟨d, e, ox.dp l, oy.dp l, hz.1, hz.2, q⟩
  · cases hb
theorem ok_ne (hu : X.A.units + 64 < cLine) : L2.OpR X (compareOp .NotEq) (rC X.K .ne) := by
  intro pins s σ H x y v u Q I rx ry h
  obtain ⟨F, d, e, b, l, ox, oy, hb, q⟩ := h
  simp only [cmpD] at hb
  split at hb
  · rename_i hz
    rw [Bool.and_eq_true] at hz
    cases hb
    exact L2.op_neD hu pins s σ H x y v u Q I rx ry ⟨d, e, ox.dp l, oy.dp l, hz.1, hz.2, q⟩
  · cases hb
theorem ok_lt (hu : X.A.units < cLine) : L2.OpR X (compareOp .Lt) (rC X.K .lt) := by
  intro pins s σ H x y v u Q I rx ry h
  obtain ⟨F, d, e, b, l, ox, oy, hb, q⟩ := h
  simp only [cmpD] at hb
  cases d <;> cases e <;> simp only [ltD, Option.some.injEq, reduceCtorEq] at hb
  · rename_i i j
    subst hb
    exact L2.op_lt pins s σ H x y v u Q I rx ry ⟨i, j, ox.int, oy.int, q⟩
  · rename_i xs ys
    split at hb
    · rename_i a c e1 e2
      cases hb
      obtain ⟨p, vs, rfl, hp, rp⟩ := ox.tuple l
      obtain ⟨p', ws, rfl, hq, rq⟩ := oy.tuple l
      have h1 := rp.ints e1
      have h2 := rq.ints e2
      subst h1; subst h2
      exact L2.op_ltT hu pins s σ H _ _ v u Q I rx ry ⟨p, p', a, c, rfl, rfl, hp, hq, q⟩
    · cases hb
theorem ok_le : L2.OpR X (compareOp .LtE) (rC X.K .le) := by
  intro pins s σ H x y v u Q I rx ry h
  obtain ⟨F, d, e, b, l, ox, oy, hb, q⟩ := h
  cases d <;> cases e <;> simp only [cmpD, Option.some.injEq, reduceCtorEq] at hb
  rename_i i j
  subst hb
  exact L2.op_le pins s σ H x y v u Q I rx ry ⟨i, j, ox.int, oy.int, q⟩
theorem ok_gt : L2.OpR X (compareOp .Gt) (rC X.K .gt) := by
  intro pins s σ H x y v u Q I rx ry h
  obtain ⟨F, d, e, b, l, ox, oy, hb, q⟩ := h
  cases d <;> cases e <;> simp only [cmpD, Option.some.injEq, reduceCtorEq] at hb
  rename_i i j
  subst hb
  exact L2.op_gt pins s σ H x y v u Q I rx ry ⟨i, j, ox.int, oy.int, q⟩
theorem ok_ge : L2.OpR X (compareOp .GtE) (rC X.K .ge) := by
  intro pins s σ H x y v u Q I rx ry h
  obtain ⟨F, d, e, b, l, ox, oy, hb, q⟩ := h
  cases d <;> cases e <;> simp only [cmpD, Option.some.injEq, reduceCtorEq] at hb
  rename_i i j
  subst hb
  exact L2.op_ge pins s σ H x y v u Q I rx ry ⟨i, j, ox.int, oy.int, q⟩
theorem ok_in (hu : X.A.units + 65 < cLine) : L2.OpR X (compareOp .In) (rC X.K .isin) := by
  intro pins s σ H x y v u Q I rx ry h
  obtain ⟨F, d, e, b, l, ox, oy, hb, q⟩ := h
  simp only [cmpD] at hb
  cases e <;> simp only [inD, reduceCtorEq] at hb
  · rename_i ys
    split at hb
    · rename_i hz
      rw [Bool.and_eq_true] at hz
      cases hb
      exact L2.op_inD hu pins s σ H x y v u Q I rx ry ⟨d, ys, ox.dp l, oy.dp l, hz.1, hz.2, q⟩
    · cases hb
  · rename_i ys
    split at hb
    · rename_i hz
      rw [Bool.and_eq_true] at hz
      cases hb
      obtain ⟨as, r1⟩ := L2.Dp.reads I d x v (ox.dp l) rx
      obtain ⟨bs, r2⟩ := L2.Dp.reads I (.tuple ys) y u (oy.dp l) ry
      exact SeqAt.in_tuple_reads r2 r1 (SeqAt.canLay_of_shaped hz.2) (SeqAt.canLay_of_shaped hz.1) (room_in_shaped hz.1 hu) ⟨.bl _, H, I, rfl, q⟩
    · cases hb
theorem ok_notin (hu : X.A.units + 65 < cLine) : L2.OpR X (compareOp .NotIn) (rC X.K .notin) := by
  intro pins s σ H x y v u Q I rx ry h
  obtain ⟨F, d, e, b, l, ox, oy, hb, q⟩ := h
  simp only [cmpD] at hb
  cases e <;> simp only [inD, Option.map_none, reduceCtorEq] at hb
  · rename_i ys
    split at hb
    · rename_i hz
      rw [Bool.and_eq_true] at hz
      simp only [Option.map_some, Option.some.injEq] at hb
      subst hb
      exact L2.op_notInD hu pins s σ H x y v u Q I rx ry ⟨d, ys, ox.dp l, oy.dp l, hz.1, hz.2, q⟩
    · cases hb
  · rename_i ys
    split at hb
    · rename_i hz
      rw [Bool.and_eq_true] at hz
      simp only [Option.map_some, Option.some.injEq] at hb
      subst hb
      obtain ⟨as, r1⟩ := L2.Dp.reads I d x v (ox.dp l) rx
      obtain ⟨bs, r2⟩ := L2.Dp.reads I (.tuple ys) y u (oy.dp l) ry
      exact SeqAt.notIn_tuple_reads r2 r1 (SeqAt.canLay_of_shaped hz.2) (SeqAt.canLay_of_shaped hz.1) (room_in_shaped hz.1 hu) ⟨.bl _, H, I, rfl, q⟩
    · cases hb
theorem is_bool_gen {M : Model} {A : Around} {E : Value → Shared → Prop} {s : Shared} {Q : Value → Shared → Prop} {x : V} {v : Value} {b : Bool} (r : RelV x v) (h : Q (.bool (v == .bool b)) s) : wpAny M A (compareOp .Is v (.bool b)) Q E s := by
  cases x <;> first | (cases r; exact wpAny_pure h) | (obtain ⟨t, rfl⟩ := r; exact wpAny_pure h)
theorem isnot_bool_gen {M : Model} {A : Around} {E : Value → Shared → Prop} {s : Shared} {Q : Value → Shared → Prop} {x : V} {v : Value} {b : Bool} (r : RelV x v) (h : Q (.bool (!(v == .bool b))) s) : wpAny M A (compareOp .IsNot v (.bool b)) Q E s := by
  cases x <;> first | (cases r; exact wpAny_pure h) | (obtain ⟨t, rfl⟩ := r; exact wpAny_pure h)
theorem OR.is_none {K : Frag} {F H : Hp} {d : D} {x : V} {v : Value} (o : OR K F H d x) (r : RelV x v) : (v == Value.none) = isNon d := by
  rcases o with o | o
  · cases o with
    | non => cases r; rfl
    | bl b => cases r; rfl
    | int i => obtain ⟨t, rfl⟩ := r; rfl
    | str i => obtain ⟨t, rfl⟩ := r; rfl
    | lst _ _ => cases r; rfl
    | tup _ _ => cases r; rfl
  · cases d with
    | list xs => obtain ⟨p, vs, rfl, _⟩ := o; cases r; rfl
    | _ => exact o.elim
theorem OR.is_bool {K : Frag} {F H : Hp} {d : D} {x : V} {v : Value} {b : Bool} (o : OR K F H d x) (r : RelV x v) : (v == Value.bool b) = isBo b d := by
  rcases o with o | o
  · cases o with
    | non => cases r; rfl
    | bl c => cases r; cases c <;> cases b <;> rfl
    | int i => obtain ⟨t, rfl⟩ := r; rfl
    | str i => obtain ⟨t, rfl⟩ := r; rfl
    | lst _ _ => cases r; rfl
    | tup _ _ => cases r; rfl
  · cases d with
    | list xs => obtain ⟨p, vs, rfl, _⟩ := o; cases r; rfl
    | _ => exact o.elim
theorem ok_is : L2.OpR X (compareOp .Is) (rC X.K .is) := by
  intro pins s σ H x y v u Q I rx ry h
  obtain ⟨F, d, e, b, l, ox, oy, hb, q⟩ := h
  cases e <;> simp only [cmpD, reduceCtorEq, Option.some.injEq] at hb
  · have hy := oy.none
    subst hy
    cases ry
    exact is_none_gen ⟨.bl _, H, I, by rw [ox.is_none rx, hb]; rfl, q⟩
  · have hy := oy.bool
    subst hy
    cases ry
    exact is_bool_gen rx ⟨.bl _, H, I, by rw [ox.is_bool rx, hb]; rfl, q⟩
theorem ok_isnot : L2.OpR X (compareOp .IsNot) (rC X.K .isnot) := by
  intro pins s σ H x y v u Q I rx ry h
  obtain ⟨F, d, e, b, l, ox, oy, hb, q⟩ := h
  cases e <;> simp only [cmpD, reduceCtorEq, Option.some.injEq] at hb
  · have hy := oy.none
    subst hy
    cases ry
    refine isnot_none_gen ⟨.bl b, H, I, ?_, q⟩
    rw [ox.is_none rx, hb]; rfl
  · have hy := oy.bool
    subst hy
    cases ry
    refine isnot_bool_gen rx ⟨.bl b, H, I, ?_, q⟩
    rw [ox.is_bool rx, hb]; rfl
def cmpOp : Cop → CmpOp
  | .eq => .Eq | .ne => .NotEq | .lt => .Lt | .le => .LtE | .gt => .Gt | .ge => .GtE | .isin => .In | .notin => .NotIn | .is => .Is | .isnot => .IsNot
theorem ok_cmp (hu : X.A.units + 65 < cLine) (o : Cop) : L2.OpR X (compareOp (cmpOp o)) (rC X.K o) := by
  cases o
  · exact ok_eq (by omega)
  · exact ok_ne (by omega)
  · exact ok_lt (by omega)
  · exact ok_le
  · exact ok_gt
  · exact ok_ge
  · exact ok_in hu
  · exact ok_notin hu
  · exact ok_is
  · exact ok_isnot
def binOp : Bop → Operator
  | .add => .Add | .sub => .Sub | .mul => .Mult | .fdiv => .FloorDiv | .mod => .Mod | .pow => .Pow
theorem ok_bin (o : Bop) : L2.OpR X (binaryOp (binOp o)) (rB X.K o) := by
  cases o
  · exact ok_add
  · exact ok_sub
  · exact ok_mul
  · exact ok_fdiv
  · exact ok_mod
  · exact ok_pow

/-! ### truth -/
theorem OR.tru {F H : Hp} {d : D} {x : V} {b : Bool} {K : Frag} (l : Le F H) (o : OR K F H d x) (h : truD d = some b) : L2.TruV K x H b := by
  cases d with
  | none => cases o.none; simp [truD] at h; subst h; rfl
  | bool c => cases o.bool; simp [truD] at h; subst h; rfl
  | int i => cases o.int; simp [truD] at h; subst h; rfl
  | str z =>
    cases o.str
    simp only [truD] at h
    split at h
    · rename_i hz
      cases h
      exact ⟨by rw [← lim_line]; exact hz, rfl⟩
    · cases h
  | list xs =>
    obtain ⟨p, vs, rfl, hp, r⟩ := o.list l
    simp [truD] at h
    refine .inl ⟨vs, hp, ?_⟩
    rw [show vs.isEmpty = xs.isEmpty by cases r <;> rfl, h]; simp
  | tuple xs =>
    obtain ⟨p, vs, rfl, hp, r⟩ := o.tuple l
    simp [truD] at h
    refine .inr (.inl ⟨vs, hp, ?_⟩)
    rw [show vs.isEmpty = xs.isEmpty by cases r <;> rfl, h]; simp
  | dict _ => simp [truD] at h

/-! ### items, slices -/
theorem VRs.atI {K : Frag} {F : Hp} {ds : List D} {vs : List V} {i : Int} {d : D} (r : VRs K F ds vs) (h : L2.atI ds i = some d) : ∃ v, L2.atI vs i = some v ∧ VR K F d v := by
  unfold L2.atI at h ⊢
  rw [r.length] at h
  cases e : L2.ixN vs.length i with
  | none => rw [e] at h; cases h
  | some j =>
    rw [e] at h
    exact r.get h
def rS (K : Frag) : L2.R2 := fun x y H Q => ∃ F d e r, Le F H ∧ OR K F H d x ∧ OR K F H e y ∧ subD d e = some r ∧ ∀ v, VR K F r v → Q v H
theorem ok_sub_ : L2.IxR X (rS X.K) := by
  have base := L2.ix_seq (X := X)
  intro value slice pins s σ H x y v u Q I rx ry h hsub
  obtain ⟨F, d, e, r, l, ox, oy, hr, fin⟩ := h
  refine base value slice pins s σ H x y v u Q I rx ry ?_ hsub
  cases d <;> cases e <;> simp only [subD, reduceCtorEq] at hr
  · rename_i z i
    split at hr
    · rename_i hz
      simp only [Option.map_eq_some_iff] at hr
      obtain ⟨c, e1, e2⟩ := hr
      subst e2
      exact .inr (.inr ⟨z, i, c, ox.str, oy.int, by rw [← lim_line]; exact hz, e1, fin _ (.str _)⟩)
    · cases hr
  · rename_i xs i
    obtain ⟨p, vs, rfl, hp, rp⟩ := ox.list l
    obtain ⟨w, e1, e2⟩ := rp.atI hr
    exact .inl ⟨p, vs, i, w, rfl, oy.int, hp, e1, fin _ e2⟩
  · rename_i xs i
    obtain ⟨p, vs, rfl, hp, rp⟩ := ox.tuple l
    obtain ⟨w, e1, e2⟩ := rp.atI hr
    exact .inr (.inl ⟨p, vs, i, w, rfl, oy.int, hp, e1, fin _ e2⟩)
theorem VRs.cut {K : Frag} {F : Hp} {ds : List D} {vs : List V} (r : VRs K F ds vs) (lo hi : Option Int) : VRs K F (cutD ds lo hi) (L2.cutV vs lo hi) := by
  unfold cutD L2.cutV
  rw [r.length]
  exact (r.drop _).take _
def rSl (K : Frag) : V → Option Int → Option Int → Hp → VK → Prop := fun x lo hi H Q => ∃ F d r, Le F H ∧ OR K F H d x ∧ sliD d lo hi = some r ∧ Fin K F H r Q
theorem cut_whole {α : Type} (xs : List α) : (xs.drop 0).take (xs.length - 0) = xs := by simp
theorem ok_sli : L2.SlR X (rSl X.K) := by
  have base := (L2.sl_list (X := X)).or (L2.sl_tupA (X := X))
  intro pins s σ H x v vl vu lo hi sl Q I rx hs pl pu h
  obtain ⟨F, d, r, l, ox, hr, fin⟩ := h
  refine base pins s σ H x v vl vu lo hi sl Q I rx hs pl pu ?_
  cases d <;> simp only [sliD, reduceCtorEq, Option.some.injEq] at hr
  · subst hr
    obtain ⟨p, vs, rfl, hp, rp⟩ := ox.list l
    exact .inl ⟨p, vs, rfl, hp, fun q n => fin.newL l (rp.cut lo hi) q n⟩
  · rename_i xs
    subst hr
    obtain ⟨p, vs, rfl, hp, rp⟩ := ox.tuple l
    refine .inr ⟨p, vs, rfl, hp, fun hw => ?_, fun _ q n => fin.newT l (rp.cut lo hi) q n⟩
    have e : cutD xs lo hi = xs := by
      unfold cutD
      rw [rp.length, hw.1, hw.2, ← rp.length]
      exact cut_whole xs
    rw [e] at fin
    rcases ox with ox | ox
    · exact fin.val l ox
    · exact ox.elim
end
end Pv
end
section
/-! Pv6: built-in functions, methods, by value. -/
namespace Pv
open PySem PySem.Spec PyProof.Rows
open L2 (V Hp HO SqL SqT upd upd_same upd_ne VK TE TA Cx PE PA PT Inv Same Vals RelV EP CallR MtR MtM)
section
variable {K : Frag} {F H : Hp}
theorem ORs.one {d : D} {vs : List V} (h : ORs K F H [d] vs) : ∃ v, vs = [v] ∧ OR K F H d v := by
  cases h with
  | cons r t => cases t; exact ⟨_, rfl, r⟩
theorem ORs.two {d e : D} {vs : List V} (h : ORs K F H [d, e] vs) : ∃ v w, vs = [v, w] ∧ OR K F H d v ∧ OR K F H e w := by
  cases h with
  | cons r t =>
    cases t with
    | cons q t => cases t; exact ⟨_, _, rfl, r, q⟩
end
def rBi (K : Frag) (b : Bi) : List V → Hp → VK → Prop := fun vs H Q => ∃ F ds r, Le F H ∧ ORs K F H ds vs ∧ biD b ds = some r ∧ Fin K F H r Q
section
variable {X : Cx}
theorem ok_len : CallR X (.builtin "len") (rBi X.K .len) := by
  have base := L2.CallR.or (L2.call_len_seq (X := X)) (L2.call_len_str (X := X))
  intro pins s σ H vs us Q I r h
  obtain ⟨F, ds, r', l, os, hr, fin⟩ := h
  refine base pins s σ H vs us Q I r ?_
  match ds, hr with
  | [.list xs], hr =>
    cases hr
    obtain ⟨v, rfl, o⟩ := os.one
    obtain ⟨p, ws, rfl, hp, rp⟩ := o.list l
    exact .inl ⟨p, ws, rfl, .inl hp, by rw [← rp.length]; exact fin.val l (.int _)⟩
  | [.tuple xs], hr =>
    cases hr
    obtain ⟨v, rfl, o⟩ := os.one
    obtain ⟨p, ws, rfl, hp, rp⟩ := o.tuple l
    exact .inl ⟨p, ws, rfl, .inr hp, by rw [← rp.length]; exact fin.val l (.int _)⟩
  | [.str x], hr =>
    simp only [biD] at hr
    split at hr
    · rename_i hz
      cases hr
      obtain ⟨v, rfl, o⟩ := os.one
      cases o.str
      exact .inr ⟨x, rfl, by rw [← lim_line]; exact hz, fin.val l (.int _)⟩
    · cases hr
  | [], hr => simp [biD] at hr
  | [.none], hr => simp [biD] at hr
  | [.bool _], hr => simp [biD] at hr
  | [.int _], hr => simp [biD] at hr
  | [.dict _], hr => simp [biD] at hr
  | _ :: _ :: _, hr => simp [biD] at hr
theorem ok_abs : CallR X (.builtin "abs") (rBi X.K .abs) := by
  intro pins s σ H vs us Q I r h
  obtain ⟨F, ds, r', l, os, hr, fin⟩ := h
  match ds, hr with
  | [.int i], hr =>
    cases hr
    obtain ⟨v, rfl, o⟩ := os.one
    cases o.int
    refine L2.call_abs pins s σ H _ us Q I r ⟨i, rfl, ?_⟩
    rw [show (if i < 0 then -i else i) = (i.natAbs : Int) by split <;> omega]
    exact fin.val l (.int _)
  | [], hr => simp [biD] at hr
  | [.none], hr => simp [biD] at hr
  | [.bool _], hr => simp [biD] at hr
  | [.str _], hr => simp [biD] at hr
  | [.list _], hr => simp [biD] at hr
  | [.tuple _], hr => simp [biD] at hr
  | [.dict _], hr => simp [biD] at hr
  | _ :: _ :: _, hr => simp [biD] at hr
theorem ok_int : CallR X (.type "int") (rBi X.K .int) := by
  intro pins s σ H vs us Q I r h
  obtain ⟨F, ds, r', l, os, hr, fin⟩ := h
  match ds, hr with
  | [.int i], hr =>
    cases hr
    obtain ⟨v, rfl, o⟩ := os.one
    cases o.int
    exact L2.call_int1 pins s σ H _ us Q I r (.inl ⟨i, rfl, fin.val l (.int _)⟩)
  | [.bool b], hr =>
    cases hr
    obtain ⟨v, rfl, o⟩ := os.one
    cases o.bool
    exact L2.call_int1 pins s σ H _ us Q I r (.inr ⟨b, rfl, fin.val l (.int _)⟩)
  | [], hr => simp [biD] at hr
  | [.none], hr => simp [biD] at hr
  | [.str _], hr => simp [biD] at hr
  | [.list _], hr => simp [biD] at hr
  | [.tuple _], hr => simp [biD] at hr
  | [.dict _], hr => simp [biD] at hr
  | _ :: _ :: _, hr => simp [biD] at hr
theorem list_only {b : Bi} {f : List D → Option R} (hb : b = .sum ∨ b = .any ∨ b = .all ∨ b = .sorted) {ds : List D} {r : R} (hr : biD b ds = some r) : ∃ xs, ds = [.list xs] := by
  match ds, hr with
  | [.list xs], _ => exact ⟨xs, rfl⟩
  | [], hr => rcases hb with rfl | rfl | rfl | rfl <;> simp [biD] at hr
  | [.none], hr => rcases hb with rfl | rfl | rfl | rfl <;> simp [biD] at hr
  | [.bool _], hr => rcases hb with rfl | rfl | rfl | rfl <;> simp [biD] at hr
  | [.int _], hr => rcases hb with rfl | rfl | rfl | rfl <;> simp [biD] at hr
  | [.str _], hr => rcases hb with rfl | rfl | rfl | rfl <;> simp [biD] at hr
  | [.tuple _], hr => rcases hb with rfl | rfl | rfl | rfl <;> simp [biD] at hr
  | [.dict _], hr => rcases hb with rfl | rfl | rfl | rfl <;> simp [biD] at hr
  | _ :: _ :: _, hr => rcases hb with rfl | rfl | rfl | rfl <;> simp [biD] at hr
theorem ok_sum (hc : X.calm = true) : CallR X (.builtin "sum") (rBi X.K .sum) := by
  intro pins s σ H vs us Q I r h
  obtain ⟨F, ds, r', l, os, hr, fin⟩ := h
  obtain ⟨xs, rfl⟩ := list_only (f := fun _ => none) (.inl rfl) hr
  simp only [biD, Option.map_eq_some_iff] at hr
  obtain ⟨ns, e1, e2⟩ := hr
  subst e2
  obtain ⟨v, rfl, o⟩ := os.one
  obtain ⟨p, ws, rfl, hp, rp⟩ := o.list l
  have e := rp.ints e1
  subst e
  exact L2.cr_sum hc pins s σ H _ us Q I r ⟨p, ns, rfl, hp, fin.val l (.int _)⟩
theorem ok_any (hc : X.calm = true) : CallR X (.builtin "any") (rBi X.K .any) := by
  intro pins s σ H vs us Q I r h
  obtain ⟨F, ds, r', l, os, hr, fin⟩ := h
  obtain ⟨xs, rfl⟩ := list_only (f := fun _ => none) (.inr (.inl rfl)) hr
  simp only [biD, Option.map_eq_some_iff] at hr
  obtain ⟨ns, e1, e2⟩ := hr
  subst e2
  obtain ⟨v, rfl, o⟩ := os.one
  obtain ⟨p, ws, rfl, hp, rp⟩ := o.list l
  have e := rp.bools e1
  subst e
  exact L2.cr_any hc pins s σ H _ us Q I r ⟨p, ns, rfl, hp, fin.val l (.bl _)⟩
theorem ok_all (hc : X.calm = true) : CallR X (.builtin "all") (rBi X.K .all) := by
  intro pins s σ H vs us Q I r h
  obtain ⟨F, ds, r', l, os, hr, fin⟩ := h
  obtain ⟨xs, rfl⟩ := list_only (f := fun _ => none) (.inr (.inr (.inl rfl))) hr
  simp only [biD, Option.map_eq_some_iff] at hr
  obtain ⟨ns, e1, e2⟩ := hr
  subst e2
  obtain ⟨v, rfl, o⟩ := os.one
  obtain ⟨p, ws, rfl, hp, rp⟩ := o.list l
  have e := rp.bools e1
  subst e
  exact L2.cr_all hc pins s σ H _ us Q I r ⟨p, ns, rfl, hp, fin.val l (.bl _)⟩
theorem two_ints {b : Bi} (hb : b = .max ∨ b = .min ∨ b = .gcd) {ds : List D} {r : R} (hr : biD b ds = some r) : ∃ i j, ds = [.int i, .int j] := by
  match ds, hr with
  | [.int i, .int j], _ => exact ⟨i, j, rfl⟩
  | [], hr => rcases hb with rfl | rfl | rfl <;> simp [biD] at hr
  | [_], hr => rcases hb with rfl | rfl | rfl <;> simp [biD] at hr
  | _ :: _ :: _ :: _, hr => rcases hb with rfl | rfl | rfl <;> simp [biD] at hr
  | [d, e], hr =>
    cases d <;> cases e <;> first | exact ⟨_, _, rfl⟩ | (exfalso; rcases hb with rfl | rfl | rfl <;> simp [biD] at hr)
theorem ok_max (hc : X.calm = true) : CallR X (.builtin "max") (rBi X.K .max) := by
  intro pins s σ H vs us Q I r h
  obtain ⟨F, ds, r', l, os, hr, fin⟩ := h
  obtain ⟨i, j, rfl⟩ := two_ints (.inl rfl) hr
  cases hr
  obtain ⟨v, w, rfl, o1, o2⟩ := os.two
  cases o1.int
  cases o2.int
  refine L2.call_max2 hc pins s σ H _ us Q I r ⟨i, j, rfl, ?_⟩
  rw [show (if j > i then j else i) = max i j by split <;> omega]
  exact fin.val l (.int _)
theorem ok_min (hc : X.calm = true) : CallR X (.builtin "min") (rBi X.K .min) := by
  intro pins s σ H vs us Q I r h
  obtain ⟨F, ds, r', l, os, hr, fin⟩ := h
  obtain ⟨i, j, rfl⟩ := two_ints (.inr (.inl rfl)) hr
  cases hr
  obtain ⟨v, w, rfl, o1, o2⟩ := os.two
  cases o1.int
  cases o2.int
  refine L2.call_min2 hc pins s σ H _ us Q I r ⟨i, j, rfl, ?_⟩
  rw [show (if j < i then j else i) = min i j by split <;> omega]
  exact fin.val l (.int _)
theorem ok_gcd : CallR X (.builtin "math.gcd") (rBi X.K .gcd) := by
  intro pins s σ H vs us Q I r h
  obtain ⟨F, ds, r', l, os, hr, fin⟩ := h
  obtain ⟨i, j, rfl⟩ := two_ints (.inr (.inr rfl)) hr
  cases hr
  obtain ⟨v, w, rfl, o1, o2⟩ := os.two
  cases o1.int
  cases o2.int
  exact L2.cr_gcd pins s σ H _ us Q I r ⟨i, j, rfl, fin.val l (.int _)⟩
theorem one_seq {b : Bi} (hb : b = .list ∨ b = .tuple) {ds : List D} {r : R} (hr : biD b ds = some r) : (∃ xs, ds = [.list xs]) ∨ ∃ xs, ds = [.tuple xs] := by
  match ds, hr with
  | [.list xs], _ => exact .inl ⟨xs, rfl⟩
  | [.tuple xs], _ => exact .inr ⟨xs, rfl⟩
  | [], hr => rcases hb with rfl | rfl <;> simp [biD] at hr
  | [.none], hr => rcases hb with rfl | rfl <;> simp [biD] at hr
  | [.bool _], hr => rcases hb with rfl | rfl <;> simp [biD] at hr
  | [.int _], hr => rcases hb with rfl | rfl <;> simp [biD] at hr
  | [.str _], hr => rcases hb with rfl | rfl <;> simp [biD] at hr
  | [.dict _], hr => rcases hb with rfl | rfl <;> simp [biD] at hr
  | _ :: _ :: _, hr => rcases hb with rfl | rfl <;> simp [biD] at hr
theorem ok_list : CallR X (.type "list") (rBi X.K .list) := by
  intro pins s σ H vs us Q I r h
  obtain ⟨F, ds, r', l, os, hr, fin⟩ := h
  rcases one_seq (.inl rfl) hr with ⟨xs, rfl⟩ | ⟨xs, rfl⟩
  · cases hr
    obtain ⟨v, rfl, o⟩ := os.one
    obtain ⟨p, ws, rfl, hp, rp⟩ := o.list l
    exact L2.call_list_of pins s σ H _ us Q I r ⟨p, ws, rfl, .inl hp, fun q n => fin.newL l rp q n⟩
  · cases hr
    obtain ⟨v, rfl, o⟩ := os.one
    obtain ⟨p, ws, rfl, hp, rp⟩ := o.tuple l
    exact L2.call_list_of pins s σ H _ us Q I r ⟨p, ws, rfl, .inr hp, fun q n => fin.newL l rp q n⟩
theorem ok_tuple : CallR X (.type "tuple") (rBi X.K .tuple) := by
  intro pins s σ H vs us Q I r h
  obtain ⟨F, ds, r', l, os, hr, fin⟩ := h
  rcases one_seq (.inr rfl) hr with ⟨xs, rfl⟩ | ⟨xs, rfl⟩
  · cases hr
    obtain ⟨v, rfl, o⟩ := os.one
    obtain ⟨p, ws, rfl, hp, rp⟩ := o.list l
    exact L2.call_tuple_of pins s σ H _ us Q I r ⟨p, ws, rfl, .inl ⟨hp, fun q n => fin.newT l rp q n⟩⟩
  · cases hr
    obtain ⟨v, rfl, o⟩ := os.one
    rcases o with o | o
    · have o' := o
      cases o with
      | tup hp rp => exact L2.call_tuple_of pins s σ H _ us Q I r ⟨_, _, rfl, .inr ⟨l.sqT hp, fin.val l o'⟩⟩
    · exact o.elim
theorem sortI_perm : ∀ ns : List Int, (sortI ns).Perm ns
  | [] => .nil
  | x :: r => by
    have ins : ∀ (l : List Int), (insI x l).Perm (x :: l) := fun l => by
      induction l with
      | nil => exact .refl _
      | cons y l ih =>
        unfold insI
        split
        · exact .refl _
        · exact (ih.cons y).trans (.swap x y l)
    exact (ins _).trans ((sortI_perm r).cons x)
theorem sortI_sorted : ∀ ns : List Int, (sortI ns).Pairwise (· ≤ ·)
  | [] => .nil
  | x :: r => by
    have mem : ∀ (l : List Int) z, z ∈ insI x l → z = x ∨ z ∈ l := fun l => by
      induction l with
      | nil => intro z h; simp [insI] at h; exact .inl h
      | cons y l ih =>
        intro z h
        unfold insI at h
        split at h
        · simpa using h
        · rcases List.mem_cons.mp h with rfl | h
          · exact .inr (List.mem_cons_self)
          · exact (ih z h).imp_right (List.mem_cons_of_mem _)
    have ins : ∀ (l : List Int), l.Pairwise (· ≤ ·) → (insI x l).Pairwise (· ≤ ·) := fun l => by
      induction l with
      | nil => intro _; exact List.pairwise_singleton _ _
      | cons y l ih =>
        intro h
        obtain ⟨h1, h2⟩ := List.pairwise_cons.mp h
        unfold insI
        split
        · rename_i hxy
          refine List.pairwise_cons.mpr ⟨fun z hz => ?_, h⟩
          rcases List.mem_cons.mp hz with rfl | hz
          · exact hxy
          · exact Int.le_trans hxy (h1 z hz)
        · rename_i hxy
          refine List.pairwise_cons.mpr ⟨fun z hz => ?_, ih h2⟩
          rcases mem l z hz with rfl | hz
          · omega
          · exact h1 z hz
    exact ins _ (sortI_sorted r)
theorem sorted_unique : ∀ {a b : List Int}, a.Perm b → a.Pairwise (· ≤ ·) → b.Pairwise (· ≤ ·) → a = b
  | [], b, p, _, _ => (List.nil_perm.mp p).symm
  | x :: a, [], p, _, _ => nomatch p.length_eq
  | x :: a, y :: b, p, ha, hb => by
    obtain ⟨a1, a2⟩ := List.pairwise_cons.mp ha
    obtain ⟨b1, b2⟩ := List.pairwise_cons.mp hb
    have e : x = y := by
      have h1 : x ∈ y :: b := p.subset List.mem_cons_self
      have h2 : y ∈ x :: a := p.symm.subset List.mem_cons_self
      rcases List.mem_cons.mp h1 with h1 | h1
      · exact h1
      · rcases List.mem_cons.mp h2 with h2 | h2
        · exact h2.symm
        · have := b1 x h1
          have := a1 y h2
          omega
    subst e
    rw [sorted_unique ((List.perm_cons x).mp p) a2 b2]
theorem intsOf_of {K : Frag} {F : Hp} : ∀ (ns : List Int), VRs K F (ns.map .int) (ns.map V.int)
  | [] => .nil
  | i :: r => .cons (.int i) (intsOf_of r)
theorem ok_sorted : CallR X (.builtin "sorted") (rBi X.K .sorted) := by
  intro pins s σ H vs us Q I r h
  obtain ⟨F, ds, r', l, os, hr, fin⟩ := h
  obtain ⟨xs, rfl⟩ := list_only (f := fun _ => none) (.inr (.inr (.inr rfl))) hr
  simp only [biD, Option.map_eq_some_iff] at hr
  obtain ⟨ns, e1, e2⟩ := hr
  subst e2
  obtain ⟨v, rfl, o⟩ := os.one
  obtain ⟨p, ws, rfl, hp, rp⟩ := o.list l
  have e := rp.ints e1
  subst e
  refine L2.cr_sortedI pins s σ H _ us Q I r ⟨p, ns, rfl, hp, fun ns' q pm so n => ?_⟩
  have e3 : ns' = sortI ns := sorted_unique (pm.trans (sortI_perm ns).symm) so (sortI_sorted ns)
  subst e3
  exact fin.newL l (intsOf_of _) q n
end
end Pv
end
section
/-! Pv7: methods that change a list. -/
namespace Pv
open PySem PySem.Spec PyProof.Rows
open L2 (V Hp HO SqL SqT upd upd_same upd_ne VK TE TA Cx PE PA PT Inv Same Vals RelV EP CallR MtR MtM)
/-- a list that a name alone holds is changed -/
theorem SR.mutate {K : Frag} {ρ : En} {F H : Hp} {σ : SS} {i : Nat} {p : Addr} {xs ys : List D} {vs ws : List V} (S : SR K ρ F σ H) (h : ρ[i]? = some (.own (.list xs))) (hs : σ[i]? = some (some (.ref p))) (hp : H p = some (.lst vs)) (hf : F p = none)
    (r : VRs K F ys ws) : Mid K σ ρ F H (ρ.set i (.own (.list ys))) F (upd H p (.lst ws)) := by
  have hi : i < ρ.length := (List.getElem?_eq_some_iff.mp h).1
  have own : Own ρ σ p := ⟨i, _, h, hs⟩
  have nset : ∀ (j : Nat) (d' : D), (ρ.set i (.own (.list ys)))[j]? = some (.own d') → ∃ e, ρ[j]? = some (.own e) := fun j d' hj => by
    by_cases ej : j = i
    · subst ej; exact ⟨_, h⟩
    · rw [List.getElem?_set_ne (Ne.symm ej)] at hj; exact ⟨_, hj⟩
  refine ⟨⟨S.sub.laidR hf, by rw [List.length_set]; exact S.len, fun j s hj => ?_, fun j k d e q hj hk h1 h2 => ?_⟩, ⟨Le.refl _, fun b o hb n => ?_, fun b o hb => .inl hb, fun b hb => ?_⟩, fun j d hj => nset j d hj⟩
  · by_cases ej : j = i
    · subst ej
      rw [List.getElem?_set_self hi] at hj; cases hj
      rw [hs]
      exact ⟨p, ws, rfl, upd_same, hf, r⟩
    · rw [List.getElem?_set_ne (Ne.symm ej)] at hj
      have q := S.slots j s hj
      cases s with
      | un => trivial
      | val d =>
        cases e : σ[j]?.getD none with
        | none => rw [e] at q; exact q
        | some v => rw [e] at q; exact q
      | own d =>
        cases e : σ[j]?.getD none with
        | none => rw [e] at q; exact q
        | some v =>
          rw [e] at q
          have hσ : σ[j]? = some (some v) := by
            cases e3 : σ[j]? with
            | none => rw [e3] at e; cases e
            | some z => rw [e3] at e; exact congrArg some e
          refine OwnC.mono q (Le.refl _) (fun q' hq o ho => ?_) fun _ _ hn => hn
          rw [upd_ne]; exact ho
          rintro rfl
          exact ej (S.apart j i d _ q' hj h (by rw [hσ, hq]) hs)
  · obtain ⟨d', hj'⟩ := nset j d hj
    obtain ⟨e', hk'⟩ := nset k e hk
    exact S.apart j k d' e' q hj' hk' h1 h2
  · rw [upd_ne]; exact hb
    rintro rfl; exact n own
  · by_cases e : b = p
    · subst e; rw [upd_same] at hb; cases hb
    · rw [upd_ne e] at hb; exact hb
/-- a method's change: the list at p, vs; the arguments us -/
def rMu (K : Frag) (m : Mu) : V → List V → Hp → VK → Prop := fun x us H Q => ∃ F p xs vs ds r ys, x = .ref p ∧ Le F H ∧ H p = some (.lst vs) ∧ F p = none ∧ VRs K F xs vs ∧ VRs K F ds us ∧ muD m xs ds = some (r, ys) ∧
  ∀ v ws, VR K F r v → VRs K F ys ws → Q v (upd H p (.lst ws))
section
variable {X : Cx}
theorem VRs.one {K : Frag} {F : Hp} {d : D} {vs : List V} (h : VRs K F [d] vs) : ∃ v, vs = [v] ∧ VR K F d v := by
  cases h with
  | cons r t => cases t; exact ⟨_, rfl, r⟩
theorem VRs.zero {K : Frag} {F : Hp} {vs : List V} (h : VRs K F [] vs) : vs = [] := by cases h; rfl
theorem ok_append : MtR X "list.append" (rMu X.K .append) := by
  intro pins s σ H x us v ws Q I rx rs h
  obtain ⟨F, p, xs, vs, ds, r, ys, rfl, l, hp, hf, rxs, rds, hm, q⟩ := h
  match ds, hm with
  | [d], hm =>
    simp only [muD] at hm
    split at hm
    · rename_i hz
      cases hm
      obtain ⟨y, rfl, ry⟩ := rds.one
      exact L2.mt_append pins s σ H _ _ v ws Q I rx rs ⟨p, vs, y, rfl, rfl, hp, by rw [← lim_line, ← rxs.length]; exact hz, q _ _ .non (rxs.append (.cons ry .nil))⟩
    · cases hm
  | [], hm => simp [muD] at hm
  | _ :: _ :: _, hm => simp [muD] at hm
theorem extend_any (l : Addr) (items : Array Value) (n : Nat) (b : Addr) (items2 : Array Value) (n2 : Nat) (dd2 : Option Addr) (sl2 : Array (Option Value)) (hc0 : ¬(!items.isEmpty && Builtin.List.listTooLong (items.size + items2.size)) = true) (hc1 : items.size ≤ sizeLine) (hs2 : items.size + items2.size ≤ sizeLine + 1) :
    Meets (Builtin.«list.extend» ⟨[.ref l, .ref b], []⟩) (fun _ R s => s.heap.get? l = some { cls := .type "list", data := .seq items n } ∧ s.heap.get? b = some { cls := .type "list", dict := dd2, data := .seq items2 n2, slots := sl2 } ∧ R (.ok (.ret Value.none)) { s with heap := s.heap.update l (Obj.mapSeq fun x => x ++ items2), toks := s.toks }) :=
  .of_wp fun prog w A R s h => by
    obtain ⟨hp, g, d, tk, os⟩ := s
    obtain ⟨hl, hb, h⟩ := h
    have f1 := AutoSeq1.idx_int
    have f2 := AutoSeq1.sub_tuple_tuple
    have f3 := AutoSeq1.sub_list_list
    have f4 := AutoSeq1.sub_tuple_list
    have f5 := AutoSeq1.sub_list_tuple
    have room : (items ++ items2).size ≤ sizeLine + 1 := by
      rw [Array.size_append]; exact hs2
    wp_walk using (wpAny_updateSeq hl rfl (hz := hc1) (_hz' := room)), AutoSeq1.wpAny_loadPart' hl, AutoSeq1.wpAny_loadPart' hb
    exact ⟨_, rfl, h⟩
theorem ok_extend : MtR X "list.extend" (rMu X.K .extend) := by
  intro pins s σ H x us v ws Q I rx rs h
  obtain ⟨F, p, xs, vs, ds, r, ys, rfl, l, hp, hf, rxs, rds, hm, q⟩ := h
  match ds, hm with
  | [.list zs], hm =>
    simp only [muD] at hm
    split at hm
    · rename_i hz
      cases hm
      obtain ⟨y, rfl, ry⟩ := rds.one
      cases ry with
      | lst hb rb =>
        rename_i b bs
        cases rx
        obtain ⟨u, rfl, ru⟩ := Vals.one rs
        cases ru
        obtain ⟨z, a, n, ra, la, ea⟩ := I.lstM hp
        obtain ⟨z2, c, n2, dd2, sl2, rc, lc, ec⟩ := Inv.readL I (l.sqL hb)
        have hlen : vs.length + bs.length ≤ sizeLine := by rw [← lim_line, ← rxs.length, ← rb.length]; exact hz
        have hsum : a.toArray.size + c.toArray.size ≤ sizeLine := by rw [List.size_toArray, List.size_toArray, ← la, ← lc]; exact hlen
        have hlong : ¬ (!a.toArray.isEmpty && Builtin.List.listTooLong (a.toArray.size + c.toArray.size)) = true := by
          rw [L2.notLongL hsum, Bool.and_false]; exact Bool.false_ne_true
        refine call_meets PySem.F.slot_list_extend ⟨_, ea, rfl⟩ PySem.F.entry_list_extend (PySem.F.args_list_extend_2 _ _) (extend_any p a.toArray n b c.toArray n2 dd2 sl2 hlong (by rw [List.size_toArray]; omega) (by omega)) ⟨ea, ec, ?_⟩
        refine ⟨V.non, _, I.lset (its' := a ++ c) hp ea (by simp) (ra.append rc) ?_, rfl, q _ _ .non (rxs.append rb)⟩
        rw [List.length_append]; exact hlen
    · cases hm
  | [], hm => simp [muD] at hm
  | [.none], hm => simp [muD] at hm
  | [.bool _], hm => simp [muD] at hm
  | [.int _], hm => simp [muD] at hm
  | [.str _], hm => simp [muD] at hm
  | [.tuple _], hm => simp [muD] at hm
  | [.dict _], hm => simp [muD] at hm
  | _ :: _ :: _, hm => simp [muD] at hm
theorem ok_reverse : MtR X "list.reverse" (rMu X.K .reverse) := by
  intro pins s σ H x us v ws Q I rx rs h
  obtain ⟨F, p, xs, vs, ds, r, ys, rfl, l, hp, hf, rxs, rds, hm, q⟩ := h
  match ds, hm with
  | [], hm =>
    cases hm
    cases rds.zero
    exact L2.mt_reverse pins s σ H _ _ v ws Q I rx rs ⟨p, vs, rfl, rfl, hp, q _ _ .non rxs.reverse⟩
  | _ :: _, hm => simp [muD] at hm
theorem ok_pop : MtR X "list.pop" (rMu X.K .pop) := by
  intro pins s σ H x us v ws Q I rx rs h
  obtain ⟨F, p, xs, vs, ds, r, ys, rfl, l, hp, hf, rxs, rds, hm, q⟩ := h
  match ds, hm with
  | [], hm =>
    simp only [muD] at hm
    split at hm
    · rename_i y hy
      cases hm
      cases rds.zero
      rw [List.getLast?_eq_getElem?] at hy
      obtain ⟨w, h1, h2⟩ := rxs.get hy
      rw [rxs.length] at h1
      exact L2.mt_pop pins s σ H _ _ v ws Q I rx rs ⟨p, vs, w, rfl, rfl, hp, h1, q _ _ h2 rxs.dropLast⟩
    · cases hm
  | [.int i], hm =>
    simp only [muD] at hm
    split at hm
    · rename_i j hj
      simp only [Option.map_eq_some_iff] at hm
      obtain ⟨y, h1, h2⟩ := hm
      cases h2
      obtain ⟨w, rfl, rw_⟩ := rds.one
      cases rw_
      obtain ⟨w2, h3, h4⟩ := rxs.get h1
      rw [rxs.length] at hj
      obtain ⟨k1, k2, k3, k4⟩ := L2.ixN_seq hj
      have z := (I.lstM hp).1
      have zz : (sizeLine : Int) < 2 ^ 62 := by rw [sizeLine_eq]; decide
      exact L2.mt_popAt pins s σ H _ _ v ws Q I rx rs ⟨p, vs, i, j, w2, rfl, rfl, hp, by omega, by omega, k1, h3, q _ _ h4 (rxs.eraseIdx j)⟩
    · cases hm
  | [.none], hm => simp [muD] at hm
  | [.bool _], hm => simp [muD] at hm
  | [.list _], hm => simp [muD] at hm
  | [.str _], hm => simp [muD] at hm
  | [.tuple _], hm => simp [muD] at hm
  | [.dict _], hm => simp [muD] at hm
  | _ :: _ :: _, hm => simp [muD] at hm
theorem ok_remove : MtR X "list.remove" (rMu X.K .remove) := by
  intro pins s σ H x us v ws Q I rx rs h
  obtain ⟨F, p, xs, vs, ds, r, ys, rfl, l, hp, hf, rxs, rds, hm, q⟩ := h
  match ds, hm with
  | [.int k], hm =>
    simp only [muD] at hm
    split at hm
    · rename_i ns e1
      split at hm
      · rename_i hk
        cases hm
        obtain ⟨w, rfl, rw_⟩ := rds.one
        cases rw_
        have e := rxs.ints e1
        subst e
        have hj : ns.idxOf k < ns.length := List.idxOf_lt_length_of_mem hk
        have he : ns.eraseIdx (ns.idxOf k) = ns.erase k := (List.erase_eq_eraseIdx_of_idxOf rfl).symm
        have first : ∀ (ns : List Int) (m : Nat), m < ns.idxOf k → ns[m]? ≠ some k := fun ns => by
          induction ns with
          | nil => intro m h; simp at h
          | cons a r ih =>
            intro m h
            rw [List.idxOf_cons] at h
            by_cases e : a = k
            · subst e; simp at h
            · rw [show (a == k) = false by simp [e]] at h
              simp at h
              cases m with
              | zero => simp [e]
              | succ m => simpa using ih m (by omega)
        refine L2.mt_remove pins s σ H _ _ v ws Q I rx rs ⟨p, ns, k, ns.idxOf k, rfl, rfl, hp, ?_, fun m hm hc => ?_, ?_⟩
        · rw [List.getElem?_eq_getElem hj, List.getElem_idxOf]
        · exact first ns m hm hc
        · rw [he]
          exact q _ _ .non (intsOf_of _)
      · cases hm
    · cases hm
  | [], hm => simp [muD] at hm
  | [.none], hm => simp [muD] at hm
  | [.bool _], hm => simp [muD] at hm
  | [.list _], hm => simp [muD] at hm
  | [.str _], hm => simp [muD] at hm
  | [.tuple _], hm => simp [muD] at hm
  | [.dict _], hm => simp [muD] at hm
  | _ :: _ :: _, hm => simp [muD] at hm
end
end Pv
end
section
/-! Pv8: the program's syntax read into the small language. -/
namespace Pv
open PySem PySem.Spec PyProof.Rows
/-! ### does a name stand in a term -/
mutual
def menE (i : Nat) : Ex → Bool
  | .var j => i == j
  | .neg a => menE i a | .bin _ a b => menE i a || menE i b | .cmp _ a b => menE i a || menE i b | .chn _ _ a b c => menE i a || menE i b || menE i c
  | .and a b => menE i a || menE i b | .or a b => menE i a || menE i b | .not a => menE i a | .tru a => menE i a | .ite c a b => menE i c || menE i a || menE i b
  | .tup es => menL i es | .lst es => menL i es
  | .sub a b => menE i a || menE i b | .sli a l h => menE i a || menO i l || menO i h | .rvs a => menE i a
  | .call _ es => menL i es | .bi _ es => menL i es | .met _ a es => menE i a || menL i es
  | .lrng es => menL i es | .trng es => menL i es | .trev a => menE i a
  | .mut j _ es => i == j || menL i es
  | .lc _ _ it cs e => menI i it || menO i cs || menE i e
  | _ => false
def menL (i : Nat) : List Ex → Bool
  | [] => false
  | e :: r => menE i e || menL i r
def menO (i : Nat) : Option Ex → Bool
  | none => false
  | some e => menE i e
def menI (i : Nat) : It → Bool
  | .seq a => menE i a | .hid j => i == j | .rng es => menL i es | .enum a => menE i a | .zip a b => menE i a || menE i b | .rev a => menE i a
end
mutual
def menS (i : Nat) : St → Bool
  | .set j e => i == j || menE i e | .par is es => is.contains i || menL i es | .unp is e => is.contains i || menE i e
  | .sto j a b => i == j || menE i a || menE i b
  | .exp e => menE i e | .ret e => menE i e | .retv j => i == j
  | .ifs c a b => menE i c || menB i a || menB i b | .fo _ it b => menI i it || menB i b | .whl c b => menE i c || menB i b
  | .rse _ e => menE i e
  | _ => false
def menB (i : Nat) : List St → Bool
  | [] => false
  | s :: r => menS i s || menB i r
end

/-! ### names -/
def visB (sc : Scope) (x : Str) : Bool := match sc.names.lookup x with
  | some .local | some .cell | some .free => true
  | _ => false
def gloB (sc : Scope) (x : Str) : Bool := match sc.names.lookup x with
  | some .globalImplicit => true
  | _ => false
def okName (x : Str) : Bool := !(x == ("__debug__" : Str)) && !(x == ("__classdict__" : Str))
def ixN (N : List Str) (x : Str) : Option Nat := if N.contains x then some (N.idxOf x) else none
/-- a def's, a block's own names -/
def ownNames (sc : Scope) : List Str := sc.names.filterMap fun y => match y.2 with
  | .local | .cell => some y.1
  | _ => none
def ownIx (N : List Str) (sc : Scope) : List (Str × Nat) := (ownNames sc).filterMap fun x => (ixN N x).map fun i => (x, i)
def relSc (scope sc : Scope) : Scope := L2.relS scope sc

def bltOf : List (Str × Bi) := [("len", .len), ("abs", .abs), ("int", .int), ("sum", .sum), ("any", .any), ("all", .all), ("max", .max), ("min", .min), ("list", .list), ("tuple", .tuple), ("sorted", .sorted)]
/-- names that must still be the built-ins -/
def bltNames : List Str := ["len", "abs", "int", "sum", "any", "all", "max", "min", "list", "tuple", "sorted", "isinstance", "range", "enumerate", "zip", "reversed", "str", "bool", "dict"]
def tyNames : List (Str × String) := [("int", "int"), ("str", "str"), ("bool", "bool"), ("list", "list"), ("tuple", "tuple"), ("dict", "dict")]
def notStar : Expr → Bool
  | .Starred _ _ => false
  | _ => true
def isSet : Expr → Bool
  | .Set _ _ _ => true
  | _ => false
def trBo : Operator → Option Bop
  | .Add => some .add | .Sub => some .sub | .Mult => some .mul | .FloorDiv => some .fdiv | .Mod => some .mod | .Pow => some .pow
  | _ => none
def trC : CmpOp → Cop
  | .Eq => .eq | .NotEq => .ne | .Lt => .lt | .LtE => .le | .Gt => .gt | .GtE => .ge | .In => .isin | .NotIn => .notin | .Is => .is | .IsNot => .isnot
def trK : Const → Ex
  | .int i => .int i
  | .str x => .str x
  | .bool b => .bl b
  | .none => .non
  | _ => .bad
def trV (sc : Scope) (N : List Str) (x : Str) : Ex :=
  if okName x then
    if visB sc x then match ixN N x with | some i => .var i | none => .bad
    else if gloB sc x then .glo x else .bad
  else .bad
/-- the written classes of an isinstance -/
def tyOf1 (sc : Scope) : Expr → Option String
  | .Name x _ => if gloB sc x && okName x then tyNames.lookup x else none
  | _ => none
def tysOf (sc : Scope) : List Expr → Option (List String)
  | [] => some []
  | e :: r => match tyOf1 sc e, tysOf sc r with
    | some t, some ts => some (t :: ts)
    | _, _ => none
/-- targets: names that may be stored, all different -/
def trN (al : List Str) (N : List Str) : Expr → Option Nat
  | .Name x _ => if al.contains x then ixN N x else none
  | _ => none
def trNs (al : List Str) (N : List Str) : List Expr → Option (List Nat)
  | [] => some []
  | e :: r => match trN al N e, trNs al N r with
    | some t, some ts => some (t :: ts)
    | _, _ => none
def trTg (al : List Str) (N : List Str) : Expr → Tg
  | .Name x p => match trN al N (.Name x p) with | some i => .one i | none => .bad
  | .Tuple es _ _ => match trNs al N es with | some is => if distinct is then .tup is else .bad | none => .bad
  | _ => .bad
def tgIx : Tg → List Nat
  | .one i => [i]
  | .tup is => is
  | .bad => []
def isTuple : Expr → Bool
  | .Tuple _ _ _ => true
  | _ => false
def muOf (m : Str) (n : Nat) : Option Mu :=
  if m == "append" && n == 1 then some .append else if m == "extend" && n == 1 then some .extend else if m == "reverse" && n == 0 then some .reverse
  else if m == "remove" && n == 1 then some .remove else if m == "pop" && decide (n ≤ 1) then some .pop else none
/-- the arguments of a range of one or two -/
def rngArgs (sc : Scope) : Expr → Option (List Expr)
  | .Call (.Name y _) [e] [] _ => if y == "range" && gloB sc y && notStar e then some [e] else none
  | .Call (.Name y _) [e, f] [] _ => if y == "range" && gloB sc y && notStar e && notStar f then some [e, f] else none
  | _ => none
def revArg (sc : Scope) : Expr → Option Expr
  | .Call (.Name y _) [e] [] _ => if y == "reversed" && gloB sc y && notStar e then some e else none
  | _ => none
section
variable (tr trT : Scope → List Str → Expr → Ex)
def trCmp (sc : Scope) (N : List Str) (a : Expr) (ops : List CmpOp) (bs : List Expr) : Ex := match ops, bs with
  | [o], [b] => if isSet b then .bad else .cmp (trC o) (tr sc N a) (tr sc N b)
  | [o, o'], [b, c] => if isSet b || isSet c then .bad else .chn (trC o) (trC o') (tr sc N a) (tr sc N b) (tr sc N c)
  | _, _ => .bad
def trSub (sc : Scope) (N : List Str) (a : Expr) : Expr → Ex
  | .Slice lo hi none _ => .sli (tr sc N a) (lo.map (tr sc N)) (hi.map (tr sc N))
  | .Slice none none (some (.UnaryOp .USub (.Constant (.int 1) _ _) _)) _ => .rvs (tr sc N a)
  | .Slice _ _ _ _ => .bad
  | i => .sub (tr sc N a) (tr sc N i)
/-- a call of a name -/
def trCall (sc : Scope) (N : List Str) (x : Str) (args : List Expr) : Ex :=
  if gloB sc x && okName x && !(x == ("__name__" : Str)) then
    match bltOf.lookup x with
    | some b => match args with
      | [] => .bad
      | a :: r => match b == .list && r.isEmpty, rngArgs sc a with
        | true, some es => .lrng (es.map (tr sc N))
        | _, _ => match b == .tuple && r.isEmpty, rngArgs sc a, revArg sc a with
          | true, some es, _ => .trng (es.map (tr sc N))
          | true, none, some e => .trev (tr sc N e)
          | _, _, _ => .bi b ((a :: r).map (tr sc N))
    | none =>
      if x == "gcd" then .bi .gcd (args.map (tr sc N))
      else if x == "isinstance" then match args with
        | [e, .Tuple ts _ _] => match tysOf sc ts with | some l => if decide (ts.length ≤ 100) then .bi (.isi l) [tr sc N e] else .bad | none => .bad
        | [e, t] => match tyOf1 sc t with | some l => .bi (.isi [l]) [tr sc N e] | none => .bad
        | _ => .bad
      else if bltNames.contains x then .bad
      else match args with
        | [] => .bad
        | _ => .call x (args.map (tr sc N))
  else .bad
def trMeth (sc : Scope) (N : List Str) (x : Str) (m : Str) (args : List Expr) : Ex := match trV sc N x, muOf m args.length with
  | .var i, some mu => .mut i mu (args.map (tr sc N))
  | _, _ => .bad
def trI (sc : Scope) (N : List Str) (tg : Expr) (e : Expr) : It := match e with
  | .Call (.Name x _) args [] _ =>
    if gloB sc x && args.all notStar then
      if x == "range" then (match args with | [_] | [_, _] | [_, _, _] => .rng (args.map (tr sc N)) | _ => .seq .bad)
      else if x == "enumerate" then (match args with | [e] => if isTuple tg then .enum (tr sc N e) else .seq .bad | _ => .seq .bad)
      else if x == "zip" then (match args with | [e, f] => if isTuple tg then .zip (tr sc N e) (tr sc N f) else .seq .bad | _ => .seq .bad)
      else if x == "reversed" then (match args with | [e] => .rev (tr sc N e) | _ => .seq .bad)
      else .seq (tr sc N e)
    else .seq (tr sc N e)
  | _ => .seq (tr sc N e)
end
/-- a list walked that the body does not name stays the name's own -/
def hidI (it : It) (men : Nat → Bool) : It := match it with
  | .seq (.var i) => if men i then it else .hid i
  | _ => it
mutual
def tr : Nat → Scope → List Str → Expr → Ex
  | 0, _, _, _ => .bad
  | n + 1, sc, N, e => match e with
    | .Constant c _ _ => trK c
    | .Name x _ => trV sc N x
    | .BinOp a o b _ => match trBo o with | some o => .bin o (tr n sc N a) (tr n sc N b) | none => .bad
    | .UnaryOp .USub a _ => .neg (tr n sc N a)
    | .UnaryOp .Not a _ => .not (.tru (tr n sc N a))
    | .BoolOp .And [a] _ => tr n sc N a
    | .BoolOp .And (a :: b :: r) p => .and (tr n sc N a) (tr n sc N (.BoolOp .And (b :: r) p))
    | .BoolOp .Or [a] _ => tr n sc N a
    | .BoolOp .Or (a :: b :: r) p => .or (tr n sc N a) (tr n sc N (.BoolOp .Or (b :: r) p))
    | .IfExp c a b _ => .ite (trT n sc N c) (tr n sc N a) (tr n sc N b)
    | .Compare a ops bs _ => trCmp (tr n) sc N a ops bs
    | .Tuple es _ _ => if es.all notStar then .tup (es.map (tr n sc N)) else .bad
    | .List es _ => if es.all notStar then .lst (es.map (tr n sc N)) else .bad
    | .Subscript a i _ => trSub (tr n) sc N a i
    | .Call (.Name x _) args [] _ => if args.all notStar then trCall (tr n) sc N x args else .bad
    | .Call (.Attribute (.Name x _) m ap) args [] cp => if args.all notStar && ap.endLine == cp.line then trMeth (tr n) sc N x m args else .bad
    | .ListComp elt [⟨tg, iter, ifs, 0⟩] scope _ =>
      let sc' := relSc scope sc
      let own := (ownIx N scope).map (·.2)
      let t := trTg (ownNames scope) N tg
      let e := tr n sc' N elt
      if L2.blkC N sc scope (ownIx N scope) && (tgIx t).all own.contains && !isSet iter then
        match ifs with
        | [] => .lc own t (hidI (trI (tr n) sc N tg iter) fun i => own.contains i || menE i e) none e
        | [c] => let c := trT n sc' N c; .lc own t (hidI (trI (tr n) sc N tg iter) fun i => own.contains i || menE i e || menE i c) (some c) e
        | _ => .bad
      else .bad
    | _ => .bad
def trT : Nat → Scope → List Str → Expr → Ex
  | 0, _, _, _ => .bad
  | n + 1, sc, N, e => match e with
    | .BoolOp .And [a] _ => trT n sc N a
    | .BoolOp .And (a :: b :: r) p => .and (trT n sc N a) (trT n sc N (.BoolOp .And (b :: r) p))
    | .BoolOp .Or [a] _ => trT n sc N a
    | .BoolOp .Or (a :: b :: r) p => .or (trT n sc N a) (trT n sc N (.BoolOp .Or (b :: r) p))
    | .BoolOp _ _ _ => .bad
    | .UnaryOp .Not a _ => .not (trT n sc N a)
    | .IfExp _ _ _ _ => .bad
    | .Compare a ops bs _ => trCmp (tr n) sc N a ops bs
    | e => .tru (tr n sc N e)
end

/-! indices that a body stores -/
mutual
def stoS : St → List Nat
  | .set i _ => [i]
  | .par is _ => is
  | .unp is _ => is
  | .ifs _ a b => stoB a ++ stoB b
  | .fo t _ b => tgIx t ++ stoB b
  | .whl _ b => stoB b
  | _ => []
def stoB : List St → List Nat
  | [] => []
  | s :: r => stoS s ++ stoB r
end
/-! ### statements -/
def isComp : Expr → Bool
  | .ListComp _ _ _ _ | .SetComp _ _ _ _ | .DictComp _ _ _ _ _ => true
  | _ => false
/-- names of a kind of their own -/
def locB (sc : Scope) (x : Str) : Bool := sc.names.lookup x == some .local
def nameOf : Expr → Option (Str × Nat)
  | .Name x p => some (x, p.line)
  | _ => none
/-- the names of targets that are stored from the right: all local, on one line, different -/
def parNames (sc : Scope) (ts : List Expr) : Option (List Str) := match ts with
  | [.Name x p, .Name y q] => if locB sc x && locB sc y && (p.line == q.line) && !(x == y) then some [x, y] else none
  | [.Name x p, .Name y q, .Name z r] => if locB sc x && locB sc y && locB sc z && (p.line == q.line) && (p.line == r.line) && !(x == y) && !(x == z) && !(y == z) then some [x, y, z] else none
  | _ => none
section
variable (al : List Str) (kp : List Nat)
def stI (N : List Str) (t : Expr) : Option Nat := match trN al N t with
  | some i => if kp.contains i then none else some i
  | none => none
def trAsg (n : Nat) (sc : Scope) (N : List Str) (t e : Expr) (line : Nat) : St := match t with
  | .Name x p => match stI al kp N (.Name x p) with
    | some i => match e with
      | .ListComp _ _ s _ => if okName x then .set i (tr n sc N e) else .bad
      | .SetComp _ _ _ _ | .DictComp _ _ _ _ _ => .bad
      | _ => .set i (tr n sc N e)
    | none => .bad
  | .Tuple ts _ _ => match trNs al N ts with
    | some is => if distinct is && is.all (fun i => !kp.contains i) then
        match e with
        | .Tuple vs _ _ => match parNames sc ts with
          | some xs => if vs.length == ts.length && vs.all notStar && !(vs.all (foldedForSure 8)) && !(vs.all (constantsAlone 8)) then .par is (vs.map (tr n sc N)) else .bad
          | none => .bad
        | _ => if isComp e then .bad else .unp is (tr n sc N e)
      else .bad
    | none => .bad
  | .Subscript (.Name x _) ix _ => match trV sc N x with
    | .var i => match ix with
      | .Slice _ _ _ _ => .bad
      | _ => if isComp e then .bad else .sto i (tr n sc N ix) (tr n sc N e)
    | _ => .bad
  | _ => .bad
mutual
def trS (np : Nat) : Nat → Scope → List Str → Stmt → St
  | 0, _, _, _ => .bad
  | n + 1, sc, N, s => match s with
    | .Pass _ => .pas
    | .Break _ => .brk
    | .Continue _ => .cnt
    | .Assign [t] e p => trAsg al kp n sc N t e p.line
    | .Expr (.Constant (.str _) _ _) _ => .pas
    | .Expr e _ => if isComp e then .bad else .exp (tr n sc N e)
    | .Return none _ => .retN
    | .Return (some e) _ => match e with
      | .Name x _ => match trV sc N x with
        | .var i => if decide (np ≤ i) then .retv i else .ret (.var i)
        | t => .ret t
      | _ => .ret (tr n sc N e)
    | .If c a b _ => .ifs (trT n sc N c) (trB np n sc N a) (trB np n sc N b)
    | .For tg it body [] _ =>
      let t := trTg al N tg
      let b := trB np n sc N body
      if (tgIx t).all (fun i => !kp.contains i) && !isSet it then .fo t (hidI (trI (tr n) sc N tg it) fun i => (tgIx t).contains i || menB i b || (stoB b).contains i) b else .bad
    | .While c body [] _ => .whl (trT n sc N c) (trB np n sc N body)
    | _ => .bad
def trB (np : Nat) : Nat → Scope → List Str → List Stmt → List St
  | _, _, _, [] => []
  | 0, _, _, _ :: _ => [.bad]
  | n + 1, sc, N, s :: r => trS np n sc N s :: trB np n sc N r
end
end
def strOf : PySem.Const → Option Str
  | .str x => some x
  | _ => none
def namesOf (ps : List Str) (sc : Scope) : List Str :=
  let fast := sc.more.filterMap fun y => if y.1 == ("fast" : Str) then strOf y.2 else none
  (ps ++ fast ++ ownNames sc).eraseDups
def fuel : Nat := 60
/-- a def of the text -/
def trFn (ps : List Str) (sc : Scope) (body : List Stmt) : Fn :=
  let N := namesOf ps sc
  let rb := (stoB (trB (ownNames sc) [] ps.length fuel sc N body)).filter (fun i => decide (i < ps.length))
  let kp := (List.range ps.length).filter fun i => !rb.contains i
  { ps := ps, N := N, rb := rb, body := trB (ownNames sc) kp ps.length fuel sc N body }
end Pv
end
section
/-! Pv9: expressions: the program's run does what the evaluator says. -/
namespace Pv
open PySem PySem.Spec PyProof.Rows
open L2 (V Hp HO SqL SqT upd upd_same upd_ne VK TE TA Cx PE PA PT Inv Same Vals RelV Room Takes)
section
variable {K : Frag} {E : ExW} {σ : SS} {ρ : En} {F H : Hp}
theorem tE_mono {T : Tb} {e : Ex} {Q Q' : VK} (h : tE T K E e σ H Q) (i : ∀ v H', Q v H' → Q' v H') : tE T K E e σ H Q' := by
  obtain ⟨ρ, F, c⟩ := h
  refine ⟨ρ, F, c.S, ?_⟩
  have p := c.P
  revert p
  cases ev T e ρ with
  | ok x => exact fun p v F' H' m r => i _ _ (p v F' H' m r)
  | rs _ _ _ => exact id
  | bad => exact id
theorem tB_mono {T : Tb} {e : Ex} {Q Q' : Bool → Hp → Prop} (h : tB T K E e σ H Q) (i : ∀ v H', Q v H' → Q' v H') : tB T K E e σ H Q' := by
  obtain ⟨ρ, F, c⟩ := h
  refine ⟨ρ, F, c.S, ?_⟩
  have p := c.P
  revert p
  cases (ev T e ρ).bind boo with
  | ok x => exact fun p v F' H' m r => i _ _ (p v F' H' m r)
  | rs _ _ _ => exact id
  | bad => exact id
theorem tOs_mono {T : Tb} {e : List Ex} {Q Q' : List V → Hp → Prop} (h : tOs T K E e σ H Q) (i : ∀ v H', Q v H' → Q' v H') : tOs T K E e σ H Q' := by
  obtain ⟨ρ, F, c⟩ := h
  refine ⟨ρ, F, c.S, ?_⟩
  have p := c.P
  revert p
  cases evOs T e ρ with
  | ok x => exact fun p v F' H' m r => i _ _ (p v F' H' m r)
  | rs _ _ _ => exact id
  | bad => exact id
theorem tDs_mono {T : Tb} {e : List Ex} {Q Q' : List V → Hp → Prop} (h : tDs T K E e σ H Q) (i : ∀ v H', Q v H' → Q' v H') : tDs T K E e σ H Q' := by
  obtain ⟨ρ, F, c⟩ := h
  refine ⟨ρ, F, c.S, ?_⟩
  have p := c.P
  revert p
  cases evL T e ρ with
  | ok x => exact fun p v F' H' m r => i _ _ (p v F' H' m r)
  | rs _ _ _ => exact id
  | bad => exact id
theorem Con.peek1 {α β : Type} {Rl : Rel α β} {o : Op} {f : D → Res (α × En)} {ρ' : En} {Q : β → Hp → Prop} (c : Con K E Rl σ ρ F H ((Pv.peek1 ρ' o).bind f) Q) : ∃ d, peek ρ' o = some d ∧ Con K E Rl σ ρ F H (f d) Q := by
  unfold Pv.peek1 at c
  cases e : peek ρ' o with
  | none => rw [e] at c; exact c.P.elim
  | some d => rw [e] at c; exact ⟨d, rfl, c⟩
theorem Con.peek2 {α β : Type} {Rl : Rel α β} {o o' : Op} {f : D × D → Res (α × En)} {ρ' : En} {Q : β → Hp → Prop} (c : Con K E Rl σ ρ F H ((Pv.peek2 ρ' o o').bind f) Q) : ∃ d e, peek ρ' o = some d ∧ peek ρ' o' = some e ∧ Con K E Rl σ ρ F H (f (d, e)) Q := by
  unfold Pv.peek2 at c
  cases e : peek ρ' o with
  | none => rw [e] at c; exact c.P.elim
  | some d =>
    cases e2 : peek ρ' o' with
    | none => rw [e, e2] at c; exact c.P.elim
    | some d' => rw [e, e2] at c; exact ⟨d, d', rfl, rfl, c⟩
theorem Con.finR {r : R} {Q : VK} (c : Con K E (RX K σ) σ ρ F H (retX ρ r) Q) : Fin K F H r Q := fun v F' H' t l h => c.fin t l (by cases r <;> exact h)
theorem Con.finB {b : Bool} {Q : VK} (c : Con K E (RX K σ) σ ρ F H (retB ρ b) Q) : Q (.bl b) H := c.fin0 (Rl := RX K σ) (VR.bl b)
theorem Con.finD {d : D} {v : V} {Q : VK} (c : Con K E (RX K σ) σ ρ F H (retD ρ d) Q) (r : VR K F d v) : Q v H := c.fin0 (Rl := RX K σ) r
end

/-- an exception that leaves -/
def EC (mg : Str → Option Value) (fld : Str → Option Str) (K : Frag) (E : L2.XK) : ExW := fun c d _ F _ H => ∀ C dd v f, mg c = some (.ref C) → fld c = some f → H dd = some (.xd [(f, v)]) → VR K F d v → E (.ref C) (some dd) H
def EX (mg : Str → Option Value) (fld : Str → Option Str) (K : Frag) (W : L2.WX) : ExW := fun c d _ F σ H => ∀ C dd v f, mg c = some (.ref C) → fld c = some f → H dd = some (.xd [(f, v)]) → VR K F d v → W (.ref C) (some dd) σ H
abbrev RRel (K : Frag) : Rel R V := fun H _ F' H' r v => RRes K H F' H' r v
/-- what a def promises: what the evaluator says of the call -/
def spF (G : Prog) (w k : Nat) (K : Frag) (mg : Str → Option Value) (f : Str) (fi : Fn) : L2.Sp := fun vs H Q E => vs.length = fi.ps.length ∧ ∃ as F, Con K (EC mg G.fld K E) (RRel K) (vs.map some) as F H ((tbl G w k).call f as) Q
/-- where a term of the text is run -/
structure XOk (G : Prog) (w k : Nat) (X : Cx) (W : L2.WX) (sc : Scope) (N : List Str) : Prop where
  hN : X.N = N
  nd : N.Nodup
  scope : X.env.scope = sc
  calm : X.calm = true
  room : Room k X.A
  tk : Takes X W
  call : ∀ f fi, G.fn f = some fi → ∃ a fd, X.mg f = some (.ref a) ∧ PySem.W.keepIn X.K (.ref a) = true ∧ L2.Binds X.K fd fi.ps [] ∧ L2.FnOk X.prog X.w X.K X.mg X.base (L2.CX X.prog X.w) k a fd fi.ps (spF G w k X.K X.mg f fi)
  gl : ∀ x d, G.gl x = some d → ∃ u v, X.mg x = some u ∧ RelV v u ∧ VR X.K (fun _ => none) d v
  blt : ∀ x, x ∈ bltNames → X.mg x = none
  gcd : G.gcd = true → X.mg "gcd" = some (.builtin "math.gcd")
/-- the reading of a term -/
abbrev tX (G : Prog) (w k : Nat) (X : Cx) (W : L2.WX) (e : Ex) : TE := tE (tbl G w k) X.K (EX X.mg G.fld X.K W) e
abbrev tXB (G : Prog) (w k : Nat) (X : Cx) (W : L2.WX) (e : Ex) : L2.TT := tB (tbl G w k) X.K (EX X.mg G.fld X.K W) e
abbrev tXs (G : Prog) (w k : Nat) (X : Cx) (W : L2.WX) (e : List Ex) : TA := tOs (tbl G w k) X.K (EX X.mg G.fld X.K W) e
abbrev tXd (G : Prog) (w k : Nat) (X : Cx) (W : L2.WX) (e : List Ex) : TA := tDs (tbl G w k) X.K (EX X.mg G.fld X.K W) e
theorem tbl_gl (G : Prog) (w k : Nat) : (tbl G w k).gl = G.gl := by cases k <;> rfl
theorem tbl_has (G : Prog) (w k : Nat) (x : Str) : (tbl G w k).has x = (G.fn x).isSome := by cases k <;> rfl
theorem tbl_gcd (G : Prog) (w k : Nat) : (tbl G w k).gcd = G.gcd := by cases k <;> rfl

section
variable {G : Prog} {w k : Nat} {X : Cx} {W : L2.WX} {sc : Scope} {N : List Str} {pos : Pos} {a b c e : Expr} {ea eb ec : Ex}
theorem pe_bad {e : Expr} : PE X e (tX G w k X W .bad) := ⟨fun _ _ _ _ _ _ ⟨_, _, c⟩ => c.P.elim⟩
theorem pt_bad {e : Expr} : PT X e (tXB G w k X W .bad) := ⟨fun _ _ _ _ _ _ ⟨_, _, c⟩ => c.P.elim⟩
theorem XOk.units (o : XOk G w k X W sc N) : X.A.units + 65 < cLine := by have := o.room.un; omega
theorem snd_int {i : Int} {j : Nat} : PE X (.Constant (.int i) j pos) (tX G w k X W (.int i)) := PE.imp L2.pe_int fun _ _ _ ⟨_, _, c⟩ => c.fin0 (Rl := RX X.K _) (VR.int i)
theorem snd_str {i : Str} {j : Nat} : PE X (.Constant (.str i) j pos) (tX G w k X W (.str i)) := PE.imp L2.pe_str fun _ _ _ ⟨_, _, c⟩ => c.fin0 (Rl := RX X.K _) (VR.str i)
theorem snd_bl {i : Bool} {j : Nat} : PE X (.Constant (.bool i) j pos) (tX G w k X W (.bl i)) := PE.imp L2.pe_bl fun _ _ _ ⟨_, _, c⟩ => c.fin0 (Rl := RX X.K _) (VR.bl i)
theorem snd_non {j : Nat} : PE X (.Constant .none j pos) (tX G w k X W .non) := PE.imp L2.pe_non fun _ _ _ ⟨_, _, c⟩ => c.fin0 (Rl := RX X.K _) VR.non
theorem tE_var {T : Tb} {K : Frag} {E : ExW} {i : Nat} {σ : SS} {H : Hp} {Q : VK} (h : tE T K E (.var i) σ H Q) : L2.tVar i σ H Q := by
  obtain ⟨ρ, F, c⟩ := h
  have p := c.P
  simp only [ev] at p
  cases e : ρ[i]? with
  | none => rw [e] at p; exact p.elim
  | some s =>
    rw [e] at p
    cases s with
    | un => exact p.elim
    | val d =>
      obtain ⟨v, h1, h2⟩ := c.S.val e
      exact ⟨v, h1, p v F H (Mid.refl c.S) h2⟩
    | own d =>
      obtain ⟨v, h1, h2⟩ := c.S.own e
      exact ⟨v, h1, p v F H (Mid.refl c.S) ⟨h1, d, e⟩⟩
theorem ixN_some {N : List Str} {x : Str} {i : Nat} (h : ixN N x = some i) : N[i]? = some x := by
  unfold ixN at h
  split at h
  · rename_i hc
    cases h
    have hm : x ∈ N := by simpa using hc
    have hl := List.idxOf_lt_length_of_mem hm
    rw [List.getElem?_eq_getElem hl, List.getElem_idxOf]
  · cases h
theorem okName_ok {x : Str} (h : okName x = true) : (x == ("__debug__" : Str)) = false ∧ (x == ("__classdict__" : Str)) = false := by
  unfold okName at h
  rw [Bool.and_eq_true, Bool.not_eq_true', Bool.not_eq_true'] at h
  exact h
theorem visB_ok {sc : Scope} {x : Str} (h : visB sc x = true) : L2.Vis sc x := by
  unfold visB at h
  unfold L2.Vis
  split at h
  · exact .inl (by assumption)
  · exact .inr (.inl (by assumption))
  · exact .inr (.inr (by assumption))
  · cases h
theorem gloB_ok (o : XOk G w k X W sc N) {x : Str} (h : gloB sc x = true) : L2.Gl X x := by
  unfold gloB at h
  split at h
  · show X.env.scope.names.lookup x = _
    rw [o.scope]; assumption
  · cases h
theorem snd_name (o : XOk G w k X W sc N) {x : Str} : PE X (.Name x pos) (tX G w k X W (trV sc N x)) := by
  unfold trV
  split
  · rename_i hn
    obtain ⟨h1, h2⟩ := okName_ok hn
    split
    · rename_i hv
      split
      · rename_i i hi
        exact PE.imp (L2.pe_var (i := i) (by rw [o.hN]; exact ixN_some hi) (by rw [o.scope]; exact visB_ok hv) h1 h2) fun _ _ _ h => tE_var h
      · exact pe_bad
    · split
      · rename_i hg
        refine ⟨fun pins s σ H Q I h => ?_⟩
        obtain ⟨ρ, F, c⟩ := h
        obtain ⟨d, hd, c2⟩ := Con.opt (show Con X.K (EX X.mg G.fld X.K W) (RX X.K σ) σ ρ F H ((opt ((tbl G w k).gl x)).bind fun d => .ok (.val d, ρ)) Q from c)
        rw [tbl_gl] at hd
        obtain ⟨u, v, hm, r, vr⟩ := o.gl x d hd
        exact (L2.pe_glob (X := X) (gloB_ok o hg) hm r h1).run pins s σ H Q I (c2.fin0 (Rl := RX X.K σ) (VR.mono (fun _ _ z => by cases z) vr))
      · exact pe_bad
  · exact pe_bad
theorem snd_bin {op : Bop} (ha : PE X a (tX G w k X W ea)) (hb : PE X b (tX G w k X W eb)) : PE X (.BinOp a (binOp op) b pos) (tX G w k X W (.bin op ea eb)) := by
  refine PE.imp (L2.pe_op (ok_bin op) ha hb) fun σ H Q h => ?_
  obtain ⟨ρ, F, c⟩ := h
  refine tE_mono (Con.bindO sh_X c) fun x H1 ⟨xa, ρ1, F1, o1, l1, c1⟩ => ?_
  refine tE_mono (Con.bindO sh_X c1) fun y H2 ⟨ya, ρ2, F2, o2, l2, c2⟩ => ?_
  obtain ⟨d, e, p1, p2, c3⟩ := c2.peek2
  obtain ⟨r, hr, c4⟩ := c3.opt
  exact ⟨F2, d, e, r, c4.le, c4.S.peek (o1.mono l2) p1, c4.S.peek o2 p2, hr, c4.finR⟩
theorem trBo_op {o : Operator} {b : Bop} (h : trBo o = some b) : o = binOp b := by cases o <;> simp [trBo] at h <;> subst h <;> rfl
theorem trC_op (o : CmpOp) : o = cmpOp (trC o) := by cases o <;> rfl
theorem snd_neg (ha : PE X a (tX G w k X W ea)) : PE X (.UnaryOp .USub a pos) (tX G w k X W (.neg ea)) := by
  refine PE.imp (L2.pe_un L2.un_neg ha) fun σ H Q h => ?_
  obtain ⟨ρ, F, c⟩ := h
  refine tE_mono (Con.bindO sh_X c) fun x H1 ⟨xa, ρ1, F1, o1, l1, c1⟩ => ?_
  obtain ⟨d, p1, c2⟩ := c1.peek1
  obtain ⟨r, hr, c3⟩ := c2.opt
  have ox := c3.S.peek o1 p1
  cases d <;> simp only [negD, reduceCtorEq, Option.some.injEq] at hr
  subst hr
  exact ⟨_, ox.int, c3.finD (.int _)⟩
theorem notmark {b : Expr} (h : isSet b = false) (o : CmpOp) : behindInMarks o b = false := by cases b <;> first | rfl | cases h
theorem snd_cmp (o : XOk G w k X W sc N) {op : Cop} (hs : isSet b = false) (ha : PE X a (tX G w k X W ea)) (hb : PE X b (tX G w k X W eb)) : PE X (.Compare a [cmpOp op] [b] pos) (tX G w k X W (.cmp op ea eb)) := by
  refine PE.imp (L2.pe_cmpR (ok_cmp o.units op) ha hb (notmark hs _)) fun σ H Q h => ?_
  obtain ⟨ρ, F, c⟩ := h
  refine tE_mono (Con.bindO sh_X c) fun x H1 ⟨xa, ρ1, F1, o1, l1, c1⟩ => ?_
  refine tE_mono (Con.bindO sh_X c1) fun y H2 ⟨ya, ρ2, F2, o2, l2, c2⟩ => ?_
  obtain ⟨d, e, p1, p2, c3⟩ := c2.peek2
  obtain ⟨r, hr, c4⟩ := c3.opt
  exact ⟨F2, d, e, r, c4.le, c4.S.peek (o1.mono l2) p1, c4.S.peek o2 p2, hr, c4.finB⟩
theorem sndT_cmp (o : XOk G w k X W sc N) {op : Cop} (hs : isSet b = false) (ha : PE X a (tX G w k X W ea)) (hb : PE X b (tX G w k X W eb)) : PT X (.Compare a [cmpOp op] [b] pos) (tXB G w k X W (.cmp op ea eb)) := by
  refine PT.imp (L2.pt_cmpR (ok_cmp o.units op) ha hb (notmark hs _)) fun σ H Q h => ?_
  obtain ⟨ρ, F, c⟩ := tB_of h
  refine tE_mono (Con.bindO sh_X c) fun x H1 ⟨xa, ρ1, F1, o1, l1, c1⟩ => ?_
  refine tE_mono (Con.bindO sh_X c1) fun y H2 ⟨ya, ρ2, F2, o2, l2, c2⟩ => ?_
  obtain ⟨d, e, p1, p2, c3⟩ := c2.peek2
  obtain ⟨r, hr, c4⟩ := c3.opt
  exact ⟨F2, d, e, r, c4.le, c4.S.peek (o1.mono l2) p1, c4.S.peek o2 p2, hr, c4.finB⟩
theorem chn_step {op op' : Cop} {σ : SS} {H : Hp} {Q : VK} (h : tX G w k X W (.chn op op' ea eb ec) σ H Q) : L2.tChain (rC X.K op) (rC X.K op') (tX G w k X W ea) (tX G w k X W eb) (tX G w k X W ec) σ H Q := by
  obtain ⟨ρ, F, c⟩ := h
  refine tE_mono (Con.bindO sh_X c) fun x H1 ⟨xa, ρ1, F1, o1, l1, c1⟩ => ?_
  refine tE_mono (Con.bindO sh_X c1) fun y H2 ⟨ya, ρ2, F2, o2, l2, c2⟩ => ?_
  obtain ⟨d, e, p1, p2, c3⟩ := c2.peek2
  obtain ⟨r, hr, c4⟩ := c3.opt
  refine ⟨F2, d, e, r, c4.le, c4.S.peek (o1.mono l2) p1, c4.S.peek o2 p2, hr, r, rfl, ?_⟩
  cases r with
  | false => exact c4.finB
  | true =>
    refine tE_mono (Con.bindO sh_X c4) fun z H3 ⟨za, ρ3, F3, o3, l3, c5⟩ => ?_
    obtain ⟨d', e', q1, q2, c6⟩ := c5.peek2
    obtain ⟨r', hr', c7⟩ := c6.opt
    exact ⟨F3, d', e', r', c7.le, c7.S.peek (o2.mono l3) q1, c7.S.peek o3 q2, hr', c7.finB⟩
end
end Pv
end
section
/-! Pv10: expressions, further. -/
namespace Pv
open PySem PySem.Spec PyProof.Rows
open L2 (V Hp HO SqL SqT upd upd_same upd_ne VK TE TA Cx PE PA PT Inv Same Vals RelV Room Takes)
section
variable {G : Prog} {w k : Nat} {X : Cx} {W : L2.WX} {sc : Scope} {N : List Str} {pos : Pos} {a b c e : Expr} {ea eb ec : Ex} {es : List Expr} {xs : List Ex}
/-- a chain's first part, a bool -/
theorem bool_step {T : Tb} {K : Frag} {E : ExW} {γ δ : Type} {Rb : Rel γ δ} (sh : Sh Rb) {σ : SS} {ρ : En} {F H : Hp} {f : Bool × En → Res (γ × En)} {Q : δ → Hp → Prop} (cn : Con K E Rb σ ρ F H ((ev T ea ρ).bind fun p => (boo p).bind f) Q) :
    tB T K E ea σ H fun b H1 => ∃ ρ1 F1, Le F F1 ∧ Con K E Rb σ ρ1 F1 H1 (f (b, ρ1)) Q := by
  refine Con.bindB (ρ := ρ) sh ?_
  rw [bind_assoc]; exact cn
theorem lastmarks {b c : Expr} (hb : isSet b = false) (hc : isSet c = false) (o o' : CmpOp) : lastMarks [o, o'] [b, c] = false := notmark hc o'
theorem snd_chn (o : XOk G w k X W sc N) {op op' : Cop} (hs : isSet b = false) (hs' : isSet c = false) (ha : PE X a (tX G w k X W ea)) (hb : PE X b (tX G w k X W eb)) (hc : PE X c (tX G w k X W ec)) :
    PE X (.Compare a [cmpOp op, cmpOp op'] [b, c] pos) (tX G w k X W (.chn op op' ea eb ec)) :=
  PE.imp (L2.pe_chain (ok_cmp o.units op) (ok_cmp o.units op') ha hb hc (lastmarks hs hs' _ _)) fun _ _ _ h => chn_step h
theorem sndT_chn (o : XOk G w k X W sc N) {op op' : Cop} (hs : isSet b = false) (hs' : isSet c = false) (ha : PE X a (tX G w k X W ea)) (hb : PE X b (tX G w k X W eb)) (hc : PE X c (tX G w k X W ec)) :
    PT X (.Compare a [cmpOp op, cmpOp op'] [b, c] pos) (tXB G w k X W (.chn op op' ea eb ec)) :=
  PT.imp (L2.pt_chain (ok_cmp o.units op) (ok_cmp o.units op') ha hb hc (lastmarks hs hs' _ _)) fun _ _ _ h => chn_step (tB_of h)
theorem snd_and {r : List Expr} (ha : PE X a (tX G w k X W ea)) (hb : PE X (.BoolOp .And (b :: r) pos) (tX G w k X W eb)) : PE X (.BoolOp .And (a :: b :: r) pos) (tX G w k X W (.and ea eb)) := by
  refine PE.imp (L2.pe_and ha hb) fun σ H Q ⟨ρ, F, cn⟩ => ?_
  refine tE_mono (tB_of (bool_step sh_X cn)) fun x H1 ⟨t, hx, ρ1, F1, l1, c1⟩ => ⟨t, hx, ?_⟩
  cases t with
  | true => exact ⟨ρ1, F1, c1⟩
  | false => exact c1.finB
theorem snd_or {r : List Expr} (ha : PE X a (tX G w k X W ea)) (hb : PE X (.BoolOp .Or (b :: r) pos) (tX G w k X W eb)) : PE X (.BoolOp .Or (a :: b :: r) pos) (tX G w k X W (.or ea eb)) := by
  refine PE.imp (L2.pe_or ha hb) fun σ H Q ⟨ρ, F, cn⟩ => ?_
  refine tE_mono (tB_of (bool_step sh_X cn)) fun x H1 ⟨t, hx, ρ1, F1, l1, c1⟩ => ⟨t, hx, ?_⟩
  cases t with
  | false => exact ⟨ρ1, F1, c1⟩
  | true => exact c1.finB
/-- .. as tests -/
theorem sndW_and {r : List Expr} (ha : PT X a (tXB G w k X W ea)) (hb : L2.PW X (.BoolOp .And (b :: r) pos) (tXB G w k X W eb)) : L2.PW X (.BoolOp .And (a :: b :: r) pos) (tXB G w k X W (.and ea eb)) := by
  have base := L2.pw_and ha hb
  refine ⟨fun wh pins s σ H Q I h => base.run wh pins s σ H Q I ?_⟩
  obtain ⟨ρ, F, cn⟩ := h
  have e : ((ev (tbl G w k) (.and ea eb) ρ).bind boo) = (ev (tbl G w k) ea ρ).bind fun p => (boo p).bind fun c => (if c.1 then ev (tbl G w k) eb c.2 else retB c.2 false).bind boo := by
    rw [show ev (tbl G w k) (.and ea eb) ρ = (ev (tbl G w k) ea ρ).bind fun p => (boo p).bind fun c => if c.1 then ev (tbl G w k) eb c.2 else retB c.2 false from rfl, bind_assoc]
    congr 1; funext p; rw [bind_assoc]
  rw [e] at cn
  refine tB_mono (bool_step sh_B cn) fun t H1 ⟨ρ1, F1, l1, c1⟩ => ?_
  cases t with
  | true => exact ⟨ρ1, F1, c1⟩
  | false => exact c1.fin0 (Rl := RB) rfl
theorem sndW_or {r : List Expr} (ha : PT X a (tXB G w k X W ea)) (hb : L2.PW X (.BoolOp .Or (b :: r) pos) (tXB G w k X W eb)) : L2.PW X (.BoolOp .Or (a :: b :: r) pos) (tXB G w k X W (.or ea eb)) := by
  have base := L2.pw_or ha hb
  refine ⟨fun wh pins s σ H Q I h => base.run wh pins s σ H Q I ?_⟩
  obtain ⟨ρ, F, cn⟩ := h
  have e : ((ev (tbl G w k) (.or ea eb) ρ).bind boo) = (ev (tbl G w k) ea ρ).bind fun p => (boo p).bind fun c => (if c.1 then retB c.2 true else ev (tbl G w k) eb c.2).bind boo := by
    rw [show ev (tbl G w k) (.or ea eb) ρ = (ev (tbl G w k) ea ρ).bind fun p => (boo p).bind fun c => if c.1 then retB c.2 true else ev (tbl G w k) eb c.2 from rfl, bind_assoc]
    congr 1; funext p; rw [bind_assoc]
  rw [e] at cn
  refine tB_mono (bool_step sh_B cn) fun t H1 ⟨ρ1, F1, l1, c1⟩ => ?_
  cases t with
  | false => exact ⟨ρ1, F1, c1⟩
  | true => exact c1.fin0 (Rl := RB) rfl
theorem sndT_not (ha : PT X a (tXB G w k X W ea)) : PT X (.UnaryOp .Not a pos) (tXB G w k X W (.not ea)) := by
  refine PT.imp (L2.pt_not ha) fun σ H Q ⟨ρ, F, cn⟩ => ?_
  have e : ((ev (tbl G w k) (.not ea) ρ).bind boo) = (ev (tbl G w k) ea ρ).bind fun p => (boo p).bind fun c => (.ok (!c.1, c.2) : Res (Bool × En)) := by
    rw [show ev (tbl G w k) (.not ea) ρ = (ev (tbl G w k) ea ρ).bind fun p => (boo p).bind fun c => retB c.2 (!c.1) from rfl, bind_assoc]
    congr 1; funext p; rw [bind_assoc]; rfl
  rw [e] at cn
  exact tB_mono (bool_step sh_B cn) fun t H1 ⟨ρ1, F1, l1, c1⟩ => c1.fin0 (Rl := RB) rfl
/-- truth, as a test's value -/
theorem tru_step {T : Tb} {K : Frag} {E : ExW} {γ δ : Type} {Rb : Rel γ δ} (sh : Sh Rb) {σ : SS} {ρ : En} {F H : Hp} {f : Bool × En → Res (γ × En)} {Q : δ → Hp → Prop} (cn : Con K E Rb σ ρ F H ((ev T (.tru ea) ρ).bind fun p => (boo p).bind f) Q) :
    tE T K E ea σ H fun v H1 => ∃ t ρ1 F1, L2.TruV K v H1 t ∧ Le F F1 ∧ Con K E Rb σ ρ1 F1 H1 (f (t, ρ1)) Q := by
  rw [show ev T (.tru ea) ρ = (ev T ea ρ).bind fun p => (Pv.peek1 p.2 (opX p.1)).bind fun d => (opt (truD d)).bind (retB p.2) from rfl, bind_assoc] at cn
  refine tE_mono (Con.bindO sh cn) fun x H1 ⟨xa, ρ1, F1, o1, l1, c1⟩ => ?_
  rw [bind_assoc] at c1
  obtain ⟨d, p1, c2⟩ := c1.peek1
  rw [bind_assoc] at c2
  obtain ⟨t, ht, c3⟩ := c2.opt
  exact ⟨t, ρ1, F1, (c3.S.peek o1 p1).tru c3.le ht, l1, c3⟩
theorem snd_not (ha : PE X a (tX G w k X W ea)) : PE X (.UnaryOp .Not a pos) (tX G w k X W (.not (.tru ea))) := by
  refine PE.imp (L2.pe_notT ha) fun σ H Q ⟨ρ, F, cn⟩ => ?_
  exact tE_mono (tru_step sh_X cn) fun v H1 ⟨t, ρ1, F1, ht, l1, c1⟩ => ⟨t, ht, c1.finB⟩
theorem sndT_tru (ha : PE X a (tX G w k X W ea)) (he : ∀ whole, isTrue a X.env whole = (do let v ← whole; standAt a.pos; holding [v] (truthy v))) : PT X a (tXB G w k X W (.tru ea)) := by
  refine PT.imp (L2.pt_truth ha he) fun σ H Q ⟨ρ, F, cn⟩ => ?_
  have cn' : Con X.K (EX X.mg G.fld X.K W) RB σ ρ F H ((ev (tbl G w k) (.tru ea) ρ).bind fun p => (boo p).bind fun c => (.ok c : Res (Bool × En))) Q := by
    have e : ((ev (tbl G w k) (.tru ea) ρ).bind boo) = (ev (tbl G w k) (.tru ea) ρ).bind fun p => (boo p).bind fun c => (.ok c : Res (Bool × En)) := by
      congr 1; funext p; cases boo p <;> rfl
    rw [← e]; exact cn
  exact tE_mono (tru_step sh_B cn') fun v H1 ⟨t, ρ1, F1, ht, l1, c1⟩ => ⟨t, ht, c1.fin0 (Rl := RB) rfl⟩
theorem snd_ite (hc : PT X c (tXB G w k X W ec)) (ha : PE X a (tX G w k X W ea)) (hb : PE X b (tX G w k X W eb)) : PE X (.IfExp c a b pos) (tX G w k X W (.ite ec ea eb)) := by
  refine PE.imp (L2.pe_ifExp hc ha hb) fun σ H Q ⟨ρ, F, cn⟩ => ?_
  refine tB_mono (bool_step sh_X cn) fun t H1 ⟨ρ1, F1, l1, c1⟩ => ?_
  cases t with
  | true => exact ⟨ρ1, F1, c1⟩
  | false => exact ⟨ρ1, F1, c1⟩
/-! ### lists of terms -/
theorem star_cons {e : Expr} (h : notStar e = true) (es : List Expr) (env : Env) : starEach (e :: es) env = (false, eval e env) :: starEach es env := by cases e <;> first | rfl | cases h
theorem star_any {es : List Expr} (h : es.all notStar = true) (env : Env) (pos : Pos) : (backTo pos (starEach es env)).any (·.1) = false := by
  induction es with
  | nil => rfl
  | cons e r ih =>
    rw [List.all_cons, Bool.and_eq_true] at h
    rw [star_cons h.1]
    exact ih h.2
/-- every term of a list is read -/
def AllE (G : Prog) (w k : Nat) (X : Cx) (W : L2.WX) (f : Expr → Ex) (es : List Expr) : Prop := ∀ e ∈ es, PE X e (tX G w k X W (f e))
theorem snd_ds {f : Expr → Ex} : ∀ {es : List Expr}, es.all notStar = true → AllE G w k X W f es → PA X es (tXd G w k X W (es.map f))
  | [], _, _ => PA.imp L2.pa_nil fun σ H Q ⟨ρ, F, cn⟩ => cn.fin0 (Rl := RDs X.K) VRs.nil
  | e :: r, h, al => by
    rw [List.all_cons, Bool.and_eq_true] at h
    have he := al e List.mem_cons_self
    have hr := snd_ds h.2 fun x hx => al x (List.mem_cons_of_mem _ hx)
    refine PA.imp (L2.pa_cons he hr (star_cons h.1 r X.env)) fun σ H Q ⟨ρ, F, cn⟩ => ?_
    refine tE_mono (Con.bindF (ρ := ρ) sh_Ds (show Con X.K _ (RDs X.K) σ ρ F H (((ev (tbl G w k) (f e) ρ).bind frz).bind fun p => (evL (tbl G w k) (r.map f) p.2).bind fun q => .ok (p.1 :: q.1, q.2)) Q from cn)) fun x H1 ⟨d, ρ1, F1, r1, l1, c1⟩ => ?_
    refine tDs_mono (Con.bindDs sh_Ds c1) fun vs H2 ⟨ds, ρ2, F2, r2, l2, c2⟩ => c2.fin0 (Rl := RDs X.K) (VRs.cons (r1.mono l2) r2)
theorem snd_os {f : Expr → Ex} : ∀ {es : List Expr}, es.all notStar = true → AllE G w k X W f es → PA X es (tXs G w k X W (es.map f))
  | [], _, _ => PA.imp L2.pa_nil fun σ H Q ⟨ρ, F, cn⟩ => cn.fin0 (Rl := ROs X.K σ) OpRs.nil
  | e :: r, h, al => by
    rw [List.all_cons, Bool.and_eq_true] at h
    have he := al e List.mem_cons_self
    have hr := snd_os h.2 fun x hx => al x (List.mem_cons_of_mem _ hx)
    refine PA.imp (L2.pa_cons he hr (star_cons h.1 r X.env)) fun σ H Q ⟨ρ, F, cn⟩ => ?_
    refine tE_mono (Con.bindO (ρ := ρ) sh_Os (show Con X.K _ (ROs X.K σ) σ ρ F H ((ev (tbl G w k) (f e) ρ).bind fun p => (evOs (tbl G w k) (r.map f) p.2).bind fun q => .ok (opX p.1 :: q.1, q.2)) Q from cn)) fun x H1 ⟨d, ρ1, F1, r1, l1, c1⟩ => ?_
    refine tOs_mono (Con.bindOs sh_Os c1) fun vs H2 ⟨ds, ρ2, F2, r2, l2, c2⟩ => c2.fin0 (Rl := ROs X.K σ) (OpRs.cons (r1.mono l2) r2)
theorem snd_tup {j : Nat} (h : PA X es (tXd G w k X W xs)) : PE X (.Tuple es j pos) (tX G w k X W (.tup xs)) := by
  refine PE.imp (L2.pe_tup h) fun σ H Q ⟨ρ, F, cn⟩ => ?_
  refine tDs_mono (Con.bindDs sh_X cn) fun vs H1 ⟨ds, ρ1, F1, r1, l1, c1⟩ => ?_
  obtain ⟨hz, c2⟩ := c1.lim
  exact ⟨by rw [← lim_line, ← r1.length]; exact hz, fun p n => Fin.newT (Con.finR (r := .val (.tuple ds)) c2) c2.le r1 p n⟩
theorem snd_lst (h : PA X es (tXd G w k X W xs)) : PE X (.List es pos) (tX G w k X W (.lst xs)) := by
  refine PE.imp (L2.pe_lst h) fun σ H Q ⟨ρ, F, cn⟩ => ?_
  refine tDs_mono (Con.bindDs sh_X cn) fun vs H1 ⟨ds, ρ1, F1, r1, l1, c1⟩ => ?_
  obtain ⟨hz, c2⟩ := c1.lim
  exact ⟨by rw [← lim_line, ← r1.length]; exact hz, fun p n => Fin.newL (Con.finR (r := .fresh (.list ds)) c2) c2.le r1 p n⟩
/-! ### items, slices -/
def isSlice : Expr → Bool
  | .Slice _ _ _ _ => true
  | _ => false
theorem plain_ix {i : Expr} (h : isSlice i = false) : L2.PlainIx i := by
  intro o v
  cases i <;> first | rfl | cases h
theorem snd_sub (hi : isSlice b = false) (ha : PE X a (tX G w k X W ea)) (hb : PE X b (tX G w k X W eb)) : PE X (.Subscript a b pos) (tX G w k X W (.sub ea eb)) := by
  refine PE.imp (L2.pe_ix ok_sub_ ha hb (plain_ix hi)) fun σ H Q ⟨ρ, F, c⟩ => ?_
  refine tE_mono (Con.bindO sh_X c) fun x H1 ⟨xa, ρ1, F1, o1, l1, c1⟩ => ?_
  refine tE_mono (Con.bindO sh_X c1) fun y H2 ⟨ya, ρ2, F2, o2, l2, c2⟩ => ?_
  obtain ⟨d, e, p1, p2, c3⟩ := c2.peek2
  obtain ⟨r, hr, c4⟩ := c3.opt
  exact ⟨F2, d, e, r, c4.le, c4.S.peek (o1.mono l2) p1, c4.S.peek o2 p2, hr, fun v hv => c4.finD hv⟩
/-- an optional part of a slice -/
abbrev RPi : Rel (Option Int) (Option Int) := fun _ _ _ _ a b => a = b
theorem sh_Pi : Sh RPi := fun _ _ _ _ _ _ _ _ r => r
def tXp (G : Prog) (w k : Nat) (X : Cx) (W : L2.WX) (e : Option Ex) : L2.TO := fun σ H Q => ∃ ρ F, Con X.K (EX X.mg G.fld X.K W) RPi σ ρ F H (evP (tbl G w k) e ρ) Q
theorem snd_part {f : Expr → Ex} {o : Option Expr} (h : ∀ e, o = some e → PE X e (tX G w k X W (f e))) : L2.PO X o (tXp G w k X W (o.map f)) := by
  cases o with
  | none => exact ⟨fun pins s σ H Q I ⟨ρ, F, cn⟩ => L2.po_none.run pins s σ H Q I (cn.fin0 (Rl := RPi) rfl)⟩
  | some e =>
    have base := L2.po_some (h e rfl)
    refine ⟨fun pins s σ H Q I hq => base.run pins s σ H Q I ?_⟩
    obtain ⟨ρ, F, cn⟩ := hq
    refine tE_mono (Con.bindF (ρ := ρ) sh_Pi (show Con X.K _ RPi σ ρ F H (((ev (tbl G w k) (f e) ρ).bind frz).bind fun p => (opt (intD p.1)).bind fun i => .ok (some i, p.2)) Q from cn)) fun x H1 ⟨d, ρ1, F1, r1, l1, c1⟩ => ?_
    obtain ⟨i, hi, c2⟩ := c1.opt
    cases d <;> simp only [intD, reduceCtorEq, Option.some.injEq] at hi
    subst hi
    cases r1
    exact ⟨_, rfl, c2.fin0 (Rl := RPi) rfl⟩
theorem tXp_bind {γ δ : Type} {Rb : Rel γ δ} (sh : Sh Rb) {σ : SS} {ρ : En} {F H : Hp} {o : Option Ex} {f : Option Int × En → Res (γ × En)} {Q : δ → Hp → Prop} (c : Con X.K (EX X.mg G.fld X.K W) Rb σ ρ F H ((evP (tbl G w k) o ρ).bind f) Q) :
    tXp G w k X W o σ H fun b H1 => ∃ ρ1 F1, Le F F1 ∧ Con X.K (EX X.mg G.fld X.K W) Rb σ ρ1 F1 H1 (f (b, ρ1)) Q := by
  refine ⟨ρ, F, ?_⟩
  have q := c.bind (Ra := RPi) sh
  refine ⟨q.S, ?_⟩
  have p := q.P
  revert p
  cases evP (tbl G w k) o ρ with
  | bad => exact id
  | rs _ _ _ => exact id
  | ok x =>
    intro p b F1 H1 m r
    obtain ⟨a', ρ1, F1', h1, h2, h3⟩ := p b F1 H1 m r
    cases h1
    exact ⟨ρ1, F1', h2.st.sub, h3⟩
theorem tXp_mono {o : Option Ex} {σ : SS} {H : Hp} {Q Q' : Option Int → Hp → Prop} (h : tXp G w k X W o σ H Q) (i : ∀ v H', Q v H' → Q' v H') : tXp G w k X W o σ H Q' := by
  obtain ⟨ρ, F, c⟩ := h
  refine ⟨ρ, F, c.S, ?_⟩
  have p := c.P
  revert p
  cases evP (tbl G w k) o ρ with
  | ok x => exact fun p v F' H' m r => i _ _ (p v F' H' m r)
  | rs _ _ _ => exact id
  | bad => exact id
theorem snd_sli {f : Expr → Ex} {lo hi : Option Expr} {p2 : Pos} (ha : PE X a (tX G w k X W ea)) (hl : ∀ e, lo = some e → PE X e (tX G w k X W (f e))) (hh : ∀ e, hi = some e → PE X e (tX G w k X W (f e))) :
    PE X (.Subscript a (.Slice lo hi none p2) pos) (tX G w k X W (.sli ea (lo.map f) (hi.map f))) := by
  refine PE.imp (L2.pe_slice ok_sli ha (snd_part hl) (snd_part hh)) fun σ H Q ⟨ρ, F, c⟩ => ?_
  refine tE_mono (Con.bindO sh_X c) fun x H1 ⟨xa, ρ1, F1, o1, l1, c1⟩ => ?_
  refine tXp_mono (tXp_bind sh_X c1) fun l H2 ⟨ρ2, F2, l2, c2⟩ => ?_
  refine tXp_mono (tXp_bind sh_X c2) fun h H3 ⟨ρ3, F3, l3, c3⟩ => ?_
  obtain ⟨d, p1, c4⟩ := c3.peek1
  obtain ⟨r, hr, c5⟩ := c4.opt
  exact ⟨F3, d, r, c5.le, c5.S.peek (o1.mono (l2.trans l3)) p1, hr, c5.finR⟩
/-- xs[::-1] of a list -/
theorem snd_rvs {j : Nat} {p1 p2 p3 : Pos} (ha : PE X a (tX G w k X W ea)) : PE X (.Subscript a (.Slice none none (some (.UnaryOp .USub (.Constant (.int 1) j p1) p2)) p3) pos) (tX G w k X W (.rvs ea)) := by
  refine PE.imp (L2.pe_revL ha) fun σ H Q ⟨ρ, F, c⟩ => ?_
  refine tE_mono (Con.bindO sh_X c) fun x H1 ⟨xa, ρ1, F1, o1, l1, c1⟩ => ?_
  obtain ⟨d, p1, c2⟩ := c1.peek1
  obtain ⟨r, hr, c3⟩ := c2.opt
  have ox := c3.S.peek o1 p1
  cases d <;> simp only [rvsD, reduceCtorEq, Option.some.injEq] at hr
  subst hr
  obtain ⟨p, vs, rfl, hp, rp⟩ := ox.list c3.le
  exact ⟨p, vs, rfl, hp, fun q n => (c3.finR).newL c3.le rp.reverse q n⟩
/-! ### calls of built-ins -/
theorem snd_bi {x : Str} {p : Pos} {id : String} {b : Bi} (o : XOk G w k X W sc N) (hc : L2.CallR X (.builtin id) (rBi X.K b)) (hg : gloB sc x = true) (hm : X.mg x = none) (hv : bootBuiltins x = some (.builtin id)) (hne : es ≠ []) (hs : es.all notStar = true) (ha : PA X es (tXs G w k X W xs)) (hn : x ≠ "__name__") (hd : (x == ("__debug__" : Str)) = false)
    (hb : b ≠ .gcd) : PE X (.Call (.Name x p) es [] pos) (tX G w k X W (.bi b xs)) := by
  cases es with
  | nil => exact absurd rfl hne
  | cons e r =>
    have hs2 := hs
    rw [List.all_cons, Bool.and_eq_true] at hs
    refine PE.imp (L2.pe_callB hc (gloB_ok o hg) hm hv ha hn hd (star_cons hs.1 r X.env) (star_any hs.2 X.env pos)) fun σ H Q ⟨ρ, F, cn⟩ => ?_
    rw [show ev (tbl G w k) (.bi b xs) ρ = (evOs (tbl G w k) xs ρ).bind fun p => (opt (peeks p.2 p.1)).bind fun ds => (opt (biD b ds)).bind (retX p.2) by cases b <;> first | exact absurd rfl hb | rfl] at cn
    refine tOs_mono (Con.bindOs sh_X cn) fun vs H1 ⟨os, ρ1, F1, r1, l1, c1⟩ => ?_
    obtain ⟨ds, hd, c2⟩ := c1.opt
    obtain ⟨q, hq, c3⟩ := c2.opt
    refine ⟨F1, ds, q, c3.le, c3.S.peeks r1 hd, hq, c3.finR⟩
theorem snd_ty {x : Str} {p : Pos} {id : String} {b : Bi} (o : XOk G w k X W sc N) (hc : L2.CallR X (.type id) (rBi X.K b)) (hg : gloB sc x = true) (hm : X.mg x = none) (hv : bootBuiltins x = some (.type id)) (hne : es ≠ []) (hs : es.all notStar = true) (ha : PA X es (tXs G w k X W xs)) (hn : x ≠ "__name__") (hd : (x == ("__debug__" : Str)) = false)
    (hb : b ≠ .gcd) : PE X (.Call (.Name x p) es [] pos) (tX G w k X W (.bi b xs)) := by
  cases es with
  | nil => exact absurd rfl hne
  | cons e r =>
    rw [List.all_cons, Bool.and_eq_true] at hs
    refine PE.imp (L2.pe_callTy hc (gloB_ok o hg) hm hv ha hn hd (star_cons hs.1 r X.env) (star_any hs.2 X.env pos)) fun σ H Q ⟨ρ, F, cn⟩ => ?_
    rw [show ev (tbl G w k) (.bi b xs) ρ = (evOs (tbl G w k) xs ρ).bind fun p => (opt (peeks p.2 p.1)).bind fun ds => (opt (biD b ds)).bind (retX p.2) by cases b <;> first | exact absurd rfl hb | rfl] at cn
    refine tOs_mono (Con.bindOs sh_X cn) fun vs H1 ⟨os, ρ1, F1, r1, l1, c1⟩ => ?_
    obtain ⟨ds, hd, c2⟩ := c1.opt
    obtain ⟨q, hq, c3⟩ := c2.opt
    refine ⟨F1, ds, q, c3.le, c3.S.peeks r1 hd, hq, c3.finR⟩
theorem snd_gcd {p : Pos} (o : XOk G w k X W sc N) (hg : gloB sc "gcd" = true) (hne : es ≠ []) (hs : es.all notStar = true) (ha : PA X es (tXs G w k X W xs)) : PE X (.Call (.Name "gcd" p) es [] pos) (tX G w k X W (.bi .gcd xs)) := by
  cases es with
  | nil => exact absurd rfl hne
  | cons e r =>
    rw [List.all_cons, Bool.and_eq_true] at hs
    cases hgc : G.gcd with
    | false =>
      refine ⟨fun pins s σ H Q I ⟨ρ, F, cn⟩ => ?_⟩
      rw [show ev (tbl G w k) (.bi .gcd xs) ρ = .bad by simp only [ev, tbl_gcd, hgc, okBi]; rfl] at cn
      exact cn.P.elim
    | true =>
      refine PE.imp (L2.pe_callBfun ok_gcd (gloB_ok o hg) (o.gcd hgc) ha (by decide) (star_cons hs.1 r X.env) (star_any hs.2 X.env pos)) fun σ H Q ⟨ρ, F, cn⟩ => ?_
      rw [show ev (tbl G w k) (.bi .gcd xs) ρ = (evOs (tbl G w k) xs ρ).bind fun p => (opt (peeks p.2 p.1)).bind fun ds => (opt (biD .gcd ds)).bind (retX p.2) by simp only [ev, tbl_gcd, hgc, okBi]; rfl] at cn
      refine tOs_mono (Con.bindOs sh_X cn) fun vs H1 ⟨os, ρ1, F1, r1, l1, c1⟩ => ?_
      obtain ⟨ds, hd, c2⟩ := c1.opt
      obtain ⟨q, hq, c3⟩ := c2.opt
      exact ⟨F1, ds, q, c3.le, c3.S.peeks r1 hd, hq, c3.finR⟩
/-- isinstance -/
def kitAll (ts : List String) (d : D) : Option Bool := match ts with
  | [] => some false
  | t :: r => match L2.kitB (tyD d) t with
    | some true => some true
    | some false => kitAll r d
    | none => none
theorem kit_isi (d : D) : ∀ ts : List String, (∀ t ∈ ts, t ∈ tyNames.map (·.2)) → kitAll ts d = some (isiD ts d) := by
  intro ts
  induction ts with
  | nil => intro _; rfl
  | cons t r ih =>
    intro h
    have ih' := ih fun x hx => h x (List.mem_cons_of_mem _ hx)
    have ht := h t List.mem_cons_self
    have one : ∀ T, T ∈ ["NoneType", "bool", "int", "str", "list", "tuple", "dict"] → ∀ t, t ∈ tyNames.map (·.2) → L2.kitB T t = some (T == t || (t == "int" && T == "bool")) := by decide +kernel
    have hT : tyD d ∈ ["NoneType", "bool", "int", "str", "list", "tuple", "dict"] := by cases d <;> simp [tyD]
    unfold kitAll
    rw [one _ hT _ ht, ih']
    unfold isiD
    rw [List.any_cons]
    cases (tyD d == t || (t == "int" && tyD d == "bool")) <;> rfl
theorem OR.ty {K : Frag} {F H : Hp} {d : D} {v : V} (l : Le F H) (o : OR K F H d v) : L2.TyX K H v (.type (tyD d)) := by
  cases d with
  | none => cases o.none; exact .base .non
  | bool b => cases o.bool; exact .base (.bl b)
  | int i => cases o.int; exact .base (.int i)
  | str x => cases o.str; exact .base (.str x)
  | list xs =>
    obtain ⟨p, vs, rfl, hp, r⟩ := o.list l
    rcases hp with hp | ⟨ob, _, _, hk, hc, _⟩
    · rcases hp with hp | ⟨ob, hp⟩
      · exact .base (.lst hp)
      · exact .base (.frz hp)
    · exact .kList hk hc
  | tuple xs =>
    obtain ⟨p, vs, rfl, hp, r⟩ := o.tuple l
    rcases hp with hp | ⟨ob, _, _, hk, hc, _⟩
    · rcases hp with hp | ⟨ob, hp⟩
      · exact .base (.tup hp)
      · exact .fTuple hp
    · exact .kTuple hk hc
  | dict kvs =>
    rcases o with o | o
    · cases o
    · exact o.elim
theorem tyOf1_ok (o : XOk G w k X W sc N) {e : Expr} {t : String} (h : tyOf1 sc e = some t) : t ∈ tyNames.map (·.2) ∧ PE X e (L2.tC (.ty t)) ∧ notStar e = true := by
  cases e <;> simp only [tyOf1, reduceCtorEq] at h
  rename_i x p
  split at h
  · rename_i hx
    rw [Bool.and_eq_true] at hx
    have hl : (x, t) ∈ tyNames := PySem.mem_of_lookup h
    refine ⟨List.mem_map.mpr ⟨(x, t), hl, rfl⟩, ?_, rfl⟩
    have all : ∀ y ∈ tyNames, bootBuiltins y.1 = some (.type y.2) ∧ y.1 ∈ bltNames ∧ y.1 ≠ "__name__" := by decide +kernel
    obtain ⟨h1, h2, h3⟩ := all _ hl
    exact L2.pe_bltn (gloB_ok o hx.1) (o.blt x h2) h1 rfl h3 (okName_ok hx.2).1
  · cases h
theorem tysOf_ok (o : XOk G w k X W sc N) : ∀ {es : List Expr} {ts : List String}, tysOf sc es = some ts → (∀ t ∈ ts, t ∈ tyNames.map (·.2)) ∧ PA X es (fun σ H Q => Q (ts.map V.ty) H) ∧ es.all notStar = true
  | [], ts, h => by
    cases h
    exact ⟨(fun _ z => by cases z), PA.imp L2.pa_nil (fun _ _ _ q => q), rfl⟩
  | e :: r, ts, h => by
    simp only [tysOf] at h
    split at h
    · rename_i t us h1 h2
      cases h
      obtain ⟨a1, a2, a3⟩ := tyOf1_ok o h1
      obtain ⟨b1, b2, b3⟩ := tysOf_ok o h2
      refine ⟨fun x hx => (List.mem_cons.mp hx).elim (fun z => z ▸ a1) (b1 x), PA.imp (L2.pa_cons a2 b2 (star_cons a3 r X.env)) fun σ H Q q => q, by rw [List.all_cons, a3, b3]; rfl⟩
    · cases h
theorem kitAny_of {K : Frag} {t : String} : ∀ {ts : List String} {b : Bool}, (∀ d : D, tyD d = t → kitAll ts d = some b) → (∃ d : D, tyD d = t) → PySem.W.kitAny K (.type t) (ts.map Value.type) = some b
  | [], b, h, ⟨d, hd⟩ => by
    have := h d hd
    cases this
    rfl
  | s :: r, b, h, ⟨d, hd⟩ => by
    have h0 := h d hd
    unfold kitAll at h0
    rw [hd] at h0
    split at h0
    · rename_i e
      cases h0
      exact L2.kitAny_cons (r := true) (L2.kit_ty e) (fun z => nomatch z) fun _ => rfl
    · rename_i e
      refine L2.kitAny_cons (L2.kit_ty e) (fun _ => kitAny_of (fun d' hd' => ?_) ⟨d, hd⟩) fun z => nomatch z
      have h1 := h d' hd'
      unfold kitAll at h1
      rw [hd', e] at h1
      exact h1
    · cases h0
theorem cls_all : ∀ l : List String, Paired L2.ClsV (l.map V.ty) (l.map Value.type)
  | [] => .nil
  | t :: r => .cons (.ty t) (cls_all r)
theorem snd_isi1 {x : Str} {p : Pos} {t : Expr} {l : String} (o : XOk G w k X W sc N) (hx : x = "isinstance") (hg : gloB sc x = true) (ht : tyOf1 sc t = some l) (hn : notStar e = true) (he : PE X e (tX G w k X W ea)) : PE X (.Call (.Name x p) [e, t] [] pos) (tX G w k X W (.bi (.isi [l]) [ea])) := by
  subst hx
  obtain ⟨h1, h2, h3⟩ := tyOf1_ok o ht
  have ha := L2.pa_cons he (L2.pa_cons h2 L2.pa_nil (star_cons h3 [] X.env)) (star_cons hn [t] X.env)
  refine PE.imp (L2.pe_callB L2.call_isi (gloB_ok o hg) (o.blt _ (by decide)) boot_isinstance ha (by decide) (by decide) (star_cons hn [t] X.env) (star_any (es := [t]) (by rw [List.all_cons, h3]; rfl) X.env pos)) fun σ H Q ⟨ρ, F, cn⟩ => ?_
  refine tE_mono (Con.bindO (ρ := ρ) sh_X (show Con X.K _ (RX X.K σ) σ ρ F H ((ev (tbl G w k) ea ρ).bind fun q => (opt (peeks q.2 [opX q.1])).bind fun ds => (opt (biD (.isi [l]) ds)).bind (retX q.2)) Q from ?_)) fun v H1 ⟨xa, ρ1, F1, o1, l1, c1⟩ => ?_
  · have e : ev (tbl G w k) (.bi (.isi [l]) [ea]) ρ = (ev (tbl G w k) ea ρ).bind fun q => (opt (peeks q.2 [opX q.1])).bind fun ds => (opt (biD (.isi [l]) ds)).bind (retX q.2) := by
      show (((ev (tbl G w k) ea ρ).bind fun p => (Res.ok ([], p.2)).bind fun q => (Res.ok (opX p.1 :: q.1, q.2) : Res (List Op × En))).bind _) = _
      rw [bind_assoc]; rfl
    rw [← e]; exact cn
  · obtain ⟨ds, hd, c2⟩ := c1.opt
    obtain ⟨q, hq, c3⟩ := c2.opt
    have r1 := c3.S.peeks (OpRs.cons o1 .nil) hd
    cases r1 with
    | cons r1 r2 =>
      cases r2
      rename_i d
      cases hq
      refine ⟨v, .ty l, .type (tyD d), .type l, isiD [l] d, rfl, .ty l, r1.ty c3.le, ?_, c3.finR.val c3.le (.bl _)⟩
      have hk := kit_isi d [l] fun y hy => by rw [List.mem_singleton.mp hy]; exact h1
      unfold kitAll at hk
      split at hk
      · rename_i e; rw [← hk]; exact L2.kit_ty e
      · rename_i e; rw [← hk]; exact L2.kit_ty e
      · cases hk
theorem snd_isiT {x : Str} {p p2 : Pos} {ts : List Expr} {j : Nat} {l : List String} (o : XOk G w k X W sc N) (hx : x = "isinstance") (hg : gloB sc x = true) (ht : tysOf sc ts = some l) (hn : notStar e = true) (hl : ts.length ≤ 100) (he : PE X e (tX G w k X W ea)) : PE X (.Call (.Name x p) [e, .Tuple ts j p2] [] pos) (tX G w k X W (.bi (.isi l) [ea])) := by
  subst hx
  obtain ⟨h1, h2, h3⟩ := tysOf_ok o ht
  have hlen : ∀ {es : List Expr} {us : List String}, tysOf sc es = some us → us.length = es.length := fun {es} => by
    induction es with
    | nil => intro us h; cases h; rfl
    | cons e r ih =>
      intro us h
      simp only [tysOf] at h
      split at h
      · rename_i t vs h1 h2
        cases h
        rw [List.length_cons, List.length_cons, ih h2]
      · cases h
  have ha := L2.pa_cons he (L2.pa_cons (L2.pe_tup (x1 := j) (pos := p2) h2) L2.pa_nil (star_cons rfl [] X.env)) (star_cons hn [.Tuple ts j p2] X.env)
  refine PE.imp (L2.pe_callB L2.call_isiT (gloB_ok o hg) (o.blt _ (by decide)) boot_isinstance ha (by decide) (by decide) (star_cons hn _ X.env) (star_any (es := [.Tuple ts j p2]) rfl X.env pos)) fun σ H Q ⟨ρ, F, cn⟩ => ?_
  refine tE_mono (Con.bindO (ρ := ρ) sh_X (show Con X.K _ (RX X.K σ) σ ρ F H ((ev (tbl G w k) ea ρ).bind fun q => (opt (peeks q.2 [opX q.1])).bind fun ds => (opt (biD (.isi l) ds)).bind (retX q.2)) Q from ?_)) fun v H1 ⟨xa, ρ1, F1, o1, l1, c1⟩ => ?_
  · have e : ev (tbl G w k) (.bi (.isi l) [ea]) ρ = (ev (tbl G w k) ea ρ).bind fun q => (opt (peeks q.2 [opX q.1])).bind fun ds => (opt (biD (.isi l) ds)).bind (retX q.2) := by
      show (((ev (tbl G w k) ea ρ).bind fun p => (Res.ok ([], p.2)).bind fun q => (Res.ok (opX p.1 :: q.1, q.2) : Res (List Op × En))).bind _) = _
      rw [bind_assoc]; rfl
    rw [← e]; exact cn
  · obtain ⟨ds, hd, c2⟩ := c1.opt
    obtain ⟨q, hq, c3⟩ := c2.opt
    have r1 := c3.S.peeks (OpRs.cons o1 .nil) hd
    cases r1 with
    | cons r1 r2 =>
      cases r2
      rename_i d
      cases hq
      refine ⟨by rw [List.length_map, hlen ht]; exact Nat.le_trans hl (by rw [sizeLine_eq]; decide), fun tp ntp => ?_⟩
      have tyx : L2.TyX X.K (upd H1 tp (.tup (l.map V.ty))) v (.type (tyD d)) := by
        have l2 : Le H1 (upd H1 tp (.tup (l.map V.ty))) := fun b u hb => by
          rw [upd_ne]; exact hb
          rintro rfl; rw [hb] at ntp; cases ntp
        refine OR.ty (F := F1) (K := X.K) (c3.le.trans l2) ?_
        rcases r1 with r1 | r1
        · exact .inl r1
        · exact .inr (r1.mono (Le.refl _) (fun _ _ o ho => l2 _ _ ho) fun _ _ h => h)
      refine ⟨v, tp, l.map V.ty, .type (tyD d), l.map Value.type, isiD l d, rfl, upd_same, ?_, tyx, kitAny_of (fun d' hd' => ?_) ⟨d, rfl⟩, ?_⟩
      · exact cls_all l
      · rw [kit_isi d' l h1]
        unfold isiD
        rw [hd']
      · exact c3.finR _ F1 _ (Stp.laidO ntp) (c3.le.laidR (c3.le.tie ntp)) (VR.bl _)
end
end Pv
end
section
/-! Pv11: calls of the text's own defs; changes of lists. -/
namespace Pv
open PySem PySem.Spec PyProof.Rows
open L2 (V Hp HO SqL SqT upd upd_same upd_ne VK TE TA Cx PE PA PT Inv Same Vals RelV Room Takes)
section
variable {K : Frag} {σ : SS} {ρ : En} {F H F' H' : Hp}
theorem OpRs.get : ∀ {xs : List Op} {vs : List V} {j : Nat} {o : Op}, OpRs K σ F xs vs → xs[j]? = some o → ∃ v, vs[j]? = some v ∧ OpR K σ F o v
  | _, _, _, _, .nil, e => by simp at e
  | _, _, 0, _, .cons r _, e => by simp at e; subst e; exact ⟨_, rfl, r⟩
  | _, _, j + 1, o, .cons _ t, e => by
    obtain ⟨v, h1, h2⟩ := OpRs.get (j := j) (o := o) t (by simpa using e)
    exact ⟨v, by simpa using h1, h2⟩
theorem OpRs.length : ∀ {xs : List Op} {vs : List V}, OpRs K σ F xs vs → xs.length = vs.length
  | _, _, .nil => rfl
  | _, _, .cons _ t => by rw [List.length_cons, List.length_cons, t.length]
theorem argsOf_len : ∀ {xs : List Op} {as : List Slot}, argsOf ρ xs = some as → as.length = xs.length
  | [], as, h => by cases h; rfl
  | o :: r, as, h => by
    simp only [argsOf] at h
    split at h
    · rename_i d ds h1 h2
      cases h
      rw [List.length_cons, List.length_cons, argsOf_len h2]
    · cases h
theorem argsOf_get : ∀ {xs : List Op} {as : List Slot} {j : Nat} {s : Slot}, argsOf ρ xs = some as → as[j]? = some s → ∃ o, xs[j]? = some o ∧ argOf ρ o = some s
  | [], as, j, s, h, e => by cases h; simp at e
  | o :: r, as, j, s, h, e => by
    simp only [argsOf] at h
    split at h
    · rename_i d ds h1 h2
      cases h
      cases j with
      | zero => simp at e; subst e; exact ⟨o, rfl, h1⟩
      | succ j => exact argsOf_get (j := j) h2 (by simpa using e)
    · cases h
theorem argOf_own {o : Op} {d : D} (h : argOf ρ o = some (.own d)) : ∃ i, o = .slot i ∧ ρ[i]? = some (.own d) := by
  cases o with
  | imm _ => simp [argOf] at h
  | slot i =>
    simp only [argOf] at h
    split at h
    · rename_i e; cases h; exact ⟨i, rfl, e⟩
    · cases h
    · cases h
theorem argOf_val {o : Op} {d : D} {v : V} (S : SR K ρ F σ H) (r : OpR K σ F o v) (h : argOf ρ o = some (.val d)) : VR K F d v := by
  cases o with
  | imm _ => simp [argOf] at h; subst h; exact r
  | slot i =>
    simp only [argOf] at h
    split at h
    · cases h
    · rename_i e
      cases h
      obtain ⟨w, h1, h2⟩ := S.val e
      have r' : σ[i]? = some (some v) := r
      rw [r'] at h1; cases h1; exact h2
    · cases h
theorem argOf_un {o : Op} (h : argOf ρ o = some .un) : False := by
  cases o with
  | imm _ => simp [argOf] at h
  | slot i => simp only [argOf] at h; split at h <;> cases h
theorem slots_apart : ∀ {xs : List Op} {j j' i : Nat}, distinct (slotsOf xs) = true → xs[j]? = some (.slot i) → xs[j']? = some (.slot i) → j = j'
  | [], j, j', i, _, h, _ => by simp at h
  | o :: r, j, j', i, hd, h, h' => by
    have mem : ∀ {ys : List Op} {m : Nat}, ys[m]? = some (.slot i) → i ∈ slotsOf ys := fun {ys} => by
      induction ys with
      | nil => intro m hm; simp at hm
      | cons y ys ih =>
        intro m hm
        cases m with
        | zero => simp at hm; subst hm; simp [slotsOf]
        | succ m =>
          have := ih (m := m) (by simpa using hm)
          cases y <;> simp [slotsOf, this]
    have hd' : distinct (slotsOf r) = true := by
      cases o with
      | imm _ => exact hd
      | slot q => simp only [slotsOf, distinct, Bool.and_eq_true] at hd; exact hd.2
    cases j with
    | zero =>
      cases j' with
      | zero => rfl
      | succ m =>
        simp at h; subst h
        have := mem (ys := r) (m := m) (by simpa using h')
        simp only [slotsOf, distinct, Bool.and_eq_true, Bool.not_eq_true'] at hd
        have h2 := hd.1
        simp [this] at h2
    | succ j =>
      cases j' with
      | zero =>
        simp at h'; subst h'
        have := mem (ys := r) (m := j) (by simpa using h)
        simp only [slotsOf, distinct, Bool.and_eq_true, Bool.not_eq_true'] at hd
        have h2 := hd.1
        simp [this] at h2
      | succ m => rw [slots_apart (xs := r) (j := j) (j' := m) hd' (by simpa using h) (by simpa using h')]
theorem vget {vs : List V} {j : Nat} {v : V} (h : vs[j]? = some v) : (vs.map some)[j]? = some (some v) := by rw [List.getElem?_map, h]; rfl
/-- the arguments, as a state of their own -/
theorem SR.args (S : SR K ρ F σ H) {xs : List Op} {vs : List V} {as : List Slot} (r : OpRs K σ F xs vs) (ha : argsOf ρ xs = some as) (hd : distinct (slotsOf xs) = true) : SR K as F (vs.map some) H := by
  refine ⟨S.sub, by rw [List.length_map, argsOf_len ha, r.length], fun j s h => ?_, fun j j' d e p h h' hs hs' => ?_⟩
  · obtain ⟨o, ho, hs⟩ := argsOf_get ha h
    obtain ⟨v, hv, rv⟩ := r.get ho
    rw [vget hv]
    cases s with
    | un => trivial
    | val d => exact argOf_val S rv hs
    | own d =>
      obtain ⟨i, rfl, hi⟩ := argOf_own hs
      obtain ⟨v', h1, h2⟩ := S.own hi
      have rv' : σ[i]? = some (some v) := rv
      rw [rv'] at h1; cases h1
      exact h2
  · obtain ⟨o, ho, ha1⟩ := argsOf_get ha h
    obtain ⟨o', ho', ha2⟩ := argsOf_get ha h'
    obtain ⟨i, rfl, hi⟩ := argOf_own ha1
    obtain ⟨i', rfl, hi'⟩ := argOf_own ha2
    obtain ⟨v, hv, rv⟩ := r.get ho
    obtain ⟨v', hv', rv'⟩ := r.get ho'
    rw [vget hv] at hs; cases hs
    rw [vget hv'] at hs'; cases hs'
    have e1 := S.apart i i' d e p hi hi' rv rv'
    subst e1
    exact slots_apart hd ho ho'
theorem own_args {xs : List Op} {vs : List V} {as : List Slot} (r : OpRs K σ F xs vs) (ha : argsOf ρ xs = some as) {p : Addr} (h : Own as (vs.map some) p) : ∃ (j i : Nat) (d : D), xs[j]? = some (Op.slot i) ∧ as[j]? = some (Slot.own d) ∧ ρ[i]? = some (Slot.own d) ∧ σ[i]? = some (some (V.ref p)) := by
  obtain ⟨j, d, hj, hs⟩ := h
  obtain ⟨o, ho, ha1⟩ := argsOf_get ha hj
  obtain ⟨i, rfl, hi⟩ := argOf_own ha1
  obtain ⟨v, hv, rv⟩ := r.get ho
  rw [vget hv] at hs; cases hs
  exact ⟨j, i, d, ho, hj, hi, rv⟩
theorem backs_get : ∀ {xs : List Op} {as outs : List Slot} {ρ : En} {i : Nat} {s : Slot}, as.length = xs.length → outs.length = xs.length → (backs xs as outs ρ)[i]? = some s →
    (ρ[i]? = some s ∧ ∀ (j : Nat) (d : D), ¬ (xs[j]? = some (.slot i) ∧ as[j]? = some (.own d))) ∨ ∃ (j : Nat) (d : D), xs[j]? = some (.slot i) ∧ as[j]? = some (.own d) ∧ outs[j]? = some s
  | [], as, outs, ρ, i, s, _, _, h => by
    refine .inl ⟨?_, fun j d z => by simp at z⟩
    cases as <;> simpa [backs] using h
  | o :: r, [], outs, ρ, i, s, ha, _, h => by simp at ha
  | o :: r, a :: as, [], ρ, i, s, _, ho, h => by simp at ho
  | o :: r, a :: as, t :: outs, ρ, i, s, ha, ho, h => by
    have ha' : as.length = r.length := by simpa using ha
    have ho' : outs.length = r.length := by simpa using ho
    have skip : (∀ d, ¬ (o = .slot i ∧ a = .own d)) → (backs r as outs ρ)[i]? = some s → (ρ[i]? = some s ∧ ∀ (j : Nat) (d : D), ¬ ((o :: r)[j]? = some (.slot i) ∧ (a :: as)[j]? = some (.own d))) ∨ ∃ (j : Nat) (d : D), (o :: r)[j]? = some (.slot i) ∧ (a :: as)[j]? = some (.own d) ∧ (t :: outs)[j]? = some s := fun hn h => by
      rcases backs_get ha' ho' h with ⟨h1, h2⟩ | ⟨j, d, h1, h2, h3⟩
      · refine .inl ⟨h1, fun j d z => ?_⟩
        cases j with
        | zero => exact hn d ⟨by simpa using z.1, by simpa using z.2⟩
        | succ j => exact h2 j d ⟨by simpa using z.1, by simpa using z.2⟩
      · exact .inr ⟨j + 1, d, by simpa using h1, by simpa using h2, by simpa using h3⟩
    cases o with
    | imm d => exact skip (fun _ z => by cases z.1) (by simpa [backs] using h)
    | slot q =>
      cases a with
      | un => exact skip (fun _ z => by cases z.2) (by simpa [backs] using h)
      | val _ => exact skip (fun _ z => by cases z.2) (by simpa [backs] using h)
      | own d =>
        have h' : (backs r as outs (ρ.set q t))[i]? = some s := by simpa [backs] using h
        rcases backs_get ha' ho' h' with ⟨h1, h2⟩ | ⟨j, d', h1, h2, h3⟩
        · by_cases e : i = q
          · subst e
            refine .inr ⟨0, d, rfl, rfl, ?_⟩
            have hl : i < ρ.length := by
              have := (List.getElem?_eq_some_iff.mp h1).1
              simpa using this
            rw [List.getElem?_set_self hl] at h1
            simpa using h1
          · rw [List.getElem?_set_ne (Ne.symm e)] at h1
            refine .inl ⟨h1, fun j d' z => ?_⟩
            cases j with
            | zero => have := z.1; simp at this; exact e this.symm
            | succ j => exact h2 j d' ⟨by simpa using z.1, by simpa using z.2⟩
        · exact .inr ⟨j + 1, d', by simpa using h1, by simpa using h2, by simpa using h3⟩
theorem backs_len : ∀ (xs : List Op) (as outs : List Slot) (ρ : En), (backs xs as outs ρ).length = ρ.length
  | [], as, outs, ρ => by cases as <;> rfl
  | o :: r, [], outs, ρ => by cases o <;> rfl
  | o :: r, a :: as, [], ρ => by cases o <;> cases a <;> rfl
  | o :: r, a :: as, t :: outs, ρ => by
    cases o with
    | imm d => exact backs_len r as outs ρ
    | slot q =>
      cases a with
      | un => exact backs_len r as outs ρ
      | val _ => exact backs_len r as outs ρ
      | own d => show (backs r as outs (ρ.set q t)).length = _; rw [backs_len]; simp
/-- behind a call -/
theorem Mid.called (S : SR K ρ F σ H) {xs : List Op} {vs : List V} {as outs : List Slot} (r : OpRs K σ F xs vs) (ha : argsOf ρ xs = some as) (hd : distinct (slotsOf xs) = true) (m : Mid K (vs.map some) as F H outs F' H') :
    Mid K σ ρ F H (backs xs as outs ρ) F' H' := by
  have la : as.length = xs.length := argsOf_len ha
  have lo : outs.length = xs.length := by rw [m.S.len, List.length_map, r.length]
  have sub : ∀ p, Own as (vs.map some) p → Own ρ σ p := fun p h => by
    obtain ⟨j, i, d, _, _, h3, h4⟩ := own_args r ha h
    exact ⟨i, d, h3, h4⟩
  have st : Stp (Own ρ σ) F H F' H' := m.st.mono sub
  have back : ∀ (i : Nat) (s : Slot) (j : Nat) (d : D), xs[j]? = some (.slot i) → outs[j]? = some s → ∃ v, (vs.map some)[j]? = some (some v) ∧ σ[i]? = some (some v) := fun i s j d hx ho => by
    obtain ⟨v, hv, rv⟩ := r.get hx
    exact ⟨v, vget hv, rv⟩
  -- an owned name behind the call was one ahead of it
  have own2 : ∀ p, Own (backs xs as outs ρ) σ p → Own ρ σ p := fun p ⟨i, d, hi, hs⟩ => by
    rcases backs_get la lo hi with ⟨h1, _⟩ | ⟨j, d', h1, h2, h3⟩
    · exact ⟨i, d, h1, hs⟩
    · obtain ⟨v, e1, e2⟩ := back i _ j d' h1 h3
      rw [hs] at e2; cases e2
      exact sub p (m.os p ⟨j, d, h3, e1⟩)
  refine ⟨⟨m.S.sub, by rw [backs_len]; exact S.len, fun i s hi => ?_, fun i i' d e p hi hi' hs hs' => ?_⟩, st, fun i d hi => ?_⟩
  · rcases backs_get la lo hi with ⟨h1, h2⟩ | ⟨j, d', h1, h2, h3⟩
    · have q := S.slots i s h1
      cases s with
      | un => trivial
      | val d =>
        obtain ⟨v, e1, e2⟩ := S.val h1
        rw [e1]; exact VR.mono st.sub e2
      | own d =>
        obtain ⟨v, e1, e2⟩ := S.own h1
        rw [e1]
        have nown : ∀ p, v = .ref p → ¬ Own as (vs.map some) p := fun p hp ho => by
          obtain ⟨j, i', d', a1, a2, a3, a4⟩ := own_args r ha ho
          have : i = i' := S.apart i i' d d' p h1 a3 (by rw [e1, hp]) a4
          subst this
          exact h2 j d' ⟨a1, a2⟩
        refine OwnC.mono e2 m.st.sub (fun p hp o ho => m.st.frm p o ho (nown p hp)) fun p hp hf => ?_
        cases e3 : F' p with
        | none => rfl
        | some o =>
          rcases m.st.ext p o e3 with z | z | z
          · rw [hf] at z; cases z
          · exact absurd z (nown p hp)
          · exfalso
            cases d with
            | list ys =>
              obtain ⟨p', vs', e4, h5, _, _⟩ := e2
              rw [hp] at e4; cases e4; rw [z] at h5; cases h5
            | _ => exact e2.elim
    · obtain ⟨v, e1, e2⟩ := back i _ j d' h1 h3
      have q := m.S.slots j s h3
      rw [e1] at q
      rw [e2]; exact q
  · rcases backs_get la lo hi with ⟨h1, h2⟩ | ⟨j, d1, h1, h2, h3⟩
    · rcases backs_get la lo hi' with ⟨h1', h2'⟩ | ⟨j', d1', h1', h2', h3'⟩
      · exact S.apart i i' d e p h1 h1' hs hs'
      · exfalso
        obtain ⟨v, e1, e2⟩ := back i' _ j' d1' h1' h3'
        rw [hs'] at e2; cases e2
        obtain ⟨j3, i3, d3, a1, a2, a3, a4⟩ := own_args r ha (m.os p ⟨j', e, h3', e1⟩)
        have : i = i3 := S.apart i i3 d d3 p h1 a3 hs a4
        subst this
        exact h2 j3 d3 ⟨a1, a2⟩
    · rcases backs_get la lo hi' with ⟨h1', h2'⟩ | ⟨j', d1', h1', h2', h3'⟩
      · exfalso
        obtain ⟨v, e1, e2⟩ := back i _ j d1 h1 h3
        rw [hs] at e2; cases e2
        obtain ⟨j3, i3, d3, a1, a2, a3, a4⟩ := own_args r ha (m.os p ⟨j, d, h3, e1⟩)
        have : i' = i3 := S.apart i' i3 e d3 p h1' a3 hs' a4
        subst this
        exact h2' j3 d3 ⟨a1, a2⟩
      · obtain ⟨v, e1, e2⟩ := back i _ j d1 h1 h3
        obtain ⟨v', e1', e2'⟩ := back i' _ j' d1' h1' h3'
        rw [hs] at e2; cases e2
        rw [hs'] at e2'; cases e2'
        have hj : j = j' := m.S.apart j j' d e p h3 h3' e1 e1'
        subst hj
        rw [h1] at h1'; cases h1'; rfl
  · rcases backs_get la lo hi with ⟨h1, _⟩ | ⟨j, d1, h1, h2, h3⟩
    · exact ⟨d, h1⟩
    · obtain ⟨o, ho, ha1⟩ := argsOf_get ha h2
      rw [h1] at ho; cases ho
      obtain ⟨i', e1, e2⟩ := argOf_own ha1
      cases e1
      exact ⟨d1, e2⟩
end
section
variable {G : Prog} {w k : Nat} {X : Cx} {W : L2.WX} {sc : Scope} {N : List Str} {pos : Pos} {a b c e : Expr} {ea eb ec : Ex} {es : List Expr} {xs : List Ex}
theorem call_len {f : Str} {as : List Slot} {fi : Fn} (hf : G.fn f = some fi) (h : (tbl G w k).call f as ≠ .bad) : as.length = fi.ps.length := by
  cases k with
  | zero => exact absurd rfl h
  | succ k =>
    by_cases e : as.length = fi.ps.length ∧ rbOk fi.rb as = true
    · exact e.1
    · refine absurd ?_ h
      show (match G.fn f with | some f => runFn (tbl G w k) f as | none => .bad) = .bad
      rw [hf]
      show runFn (tbl G w k) fi as = .bad
      unfold runFn
      rw [if_neg e]
theorem snd_call {f : Str} {p : Pos} (o : XOk G w k X W sc N) (hg : gloB sc f = true) (hd : (f == ("__debug__" : Str)) = false) (hne : es ≠ []) (hs : es.all notStar = true) (ha : PA X es (tXs G w k X W xs)) : PE X (.Call (.Name f p) es [] pos) (tX G w k X W (.call f xs)) := by
  cases hf : G.fn f with
  | none =>
    refine ⟨fun pins s σ H Q I ⟨ρ, F, cn⟩ => ?_⟩
    rw [show ev (tbl G w k) (.call f xs) ρ = .bad by simp only [ev, tbl_has, hf]; rfl] at cn
    exact cn.P.elim
  | some fi =>
    obtain ⟨ad, fd, hm, hk, hb, F0⟩ := o.call f fi hf
    cases es with
    | nil => exact absurd rfl hne
    | cons e r =>
      rw [List.all_cons, Bool.and_eq_true] at hs
      refine PE.imp (L2.pe_callSD F0 o.room (gloB_ok o hg) hm hk hb .nil (fun σ => L2.passAt o.tk σ) ha hd (star_cons hs.1 r X.env) (star_any hs.2 X.env pos)) fun σ H Q ⟨ρ, F, cn⟩ => ?_
      rw [show ev (tbl G w k) (.call f xs) ρ = (evOs (tbl G w k) xs ρ).bind fun p => callX (tbl G w k) f p.1 p.2 by simp only [ev, tbl_has, hf]; rfl] at cn
      refine tOs_mono (Con.bindOs sh_X cn) fun vs H1 ⟨os, ρ1, F1, r1, l1, c1⟩ => ?_
      have p1 : Post X.K (EX X.mg G.fld X.K W) (RX X.K σ) σ ρ1 F1 H1 (callX (tbl G w k) f os ρ1) Q := c1.P
      unfold callX at p1
      split at p1
      · rename_i as has
        split at p1
        · rename_i hdis
          rw [List.append_nil]
          have S2 := c1.S.args r1 has hdis
          have hbad : (tbl G w k).call f as ≠ .bad := fun e => by rw [e] at p1; exact p1
          refine ⟨?_, as, F1, S2, ?_⟩
          · rw [← call_len hf hbad, argsOf_len has, r1.length]
          · revert p1
            cases (tbl G w k).call f as with
            | bad => exact id
            | rs c d outs => exact fun p1 F2 H2 m C dd v q h1 h2 h3 h4 => p1 F2 H2 (Mid.called c1.S r1 has hdis m) C dd v q h1 h2 h3 h4
            | ok x =>
              intro p1 v F2 H2 m rr
              refine p1 v F2 H2 (Mid.called c1.S r1 has hdis m) ?_
              cases hx : x.1 with
              | val d => rw [hx] at rr; exact rr
              | fresh d => rw [hx] at rr; exact rr
        · exact p1.elim
      · exact p1.elim
end
end Pv
end
section
/-! Pv12: changes of lists, ranges; names hidden and brought back; targets; what is walked. -/
namespace Pv
open PySem PySem.Spec PyProof.Rows
open L2 (V Hp HO SqL SqT upd upd_same upd_ne VK TE TA Cx PE PA PT Inv Same Vals RelV Room Takes TI TG PI PG PGs)
section
variable {G : Prog} {w k : Nat} {X : Cx} {W : L2.WX} {sc : Scope} {N : List Str} {pos : Pos} {a b c e : Expr} {ea eb ec : Ex} {es : List Expr} {xs : List Ex}
theorem holds_ok {ρ : En} {i : Nat} (h : holds ρ i = true) : ∃ xs, ρ[i]? = some (.own (.list xs)) := by
  unfold holds at h
  split at h
  · exact ⟨_, by assumption⟩
  · cases h
theorem ev_mut {T : Tb} {i : Nat} {m : Mu} {ρ : En} {K : Frag} {E : ExW} {σ : SS} {F H : Hp} {Q : VK} (cn : Con K E (RX K σ) σ ρ F H (ev T (.mut i m xs) ρ) Q) :
    (∃ ys, ρ[i]? = some (.own (.list ys))) ∧ Con K E (RX K σ) σ ρ F H ((evL T xs ρ).bind fun p => mutX i m p.1 p.2) Q := by
  rw [show ev T (.mut i m xs) ρ = if holds ρ i then (evL T xs ρ).bind fun p => mutX i m p.1 p.2 else .bad from rfl] at cn
  split at cn
  · rename_i h; exact ⟨holds_ok h, cn⟩
  · exact cn.P.elim
theorem mut_fin {K : Frag} {E : ExW} {i : Nat} {m : Mu} {ρ : En} {σ : SS} {F H : Hp} {Q : VK} {p : Addr} {ds : List D} {us : List V} (hs : σ[i]? = some (some (.ref p))) (rd : VRs K F ds us) (cn : Con K E (RX K σ) σ ρ F H (mutX i m ds ρ) Q) : rMu K m (.ref p) us H Q := by
  have c2 := cn
  unfold mutX at c2
  split at c2
  · rename_i xs hx
    obtain ⟨q, hq, c3⟩ := c2.opt
    obtain ⟨v, h1, h2⟩ := c3.S.own hx
    rw [hs] at h1; cases h1
    obtain ⟨p', vs, e1, h3, h4, h5⟩ := h2
    cases e1
    refine ⟨F, p, xs, vs, ds, q.1, q.2, rfl, c3.le, h3, h4, h5, rd, hq, fun v ws r1 r2 => ?_⟩
    have m := c3.S.mutate hx hs h3 h4 r2
    exact c3.P v F _ m r1
  · exact c2.P.elim
theorem snd_mut1 {x m : Str} {p ap cp : Pos} {i : Nat} {mu : Mu} (o : XOk G w k X W sc N) (hv : trV sc N x = .var i) (hm : muOf m 1 = some mu) (hl : (ap.endLine == cp.line) = true) (hn : notStar e = true) (ha : PE X e (tX G w k X W ea)) :
    PE X (.Call (.Attribute (.Name x p) m ap) [e] [] cp) (tX G w k X W (.mut i mu [ea])) := by
  have hx : PE X (.Name x p) (L2.tVar i) := by
    unfold trV at hv
    split at hv
    · rename_i h0
      split at hv
      · rename_i h1
        split at hv
        · rename_i j hj
          cases hv
          exact L2.pe_var (by rw [o.hN]; exact ixN_some hj) (by rw [o.scope]; exact visB_ok h1) (okName_ok h0).1 (okName_ok h0).2
        · cases hv
      · split at hv <;> cases hv
    · cases hv
  have pa : PA X [e] (tXd G w k X W [ea]) := snd_ds (f := fun _ => ea) (es := [e]) (by rw [List.all_cons, hn]; rfl) fun y hy => by rw [List.mem_singleton.mp hy]; exact ha
  have hs := star_cons hn [] X.env
  have few : ((backTo cp (starEach (e :: []) X.env)).all (fun x => !x.1) && (backToKw cp (keywordEach [] X.env)).all (fun x => x.1.isSome) && decide ((e :: []).length + ([] : List Keyword).length + (if ([] : List Keyword).isEmpty then 0 else 1) < 30)) = true := by rw [hs]; rfl
  have red : ∀ (σ : SS) (H : Hp) (Q : VK), tX G w k X W (.mut i mu [ea]) σ H Q → L2.tBM X.K "list" (rMu X.K mu) (L2.tVar i) (tXd G w k X W [ea]) σ H Q := fun σ H Q ⟨ρ, F, cn⟩ => by
    obtain ⟨⟨ys, hy⟩, c1⟩ := ev_mut cn
    obtain ⟨v, h1, h2⟩ := c1.S.own hy
    obtain ⟨q, vs, rfl, h3, _, _⟩ := h2
    refine ⟨_, h1, .inl ⟨rfl, vs, .inl (.inl h3)⟩, ?_⟩
    exact tDs_mono (Con.bindDs sh_X c1) fun us H1 ⟨ds, ρ1, F1, r1, l1, c2⟩ => mut_fin h1 r1 c2
  unfold muOf at hm
  repeat' split at hm
  all_goals cases hm
  · rename_i hc
    rw [Bool.and_eq_true] at hc
    have e1 : m = "append" := by simpa using hc.1
    subst e1
    exact PE.imp (L2.pe_bm PySem.F.plainAttrs_list PySem.F.slot_list_append PySem.F.type_list_append ok_append hx pa (hfew := few) (hline := hl) (hs := hs)) red
  · rename_i hc
    rw [Bool.and_eq_true] at hc
    have e1 : m = "extend" := by simpa using hc.1
    subst e1
    exact PE.imp (L2.pe_bm PySem.F.plainAttrs_list PySem.F.slot_list_extend PySem.F.type_list_extend ok_extend hx pa (hfew := few) (hline := hl) (hs := hs)) red
  · rename_i hc; simp at hc
  · rename_i hc
    rw [Bool.and_eq_true] at hc
    have e1 : m = "remove" := by simpa using hc.1
    subst e1
    exact PE.imp (L2.pe_bm PySem.F.plainAttrs_list PySem.F.slot_list_remove PySem.F.type_list_remove ok_remove hx pa (hfew := few) (hline := hl) (hs := hs)) red
  · rename_i hc
    rw [Bool.and_eq_true] at hc
    have e1 : m = "pop" := by simpa using hc.1
    subst e1
    exact PE.imp (L2.pe_bm PySem.F.plainAttrs_list PySem.F.slot_list_pop PySem.F.type_list_pop ok_pop hx pa (hfew := few) (hline := hl) (hs := hs)) red
theorem snd_mut0 {x m : Str} {p ap cp : Pos} {i : Nat} {mu : Mu} (o : XOk G w k X W sc N) (hv : trV sc N x = .var i) (hm : muOf m 0 = some mu) (hl : (ap.endLine == cp.line) = true) :
    PE X (.Call (.Attribute (.Name x p) m ap) [] [] cp) (tX G w k X W (.mut i mu [])) := by
  have hx : PE X (.Name x p) (L2.tVar i) := by
    unfold trV at hv
    split at hv
    · rename_i h0
      split at hv
      · rename_i h1
        split at hv
        · rename_i j hj
          cases hv
          exact L2.pe_var (by rw [o.hN]; exact ixN_some hj) (by rw [o.scope]; exact visB_ok h1) (okName_ok h0).1 (okName_ok h0).2
        · cases hv
      · split at hv <;> cases hv
    · cases hv
  have red : ∀ (σ : SS) (H : Hp) (Q : VK), tX G w k X W (.mut i mu []) σ H Q → L2.tBM0 X.K "list" (rMu X.K mu) (L2.tVar i) σ H Q := fun σ H Q ⟨ρ, F, cn⟩ => by
    obtain ⟨⟨ys, hy⟩, c1⟩ := ev_mut cn
    obtain ⟨v, h1, h2⟩ := c1.S.own hy
    obtain ⟨q, vs, rfl, h3, _, _⟩ := h2
    exact ⟨_, h1, .inl ⟨rfl, vs, .inl (.inl h3)⟩, mut_fin h1 .nil c1⟩
  unfold muOf at hm
  repeat' split at hm
  all_goals cases hm
  · rename_i hc; simp at hc
  · rename_i hc; simp at hc
  · rename_i hc
    rw [Bool.and_eq_true] at hc
    have e1 : m = "reverse" := by simpa using hc.1
    subst e1
    exact PE.imp (L2.pe_bm0 PySem.F.plainAttrs_list PySem.F.slot_list_reverse PySem.F.type_list_reverse ok_reverse hx (hline := hl)) red
  · rename_i hc; simp at hc
  · rename_i hc
    rw [Bool.and_eq_true] at hc
    have e1 : m = "pop" := by simpa using hc.1
    subst e1
    exact PE.imp (L2.pe_bm0 PySem.F.plainAttrs_list PySem.F.slot_list_pop PySem.F.type_list_pop ok_pop hx (hline := hl)) red
end

/-! ### names hidden, brought back -/
theorem wipeE_len (ρ : En) : ∀ vs : List Nat, (wipeE ρ vs).length = ρ.length
  | [] => rfl
  | v :: vs => by unfold wipeE; rw [List.length_set, wipeE_len ρ vs]
theorem wipeE_out {ρ : En} {i : Nat} : ∀ {vs : List Nat}, i ∉ vs → (wipeE ρ vs)[i]? = ρ[i]?
  | [], _ => rfl
  | v :: vs, h => by
    unfold wipeE
    rw [List.getElem?_set_ne (fun e => h (by rw [e]; exact List.mem_cons_self)), wipeE_out fun z => h (List.mem_cons_of_mem _ z)]
theorem wipeE_in {ρ : En} {i : Nat} {s : Slot} : ∀ {vs : List Nat}, i ∈ vs → (wipeE ρ vs)[i]? = some s → s = .un
  | v :: vs, h, e => by
    unfold wipeE at e
    by_cases hv : v = i
    · subst hv
      by_cases hl : v < (wipeE ρ vs).length
      · rw [List.getElem?_set_self hl] at e; cases e; rfl
      · rw [List.getElem?_eq_none (by simpa using hl)] at e; cases e
    · rw [List.getElem?_set_ne hv] at e
      rcases List.mem_cons.mp h with z | z
      · exact absurd z.symm hv
      · exact wipeE_in z e
theorem wipeE_own {ρ : En} {i : Nat} {d : D} {vs : List Nat} (h : (wipeE ρ vs)[i]? = some (.own d)) : i ∉ vs ∧ ρ[i]? = some (.own d) := by
  have n : i ∉ vs := fun z => by have := wipeE_in z h; cases this
  exact ⟨n, by rw [← wipeE_out n]; exact h⟩
theorem backE_len (ρ ρ' : En) : ∀ vs : List Nat, (backE ρ ρ' vs).length = ρ'.length
  | [] => rfl
  | v :: vs => by unfold backE; rw [List.length_set, backE_len ρ ρ' vs]
theorem backE_out {ρ ρ' : En} {i : Nat} : ∀ {vs : List Nat}, i ∉ vs → (backE ρ ρ' vs)[i]? = ρ'[i]?
  | [], _ => rfl
  | v :: vs, h => by
    unfold backE
    rw [List.getElem?_set_ne (fun e => h (by rw [e]; exact List.mem_cons_self)), backE_out fun z => h (List.mem_cons_of_mem _ z)]
theorem backE_in {ρ ρ' : En} {i : Nat} {s : Slot} (hl : ρ.length = ρ'.length) : ∀ {vs : List Nat}, i ∈ vs → (backE ρ ρ' vs)[i]? = some s → ρ[i]? = some s
  | v :: vs, h, e => by
    unfold backE at e
    by_cases hv : v = i
    · subst hv
      have h1 := (List.getElem?_eq_some_iff.mp e).1
      rw [List.length_set] at h1
      rw [List.getElem?_set_self h1] at e
      rw [backE_len] at h1
      rw [List.getElem?_eq_getElem (by omega)] at e ⊢
      exact e
    · rw [List.getElem?_set_ne hv] at e
      rcases List.mem_cons.mp h with z | z
      · exact absurd z.symm hv
      · exact backE_in hl z e
section
variable {K : Frag} {σ σ' : SS} {ρ ρ1 ρ2 : En} {F H F1 H1 : Hp}
theorem SR.hide (S : SR K ρ F σ H) (vs : List Nat) : SR K (wipeE ρ vs) F σ H := by
  refine ⟨S.sub, by rw [wipeE_len]; exact S.len, fun i s h => ?_, fun i j d e p h h' => ?_⟩
  · by_cases hi : i ∈ vs
    · rw [wipeE_in hi h]; trivial
    · rw [wipeE_out hi] at h; exact S.slots i s h
  · exact S.apart i j d e p (wipeE_own h).2 (wipeE_own h').2
theorem SR.wipe (S : SR K ρ F σ H) (vs : List Nat) : SR K (wipeE ρ vs) F (L2.wipe σ vs) H := by
  refine ⟨S.sub, by rw [wipeE_len, L2.wipe_length]; exact S.len, fun i s h => ?_, fun i j d e p h h' hs hs' => ?_⟩
  · by_cases hi : i ∈ vs
    · rw [wipeE_in hi h]; trivial
    · rw [wipeE_out hi] at h; rw [L2.wipe_out hi]; exact S.slots i s h
  · obtain ⟨n1, h1⟩ := wipeE_own h
    obtain ⟨n2, h2⟩ := wipeE_own h'
    rw [L2.wipe_out n1] at hs
    rw [L2.wipe_out n2] at hs'
    exact S.apart i j d e p h1 h2 hs hs'
/-- σw is σ but for the places vs -/
def Apt (vs : List Nat) (σ σw : SS) : Prop := σw.length = σ.length ∧ ∀ i, i ∉ vs → σw[i]? = σ[i]?
theorem Apt.wipe (vs us : List Nat) (σ : SS) (h : ∀ i ∈ us, i ∈ vs) : Apt vs σ (L2.wipe σ us) := ⟨L2.wipe_length σ us, fun i hi => L2.wipe_out fun z => hi (h i z)⟩
theorem SR.away (S : SR K ρ F σ H) {vs : List Nat} {σw : SS} (t : Apt vs σ σw) : SR K (wipeE ρ vs) F σw H := by
  refine ⟨S.sub, by rw [wipeE_len, t.1]; exact S.len, fun i s h => ?_, fun i j d e p h h' hs hs' => ?_⟩
  · by_cases hi : i ∈ vs
    · rw [wipeE_in hi h]; trivial
    · rw [wipeE_out hi] at h; rw [t.2 i hi]; exact S.slots i s h
  · obtain ⟨n1, h1⟩ := wipeE_own h
    obtain ⟨n2, h2⟩ := wipeE_own h'
    rw [t.2 i n1] at hs
    rw [t.2 j n2] at hs'
    exact S.apart i j d e p h1 h2 hs hs'
theorem Own.away {vs : List Nat} {σw : SS} (t : Apt vs σ σw) {p : Addr} (h : Own (wipeE ρ vs) σw p) : ∃ (i : Nat) (d : D), i ∉ vs ∧ ρ[i]? = some (Slot.own d) ∧ σ[i]? = some (some (V.ref p)) := by
  obtain ⟨i, d, h1, h2⟩ := h
  obtain ⟨n, h3⟩ := wipeE_own h1
  rw [t.2 i n] at h2
  exact ⟨i, d, n, h3, h2⟩
/-- a name's new value -/
theorem SR.put (S : SR K ρ F σ H) {i : Nat} {d : D} {v : V} (r : VR K F d v) : SR K (ρ.set i (.val d)) F (σ.set i (some v)) H := by
  have nset : ∀ (j : Nat) (d' : D), (ρ.set i (.val d))[j]? = some (.own d') → j ≠ i ∧ ρ[j]? = some (.own d') := fun j d' hj => by
    by_cases ej : j = i
    · subst ej
      have hl := (List.getElem?_eq_some_iff.mp hj).1
      rw [List.length_set] at hl
      rw [List.getElem?_set_self hl] at hj; cases hj
    · rw [List.getElem?_set_ne (Ne.symm ej)] at hj; exact ⟨ej, hj⟩
  refine ⟨S.sub, by rw [List.length_set, List.length_set]; exact S.len, fun j s h => ?_, fun j j' d1 d2 p h h' hs hs' => ?_⟩
  · by_cases ej : j = i
    · subst ej
      have hl := (List.getElem?_eq_some_iff.mp h).1
      rw [List.length_set] at hl
      rw [List.getElem?_set_self hl] at h; cases h
      rw [List.getElem?_set_self (by rw [← S.len]; exact hl)]
      exact r
    · rw [List.getElem?_set_ne (Ne.symm ej)] at h ⊢
      exact S.slots j s h
  · obtain ⟨n1, h1⟩ := nset j d1 h
    obtain ⟨n2, h2⟩ := nset j' d2 h'
    rw [List.getElem?_set_ne (Ne.symm n1)] at hs
    rw [List.getElem?_set_ne (Ne.symm n2)] at hs'
    exact S.apart j j' d1 d2 p h1 h2 hs hs'
theorem Own.put {i : Nat} {d : D} {v : V} {p : Addr} (h : Own (ρ.set i (.val d)) (σ.set i (some v)) p) : Own ρ σ p := by
  obtain ⟨j, d', hj, hs⟩ := h
  by_cases ej : j = i
  · subst ej
    have hl := (List.getElem?_eq_some_iff.mp hj).1
    rw [List.length_set] at hl
    rw [List.getElem?_set_self hl] at hj; cases hj
  · rw [List.getElem?_set_ne (Ne.symm ej)] at hj hs
    exact ⟨j, d', hj, hs⟩
/-- σ' is σ but for the places is -/
def Upd (is : List Nat) (σ σ' : SS) : Prop := σ'.length = σ.length ∧ ∀ j, j ∉ is → σ'[j]? = σ[j]?
theorem Upd.refl (is : List Nat) (σ : SS) : Upd is σ σ := ⟨rfl, fun _ _ => rfl⟩
theorem Upd.set (i : Nat) (σ : SS) (v : Option V) : Upd [i] σ (σ.set i v) := ⟨by rw [List.length_set], fun j hj => by rw [List.getElem?_set_ne (fun e => hj (by rw [e]; exact List.mem_singleton.mpr rfl))]⟩
theorem Upd.trans {is js : List Nat} {σ'' : SS} (a : Upd is σ σ') (b : Upd js σ' σ'') : Upd (is ++ js) σ σ'' := ⟨b.1.trans a.1, fun j hj => (b.2 j fun z => hj (List.mem_append_right _ z)).trans (a.2 j fun z => hj (List.mem_append_left _ z))⟩
theorem Upd.mono {is js : List Nat} (a : Upd is σ σ') (h : ∀ i ∈ is, i ∈ js) : Upd js σ σ' := ⟨a.1, fun j hj => a.2 j fun z => hj (h j z)⟩
theorem wipe_in {σ : SS} {i : Nat} : ∀ {vs : List Nat}, i ∈ vs → i < σ.length → (L2.wipe σ vs)[i]? = some none
  | v :: vs, h, hl => by
    unfold L2.wipe
    by_cases hv : v = i
    · subst hv; rw [List.getElem?_set_self (by rw [L2.wipe_length]; exact hl)]
    · rw [List.getElem?_set_ne hv]
      rcases List.mem_cons.mp h with z | z
      · exact absurd z.symm hv
      · exact wipe_in z hl
theorem wipe_upd {is vs : List Nat} (u : Upd is (L2.wipe σ vs) σ') (h : ∀ i ∈ is, i ∈ vs) : L2.wipe σ' vs = L2.wipe σ vs := by
  have hl : σ'.length = σ.length := by rw [u.1, L2.wipe_length]
  refine List.ext_getElem? fun i => ?_
  by_cases hi : i ∈ vs
  · by_cases hl' : i < σ.length
    · rw [wipe_in hi hl', wipe_in hi (by omega)]
    · rw [List.getElem?_eq_none (by rw [L2.wipe_length]; omega), List.getElem?_eq_none (by rw [L2.wipe_length]; omega)]
  · rw [L2.wipe_out hi, u.2 i fun z => hi (h i z)]
/-- the names brought back -/
theorem Mid.back {vs : List Nat} {σw : SS} (t : Apt vs σ σw) (S : SR K ρ F σ H) (S2 : SR K (wipeE ρ2 vs) F1 σw H1) (hl : ρ2.length = ρ.length) (st : Stp (Own (wipeE ρ vs) σw) F H F1 H1) (ix : ∀ (i : Nat) (d : D), (wipeE ρ2 vs)[i]? = some (Slot.own d) → ∃ e, (wipeE ρ vs)[i]? = some (Slot.own e)) :
    Mid K σ ρ F H (backE ρ ρ2 vs) F1 H1 := by
  have sub : ∀ p, Own (wipeE ρ vs) σw p → Own ρ σ p := fun p h => by
    obtain ⟨i, d, _, h1, h2⟩ := Own.away t h
    exact ⟨i, d, h1, h2⟩
  have os : ∀ p, Own (wipeE ρ2 vs) σw p → Own (wipeE ρ vs) σw p := fun p ⟨i, d, h, hs⟩ =>
    let ⟨e, h2⟩ := ix i d h
    ⟨i, e, h2, hs⟩
  have own2 : ∀ (i : Nat) (d : D) (p : Addr), (backE ρ ρ2 vs)[i]? = some (.own d) → σ[i]? = some (some (.ref p)) → i ∉ vs → Own (wipeE ρ vs) σw p := fun i d p h hs hi => by
    rw [backE_out hi] at h
    exact os p ⟨i, d, by rw [wipeE_out hi]; exact h, by rw [t.2 i hi]; exact hs⟩
  refine ⟨⟨S2.sub, by rw [backE_len, hl]; exact S.len, fun i s h => ?_, fun i j d e p h h' hs hs' => ?_⟩, st.mono sub, fun i d h => ?_⟩
  · by_cases hi : i ∈ vs
    · have h0 := backE_in hl.symm hi h
      have q := S.slots i s h0
      cases s with
      | un => trivial
      | val d =>
        obtain ⟨v, e1, e2⟩ := S.val h0
        rw [e1]; exact VR.mono st.sub e2
      | own d =>
        obtain ⟨v, e1, e2⟩ := S.own h0
        rw [e1]
        have nown : ∀ p, v = .ref p → ¬ Own (wipeE ρ vs) σw p := fun p hp ho => by
          obtain ⟨j, d', n, h1, h2⟩ := Own.away t ho
          have : i = j := S.apart i j d d' p h0 h1 (by rw [e1, hp]) h2
          exact n (this ▸ hi)
        refine OwnC.mono e2 st.sub (fun p hp o ho => st.frm p o ho (nown p hp)) fun p hp hf => ?_
        cases e3 : F1 p with
        | none => rfl
        | some o =>
          rcases st.ext p o e3 with z | z | z
          · rw [hf] at z; cases z
          · exact absurd z (nown p hp)
          · exfalso
            cases d with
            | list ys =>
              obtain ⟨p', vs', e4, h5, _, _⟩ := e2
              rw [hp] at e4; cases e4; rw [z] at h5; cases h5
            | _ => exact e2.elim
    · rw [backE_out hi] at h
      have q := S2.slots i s (by rw [wipeE_out hi]; exact h)
      rw [t.2 i hi] at q
      exact q
  · by_cases hi : i ∈ vs
    · have h1 := backE_in hl.symm hi h
      by_cases hj : j ∈ vs
      · exact S.apart i j d e p h1 (backE_in hl.symm hj h') hs hs'
      · exfalso
        obtain ⟨m, d', n, h3, h4⟩ := Own.away t (own2 j e p h' hs' hj)
        have : i = m := S.apart i m d d' p h1 h3 hs h4
        exact n (this ▸ hi)
    · by_cases hj : j ∈ vs
      · exfalso
        obtain ⟨m, d', n, h3, h4⟩ := Own.away t (own2 i d p h hs hi)
        have : j = m := S.apart j m e d' p (backE_in hl.symm hj h') h3 hs' h4
        exact n (this ▸ hj)
      · rw [backE_out hi] at h
        rw [backE_out hj] at h'
        exact S2.apart i j d e p (by rw [wipeE_out hi]; exact h) (by rw [wipeE_out hj]; exact h') (by rw [t.2 i hi]; exact hs) (by rw [t.2 j hj]; exact hs')
  · by_cases hi : i ∈ vs
    · exact ⟨d, backE_in hl.symm hi h⟩
    · rw [backE_out hi] at h
      obtain ⟨e, h2⟩ := ix i d (by rw [wipeE_out hi]; exact h)
      rw [wipeE_out hi] at h2
      exact ⟨e, h2⟩
end
end Pv
end
section
/-! Pv13: targets, what is walked, comprehensions. -/
namespace Pv
open PySem PySem.Spec PyProof.Rows
open L2 (V Hp HO SqL SqT upd upd_same upd_ne VK TE TA Cx PE PA PT Inv Same Vals RelV Room Takes TI TG TGs PI PG PGs)
theorem PG.imp {X : Cx} {e : Expr} {t u : TG} (h : PG X e t) (i : ∀ v σ H Q, u v σ H Q → t v σ H Q) : PG X e u := ⟨fun pins s σ H v uv Q I r q => h.run pins s σ H v uv Q I r (i v σ H Q q)⟩
theorem PG.or {X : Cx} {e : Expr} {t u : TG} (h : PG X e t) (h' : PG X e u) : PG X e (fun v σ H Q => t v σ H Q ∨ u v σ H Q) := ⟨fun pins s σ H v uv Q I r q => q.elim (h.run pins s σ H v uv Q I r) (h'.run pins s σ H v uv Q I r)⟩
theorem PI.imp {X : Cx} {tg e : Expr} {t u : TI} (h : PI X tg e t) (i : ∀ σ H Q, u σ H Q → t σ H Q) : PI X tg e u := ⟨fun pins s σ H R I q => h.run pins s σ H R I (i σ H R q)⟩
theorem PI.or {X : Cx} {tg e : Expr} {t u : TI} (h : PI X tg e t) (h' : PI X tg e u) : PI X tg e (fun σ H Q => t σ H Q ∨ u σ H Q) := ⟨fun pins s σ H R I q => q.elim (h.run pins s σ H R I) (h'.run pins s σ H R I)⟩
/-- names that may be stored -/
def AlOk (X : Cx) (al : List Str) : Prop := ∀ x, x ∈ al → L2.Loc X.env.scope x ∧ (X.fn x = true ∨ X.env.scope.names.lookup x = some .local)
/-- the reading of a target -/
def tG (K : Frag) (t : Tg) : TG := fun v σ H Q => ∃ d ρ F ρ', SR K ρ F σ H ∧ VR K F d v ∧ asgT t d ρ = some ρ' ∧ ∀ σ', SR K ρ' F σ' H → Upd (tgIx t) σ σ' → (∀ (i : Nat) (d : D), ρ'[i]? = some (Slot.own d) → ∃ e, ρ[i]? = some (Slot.own e)) → (∀ p, Own ρ' σ' p → Own ρ σ p) → Q σ' H
def gN : List Nat → TGs
  | [] => L2.gNil
  | i :: r => L2.gCons (L2.gName i) (gN r)
section
variable {G : Prog} {w k : Nat} {X : Cx} {W : L2.WX} {sc : Scope} {N : List Str} {pos : Pos} {al : List Str}
theorem trN_ok {e : Expr} {i : Nat} (h : trN al N e = some i) : ∃ x p, e = .Name x p ∧ x ∈ al ∧ N[i]? = some x := by
  cases e <;> simp only [trN, reduceCtorEq] at h
  rename_i x p
  split at h
  · rename_i hc
    exact ⟨x, p, rfl, by simpa using hc, ixN_some h⟩
  · cases h
theorem pg_one (hN : X.N = N) (nd : N.Nodup) (ao : AlOk X al) {e : Expr} {i : Nat} (h : trN al N e = some i) : PG X e (L2.gName i) := by
  obtain ⟨x, p, rfl, hx, hi⟩ := trN_ok h
  obtain ⟨h1, h2⟩ := ao x hx
  exact L2.pg_name (by rw [hN]; exact nd) (by rw [hN]; exact hi) h1 (hf := h2)
theorem each_names : ∀ {es : List Expr} {is : List Nat}, trNs al N es = some is → (assignEach es X.env).length = is.length ∧ (assignEach es X.env).findIdx? (·.1) = none
  | [], is, h => by cases h; exact ⟨rfl, rfl⟩
  | e :: r, is, h => by
    simp only [trNs] at h
    split at h
    · rename_i t ts h1 h2
      cases h
      obtain ⟨x, p, rfl, _, _⟩ := trN_ok h1
      obtain ⟨a, b⟩ := each_names (es := r) h2
      refine ⟨?_, ?_⟩
      · show (assignEach r X.env).length + 1 = _
        rw [a]; rfl
      · show List.findIdx? (·.1) ((false, assign (.Name x p) X.env) :: assignEach r X.env) = none
        rw [List.findIdx?_cons]
        simp [b]
    · cases h
theorem pgs_names (hN : X.N = N) (nd : N.Nodup) (ao : AlOk X al) : ∀ {es : List Expr} {is : List Nat}, trNs al N es = some is → PGs X es (gN is)
  | [], is, h => by cases h; exact L2.pgs_nil
  | e :: r, is, h => by
    simp only [trNs] at h
    split at h
    · rename_i t ts h1 h2
      cases h
      have hs : (assignEach (e :: r) X.env).map (·.2) = assign e X.env :: (assignEach r X.env).map (·.2) := by
        obtain ⟨x, p, rfl, _, _⟩ := trN_ok h1
        rfl
      exact L2.pgs_cons (pg_one hN nd ao h1) (pgs_names hN nd ao h2) hs
    · cases h
theorem put_ix {ρ : En} {i j : Nat} {d d' : D} (h : (ρ.set i (.val d))[j]? = some (Slot.own d')) : ∃ e, ρ[j]? = some (Slot.own e) := by
  by_cases ej : j = i
  · subst ej
    have hl := (List.getElem?_eq_some_iff.mp h).1
    rw [List.length_set] at hl
    rw [List.getElem?_set_self hl] at h; cases h
  · rw [List.getElem?_set_ne (Ne.symm ej)] at h; exact ⟨_, h⟩
/-- values stored one by one -/
theorem asgTs_ok {K : Frag} {F H : Hp} : ∀ {is : List Nat} {ds : List D} {vs : List V} {ρ ρ' : En} {σ : SS} {Q : SS → Hp → Prop}, SR K ρ F σ H → VRs K F ds vs → asgTs is ds ρ = some ρ' →
    (∀ σ', SR K ρ' F σ' H → Upd is σ σ' → (∀ (i : Nat) (d : D), ρ'[i]? = some (Slot.own d) → ∃ e, ρ[i]? = some (Slot.own e)) → (∀ p, Own ρ' σ' p → Own ρ σ p) → Q σ' H) → gN is vs σ H Q
  | [], [], vs, ρ, ρ', σ, Q, S, r, h, q => by
    cases r
    cases h
    exact ⟨rfl, q σ S (Upd.refl _ _) (fun _ d h => ⟨d, h⟩) fun _ h => h⟩
  | [], d :: ds, vs, ρ, ρ', σ, Q, S, r, h, q => by cases h
  | i :: is, [], vs, ρ, ρ', σ, Q, S, r, h, q => by cases h
  | i :: is, d :: ds, vs, ρ, ρ', σ, Q, S, r, h, q => by
    cases r with
    | cons r1 r2 =>
      rename_i v vs
      refine ⟨v, vs, rfl, ?_⟩
      refine asgTs_ok (S.put r1) r2 h fun σ' S' u ix o => q σ' S' ?_ (fun j d' hj => let ⟨e, h2⟩ := ix j d' hj; put_ix h2) fun p hp => Own.put (o p hp)
      exact (Upd.trans (Upd.set i σ (some v)) u).mono fun j hj => by simpa using hj
theorem asgTs_len : ∀ {is : List Nat} {ds : List D} {ρ ρ' : En}, asgTs is ds ρ = some ρ' → is.length = ds.length
  | [], [], _, _, _ => rfl
  | [], _ :: _, _, _, h => by cases h
  | _ :: _, [], _, _, h => by cases h
  | i :: is, d :: ds, ρ, ρ', h => congrArg (· + 1) (asgTs_len (is := is) (ds := ds) h)
theorem snd_tg (hN : X.N = N) (nd : N.Nodup) (hc : X.calm = true) (ao : AlOk X al) (tg : Expr) : PG X tg (tG X.K (trTg al N tg)) := by
  have bad : PG X tg (tG X.K .bad) := ⟨fun pins s σ H v u Q I r q => by
    obtain ⟨d, ρ, F, ρ', _, _, h, _⟩ := q
    cases h⟩
  unfold trTg
  split
  · rename_i x p
    split
    · rename_i i hi
      refine PG.imp (pg_one hN nd ao hi) fun v σ H Q ⟨d, ρ, F, ρ', S, r, h, q⟩ => ?_
      cases h
      exact q _ (S.put r) (Upd.set i σ (some v)) (fun j d' hj => put_ix hj) fun p hp => Own.put hp
    · exact bad
  · rename_i es kk p
    split
    · rename_i is his
      split
      · obtain ⟨e1, e2⟩ := each_names (X := X) his
        have base := pgs_names hN nd ao his
        refine PG.imp (PG.or (L2.pg_tup (n := is.length) hc base e1 e2) (L2.pg_unl (n := is.length) hc base e1 e2)) fun v σ H Q ⟨d, ρ, F, ρ', S, r, h, q⟩ => ?_
        cases d <;> simp only [asgT, itemsD, reduceCtorEq] at h
        · rename_i ds
          split at h
          · rename_i hl
            cases r with
            | @lst a vs _ hp rr =>
              exact .inr ⟨a, vs, rfl, S.sub.sqL hp, by rw [← rr.length]; exact hl, asgTs_ok S rr h q⟩
          · cases h
        · rename_i ds
          split at h
          · rename_i hl
            cases r with
            | @tup a vs _ hp rr =>
              exact .inl ⟨a, vs, rfl, S.sub.sqT hp, by rw [← rr.length]; exact hl, asgTs_ok S rr h q⟩
          · cases h
      · exact bad
    · exact bad
  · exact bad
end
/-! ### what is walked -/
/-- the walked items, while the parts that they lean on stand -/
def ItOk (K : Frag) (σ : SS) (F' H' : Hp) (x : List D × List Nat) (J : L2.It) : Prop := ∃ (Gd : Hp → Prop) (Y : Nat → Hp → V → Hp → Prop), L2.Walk J x.1.length Gd Y ∧
  ∀ F2 H2, Le F' F2 → Le F2 H2 → (∀ i ∈ x.2, ∀ p, σ[i]? = some (some (.ref p)) → H2 p = H' p) → Gd H2 ∧
    ∀ i v H3, i < x.1.length → Y i H2 v H3 → ∃ F3 d, Stp (fun _ => False) F2 H2 F3 H3 ∧ Le F3 H3 ∧ x.1[i]? = some d ∧ VR K F3 d v
abbrev RI (K : Frag) (σ : SS) : Rel (List D × List Nat) L2.It := fun _ ρ' F' H' x J => ItOk K σ F' H' x J ∧ ∀ i, i ∈ x.2 → ∃ d, ρ'[i]? = some (Slot.own d)
theorem noh {ρ' : En} : ∀ i, i ∈ ([] : List Nat) → ∃ d, ρ'[i]? = some (Slot.own d) := fun _ h => by cases h
theorem sh_I {K : Frag} {σ : SS} : Sh (RI K σ) := fun _ _ _ _ _ _ _ _ r => r
def tI (T : Tb) (K : Frag) (E : ExW) (it : It) : TI := fun σ H R => ∃ ρ F, Con K E (RI K σ) σ ρ F H (evI T it ρ) R
section
variable {K : Frag} {σ : SS} {F H : Hp}
theorem it_list {ds : List D} {a : Addr} {vs : List V} (hp : SqL K F a vs) (r : VRs K F ds vs) : ItOk K σ F H (ds, []) (L2.Itl K a) := by
  refine ⟨fun H => SqL K H a vs, L2.YAt vs, by rw [show (ds, ([] : List Nat)).1.length = vs.length from r.length]; exact L2.walk_list (K := K) (a := a) (xs := vs), fun F2 H2 l1 l2 _ => ⟨(l1.trans l2).sqL hp, fun i v H3 hi y => ?_⟩⟩
  obtain ⟨e, y⟩ := y
  subst e
  have hi' : i < ds.length := hi
  obtain ⟨v', h1, h2⟩ := r.get (List.getElem?_eq_getElem hi')
  rw [y] at h1; cases h1
  exact ⟨F2, _, Stp.refl, l2, List.getElem?_eq_getElem hi', h2.mono l1⟩
theorem it_tup {ds : List D} {a : Addr} {vs : List V} (hp : SqT K F a vs) (r : VRs K F ds vs) : ItOk K σ F H (ds, []) (L2.Itt K a) := by
  refine ⟨fun H => SqT K H a vs, L2.YAt vs, by rw [show (ds, ([] : List Nat)).1.length = vs.length from r.length]; exact L2.walk_tup (K := K) (a := a) (xs := vs), fun F2 H2 l1 l2 _ => ⟨(l1.trans l2).sqT hp, fun i v H3 hi y => ?_⟩⟩
  obtain ⟨e, y⟩ := y
  subst e
  have hi' : i < ds.length := hi
  obtain ⟨v', h1, h2⟩ := r.get (List.getElem?_eq_getElem hi')
  rw [y] at h1; cases h1
  exact ⟨F2, _, Stp.refl, l2, List.getElem?_eq_getElem hi', h2.mono l1⟩
theorem it_hid {ds : List D} {a : Addr} {vs : List V} {i : Nat} (hs : σ[i]? = some (some (.ref a))) (hp : H a = some (.lst vs)) (r : VRs K F ds vs) : ItOk K σ F H (ds, [i]) (L2.Itl K a) := by
  refine ⟨fun H => SqL K H a vs, L2.YAt vs, by rw [show (ds, [i]).1.length = vs.length from r.length]; exact L2.walk_list (K := K) (a := a) (xs := vs), fun F2 H2 l1 l2 hh => ⟨Or.inl (Or.inl ((hh i List.mem_cons_self a hs).trans hp)), fun i v H3 hi y => ?_⟩⟩
  obtain ⟨e, y⟩ := y
  subst e
  have hi' : i < ds.length := hi
  obtain ⟨v', h1, h2⟩ := r.get (List.getElem?_eq_getElem hi')
  rw [y] at h1; cases h1
  exact ⟨F2, _, Stp.refl, l2, List.getElem?_eq_getElem hi', h2.mono l1⟩
theorem it_fn {n : Nat} {f : Nat → Int} {J : L2.It} (wk : L2.Walk J n (fun _ => True) (L2.YFn fun i => .int (f i))) : ItOk K σ F H ((List.range n).map fun i => .int (f i), []) J := by
  refine ⟨_, _, by rw [show ((List.range n).map fun i => (PyData.int (f i)), ([] : List Nat)).1.length = n by simp]; exact wk, fun F2 H2 l1 l2 _ => ⟨trivial, fun i v H3 hi y => ?_⟩⟩
  obtain ⟨e, y⟩ := y
  subst e; subst y
  have hi' : i < n := by simpa using hi
  exact ⟨F2, .int (f i), Stp.refl, l2, by simp [hi'], .int _⟩
theorem it_rng (a b : Int) : ItOk K σ F H (rngL a b, []) (L2.Itr a (b - a).toNat) := it_fn (f := fun i => a + (i : Nat)) L2.walk_range
theorem it_rev {ds : List D} {vs : List V} {J : L2.It} {Gd : Hp → Prop} (r : VRs K F ds vs) (wk : L2.Walk J vs.length Gd (fun i H x H' => H' = H ∧ vs[vs.length - 1 - i]? = some x)) (hg : ∀ F2 H2, Le F F2 → Le F2 H2 → Gd H2) : ItOk K σ F H (ds.reverse, []) J := by
  refine ⟨_, _, by rw [show (ds.reverse, ([] : List Nat)).1.length = vs.length by simp [r.length]]; exact wk, fun F2 H2 l1 l2 _ => ⟨hg F2 H2 l1 l2, fun i v H3 hi y => ?_⟩⟩
  obtain ⟨e, y⟩ := y
  subst e
  have hi' : i < ds.reverse.length := hi
  have e1 : ds.reverse[i]? = ds[ds.length - 1 - i]? := by rw [List.getElem?_reverse (by simpa using hi')]
  obtain ⟨v', h1, h2⟩ := r.get (i := ds.length - 1 - i) (List.getElem?_eq_getElem (by simp at hi'; omega))
  rw [r.length, y] at h1; cases h1
  exact ⟨F2, _, Stp.refl, l2, by rw [e1]; exact List.getElem?_eq_getElem (by simp at hi'; omega), h2.mono l1⟩
/-- a new pair each turn -/
theorem it_pair {n : Nat} {f g : Nat → D} {J : L2.It} {Gd : Hp → Prop} {xs ys : Nat → Option V} (wk : L2.Walk J n Gd (L2.YPair xs ys)) (hg : ∀ F2 H2, Le F F2 → Le F2 H2 → Gd H2)
    (hx : ∀ i v, i < n → xs i = some v → VR K F (f i) v) (hy : ∀ i v, i < n → ys i = some v → VR K F (g i) v) : ItOk K σ F H ((List.range n).map fun i => .tuple [f i, g i], []) J := by
  refine ⟨_, _, by rw [show ((List.range n).map fun i => (PyData.tuple [f i, g i]), ([] : List Nat)).1.length = n by simp]; exact wk, fun F2 H2 l1 l2 _ => ⟨hg F2 H2 l1 l2, fun i v H3 hi y => ?_⟩⟩
  obtain ⟨p, x, z, e1, e2, e3, e4, e5⟩ := y
  subst e1; subst e3
  have hi' : i < n := by simpa using hi
  refine ⟨upd F2 p (.tup [x, z]), .tuple [f i, g i], Stp.laid l2 e2, l2.laid, by simp [hi'], .tup (.inl (.inl upd_same)) ?_⟩
  exact .cons (((hx i x hi' e4).mono l1).mono (l2.put e2)) (.cons (((hy i z hi' e5).mono l1).mono (l2.put e2)) .nil)
end
theorem zipL_eq : ∀ (xs ys : List D), zipL xs ys = (List.range (min xs.length ys.length)).map fun i => .tuple [xs[i]?.getD .none, ys[i]?.getD .none]
  | [], ys => by simp [zipL]
  | x :: xs, [] => by simp [zipL]
  | x :: xs, y :: ys => by
    have ih := zipL_eq xs ys
    rw [zipL, ih, List.length_cons, List.length_cons, show min (xs.length + 1) (ys.length + 1) = min xs.length ys.length + 1 by omega, List.range_succ_eq_map, List.map_cons, List.map_map]
    rfl
theorem enumL_eq : ∀ (xs : List D) (k : Nat), enumL k xs = (List.range xs.length).map fun i => .tuple [.int ((k + i : Nat) : Int), xs[i]?.getD .none]
  | [], k => by simp [enumL]
  | x :: xs, k => by
    have ih := enumL_eq xs (k + 1)
    rw [enumL, ih, List.length_cons, List.range_succ_eq_map, List.map_cons, List.map_map]
    congr 1
    refine List.map_congr_left fun i _ => ?_
    show PyData.tuple [.int ((k + 1 + i : Nat) : Int), _] = PyData.tuple [.int ((k + (i + 1) : Nat) : Int), _]
    rw [show k + 1 + i = k + (i + 1) by omega]
    rfl
end Pv
end
section
/-! Pv14: ranges, walks, comprehensions of the text. -/
namespace Pv
open PySem PySem.Spec PyProof.Rows
open L2 (V Hp HO SqL SqT upd upd_same upd_ne VK TE TA Cx PE PA PT Inv Same Vals RelV Room Takes TI TG TGs PI PG PGs)
theorem rng_vrs {K : Frag} {F : Hp} (a b : Int) : VRs K F (rngL a b) (L2.rgV a b) := by
  have all : ∀ (l : List Nat), VRs K F (l.map fun i => .int (a + (i : Nat))) (l.map fun i => V.int (a + (i : Nat))) := fun l => by
    induction l with
    | nil => exact .nil
    | cons x r ih => exact .cons (.int _) ih
  exact all _
theorem rngL_len (a b : Int) : (rngL a b).length = (b - a).toNat := by simp [rngL]
theorem rngOk_ok {i : Int} (h : rngOk i = true) : -(2 ^ 62) ≤ i ∧ i < 2 ^ 62 := by
  unfold rngOk at h
  rw [Bool.and_eq_true] at h
  exact ⟨of_decide_eq_true h.1, of_decide_eq_true h.2⟩
theorem rngD_one {d : D} {ys : List D} (h : rngD [d] = some ys) : ∃ j, d = .int j ∧ rngOk j = true ∧ ys = rngL 0 j := by
  cases d <;> simp only [rngD, reduceCtorEq] at h
  split at h
  · cases h; exact ⟨_, rfl, by assumption, rfl⟩
  · cases h
theorem rngD_two {d d2 : D} {ys : List D} (h : rngD [d, d2] = some ys) : ∃ i j, d = .int i ∧ d2 = .int j ∧ rngOk i = true ∧ rngOk j = true ∧ ys = rngL i j := by
  cases d <;> cases d2 <;> simp only [rngD, reduceCtorEq] at h
  split at h
  · rename_i hc
    rw [Bool.and_eq_true] at hc
    cases h; exact ⟨_, _, rfl, rfl, hc.1, hc.2, rfl⟩
  · cases h
section
variable {G : Prog} {w k : Nat} {X : Cx} {W : L2.WX} {sc : Scope} {N : List Str} {pos : Pos} {a b c e : Expr} {ea eb ec : Ex} {es : List Expr} {xs : List Ex}
theorem evL1 {T : Tb} {γ : Type} (f : List D × En → Res γ) (ρ : En) : (evL T [ea] ρ).bind f = ((ev T ea ρ).bind frz).bind fun p => f ([p.1], p.2) := by
  show ((((ev T ea ρ).bind frz).bind fun p => (Res.ok ([], p.2)).bind fun q => (Res.ok (p.1 :: q.1, q.2) : Res (List D × En)))).bind f = _
  rw [bind_assoc]; rfl
theorem evL2 {T : Tb} {γ : Type} (f : List D × En → Res γ) (ρ : En) : (evL T [ea, eb] ρ).bind f = ((ev T ea ρ).bind frz).bind fun p => ((ev T eb p.2).bind frz).bind fun q => f ([p.1, q.1], q.2) := by
  show ((((ev T ea ρ).bind frz).bind fun p => (evL T [eb] p.2).bind fun q => (Res.ok (p.1 :: q.1, q.2) : Res (List D × En)))).bind f = _
  rw [bind_assoc]
  congr 1; funext p
  rw [bind_assoc, evL1]; rfl
theorem evL3 {T : Tb} {γ : Type} (f : List D × En → Res γ) (ρ : En) : (evL T [ea, eb, ec] ρ).bind f = ((ev T ea ρ).bind frz).bind fun p => ((ev T eb p.2).bind frz).bind fun q => ((ev T ec q.2).bind frz).bind fun r => f ([p.1, q.1, r.1], r.2) := by
  show ((((ev T ea ρ).bind frz).bind fun p => (evL T [eb, ec] p.2).bind fun q => (Res.ok (p.1 :: q.1, q.2) : Res (List D × En)))).bind f = _
  rw [bind_assoc]
  congr 1; funext p
  rw [bind_assoc, evL2]; rfl
/-- the arguments of a range, as HandS takes them -/
theorem prg_of (o : XOk G w k X W sc N) {f : Expr → Ex} {e : Expr} {as : List Expr} (h : rngArgs sc e = some as) (al : AllE G w k X W f as) :
    ∃ te, L2.PRg X e te ∧ ∀ {γ δ : Type} {Rb : Rel γ δ}, Sh Rb → ∀ (ρ : En) (F : Hp) (σ : SS) (H : Hp) (g : List D × En → Res (γ × En)) (Q : δ → Hp → Prop),
      Con X.K (EX X.mg G.fld X.K W) Rb σ ρ F H ((evL (tbl G w k) (as.map f) ρ).bind fun p => (opt (rngD p.1)).bind fun xs => lim xs (g (xs, p.2))) Q →
      ∀ Z : Int → Int → Hp → Prop, (∀ a b H1 ρ1 F1, L2.RgOk a b → Con X.K (EX X.mg G.fld X.K W) Rb σ ρ1 F1 H1 (g (rngL a b, ρ1)) Q → Z a b H1) → te σ H Z := by
  unfold rngArgs at h
  split at h
  · rename_i y p e1 q
    split at h
    · rename_i hc
      cases h
      simp only [Bool.and_eq_true] at hc
      have ey : y = "range" := by simpa using hc.1.1
      subst ey
      have he := al e1 List.mem_cons_self
      refine ⟨_, L2.prg_1 (gloB_ok o hc.1.2) (o.blt _ (by decide)) he (star_cons hc.2 [] X.env), fun {γ δ Rb} sh ρ F σ H g Q cn Z hZ => ?_⟩
      rw [show ([e1] : List Expr).map f = [f e1] from rfl, evL1] at cn
      refine tE_mono (Con.bindF sh cn) fun v H1 ⟨d, ρ1, F1, r1, l1, c1⟩ => ?_
      obtain ⟨ys, hy, c2⟩ := c1.opt
      obtain ⟨hz, c3⟩ := c2.lim
      obtain ⟨j, rfl, hj, rfl⟩ := rngD_one hy
      cases r1
      obtain ⟨b1, b2⟩ := rngOk_ok hj
      rw [rngL_len] at hz
      exact ⟨j, rfl, hZ _ _ _ ρ1 F1 ⟨by decide, by decide, by omega, by omega, by unfold LIM at hz; omega⟩ c3⟩
    · cases h
  · rename_i y p e1 e2 q
    split at h
    · rename_i hc
      cases h
      simp only [Bool.and_eq_true] at hc
      have ey : y = "range" := by simpa using hc.1.1.1
      subst ey
      have he := al e1 List.mem_cons_self
      have he2 := al e2 (List.mem_cons_of_mem _ List.mem_cons_self)
      refine ⟨_, L2.prg_2 (gloB_ok o hc.1.1.2) (o.blt _ (by decide)) he he2 (star_cons hc.1.2 [e2] X.env) (star_cons hc.2 [] X.env) (star_any (es := [e2]) (by rw [List.all_cons, hc.2]; rfl) X.env q), fun {γ δ Rb} sh ρ F σ H g Q cn Z hZ => ?_⟩
      rw [show ([e1, e2] : List Expr).map f = [f e1, f e2] from rfl, evL2] at cn
      refine tE_mono (Con.bindF sh cn) fun v H1 ⟨d, ρ1, F1, r1, l1, c1⟩ => ?_
      refine tE_mono (Con.bindF sh c1) fun v2 H2 ⟨d2, ρ2, F2, r2, l2, c2⟩ => ?_
      obtain ⟨ys, hy, c3⟩ := c2.opt
      obtain ⟨hz, c4⟩ := c3.lim
      obtain ⟨i, j, rfl, rfl, hi, hj, rfl⟩ := rngD_two hy
      cases r1
      cases r2
      obtain ⟨b1, b2⟩ := rngOk_ok hi
      obtain ⟨b3, b4⟩ := rngOk_ok hj
      rw [rngL_len] at hz
      exact ⟨i, j, rfl, rfl, hZ _ _ _ ρ2 F2 ⟨by omega, by omega, by omega, by omega, by unfold LIM at hz; omega⟩ c4⟩
    · cases h
  · cases h
theorem snd_lrng {p : Pos} (o : XOk G w k X W sc N) {f : Expr → Ex} {as : List Expr} (hg : gloB sc "list" = true) (h : rngArgs sc e = some as) (hn : notStar e = true) (al : AllE G w k X W f as) : PE X (.Call (.Name "list" p) [e] [] pos) (tX G w k X W (.lrng (as.map f))) := by
  obtain ⟨te, h1, h2⟩ := prg_of o h al
  have base := L2.pe_listRg (p := p) (pos := pos) o.calm (gloB_ok o hg) (o.blt _ (by decide)) h1 (star_cons hn [] X.env)
  exact PE.imp base fun σ H Q ⟨ρ, F, cn⟩ => h2 sh_X ρ F σ H (fun p => .ok (.fresh (.list p.1), p.2)) Q cn _ fun a b H1 ρ1 F1 hr c1 => ⟨hr, fun q n => (Con.finR (r := .fresh (.list (rngL a b))) c1).newL c1.le (rng_vrs a b) q n⟩
theorem snd_trng {p : Pos} (o : XOk G w k X W sc N) {f : Expr → Ex} {as : List Expr} (hg : gloB sc "tuple" = true) (h : rngArgs sc e = some as) (hn : notStar e = true) (al : AllE G w k X W f as) : PE X (.Call (.Name "tuple" p) [e] [] pos) (tX G w k X W (.trng (as.map f))) := by
  obtain ⟨te, h1, h2⟩ := prg_of o h al
  have base := L2.pe_tupRg (p := p) (pos := pos) o.calm (gloB_ok o hg) (o.blt _ (by decide)) h1 (star_cons hn [] X.env)
  exact PE.imp base fun σ H Q ⟨ρ, F, cn⟩ => h2 sh_X ρ F σ H (fun p => .ok (.val (.tuple p.1), p.2)) Q cn _ fun a b H1 ρ1 F1 hr c1 => ⟨hr, fun q n => (Con.finR (r := .val (.tuple (rngL a b))) c1).newT c1.le (rng_vrs a b) q n⟩
theorem snd_trev {p p2 pos2 : Pos} (o : XOk G w k X W sc N) (hg : gloB sc "tuple" = true) (hg2 : gloB sc "reversed" = true) (hn : notStar e = true) (he : PE X e (tX G w k X W ea)) :
    PE X (.Call (.Name "tuple" p) [.Call (.Name "reversed" p2) [e] [] pos2] [] pos) (tX G w k X W (.trev ea)) := by
  refine PE.imp (RT.pe_tupRev o.calm (gloB_ok o hg) (o.blt _ (by decide)) (gloB_ok o hg2) (o.blt _ (by decide)) he (star_cons hn [] X.env)) fun σ H Q ⟨ρ, F, c⟩ => ?_
  refine tE_mono (Con.bindO sh_X c) fun x H1 ⟨xa, ρ1, F1, o1, l1, c1⟩ => ?_
  obtain ⟨d, p1, c2⟩ := c1.peek1
  have ox := c2.S.peek o1 p1
  cases d with
  | list xs =>
    obtain ⟨q, vs, rfl, hp, rp⟩ := ox.list c2.le
    exact ⟨q, vs, rfl, hp, fun q' n => (Con.finR (r := .val (.tuple xs.reverse)) c2).newT c2.le rp.reverse q' n⟩
  | _ => exact c2.P.elim
/-! ### walks -/
theorem tI_bind {T : Tb} {K : Frag} {E : ExW} {γ δ : Type} {Rb : Rel γ δ} (sh : Sh Rb) {σ : SS} {ρ : En} {F H : Hp} {it : It} {f : (List D × List Nat) × En → Res (γ × En)} {Q : δ → Hp → Prop} (c : Con K E Rb σ ρ F H ((evI T it ρ).bind f) Q) :
    tI T K E it σ H fun J H1 => ∃ x ρ1 F1, RI K σ H ρ1 F1 H1 x J ∧ Mid K σ ρ F H ρ1 F1 H1 ∧ Con K E Rb σ ρ1 F1 H1 (f (x, ρ1)) Q := ⟨ρ, F, c.bind (Ra := RI K σ) sh⟩
theorem snd_seq {tg : Expr} (ha : PE X a (tX G w k X W ea)) : PI X tg a (tI (tbl G w k) X.K (EX X.mg G.fld X.K W) (.seq ea)) := by
  refine PI.imp (PI.or (L2.pi_list ha) (L2.pi_tup ha)) fun σ H R ⟨ρ, F, c⟩ => ?_
  have c0 : Con X.K (EX X.mg G.fld X.K W) (RI X.K σ) σ ρ F H (((ev (tbl G w k) ea ρ).bind frz).bind fun p => (opt (itemsD p.1)).bind fun xs => .ok ((xs, []), p.2)) R := c
  cases hr : (ev (tbl G w k) ea ρ).bind frz with
  | ok r =>
    have p0 := c0.P
    rw [hr] at p0
    cases hd : r.1 with
    | list xs =>
      refine .inl (tE_mono (Con.bindFe sh_I c0) fun v H1 ⟨d, ρ1, F1, e1, r1, l1, c1⟩ => ?_)
      rw [hr] at e1
      cases e1
      cases (show _ = _ from hd)
      cases r1 with
      | @lst q vs _ hp rr => exact ⟨q, rfl, ⟨vs, c1.le.sqL hp⟩, c1.fin0 (Rl := RI X.K σ) ⟨it_list hp rr, noh⟩⟩
    | tuple xs =>
      refine .inr (tE_mono (Con.bindFe sh_I c0) fun v H1 ⟨d, ρ1, F1, e1, r1, l1, c1⟩ => ?_)
      rw [hr] at e1
      cases e1
      cases (show _ = _ from hd)
      cases r1 with
      | @tup q vs _ hp rr => exact ⟨q, rfl, ⟨vs, c1.le.sqT hp⟩, c1.fin0 (Rl := RI X.K σ) ⟨it_tup hp rr, noh⟩⟩
    | none => rw [bind_ok, hd] at p0; exact p0.elim
    | bool _ => rw [bind_ok, hd] at p0; exact p0.elim
    | int _ => rw [bind_ok, hd] at p0; exact p0.elim
    | str _ => rw [bind_ok, hd] at p0; exact p0.elim
    | dict _ => rw [bind_ok, hd] at p0; exact p0.elim
  | rs _ _ _ =>
    refine .inl (tE_mono (Con.bindFe sh_I c0) fun v H1 ⟨d, ρ1, F1, e1, r1, l1, c1⟩ => ?_)
    rw [hr] at e1; cases e1
  | bad =>
    have p0 := c0.P
    rw [hr] at p0
    exact p0.elim
theorem snd_hid {tg : Expr} {i : Nat} (ha : PE X a (tX G w k X W (.var i))) : PI X tg a (tI (tbl G w k) X.K (EX X.mg G.fld X.K W) (.hid i)) := by
  refine PI.imp (PI.or (L2.pi_list ha) (L2.pi_tup ha)) fun σ H R ⟨ρ, F, c⟩ => ?_
  have p := c.P
  simp only [evI] at p
  split at p
  · rename_i xs hx
    refine .inl ⟨ρ, F, c.S, ?_⟩
    rw [show ev (tbl G w k) (.var i) ρ = .ok (.slot i, ρ) by simp only [ev, hx]]
    intro v F' H' m r
    obtain ⟨v', h1, h2⟩ := m.S.own hx
    obtain ⟨q, vs, rfl, h3, h4, h5⟩ := h2
    have e : v = .ref q := by
      have := r.1
      rw [h1] at this; cases this; rfl
    exact ⟨q, e, ⟨vs, .inl (.inl h3)⟩, p _ F' H' m ⟨it_hid h1 h3 h5, fun j hj => by rw [List.mem_singleton.mp hj]; exact ⟨_, hx⟩⟩⟩
  · rename_i d hx
    have e : ev (tbl G w k) (.var i) ρ = .ok (.val d, ρ) := by simp only [ev, hx]
    cases d with
    | list xs =>
      refine .inl ⟨ρ, F, c.S, ?_⟩
      rw [e]
      intro v F' H' m r
      cases r with
      | @lst q vs _ hp rr => exact ⟨q, rfl, ⟨vs, m.S.sub.sqL hp⟩, p _ F' H' m ⟨it_list hp rr, noh⟩⟩
    | tuple xs =>
      refine .inr ⟨ρ, F, c.S, ?_⟩
      rw [e]
      intro v F' H' m r
      cases r with
      | @tup q vs _ hp rr => exact ⟨q, rfl, ⟨vs, m.S.sub.sqT hp⟩, p _ F' H' m ⟨it_tup hp rr, noh⟩⟩
    | _ => exact p.elim
  · exact p.elim
theorem rngI_one {d : D} {ys : List D} (h : rngI [d] = some ys) : ∃ j, d = .int j ∧ rngOk j = true ∧ ys = rngL 0 j := by
  cases d <;> simp only [rngI, reduceCtorEq] at h
  split at h
  · cases h; exact ⟨_, rfl, by assumption, rfl⟩
  · cases h
theorem rngI_two {d d2 : D} {ys : List D} (h : rngI [d, d2] = some ys) : ∃ i j, d = .int i ∧ d2 = .int j ∧ rngOk i = true ∧ rngOk j = true ∧ ys = rngL i j := by
  cases d <;> cases d2 <;> simp only [rngI, reduceCtorEq] at h
  split at h
  · rename_i hc
    rw [Bool.and_eq_true] at hc
    cases h; exact ⟨_, _, rfl, rfl, hc.1, hc.2, rfl⟩
  · cases h
theorem rngI_three {d d2 d3 : D} {ys : List D} (h : rngI [d, d2, d3] = some ys) : ∃ i j, d = .int i ∧ d2 = .int j ∧ d3 = .int (-1) ∧ rngOk i = true ∧ rngOk j = true ∧ ys = rngC i j (-1) := by
  cases d <;> cases d2 <;> cases d3 <;> simp only [rngI, reduceCtorEq] at h
  split at h
  · rename_i hc
    rw [Bool.and_eq_true, Bool.and_eq_true] at hc
    have e := of_decide_eq_true hc.2
    subst e
    cases h; exact ⟨_, _, rfl, rfl, rfl, hc.1.1, hc.1.2, rfl⟩
  · cases h
theorem snd_rng1 {tg : Expr} {p : Pos} (o : XOk G w k X W sc N) (hg : gloB sc "range" = true) (hn : notStar a = true) (ha : PE X a (tX G w k X W ea)) : PI X tg (.Call (.Name "range" p) [a] [] pos) (tI (tbl G w k) X.K (EX X.mg G.fld X.K W) (.rng [ea])) := by
  refine PI.imp (L2.pi_range1 (gloB_ok o hg) (o.blt _ (by decide)) (L2.pa_cons ha L2.pa_nil (star_cons hn [] X.env)) (star_cons hn [] X.env)) fun σ H R ⟨ρ, F, c⟩ => ?_
  have c0 : Con X.K (EX X.mg G.fld X.K W) (RI X.K σ) σ ρ F H ((evL (tbl G w k) [ea] ρ).bind fun p => (opt (rngI p.1)).bind fun xs => .ok ((xs, []), p.2)) R := c
  rw [evL1] at c0
  refine tE_mono (Con.bindF sh_I c0) fun v H1 ⟨d, ρ1, F1, r1, l1, c1⟩ => ?_
  obtain ⟨ys, hy, c2⟩ := c1.opt
  obtain ⟨j, rfl, hj, rfl⟩ := rngI_one hy
  cases r1
  obtain ⟨b1, b2⟩ := rngOk_ok hj
  refine ⟨j, rfl, b1, b2, c2.fin0 (Rl := RI X.K σ) ⟨?_, noh⟩⟩
  have := it_rng (K := X.K) (σ := σ) (F := F1) (H := H1) 0 j
  rw [Int.sub_zero] at this
  exact this
theorem snd_rng2 {tg : Expr} {p : Pos} (o : XOk G w k X W sc N) (hg : gloB sc "range" = true) (hn : notStar a = true) (hn2 : notStar b = true) (ha : PE X a (tX G w k X W ea)) (hb : PE X b (tX G w k X W eb)) : PI X tg (.Call (.Name "range" p) [a, b] [] pos) (tI (tbl G w k) X.K (EX X.mg G.fld X.K W) (.rng [ea, eb])) := by
  have s2 := star_cons hn2 [] X.env
  have s1 := star_cons hn [b] X.env
  refine PI.imp (L2.pi_range2 (gloB_ok o hg) (o.blt _ (by decide)) (L2.pa_cons ha (L2.pa_cons hb L2.pa_nil s2) s1) (by rw [s1, s2]; rfl) s2) fun σ H R ⟨ρ, F, c⟩ => ?_
  have c0 : Con X.K (EX X.mg G.fld X.K W) (RI X.K σ) σ ρ F H ((evL (tbl G w k) [ea, eb] ρ).bind fun p => (opt (rngI p.1)).bind fun xs => .ok ((xs, []), p.2)) R := c
  rw [evL2] at c0
  refine tE_mono (Con.bindF sh_I c0) fun v H1 ⟨d, ρ1, F1, r1, l1, c1⟩ => ?_
  refine tE_mono (Con.bindF sh_I c1) fun v2 H2 ⟨d2, ρ2, F2, r2, l2, c2⟩ => ?_
  obtain ⟨ys, hy, c3⟩ := c2.opt
  obtain ⟨i, j, rfl, rfl, hi, hj, rfl⟩ := rngI_two hy
  cases r1
  cases r2
  obtain ⟨b1, b2⟩ := rngOk_ok hi
  obtain ⟨b3, b4⟩ := rngOk_ok hj
  exact ⟨i, j, rfl, ⟨b1, b2, b3, b4⟩, c3.fin0 (Rl := RI X.K σ) ⟨it_rng i j, noh⟩⟩
theorem snd_rng3 {tg : Expr} {p : Pos} (o : XOk G w k X W sc N) (hg : gloB sc "range" = true) (hn : notStar a = true) (hn2 : notStar b = true) (hn3 : notStar c = true) (ha : PE X a (tX G w k X W ea)) (hb : PE X b (tX G w k X W eb)) (hc : PE X c (tX G w k X W ec)) :
    PI X tg (.Call (.Name "range" p) [a, b, c] [] pos) (tI (tbl G w k) X.K (EX X.mg G.fld X.K W) (.rng [ea, eb, ec])) := by
  have s3 := star_cons hn3 [] X.env
  have s2 := star_cons hn2 [c] X.env
  have s1 := star_cons hn [b, c] X.env
  refine PI.imp (L2.pi_range3 (gloB_ok o hg) (o.blt _ (by decide)) (L2.pa_cons ha (L2.pa_cons hb (L2.pa_cons hc L2.pa_nil s3) s2) s1) s1 (star_any (es := [b, c]) (by rw [List.all_cons, List.all_cons, hn2, hn3]; rfl) X.env pos)) fun σ H R ⟨ρ, F, cn⟩ => ?_
  have c0 : Con X.K (EX X.mg G.fld X.K W) (RI X.K σ) σ ρ F H ((evL (tbl G w k) [ea, eb, ec] ρ).bind fun p => (opt (rngI p.1)).bind fun xs => .ok ((xs, []), p.2)) R := cn
  rw [evL3] at c0
  refine tE_mono (Con.bindF sh_I c0) fun v H1 ⟨d, ρ1, F1, r1, l1, c1⟩ => ?_
  refine tE_mono (Con.bindF sh_I c1) fun v2 H2 ⟨d2, ρ2, F2, r2, l2, c2⟩ => ?_
  refine tE_mono (Con.bindF sh_I c2) fun v3 H3 ⟨d3, ρ3, F3, r3, l3, c3⟩ => ?_
  obtain ⟨ys, hy, c4⟩ := c3.opt
  obtain ⟨i, j, rfl, rfl, rfl, hi, hj, rfl⟩ := rngI_three hy
  cases r1
  cases r2
  cases r3
  obtain ⟨b1, b2⟩ := rngOk_ok hi
  obtain ⟨b3, b4⟩ := rngOk_ok hj
  have rg := L2.RgC.neg b1 b2 b3 b4
  refine ⟨i, j, -1, (i - j).toNat, rfl, rg, c4.fin0 (Rl := RI X.K σ) ⟨?_, noh⟩⟩
  have e : (Builtin.Range.rangeSize i j (-1)).toNat = (i - j).toNat := by
    have := rg.2.2.2
    rw [this]; rfl
  unfold rngC
  rw [e]
  exact it_fn (f := fun n => i + (n : Nat) * (-1)) L2.walk_rangeC
theorem snd_enum {tg : Expr} {p : Pos} (o : XOk G w k X W sc N) (hg : gloB sc "enumerate" = true) (ht : isTuple tg = true) (hn : notStar a = true) (ha : PE X a (tX G w k X W ea)) : PI X tg (.Call (.Name "enumerate" p) [a] [] pos) (tI (tbl G w k) X.K (EX X.mg G.fld X.K W) (.enum ea)) := by
  cases tg with
  | Tuple elts kk tpos =>
    refine PI.imp (L2.pi_enum (gloB_ok o hg) (o.blt _ (by decide)) (L2.pa_cons ha L2.pa_nil (star_cons hn [] X.env)) (star_cons hn [] X.env)) fun σ H R ⟨ρ, F, c⟩ => ?_
    refine tE_mono (Con.bindF (ρ := ρ) sh_I (show Con X.K _ (RI X.K σ) σ ρ F H (((ev (tbl G w k) ea ρ).bind frz).bind fun p => match p.1 with | .list xs => .ok ((enumL 0 xs, []), p.2) | _ => .bad) R from c)) fun v H1 ⟨d, ρ1, F1, r1, l1, c1⟩ => ?_
    cases r1 with
    | @lst q vs ds hp rr =>
      refine ⟨q, vs, rfl, (c1.le.sqL hp), c1.fin0 (Rl := RI X.K σ) ⟨?_, noh⟩⟩
      rw [enumL_eq]
      have wk := L2.walk_enum (K := X.K) (a := q) (xs := vs)
      rw [← rr.length] at wk
      refine it_pair (f := fun i => .int ((0 + i : Nat) : Int)) (g := fun i => ds[i]?.getD .none) wk (fun F2 H2 l2 l3 => ((l2.trans l3).sqL hp)) (fun i u hi hu => ?_) fun i u hi hu => ?_
      · cases hu
        rw [Nat.zero_add]; exact .int _
      · have hg := List.getElem?_eq_getElem hi
        obtain ⟨u', h1, h2⟩ := rr.get hg
        rw [h1] at hu; cases hu
        rw [hg]; exact h2
    | _ => exact c1.P.elim
  | _ => cases ht
theorem snd_zip {tg : Expr} {p : Pos} (o : XOk G w k X W sc N) (hg : gloB sc "zip" = true) (ht : isTuple tg = true) (hn : notStar a = true) (hn2 : notStar b = true) (ha : PE X a (tX G w k X W ea)) (hb : PE X b (tX G w k X W eb)) : PI X tg (.Call (.Name "zip" p) [a, b] [] pos) (tI (tbl G w k) X.K (EX X.mg G.fld X.K W) (.zip ea eb)) := by
  cases tg with
  | Tuple elts kk tpos =>
    have s2 := star_cons hn2 [] X.env
    have s1 := star_cons hn [b] X.env
    refine PI.imp (L2.pi_zip (gloB_ok o hg) (o.blt _ (by decide)) (L2.pa_cons ha (L2.pa_cons hb L2.pa_nil s2) s1) s1 (star_any (es := [b]) (by rw [List.all_cons, hn2]; rfl) X.env pos)) fun σ H R ⟨ρ, F, c⟩ => ?_
    refine tE_mono (Con.bindF (ρ := ρ) sh_I (show Con X.K _ (RI X.K σ) σ ρ F H (((ev (tbl G w k) ea ρ).bind frz).bind fun p => ((ev (tbl G w k) eb p.2).bind frz).bind fun q => match p.1, q.1 with | .list xs, .list ys => .ok ((zipL xs ys, []), q.2) | _, _ => .bad) R from c)) fun v H1 ⟨d, ρ1, F1, r1, l1, c1⟩ => ?_
    refine tE_mono (Con.bindF sh_I c1) fun v2 H2 ⟨d2, ρ2, F2, r2, l2, c2⟩ => ?_
    cases r1 with
    | @lst q vs ds hp rr =>
      cases r2 with
      | @lst q' vs' ds' hp' rr' =>
        refine ⟨q, q', vs, vs', rfl, ((l2.trans c2.le).sqL hp), (c2.le.sqL hp'), c2.fin0 (Rl := RI X.K σ) ⟨?_, noh⟩⟩
        rw [zipL_eq]
        have wk := L2.walk_zip (K := X.K) (a := q) (b := q') (xs := vs) (ys := vs') (n := min ds.length ds'.length) (by rw [rr.length, rr'.length])
        refine it_pair (f := fun i => ds[i]?.getD .none) (g := fun i => ds'[i]?.getD .none) wk (fun F3 H3 l3 l4 => ⟨((l2.trans (l3.trans l4)).sqL hp), ((l3.trans l4).sqL hp')⟩) (fun i u hi hu => ?_) fun i u hi hu => ?_
        · have hg := List.getElem?_eq_getElem (l := ds) (i := i) (by omega)
          obtain ⟨u', h1, h2⟩ := rr.get hg
          rw [h1] at hu; cases hu
          rw [hg]; exact h2.mono l2
        · have hg := List.getElem?_eq_getElem (l := ds') (i := i) (by omega)
          obtain ⟨u', h1, h2⟩ := rr'.get hg
          rw [h1] at hu; cases hu
          rw [hg]; exact h2
      | _ => exact c2.P.elim
    | _ => exact c2.P.elim
  | _ => cases ht
theorem walk_revT {K : Frag} {a : Addr} {xs : List V} : L2.Walk (RT.ItvT K a xs.length) xs.length (fun H => SqT K H a xs) (fun i H x H' => H' = H ∧ xs[xs.length - 1 - i]? = some x) :=
  ⟨fun i H hi h => ⟨hi, xs, xs[xs.length - 1 - i], h, List.getElem?_eq_getElem (by omega)⟩, fun H _ => Nat.le_refl _, fun i H x H' hi h y => ⟨y.1, y.2 xs h⟩⟩
theorem snd_rev {tg : Expr} {p : Pos} (o : XOk G w k X W sc N) (hg : gloB sc "reversed" = true) (hn : notStar a = true) (ha : PE X a (tX G w k X W ea)) : PI X tg (.Call (.Name "reversed" p) [a] [] pos) (tI (tbl G w k) X.K (EX X.mg G.fld X.K W) (.rev ea)) := by
  refine PI.imp (RT.pi_revA (gloB_ok o hg) (o.blt _ (by decide)) ha (star_cons hn [] X.env)) fun σ H R ⟨ρ, F, c⟩ => ?_
  refine tE_mono (Con.bindF (ρ := ρ) sh_I (show Con X.K _ (RI X.K σ) σ ρ F H (((ev (tbl G w k) ea ρ).bind frz).bind fun p => (opt (itemsD p.1)).bind fun xs => .ok ((xs.reverse, []), p.2)) R from c)) fun v H1 ⟨d, ρ1, F1, r1, l1, c1⟩ => ?_
  obtain ⟨ys, hy, c2⟩ := c1.opt
  cases r1 with
  | @lst q vs ds hp rr =>
    cases hy
    exact ⟨q, vs, rfl, .inl ⟨(c1.le.sqL hp), c2.fin0 (Rl := RI X.K σ) ⟨it_rev rr (L2.walk_rev (K := X.K) (a := q) (xs := vs)) fun F2 H2 l2 l3 => ((l2.trans l3).sqL hp), noh⟩⟩⟩
  | @tup q vs ds hp rr =>
    cases hy
    exact ⟨q, vs, rfl, .inr ⟨c1.le.sqT hp, c2.fin0 (Rl := RI X.K σ) ⟨it_rev rr walk_revT fun F2 H2 l2 l3 => (l2.trans l3).sqT hp, noh⟩⟩⟩
  | non => cases hy
  | bl _ => cases hy
  | int _ => cases hy
  | str _ => cases hy
end
/-- HandS' own readings of ranges let their ends be weakened -/
theorem rg_notStar {sc : Scope} {e : Expr} {as : List Expr} (h : rngArgs sc e = some as) : notStar e = true := by
  unfold rngArgs at h
  split at h
  · rfl
  · rfl
  · cases h
end Pv
end
section
/-! Pv15: comprehensions; all terms of the text. -/
namespace Pv
open PySem PySem.Spec PyProof.Rows
open L2 (V Hp HO SqL SqT upd upd_same upd_ne VK TE TA TT Cx PE PA PT Inv Same Vals RelV Room Takes TI TG TGs PI PG PGs)
/-- a turn of a comprehension -/
def turnL (T : Tb) (own : List Nat) (t : Tg) (cs : Option Ex) (e : Ex) (x : D) (ρ : En) : Res (Option D × En) :=
  noRs ((opt (asgT t x (wipeE ρ own))).bind fun ρ => (evC T cs ρ).bind fun c => if c.1 then ((ev T e c.2).bind frz).bind fun r => .ok (some r.1, r.2) else .ok (none, c.2))
theorem noRs_ok' {α : Type} {r : Res α} {a : α} (h : noRs r = .ok a) : r = .ok a := by cases r <;> simp [noRs] at h; rw [h]
theorem turnL_ok {T : Tb} {own : List Nat} {t : Tg} {cs : Option Ex} {e : Ex} {x : D} {ρ ρ2 : En} {oy : Option D} (h : turnL T own t cs e x ρ = .ok (oy, ρ2)) :
    ∃ ρ' b ρc, asgT t x (wipeE ρ own) = some ρ' ∧ evC T cs ρ' = .ok (b, ρc) ∧ ((b = true ∧ ∃ y, (ev T e ρc).bind frz = .ok (y, ρ2) ∧ oy = some y) ∨ (b = false ∧ oy = none ∧ ρ2 = ρc)) := by
  have h1 := noRs_ok' h
  cases ha : asgT t x (wipeE ρ own) with
  | none => rw [ha] at h1; cases h1
  | some ρ' =>
    rw [ha, opt_some, bind_ok] at h1
    cases hc : evC T cs ρ' with
    | bad => rw [hc] at h1; cases h1
    | rs _ _ _ => rw [hc] at h1; cases h1
    | ok c =>
      rw [hc, bind_ok] at h1
      refine ⟨ρ', c.1, c.2, rfl, hc, ?_⟩
      cases hb : c.1 with
      | false =>
        rw [hb] at h1
        simp only [Bool.false_eq_true, if_false] at h1
        cases h1
        exact .inr ⟨rfl, rfl, rfl⟩
      | true =>
        rw [hb] at h1
        simp only [if_true] at h1
        cases hr : (ev T e c.2).bind frz with
        | bad => rw [hr] at h1; cases h1
        | rs _ _ _ => rw [hr] at h1; cases h1
        | ok r =>
          rw [hr, bind_ok] at h1
          cases h1
          exact .inl ⟨rfl, r.1, rfl, rfl⟩
theorem compL_cons {turn : D → En → Res (Option D × En)} {x : D} {xs : List D} {ρ : En} {acc : List D} {fin : List D × En} (h : compL turn (x :: xs) ρ acc = .ok fin) :
    ∃ oy ρ2, turn x ρ = .ok (oy, ρ2) ∧ ((oy = none ∧ compL turn xs ρ2 acc = .ok fin) ∨ ∃ y, oy = some y ∧ acc.length < LIM ∧ compL turn xs ρ2 (acc ++ [y]) = .ok fin) := by
  simp only [compL] at h
  cases ht : turn x ρ with
  | bad => rw [ht] at h; cases h
  | rs _ _ _ => rw [ht] at h; cases h
  | ok r =>
    obtain ⟨oy, ρ2⟩ := r
    rw [ht, bind_ok] at h
    cases oy with
    | none => exact ⟨none, ρ2, rfl, .inl ⟨rfl, h⟩⟩
    | some y =>
      simp only at h
      split at h
      · exact ⟨some y, ρ2, rfl, .inr ⟨y, rfl, by assumption, h⟩⟩
      · cases h
theorem compL_nors {T : Tb} {own : List Nat} {t : Tg} {cs : Option Ex} {e : Ex} : ∀ {xs : List D} {ρ : En} {acc : List D} {c d ρ'}, compL (turnL T own t cs e) xs ρ acc ≠ .rs c d ρ'
  | [], ρ, acc, c, d, ρ', h => by cases h
  | x :: xs, ρ, acc, c, d, ρ', h => by
    simp only [compL] at h
    cases ht : turnL T own t cs e x ρ with
    | bad => rw [ht] at h; cases h
    | rs _ _ _ =>
      unfold turnL at ht
      generalize ((opt (asgT t x (wipeE ρ own))).bind fun ρ => (evC T cs ρ).bind fun c => if c.1 then ((ev T e c.2).bind frz).bind fun r => .ok (some r.1, r.2) else .ok (none, c.2)) = z at ht
      cases z <;> cases ht
    | ok r =>
      obtain ⟨oy, ρ2⟩ := r
      rw [ht, bind_ok] at h
      cases oy with
      | none => exact compL_nors h
      | some y =>
        simp only at h
        split at h
        · exact compL_nors h
        · cases h
theorem wipeE_app (ρ : En) : ∀ (h own : List Nat), wipeE ρ (h ++ own) = wipeE (wipeE ρ own) h
  | [], own => rfl
  | v :: vs, own => by show (wipeE ρ (vs ++ own)).set v .un = (wipeE (wipeE ρ own) vs).set v .un; rw [wipeE_app]
section
variable {K : Frag} {σ σ' : SS} {ρ ρ' : En} {F H : Hp}
/-- a new list of which nobody knows -/
theorem SR.aside (S : SR K ρ F σ H) {p : Addr} {o : HO} (n : F p = none) (no : ¬ Own ρ σ p) : SR K ρ F σ (upd H p o) :=
  S.step (O := fun b => b = p) ⟨Le.refl _, fun b u hb nb => by rw [upd_ne nb]; exact hb, fun _ _ h => .inl h, fun b hb => by
    by_cases e : b = p
    · subst e; rw [upd_same] at hb; cases hb
    · rw [upd_ne e] at hb; exact hb⟩ (S.sub.laidR n) fun q hq e => no (e ▸ hq)
theorem SR.nown (S : SR K ρ F σ H) {p : Addr} (n : H p = none) : ¬ Own ρ σ p := fun ⟨i, d, h, hs⟩ => by
  obtain ⟨v, e1, q⟩ := S.own h
  rw [hs] at e1; cases e1
  cases d with
  | list xs =>
    obtain ⟨p', vs, e2, h1, _, _⟩ := q
    cases e2
    rw [n] at h1; cases h1
  | _ => exact q.elim
theorem asgTs_own : ∀ {is : List Nat} {ds : List D} {ρ ρ' : En} {i : Nat} {d : D}, asgTs is ds ρ = some ρ' → ρ'[i]? = some (.own d) → i ∉ is ∧ ρ[i]? = some (.own d)
  | [], [], ρ, ρ', i, d, h, e => by cases h; exact ⟨by simp, e⟩
  | [], _ :: _, _, _, _, _, h, _ => by cases h
  | _ :: _, [], _, _, _, _, h, _ => by cases h
  | j :: is, x :: ds, ρ, ρ', i, d, h, e => by
    obtain ⟨h1, h2⟩ := asgTs_own (is := is) (ds := ds) (ρ := ρ.set j (.val x)) h e
    by_cases ej : i = j
    · subst ej
      have hl := (List.getElem?_eq_some_iff.mp h2).1
      rw [List.length_set] at hl
      rw [List.getElem?_set_self hl] at h2; cases h2
    · rw [List.getElem?_set_ne (Ne.symm ej)] at h2
      exact ⟨by simp [ej, h1], h2⟩
end
/-- the tests of a comprehension -/
def tCs (G : Prog) (w k : Nat) (X : Cx) (W : L2.WX) : Option Ex → TT
  | none => L2.tYes
  | some c => tXB G w k X W c
/-- between two turns -/
structure LcP (K : Frag) (T : Tb) (own h : List Nat) (t : Tg) (cs : Option Ex) (e : Ex) (σ : SS) (ρ1 : En) (F1 H1 : Hp) (D : Addr) (ds : List Pv.D) (fin : List Pv.D × En) (i : Nat) (H : Hp) (ρi : En) (Fi : Hp) (acc : List Pv.D) (vs : List V) : Prop where
  S : SR K (wipeE ρi own) Fi (L2.wipe σ own) H
  st : Stp (Own (wipeE ρ1 (h ++ own)) (L2.wipe σ own)) F1 H1 Fi H
  ix : ∀ (j : Nat) (d : Pv.D), (wipeE ρi own)[j]? = some (Slot.own d) → ∃ e, (wipeE ρ1 (h ++ own))[j]? = some (Slot.own e)
  hD : H D = some (.lst vs)
  fD : Fi D = none
  r : VRs K Fi acc vs
  eq : compL (turnL T own t cs e) (ds.drop i) ρi acc = .ok fin
theorem LcP.os {K : Frag} {T : Tb} {own h : List Nat} {t : Tg} {cs : Option Ex} {e : Ex} {σ : SS} {ρ1 : En} {F1 H1 : Hp} {D : Addr} {ds : List Pv.D} {fin : List Pv.D × En} {i : Nat} {H : Hp} {ρi : En} {Fi : Hp} {acc : List Pv.D} {vs : List V}
    (P : LcP K T own h t cs e σ ρ1 F1 H1 D ds fin i H ρi Fi acc vs) : ∀ p, Own (wipeE ρi own) (L2.wipe σ own) p → Own (wipeE ρ1 (h ++ own)) (L2.wipe σ own) p := fun p ⟨j, d, h, hs⟩ =>
  let ⟨e, h2⟩ := P.ix j d h
  ⟨j, e, h2, hs⟩
section
variable {G : Prog} {w k : Nat} {X : Cx} {W : L2.WX} {sc scope : Scope} {N : List Str} {pos : Pos} {elt tg iter : Expr} {e : Ex} {it : It} {t : Tg} {cs : Option Ex} {ifs : List Expr}
abbrev W0 : L2.WX := fun _ _ _ _ => False
theorem XOk.blk (o : XOk G w k X W sc N) (s : Shared) (H : Hp) (C : Addr) (cl : List (Str × Addr)) (fp : List Addr) : XOk G w k (X.blk s H scope (compEnvC scope cl C X.env) fp) W0 (relSc scope sc) N := by
  refine ⟨o.hN, o.nd, ?_, o.calm, o.room, L2.takes0, o.call, o.gl, o.blt, o.gcd⟩
  have := o.scope
  subst this
  rfl
theorem ownNames_al (hb : L2.BlkOk N sc scope (ownIx N scope)) (o : XOk G w k X W sc N) (s : Shared) (H : Hp) (C : Addr) (cl : List (Str × Addr)) (fp : List Addr) : AlOk (X.blk s H scope (compEnvC scope cl C X.env) fp) (ownNames scope) := fun x hx => by
  unfold ownNames at hx
  obtain ⟨y, hy, e⟩ := List.mem_filterMap.mp hx
  have hl := hb.uniq y hy
  obtain ⟨n, kd⟩ := y
  cases kd <;> simp only [reduceCtorEq, Option.some.injEq] at e
  · subst e
    have := L2.lookup_relS_keep (sc := X.env.scope) (by intro z; cases z) hl
    exact ⟨.inl this, .inr this⟩
  · subst e
    have := L2.lookup_relS_keep (sc := X.env.scope) (by intro z; cases z) hl
    refine ⟨.inr this, .inl ?_⟩
    show (scope.names.lookup n == some .cell) = true
    rw [hl]; rfl
theorem lc_imp (o : XOk G w k X W sc N) (hown : (tgIx (trTg (ownNames scope) N tg)).all ((ownIx N scope).map (·.2)).contains = true) (σ : SS) (H : Hp) (Q : VK)
    (hq : tX G w k X W (.lc ((ownIx N scope).map (·.2)) (trTg (ownNames scope) N tg) it cs e) σ H Q) :
    L2.tLc (tI (tbl G w k) X.K (EX X.mg G.fld X.K W) it) (tG X.K (trTg (ownNames scope) N tg)) (tCs G w k X W0 cs) (tX G w k X W0 e) ((ownIx N scope).map (·.2)) σ H Q := by
  obtain ⟨ρ, F, cn⟩ := hq
  generalize hO : (ownIx N scope).map (·.2) = own at *
  generalize hT : trTg (ownNames scope) N tg = t at *
  obtain ⟨ρ0, F0, cI⟩ := tI_bind (f := fun w' => (compL (turnL (tbl G w k) own t cs e) w'.1.1 (wipeE w'.2 w'.1.2) []).bind fun p => .ok (.fresh (.list p.1), backE w'.2 p.2 (w'.1.2 ++ own))) sh_X cn
  refine ⟨ρ0, F0, cI.S, ?_⟩
  have pI := cI.P
  revert pI
  cases evI (tbl G w k) it ρ0 with
  | bad => exact id
  | rs _ _ _ => exact id
  | ok wI =>
  intro pI J F1 H1 m ro D nD
  obtain ⟨x, ρ1, F1', ⟨⟨Gd, Y, wk, itf⟩, hid⟩, m1, c1⟩ := pI J F1 H1 m ro
  obtain ⟨ds, h⟩ := x
  -- the comprehension ends
  obtain ⟨fin, hfin⟩ : ∃ fin, compL (turnL (tbl G w k) own t cs e) ds (wipeE ρ1 h) [] = .ok fin := by
    have p1 := c1.P
    simp only at p1
    cases hf : compL (turnL (tbl G w k) own t cs e) ds (wipeE ρ1 h) [] with
    | bad => rw [hf] at p1; exact p1.elim
    | rs c d ρ' => exact absurd hf compL_nors
    | ok fin => exact ⟨fin, rfl⟩
  have S1 := c1.S
  have apt : Apt (h ++ own) σ (L2.wipe σ own) := Apt.wipe _ _ σ fun i hi => List.mem_append_right _ hi
  have nD1 : F1' D = none := S1.sub.tie nD
  have ix0 : ∀ (i : Nat) (d : Pv.D), (wipeE (wipeE ρ1 h) own)[i]? = some (Slot.own d) → ∃ e, (wipeE ρ1 (h ++ own))[i]? = some (Slot.own e) := fun i d h1 => by
    obtain ⟨n1, h3⟩ := wipeE_own h1
    obtain ⟨n2, h4⟩ := wipeE_own h3
    exact ⟨d, by rw [wipeE_out (fun z => (List.mem_append.mp z).elim n2 n1)]; exact h4⟩
  have sub0 : ∀ p, Own (wipeE (wipeE ρ1 h) own) (L2.wipe σ own) p → Own (wipeE ρ1 (h ++ own)) (L2.wipe σ own) p := fun p ⟨i, d, h1, h2⟩ =>
    let ⟨e, h3⟩ := ix0 i d h1
    ⟨i, e, h3, h2⟩
  have notO : ¬ Own (wipeE ρ1 (h ++ own)) (L2.wipe σ own) D := fun z => by
    obtain ⟨i, d, _, h1, h2⟩ := Own.away apt z
    exact S1.nown nD ⟨i, d, h1, h2⟩
  -- hidden lists stand
  have hidden : ∀ {Fi Hi : Hp}, Stp (Own (wipeE ρ1 (h ++ own)) (L2.wipe σ own)) F1' H1 Fi Hi → ∀ i ∈ h, ∀ p, σ[i]? = some (some (.ref p)) → Hi p = H1 p := fun {Fi Hi} st i hi p hp => by
    obtain ⟨d, hd⟩ := hid i hi
    obtain ⟨v, e1, q⟩ := S1.own hd
    rw [hp] at e1; cases e1
    have hq : ∃ o, H1 p = some o := by
      cases d with
      | list ys =>
        obtain ⟨p', vs, e2, h1, _, _⟩ := q
        cases e2
        exact ⟨_, h1⟩
      | _ => exact q.elim
    obtain ⟨ob, hob⟩ := hq
    rw [hob]
    refine st.frm p ob hob fun z => ?_
    obtain ⟨j, d', n, h1, h2⟩ := Own.away apt z
    have : i = j := S1.apart i j d d' p hd h1 hp h2
    exact n (this ▸ List.mem_append_left _ hi)
  refine L2.lc_it wk (fun i H' => ∃ ρi Fi acc vs, LcP X.K (tbl G w k) own h t cs e σ ρ1 F1' H1 D ds fin i H' ρi Fi acc vs) ?_ ?_ ?_ ?_
  · refine ⟨wipeE ρ1 h, F1', [], [], ?_, Stp.laidO nD, ix0, upd_same, nD1, .nil, hfin⟩
    have s2 := (S1.hide h).wipe own
    exact s2.aside nD1 fun z => notO (sub0 D z)
  · rintro i H' _ ⟨ρi, Fi, acc, vs, P⟩
    exact (itf Fi H' P.st.sub P.S.sub (hidden P.st)).1
  · rintro i v H' H'' hi ⟨ρi, Fi, acc, vs, P⟩ hy
    obtain ⟨F3, d, t3, l3, hd, rd⟩ := (itf Fi H' P.st.sub P.S.sub (hidden P.st)).2 i v H'' hi hy
    have hdrop : ds.drop i = d :: ds.drop (i + 1) := by
      have hi' : i < ds.length := hi
      rw [List.drop_eq_getElem_cons hi']
      have : ds[i]? = some ds[i] := List.getElem?_eq_getElem hi'
      rw [this] at hd; cases hd; rfl
    have heq := P.eq
    rw [hdrop] at heq
    obtain ⟨oy, ρ2, ht, hrest⟩ := compL_cons heq
    obtain ⟨ρ', b, ρc, ha, hcnd, hend⟩ := turnL_ok ht
    have S3 : SR X.K (wipeE ρi own) F3 (L2.wipe σ own) H'' := P.S.step t3 l3 fun _ _ z => z
    have hD3 : H'' D = some (.lst vs) := t3.frm D _ P.hD fun z => z
    have fD3 : F3 D = none := by
      cases e : F3 D with
      | none => rfl
      | some u =>
        rcases t3.ext D u e with z | z | z
        · rw [P.fD] at z; cases z
        · exact z.elim
        · rw [P.hD] at z; cases z
    have r3 := P.r.mono t3.sub
    refine ⟨d, wipeE ρi own, F3, ρ', S3, rd, ha, fun σ' S' u ix' os' => ?_⟩
    have wσ : L2.wipe σ' own = L2.wipe σ own := wipe_upd u fun i hi => by
      have := List.all_eq_true.mp hown i hi
      simpa using this
    refine ⟨wσ, ?_⟩
    -- what the owned names are, all along
    have ownD : ∀ p, Own ρ' σ' p → p ≠ D := fun p hp e => notO (e ▸ P.os p (os' p hp))
    have next : ∀ (ρe : En) (F5 H5 : Hp) (acc' : List Pv.D) (vs' : List V), Mid X.K σ' ρ' F3 H'' ρe F5 H5 → VRs X.K F5 acc' vs' → compL (turnL (tbl G w k) own t cs e) (ds.drop (i + 1)) ρe acc' = .ok fin →
        LcP X.K (tbl G w k) own h t cs e σ ρ1 F1' H1 D ds fin (i + 1) (upd H5 D (.lst vs')) ρe F5 acc' vs' := fun ρe F5 H5 acc' vs' m5 r5 e5 => by
      have ownE : ∀ p, Own (wipeE ρe own) (L2.wipe σ own) p → Own ρ' σ' p := fun p ⟨j, d', h1, h2⟩ => by
        obtain ⟨n, h3⟩ := wipeE_own h1
        rw [← wσ, L2.wipe_out n] at h2
        exact m5.os p ⟨j, d', h3, h2⟩
      have fD5 : F5 D = none := by
        cases e : F5 D with
        | none => rfl
        | some u =>
          rcases m5.st.ext D u e with z | z | z
          · rw [fD3] at z; cases z
          · exact absurd rfl (ownD D z)
          · rw [hD3] at z; cases z
      have S5 : SR X.K (wipeE ρe own) F5 (L2.wipe σ own) H5 := by rw [← wσ]; exact m5.S.wipe own
      have ixE : ∀ (j : Nat) (d : Pv.D), (wipeE ρe own)[j]? = some (Slot.own d) → ∃ e, (wipeE ρ1 (h ++ own))[j]? = some (Slot.own e) := fun j d' h1 => by
        obtain ⟨n, h3⟩ := wipeE_own h1
        obtain ⟨e4, h4⟩ := m5.ix j d' h3
        obtain ⟨e6, h6⟩ := ix' j e4 h4
        exact P.ix j e6 h6
      refine ⟨S5.aside fD5 fun z => ownD D (ownE D z) rfl, ?_, ixE, upd_same, fD5, r5, e5⟩
      have a1 := P.st.trans t3 fun _ z => z.elim
      have a2 := a1.trans m5.st fun p hp => .inl (P.os p (os' p hp))
      refine a2.trans (O1 := fun b => b = D) ⟨Le.refl _, fun b u hb nb => by rw [upd_ne nb]; exact hb, fun _ _ h => .inl h, fun b hb => ?_⟩ fun b e => .inr (e ▸ nD)
      by_cases e : b = D
      · subst e; rw [upd_same] at hb; cases hb
      · rw [upd_ne e] at hb; exact hb
    -- the test
    have test : ∀ (F4 H4 : Hp), Mid X.K σ' ρ' F3 H'' ρc F4 H4 → (if b = true then tX G w k X W0 e σ' H4 fun y H5 => ∃ acc0, H5 D = some (.lst acc0) ∧ acc0.length < sizeLine ∧ ∃ ρi Fi acc vs, LcP X.K (tbl G w k) own h t cs e σ ρ1 F1' H1 D ds fin (i + 1) (upd H5 D (.lst (acc0 ++ [y]))) ρi Fi acc vs
        else ∃ ρi Fi acc vs, LcP X.K (tbl G w k) own h t cs e σ ρ1 F1' H1 D ds fin (i + 1) H4 ρi Fi acc vs) := fun F4 H4 m4 => by
      have hD4 : H4 D = some (.lst vs) := m4.st.frm D _ hD3 fun z => ownD D z rfl
      rcases hend with ⟨hb1, y, hev, hoy⟩ | ⟨hb1, hoy, hρ⟩
      · rw [if_pos hb1]
        rcases hrest with ⟨hn, _⟩ | ⟨y', hy', hlen, hcomp⟩
        · rw [hoy] at hn; cases hn
        · rw [hoy] at hy'; cases hy'
          refine tF_of ⟨ρc, F4, m4.S, ?_⟩
          rw [hev]
          intro u F5 H5 m5 ru
          have m45 := m4.trans m5
          have hD5 : H5 D = some (.lst vs) := m45.st.frm D _ hD3 fun z => ownD D z rfl
          refine ⟨vs, hD5, by rw [← lim_line, ← P.r.length]; exact hlen, ρ2, F5, acc ++ [y], vs ++ [u], next ρ2 F5 H5 _ _ m45 ((r3.mono m45.st.sub).append (.cons ru .nil)) hcomp⟩
      · rw [if_neg (by rw [hb1]; exact Bool.false_ne_true)]
        rcases hrest with ⟨_, hcomp⟩ | ⟨y', hy', _⟩
        · have := next ρ2 F4 H4 acc vs (by rw [hρ]; exact m4) (r3.mono m4.st.sub) hcomp
          refine ⟨ρ2, F4, acc, vs, ?_⟩
          have e : upd H4 D (.lst vs) = H4 := by
            funext z
            by_cases ez : z = D
            · subst ez; rw [upd_same, hD4]
            · rw [upd_ne ez]
          rw [e] at this
          exact this
        · rw [hoy] at hy'; cases hy'
    cases cs with
    | none =>
      cases hcnd
      exact test F3 H'' (Mid.refl S')
    | some cnd =>
      refine ⟨ρ', F3, S', ?_⟩
      have hcnd' : (ev (tbl G w k) cnd ρ').bind boo = .ok (b, ρc) := hcnd
      rw [hcnd']
      intro b' F4 H4 m4 hbb
      cases hbb
      exact test F4 H4 m4
  · rintro H' ⟨ρi, Fi, acc, vs, P⟩
    have heq := P.eq
    rw [show (ds, h).1.length = ds.length from rfl, List.drop_length] at heq
    cases heq
    have p1 := c1.P
    simp only at p1
    rw [hfin, bind_ok] at p1
    have S2 : SR X.K (wipeE ρi (h ++ own)) Fi (L2.wipe σ own) H' := by rw [wipeE_app]; exact P.S.hide h
    have hl : ρi.length = ρ1.length := by
      have a := P.S.len
      have b := S1.len
      rw [wipeE_len, L2.wipe_length] at a
      omega
    have mb := Mid.back apt S1 S2 hl P.st fun i d h1 => by
      rw [wipeE_app] at h1
      exact P.ix i d (wipeE_own h1).2
    exact p1 (.ref D) Fi H' mb ⟨⟨D, vs, rfl, P.hD, P.fD, P.r⟩, fun p e => by cases e; exact nD⟩
/-- a comprehension as a value, as a name's new value -/
def LcOk (X : Cx) (e : Expr) (t : TE) : Prop := PE X e t ∧ ∀ (i : Nat) (y : Str) (py spos : Pos), X.N.Nodup → X.N[i]? = some y → L2.Loc X.env.scope y → (X.fn y = true ∨ X.env.scope.names.lookup y = some .local) → X.env.scope.kind = .function →
  L2.PS X (.Assign [.Name y py] e spos) (L2.tAsg t (L2.gName i))
theorem PS.imp {X : Cx} {e : Stmt} {t u : L2.TS} (h : L2.PS X e t) (i : ∀ D σ H, u D σ H → t D σ H) : L2.PS X e u := ⟨fun pins s σ H D I q => h.run pins s σ H D I (i D σ H q)⟩
theorem PSs.imp {X : Cx} {e : List Stmt} {t u : L2.TS} (h : L2.PSs X e t) (i : ∀ D σ H, u D σ H → t D σ H) : L2.PSs X e u := ⟨fun pins s σ H D I q => h.run pins s σ H D I (i D σ H q)⟩
theorem lc_bad {e : Expr} : LcOk X e (tX G w k X W .bad) := ⟨⟨fun _ _ _ _ _ _ ⟨_, _, c⟩ => c.P.elim⟩, fun _ _ _ _ _ _ _ _ _ => ⟨fun _ _ _ _ _ _ ⟨_, _, c⟩ => c.P.elim⟩⟩
theorem sw_pure {elt : Expr} {gs : List Comprehension} {pos py : Pos} {y : Str} {l : Nat} {env : Env} (hk : env.scope.kind = .function) : swapsWith (.ListComp elt gs scope pos) (some (.Name y py)) l env = pure true ∨ swapsWith (.ListComp elt gs scope pos) (some (.Name y py)) l env = pure false := by
  have : swapsWith (.ListComp elt gs scope pos) (some (.Name y py)) l env = pure (env.blockKind == .function && env.kindOf y == some .local && py.line == (Expr.ListComp elt gs scope pos).pos.line && !(scope.names.any fun (n, k) => n == y && (k == .local || k == .cell))) := rfl
  rw [this]
  generalize (env.blockKind == .function && env.kindOf y == some .local && py.line == (Expr.ListComp elt gs scope pos).pos.line && !(scope.names.any fun (n, k) => n == y && (k == .local || k == .cell))) = b
  cases b
  · exact .inr rfl
  · exact .inl rfl
theorem sw_local {elt : Expr} {gs : List Comprehension} {pos py : Pos} {y : Str} {l : Nat} {env : Env} (h : swapsWith (.ListComp elt gs scope pos) (some (.Name y py)) l env = pure true) (hf : swapsWith (.ListComp elt gs scope pos) (some (.Name y py)) l env ≠ pure false) : env.scope.names.lookup y = some .local := by
  have e : swapsWith (.ListComp elt gs scope pos) (some (.Name y py)) l env = pure (env.blockKind == .function && env.kindOf y == some .local && py.line == (Expr.ListComp elt gs scope pos).pos.line && !(scope.names.any fun (n, k) => n == y && (k == .local || k == .cell))) := rfl
  rw [e] at hf
  by_cases hl : (env.kindOf y == some .local) = true
  · exact eq_of_beq hl
  · exfalso
    apply hf
    rw [show (env.kindOf y == some .local) = false by simpa using hl]
    simp
theorem snd_lc (o : XOk G w k X W sc N) (hb : L2.blkC N sc scope (ownIx N scope) = true) (hown : (tgIx (trTg (ownNames scope) N tg)).all ((ownIx N scope).map (·.2)).contains = true)
    (hi : PI X tg iter (tI (tbl G w k) X.K (EX X.mg G.fld X.K W) it)) (hs : isSet iter = false)
    (he : ∀ X', XOk G w k X' W0 (relSc scope sc) N → PE X' elt (tX G w k X' W0 e))
    (hc : ∀ X', XOk G w k X' W0 (relSc scope sc) N → L2.PTs X' ifs (tCs G w k X' W0 cs)) :
    LcOk X (.ListComp elt [⟨tg, iter, ifs, 0⟩] scope pos) (tX G w k X W (.lc ((ownIx N scope).map (·.2)) (trTg (ownNames scope) N tg) it cs e)) := by
  have hb' := L2.blkOk_by hb
  have hset : ∀ x, foldedSetIterable iter X.env x = pure x := fun x => by cases iter <;> first | rfl | cases hs
  have blk : L2.BlkOk X.N X.env.scope scope (ownIx N scope) := by rw [o.hN, o.scope]; exact hb'
  have hcs : ∀ (s : Shared) (H : Hp) (C : Addr) (cl : List (Str × Addr)) (fp : List Addr), L2.PTs (X.blk s H scope (compEnvC scope cl C X.env) fp) ifs (tCs G w k X W0 cs) := fun s H C cl fp => by
    have := hc _ (o.blk (scope := scope) s H C cl fp)
    cases cs <;> exact this
  have pe := PE.imp (L2.pe_lc (elt := elt) (pos := pos) (own := ownIx N scope) (g := tG X.K (trTg (ownNames scope) N tg)) (tt := tCs G w k X W0 cs) (te := tX G w k X W0 e) o.calm (by rw [o.hN]; exact o.nd) hi blk
    (fun s H C cl fp => snd_tg (X := X.blk s H scope (compEnvC scope cl C X.env) fp) o.hN o.nd o.calm (ownNames_al hb' o s H C cl fp) tg) hcs (fun s H C cl fp => he _ (o.blk s H C cl fp)) hset) (lc_imp o hown)
  refine ⟨pe, fun i y py spos hN hy hl hf hk => ?_⟩
  rcases sw_pure (elt := elt) (gs := [⟨tg, iter, ifs, 0⟩]) (scope := scope) (pos := pos) (py := py) (y := y) (l := spos.line) hk with h1 | h1
  · by_cases h2 : swapsWith (.ListComp elt [⟨tg, iter, ifs, 0⟩] scope pos) (some (.Name y py)) spos.line X.env = pure false
    · exact L2.ps_set hN hy hl pe h2 hf
    · exact PS.imp (L2.ps_setLc (elt := elt) (pos := pos) (own := ownIx N scope) (g := tG X.K (trTg (ownNames scope) N tg)) (tt := tCs G w k X W0 cs) (te := tX G w k X W0 e) o.calm hN hy (sw_local h1 h2) h1 hi blk
        (fun s H C cl fp => snd_tg (X := X.blk s H scope (compEnvC scope cl C X.env) fp) o.hN o.nd o.calm (ownNames_al hb' o s H C cl fp) tg) hcs (fun s H C cl fp => he _ (o.blk s H C cl fp)) hset) fun D σ H h => lc_imp o hown σ H _ h
  · exact L2.ps_set hN hy hl pe h1 hf
end
end Pv
end
section
/-! Pv16: all terms of the text. -/
namespace Pv
open PySem PySem.Spec PyProof.Rows
open L2 (V Hp HO SqL SqT upd upd_same upd_ne VK TE TA TT Cx PE PA PT Inv Same Vals RelV Room Takes TI TG TGs PI PG PGs)
section
variable {G : Prog} {w k : Nat} {X : Cx} {W : L2.WX} {sc scope : Scope} {N : List Str} {pos : Pos} {a b c e : Expr} {ea eb ec : Ex} {es : List Expr}
theorem pw_of {op : BoolOp} {t : TT} (h : PT X (.BoolOp op es pos) t) : L2.PW X (.BoolOp op es pos) t := ⟨fun wh pins s σ H Q I q => h.run pins s σ H Q I q⟩
/-- what has been shown of the smaller terms -/
structure IH (G : Prog) (w k n : Nat) : Prop where
  e : ∀ {X : Cx} {W : L2.WX} {sc : Scope} {N : List Str}, XOk G w k X W sc N → ∀ e : Expr, PE X e (tX G w k X W (tr n sc N e))
  t : ∀ {X : Cx} {W : L2.WX} {sc : Scope} {N : List Str}, XOk G w k X W sc N → ∀ e : Expr, PT X e (tXB G w k X W (trT n sc N e))
variable {n : Nat}
theorem snd_const (x : Const) (j : Nat) : PE X (.Constant x j pos) (tX G w k X W (trK x)) := by
  cases x <;> first | exact snd_int | exact snd_str | exact snd_bl | exact snd_non | exact pe_bad
theorem snd_Compare (h : IH G w k n) (o : XOk G w k X W sc N) (ops : List CmpOp) (bs : List Expr) : PE X (.Compare a ops bs pos) (tX G w k X W (trCmp (tr n) sc N a ops bs)) := by
  unfold trCmp
  split
  · rename_i op b
    split
    · exact pe_bad
    · rename_i hs
      rw [trC_op op]
      have := snd_cmp (pos := pos) (op := trC op) o (by simpa using hs) (h.e o a) (h.e o b)
      rw [← trC_op op] at this ⊢
      exact this
  · rename_i op op' b c
    split
    · exact pe_bad
    · rename_i hs
      rw [Bool.or_eq_true, not_or] at hs
      have := snd_chn (pos := pos) (op := trC op) (op' := trC op') o (by simpa using hs.1) (by simpa using hs.2) (h.e o a) (h.e o b) (h.e o c)
      rw [← trC_op op, ← trC_op op'] at this
      exact this
  · exact pe_bad
theorem sndT_Compare (h : IH G w k n) (o : XOk G w k X W sc N) (ops : List CmpOp) (bs : List Expr) : PT X (.Compare a ops bs pos) (tXB G w k X W (trCmp (tr n) sc N a ops bs)) := by
  unfold trCmp
  split
  · rename_i op b
    split
    · exact pt_bad
    · rename_i hs
      have := sndT_cmp (pos := pos) (op := trC op) o (by simpa using hs) (h.e o a) (h.e o b)
      rw [← trC_op op] at this
      exact this
  · rename_i op op' b c
    split
    · exact pt_bad
    · rename_i hs
      rw [Bool.or_eq_true, not_or] at hs
      have := sndT_chn (pos := pos) (op := trC op) (op' := trC op') o (by simpa using hs.1) (by simpa using hs.2) (h.e o a) (h.e o b) (h.e o c)
      rw [← trC_op op, ← trC_op op'] at this
      exact this
  · exact pt_bad
theorem snd_Sub (h : IH G w k n) (o : XOk G w k X W sc N) (i : Expr) : PE X (.Subscript a i pos) (tX G w k X W (trSub (tr n) sc N a i)) := by
  unfold trSub
  split
  · exact snd_sli (h.e o a) (fun e _ => h.e o e) (fun e _ => h.e o e)
  · exact snd_rvs (h.e o a)
  · exact pe_bad
  · rename_i h1 h2 h3
    refine snd_sub ?_ (h.e o a) (h.e o i)
    cases i <;> first | rfl | exact absurd rfl (h3 _ _ _ _)
theorem allE (h : IH G w k n) (o : XOk G w k X W sc N) : AllE G w k X W (tr n sc N) es := fun e _ => h.e o e
theorem blt_lookup {x : Str} {b : Bi} (h : bltOf.lookup x = some b) : (x, b) ∈ bltOf := PySem.mem_of_lookup h
theorem blt_call (o : XOk G w k X W sc N) {x : Str} {p : Pos} {bi : Bi} (hm : (x, bi) ∈ bltOf) (hg : gloB sc x = true) (hne : es ≠ []) (hs : es.all notStar = true) {xs : List Ex} (ha : PA X es (tXs G w k X W xs)) : PE X (.Call (.Name x p) es [] pos) (tX G w k X W (.bi bi xs)) := by
  simp only [bltOf, List.mem_cons, Prod.mk.injEq, List.not_mem_nil, or_false] at hm
  have B : ∀ {y : Str}, y ∈ bltNames → X.mg y = none := fun {y} hy => o.blt y hy
  rcases hm with ⟨rfl, rfl⟩ | ⟨rfl, rfl⟩ | ⟨rfl, rfl⟩ | ⟨rfl, rfl⟩ | ⟨rfl, rfl⟩ | ⟨rfl, rfl⟩ | ⟨rfl, rfl⟩ | ⟨rfl, rfl⟩ | ⟨rfl, rfl⟩ | ⟨rfl, rfl⟩ | ⟨rfl, rfl⟩
  · exact snd_bi o ok_len hg (B (by decide)) PySem.boot_len hne hs ha (by decide) (by decide) (by decide)
  · exact snd_bi o ok_abs hg (B (by decide)) (by decide +kernel) hne hs ha (by decide) (by decide) (by decide)
  · exact snd_ty o ok_int hg (B (by decide)) (by decide +kernel) hne hs ha (by decide) (by decide) (by decide)
  · exact snd_bi o (ok_sum o.calm) hg (B (by decide)) (by decide +kernel) hne hs ha (by decide) (by decide) (by decide)
  · exact snd_bi o (ok_any o.calm) hg (B (by decide)) (by decide +kernel) hne hs ha (by decide) (by decide) (by decide)
  · exact snd_bi o (ok_all o.calm) hg (B (by decide)) (by decide +kernel) hne hs ha (by decide) (by decide) (by decide)
  · exact snd_bi o (ok_max o.calm) hg (B (by decide)) (by decide +kernel) hne hs ha (by decide) (by decide) (by decide)
  · exact snd_bi o (ok_min o.calm) hg (B (by decide)) (by decide +kernel) hne hs ha (by decide) (by decide) (by decide)
  · exact snd_ty o ok_list hg (B (by decide)) (by decide +kernel) hne hs ha (by decide) (by decide) (by decide)
  · exact snd_ty o ok_tuple hg (B (by decide)) (by decide +kernel) hne hs ha (by decide) (by decide) (by decide)
  · exact snd_bi o ok_sorted hg (B (by decide)) (by decide +kernel) hne hs ha (by decide) (by decide) (by decide)
theorem revArg_ok {a e : Expr} (h : revArg sc a = some e) : ∃ p2 pos2, a = .Call (.Name "reversed" p2) [e] [] pos2 ∧ gloB sc "reversed" = true ∧ notStar e = true := by
  unfold revArg at h
  split at h
  · split at h
    · rename_i hy
      cases h
      simp only [Bool.and_eq_true] at hy
      obtain ⟨⟨h1, h2⟩, h3⟩ := hy
      have ey := eq_of_beq h1
      subst ey
      exact ⟨_, _, rfl, h2, h3⟩
    · cases h
  · cases h
theorem snd_Call (h : IH G w k n) (o : XOk G w k X W sc N) {x : Str} {p : Pos} {args : List Expr} (hs : args.all notStar = true) : PE X (.Call (.Name x p) args [] pos) (tX G w k X W (trCall (tr n) sc N x args)) := by
  unfold trCall
  split
  · rename_i hx
    simp only [Bool.and_eq_true] at hx
    obtain ⟨⟨hg, hn⟩, hnm⟩ := hx
    split
    · rename_i b hb
      have hmem := blt_lookup hb
      split
      · exact pe_bad
      · rename_i a r
        have call := blt_call (pos := pos) (p := p) o hmem hg (List.cons_ne_nil a r) hs (snd_os hs (allE h o))
        split
        · rename_i as hc hr
          rw [Bool.and_eq_true] at hc
          have hb2 : b = .list := by simpa using hc.1
          have hr2 : r = [] := by simpa using hc.2
          subst hb2; subst hr2
          have ex : x = "list" := by
            simp only [bltOf, List.mem_cons, Prod.mk.injEq, List.not_mem_nil, or_false, reduceCtorEq, and_false, false_or] at hmem
            exact hmem.1
          subst ex
          exact snd_lrng o hg hr (rg_notStar hr) (allE h o)
        · split
          · rename_i as hc hr
            rw [Bool.and_eq_true] at hc
            have hb2 : b = .tuple := by simpa using hc.1
            have hr2 : r = [] := by simpa using hc.2
            subst hb2; subst hr2
            have ex : x = "tuple" := by
              simp only [bltOf, List.mem_cons, Prod.mk.injEq, List.not_mem_nil, or_false, reduceCtorEq, and_false, false_or] at hmem
              exact hmem.1
            subst ex
            exact snd_trng o hg hr (rg_notStar hr) (allE h o)
          · rename_i e hc _ hr
            rw [Bool.and_eq_true] at hc
            have hb2 : b = .tuple := by simpa using hc.1
            have hr2 : r = [] := by simpa using hc.2
            subst hb2; subst hr2
            have ex : x = "tuple" := by
              simp only [bltOf, List.mem_cons, Prod.mk.injEq, List.not_mem_nil, or_false, reduceCtorEq, and_false, false_or] at hmem
              exact hmem.1
            subst ex
            obtain ⟨p2, pos2, rfl, hg2, hn2⟩ := revArg_ok hr
            exact snd_trev o hg hg2 hn2 (h.e o _)
          · exact call
    · rename_i hb
      split
      · rename_i hgc
        have ex : x = "gcd" := by simpa using hgc
        subst ex
        by_cases hne : args = []
        · subst hne
          refine ⟨fun pins s σ H Q I ⟨ρ, F, cn⟩ => ?_⟩
          exfalso
          have p := cn.P
          simp only [ev, List.map_nil, evOs, bind_ok, peeks, opt_some, biD, opt_none, bind_bad] at p
          split at p <;> exact p
        · exact snd_gcd o hg hne hs (snd_os hs (allE h o))
      · split
        · rename_i hi
          have ex : x = "isinstance" := by simpa using hi
          split
          · rename_i e ts j p2
            split
            · rename_i l hl
              split
              · rename_i h100
                rw [List.all_cons, Bool.and_eq_true] at hs
                exact snd_isiT o ex hg hl hs.1 (of_decide_eq_true h100) (h.e o e)
              · exact pe_bad
            · exact pe_bad
          · rename_i e t _
            split
            · rename_i l hl
              rw [List.all_cons, Bool.and_eq_true] at hs
              exact snd_isi1 o ex hg hl hs.1 (h.e o e)
            · exact pe_bad
          · exact pe_bad
        · split
          · exact pe_bad
          · split
            · exact pe_bad
            · rename_i hne
              refine snd_call o hg (okName_ok hn).1 (fun z => ?_) hs (snd_os hs (allE h o))
              exact hne z
  · exact pe_bad
theorem snd_Meth (h : IH G w k n) (o : XOk G w k X W sc N) {x m : Str} {p ap cp : Pos} {args : List Expr} (hs : args.all notStar = true) (hl : (ap.endLine == cp.line) = true) : PE X (.Call (.Attribute (.Name x p) m ap) args [] cp) (tX G w k X W (trMeth (tr n) sc N x m args)) := by
  unfold trMeth
  split
  · rename_i i mu hv hm
    match args with
    | [] => exact snd_mut0 o hv hm hl
    | [e] =>
      rw [List.all_cons, Bool.and_eq_true] at hs
      exact snd_mut1 o hv hm hl hs.1 (h.e o e)
    | _ :: _ :: r =>
      exfalso
      unfold muOf at hm
      simp only [List.length_cons] at hm
      repeat' split at hm
      all_goals first | cases hm | skip
      all_goals
        rename_i hc
        rw [Bool.and_eq_true] at hc
        have := hc.2
        simp at this
  · exact pe_bad
theorem var_of {x : Str} {i : Nat} {p : Pos} (o : XOk G w k X W sc N) (hv : trV sc N x = .var i) : PE X (.Name x p) (L2.tVar i) := by
  unfold trV at hv
  split at hv
  · rename_i h0
    split at hv
    · rename_i h1
      split at hv
      · rename_i j hj
        cases hv
        exact L2.pe_var (by rw [o.hN]; exact ixN_some hj) (by rw [o.scope]; exact visB_ok h1) (okName_ok h0).1 (okName_ok h0).2
      · cases hv
    · split at hv <;> cases hv
  · cases hv
theorem snd_I (h : IH G w k n) (o : XOk G w k X W sc N) {tg : Expr} (e : Expr) : PI X tg e (tI (tbl G w k) X.K (EX X.mg G.fld X.K W) (trI (tr n) sc N tg e)) := by
  have bad : PI X tg e (tI (tbl G w k) X.K (EX X.mg G.fld X.K W) (.seq .bad)) := ⟨fun pins s σ H R I ⟨_, _, c⟩ => c.P.elim⟩
  unfold trI
  split
  · rename_i x p args pos
    split
    · rename_i hc
      rw [Bool.and_eq_true] at hc
      obtain ⟨hg, hs⟩ := hc
      split
      · rename_i hx
        have ex : x = "range" := by simpa using hx
        subst ex
        split
        · rename_i a
          simp only [List.all_cons, List.all_nil, Bool.and_true] at hs
          exact snd_rng1 o hg hs (h.e o _)
        · rename_i a b
          simp only [List.all_cons, List.all_nil, Bool.and_true, Bool.and_eq_true] at hs
          exact snd_rng2 o hg hs.1 hs.2 (h.e o _) (h.e o _)
        · rename_i a b c
          simp only [List.all_cons, List.all_nil, Bool.and_true, Bool.and_eq_true] at hs
          exact snd_rng3 o hg hs.1 hs.2.1 hs.2.2 (h.e o _) (h.e o _) (h.e o _)
        · exact bad
      · split
        · rename_i hx
          have ex : x = "enumerate" := by simpa using hx
          subst ex
          split
          · split
            · rename_i ht
              simp only [List.all_cons, List.all_nil, Bool.and_true] at hs
              exact snd_enum o hg ht hs (h.e o _)
            · exact bad
          · exact bad
        · split
          · rename_i hx
            have ex : x = "zip" := by simpa using hx
            subst ex
            split
            · split
              · rename_i ht
                simp only [List.all_cons, List.all_nil, Bool.and_true, Bool.and_eq_true] at hs
                exact snd_zip o hg ht hs.1 hs.2 (h.e o _) (h.e o _)
              · exact bad
            · exact bad
          · split
            · rename_i hx
              have ex : x = "reversed" := by simpa using hx
              subst ex
              split
              · simp only [List.all_cons, List.all_nil, Bool.and_true] at hs
                exact snd_rev o hg hs (h.e o _)
              · exact bad
            · exact snd_seq (h.e o _)
    · exact snd_seq (h.e o _)
  · exact snd_seq (h.e o _)
theorem trI_var {tg e : Expr} {i : Nat} (h : trI (tr n) sc N tg e = .seq (.var i)) : tr n sc N e = .var i := by
  unfold trI at h
  repeat' split at h
  all_goals first | (cases h; done) | (injection h)
theorem snd_hidI (h : IH G w k n) (o : XOk G w k X W sc N) {tg : Expr} (e : Expr) (men : Nat → Bool) : PI X tg e (tI (tbl G w k) X.K (EX X.mg G.fld X.K W) (hidI (trI (tr n) sc N tg e) men)) := by
  unfold hidI
  split
  · rename_i i hi
    split
    · exact snd_I h o e
    · have hv := trI_var hi
      have := h.e o e
      rw [hv] at this
      exact snd_hid this
  · exact snd_I h o e
theorem pts_of (h : IH G w k n) {ifs : List Expr} {sc' : Scope} (X' : Cx) (o : XOk G w k X' W0 sc' N) (hl : ifs.length ≤ 1) : L2.PTs X' ifs (tCs G w k X' W0 (ifs.head?.map (trT n sc' N))) := by
  match ifs, hl with
  | [], _ => exact L2.pts_nil
  | [c], _ => exact L2.pts_one (h.t o c)
theorem step_lc (h : IH G w k n) (o : XOk G w k X W sc N) {elt : Expr} (gs : List Comprehension) {scope : Scope} {pos : Pos} : LcOk X (.ListComp elt gs scope pos) (tX G w k X W (tr (n + 1) sc N (.ListComp elt gs scope pos))) := by
  rcases gs with _ | ⟨⟨tg, iter, ifs, isa⟩, _ | ⟨g2, r⟩⟩
  · exact lc_bad
  · by_cases h0 : isa = 0
    · subst h0
      simp only [tr]
      split
      · rename_i hc
        rw [Bool.and_eq_true, Bool.and_eq_true] at hc
        obtain ⟨⟨h1, h2⟩, h3⟩ := hc
        have h3' : isSet iter = false := by simpa using h3
        match ifs with
        | [] => exact snd_lc o h1 h2 (snd_hidI h o iter _) h3' (fun X' o' => h.e o' elt) fun X' o' => L2.pts_nil
        | [c] => exact snd_lc o h1 h2 (snd_hidI h o iter _) h3' (fun X' o' => h.e o' elt) fun X' o' => L2.pts_one (h.t o' c)
        | _ :: _ :: _ => exact lc_bad
      · exact lc_bad
    · have : tr (n + 1) sc N (.ListComp elt [⟨tg, iter, ifs, isa⟩] scope pos) = .bad := by
        simp only [tr]
        split
        all_goals first | rfl | (rename_i he; cases he; done) | (rename_i he; cases he; exact absurd rfl h0)
      rw [this]
      exact lc_bad
  · have : tr (n + 1) sc N (.ListComp elt (⟨tg, iter, ifs, isa⟩ :: g2 :: r) scope pos) = .bad := by
      simp only [tr]
    rw [this]
    exact lc_bad
/-- ONE STEP -/
theorem step_e (h : IH G w k n) (o : XOk G w k X W sc N) (e : Expr) : PE X e (tX G w k X W (tr (n + 1) sc N e)) := by
  cases e with
  | Constant c j pos => exact snd_const c j
  | Name x pos => exact snd_name o
  | BinOp a op b pos =>
    simp only [tr]
    split
    · rename_i bo hb
      rw [trBo_op hb]
      exact snd_bin (h.e o a) (h.e o b)
    · exact pe_bad
  | UnaryOp op a pos =>
    cases op with
    | USub => exact snd_neg (h.e o a)
    | Not => exact snd_not (h.e o a)
    | _ => exact pe_bad
  | BoolOp op vs pos =>
    cases op with
    | And =>
      match vs with
      | [] => exact pe_bad
      | [a] => exact L2.pe_one (h.e o a)
      | a :: b :: r => exact snd_and (h.e o a) (h.e o (.BoolOp .And (b :: r) pos))
    | Or =>
      match vs with
      | [] => exact pe_bad
      | [a] => exact L2.pe_one (h.e o a)
      | a :: b :: r => exact snd_or (h.e o a) (h.e o (.BoolOp .Or (b :: r) pos))
  | IfExp c a b pos => exact snd_ite (h.t o c) (h.e o a) (h.e o b)
  | Compare a ops bs pos => exact snd_Compare h o ops bs
  | Tuple es j pos =>
    simp only [tr]
    split
    · rename_i hs
      exact snd_tup (snd_ds hs (allE h o))
    · exact pe_bad
  | List es pos =>
    simp only [tr]
    split
    · rename_i hs
      exact snd_lst (snd_ds hs (allE h o))
    · exact pe_bad
  | Subscript a i pos => exact snd_Sub h o i
  | Call f args kws pos =>
    cases kws with
    | cons kw r =>
      cases f with
      | Attribute v m ap => cases v <;> exact pe_bad
      | _ => exact pe_bad
    | nil =>
      cases f with
      | Name x p =>
        simp only [tr]
        split
        · rename_i hs
          exact snd_Call h o hs
        · exact pe_bad
      | Attribute v m ap =>
        cases v with
        | Name x p =>
          simp only [tr]
          split
          · rename_i hs
            rw [Bool.and_eq_true] at hs
            exact snd_Meth h o hs.1 hs.2
          · exact pe_bad
        | _ => exact pe_bad
      | _ => exact pe_bad
  | ListComp elt gs scope pos => exact (step_lc h o gs).1
  | _ => exact pe_bad
theorem tru_of (h : IH G w k n) (o : XOk G w k X W sc N) (e : Expr) (he : ∀ whole, isTrue e X.env whole = (do let v ← whole; standAt e.pos; holding [v] (truthy v))) : PT X e (tXB G w k X W (.tru (tr n sc N e))) := sndT_tru (h.e o e) he
theorem step_t (h : IH G w k n) (o : XOk G w k X W sc N) (e : Expr) : PT X e (tXB G w k X W (trT (n + 1) sc N e)) := by
  cases e with
  | UnaryOp op a pos =>
    cases op with
    | Not => exact sndT_not (h.t o a)
    | _ => exact tru_of h o _ fun _ => rfl
  | BoolOp op vs pos =>
    cases op with
    | And =>
      match vs with
      | [] => exact pt_bad
      | [a] => exact (L2.pw_and1 (h.t o a)).pt
      | a :: b :: r => exact (sndW_and (h.t o a) (pw_of (h.t o (.BoolOp .And (b :: r) pos)))).pt
    | Or =>
      match vs with
      | [] => exact pt_bad
      | [a] => exact (L2.pw_or1 (h.t o a)).pt
      | a :: b :: r => exact (sndW_or (h.t o a) (pw_of (h.t o (.BoolOp .Or (b :: r) pos)))).pt
  | IfExp c a b pos => exact pt_bad
  | Compare a ops bs pos => exact sndT_Compare h o ops bs
  | _ => exact tru_of h o _ fun _ => rfl
theorem snd_all (G : Prog) (w k : Nat) : ∀ n, IH G w k n
  | 0 => ⟨fun _ _ => pe_bad, fun _ _ => pt_bad⟩
  | n + 1 => ⟨fun o e => step_e (snd_all G w k n) o e, fun o e => step_t (snd_all G w k n) o e⟩
end
end Pv
end
section
/-! Pv17: statements: from state to state. -/
namespace Pv
open PySem PySem.Spec PyProof.Rows
open L2 (V Hp HO SqL SqT upd upd_same upd_ne VK TE TA TT TS Cx PE PA PT PS PSs Ends Inv Same Vals RelV Room Takes TI TG TGs PI PG PGs)
/-- from a state to a later one; the names at is are stored -/
structure MidS (K : Frag) (is : List Nat) (σ : SS) (ρ : En) (F H : Hp) (σ' : SS) (ρ' : En) (F' H' : Hp) : Prop where
  S : SR K ρ' F' σ' H'
  st : Stp (Own ρ σ) F H F' H'
  ix : ∀ (i : Nat) (d : D) (p : Addr), ρ'[i]? = some (Slot.own d) → σ'[i]? = some (some (V.ref p)) → (∃ e, ρ[i]? = some (Slot.own e) ∧ σ[i]? = some (some (V.ref p))) ∨ H p = none
  up : Upd is σ σ'
  iy : ∀ (i : Nat) (d : D), i ∉ is → ρ'[i]? = some (Slot.own d) → ∃ e, ρ[i]? = some (Slot.own e)
section
variable {K : Frag} {E : ExW} {np : Nat} {is js : List Nat} {σ σ1 σ2 : SS} {ρ ρ1 ρ2 : En} {F H F1 H1 F2 H2 : Hp} {D : Ends}
theorem MidS.os (m : MidS K is σ ρ F H σ1 ρ1 F1 H1) : ∀ p, Own ρ1 σ1 p → Own ρ σ p ∨ H p = none := fun p ⟨i, d, h, hs⟩ =>
  (m.ix i d p h hs).imp (fun ⟨e, a, b⟩ => ⟨i, e, a, b⟩) id
theorem MidS.refl (S : SR K ρ F σ H) : MidS K is σ ρ F H σ ρ F H := ⟨S, Stp.refl, fun _ d _ h hs => .inl ⟨d, h, hs⟩, Upd.refl _ _, fun _ d _ h => ⟨d, h⟩⟩
theorem MidS.trans (a : MidS K is σ ρ F H σ1 ρ1 F1 H1) (b : MidS K is σ1 ρ1 F1 H1 σ2 ρ2 F2 H2) : MidS K is σ ρ F H σ2 ρ2 F2 H2 :=
  ⟨b.S, a.st.trans b.st a.os, fun i d p h hs => by
    rcases b.ix i d p h hs with ⟨e, h1, h2⟩ | z
    · exact a.ix i e p h1 h2
    · exact .inr (a.st.dom p z), (a.up.trans b.up).mono fun i hi => (List.mem_append.mp hi).elim id id, fun i d n h => let ⟨e, he⟩ := b.iy i d n h; a.iy i e n he⟩
theorem MidS.mono (a : MidS K is σ ρ F H σ1 ρ1 F1 H1) (h : ∀ i ∈ is, i ∈ js) : MidS K js σ ρ F H σ1 ρ1 F1 H1 := ⟨a.S, a.st, a.ix, a.up.mono h, fun i d n => a.iy i d fun z => n (h i z)⟩
theorem Mid.toS (m : Mid K σ ρ F H ρ1 F1 H1) : MidS K is σ ρ F H σ ρ1 F1 H1 := ⟨m.S, m.st, fun i d p h hs => .inl (let ⟨e, he⟩ := m.ix i d h; ⟨e, he, hs⟩), Upd.refl _ _, fun i d _ h => m.ix i d h⟩
/-- how a def's answer lies -/
def RetR (K : Frag) (np : Nat) (σ : SS) (ρ : En) (H F' H' : Hp) : R → V → Prop
  | .val d, v => VR K F' d v
  | .fresh d, v => OwnC K F' H' d v ∧ ∀ p, v = .ref p → H p = none ∨ ∃ (i : Nat) (e : Pv.D), np ≤ i ∧ ρ[i]? = some (Slot.own e) ∧ σ[i]? = some (some (V.ref p))
theorem RetR.shift (m : MidS K is σ ρ F H σ1 ρ1 F1 H1) {r : R} {v : V} (h : RetR K np σ1 ρ1 H1 F2 H2 r v) : RetR K np σ ρ H F2 H2 r v := by
  cases r with
  | val d => exact h
  | fresh d =>
    refine ⟨h.1, fun p e => ?_⟩
    rcases h.2 p e with z | ⟨i, e1, h1, h2, h3⟩
    · exact .inl (m.st.dom p z)
    · rcases m.ix i e1 p h2 h3 with ⟨e2, h4, h5⟩ | z
      · exact .inr ⟨i, e2, h1, h4, h5⟩
      · exact .inl z
def EndS (K : Frag) (np : Nat) (σ : SS) (ρ : En) (H : Hp) (σ' : SS) (F' H' : Hp) (D : Ends) : Fl → Prop
  | .nxt => D.nx σ' H'
  | .brk => D.bk σ' H'
  | .cnt => D.ct σ' H'
  | .ret r => ∀ v, RetR K np σ ρ H F' H' r v → D.rt v H'
def PostS (K : Frag) (E : ExW) (np : Nat) (is : List Nat) (σ : SS) (ρ : En) (F H : Hp) (res : Res (Fl × En)) (D : Ends) : Prop := match res with
  | .ok (fl, ρ') => ∀ σ' F' H', MidS K is σ ρ F H σ' ρ' F' H' → EndS K np σ ρ H σ' F' H' D fl
  | .rs c d ρ' => ∀ σ' F' H', MidS K is σ ρ F H σ' ρ' F' H' → E c d ρ' F' σ' H'
  | .bad => False
structure ConS (K : Frag) (E : ExW) (np : Nat) (is : List Nat) (σ : SS) (ρ : En) (F H : Hp) (res : Res (Fl × En)) (D : Ends) : Prop where
  S : SR K ρ F σ H
  P : PostS K E np is σ ρ F H res D
theorem EndS.shift (m : MidS K is σ ρ F H σ1 ρ1 F1 H1) {fl : Fl} {σ' : SS} {F' H' : Hp} (h : EndS K np σ ρ H σ' F' H' D fl) : EndS K np σ1 ρ1 H1 σ' F' H' D fl := by
  cases fl with
  | ret r => exact fun v hr => h v (hr.shift m)
  | _ => exact h
theorem ConS.shift {res : Res (Fl × En)} (c : ConS K E np is σ ρ F H res D) (m : MidS K is σ ρ F H σ1 ρ1 F1 H1) : ConS K E np is σ1 ρ1 F1 H1 res D := by
  refine ⟨m.S, ?_⟩
  have p := c.P
  cases res with
  | ok x => exact fun σ' F' H' m' => (p σ' F' H' (m.trans m')).shift m
  | rs c d ρ' => exact fun σ' F' H' m' => p σ' F' H' (m.trans m')
  | bad => exact p
theorem ConS.sub {res : Res (Fl × En)} (c : ConS K E np is σ ρ F H res D) (h : ∀ i ∈ js, i ∈ is) : ConS K E np js σ ρ F H res D := by
  refine ⟨c.S, ?_⟩
  have p := c.P
  cases res with
  | ok x => exact fun σ' F' H' m' => p σ' F' H' (m'.mono h)
  | rs c d ρ' => exact fun σ' F' H' m' => p σ' F' H' (m'.mono h)
  | bad => exact p
theorem ConS.bind {α β : Type} {Ra : Rel α β} {m : Res (α × En)} {f : α × En → Res (Fl × En)} (c : ConS K E np is σ ρ F H (m.bind f) D) :
    Con K E Ra σ ρ F H m fun b H1 => ∃ a ρ1 F1, Ra H ρ1 F1 H1 a b ∧ Mid K σ ρ F H ρ1 F1 H1 ∧ m = .ok (a, ρ1) ∧ ConS K E np is σ ρ1 F1 H1 (f (a, ρ1)) D := by
  refine ⟨c.S, ?_⟩
  cases e : m with
  | ok x =>
    have cc := c
    rw [e] at cc
    exact fun b F' H' m' r => ⟨x.1, x.2, F', r, m', rfl, cc.shift m'.toS⟩
  | rs q d ρ' =>
    have p := c.P
    rw [e] at p
    exact fun F' H' m' => p σ F' H' m'.toS
  | bad =>
    have p := c.P
    rw [e] at p
    exact p
theorem ConS.opt {γ : Type} {o : Option γ} {f : γ → Res (Fl × En)} (c : ConS K E np is σ ρ F H ((opt o).bind f) D) : ∃ a, o = some a ∧ ConS K E np is σ ρ F H (f a) D := by
  cases o with
  | none => exact c.P.elim
  | some a => exact ⟨a, rfl, c⟩
theorem ConS.le {res : Res (Fl × En)} (c : ConS K E np is σ ρ F H res D) : Le F H := c.S.sub
theorem ConS.nx (c : ConS K E np is σ ρ F H (.ok (.nxt, ρ1)) D) (m : MidS K is σ ρ F H σ1 ρ1 F1 H1) : D.nx σ1 H1 := c.P σ1 F1 H1 m
/-! ### states -/
theorem set_val_own {i j : Nat} {d d' : Pv.D} {ρ : En} (hj : (ρ.set i (.val d))[j]? = some (.own d')) : j ≠ i ∧ ρ[j]? = some (.own d') := by
  by_cases ej : j = i
  · subst ej
    have hl := (List.getElem?_eq_some_iff.mp hj).1
    rw [List.length_set] at hl
    rw [List.getElem?_set_self hl] at hj; cases hj
  · rw [List.getElem?_set_ne (Ne.symm ej)] at hj; exact ⟨ej, hj⟩
theorem set_un_own {i j : Nat} {d' : Pv.D} {ρ : En} (hj : (ρ.set i .un)[j]? = some (.own d')) : j ≠ i ∧ ρ[j]? = some (.own d') := by
  by_cases ej : j = i
  · subst ej
    have hl := (List.getElem?_eq_some_iff.mp hj).1
    rw [List.length_set] at hl
    rw [List.getElem?_set_self hl] at hj; cases hj
  · rw [List.getElem?_set_ne (Ne.symm ej)] at hj; exact ⟨ej, hj⟩
theorem SR.drop1 (S : SR K ρ F σ H) (i : Nat) : SR K (ρ.set i .un) F σ H := by
  refine ⟨S.sub, by rw [List.length_set]; exact S.len, fun j s h => ?_, fun j j' d e p h h' hs hs' => S.apart j j' d e p (set_un_own h).2 (set_un_own h').2 hs hs'⟩
  by_cases ej : j = i
  · subst ej
    have hl := (List.getElem?_eq_some_iff.mp h).1
    rw [List.length_set] at hl
    rw [List.getElem?_set_self hl] at h; cases h; trivial
  · rw [List.getElem?_set_ne (Ne.symm ej)] at h; exact S.slots j s h
theorem SR.putOwn (S : SR K ρ F σ H) {i : Nat} {d : Pv.D} {v : V} (r : OwnC K F H d v) (n : ∀ p, v = .ref p → ¬ Own ρ σ p) : SR K (ρ.set i (.own d)) F (σ.set i (some v)) H := by
  have get : ∀ (j : Nat) (d' : Pv.D), (ρ.set i (.own d))[j]? = some (.own d') → (j = i ∧ d' = d ∧ (σ.set i (some v))[i]? = some (some v)) ∨ (j ≠ i ∧ ρ[j]? = some (.own d') ∧ (σ.set i (some v))[j]? = σ[j]?) := fun j d' hj => by
    by_cases ej : j = i
    · subst ej
      have hl := (List.getElem?_eq_some_iff.mp hj).1
      rw [List.length_set] at hl
      rw [List.getElem?_set_self hl] at hj; cases hj
      exact .inl ⟨rfl, rfl, List.getElem?_set_self (by rw [← S.len]; exact hl)⟩
    · rw [List.getElem?_set_ne (Ne.symm ej)] at hj; exact .inr ⟨ej, hj, List.getElem?_set_ne (Ne.symm ej)⟩
  refine ⟨S.sub, by rw [List.length_set, List.length_set]; exact S.len, fun j s h => ?_, fun j j' d1 d2 p h h' hs hs' => ?_⟩
  · by_cases ej : j = i
    · subst ej
      have hl := (List.getElem?_eq_some_iff.mp h).1
      rw [List.length_set] at hl
      rw [List.getElem?_set_self hl] at h; cases h
      rw [List.getElem?_set_self (by rw [← S.len]; exact hl)]
      exact r
    · rw [List.getElem?_set_ne (Ne.symm ej)] at h ⊢
      exact S.slots j s h
  · rcases get j d1 h with ⟨e1, e2, e3⟩ | ⟨n1, h1, e1⟩
    · rcases get j' d2 h' with ⟨e4, e5, e6⟩ | ⟨n2, h2, e4⟩
      · rw [e1, e4]
      · exfalso
        rw [e1, e3] at hs
        rw [e4] at hs'
        exact n p (by injection hs with z; injection z) ⟨j', d2, h2, hs'⟩
    · rcases get j' d2 h' with ⟨e4, e5, e6⟩ | ⟨n2, h2, e4⟩
      · exfalso
        rw [e4, e6] at hs'
        rw [e1] at hs
        exact n p (by injection hs' with z; injection z) ⟨j, d1, h1, hs⟩
      · rw [e1] at hs
        rw [e4] at hs'
        exact S.apart j j' d1 d2 p h1 h2 hs hs'
/-- a name's new value -/
theorem MidS.put (m : Mid K σ ρ F H ρ1 F1 H1) {i : Nat} {d : Pv.D} {v : V} (r : VR K F1 d v) : MidS K [i] σ ρ F H (σ.set i (some v)) (ρ1.set i (.val d)) F1 H1 :=
  ⟨m.S.put r, m.st, fun j d' p hj hs => by
    obtain ⟨n, h⟩ := set_val_own hj
    rw [List.getElem?_set_ne (Ne.symm n)] at hs
    obtain ⟨e, he⟩ := m.ix j d' h
    exact .inl ⟨e, he, hs⟩, Upd.set _ _ _, fun j d' _ hj => m.ix j d' (set_val_own hj).2⟩
theorem MidS.putOwn (S0 : SR K ρ F σ H) (m : Mid K σ ρ F H ρ1 F1 H1) {i : Nat} {d : Pv.D} {v : V} (r : OwnC K F1 H1 d v) (n : ∀ p, v = .ref p → H p = none) : MidS K [i] σ ρ F H (σ.set i (some v)) (ρ1.set i (.own d)) F1 H1 :=
  ⟨m.S.putOwn r fun p e ho => S0.nown (n p e) (m.os p ho), m.st, fun j d' p hj hs => by
    by_cases ej : j = i
    · subst ej
      have hl := (List.getElem?_eq_some_iff.mp hs).1
      rw [List.length_set] at hl
      rw [List.getElem?_set_self hl] at hs
      exact .inr (n p (by injection hs with z; injection z))
    · rw [List.getElem?_set_ne (Ne.symm ej)] at hj hs
      obtain ⟨e, he⟩ := m.ix j d' hj
      exact .inl ⟨e, he, hs⟩, Upd.set _ _ _, fun j d' n hj => m.ix j d' (by rw [List.getElem?_set_ne (fun e => n (by rw [e]; exact List.mem_singleton.mpr rfl))] at hj; exact hj)⟩
theorem setX_ok (S0 : SR K ρ F σ H) (m : Mid K σ ρ F H ρ1 F1 H1) {x : X} {v : V} {i : Nat} {p : Fl × En} (r : XR K σ H ρ1 F1 H1 x v) (h : setX i (x, ρ1) = .ok p) : p.1 = .nxt ∧ ∃ F2, MidS K [i] σ ρ F H (σ.set i (some v)) p.2 F2 H1 := by
  cases x with
  | val d => cases h; exact ⟨rfl, F1, MidS.put m r⟩
  | fresh d => cases h; exact ⟨rfl, F1, MidS.putOwn S0 m r.1 r.2⟩
  | slot j =>
    obtain ⟨hs, d, hd⟩ := r
    simp only [setX, hd] at h
    cases h
    obtain ⟨w, F', e, vr, S', st, sub, _⟩ := m.S.freeze hd
    rw [hs] at e; cases e
    exact ⟨rfl, F', MidS.put (m.trans ⟨S', st, sub⟩) vr⟩
theorem setX_not_rs {i : Nat} {p : X × En} {c d ρ'} (h : setX i p = .rs c d ρ') : False := by
  obtain ⟨x, ρ⟩ := p
  cases x with
  | val _ => cases h
  | fresh _ => cases h
  | slot i => simp only [setX] at h; split at h <;> cases h
theorem retR_ok (m : Mid K σ ρ F H ρ1 F1 H1) {x : X} {v : V} {p : Fl × En} (r : XR K σ H ρ1 F1 H1 x v) (h : retR (x, ρ1) = .ok p) : ∃ a F2, p.1 = .ret a ∧ MidS K is σ ρ F H σ p.2 F2 H1 ∧ RetR K np σ ρ H F2 H1 a v := by
  cases x with
  | val d => cases h; exact ⟨_, F1, rfl, m.toS, r⟩
  | fresh d => cases h; exact ⟨_, F1, rfl, m.toS, r.1, fun p e => .inl (r.2 p e)⟩
  | slot j =>
    obtain ⟨hs, d, hd⟩ := r
    simp only [retR, hd] at h
    cases h
    obtain ⟨w, F', e, vr, S', st, sub, _⟩ := m.S.freeze hd
    rw [hs] at e; cases e
    exact ⟨_, F', rfl, (m.trans ⟨S', st, sub⟩).toS, vr⟩
theorem retR_not_rs {p : X × En} {c d ρ'} (h : retR p = .rs c d ρ') : False := by
  obtain ⟨x, ρ⟩ := p
  cases x with
  | val _ => cases h
  | fresh _ => cases h
  | slot i => simp only [retR] at h; split at h <;> cases h
theorem asgT_own {t : Tg} {d : Pv.D} {ρ ρ' : En} (h : asgT t d ρ = some ρ') {i : Nat} {e : Pv.D} (hi : ρ'[i]? = some (.own e)) : i ∉ tgIx t ∧ ρ[i]? = some (.own e) := by
  cases t with
  | one j =>
    cases h
    obtain ⟨n, h2⟩ := set_val_own hi
    exact ⟨by simpa [tgIx] using n, h2⟩
  | tup is =>
    simp only [asgT] at h
    split at h
    · split at h
      · exact asgTs_own h hi
      · cases h
    · cases h
  | bad => cases h
/-- targets stored -/
theorem MidS.asg {t : Tg} {d : Pv.D} (h : asgT t d ρ = some ρ1) (S' : SR K ρ1 F σ1 H) (u : Upd (tgIx t) σ σ1) : MidS K (tgIx t) σ ρ F H σ1 ρ1 F H :=
  ⟨S', Stp.refl, fun i e p hi hs => by
    obtain ⟨n, h2⟩ := asgT_own h hi
    rw [u.2 i n] at hs
    exact .inl ⟨e, h2, hs⟩, u, fun i e _ hi => ⟨e, (asgT_own h hi).2⟩⟩
/-! ### hidden names -/
theorem MidS.unhide {h : List Nat} (m : MidS K is σ (wipeE ρ h) F H σ1 ρ1 F1 H1) : MidS K is σ ρ F H σ1 ρ1 F1 H1 :=
  ⟨m.S, m.st.mono fun p ⟨i, d, hi, hs⟩ => ⟨i, d, (wipeE_own hi).2, hs⟩, fun i d p hi hs => (m.ix i d p hi hs).imp (fun ⟨e, h1, h2⟩ => ⟨e, (wipeE_own h1).2, h2⟩) id, m.up, fun i d n hi => let ⟨e, h1⟩ := m.iy i d n hi; ⟨e, (wipeE_own h1).2⟩⟩
theorem MidS.back {h : List Nat} (S : SR K ρ F σ H) (m : MidS K is σ (wipeE ρ h) F H σ1 ρ1 F1 H1) (hd : ∀ i ∈ h, i ∉ is) (ho : ∀ i ∈ h, ∃ d, ρ[i]? = some (Slot.own d)) : MidS K is σ ρ F H σ1 (backE ρ ρ1 h) F1 H1 := by
  have hl : ρ.length = ρ1.length := by rw [S.len, m.S.len, m.up.1]
  have same : ∀ i ∈ h, σ1[i]? = σ[i]? := fun i hi => m.up.2 i (hd i hi)
  -- a hidden list's place is nobody's in between
  have nown0 : ∀ i ∈ h, ∀ p, σ[i]? = some (some (V.ref p)) → ¬ Own (wipeE ρ h) σ p := fun i hi p hs ⟨j, d', hj, hs'⟩ => by
    obtain ⟨d, hd'⟩ := ho i hi
    obtain ⟨n, h2⟩ := wipeE_own hj
    exact n ((S.apart i j d d' p hd' h2 hs hs') ▸ hi)
  have has : ∀ i ∈ h, ∀ p, σ[i]? = some (some (V.ref p)) → H p ≠ none := fun i hi p hs => by
    obtain ⟨d, hd'⟩ := ho i hi
    obtain ⟨v, e1, q⟩ := S.own hd'
    rw [hs] at e1; cases e1
    cases d with
    | list ys =>
      obtain ⟨p', vs, e2, h1, _, _⟩ := q
      cases e2
      rw [h1]; intro z; cases z
    | _ => exact q.elim
  have nown1 : ∀ i ∈ h, ∀ p, σ[i]? = some (some (V.ref p)) → ¬ Own ρ1 σ1 p := fun i hi p hs z => (m.os p z).elim (nown0 i hi p hs) (has i hi p hs)
  have sub : ∀ p, Own (wipeE ρ h) σ p → Own ρ σ p := fun p ⟨i, d, hi, hs⟩ => ⟨i, d, (wipeE_own hi).2, hs⟩
  refine ⟨⟨m.S.sub, by rw [backE_len]; exact m.S.len, fun i s hs => ?_, fun i j d e p hi hj hs hs' => ?_⟩, m.st.mono sub, fun i d p hi hs => ?_, m.up, fun i d n hi => ?_⟩
  · by_cases hi : i ∈ h
    · have h0 := backE_in hl hi hs
      obtain ⟨d0, hd0⟩ := ho i hi
      rw [hd0] at h0; cases h0
      obtain ⟨v, e1, e2⟩ := S.own hd0
      rw [same i hi, e1]
      refine OwnC.mono e2 m.st.sub (fun p hp o hO => m.st.frm p o hO (nown0 i hi p (by rw [e1, hp]))) fun p hp hf => ?_
      cases e3 : F1 p with
      | none => rfl
      | some o =>
        rcases m.st.ext p o e3 with z | z | z
        · rw [hf] at z; cases z
        · exact absurd z (nown0 i hi p (by rw [e1, hp]))
        · exact absurd z (has i hi p (by rw [e1, hp]))
    · rw [backE_out hi] at hs; exact m.S.slots i s hs
  · by_cases hi' : i ∈ h
    · have h1 := backE_in hl hi' hi
      rw [same i hi'] at hs
      by_cases hj' : j ∈ h
      · have h2 := backE_in hl hj' hj
        rw [same j hj'] at hs'
        exact S.apart i j d e p h1 h2 hs hs'
      · rw [backE_out hj'] at hj
        exact absurd ⟨j, e, hj, hs'⟩ (nown1 i hi' p hs)
    · rw [backE_out hi'] at hi
      by_cases hj' : j ∈ h
      · rw [same j hj'] at hs'
        exact absurd ⟨i, d, hi, hs⟩ (nown1 j hj' p hs')
      · rw [backE_out hj'] at hj
        exact m.S.apart i j d e p hi hj hs hs'
  · by_cases hi' : i ∈ h
    · have h1 := backE_in hl hi' hi
      rw [same i hi'] at hs
      exact .inl ⟨d, h1, hs⟩
    · rw [backE_out hi'] at hi
      exact (m.ix i d p hi hs).imp (fun ⟨e, h1, h2⟩ => ⟨e, (wipeE_own h1).2, h2⟩) id
  · by_cases hi' : i ∈ h
    · exact ⟨d, backE_in hl hi' hi⟩
    · rw [backE_out hi'] at hi
      obtain ⟨e, h1⟩ := m.iy i d n hi
      exact ⟨e, (wipeE_own h1).2⟩
theorem ConS.hide {h : List Nat} {m : Res (Fl × En)} (c : ConS K E np is σ ρ F H (m.bind fun p => .ok (p.1, backE ρ p.2 h)) D) (hd : ∀ i ∈ h, i ∉ is) (ho : ∀ i ∈ h, ∃ d, ρ[i]? = some (Slot.own d)) :
    ConS K E np is σ (wipeE ρ h) F H m D := by
  refine ⟨c.S.hide h, ?_⟩
  have p := c.P
  cases m with
  | bad => exact p
  | rs c d ρ' => exact fun σ' F' H' m' => p σ' F' H' m'.unhide
  | ok x =>
    intro σ' F' H' m'
    have q := p σ' F' H' (m'.back c.S hd ho)
    revert q
    cases x.1 with
    | ret r =>
      intro q v hr
      refine q v ?_
      cases r with
      | val d => exact hr
      | fresh d => exact ⟨hr.1, fun p e => (hr.2 p e).imp id fun ⟨i, e1, h1, h2, h3⟩ => ⟨i, e1, h1, (wipeE_own h2).2, h3⟩⟩
    | _ => exact id
end
end Pv
end
section
/-! Pv18: statements: the program's run does what the evaluator says. -/
namespace Pv
open PySem PySem.Spec PyProof.Rows
open L2 (V Hp HO SqL SqT upd upd_same upd_ne VK TE TA TT TS Cx PE PA PT PS PSs Ends Inv Same Vals RelV Room Takes TI TG TGs PI PG PGs)
/-- where statements of the text are run -/
structure SOk (G : Prog) (w k : Nat) (X : Cx) (W : L2.WX) (sc : Scope) (N al : List Str) : Prop extends XOk G w k X W sc N where
  al : AlOk X al
  own : PassesOwn (model X.prog X.w) X.A X.env X.xe
  kind : X.env.scope.kind = .function
def tS (T : Tb) (K : Frag) (E : ExW) (np : Nat) (st : St) : TS := fun D σ H => ∃ ρ F, ConS K E np (stoS st) σ ρ F H (exS T st ρ) D
def tSB (T : Tb) (K : Frag) (E : ExW) (np : Nat) (st : List St) : TS := fun D σ H => ∃ ρ F, ConS K E np (stoB st) σ ρ F H (exB T st ρ) D
abbrev tZ (G : Prog) (w k : Nat) (X : Cx) (W : L2.WX) (np : Nat) (st : St) : TS := tS (tbl G w k) X.K (EX X.mg G.fld X.K W) np st
abbrev tZB (G : Prog) (w k : Nat) (X : Cx) (W : L2.WX) (np : Nat) (st : List St) : TS := tSB (tbl G w k) X.K (EX X.mg G.fld X.K W) np st
section
variable {G : Prog} {w k np : Nat} {X : Cx} {W : L2.WX} {sc : Scope} {N al : List Str} {pos : Pos} {a b c e : Expr} {ea eb ec : Ex} {es : List Expr} {xs : List Ex}
theorem ps_bad {s : Stmt} : PS X s (tZ G w k X W np .bad) := ⟨fun _ _ _ _ _ _ ⟨_, _, c⟩ => c.P.elim⟩
theorem pss_bad {s : List Stmt} : PSs X s (tZB G w k X W np [.bad]) := ⟨fun _ _ _ _ _ _ ⟨_, _, c⟩ => c.P.elim⟩
theorem zs_nil : PSs X [] (tZB G w k X W np []) := PSs.imp L2.pss_nil fun D σ H ⟨ρ, F, c⟩ => c.P σ F H (MidS.refl c.S)
theorem zs_cons {s : Stmt} {r : List Stmt} {st : St} {sr : List St} (h1 : PS X s (tZ G w k X W np st)) (h2 : PSs X r (tZB G w k X W np sr)) : PSs X (s :: r) (tZB G w k X W np (st :: sr)) := by
  refine PSs.imp (L2.pss_cons h1 h2) fun D σ H ⟨ρ, F, c⟩ => ?_
  refine ⟨ρ, F, c.S, ?_⟩
  have c' : ConS X.K (EX X.mg G.fld X.K W) np (stoS st ++ stoB sr) σ ρ F H ((exS (tbl G w k) st ρ).bind fun p => match p.1 with
    | .nxt => exB (tbl G w k) sr p.2
    | f => .ok (f, p.2)) D := c
  have sub1 : ∀ i ∈ stoS st, i ∈ stoS st ++ stoB sr := fun i hi => List.mem_append_left _ hi
  have sub2 : ∀ i ∈ stoB sr, i ∈ stoS st ++ stoB sr := fun i hi => List.mem_append_right _ hi
  cases ex : exS (tbl G w k) st ρ with
  | bad => rw [ex] at c'; exact c'.P.elim
  | rs q d ρ' => rw [ex] at c'; exact fun σ' F' H' m => c'.P σ' F' H' (m.mono sub1)
  | ok p =>
    obtain ⟨fl, ρ1⟩ := p
    rw [ex] at c'
    intro σ' F' H' m
    have m' := m.mono sub1
    cases fl with
    | nxt => exact ⟨ρ1, F', (c'.shift m').sub sub2⟩
    | brk => exact c'.P σ' F' H' m'
    | cnt => exact c'.P σ' F' H' m'
    | ret r => exact c'.P σ' F' H' m'
theorem z_pas {s : Stmt} (h : PS X s L2.tNext) : PS X s (tZ G w k X W np .pas) := PS.imp h fun D σ H ⟨ρ, F, c⟩ => c.P σ F H (MidS.refl c.S)
theorem z_brk : PS X (.Break pos) (tZ G w k X W np .brk) := PS.imp L2.ps_break fun D σ H ⟨ρ, F, c⟩ => c.P σ F H (MidS.refl c.S)
theorem z_cnt : PS X (.Continue pos) (tZ G w k X W np .cnt) := PS.imp L2.ps_continue fun D σ H ⟨ρ, F, c⟩ => c.P σ F H (MidS.refl c.S)
theorem z_retN : PS X (.Return none pos) (tZ G w k X W np .retN) := PS.imp L2.ps_retN fun D σ H ⟨ρ, F, c⟩ => c.P σ F H (MidS.refl c.S) .non VR.non
theorem sw_not {e : Expr} (h : isComp e = false) (t : Option Expr) (l : Nat) (env : Env) : swapsWith e t l env = pure false := by cases e <;> first | rfl | cases h
theorem z_set_imp {i : Nat} {D : Ends} {σ : SS} {H : Hp} (h : tZ G w k X W np (.set i ea) D σ H) : L2.tAsg (tX G w k X W ea) (L2.gName i) D σ H := by
  obtain ⟨ρ, F, c⟩ := h
  have c' : ConS X.K (EX X.mg G.fld X.K W) np [i] σ ρ F H ((ev (tbl G w k) ea ρ).bind (setX i)) D := c
  refine ⟨ρ, F, c.S, ?_⟩
  cases ex : ev (tbl G w k) ea ρ with
  | bad => rw [ex] at c'; exact c'.P.elim
  | rs q d ρ' => rw [ex] at c'; exact fun F' H' m => c'.P σ F' H' m.toS
  | ok p =>
    obtain ⟨x, ρ1⟩ := p
    rw [ex] at c'
    intro v F1 H1 m r
    have p := c'.P
    cases es : setX i (x, ρ1) with
    | bad => rw [bind_ok, es] at p; exact p.elim
    | rs _ _ _ => exact (setX_not_rs es).elim
    | ok q =>
      rw [bind_ok, es] at p
      obtain ⟨h1, F2, h2⟩ := setX_ok c.S m r es
      have := p _ F2 H1 h2
      rw [h1] at this
      exact this
theorem z_exp {p : Pos} (hn : isComp e = false) (ha : PE X e (tX G w k X W ea)) : PS X (.Expr e p) (tZ G w k X W np (.exp ea)) := by
  refine PS.imp (L2.ps_expr ha (sw_not hn _ _ _)) fun D σ H ⟨ρ, F, c⟩ => ?_
  have c' : ConS X.K (EX X.mg G.fld X.K W) np [] σ ρ F H ((ev (tbl G w k) ea ρ).bind fun p => .ok (.nxt, p.2)) D := c
  refine tE_mono ⟨ρ, F, c'.bind (Ra := RX X.K σ)⟩ fun v H1 ⟨x, ρ1, F1, r, m, _, c1⟩ => c1.P σ F1 H1 (MidS.refl c1.S)
theorem z_ret (ha : PE X e (tX G w k X W ea)) : PS X (.Return (some e) pos) (tZ G w k X W np (.ret ea)) := by
  refine PS.imp (L2.ps_ret ha) fun D σ H ⟨ρ, F, c⟩ => ?_
  have c' : ConS X.K (EX X.mg G.fld X.K W) np [] σ ρ F H ((ev (tbl G w k) ea ρ).bind retR) D := c
  refine ⟨ρ, F, c.S, ?_⟩
  cases ex : ev (tbl G w k) ea ρ with
  | bad => rw [ex] at c'; exact c'.P.elim
  | rs q d ρ' => rw [ex] at c'; exact fun F' H' m => c'.P σ F' H' m.toS
  | ok p =>
    obtain ⟨x, ρ1⟩ := p
    rw [ex] at c'
    intro v F1 H1 m r
    have p := c'.P
    cases es : retR (x, ρ1) with
    | bad => rw [bind_ok, es] at p; exact p.elim
    | rs _ _ _ => exact (retR_not_rs es).elim
    | ok q =>
      rw [bind_ok, es] at p
      obtain ⟨r', F2, h1, h2, h3⟩ := retR_ok (is := []) (np := np) m r es
      have := p _ F2 H1 h2
      rw [h1] at this
      exact this v h3
theorem z_retv {i : Nat} (hi : np ≤ i) (ha : PE X e (L2.tVar i)) : PS X (.Return (some e) pos) (tZ G w k X W np (.retv i)) := by
  refine PS.imp (L2.ps_ret ha) fun D σ H ⟨ρ, F, c⟩ => ?_
  have p := c.P
  simp only [exS] at p
  cases hx : ρ[i]? with
  | none => rw [hx] at p; exact p.elim
  | some s =>
    rw [hx] at p
    cases s with
    | un => exact p.elim
    | val d =>
      obtain ⟨v, h1, h2⟩ := c.S.val hx
      exact ⟨v, h1, p σ F H (MidS.refl c.S) v h2⟩
    | own d =>
      obtain ⟨v, h1, h2⟩ := c.S.own hx
      refine ⟨v, h1, p σ F H ⟨c.S.drop1 i, Stp.refl, fun j d' q hj hs => .inl ⟨d', (set_un_own hj).2, hs⟩, Upd.refl _ _, fun j d' _ hj => ⟨d', (set_un_own hj).2⟩⟩ v ⟨h2, fun q e => .inr ⟨i, d, hi, hx, by rw [h1, e]⟩⟩⟩
theorem z_if {p q : List Stmt} {sp sq : List St} (hc : PT X c (tXB G w k X W ec)) (ha : PSs X p (tZB G w k X W np sp)) (hb : PSs X q (tZB G w k X W np sq)) : PS X (.If c p q pos) (tZ G w k X W np (.ifs ec sp sq)) := by
  refine PS.imp (L2.ps_if hc ha hb) fun D σ H ⟨ρ, F, cn⟩ => ?_
  have c' : ConS X.K (EX X.mg G.fld X.K W) np (stoB sp ++ stoB sq) σ ρ F H (((ev (tbl G w k) ec ρ).bind boo).bind fun p => if p.1 then exB (tbl G w k) sp p.2 else exB (tbl G w k) sq p.2) D := cn
  refine tB_mono ⟨ρ, F, c'.bind (Ra := RB)⟩ fun t H1 ⟨x, ρ1, F1, r, m, _, c1⟩ => ?_
  cases r
  cases t with
  | true => exact ⟨ρ1, F1, c1.sub fun i hi => List.mem_append_left _ hi⟩
  | false => exact ⟨ρ1, F1, c1.sub fun i hi => List.mem_append_right _ hi⟩
theorem tE_monoF {T : Tb} {K : Frag} {E : ExW} {e : Ex} {Q Q' : VK} {σ : SS} {H : Hp} (h : tF T K E e σ H Q) (i : ∀ v H', Q v H' → Q' v H') : tF T K E e σ H Q' := by
  obtain ⟨ρ, F, c⟩ := h
  refine ⟨ρ, F, c.S, ?_⟩
  have p := c.P
  revert p
  cases (ev T e ρ).bind frz with
  | ok x => exact fun p v F' H' m r => i _ _ (p v F' H' m r)
  | rs _ _ _ => exact id
  | bad => exact id
theorem z_unp {ts : List Expr} {kk : Nat} {p spos : Pos} {is : List Nat} (o : SOk G w k X W sc N al) (hn : trNs al N ts = some is) (hd : distinct is = true) (he : isComp e = false) (ht : isTuple e = false) (ha : PE X e (tX G w k X W ea)) : PS X (.Assign [.Tuple ts kk p] e spos) (tZ G w k X W np (.unp is ea)) := by
  have tg : trTg al N (.Tuple ts kk p) = .tup is := by simp only [trTg, hn, hd, if_true]
  have hg := snd_tg o.hN o.nd o.calm o.al (.Tuple ts kk p)
  rw [tg] at hg
  refine PS.imp (L2.ps_asg ha hg (sw_not he (some (.Tuple ts kk p)) spos.line X.env) (by cases e <;> first | rfl | cases ht) rfl) fun D σ H ⟨ρ, F, c⟩ => ?_
  have c' : ConS X.K (EX X.mg G.fld X.K W) np is σ ρ F H (((ev (tbl G w k) ea ρ).bind frz).bind fun p => (opt (asgT (.tup is) p.1 p.2)).bind fun ρ => .ok (.nxt, ρ)) D := c
  refine tF_of (tE_monoF ⟨ρ, F, c'.bind (Ra := RD X.K)⟩ fun v H1 ⟨d, ρ1, F1, r, m, _, c1⟩ => ?_)
  obtain ⟨ρ', h1, c2⟩ := c1.opt
  exact ⟨d, ρ1, F1, ρ', c1.S, r, h1, fun σ' S' u _ _ => c2.nx (MidS.asg (t := .tup is) h1 S' u)⟩
theorem par_imp {is : List Nat} {D : Ends} {σ : SS} {H : Hp} (h : tZ G w k X W np (.par is xs) D σ H) : tXd G w k X W xs σ H fun vs H1 => gN is vs σ H1 D.nx := by
  obtain ⟨ρ, F, c⟩ := h
  have c' : ConS X.K (EX X.mg G.fld X.K W) np is σ ρ F H ((evL (tbl G w k) xs ρ).bind fun p => (opt (asgTs is p.1 p.2)).bind fun ρ => .ok (.nxt, ρ)) D := c
  refine tDs_mono ⟨ρ, F, c'.bind (Ra := RDs X.K)⟩ fun vs H1 ⟨ds, ρ1, F1, r, m, _, c1⟩ => ?_
  obtain ⟨ρ', h1, c2⟩ := c1.opt
  refine asgTs_ok c1.S r h1 fun σ' S' u _ _ => c2.nx ⟨S', Stp.refl, fun i e p hi hs => ?_, u, fun i e _ hi => ⟨e, (asgTs_own h1 hi).2⟩⟩
  obtain ⟨n, h2⟩ := asgTs_own h1 hi
  rw [u.2 i n] at hs
  exact .inl ⟨e, h2, hs⟩
theorem ix_ne (nd : N.Nodup) {i j : Nat} {x y : Str} (hi : N[i]? = some x) (hj : N[j]? = some y) (hxy : (x == y) = false) : i ≠ j := fun e => by
  subst e
  rw [hi] at hj; cases hj
  simp at hxy
theorem locB_ok (o : SOk G w k X W sc N al) {x : Str} (h : locB sc x = true) : X.env.scope.names.lookup x = some .local := by
  rw [o.scope]; exact eq_of_beq h
theorem kindOf_ok (o : SOk G w k X W sc N al) {x : Str} (h : locB sc x = true) : X.env.kindOf x = some .local := locB_ok o h
theorem blockKind_ok (o : SOk G w k X W sc N al) : X.env.blockKind = .function := by unfold Env.blockKind; rw [o.kind]; rfl
theorem star2 {vs : List Expr} (h : vs.all notStar = true) : (vs.any fun | .Starred .. => true | _ => false) = false := by
  induction vs with
  | nil => rfl
  | cons v r ih =>
    rw [List.all_cons, Bool.and_eq_true] at h
    rw [List.any_cons, ih h.2]
    cases v <;> first | rfl | cases h.1
theorem swapped2 (o : SOk G w k X W sc N al) {x y : Str} {px py pt pt2 : Pos} {kt k2 : Nat} {a b : Expr} (hx : locB sc x = true) (hy : locB sc y = true) (hl : (px.line == py.line) = true) (hxy : (x == y) = false)
    (hs : [a, b].all notStar = true) (h1 : [a, b].all (foldedForSure 8) = false) (h2 : [a, b].all (constantsAlone 8) = false) : swappedStores [.Tuple [.Name x px, .Name y py] kt pt] (.Tuple [a, b] k2 pt2) X.env = pure (some [x, y]) := by
  have e1 : py.line = px.line := (eq_of_beq hl).symm
  have e2 : (y == x) = false := by rw [Bool.eq_false_iff]; intro z; rw [eq_of_beq z] at hxy; simp at hxy
  have kx := kindOf_ok o hx
  have ky := kindOf_ok o hy
  unfold swappedStores
  simp only [star2 hs, h1, h2, kx, ky, blockKind_ok o, Expr.pos, e1, List.head?_cons, Option.map_some, Option.getD_some, List.filterMap_cons, List.filterMap_nil]
  simp [List.eraseDups_cons, e2, hxy]
  intro h; exfalso
  simp only [List.all_cons, List.all_nil, Bool.and_true, Bool.and_eq_true] at hs
  rcases h with h | h
  · have hh := hs.1
    clear h1 h2 hs
    cases a <;> first | exact absurd h Bool.false_ne_true | exact absurd hh Bool.false_ne_true
  · have hh := hs.2
    clear h1 h2 hs
    cases b <;> first | exact absurd h Bool.false_ne_true | exact absurd hh Bool.false_ne_true
theorem z_par2 {x y : Str} {px py pt pt2 spos : Pos} {kt k2 i j : Nat} {a b : Expr} (o : SOk G w k X W sc N al) (hi : N[i]? = some x) (hj : N[j]? = some y) (hx : locB sc x = true) (hy : locB sc y = true) (hl : (px.line == py.line) = true) (hxy : (x == y) = false)
    (hs : [a, b].all notStar = true) (h1 : [a, b].all (foldedForSure 8) = false) (h2 : [a, b].all (constantsAlone 8) = false) (ha : PA X [a, b] (tXd G w k X W xs)) :
    PS X (.Assign [.Tuple [.Name x px, .Name y py] kt pt] (.Tuple [a, b] k2 pt2) spos) (tZ G w k X W np (.par [i, j] xs)) := by
  refine PS.imp (L2.ps_par o.calm (by rw [o.hN]; exact o.nd) (by rw [o.hN]; exact hi) (by rw [o.hN]; exact hj) (ix_ne o.nd hi hj hxy) (locB_ok o hx) (locB_ok o hy) ha (swapped2 o hx hy hl hxy hs h1 h2)) fun D σ H h => ?_
  refine tDs_mono (par_imp h) fun vs H1 hg => ?_
  obtain ⟨v, r, rfl, u, r', rfl, rfl, q⟩ := hg
  exact ⟨v, u, rfl, q⟩
theorem swapped3 (o : SOk G w k X W sc N al) {x y z : Str} {px py pz pt pt2 : Pos} {kt k2 : Nat} {a b c : Expr} (hx : locB sc x = true) (hy : locB sc y = true) (hz : locB sc z = true) (hl : (px.line == py.line) = true) (hl2 : (px.line == pz.line) = true) (hxy : (x == y) = false) (hxz : (x == z) = false) (hyz : (y == z) = false)
    (hs : [a, b, c].all notStar = true) (h1 : [a, b, c].all (foldedForSure 8) = false) (h2 : [a, b, c].all (constantsAlone 8) = false) : swappedStores [.Tuple [.Name x px, .Name y py, .Name z pz] kt pt] (.Tuple [a, b, c] k2 pt2) X.env = pure (some [x, y, z]) := by
  have flip : ∀ {u v : Str}, (u == v) = false → (v == u) = false := fun {u v} h => by rw [Bool.eq_false_iff]; intro z; rw [eq_of_beq z] at h; simp at h
  have e1 : py.line = px.line := (eq_of_beq hl).symm
  have e2 : pz.line = px.line := (eq_of_beq hl2).symm
  have kx := kindOf_ok o hx
  have ky := kindOf_ok o hy
  have kz := kindOf_ok o hz
  unfold swappedStores
  simp only [star2 hs, h1, h2, kx, ky, kz, blockKind_ok o, Expr.pos, e1, e2, List.head?_cons, Option.map_some, Option.getD_some, List.filterMap_cons, List.filterMap_nil]
  simp [List.eraseDups_cons, flip hxy, flip hxz, flip hyz]
  intro h; exfalso
  simp only [List.all_cons, List.all_nil, Bool.and_true, Bool.and_eq_true] at hs
  rcases h with h | h | h
  · have hh := hs.1
    clear h1 h2 hs
    cases a <;> first | exact absurd h Bool.false_ne_true | exact absurd hh Bool.false_ne_true
  · have hh := hs.2.1
    clear h1 h2 hs
    cases b <;> first | exact absurd h Bool.false_ne_true | exact absurd hh Bool.false_ne_true
  · have hh := hs.2.2
    clear h1 h2 hs
    cases c <;> first | exact absurd h Bool.false_ne_true | exact absurd hh Bool.false_ne_true
theorem z_par3 {x y z : Str} {px py pz pt pt2 spos : Pos} {kt k2 i j l : Nat} {a b c : Expr} (o : SOk G w k X W sc N al) (hi : N[i]? = some x) (hj : N[j]? = some y) (hk : N[l]? = some z) (hx : locB sc x = true) (hy : locB sc y = true) (hz : locB sc z = true) (hl : (px.line == py.line) = true) (hl2 : (px.line == pz.line) = true) (hxy : (x == y) = false) (hxz : (x == z) = false) (hyz : (y == z) = false)
    (hs : [a, b, c].all notStar = true) (h1 : [a, b, c].all (foldedForSure 8) = false) (h2 : [a, b, c].all (constantsAlone 8) = false) (ha : PA X [a, b, c] (tXd G w k X W xs)) :
    PS X (.Assign [.Tuple [.Name x px, .Name y py, .Name z pz] kt pt] (.Tuple [a, b, c] k2 pt2) spos) (tZ G w k X W np (.par [i, j, l] xs)) := by
  refine PS.imp (L2.ps_par3 o.calm (by rw [o.hN]; exact o.nd) (by rw [o.hN]; exact hi) (by rw [o.hN]; exact hj) (by rw [o.hN]; exact hk) (ix_ne o.nd hi hj hxy) (ix_ne o.nd hi hk hxz) (ix_ne o.nd hj hk hyz) (locB_ok o hx) (locB_ok o hy) (locB_ok o hz) ha (swapped3 o hx hy hz hl hl2 hxy hxz hyz hs h1 h2)) fun D σ H h => ?_
  refine tDs_mono (par_imp h) fun vs H1 hg => ?_
  obtain ⟨v, r, rfl, u, r', rfl, t, r'', rfl, rfl, q⟩ := hg
  exact ⟨v, u, t, rfl, q⟩
theorem z_sto {x : Str} {p p2 spos : Pos} {i : Nat} {ix : Expr} {ei : Ex} (o : SOk G w k X W sc N al) (hv : trV sc N x = .var i) (hi : isSlice ix = false) (he : isComp e = false) (ha : PE X e (tX G w k X W ea)) (hx : PE X ix (tX G w k X W ei)) :
    PS X (.Assign [.Subscript (.Name x p) ix p2] e spos) (tZ G w k X W np (.sto i ei ea)) := by
  have hn : PE X (.Name x p) (L2.tVar i) := var_of o.toXOk hv
  have hg := L2.pg_sub (pos := p2) hn hx L2.set_list (fun v => by cases ix <;> first | rfl | cases hi)
  refine PS.imp (L2.ps_asg ha hg (sw_not he (some (.Subscript (.Name x p) ix p2)) spos.line X.env) (by cases e <;> rfl) rfl) fun D σ H ⟨ρ, F, c⟩ => ?_
  have c' : ConS X.K (EX X.mg G.fld X.K W) np [] σ ρ F H (((ev (tbl G w k) ea ρ).bind frz).bind fun p => if holds p.2 i then ((ev (tbl G w k) ei p.2).bind frz).bind fun q => match q.2[i]?, q.1 with
    | some (.own (.list xs)), .int k => (Pv.opt (L2.ixN xs.length k)).bind fun j => .ok (.nxt, q.2.set i (.own (.list (xs.set j p.1))))
    | _, _ => .bad
    else .bad) D := c
  refine tF_of (tE_monoF ⟨ρ, F, c'.bind (Ra := RD X.K)⟩ fun v H1 ⟨d, ρ1, F1, r, m, _, c1⟩ => ?_)
  simp only at c1
  split at c1
  · rename_i hh
    obtain ⟨ys, hy⟩ := holds_ok hh
    obtain ⟨u, e1, e2⟩ := c1.S.own hy
    refine ⟨u, e1, ?_⟩
    refine tF_of (tE_monoF ⟨ρ1, F1, c1.bind (Ra := RD X.K)⟩ fun v2 H2 ⟨d2, ρ2, F2, r2, m2, eq2, c2⟩ => ?_)
    simp only at c2
    split at c2
    · rename_i zs kk hz
      obtain ⟨j, hj, c3⟩ := c2.opt
      obtain ⟨u2, f1, f2⟩ := c2.S.own hz
      rw [e1] at f1; cases f1
      obtain ⟨q, vs, rfl, h3, h4, h5⟩ := f2
      cases r2
      refine ⟨q, vs, kk, j, rfl, rfl, h3, by rw [← h5.length]; exact hj, ?_⟩
      have m3 := c2.S.mutate hz e1 h3 h4 (h5.set (r.mono m2.st.sub) j)
      exact c3.nx m3.toS
    · exact c2.P.elim
  · exact c1.P.elim
/-! ### loops -/
theorem forL_cons {turn : Pv.D → En → Res (Fl × En)} {x : Pv.D} {xs : List Pv.D} {ρ : En} : forL turn (x :: xs) ρ = (turn x ρ).bind fun
    | (.nxt, ρ') => forL turn xs ρ'
    | (.cnt, ρ') => forL turn xs ρ'
    | (.brk, ρ') => .ok (.nxt, ρ')
    | (.ret r, ρ') => .ok (.ret r, ρ') := rfl
theorem z_for {tg iter : Expr} {body : List Stmt} {it : It} {sb : List St} (o : SOk G w k X W sc N al) (hs : isSet iter = false) (hi : PI X tg iter (tI (tbl G w k) X.K (EX X.mg G.fld X.K W) it))
    (hb : PSs X body (tZB G w k X W np sb)) (hh : ∀ ρ p, evI (tbl G w k) it ρ = .ok p → ∀ i ∈ p.1.2, i ∉ tgIx (trTg al N tg) ++ stoB sb) : PS X (.For tg iter body [] pos) (tZ G w k X W np (.fo (trTg al N tg) it sb)) := by
  have hset : ∀ x, foldedSetIterable iter X.env x = pure x := fun x => by cases iter <;> first | rfl | cases hs
  refine PS.imp (L2.ps_for o.own o.calm hi (snd_tg o.hN o.nd o.calm o.al tg) hb hset) fun D σ H ⟨ρ, F, c⟩ => ?_
  generalize trTg al N tg = t at *
  have c' : ConS X.K (EX X.mg G.fld X.K W) np (tgIx t ++ stoB sb) σ ρ F H ((evI (tbl G w k) it ρ).bind fun w' => (forL (fun x ρ => (opt (asgT t x ρ)).bind fun ρ => exB (tbl G w k) sb ρ) w'.1.1 (wipeE w'.2 w'.1.2)).bind fun p => .ok (p.1, backE w'.2 p.2 w'.1.2)) D := c
  refine ⟨ρ, F, c.S, ?_⟩
  have cI := (c'.bind (Ra := RI X.K σ)).P
  have key := hh ρ
  revert cI key
  cases evI (tbl G w k) it ρ with
  | bad => exact fun p _ => p
  | rs _ _ _ => exact fun p _ => p
  | ok wI =>
  intro cI key J F1 H1 m ro
  obtain ⟨x, ρ1, F1', ⟨⟨Gd, Y, wk, itf⟩, hid⟩, m1, eqI, c1⟩ := cI J F1 H1 m ro
  have hdis := key wI rfl
  cases eqI
  obtain ⟨ds, h⟩ := x
  have c2 := ConS.hide c1 hdis hid
  have S1 := m1.S
  clear cI key c1 m ro m1 c' c
  simp only at c2 hid hdis
  have fixd : ∀ {Fi Hi : Hp} {σi : SS} {ρi : En}, MidS X.K (tgIx t ++ stoB sb) σ (wipeE ρ1 h) F1' H1 σi ρi Fi Hi → ∀ i ∈ h, ∀ p, σi[i]? = some (some (.ref p)) → Hi p = H1 p := fun {Fi Hi σi ρi} st i hi p hp => by
    rw [st.up.2 i (hdis i hi)] at hp
    obtain ⟨d, hd⟩ := hid i hi
    obtain ⟨v, e1, q⟩ := S1.own hd
    rw [hp] at e1; cases e1
    have hq : ∃ o, H1 p = some o := by
      cases d with
      | list ys =>
        obtain ⟨p', vs, e2, h1, _, _⟩ := q
        cases e2
        exact ⟨_, h1⟩
      | _ => exact q.elim
    obtain ⟨ob, hob⟩ := hq
    rw [hob]
    refine st.st.frm p ob hob fun ⟨j, d', hj, hs'⟩ => ?_
    obtain ⟨n, h2⟩ := wipeE_own hj
    exact n ((S1.apart i j d d' p hd h2 hp hs') ▸ hi)
  have same : ∀ {σi : SS}, Upd (tgIx t ++ stoB sb) σ σi → ∀ i ∈ h, σi[i]? = σ[i]? := fun u i hi => u.2 i (hdis i hi)
  have fix2 : ∀ {Fi Hi : Hp} {σi : SS} {ρi : En}, MidS X.K (tgIx t ++ stoB sb) σ (wipeE ρ1 h) F1' H1 σi ρi Fi Hi → ∀ i ∈ h, ∀ p, σ[i]? = some (some (.ref p)) → Hi p = H1 p := fun {Fi Hi σi ρi} st i hi p hp => fixd st i hi p (by rw [same st.up i hi]; exact hp)
  refine L2.for_it wk (fun i σ' H' => ∃ ρi Fi, MidS X.K (tgIx t ++ stoB sb) σ (wipeE ρ1 h) F1' H1 σ' ρi Fi H' ∧ ConS X.K (EX X.mg G.fld X.K W) np (tgIx t ++ stoB sb) σ' ρi Fi H' (forL (fun (x : Pv.D) ρ => (opt (asgT t x ρ)).bind fun ρ => exB (tbl G w k) sb ρ) (ds.drop i) ρi) D) ?_ ?_ ?_ ?_
  · exact ⟨wipeE ρ1 h, F1', MidS.refl c2.S, by rw [List.drop_zero]; exact c2⟩
  · rintro i σ' H' _ ⟨ρi, Fi, mi, ci⟩
    exact (itf Fi H' mi.st.sub mi.S.sub (fix2 mi)).1
  · rintro i v σ' H' H'' hi' ⟨ρi, Fi, mi, ci⟩ hy
    obtain ⟨F3, d, t3, l3, hd, rd⟩ := (itf Fi H' mi.st.sub mi.S.sub (fix2 mi)).2 i v H'' hi' hy
    have hdrop : ds.drop i = d :: ds.drop (i + 1) := by
      have hi2 : i < ds.length := hi'
      rw [List.drop_eq_getElem_cons hi2]
      have : ds[i]? = some ds[i] := List.getElem?_eq_getElem hi2
      rw [this] at hd; cases hd; rfl
    rw [hdrop, forL_cons, bind_assoc] at ci
    have m3 : MidS X.K (tgIx t ++ stoB sb) σ' ρi Fi H' σ' ρi F3 H'' := (Mid.of ci.S t3 l3).toS
    have c3 := ci.shift m3
    obtain ⟨ρ', ha, c4⟩ := c3.opt
    refine ⟨d, ρi, F3, ρ', c3.S, rd, ha, fun σ2 S2 u ix' os' => ?_⟩
    have m4 : MidS X.K (tgIx t ++ stoB sb) σ' ρi F3 H'' σ2 ρ' F3 H'' := (MidS.asg ha S2 u).mono fun i hi => List.mem_append_left _ hi
    have c5 := c4.shift m4
    have base := (mi.trans m3).trans m4
    refine ⟨ρ', F3, S2, ?_⟩
    have sub : ∀ i ∈ stoB sb, i ∈ tgIx t ++ stoB sb := fun i hi => List.mem_append_right _ hi
    cases ex : exB (tbl G w k) sb ρ' with
    | bad => rw [ex] at c5; exact c5.P.elim
    | rs q d ρ' => rw [ex] at c5; exact fun σ' F' H' m => c5.P σ' F' H' (m.mono sub)
    | ok p =>
      obtain ⟨fl, ρe⟩ := p
      rw [ex] at c5
      intro σe Fe He me
      have me' := me.mono sub
      cases fl with
      | nxt => exact ⟨ρe, Fe, base.trans me', c5.shift me'⟩
      | cnt => exact ⟨ρe, Fe, base.trans me', c5.shift me'⟩
      | brk => exact c5.nx me'
      | ret r => exact c5.P σe Fe He me'
  · rintro σ' H' ⟨ρi, Fi, mi, ci⟩
    rw [show (ds, h).1.length = ds.length from rfl, List.drop_length] at ci
    exact ci.nx (MidS.refl ci.S)
theorem z_while {cd : Expr} {body : List Stmt} {sb : List St} (o : SOk G w k X W sc N al) (hc : PT X cd (tXB G w k X W ec)) (hb : PSs X body (tZB G w k X W np sb)) : PS X (.While cd body [] pos) (tZ G w k X W np (.whl ec sb)) := by
  refine PS.imp (L2.ps_while o.own hc hb) fun D σ H ⟨ρ, F, c⟩ => ?_
  have c' : ConS X.K (EX X.mg G.fld X.K W) np (stoB sb) σ ρ F H (whlL (fun ρ => (ev (tbl G w k) ec ρ).bind boo) (fun ρ => exB (tbl G w k) sb ρ) (tbl G w k).wf ρ) D := c
  refine ⟨fun n σ H => ∃ ρ F, ConS X.K (EX X.mg G.fld X.K W) np (stoB sb) σ ρ F H (whlL (fun ρ => (ev (tbl G w k) ec ρ).bind boo) (fun ρ => exB (tbl G w k) sb ρ) n ρ) D, ⟨_, ρ, F, c'⟩, ?_⟩
  rintro n σ1 H1 ⟨ρ1, F1, c1⟩
  cases n with
  | zero => exact c1.P.elim
  | succ n =>
    have c2 : ConS X.K (EX X.mg G.fld X.K W) np (stoB sb) σ1 ρ1 F1 H1 (((ev (tbl G w k) ec ρ1).bind boo).bind fun
      | (false, ρ') => .ok (.nxt, ρ')
      | (true, ρ') => (exB (tbl G w k) sb ρ').bind fun
        | (.nxt, ρ'') => whlL (fun ρ => (ev (tbl G w k) ec ρ).bind boo) (fun ρ => exB (tbl G w k) sb ρ) n ρ''
        | (.cnt, ρ'') => whlL (fun ρ => (ev (tbl G w k) ec ρ).bind boo) (fun ρ => exB (tbl G w k) sb ρ) n ρ''
        | (.brk, ρ'') => .ok (.nxt, ρ'')
        | (.ret r, ρ'') => .ok (.ret r, ρ'')) D := c1
    refine tB_mono ⟨ρ1, F1, c2.bind (Ra := RB)⟩ fun b H2 ⟨x, ρ2, F2, r, m, _, c3⟩ => ?_
    cases r
    cases b with
    | false => exact c3.nx (MidS.refl c3.S)
    | true =>
      refine ⟨fun σ3 H3 => ∃ ρ3 F3, ConS X.K (EX X.mg G.fld X.K W) np (stoB sb) σ3 ρ3 F3 H3 (whlL (fun ρ => (ev (tbl G w k) ec ρ).bind boo) (fun ρ => exB (tbl G w k) sb ρ) n ρ3) D, fun σ' H' h => ⟨n, Nat.lt_succ_self n, h⟩, ρ2, F2, c3.S, ?_⟩
      simp only at c3
      cases ex : exB (tbl G w k) sb ρ2 with
      | bad => rw [ex] at c3; exact c3.P.elim
      | rs q d ρ' => rw [ex] at c3; exact fun σ' F' H' m => c3.P σ' F' H' m
      | ok p =>
        obtain ⟨fl, ρe⟩ := p
        rw [ex] at c3
        intro σe Fe He me
        cases fl with
        | nxt => exact ⟨ρe, Fe, c3.shift me⟩
        | cnt => exact ⟨ρe, Fe, c3.shift me⟩
        | brk => exact c3.nx me
        | ret r => exact c3.P σe Fe He me
theorem evI_hid {T : Tb} {it : It} {men : Nat → Bool} {ρ : En} {p : (List Pv.D × List Nat) × En} (hn : ∀ i, it ≠ .hid i) (h : evI T (hidI it men) ρ = .ok p) : ∀ i ∈ p.1.2, men i = false := by
  have plain : ∀ it' : It, (∀ i, it' ≠ .hid i) → evI T it' ρ = .ok p → p.1.2 = [] := fun it' hn' h' => by
    cases it' with
    | hid i => exact absurd rfl (hn' i)
    | seq a =>
      simp only [evI] at h'
      cases e : (ev T a ρ).bind frz <;> rw [e] at h' <;> try (cases h'; done)
      rename_i q
      rw [bind_ok] at h'
      cases e2 : itemsD q.1 <;> rw [e2] at h' <;> cases h'
      rfl
    | rng es =>
      simp only [evI] at h'
      cases e : evL T es ρ <;> rw [e] at h' <;> try (cases h'; done)
      rename_i q
      rw [bind_ok] at h'
      cases e2 : rngI q.1 <;> rw [e2] at h' <;> cases h'
      rfl
    | rev a =>
      simp only [evI] at h'
      cases e : (ev T a ρ).bind frz <;> rw [e] at h' <;> try (cases h'; done)
      rename_i q
      rw [bind_ok] at h'
      cases e2 : itemsD q.1 <;> rw [e2] at h' <;> cases h'
      rfl
    | enum a =>
      simp only [evI] at h'
      cases e : (ev T a ρ).bind frz <;> rw [e] at h' <;> try (cases h'; done)
      rename_i q
      rw [bind_ok] at h'
      split at h' <;> cases h'
      rfl
    | zip a b =>
      simp only [evI] at h'
      cases e : (ev T a ρ).bind frz <;> rw [e] at h' <;> try (cases h'; done)
      rename_i q
      rw [bind_ok] at h'
      cases e2 : (ev T b q.2).bind frz <;> rw [e2] at h' <;> try (cases h'; done)
      rw [bind_ok] at h'
      split at h' <;> cases h'
      rfl
  unfold hidI at h
  split at h
  · rename_i i
    split at h
    · intro j hj
      rw [plain _ hn h] at hj; cases hj
    · rename_i hm
      intro j hj
      simp only [evI] at h
      split at h
      · cases h
        rw [List.mem_singleton.mp hj]; simpa using hm
      · rename_i d _
        cases e2 : itemsD d <;> rw [e2] at h <;> cases h
        cases hj
      · cases h
  · intro j hj
    rw [plain _ hn h] at hj; cases hj
theorem trI_nohid {n : Nat} {tg e : Expr} : ∀ i, trI (tr n) sc N tg e ≠ .hid i := fun i h => by
  unfold trI at h
  repeat' split at h
  all_goals cases h
end
end Pv
end
section
/-! Pv19: all statements of the text; defs. -/
namespace Pv
open PySem PySem.Spec PyProof.Rows
open L2 (V Hp HO SqL SqT upd upd_same upd_ne VK TE TA TT TS Cx PE PA PT PS PSs Ends Inv Same Vals RelV Room Takes TI TG TGs PI PG PGs)
section
variable {G : Prog} {w k np n : Nat} {X : Cx} {W : L2.WX} {sc : Scope} {N al : List Str} {kp : List Nat} {pos : Pos} {a b c e : Expr} {ea eb ec : Ex} {es : List Expr} {xs : List Ex}
structure IHS (G : Prog) (w k np : Nat) (al : List Str) (kp : List Nat) (n : Nat) : Prop where
  s : ∀ {X : Cx} {W : L2.WX} {sc : Scope} {N : List Str}, SOk G w k X W sc N al → ∀ s, PS X s (tZ G w k X W np (trS al kp np n sc N s))
  b : ∀ {X : Cx} {W : L2.WX} {sc : Scope} {N : List Str}, SOk G w k X W sc N al → ∀ l, PSs X l (tZB G w k X W np (trB al kp np n sc N l))
theorem lcok (o : XOk G w k X W sc N) {elt : Expr} (gs : List Comprehension) {scope : Scope} {pos : Pos} : ∀ n, LcOk X (.ListComp elt gs scope pos) (tX G w k X W (tr n sc N (.ListComp elt gs scope pos)))
  | 0 => lc_bad
  | n + 1 => step_lc (snd_all G w k n) o gs
theorem trN_name {x : Str} {p : Pos} {i : Nat} (h : trN al N (.Name x p) = some i) : x ∈ al ∧ N[i]? = some x := by
  obtain ⟨y, q, e, h1, h2⟩ := trN_ok h
  cases e
  exact ⟨h1, h2⟩
theorem stI_name {x : Str} {p : Pos} {i : Nat} (h : stI al kp N (.Name x p) = some i) : x ∈ al ∧ N[i]? = some x := by
  unfold stI at h
  split at h
  · rename_i j hj
    split at h
    · cases h
    · cases h; exact trN_name hj
  · cases h
theorem z_name (o : SOk G w k X W sc N al) {x : Str} {p spos : Pos} {i : Nat} (h : stI al kp N (.Name x p) = some i) (hn : isComp e = false) (ha : PE X e (tX G w k X W ea)) : PS X (.Assign [.Name x p] e spos) (tZ G w k X W np (.set i ea)) := by
  obtain ⟨h1, h2⟩ := stI_name h
  obtain ⟨h3, h4⟩ := o.al x h1
  exact PS.imp (L2.ps_set (by rw [o.hN]; exact o.nd) (by rw [o.hN]; exact h2) h3 ha (sw_not hn _ _ _) h4) fun D σ H h => z_set_imp h
theorem z_nameLc (o : SOk G w k X W sc N al) {x : Str} {p spos : Pos} {i : Nat} (h : stI al kp N (.Name x p) = some i) (ha : LcOk X e (tX G w k X W ea)) : PS X (.Assign [.Name x p] e spos) (tZ G w k X W np (.set i ea)) := by
  obtain ⟨h1, h2⟩ := stI_name h
  obtain ⟨h3, h4⟩ := o.al x h1
  exact PS.imp (ha.2 i x p spos (by rw [o.hN]; exact o.nd) (by rw [o.hN]; exact h2) h3 h4 o.kind) fun D σ H h => z_set_imp h
theorem trNs_two {x y : Str} {p q : Pos} {is : List Nat} (h : trNs al N [.Name x p, .Name y q] = some is) : ∃ i j, is = [i, j] ∧ N[i]? = some x ∧ N[j]? = some y := by
  simp only [trNs] at h
  split at h
  · rename_i t ts h1 h2
    split at h2
    · rename_i t2 ts2 h3 h4
      cases h4; cases h2; cases h
      exact ⟨_, _, rfl, (trN_name h1).2, (trN_name h3).2⟩
    · cases h2
  · cases h
theorem trNs_three {x y z : Str} {p q r : Pos} {is : List Nat} (h : trNs al N [.Name x p, .Name y q, .Name z r] = some is) : ∃ i j l, is = [i, j, l] ∧ N[i]? = some x ∧ N[j]? = some y ∧ N[l]? = some z := by
  simp only [trNs] at h
  split at h
  · rename_i t ts h1 h2
    split at h2
    · rename_i t2 ts2 h3 h4
      split at h4
      · rename_i t3 ts3 h5 h6
        cases h6; cases h4; cases h2; cases h
        exact ⟨_, _, _, rfl, (trN_name h1).2, (trN_name h3).2, (trN_name h5).2⟩
      · cases h4
    · cases h2
  · cases h
theorem asg_tup (o : SOk G w k X W sc N al) {ts vs : List Expr} {k1 k2 : Nat} {p p2 spos : Pos} {is : List Nat} (hn : trNs al N ts = some is) : PS X (.Assign [.Tuple ts k1 p] (.Tuple vs k2 p2) spos) (tZ G w k X W np (match parNames sc ts with
          | some xs => if vs.length == ts.length && vs.all notStar && !(vs.all (foldedForSure 8)) && !(vs.all (constantsAlone 8)) then .par is (vs.map (tr n sc N)) else .bad
          | none => .bad)) := by
  split
  · rename_i names hp
    split
    · rename_i hc
      simp only [Bool.and_eq_true, Bool.not_eq_true'] at hc
      obtain ⟨⟨⟨h1, h2⟩, h3⟩, h4⟩ := hc
      have ha := snd_ds (G := G) (w := w) (k := k) (X := X) (W := W) (f := tr n sc N) h2 (allE (snd_all G w k n) o.toXOk)
      unfold parNames at hp
      split at hp
      · rename_i x px y py
        split at hp
        · rename_i hq
          simp only [Bool.and_eq_true, Bool.not_eq_true'] at hq
          obtain ⟨⟨⟨g1, g2⟩, g3⟩, g4⟩ := hq
          obtain ⟨i, j, rfl, i1, i2⟩ := trNs_two hn
          have hl : vs.length = 2 := by simpa using h1
          match vs, hl with
          | [u, v], _ => exact z_par2 o i1 i2 g1 g2 g3 g4 h2 h3 h4 ha
        · cases hp
      · rename_i x px y py z pz
        split at hp
        · rename_i hq
          simp only [Bool.and_eq_true, Bool.not_eq_true'] at hq
          obtain ⟨⟨⟨⟨⟨⟨⟨g1, g2⟩, g3⟩, g4⟩, g5⟩, g6⟩, g7⟩, g8⟩ := hq
          obtain ⟨i, j, l, rfl, i1, i2, i3⟩ := trNs_three hn
          have hl : vs.length = 3 := by simpa using h1
          match vs, hl with
          | [u, v, r], _ => exact z_par3 o i1 i2 i3 g1 g2 g3 g4 g5 g6 g7 g8 h2 h3 h4 ha
        · cases hp
      · cases hp
    · exact ps_bad
  · exact ps_bad
theorem snd_asg (o : SOk G w k X W sc N al) (t e : Expr) {spos : Pos} (l : Nat) : PS X (.Assign [t] e spos) (tZ G w k X W np (trAsg al kp n sc N t e l)) := by
  unfold trAsg
  split
  · rename_i x p
    split
    · rename_i i hi
      split
      · split
        · exact z_nameLc o hi (lcok o.toXOk _ n)
        · exact ps_bad
      · exact ps_bad
      · exact ps_bad
      · rename_i h1 h2 h3
        refine z_name o hi ?_ ((snd_all G w k n).e o.toXOk e)
        cases e <;> first | rfl | exact absurd rfl (h1 _ _ _ _) | exact absurd rfl (h2 _ _ _ _) | exact absurd rfl (h3 _ _ _ _ _)
    · exact ps_bad
  · rename_i ts kk p
    split
    · rename_i is his
      split
      · rename_i hd
        rw [Bool.and_eq_true] at hd
        split
        · exact asg_tup o his
        · rename_i hnt
          split
          · exact ps_bad
          · rename_i hc
            refine z_unp o his hd.1 (by simpa using hc) ?_ ((snd_all G w k n).e o.toXOk e)
            cases e <;> first | rfl | exact absurd rfl (hnt _ _ _)
      · exact ps_bad
    · exact ps_bad
  · rename_i x p ix p2
    split
    · rename_i i hv
      split
      · exact ps_bad
      · rename_i hsl
        split
        · exact ps_bad
        · rename_i hc
          refine z_sto o hv ?_ (by simpa using hc) ((snd_all G w k n).e o.toXOk e) ((snd_all G w k n).e o.toXOk ix)
          cases ix <;> first | rfl | exact absurd rfl (hsl _ _ _ _)
    · exact ps_bad
  · exact ps_bad
theorem snd_ret (o : SOk G w k X W sc N al) (e : Expr) : PS X (.Return (some e) pos) (tZ G w k X W np (match e with
      | .Name x _ => match trV sc N x with
        | .var i => if decide (np ≤ i) then .retv i else .ret (.var i)
        | t => .ret t
      | _ => .ret (tr n sc N e))) := by
  split
  · rename_i x p
    split
    · rename_i i hv
      split
      · rename_i h; exact z_retv (of_decide_eq_true h) (var_of o.toXOk hv)
      · have := snd_name (pos := p) o.toXOk (x := x)
        rw [hv] at this
        exact z_ret this
    · exact z_ret (snd_name o.toXOk)
  · exact z_ret ((snd_all G w k n).e o.toXOk e)
theorem step_s (h : IHS G w k np al kp n) (o : SOk G w k X W sc N al) (s : Stmt) : PS X s (tZ G w k X W np (trS al kp np (n + 1) sc N s)) := by
  cases s with
  | Pass pos => exact z_pas L2.ps_pass
  | Break pos => exact z_brk
  | Continue pos => exact z_cnt
  | Assign ts e p =>
    match ts with
    | [] => exact ps_bad
    | [t] => exact snd_asg o t e p.line
    | _ :: _ :: _ => exact ps_bad
  | Expr e p =>
    by_cases hd : ∃ x j q, e = .Constant (.str x) j q
    · obtain ⟨x, j, q, rfl⟩ := hd
      exact z_pas L2.ps_doc
    · have e1 : trS al kp np (n + 1) sc N (.Expr e p) = if isComp e then .bad else .exp (tr n sc N e) := by
        cases e with
        | Constant c j q =>
          cases c <;> first | rfl | exact absurd ⟨_, _, _, rfl⟩ hd
        | _ => rfl
      rw [e1]
      split
      · exact ps_bad
      · rename_i hc
        exact z_exp (by simpa using hc) ((snd_all G w k n).e o.toXOk e)
  | Return oe p =>
    cases oe with
    | none => exact z_retN
    | some e => exact snd_ret o e
  | If c a b p => exact z_if ((snd_all G w k n).t o.toXOk c) (h.b o a) (h.b o b)
  | For tg it body orelse p =>
    cases orelse with
    | cons _ _ => exact ps_bad
    | nil =>
      simp only [trS]
      split
      · rename_i hc
        rw [Bool.and_eq_true] at hc
        refine z_for o (by simpa using hc.2) (snd_hidI (snd_all G w k n) o.toXOk it _) (h.b o body) fun ρ p hp i hi => ?_
        have hm := evI_hid (fun i => trI_nohid i) hp i hi
        simp only [Bool.or_eq_false_iff] at hm
        intro hx
        rcases List.mem_append.mp hx with z | z
        · have := hm.1.1; simp [z] at this
        · have := hm.2; simp [z] at this
      · exact ps_bad
  | While c body orelse p =>
    cases orelse with
    | cons _ _ => exact ps_bad
    | nil => exact z_while o ((snd_all G w k n).t o.toXOk c) (h.b o body)
  | _ => exact ps_bad
theorem snd_stmts (G : Prog) (w k np : Nat) (al : List Str) (kp : List Nat) : ∀ n, IHS G w k np al kp n
  | 0 => ⟨fun _ _ => ps_bad, fun _ l => by
    cases l with
    | nil => exact zs_nil
    | cons _ _ => exact pss_bad⟩
  | n + 1 => ⟨fun o s => step_s (snd_stmts G w k np al kp n) o s, fun o l => by
    cases l with
    | nil => exact zs_nil
    | cons s r => exact zs_cons ((snd_stmts G w k np al kp n).s o s) ((snd_stmts G w k np al kp n).b o r)⟩
end
end Pv
end
section
/-! Pv20: defs: each keeps what the evaluator says of its call. -/
namespace Pv
open PySem PySem.Spec PyProof.Rows
open L2 (V Hp HO SqL SqT upd upd_same upd_ne VK TE TA TT TS Cx PE PA PT PS PSs Ends Inv Same Vals RelV Room Takes TI TG TGs PI PG PGs FnOk FnScope cxOf start Binds)
/-! ### the lists handed back -/
theorem outsOf_len {rb : List Nat} : ∀ {j : Nat} {as : List Slot} {ρ : En}, as.length ≤ ρ.length → (outsOf rb j as ρ).length = as.length
  | _, [], _, _ => rfl
  | _, _ :: _, [], h => by simp at h
  | j, a :: as, s :: ρ, h => by
    show (outsOf rb (j + 1) as ρ).length + 1 = as.length + 1
    rw [outsOf_len (by simpa using h)]
theorem outsOf_get {rb : List Nat} : ∀ {j : Nat} {as : List Slot} {ρ : En} {i : Nat} {s : Slot}, (outsOf rb j as ρ)[i]? = some s → (rb.contains (j + i) = true ∧ as[i]? = some s) ∨ (rb.contains (j + i) = false ∧ ρ[i]? = some s ∧ i < as.length)
  | _, [], _, i, s, h => by simp [outsOf] at h
  | _, _ :: _, [], i, s, h => by simp [outsOf] at h
  | j, a :: as, x :: ρ, 0, s, h => by
    have h : some (if rb.contains j then a else x) = some s := by simpa [outsOf] using h
    by_cases c : rb.contains j = true
    · rw [if_pos c] at h
      exact .inl ⟨c, h⟩
    · rw [if_neg c] at h
      exact .inr ⟨by simpa using c, h, by simp⟩
  | j, a :: as, x :: ρ, i + 1, s, h => by
    have := outsOf_get (rb := rb) (j := j + 1) (as := as) (ρ := ρ) (i := i) (s := s) (by simpa [outsOf] using h)
    rw [show j + 1 + i = j + (i + 1) by omega] at this
    simpa using this
theorem rbOk_no {rb : List Nat} {as : List Slot} (h : rbOk rb as = true) {i : Nat} {d : D} (hc : rb.contains i = true) : as[i]? ≠ some (.own d) := fun e => by
  have := List.all_eq_true.mp h i (by simpa using hc)
  rw [e] at this
  cases this
theorem pad_get {as : List Slot} {n i : Nat} {s : Slot} (h : (as ++ List.replicate n Slot.un)[i]? = some s) : as[i]? = some s ∨ (as.length ≤ i ∧ s = .un) := by
  by_cases hl : i < as.length
  · rw [List.getElem?_append_left hl] at h; exact .inl h
  · rw [List.getElem?_append_right (by omega), List.getElem?_replicate] at h
    split at h
    · cases h; exact .inr ⟨by omega, rfl⟩
    · cases h
theorem start_get {N : List Str} {vs : List V} {i : Nat} (h : i < vs.length) : (start N vs)[i]? = (vs.map some)[i]? := by
  unfold L2.start
  rw [List.getElem?_append_left (by simpa using h)]
section
variable {K : Frag} {N : List Str} {vs : List V} {as : List Slot} {F H F' H' : Hp} {σ' : SS} {ρ' : En} {is rb : List Nat}
theorem SR.start (S : SR K as F (vs.map some) H) : SR K (as ++ List.replicate (N.length - as.length) .un) F (start N vs) H := by
  have la : as.length = vs.length := by rw [S.len, List.length_map]
  refine ⟨S.sub, by unfold L2.start; simp [la], fun i s h => ?_, fun i j d e p h h' hs hs' => ?_⟩
  · rcases pad_get h with h1 | ⟨_, rfl⟩
    · have hl : i < vs.length := by rw [← la]; exact (List.getElem?_eq_some_iff.mp h1).1
      rw [start_get hl]
      exact S.slots i s h1
    · trivial
  · have g : ∀ {i : Nat} {d : D}, (as ++ List.replicate (N.length - as.length) .un)[i]? = some (Slot.own d) → as[i]? = some (.own d) ∧ i < vs.length := fun {i d} h => by
      rcases pad_get h with h1 | ⟨_, z⟩
      · exact ⟨h1, by rw [← la]; exact (List.getElem?_eq_some_iff.mp h1).1⟩
      · cases z
    obtain ⟨a1, a2⟩ := g h
    obtain ⟨b1, b2⟩ := g h'
    rw [start_get a2] at hs
    rw [start_get b2] at hs'
    exact S.apart i j d e p a1 b1 hs hs'
theorem own_start (S : SR K as F (vs.map some) H) {p : Addr} (h : Own (as ++ List.replicate (N.length - as.length) .un) (start N vs) p) : Own as (vs.map some) p := by
  have la : as.length = vs.length := by rw [S.len, List.length_map]
  obtain ⟨i, d, h1, h2⟩ := h
  rcases pad_get h1 with h3 | ⟨_, z⟩
  · rw [start_get (by rw [← la]; exact (List.getElem?_eq_some_iff.mp h3).1)] at h2
    exact ⟨i, d, h3, h2⟩
  · cases z
/-- a def's end, as the caller sees it -/
theorem MidS.outs (S : SR K as F (vs.map some) H) (hrb : rbOk rb as = true) (hst : ∀ i, i < as.length → rb.contains i = false → i ∉ is)
    (m : MidS K is (start N vs) (as ++ List.replicate (N.length - as.length) .un) F H σ' ρ' F' H') : Mid K (vs.map some) as F H (outsOf rb 0 as ρ') F' H' := by
  have la : as.length = vs.length := by rw [S.len, List.length_map]
  have lr : as.length ≤ ρ'.length := by
    rw [m.S.len, m.up.1, ← (SR.start (N := N) S).len]; simp
  have same : ∀ {i : Nat}, i < as.length → rb.contains i = false → σ'[i]? = (vs.map some)[i]? := fun {i} h1 h2 => by
    rw [m.up.2 i (hst i h1 h2), start_get (by omega)]
  have g : ∀ {i : Nat} {s : Slot}, (outsOf rb 0 as ρ')[i]? = some s → (rb.contains i = true ∧ as[i]? = some s) ∨ (rb.contains i = false ∧ ρ'[i]? = some s ∧ i < as.length) := fun {i s} h => by
    have := outsOf_get h
    rw [Nat.zero_add] at this
    exact this
  have go : ∀ {i : Nat} {d : D}, (outsOf rb 0 as ρ')[i]? = some (Slot.own d) → rb.contains i = false ∧ ρ'[i]? = some (Slot.own d) ∧ i < as.length := fun {i d} h => by
    rcases g h with ⟨a, b⟩ | z
    · exact absurd b (rbOk_no hrb a)
    · exact z
  refine ⟨⟨m.S.sub, by rw [outsOf_len lr]; exact S.len, fun i s h => ?_, fun i j d e p h h' hs hs' => ?_⟩, m.st.mono fun p h => own_start S h, fun i d h => ?_⟩
  · rcases g h with ⟨a, b⟩ | ⟨a, b, c⟩
    · have q := S.slots i s b
      cases s with
      | un => trivial
      | val d =>
        obtain ⟨v, e1, e2⟩ := S.val b
        rw [e1]; exact VR.mono m.st.sub e2
      | own d => exact absurd b (rbOk_no hrb a)
    · rw [← same c a]
      exact m.S.slots i s b
  · obtain ⟨a1, a2, a3⟩ := go h
    obtain ⟨b1, b2, b3⟩ := go h'
    rw [← same a3 a1] at hs
    rw [← same b3 b1] at hs'
    exact m.S.apart i j d e p a2 b2 hs hs'
  · obtain ⟨a1, a2, a3⟩ := go h
    obtain ⟨e, he⟩ := m.iy i d (hst i a3 a1) a2
    rcases pad_get he with h1 | ⟨_, z⟩
    · exact ⟨e, h1⟩
    · cases z
end
/-- a look at a def -/
def chk (fi : Fn) (sc : Scope) : Bool :=
  C8.scC fi.N fi.ps sc && (ownNames sc).all (fun x => sc.names.lookup x == some .local || sc.names.lookup x == some .cell) && (List.range fi.ps.length).all fun i => fi.rb.contains i || !(stoB fi.body).contains i
/-- a def of the text: its place, its translation -/
structure DefOk (K : Frag) (mg : Str → Option Value) (x : Str) (fi : Fn) (f : Addr) (fd : FuncData) : Prop where
  st : ∃ st, L2.Fun K x x st f fd ∧ fi = trFn fi.ps (L2.defScope st) (L2.defBody st) ∧ chk fi (L2.defScope st) = true
  mgx : mg x = some (.ref f)
  bd : Binds K fd fi.ps []
/-- what holds of the module -/
structure ModOk (G : Prog) (K : Frag) (mg : Str → Option Value) : Prop where
  fn : ∀ x fi, G.fn x = some fi → ∃ f fd, DefOk K mg x fi f fd
  gl : ∀ x d, G.gl x = some d → ∃ u v, mg x = some u ∧ RelV v u ∧ VR K (fun _ => none) d v
  blt : ∀ x, x ∈ bltNames → mg x = none
  gcd : G.gcd = true → mg "gcd" = some (.builtin "math.gcd")
section
variable {P : Program} {wd : World} {G : Prog} {w : Nat} {K : Frag} {mg : Str → Option Value} {base : Heap}
theorem def_ok (M : ModOk G K mg) {k : Nat} (ih : ∀ x fi, G.fn x = some fi → ∃ a fd, mg x = some (.ref a) ∧ PySem.W.keepIn K (.ref a) = true ∧ Binds K fd fi.ps [] ∧ FnOk P wd K mg base (L2.CX P wd) k a fd fi.ps (spF G w k K mg x fi))
    {x : Str} {fi : Fn} (hf : G.fn x = some fi) {f : Addr} {fd : FuncData} (dk : DefOk K mg x fi f fd) : FnOk P wd K mg base (L2.CX P wd) (k + 1) f fd fi.ps (spF G w (k + 1) K mg x fi) := by
  obtain ⟨st, Fu, htr, hc⟩ := dk.st
  unfold chk at hc
  rw [Bool.and_eq_true, Bool.and_eq_true] at hc
  obtain ⟨⟨hc1, hc2⟩, hc3⟩ := hc
  have Sc := C8.fnScope_by hc1
  refine Fu.okX Sc (fun vs H Q E h => h.1) fun cdv A outer s H vs Q E hr h => ?_
  obtain ⟨hl, as, F, cn⟩ := h
  generalize hsc : L2.defScope st = sc at *
  have hbody : fi.body = trB (ownNames sc) ((List.range fi.ps.length).filter fun i => !fi.rb.contains i) fi.ps.length fuel sc fi.N (L2.defBody st) := by
    rw [htr]; rfl
  have so : SOk G w k (cxOf (L2.CX P wd) P wd K mg base fi.N x sc f cdv A outer s H E) (fun c d _ H => E c d H) sc fi.N (ownNames sc) := by
    refine ⟨⟨rfl, Sc.nd, rfl, rfl, hr, L2.takes_of rfl rfl rfl rfl, ih, M.gl, M.blt, M.gcd⟩, fun y hy => ?_, L2.passes_of rfl, Sc.kind⟩
    have := List.all_eq_true.mp hc2 y hy
    rw [Bool.or_eq_true] at this
    exact ⟨this.elim (fun z => .inl (eq_of_beq z)) fun z => .inr (eq_of_beq z), .inl rfl⟩
  refine ⟨_, (snd_stmts G w k fi.ps.length (ownNames sc) ((List.range fi.ps.length).filter fun i => !fi.rb.contains i) fuel).b so (L2.defBody st), ?_⟩
  rw [← hbody]
  have call : (tbl G w (k + 1)).call x as = runFn (tbl G w k) fi as := by
    show (match G.fn x with | some f => runFn (tbl G w k) f as | none => .bad) = _
    rw [hf]
  rw [call] at cn
  have S := cn.S
  have la : as.length = vs.length := by rw [S.len, List.length_map]
  have p := cn.P
  unfold runFn at p
  split at p
  · rename_i hcond
    have hst : ∀ i, i < as.length → fi.rb.contains i = false → i ∉ stoB fi.body := fun i h1 h2 h3 => by
      have := List.all_eq_true.mp hc3 i (by rw [List.mem_range, ← hcond.1]; exact h1)
      rw [h2] at this
      simp [h3] at this
    refine ⟨as ++ List.replicate (fi.N.length - as.length) Slot.un, F, SR.start S, ?_⟩
    revert p
    cases ex : exB (tbl G w k) fi.body (as ++ List.replicate (fi.N.length - as.length) .un) with
    | bad => exact id
    | rs c d ρ' =>
      intro p σ' F' H' m C dd v fl h1 h2 h3 h4
      exact p F' H' (MidS.outs S hcond.2 hst m) C dd v fl h1 h2 h3 h4
    | ok q =>
      obtain ⟨fl, ρ'⟩ := q
      intro p σ' F' H' m
      have mo := MidS.outs S hcond.2 hst m
      have p2 : Post K (EC mg G.fld K E) (RRel K) (vs.map some) as F H ((opt (retOf fl)).bind fun r => .ok (r, outsOf fi.rb 0 as ρ')) Q := p
      cases fl with
      | brk => exact p2.elim
      | cnt => exact p2.elim
      | nxt => exact p2 .non F' H' mo VR.non
      | ret r =>
        intro v hr
        refine p2 v F' H' mo ?_
        cases r with
        | val d => exact hr
        | fresh d =>
          refine ⟨hr.1, fun q e => ?_⟩
          rcases hr.2 q e with z | ⟨i, e1, h1, h2, _⟩
          · exact z
          · exfalso
            rcases pad_get h2 with h3 | ⟨_, z⟩
            · have := (List.getElem?_eq_some_iff.mp h3).1
              rw [hcond.1] at this
              omega
            · cases z
  · exact p.elim
theorem all_ok (M : ModOk G K mg) : ∀ k, ∀ x fi, G.fn x = some fi → ∃ a fd, mg x = some (.ref a) ∧ PySem.W.keepIn K (.ref a) = true ∧ Binds K fd fi.ps [] ∧ FnOk P wd K mg base (L2.CX P wd) k a fd fi.ps (spF G w k K mg x fi)
  | 0, x, fi, hf => by
    obtain ⟨f, fd, dk⟩ := M.fn x fi hf
    obtain ⟨st, Fu, _, _⟩ := dk.st
    exact ⟨f, fd, dk.mgx, Fu.kp, dk.bd, fun vs H Q E h => h.1, fun A outer s H args us vs Q E _ _ _ _ h => by
      obtain ⟨_, as, F, cn⟩ := h
      exact cn.P.elim⟩
  | k + 1, x, fi, hf => by
    obtain ⟨f, fd, dk⟩ := M.fn x fi hf
    obtain ⟨st, Fu, _, _⟩ := dk.st
    exact ⟨f, fd, dk.mgx, Fu.kp, dk.bd, def_ok M (all_ok M k) hf dk⟩
end
end Pv
end
section
/-! Pv21: a law's end. -/
namespace Pv
open PySem PySem.Spec PyProof.Rows
open L2 (V Hp HO SqL SqT VK Cx RelV Vals FnOk Binds)
section
variable {K : Frag} {mg : Str → Option Value}
/-- a def, from what the fragment tells -/
theorem def_mk {x : Str} {st : Stmt} {fi : Fn} {f : Addr} {oc : Value} {od an : Option Addr} {osl : Array (Option Value)} {kV doc pm cd ct : Value}
    (tr : fi = trFn fi.ps (L2.defScope st) (L2.defBody st)) (ck : chk fi (L2.defScope st) = true)
    (bd : ∀ (kV doc pm : Value) (an : Option Addr) (cdv ct : Value) (us : List Value), us.length = fi.ps.length → bindArgs (PySem.W.fnOf x x (L2.defArgs st) (L2.defBody st) (L2.defScope st) .none kV doc pm an cdv ct) ⟨us, []⟩ = pure (fi.ps.zip us))
    (a : mg x = some (.ref f)) (l : K.lookup f = some ⟨oc, od, .func (PySem.W.fnOf x x (L2.defArgs st) (L2.defBody st) (L2.defScope st) .none kV doc pm an cd ct), osl⟩)
    (c : PySem.W.codeIn K cd x = true) (kp : PySem.W.keepIn K (.ref f) = true) : DefOk K mg x fi f (PySem.W.fnOf x x (L2.defArgs st) (L2.defBody st) (L2.defScope st) .none kV doc pm an cd ct) := by
  have F := L2.fun_mk (st := st) l c kp
  exact ⟨⟨st, F, tr, ck⟩, a, F.binds bd⟩
theorem fns_ok {l : List (Str × Fn)} (h : ∀ y ∈ l, ∃ f fd, DefOk K mg y.1 y.2 f fd) : ∀ x fi, l.lookup x = some fi → ∃ f fd, DefOk K mg x fi f fd := fun x fi e => h (x, fi) (PySem.mem_of_lookup e)
theorem gls_ok {l : List (Str × D)} (h : ∀ y ∈ l, ∃ u v, mg y.1 = some u ∧ RelV v u ∧ VR K (fun _ => none) y.2 v) : ∀ x d, l.lookup x = some d → ∃ u v, mg x = some u ∧ RelV v u ∧ VR K (fun _ => none) d v := fun x d e => h (x, d) (PySem.mem_of_lookup e)
/-- what a law's def is asked -/
def spL (n : Nat) (K : Frag) : L2.Sp := fun vs H Q _ => ∃ (a : Addr) (ns : List Int), vs = [.ref a] ∧ SqL K H a (ns.map V.int) ∧ ns.length ≤ n ∧ ∀ H', Q (.bl true) H'
theorem law_imp {G : Prog} {w k n : Nat} {fi : Fn} {x : Str} (hl : fi.ps.length = 1) (hp : ∀ ns : List Int, ns.length ≤ n → ∃ outs, (tbl G w k).call x [.val (.list (ns.map .int))] = .ok (.val (.bool true), outs)) :
    ∀ vs H Q E, spL n K vs H Q E → spF G w k K mg x fi vs H Q E := fun vs H Q E ⟨a, ns, e, hs, hn, q⟩ => by
  subst e
  obtain ⟨outs, ho⟩ := hp ns hn
  have r : VR K H (.list (ns.map .int)) (.ref a) := .lst hs (VRs.of_ints ns)
  refine ⟨by rw [hl]; rfl, [.val (.list (ns.map .int))], H, ⟨Le.refl _, rfl, fun i s h => ?_, fun i j d e p h => ?_⟩, ?_⟩
  · cases i with
    | zero => cases h; exact r
    | succ i => simp at h
  · cases i with
    | zero => cases h
    | succ i => simp at h
  · rw [ho]
    intro v F' H' _ rr
    cases rr
    exact q H'
theorem cx_no {P : Program} {w : World} {H : Hp} {s s' : Shared} {e : Value} (h : L2.CX P w [] H s (fun _ _ _ => False) e s') : False := by
  obtain ⟨_, _, _, _, _, _, _, _, _, _, _, _, z⟩ := h
  exact z
theorem tup_const {t : Addr} {od : Option Addr} {its : Array Value} {n : Nat} {sl : Array (Option Value)} {ds : List D} {vs : List V} (l : K.lookup t = some ⟨.type "tuple", od, .seq its n, sl⟩) (hz : its.size ≤ sizeLine) (hv : Vals vs its.toList) (r : VRs K (fun _ => none) ds vs) : VR K (fun _ => none) (.tuple ds) (.ref t) :=
  .tup (.inr ⟨_, its, n, l, rfl, rfl, hz, hv⟩) r
end
theorem eqI (i j : Int) : cmpD .eq (.int i) (.int j) = some (decide (i = j)) := by
  rw [show cmpD .eq (.int i) (.int j) = if shp (.int i) && shp (.int j) then some (PyData.eqv (.int i) (.int j)) else none from rfl, if_pos (show (shp (.int i) && shp (.int j)) = true from rfl)]
  rfl
theorem neI (i j : Int) : cmpD .ne (.int i) (.int j) = some (!decide (i = j)) := by
  rw [show cmpD .ne (.int i) (.int j) = if shp (.int i) && shp (.int j) then some (!PyData.eqv (.int i) (.int j)) else none from rfl, if_pos (show (shp (.int i) && shp (.int j)) = true from rfl)]
  rfl
theorem ltI (i j : Int) : cmpD .lt (.int i) (.int j) = some (decide (i < j)) := rfl
theorem leI (i j : Int) : cmpD .le (.int i) (.int j) = some (decide (i ≤ j)) := rfl
theorem gtI (i j : Int) : cmpD .gt (.int i) (.int j) = some (decide (j < i)) := rfl
theorem geI (i j : Int) : cmpD .ge (.int i) (.int j) = some (decide (j ≤ i)) := rfl
theorem isN (a : D) : cmpD .is a .none = some (isNon a) := by cases a <;> rfl
theorem isnN (a : D) : cmpD .isnot a .none = some (!isNon a) := by cases a <;> rfl
theorem isB (a : D) (b : Bool) : cmpD .is a (.bool b) = some (isBo b a) := by cases a <;> rfl
theorem isnB (a : D) (b : Bool) : cmpD .isnot a (.bool b) = some (!isBo b a) := by cases a <;> rfl
theorem bs_seq {T : Tb} {s : St} {r : List St} {ρ ρ1 : En} {res : Res (Fl × En)} (h : exS T s ρ = .ok (.nxt, ρ1)) (h2 : exB T r ρ1 = res) : exB T (s :: r) ρ = res := by
  show (exS T s ρ).bind _ = _
  rw [h]; exact h2
theorem bs_end {T : Tb} {s : St} {r : List St} {ρ ρ1 : En} {v : R} (h : exS T s ρ = .ok (.ret v, ρ1)) : exB T (s :: r) ρ = .ok (.ret v, ρ1) := by
  show (exS T s ρ).bind _ = _
  rw [h]; rfl
theorem bs_if {T : Tb} {c : Ex} {a b : List St} {ρ ρ1 : En} {t : Bool} {res : Res (Fl × En)} (h : (ev T c ρ).bind boo = .ok (t, ρ1)) (h2 : (if t then exB T a ρ1 else exB T b ρ1) = res) : exS T (.ifs c a b) ρ = res := by
  show ((ev T c ρ).bind boo).bind _ = _
  rw [h]; exact h2
theorem bs_nil {T : Tb} {ρ : En} : exB T [] ρ = .ok (.nxt, ρ) := rfl
theorem bs_for {T : Tb} {tg : Tg} {it : It} {body : List St} {ρ ρ0 ρ1 : En} {ds : List D} {h : List Nat} {fl : Fl} (hi : evI T it ρ = .ok ((ds, h), ρ0)) (h2 : forL (fun x ρ => (opt (asgT tg x ρ)).bind fun ρ => exB T body ρ) ds (wipeE ρ0 h) = .ok (fl, ρ1)) : exS T (.fo tg it body) ρ = .ok (fl, backE ρ0 ρ1 h) := by
  show (evI T it ρ).bind _ = _
  rw [hi]
  show (forL _ ds (wipeE ρ0 h)).bind _ = _
  rw [h2]; rfl
/-- a loop that runs to its end, by what holds between the turns -/
theorem forL_inv {turn : D → En → Res (Fl × En)} (Pi : Nat → En → Prop) : ∀ (l : List D) (i : Nat) (ρ : En), Pi i ρ → (∀ j x ρ, l[j]? = some x → Pi (i + j) ρ → ∃ ρ', turn x ρ = .ok (.nxt, ρ') ∧ Pi (i + j + 1) ρ') → ∃ ρ', forL turn l ρ = .ok (.nxt, ρ') ∧ Pi (i + l.length) ρ'
  | [], i, ρ, h, _ => ⟨ρ, rfl, h⟩
  | x :: l, i, ρ, h, st => by
    obtain ⟨ρ1, e1, h1⟩ := st 0 x ρ rfl h
    obtain ⟨ρ2, e2, h2⟩ := forL_inv Pi l (i + 1) ρ1 h1 fun j y ρ hj hp => by
      have := st (j + 1) y ρ (by simpa using hj) (by rw [show i + (j + 1) = i + 1 + j by omega]; exact hp)
      rw [show i + (j + 1) + 1 = i + 1 + j + 1 by omega] at this
      exact this
    refine ⟨ρ2, ?_, by rw [List.length_cons, show i + (l.length + 1) = i + 1 + l.length by omega]; exact h2⟩
    rw [forL_cons, e1]; exact e2
theorem rngL_get {a b : Int} {j : Nat} {x : D} (h : (rngL a b)[j]? = some x) : x = .int (a + j) := by
  unfold rngL at h
  rw [List.getElem?_map] at h
  simp only [Option.map_eq_some_iff] at h
  obtain ⟨y, h1, h2⟩ := h
  rw [List.getElem?_range] at h1
  · cases h1; exact h2.symm
  · have := (List.getElem?_eq_some_iff.mp h1).1
    simpa using this
end Pv
end
section
namespace Pv.K04
open Pv PySem PySem.Spec PyProof.Rows
/-! the defs of the text, each read into the small language -/
def top (i : Nat) : Stmt := PySem.Challenge.pw_firstsapart_k04_fractions_in_lowest_term.main.body.getD i (.Pass ⟨0, 0, 0, 0⟩)
def F_fraction : Fn := ⟨["above", "below"], ["above", "below", "common"], [], [
  (.set 2 (.bi .gcd [(.var 0), (.var 1)])), (.ifs (.cmp .lt (.var 1) (.int 0)) [(.set 2 (.neg (.var 2)))] []), (.ret (.tup [(.bin .fdiv (.var 0) (.var 2)), (.bin .fdiv (.var 1) (.var 2))]))
  ]⟩
theorem tr_fraction : F_fraction = trFn F_fraction.ps (L2.defScope (top 4)) (L2.defBody (top 4)) := by kernel_rfl
theorem chk_fraction : chk F_fraction (L2.defScope (top 4)) = true := by decide +kernel
def F_plus : Fn := ⟨["first", "second"], ["first", "second"], [], [
  (.ret (.call "fraction" [(.bin .add (.bin .mul (.sub (.var 0) (.int 0)) (.sub (.var 1) (.int 1))) (.bin .mul (.sub (.var 1) (.int 0)) (.sub (.var 0) (.int 1)))), (.bin .mul (.sub (.var 0) (.int 1)) (.sub (.var 1) (.int 1)))]))
  ]⟩
theorem tr_plus : F_plus = trFn F_plus.ps (L2.defScope (top 5)) (L2.defBody (top 5)) := by kernel_rfl
theorem chk_plus : chk F_plus (L2.defScope (top 5)) = true := by decide +kernel
def F_minus : Fn := ⟨["first", "second"], ["first", "second"], [], [
  (.ret (.call "fraction" [(.bin .sub (.bin .mul (.sub (.var 0) (.int 0)) (.sub (.var 1) (.int 1))) (.bin .mul (.sub (.var 1) (.int 0)) (.sub (.var 0) (.int 1)))), (.bin .mul (.sub (.var 0) (.int 1)) (.sub (.var 1) (.int 1)))]))
  ]⟩
theorem tr_minus : F_minus = trFn F_minus.ps (L2.defScope (top 6)) (L2.defBody (top 6)) := by kernel_rfl
theorem chk_minus : chk F_minus (L2.defScope (top 6)) = true := by decide +kernel
def F_times : Fn := ⟨["first", "second"], ["first", "second"], [], [
  (.ret (.call "fraction" [(.bin .mul (.sub (.var 0) (.int 0)) (.sub (.var 1) (.int 0))), (.bin .mul (.sub (.var 0) (.int 1)) (.sub (.var 1) (.int 1)))]))
  ]⟩
theorem tr_times : F_times = trFn F_times.ps (L2.defScope (top 7)) (L2.defBody (top 7)) := by kernel_rfl
theorem chk_times : chk F_times (L2.defScope (top 7)) = true := by decide +kernel
def F_over : Fn := ⟨["first", "second"], ["first", "second"], [], [
  (.ret (.call "fraction" [(.bin .mul (.sub (.var 0) (.int 0)) (.sub (.var 1) (.int 1))), (.bin .mul (.sub (.var 0) (.int 1)) (.sub (.var 1) (.int 0)))]))
  ]⟩
theorem tr_over : F_over = trFn F_over.ps (L2.defScope (top 8)) (L2.defBody (top 8)) := by kernel_rfl
theorem chk_over : chk F_over (L2.defScope (top 8)) = true := by decide +kernel
def F_is_less : Fn := ⟨["first", "second"], ["first", "second"], [], [
  (.ret (.cmp .lt (.bin .mul (.sub (.var 0) (.int 0)) (.sub (.var 1) (.int 1))) (.bin .mul (.sub (.var 1) (.int 0)) (.sub (.var 0) (.int 1)))))
  ]⟩
theorem tr_is_less : F_is_less = trFn F_is_less.ps (L2.defScope (top 9)) (L2.defBody (top 9)) := by kernel_rfl
theorem chk_is_less : chk F_is_less (L2.defScope (top 9)) = true := by decide +kernel
def F_sign_of : Fn := ⟨["one"], ["one"], [], [
  (.ifs (.cmp .gt (.sub (.var 0) (.int 0)) (.int 0)) [(.ret (.int 1))] []), (.ifs (.cmp .lt (.sub (.var 0) (.int 0)) (.int 0)) [(.ret (.neg (.int 1)))] []), (.ret (.int 0))
  ]⟩
theorem tr_sign_of : F_sign_of = trFn F_sign_of.ps (L2.defScope (top 10)) (L2.defBody (top 10)) := by kernel_rfl
theorem chk_sign_of : chk F_sign_of (L2.defScope (top 10)) = true := by decide +kernel
def F_total : Fn := ⟨["fractions"], ["fractions", "found", "one"], [], [
  (.set 1 (.glo "NOUGHT")), (.fo (.one 2) (.hid 0) [(.set 1 (.call "plus" [(.var 1), (.var 2)]))]), (.retv 1)
  ]⟩
theorem tr_total : F_total = trFn F_total.ps (L2.defScope (top 11)) (L2.defBody (top 11)) := by kernel_rfl
theorem chk_total : chk F_total (L2.defScope (top 11)) = true := by decide +kernel
def F_product : Fn := ⟨["fractions"], ["fractions", "found", "one"], [], [
  (.set 1 (.glo "WHOLE")), (.fo (.one 2) (.hid 0) [(.set 1 (.call "times" [(.var 1), (.var 2)]))]), (.retv 1)
  ]⟩
theorem tr_product : F_product = trFn F_product.ps (L2.defScope (top 12)) (L2.defBody (top 12)) := by kernel_rfl
theorem chk_product : chk F_product (L2.defScope (top 12)) = true := by decide +kernel
def F_raised : Fn := ⟨["one", "exponent"], ["one", "exponent", "found", "turn"], [], [
  (.set 2 (.glo "WHOLE")), (.fo (.one 3) (.rng [(.var 1)]) [(.set 2 (.call "times" [(.var 2), (.var 0)]))]), (.retv 2)
  ]⟩
theorem tr_raised : F_raised = trFn F_raised.ps (L2.defScope (top 13)) (L2.defBody (top 13)) := by kernel_rfl
theorem chk_raised : chk F_raised (L2.defScope (top 13)) = true := by decide +kernel
def F_is_fraction : Fn := ⟨["value"], ["value", "one"], [], [
  (.ifs (.or (.not (.tru (.bi (.isi ["tuple"]) [(.var 0)]))) (.cmp .ne (.bi .len [(.var 0)]) (.int 2))) [(.ret (.bl false))] []), (.ifs (.tru (.bi .any [(.lc [1] (.one 1) (.hid 0) none (.or (.bi (.isi ["bool"]) [(.var 1)]) (.not (.tru (.bi (.isi ["int"]) [(.var 1)])))))])) [(.ret (.bl false))] []), (.ret (.and (.cmp .gt (.sub (.var 0) (.int 1)) (.int 0)) (.cmp .eq (.bi .gcd [(.sub (.var 0) (.int 0)), (.sub (.var 0) (.int 1))]) (.int 1))))
  ]⟩
theorem tr_is_fraction : F_is_fraction = trFn F_is_fraction.ps (L2.defScope (top 14)) (L2.defBody (top 14)) := by kernel_rfl
theorem chk_is_fraction : chk F_is_fraction (L2.defScope (top 14)) = true := by decide +kernel
def F__law_deck : Fn := ⟨["script", "cells", "each"], ["script", "cells", "each", "deck", "seed", "k", "cell", "rest", "at"], [], [
  (.set 3 (.lst [])), (.set 4 (.bin .add (.int 19) (.bi .len [(.var 0)]))), (.fo (.one 5) (.rng [(.var 1)]) [(.set 6 (.int 0)), (.ifs (.cmp .lt (.var 5) (.bi .len [(.var 0)])) [(.set 6 (.sub (.var 0) (.var 5)))] []), (.set 7 (.bi .abs [(.var 6)])), (.ifs (.cmp .ge (.var 7) (.bin .pow (.int 10) (.int 30))) [(.fo (.one 8) (.rng [(.var 2)]) [(.exp (.mut 3 .append [(.bin .mod (.bi .int [(.var 7)]) (.int 1000003))])), (.set 7 (.bin .fdiv (.var 7) (.int 1000003)))])] [(.set 4 (.bin .mod (.bi .int [(.bin .add (.bin .add (.bin .add (.bin .mul (.var 4) (.int 48271)) (.bin .mul (.int 5) (.var 7))) (.bin .mul (.int 2) (.bi .int [(.cmp .lt (.var 6) (.int 0))]))) (.var 5))]) (.int 2147483647))), (.fo (.one 8) (.rng [(.var 2)]) [(.set 4 (.bin .mod (.bi .int [(.bin .add (.bin .add (.bin .mul (.var 4) (.int 69621)) (.var 8)) (.int 3))]) (.int 2147483629))), (.exp (.mut 3 .append [(.bin .mod (.bi .int [(.bin .fdiv (.var 4) (.int 11))]) (.int 1000003))]))])])]), (.exp (.mut 3 .reverse [])), (.retv 3)
  ]⟩
theorem tr__law_deck : F__law_deck = trFn F__law_deck.ps (L2.defScope (top 16)) (L2.defBody (top 16)) := by kernel_rfl
theorem chk__law_deck : chk F__law_deck (L2.defScope (top 16)) = true := by decide +kernel
def F__law_take : Fn := ⟨["deck", "many"], ["deck", "many"], [], [
  (.ifs (.cmp .eq (.bi .len [(.var 0)]) (.int 0)) [(.ret (.int 0))] []), (.ret (.bin .mod (.bi .int [(.mut 0 .pop [])]) (.var 1)))
  ]⟩
theorem tr__law_take : F__law_take = trFn F__law_take.ps (L2.defScope (top 17)) (L2.defBody (top 17)) := by kernel_rfl
theorem chk__law_take : chk F__law_take (L2.defScope (top 17)) = true := by decide +kernel
def F__law_plain : Fn := ⟨["value"], ["value", "item", "key"], [], [
  (.ifs (.tru (.bi (.isi ["tuple", "list"]) [(.var 0)])) [(.ret (.bin .add (.lst [(.bi (.isi ["list"]) [(.var 0)])]) (.lc [1] (.one 1) (.hid 0) none (.call "_law_plain" [(.var 1)]))))] []), (.ifs (.tru (.bi (.isi ["dict"]) [(.var 0)])) [(.ret (.lst [(.lst [(.str "dictionary")]), (.lc [2] (.one 2) (.seq (.var 0)) none (.lst [(.call "_law_plain" [(.var 2)]), (.call "_law_plain" [(.sub (.var 0) (.var 2))])]))]))] []), (.ifs (.or (.cmp .is (.var 0) .non) (.tru (.bi (.isi ["bool"]) [(.var 0)]))) [(.ret (.sub (.lst [(.str "None"), (.str "False"), (.str "True")]) (.bin .add (.bi .int [(.cmp .isnot (.var 0) .non)]) (.bi .int [(.cmp .is (.var 0) (.bl true))]))))] []), (.ifs (.tru (.bi (.isi ["int", "str"]) [(.var 0)])) [(.ret (.lst [(.bi (.isi ["str"]) [(.var 0)]), (.var 0)]))] []), (.ret (.str "another"))
  ]⟩
theorem tr__law_plain : F__law_plain = trFn F__law_plain.ps (L2.defScope (top 18)) (L2.defBody (top 18)) := by kernel_rfl
theorem chk__law_plain : chk F__law_plain (L2.defScope (top 18)) = true := by decide +kernel
def F__law_same : Fn := ⟨["told", "due"], ["told", "due"], [], [
  (.ret (.cmp .eq (.call "_law_plain" [(.var 0)]) (.call "_law_plain" [(.var 1)])))
  ]⟩
theorem tr__law_same : F__law_same = trFn F__law_same.ps (L2.defScope (top 19)) (L2.defBody (top 19)) := by kernel_rfl
theorem chk__law_same : chk F__law_same (L2.defScope (top 19)) = true := by decide +kernel
def F__law_divisor : Fn := ⟨["one", "other"], ["one", "other", "left", "right", "turn"], [], [
  (.set 2 (.bi .abs [(.var 0)])), (.set 3 (.bi .abs [(.var 1)])), (.fo (.one 4) (.rng [(.int 20000)]) [(.ifs (.cmp .eq (.var 3) (.int 0)) [(.retv 2)] []), (.par [2, 3] [(.var 3), (.bin .mod (.bi .int [(.var 2)]) (.var 3))])]), (.retv 2)
  ]⟩
theorem tr__law_divisor : F__law_divisor = trFn F__law_divisor.ps (L2.defScope (top 20)) (L2.defBody (top 20)) := by kernel_rfl
theorem chk__law_divisor : chk F__law_divisor (L2.defScope (top 20)) = true := by decide +kernel
def F__law_fraction : Fn := ⟨["above", "below"], ["above", "below", "common"], [], [
  (.set 2 (.call "_law_divisor" [(.var 0), (.var 1)])), (.ifs (.cmp .lt (.var 1) (.int 0)) [(.set 2 (.bin .sub (.int 0) (.var 2)))] []), (.ret (.tup [(.bin .fdiv (.var 0) (.var 2)), (.bin .fdiv (.var 1) (.var 2))]))
  ]⟩
theorem tr__law_fraction : F__law_fraction = trFn F__law_fraction.ps (L2.defScope (top 21)) (L2.defBody (top 21)) := by kernel_rfl
theorem chk__law_fraction : chk F__law_fraction (L2.defScope (top 21)) = true := by decide +kernel
def F__law_plus : Fn := ⟨["one", "two"], ["one", "two"], [], [
  (.ret (.call "_law_fraction" [(.bin .add (.bin .mul (.sub (.var 0) (.int 0)) (.sub (.var 1) (.int 1))) (.bin .mul (.sub (.var 1) (.int 0)) (.sub (.var 0) (.int 1)))), (.bin .mul (.sub (.var 0) (.int 1)) (.sub (.var 1) (.int 1)))]))
  ]⟩
theorem tr__law_plus : F__law_plus = trFn F__law_plus.ps (L2.defScope (top 22)) (L2.defBody (top 22)) := by kernel_rfl
theorem chk__law_plus : chk F__law_plus (L2.defScope (top 22)) = true := by decide +kernel
def F__law_times : Fn := ⟨["one", "two"], ["one", "two"], [], [
  (.ret (.call "_law_fraction" [(.bin .mul (.sub (.var 0) (.int 0)) (.sub (.var 1) (.int 0))), (.bin .mul (.sub (.var 0) (.int 1)) (.sub (.var 1) (.int 1)))]))
  ]⟩
theorem tr__law_times : F__law_times = trFn F__law_times.ps (L2.defScope (top 23)) (L2.defBody (top 23)) := by kernel_rfl
theorem chk__law_times : chk F__law_times (L2.defScope (top 23)) = true := by decide +kernel
def F__law_sum : Fn := ⟨["fractions"], ["fractions", "found", "one"], [], [
  (.set 1 (.tup [(.int 0), (.int 1)])), (.fo (.one 2) (.hid 0) [(.set 1 (.call "_law_plus" [(.var 1), (.var 2)]))]), (.retv 1)
  ]⟩
theorem tr__law_sum : F__law_sum = trFn F__law_sum.ps (L2.defScope (top 24)) (L2.defBody (top 24)) := by kernel_rfl
theorem chk__law_sum : chk F__law_sum (L2.defScope (top 24)) = true := by decide +kernel
def F__law_number : Fn := ⟨["deck"], ["deck", "way", "number"], [], [
  (.set 1 (.call "_law_take" [(.var 0), (.int 4)])), (.set 2 (.call "_law_take" [(.var 0), (.sub (.lst [(.int 5), (.int 100), (.int 1000003), (.int 1000003)]) (.var 1))])), (.ifs (.cmp .eq (.var 1) (.int 3)) [(.set 2 (.bin .add (.bin .mul (.var 2) (.bin .pow (.int 10) (.int 25))) (.int 7)))] []), (.ret (.bin .mul (.var 2) (.bin .sub (.int 1) (.bin .mul (.int 2) (.call "_law_take" [(.var 0), (.int 2)])))))
  ]⟩
theorem tr__law_number : F__law_number = trFn F__law_number.ps (L2.defScope (top 25)) (L2.defBody (top 25)) := by kernel_rfl
theorem chk__law_number : chk F__law_number (L2.defScope (top 25)) = true := by decide +kernel
def F__law_lowest : Fn := ⟨["one", "above", "below"], ["one", "above", "below"], [], [
  (.ifs (.or (.not (.tru (.bi (.isi ["tuple"]) [(.var 0)]))) (.or (.cmp .ne (.bi .len [(.var 0)]) (.int 2)) (.not (.tru (.call "_law_same" [(.call "is_fraction" [(.var 0)]), (.bl true)]))))) [(.ret (.bl false))] []), (.ret (.and (.cmp .eq (.bin .mul (.sub (.var 0) (.int 0)) (.var 2)) (.bin .mul (.sub (.var 0) (.int 1)) (.var 1))) (.and (.cmp .gt (.sub (.var 0) (.int 1)) (.int 0)) (.cmp .eq (.call "_law_divisor" [(.sub (.var 0) (.int 0)), (.sub (.var 0) (.int 1))]) (.int 1)))))
  ]⟩
theorem tr__law_lowest : F__law_lowest = trFn F__law_lowest.ps (L2.defScope (top 26)) (L2.defBody (top 26)) := by kernel_rfl
theorem chk__law_lowest : chk F__law_lowest (L2.defScope (top 26)) = true := by decide +kernel
def F_law : Fn := ⟨["script"], ["script", "deck", "a", "b", "c", "d", "one", "two", "rows", "exponent", "above", "below", "turn", "told", "sign", "many", "product_due", "item", "bad", "value"], [], [
  (.set 1 (.call "_law_deck" [(.var 0), (.int 14), (.int 14)])), (.set 2 (.call "_law_number" [(.var 1)])), (.set 3 (.bin .add (.bin .mul (.call "_law_number" [(.var 1)]) (.int 2)) (.int 1))), (.set 4 (.call "_law_number" [(.var 1)])), (.set 5 (.bin .add (.bin .mul (.call "_law_number" [(.var 1)]) (.int 2)) (.int 1))), (.set 6 (.call "fraction" [(.var 2), (.var 3)])), (.set 7 (.call "fraction" [(.var 4), (.var 5)])), (.ifs (.or (.not (.tru (.call "_law_lowest" [(.var 6), (.var 2), (.var 3)]))) (.not (.tru (.call "_law_lowest" [(.var 7), (.var 4), (.var 5)])))) [(.ret (.bl false))] []), (.set 8 (.lst [(.lst [(.call "plus" [(.var 6), (.var 7)]), (.bin .add (.bin .mul (.var 2) (.var 5)) (.bin .mul (.var 4) (.var 3))), (.bin .mul (.var 3) (.var 5))]), (.lst [(.call "minus" [(.var 6), (.var 7)]), (.bin .sub (.bin .mul (.var 2) (.var 5)) (.bin .mul (.var 4) (.var 3))), (.bin .mul (.var 3) (.var 5))]), (.lst [(.call "times" [(.var 6), (.var 7)]), (.bin .mul (.var 2) (.var 4)), (.bin .mul (.var 3) (.var 5))])])), (.ifs (.cmp .ne (.var 4) (.int 0)) [(.exp (.mut 8 .append [(.lst [(.call "over" [(.var 6), (.var 7)]), (.bin .mul (.var 2) (.var 5)), (.bin .mul (.var 3) (.var 4))])]))] []), (.set 9 (.call "_law_take" [(.var 1), (.int 6)])), (.set 10 (.int 1)), (.set 11 (.int 1)), (.fo (.one 12) (.rng [(.var 9)]) [(.set 10 (.bin .mul (.var 10) (.var 2))), (.set 11 (.bin .mul (.var 11) (.var 3)))]), (.exp (.mut 8 .append [(.lst [(.call "raised" [(.var 6), (.var 9)]), (.var 10), (.var 11)])])), (.fo (.tup [13, 10, 11]) (.hid 8) [(.ifs (.not (.tru (.call "_law_lowest" [(.var 13), (.var 10), (.var 11)]))) [(.ret (.bl false))] [])]), (.set 14 (.ite (.cmp .gt (.sub (.var 6) (.int 0)) (.int 0)) (.int 1) (.ite (.cmp .lt (.sub (.var 6) (.int 0)) (.int 0)) (.neg (.int 1)) (.int 0)))), (.set 13 (.lst [(.call "is_less" [(.var 6), (.var 7)]), (.call "is_less" [(.var 7), (.var 6)]), (.call "is_less" [(.var 6), (.var 6)]), (.call "sign_of" [(.var 6)])])), (.ifs (.not (.tru (.call "_law_same" [(.var 13), (.lst [(.cmp .lt (.bin .mul (.sub (.var 6) (.int 0)) (.sub (.var 7) (.int 1))) (.bin .mul (.sub (.var 7) (.int 0)) (.sub (.var 6) (.int 1)))), (.cmp .lt (.bin .mul (.sub (.var 7) (.int 0)) (.sub (.var 6) (.int 1))) (.bin .mul (.sub (.var 6) (.int 0)) (.sub (.var 7) (.int 1)))), (.bl false), (.var 14)])]))) [(.ret (.bl false))] []), (.set 15 (.lc [12] (.one 12) (.rng [(.call "_law_take" [(.var 1), (.int 10)])]) none (.call "_law_fraction" [(.bin .sub (.call "_law_take" [(.var 1), (.int 20)]) (.int 9)), (.bin .add (.int 1) (.call "_law_take" [(.var 1), (.int 9)]))]))), (.set 16 (.tup [(.int 1), (.int 1)])), (.fo (.one 17) (.hid 15) [(.set 16 (.call "_law_times" [(.var 16), (.var 17)]))]), (.ifs (.not (.tru (.call "_law_same" [(.lst [(.call "total" [(.bi .list [(.var 15)])]), (.call "product" [(.bi .tuple [(.var 15)])])]), (.lst [(.call "_law_sum" [(.var 15)]), (.var 16)])]))) [(.ret (.bl false))] []), (.set 18 (.lst [(.tup [(.int 2), (.int 4)]), (.tup [(.int 1), (.neg (.int 2))]), (.tup [(.int 0), (.int 2)]), (.tup [(.int 1), (.int 0)]), (.lst [(.int 1), (.int 2)]), (.tup [(.bl true), (.int 2)]), (.tup [(.int 1), (.bl true)]), (.tup [(.int 1), (.int 2), (.int 3)]), (.int 5), (.str "1/2"), .non, (.tup [(.str "1"), (.int 2)]), (.tup [(.int 1), (.str "2")])])), (.ret (.and (.cmp .eq (.bi .len [(.lc [19] (.one 19) (.hid 18) (some (.cmp .isnot (.call "is_fraction" [(.var 19)]) (.bl false))) (.int 1))]) (.int 0)) (.cmp .is (.call "is_fraction" [(.tup [(.int 0), (.int 1)])]) (.bl true))))
  ]⟩
theorem tr_law : F_law = trFn F_law.ps (L2.defScope (top 27)) (L2.defBody (top 27)) := by kernel_rfl
theorem chk_law : chk F_law (L2.defScope (top 27)) = true := by decide +kernel
def fns : List (Str × Fn) := [("fraction", F_fraction), ("plus", F_plus), ("minus", F_minus), ("times", F_times), ("over", F_over), ("is_less", F_is_less), ("sign_of", F_sign_of), ("total", F_total), ("product", F_product), ("raised", F_raised), ("is_fraction", F_is_fraction), ("_law_deck", F__law_deck), ("_law_take", F__law_take), ("_law_plain", F__law_plain), ("_law_same", F__law_same), ("_law_divisor", F__law_divisor), ("_law_fraction", F__law_fraction), ("_law_plus", F__law_plus), ("_law_times", F__law_times), ("_law_sum", F__law_sum), ("_law_number", F__law_number), ("_law_lowest", F__law_lowest), ("law", F_law)]
def glos : List (Str × D) := [("NOUGHT", .tuple [.int 0, .int 1]), ("WHOLE", .tuple [.int 1, .int 1])]
def G : Prog := ⟨fun x => fns.lookup x, fun x => glos.lookup x, fun _ => none, true⟩
theorem all_mk {P : Program} {wd : World} {K : Frag} {h : Heap} {mg : Str → Option Value} {fa : Addr} {k : Nat} (X : K.In h) (Gm : h.Ns mainGlobals mg) (hfa : mg "law" = some (.ref fa))
    (hp : ∀ ns : List Int, ns.length ≤ 63 → ∃ outs, (tbl G 100000 (k + 1)).call "law" [.val (.list (ns.map .int))] = .ok (.val (.bool true), outs))
    {oc4 kV4 dc4 pm4 cd4 ct4 : Value} {od4 an4 : Option Addr} {sl4 : Array (Option Value)} {f4 : Addr}
    (a4 : PySem.W.nsIn K mainGlobals "fraction" = some (some (.ref f4))) (l4 : K.lookup f4 = some ⟨oc4, od4, .func (PySem.W.fnOf "fraction" "fraction" (L2.defArgs (top 4)) (L2.defBody (top 4)) (L2.defScope (top 4)) .none kV4 dc4 pm4 an4 cd4 ct4), sl4⟩) (c4 : PySem.W.codeIn K cd4 "fraction" = true) (k4 : PySem.W.keepIn K (.ref f4) = true)
    {oc5 kV5 dc5 pm5 cd5 ct5 : Value} {od5 an5 : Option Addr} {sl5 : Array (Option Value)} {f5 : Addr}
    (a5 : PySem.W.nsIn K mainGlobals "plus" = some (some (.ref f5))) (l5 : K.lookup f5 = some ⟨oc5, od5, .func (PySem.W.fnOf "plus" "plus" (L2.defArgs (top 5)) (L2.defBody (top 5)) (L2.defScope (top 5)) .none kV5 dc5 pm5 an5 cd5 ct5), sl5⟩) (c5 : PySem.W.codeIn K cd5 "plus" = true) (k5 : PySem.W.keepIn K (.ref f5) = true)
    {oc6 kV6 dc6 pm6 cd6 ct6 : Value} {od6 an6 : Option Addr} {sl6 : Array (Option Value)} {f6 : Addr}
    (a6 : PySem.W.nsIn K mainGlobals "minus" = some (some (.ref f6))) (l6 : K.lookup f6 = some ⟨oc6, od6, .func (PySem.W.fnOf "minus" "minus" (L2.defArgs (top 6)) (L2.defBody (top 6)) (L2.defScope (top 6)) .none kV6 dc6 pm6 an6 cd6 ct6), sl6⟩) (c6 : PySem.W.codeIn K cd6 "minus" = true) (k6 : PySem.W.keepIn K (.ref f6) = true)
    {oc7 kV7 dc7 pm7 cd7 ct7 : Value} {od7 an7 : Option Addr} {sl7 : Array (Option Value)} {f7 : Addr}
    (a7 : PySem.W.nsIn K mainGlobals "times" = some (some (.ref f7))) (l7 : K.lookup f7 = some ⟨oc7, od7, .func (PySem.W.fnOf "times" "times" (L2.defArgs (top 7)) (L2.defBody (top 7)) (L2.defScope (top 7)) .none kV7 dc7 pm7 an7 cd7 ct7), sl7⟩) (c7 : PySem.W.codeIn K cd7 "times" = true) (k7 : PySem.W.keepIn K (.ref f7) = true)
    {oc8 kV8 dc8 pm8 cd8 ct8 : Value} {od8 an8 : Option Addr} {sl8 : Array (Option Value)} {f8 : Addr}
    (a8 : PySem.W.nsIn K mainGlobals "over" = some (some (.ref f8))) (l8 : K.lookup f8 = some ⟨oc8, od8, .func (PySem.W.fnOf "over" "over" (L2.defArgs (top 8)) (L2.defBody (top 8)) (L2.defScope (top 8)) .none kV8 dc8 pm8 an8 cd8 ct8), sl8⟩) (c8 : PySem.W.codeIn K cd8 "over" = true) (k8 : PySem.W.keepIn K (.ref f8) = true)
    {oc9 kV9 dc9 pm9 cd9 ct9 : Value} {od9 an9 : Option Addr} {sl9 : Array (Option Value)} {f9 : Addr}
    (a9 : PySem.W.nsIn K mainGlobals "is_less" = some (some (.ref f9))) (l9 : K.lookup f9 = some ⟨oc9, od9, .func (PySem.W.fnOf "is_less" "is_less" (L2.defArgs (top 9)) (L2.defBody (top 9)) (L2.defScope (top 9)) .none kV9 dc9 pm9 an9 cd9 ct9), sl9⟩) (c9 : PySem.W.codeIn K cd9 "is_less" = true) (k9 : PySem.W.keepIn K (.ref f9) = true)
    {oc10 kV10 dc10 pm10 cd10 ct10 : Value} {od10 an10 : Option Addr} {sl10 : Array (Option Value)} {f10 : Addr}
    (a10 : PySem.W.nsIn K mainGlobals "sign_of" = some (some (.ref f10))) (l10 : K.lookup f10 = some ⟨oc10, od10, .func (PySem.W.fnOf "sign_of" "sign_of" (L2.defArgs (top 10)) (L2.defBody (top 10)) (L2.defScope (top 10)) .none kV10 dc10 pm10 an10 cd10 ct10), sl10⟩) (c10 : PySem.W.codeIn K cd10 "sign_of" = true) (k10 : PySem.W.keepIn K (.ref f10) = true)
    {oc11 kV11 dc11 pm11 cd11 ct11 : Value} {od11 an11 : Option Addr} {sl11 : Array (Option Value)} {f11 : Addr}
    (a11 : PySem.W.nsIn K mainGlobals "total" = some (some (.ref f11))) (l11 : K.lookup f11 = some ⟨oc11, od11, .func (PySem.W.fnOf "total" "total" (L2.defArgs (top 11)) (L2.defBody (top 11)) (L2.defScope (top 11)) .none kV11 dc11 pm11 an11 cd11 ct11), sl11⟩) (c11 : PySem.W.codeIn K cd11 "total" = true) (k11 : PySem.W.keepIn K (.ref f11) = true)
    {oc12 kV12 dc12 pm12 cd12 ct12 : Value} {od12 an12 : Option Addr} {sl12 : Array (Option Value)} {f12 : Addr}
    (a12 : PySem.W.nsIn K mainGlobals "product" = some (some (.ref f12))) (l12 : K.lookup f12 = some ⟨oc12, od12, .func (PySem.W.fnOf "product" "product" (L2.defArgs (top 12)) (L2.defBody (top 12)) (L2.defScope (top 12)) .none kV12 dc12 pm12 an12 cd12 ct12), sl12⟩) (c12 : PySem.W.codeIn K cd12 "product" = true) (k12 : PySem.W.keepIn K (.ref f12) = true)
    {oc13 kV13 dc13 pm13 cd13 ct13 : Value} {od13 an13 : Option Addr} {sl13 : Array (Option Value)} {f13 : Addr}
    (a13 : PySem.W.nsIn K mainGlobals "raised" = some (some (.ref f13))) (l13 : K.lookup f13 = some ⟨oc13, od13, .func (PySem.W.fnOf "raised" "raised" (L2.defArgs (top 13)) (L2.defBody (top 13)) (L2.defScope (top 13)) .none kV13 dc13 pm13 an13 cd13 ct13), sl13⟩) (c13 : PySem.W.codeIn K cd13 "raised" = true) (k13 : PySem.W.keepIn K (.ref f13) = true)
    {oc14 kV14 dc14 pm14 cd14 ct14 : Value} {od14 an14 : Option Addr} {sl14 : Array (Option Value)} {f14 : Addr}
    (a14 : PySem.W.nsIn K mainGlobals "is_fraction" = some (some (.ref f14))) (l14 : K.lookup f14 = some ⟨oc14, od14, .func (PySem.W.fnOf "is_fraction" "is_fraction" (L2.defArgs (top 14)) (L2.defBody (top 14)) (L2.defScope (top 14)) .none kV14 dc14 pm14 an14 cd14 ct14), sl14⟩) (c14 : PySem.W.codeIn K cd14 "is_fraction" = true) (k14 : PySem.W.keepIn K (.ref f14) = true)
    {oc16 kV16 dc16 pm16 cd16 ct16 : Value} {od16 an16 : Option Addr} {sl16 : Array (Option Value)} {f16 : Addr}
    (a16 : PySem.W.nsIn K mainGlobals "_law_deck" = some (some (.ref f16))) (l16 : K.lookup f16 = some ⟨oc16, od16, .func (PySem.W.fnOf "_law_deck" "_law_deck" (L2.defArgs (top 16)) (L2.defBody (top 16)) (L2.defScope (top 16)) .none kV16 dc16 pm16 an16 cd16 ct16), sl16⟩) (c16 : PySem.W.codeIn K cd16 "_law_deck" = true) (k16 : PySem.W.keepIn K (.ref f16) = true)
    {oc17 kV17 dc17 pm17 cd17 ct17 : Value} {od17 an17 : Option Addr} {sl17 : Array (Option Value)} {f17 : Addr}
    (a17 : PySem.W.nsIn K mainGlobals "_law_take" = some (some (.ref f17))) (l17 : K.lookup f17 = some ⟨oc17, od17, .func (PySem.W.fnOf "_law_take" "_law_take" (L2.defArgs (top 17)) (L2.defBody (top 17)) (L2.defScope (top 17)) .none kV17 dc17 pm17 an17 cd17 ct17), sl17⟩) (c17 : PySem.W.codeIn K cd17 "_law_take" = true) (k17 : PySem.W.keepIn K (.ref f17) = true)
    {oc18 kV18 dc18 pm18 cd18 ct18 : Value} {od18 an18 : Option Addr} {sl18 : Array (Option Value)} {f18 : Addr}
    (a18 : PySem.W.nsIn K mainGlobals "_law_plain" = some (some (.ref f18))) (l18 : K.lookup f18 = some ⟨oc18, od18, .func (PySem.W.fnOf "_law_plain" "_law_plain" (L2.defArgs (top 18)) (L2.defBody (top 18)) (L2.defScope (top 18)) .none kV18 dc18 pm18 an18 cd18 ct18), sl18⟩) (c18 : PySem.W.codeIn K cd18 "_law_plain" = true) (k18 : PySem.W.keepIn K (.ref f18) = true)
    {oc19 kV19 dc19 pm19 cd19 ct19 : Value} {od19 an19 : Option Addr} {sl19 : Array (Option Value)} {f19 : Addr}
    (a19 : PySem.W.nsIn K mainGlobals "_law_same" = some (some (.ref f19))) (l19 : K.lookup f19 = some ⟨oc19, od19, .func (PySem.W.fnOf "_law_same" "_law_same" (L2.defArgs (top 19)) (L2.defBody (top 19)) (L2.defScope (top 19)) .none kV19 dc19 pm19 an19 cd19 ct19), sl19⟩) (c19 : PySem.W.codeIn K cd19 "_law_same" = true) (k19 : PySem.W.keepIn K (.ref f19) = true)
    {oc20 kV20 dc20 pm20 cd20 ct20 : Value} {od20 an20 : Option Addr} {sl20 : Array (Option Value)} {f20 : Addr}
    (a20 : PySem.W.nsIn K mainGlobals "_law_divisor" = some (some (.ref f20))) (l20 : K.lookup f20 = some ⟨oc20, od20, .func (PySem.W.fnOf "_law_divisor" "_law_divisor" (L2.defArgs (top 20)) (L2.defBody (top 20)) (L2.defScope (top 20)) .none kV20 dc20 pm20 an20 cd20 ct20), sl20⟩) (c20 : PySem.W.codeIn K cd20 "_law_divisor" = true) (k20 : PySem.W.keepIn K (.ref f20) = true)
    {oc21 kV21 dc21 pm21 cd21 ct21 : Value} {od21 an21 : Option Addr} {sl21 : Array (Option Value)} {f21 : Addr}
    (a21 : PySem.W.nsIn K mainGlobals "_law_fraction" = some (some (.ref f21))) (l21 : K.lookup f21 = some ⟨oc21, od21, .func (PySem.W.fnOf "_law_fraction" "_law_fraction" (L2.defArgs (top 21)) (L2.defBody (top 21)) (L2.defScope (top 21)) .none kV21 dc21 pm21 an21 cd21 ct21), sl21⟩) (c21 : PySem.W.codeIn K cd21 "_law_fraction" = true) (k21 : PySem.W.keepIn K (.ref f21) = true)
    {oc22 kV22 dc22 pm22 cd22 ct22 : Value} {od22 an22 : Option Addr} {sl22 : Array (Option Value)} {f22 : Addr}
    (a22 : PySem.W.nsIn K mainGlobals "_law_plus" = some (some (.ref f22))) (l22 : K.lookup f22 = some ⟨oc22, od22, .func (PySem.W.fnOf "_law_plus" "_law_plus" (L2.defArgs (top 22)) (L2.defBody (top 22)) (L2.defScope (top 22)) .none kV22 dc22 pm22 an22 cd22 ct22), sl22⟩) (c22 : PySem.W.codeIn K cd22 "_law_plus" = true) (k22 : PySem.W.keepIn K (.ref f22) = true)
    {oc23 kV23 dc23 pm23 cd23 ct23 : Value} {od23 an23 : Option Addr} {sl23 : Array (Option Value)} {f23 : Addr}
    (a23 : PySem.W.nsIn K mainGlobals "_law_times" = some (some (.ref f23))) (l23 : K.lookup f23 = some ⟨oc23, od23, .func (PySem.W.fnOf "_law_times" "_law_times" (L2.defArgs (top 23)) (L2.defBody (top 23)) (L2.defScope (top 23)) .none kV23 dc23 pm23 an23 cd23 ct23), sl23⟩) (c23 : PySem.W.codeIn K cd23 "_law_times" = true) (k23 : PySem.W.keepIn K (.ref f23) = true)
    {oc24 kV24 dc24 pm24 cd24 ct24 : Value} {od24 an24 : Option Addr} {sl24 : Array (Option Value)} {f24 : Addr}
    (a24 : PySem.W.nsIn K mainGlobals "_law_sum" = some (some (.ref f24))) (l24 : K.lookup f24 = some ⟨oc24, od24, .func (PySem.W.fnOf "_law_sum" "_law_sum" (L2.defArgs (top 24)) (L2.defBody (top 24)) (L2.defScope (top 24)) .none kV24 dc24 pm24 an24 cd24 ct24), sl24⟩) (c24 : PySem.W.codeIn K cd24 "_law_sum" = true) (k24 : PySem.W.keepIn K (.ref f24) = true)
    {oc25 kV25 dc25 pm25 cd25 ct25 : Value} {od25 an25 : Option Addr} {sl25 : Array (Option Value)} {f25 : Addr}
    (a25 : PySem.W.nsIn K mainGlobals "_law_number" = some (some (.ref f25))) (l25 : K.lookup f25 = some ⟨oc25, od25, .func (PySem.W.fnOf "_law_number" "_law_number" (L2.defArgs (top 25)) (L2.defBody (top 25)) (L2.defScope (top 25)) .none kV25 dc25 pm25 an25 cd25 ct25), sl25⟩) (c25 : PySem.W.codeIn K cd25 "_law_number" = true) (k25 : PySem.W.keepIn K (.ref f25) = true)
    {oc26 kV26 dc26 pm26 cd26 ct26 : Value} {od26 an26 : Option Addr} {sl26 : Array (Option Value)} {f26 : Addr}
    (a26 : PySem.W.nsIn K mainGlobals "_law_lowest" = some (some (.ref f26))) (l26 : K.lookup f26 = some ⟨oc26, od26, .func (PySem.W.fnOf "_law_lowest" "_law_lowest" (L2.defArgs (top 26)) (L2.defBody (top 26)) (L2.defScope (top 26)) .none kV26 dc26 pm26 an26 cd26 ct26), sl26⟩) (c26 : PySem.W.codeIn K cd26 "_law_lowest" = true) (k26 : PySem.W.keepIn K (.ref f26) = true)
    {oc27 kV27 dc27 pm27 cd27 ct27 : Value} {od27 an27 : Option Addr} {sl27 : Array (Option Value)} {f27 : Addr}
    (a27 : PySem.W.nsIn K mainGlobals "law" = some (some (.ref f27))) (l27 : K.lookup f27 = some ⟨oc27, od27, .func (PySem.W.fnOf "law" "law" (L2.defArgs (top 27)) (L2.defBody (top 27)) (L2.defScope (top 27)) .none kV27 dc27 pm27 an27 cd27 ct27), sl27⟩) (c27 : PySem.W.codeIn K cd27 "law" = true) (k27 : PySem.W.keepIn K (.ref f27) = true)
    {gNOUGHT : Addr} {hNOUGHT : Option Addr} {nNOUGHT : Nat} {sNOUGHT : Array (Option Value)} {tNOUGHT0 tNOUGHT1 : Tok}
    (aNOUGHT : PySem.W.nsIn K mainGlobals "NOUGHT" = some (some (.ref gNOUGHT))) (lNOUGHT : K.lookup gNOUGHT = some ⟨.type "tuple", hNOUGHT, .seq #[.int 0 tNOUGHT0, .int 1 tNOUGHT1] nNOUGHT, sNOUGHT⟩)
    {gWHOLE : Addr} {hWHOLE : Option Addr} {nWHOLE : Nat} {sWHOLE : Array (Option Value)} {tWHOLE0 tWHOLE1 : Tok}
    (aWHOLE : PySem.W.nsIn K mainGlobals "WHOLE" = some (some (.ref gWHOLE))) (lWHOLE : K.lookup gWHOLE = some ⟨.type "tuple", hWHOLE, .seq #[.int 1 tWHOLE0, .int 1 tWHOLE1] nWHOLE, sWHOLE⟩)
    (z_len : PySem.W.nsIn K mainGlobals "len" = some none)
    (z_abs : PySem.W.nsIn K mainGlobals "abs" = some none)
    (z_int : PySem.W.nsIn K mainGlobals "int" = some none)
    (z_sum : PySem.W.nsIn K mainGlobals "sum" = some none)
    (z_any : PySem.W.nsIn K mainGlobals "any" = some none)
    (z_all : PySem.W.nsIn K mainGlobals "all" = some none)
    (z_max : PySem.W.nsIn K mainGlobals "max" = some none)
    (z_min : PySem.W.nsIn K mainGlobals "min" = some none)
    (z_list : PySem.W.nsIn K mainGlobals "list" = some none)
    (z_tuple : PySem.W.nsIn K mainGlobals "tuple" = some none)
    (z_sorted : PySem.W.nsIn K mainGlobals "sorted" = some none)
    (z_isinstance : PySem.W.nsIn K mainGlobals "isinstance" = some none)
    (z_range : PySem.W.nsIn K mainGlobals "range" = some none)
    (z_enumerate : PySem.W.nsIn K mainGlobals "enumerate" = some none)
    (z_zip : PySem.W.nsIn K mainGlobals "zip" = some none)
    (z_reversed : PySem.W.nsIn K mainGlobals "reversed" = some none)
    (z_str : PySem.W.nsIn K mainGlobals "str" = some none)
    (z_bool : PySem.W.nsIn K mainGlobals "bool" = some none)
    (z_dict : PySem.W.nsIn K mainGlobals "dict" = some none)
    (zgcd : PySem.W.nsIn K mainGlobals "gcd" = some (some (.builtin "math.gcd")))
    : ∃ fd : FuncData, (∀ (s : Shared) (v : Value), BindsTo s fd ⟨[v], []⟩ [("script", v)]) ∧ ∀ base : Heap, K.In base → base.Ns mainGlobals mg → L2.FnOk P wd K mg base (L2.CX P wd) (k + 1) fa fd ["script"] (spL 63 K) := by
  have e := hfa.symm.trans (PySem.W.mg_of X Gm a27)
  cases e
  have dL := def_mk (mg := mg) tr_law chk_law (fun _ _ _ _ _ _ us hl => match us, hl with | [_], _ => rfl) (PySem.W.mg_of X Gm a27) l27 c27 k27
  have M : ModOk G K mg := by
    refine ⟨fns_ok ?_, gls_ok ?_, ?_, ?_⟩
    · exact List.forall_mem_cons.mpr ⟨⟨_, _, def_mk tr_fraction chk_fraction (fun _ _ _ _ _ _ us hl => match us, hl with | [_, _], _ => rfl) (PySem.W.mg_of X Gm a4) l4 c4 k4⟩, List.forall_mem_cons.mpr ⟨⟨_, _, def_mk tr_plus chk_plus (fun _ _ _ _ _ _ us hl => match us, hl with | [_, _], _ => rfl) (PySem.W.mg_of X Gm a5) l5 c5 k5⟩, List.forall_mem_cons.mpr ⟨⟨_, _, def_mk tr_minus chk_minus (fun _ _ _ _ _ _ us hl => match us, hl with | [_, _], _ => rfl) (PySem.W.mg_of X Gm a6) l6 c6 k6⟩, List.forall_mem_cons.mpr ⟨⟨_, _, def_mk tr_times chk_times (fun _ _ _ _ _ _ us hl => match us, hl with | [_, _], _ => rfl) (PySem.W.mg_of X Gm a7) l7 c7 k7⟩, List.forall_mem_cons.mpr ⟨⟨_, _, def_mk tr_over chk_over (fun _ _ _ _ _ _ us hl => match us, hl with | [_, _], _ => rfl) (PySem.W.mg_of X Gm a8) l8 c8 k8⟩, List.forall_mem_cons.mpr ⟨⟨_, _, def_mk tr_is_less chk_is_less (fun _ _ _ _ _ _ us hl => match us, hl with | [_, _], _ => rfl) (PySem.W.mg_of X Gm a9) l9 c9 k9⟩, List.forall_mem_cons.mpr ⟨⟨_, _, def_mk tr_sign_of chk_sign_of (fun _ _ _ _ _ _ us hl => match us, hl with | [_], _ => rfl) (PySem.W.mg_of X Gm a10) l10 c10 k10⟩, List.forall_mem_cons.mpr ⟨⟨_, _, def_mk tr_total chk_total (fun _ _ _ _ _ _ us hl => match us, hl with | [_], _ => rfl) (PySem.W.mg_of X Gm a11) l11 c11 k11⟩, List.forall_mem_cons.mpr ⟨⟨_, _, def_mk tr_product chk_product (fun _ _ _ _ _ _ us hl => match us, hl with | [_], _ => rfl) (PySem.W.mg_of X Gm a12) l12 c12 k12⟩, List.forall_mem_cons.mpr ⟨⟨_, _, def_mk tr_raised chk_raised (fun _ _ _ _ _ _ us hl => match us, hl with | [_, _], _ => rfl) (PySem.W.mg_of X Gm a13) l13 c13 k13⟩, List.forall_mem_cons.mpr ⟨⟨_, _, def_mk tr_is_fraction chk_is_fraction (fun _ _ _ _ _ _ us hl => match us, hl with | [_], _ => rfl) (PySem.W.mg_of X Gm a14) l14 c14 k14⟩, List.forall_mem_cons.mpr ⟨⟨_, _, def_mk tr__law_deck chk__law_deck (fun _ _ _ _ _ _ us hl => match us, hl with | [_, _, _], _ => rfl) (PySem.W.mg_of X Gm a16) l16 c16 k16⟩, List.forall_mem_cons.mpr ⟨⟨_, _, def_mk tr__law_take chk__law_take (fun _ _ _ _ _ _ us hl => match us, hl with | [_, _], _ => rfl) (PySem.W.mg_of X Gm a17) l17 c17 k17⟩, List.forall_mem_cons.mpr ⟨⟨_, _, def_mk tr__law_plain chk__law_plain (fun _ _ _ _ _ _ us hl => match us, hl with | [_], _ => rfl) (PySem.W.mg_of X Gm a18) l18 c18 k18⟩, List.forall_mem_cons.mpr ⟨⟨_, _, def_mk tr__law_same chk__law_same (fun _ _ _ _ _ _ us hl => match us, hl with | [_, _], _ => rfl) (PySem.W.mg_of X Gm a19) l19 c19 k19⟩, List.forall_mem_cons.mpr ⟨⟨_, _, def_mk tr__law_divisor chk__law_divisor (fun _ _ _ _ _ _ us hl => match us, hl with | [_, _], _ => rfl) (PySem.W.mg_of X Gm a20) l20 c20 k20⟩, List.forall_mem_cons.mpr ⟨⟨_, _, def_mk tr__law_fraction chk__law_fraction (fun _ _ _ _ _ _ us hl => match us, hl with | [_, _], _ => rfl) (PySem.W.mg_of X Gm a21) l21 c21 k21⟩, List.forall_mem_cons.mpr ⟨⟨_, _, def_mk tr__law_plus chk__law_plus (fun _ _ _ _ _ _ us hl => match us, hl with | [_, _], _ => rfl) (PySem.W.mg_of X Gm a22) l22 c22 k22⟩, List.forall_mem_cons.mpr ⟨⟨_, _, def_mk tr__law_times chk__law_times (fun _ _ _ _ _ _ us hl => match us, hl with | [_, _], _ => rfl) (PySem.W.mg_of X Gm a23) l23 c23 k23⟩, List.forall_mem_cons.mpr ⟨⟨_, _, def_mk tr__law_sum chk__law_sum (fun _ _ _ _ _ _ us hl => match us, hl with | [_], _ => rfl) (PySem.W.mg_of X Gm a24) l24 c24 k24⟩, List.forall_mem_cons.mpr ⟨⟨_, _, def_mk tr__law_number chk__law_number (fun _ _ _ _ _ _ us hl => match us, hl with | [_], _ => rfl) (PySem.W.mg_of X Gm a25) l25 c25 k25⟩, List.forall_mem_cons.mpr ⟨⟨_, _, def_mk tr__law_lowest chk__law_lowest (fun _ _ _ _ _ _ us hl => match us, hl with | [_, _, _], _ => rfl) (PySem.W.mg_of X Gm a26) l26 c26 k26⟩, List.forall_mem_cons.mpr ⟨⟨_, _, dL⟩, fun _ h => absurd h (List.not_mem_nil)⟩⟩⟩⟩⟩⟩⟩⟩⟩⟩⟩⟩⟩⟩⟩⟩⟩⟩⟩⟩⟩⟩⟩
    · exact List.forall_mem_cons.mpr ⟨⟨.ref gNOUGHT, L2.V.ref gNOUGHT, PySem.W.mg_of X Gm aNOUGHT, rfl, tup_const (vs := [.int 0, .int 1]) lNOUGHT (show 2 ≤ sizeLine by decide) (.cons ⟨_, rfl⟩ (.cons ⟨_, rfl⟩ (.nil))) (.cons (.int _) (.cons (.int _) (.nil)))⟩, List.forall_mem_cons.mpr ⟨⟨.ref gWHOLE, L2.V.ref gWHOLE, PySem.W.mg_of X Gm aWHOLE, rfl, tup_const (vs := [.int 1, .int 1]) lWHOLE (show 2 ≤ sizeLine by decide) (.cons ⟨_, rfl⟩ (.cons ⟨_, rfl⟩ (.nil))) (.cons (.int _) (.cons (.int _) (.nil)))⟩, fun _ h => absurd h (List.not_mem_nil)⟩⟩
    · exact List.forall_mem_cons.mpr ⟨PySem.W.mg_none_of X Gm z_len, List.forall_mem_cons.mpr ⟨PySem.W.mg_none_of X Gm z_abs, List.forall_mem_cons.mpr ⟨PySem.W.mg_none_of X Gm z_int, List.forall_mem_cons.mpr ⟨PySem.W.mg_none_of X Gm z_sum, List.forall_mem_cons.mpr ⟨PySem.W.mg_none_of X Gm z_any, List.forall_mem_cons.mpr ⟨PySem.W.mg_none_of X Gm z_all, List.forall_mem_cons.mpr ⟨PySem.W.mg_none_of X Gm z_max, List.forall_mem_cons.mpr ⟨PySem.W.mg_none_of X Gm z_min, List.forall_mem_cons.mpr ⟨PySem.W.mg_none_of X Gm z_list, List.forall_mem_cons.mpr ⟨PySem.W.mg_none_of X Gm z_tuple, List.forall_mem_cons.mpr ⟨PySem.W.mg_none_of X Gm z_sorted, List.forall_mem_cons.mpr ⟨PySem.W.mg_none_of X Gm z_isinstance, List.forall_mem_cons.mpr ⟨PySem.W.mg_none_of X Gm z_range, List.forall_mem_cons.mpr ⟨PySem.W.mg_none_of X Gm z_enumerate, List.forall_mem_cons.mpr ⟨PySem.W.mg_none_of X Gm z_zip, List.forall_mem_cons.mpr ⟨PySem.W.mg_none_of X Gm z_reversed, List.forall_mem_cons.mpr ⟨PySem.W.mg_none_of X Gm z_str, List.forall_mem_cons.mpr ⟨PySem.W.mg_none_of X Gm z_bool, List.forall_mem_cons.mpr ⟨PySem.W.mg_none_of X Gm z_dict, fun _ h => absurd h (List.not_mem_nil)⟩⟩⟩⟩⟩⟩⟩⟩⟩⟩⟩⟩⟩⟩⟩⟩⟩⟩⟩
    · exact fun _ => PySem.W.mg_of X Gm zgcd
  exact ⟨_, fun s v => .of_eq rfl, fun base _ _ => L2.FnOk.imp (def_ok (w := 100000) M (all_ok M k) (by kernel_rfl) dL) (law_imp rfl hp)⟩
end Pv.K04
end
section
namespace Pv.K04
open Pv PySem PySem.Spec PyProof.Rows
variable {w k : Nat}
theorem call_eq {x : Str} {fi : Fn} (h : G.fn x = some fi) (as : List Slot) : (tbl G w (k + 1)).call x as = runFn (tbl G w k) fi as := by
  show (match G.fn x with | some f => runFn (tbl G w k) f as | none => .bad) = _
  rw [h]
theorem has_eq {x : Str} {fi : Fn} (h : G.fn x = some fi) : (tbl G w k).has x = true := by rw [tbl_has, h]; rfl
theorem call_ret {x : Str} {fi : Fn} {as : List Slot} {r : R} {ρ : En} (h : G.fn x = some fi) (hl : as.length = fi.ps.length) (hr : fi.rb = []) (body : exB (tbl G w k) fi.body (as ++ List.replicate (fi.N.length - as.length) .un) = .ok (.ret r, ρ)) : (tbl G w (k + 1)).call x as = .ok (r, outsOf [] 0 as ρ) := by
  rw [call_eq h]
  unfold runFn
  rw [if_pos ⟨hl, by rw [hr]; rfl⟩, body, hr]
  rfl
theorem fn_fraction : G.fn "fraction" = some F_fraction := by kernel_rfl
theorem fn_plus : G.fn "plus" = some F_plus := by kernel_rfl
theorem gcd_true : (tbl G w k).gcd = true := by rw [tbl_gcd]; rfl
def sg (a b : Int) : Int := if b < 0 then -(Int.gcd a b : Int) else (Int.gcd a b : Int)
def fr (a b : Int) : Int × Int := (a.fdiv (sg a b), b.fdiv (sg a b))
def frD (p : Int × Int) : D := .tuple [.int p.1, .int p.2]
theorem fraction_eq {a b : Int} (h : divOk (sg a b) = true) : (tbl G w (k + 1)).call "fraction" [.val (.int a), .val (.int b)] = .ok (.val (frD (fr a b)), [.val (.int a), .val (.int b)]) := by
  have gz := gcd_true (w := w) (k := k)
  have body : exB (tbl G w k) F_fraction.body [.val (.int a), .val (.int b), .un] = .ok (.ret (.val (frD (fr a b))), [.val (.int a), .val (.int b), .val (.int (sg a b))]) := by
    refine bs_seq (ρ1 := [.val (.int a), .val (.int b), .val (.int (Int.gcd a b : Nat))]) (by simp [exB, exS, ev, evOs, evL, evP, evC, evI, List.getElem?_cons_zero, List.getElem?_cons_succ, List.set_cons_zero, List.set_cons_succ, bind_ok, opt_some, opX, R.x_val, R.x_fresh, setX, retR, retX, retB, retD, Pv.peek1, Pv.peek2, peek, peeks, boo, argsOf, argOf, slotsOf, distinct, backs, frz, callX, okBi, biD, binD, eqI, neI, ltI, leI, gtI, geI, isN, isnN, isB, isnB, ↓reduceIte, subD, truD, negD, R.x, retOf, outsOf, Bool.false_eq_true, List.contains_nil, Bool.not_false, Bool.not_true, Bool.and_true, Bool.true_and, isiD, tyD, isNon, isBo, gz]) ?_
    refine bs_seq (ρ1 := [.val (.int a), .val (.int b), .val (.int (sg a b))]) (bs_if (t := decide (b < 0)) (ρ1 := [.val (.int a), .val (.int b), .val (.int (Int.gcd a b : Nat))]) rfl ?_) (bs_end ?_)
    · by_cases hb : b < 0
      · rw [if_pos (decide_eq_true hb), show sg a b = -(Int.gcd a b : Int) from if_pos hb]; rfl
      · rw [if_neg (by simpa using hb), show sg a b = (Int.gcd a b : Int) from if_neg hb]; rfl
    · simp [exB, exS, ev, evOs, evL, evP, evC, evI, List.getElem?_cons_zero, List.getElem?_cons_succ, List.set_cons_zero, List.set_cons_succ, bind_ok, opt_some, opX, R.x_val, R.x_fresh, setX, retR, retX, retB, retD, Pv.peek1, Pv.peek2, peek, peeks, boo, argsOf, argOf, slotsOf, distinct, backs, frz, callX, okBi, biD, binD, eqI, neI, ltI, leI, gtI, geI, isN, isnN, isB, isnB, ↓reduceIte, subD, truD, negD, R.x, retOf, outsOf, Bool.false_eq_true, List.contains_nil, Bool.not_false, Bool.not_true, Bool.and_true, Bool.true_and, isiD, tyD, isNon, isBo, h, lim, LIM, frD, fr]
  exact call_ret (as := [.val (.int a), .val (.int b)]) fn_fraction rfl rfl body
/-! ### the law's own divisor -/
theorem fn_divisor : G.fn "_law_divisor" = some F__law_divisor := by kernel_rfl
def bdiv : List St := [(.ifs (.cmp .eq (.var 3) (.int 0)) [(.retv 2)] []), (.par [2, 3] [(.var 3), (.bin .mod (.bi .int [(.var 2)]) (.var 3))])]
def tdiv (T : Tb) (x : D) (ρ : En) : Res (Fl × En) := (opt (asgT (.one 4) x ρ)).bind fun ρ => exB T bdiv ρ
theorem tdiv0 {T : Tb} {d : D} {a b s : Slot} {x : Int} : tdiv T d [a, b, .val (.int x), .val (.int 0), s] = .ok (.ret (.val (.int x)), [a, b, .val (.int x), .val (.int 0), .val d]) := by
  unfold tdiv bdiv
  simp [exB, exS, ev, evOs, evL, evP, evC, evI, List.getElem?_cons_zero, List.getElem?_cons_succ, List.set_cons_zero, List.set_cons_succ, bind_ok, opt_some, opX, R.x_val, R.x_fresh, setX, retR, retX, retB, retD, Pv.peek1, Pv.peek2, peek, peeks, boo, argsOf, argOf, slotsOf, distinct, backs, frz, callX, okBi, biD, binD, eqI, neI, ltI, leI, gtI, geI, isN, isnN, isB, isnB, ↓reduceIte, subD, truD, negD, R.x, retOf, outsOf, Bool.false_eq_true, List.contains_nil, Bool.not_false, Bool.not_true, Bool.and_true, Bool.true_and, isiD, tyD, isNon, isBo, asgT]
theorem tdivS {T : Tb} {d : D} {a b s : Slot} {x y : Int} (hy : 0 < y) : tdiv T d [a, b, .val (.int x), .val (.int y), s] = .ok (.nxt, [a, b, .val (.int y), .val (.int (x % y)), .val d]) := by
  unfold tdiv bdiv
  have h0 : y ≠ 0 := by omega
  simp [exB, exS, ev, evOs, evL, evP, evC, evI, List.getElem?_cons_zero, List.getElem?_cons_succ, List.set_cons_zero, List.set_cons_succ, bind_ok, opt_some, opX, R.x_val, R.x_fresh, setX, retR, retX, retB, retD, Pv.peek1, Pv.peek2, peek, peeks, boo, argsOf, argOf, slotsOf, distinct, backs, frz, callX, okBi, biD, binD, eqI, neI, ltI, leI, gtI, geI, isN, isnN, isB, isnB, ↓reduceIte, subD, truD, negD, R.x, retOf, outsOf, Bool.false_eq_true, List.contains_nil, Bool.not_false, Bool.not_true, Bool.and_true, Bool.true_and, isiD, tyD, isNon, isBo, asgT, asgTs, h0, hy]
theorem div_loop {T : Tb} {a b : Slot} : ∀ (n : Nat) (l : List D) (x y : Nat) (s : Slot), y < 2 ^ n → 2 * n + 1 ≤ l.length → ∃ s', forL (tdiv T) l [a, b, .val (.int x), .val (.int y), s] = .ok (.ret (.val (.int (Nat.gcd x y : Nat))), [a, b, .val (.int (Nat.gcd x y : Nat)), .val (.int 0), s'])
  | n, [], x, y, s, _, hl => by simp at hl
  | n, d :: l, x, 0, s, _, _ => ⟨.val d, by
    rw [forL_cons, show ((0 : Nat) : Int) = 0 from rfl, tdiv0, Nat.gcd_zero_right]; rfl⟩
  | 0, d :: l, x, y + 1, s, hy, _ => by simp at hy
  | n + 1, d :: [], x, y + 1, s, _, hl => by simp at hl
  | n + 1, d :: e :: l, x, y + 1, s, hy, hl => by
    rw [forL_cons, tdivS (by omega)]
    have e1 : ((x : Int) % ((y + 1 : Nat) : Int)) = ((x % (y + 1) : Nat) : Int) := by omega
    rw [e1]
    have hg : Nat.gcd x (y + 1) = Nat.gcd (y + 1) (x % (y + 1)) := by rw [Nat.gcd_comm x, Nat.gcd_rec, Nat.gcd_comm]
    have hlt : x % (y + 1) < y + 1 := Nat.mod_lt _ (by omega)
    rw [hg]
    generalize x % (y + 1) = r at *
    cases r with
    | zero =>
      refine ⟨.val e, ?_⟩
      rw [bind_ok]
      show forL (tdiv T) (e :: l) [a, b, .val (.int ((y + 1 : Nat) : Int)), .val (.int 0), .val d] = _
      rw [forL_cons, tdiv0, Nat.gcd_zero_right]; rfl
    | succ r =>
      have e2 : (((y + 1 : Nat) : Int) % ((r + 1 : Nat) : Int)) = (((y + 1) % (r + 1) : Nat) : Int) := by omega
      have hg2 : Nat.gcd (y + 1) (r + 1) = Nat.gcd (r + 1) ((y + 1) % (r + 1)) := by rw [Nat.gcd_comm (y + 1), Nat.gcd_rec, Nat.gcd_comm]
      have hlt2 : (y + 1) % (r + 1) < 2 ^ n := by
        have hm := Nat.mod_lt (y + 1) (show 0 < r + 1 by omega)
        have hp : 2 ^ (n + 1) = 2 ^ n + 2 ^ n := by rw [Nat.pow_succ]; omega
        have hd := Nat.div_add_mod (y + 1) (r + 1)
        have hq : 0 < (y + 1) / (r + 1) := Nat.div_pos (by omega) (by omega)
        have : r + 1 ≤ (r + 1) * ((y + 1) / (r + 1)) := Nat.le_mul_of_pos_right _ hq
        omega
      obtain ⟨s', hs⟩ := div_loop n l (r + 1) ((y + 1) % (r + 1)) (.val e) hlt2 (by simp only [List.length_cons] at hl; omega)
      refine ⟨s', ?_⟩
      show forL (tdiv T) (e :: l) _ = _
      rw [forL_cons, tdivS (by omega), e2, hg2]
      exact hs
theorem divisor_eq {a b : Int} {n : Nat} (hb : b.natAbs < 2 ^ n) (hn : n ≤ 5000) : (tbl G w (k + 1)).call "_law_divisor" [.val (.int a), .val (.int b)] = .ok (.val (.int (Int.gcd a b : Nat)), [.val (.int a), .val (.int b)]) := by
  obtain ⟨s', hs⟩ := div_loop (T := tbl G w k) (a := .val (.int a)) (b := .val (.int b)) n (rngL 0 20000) a.natAbs b.natAbs .un hb (by rw [rngL_len]; omega)
  have body : exB (tbl G w k) F__law_divisor.body [.val (.int a), .val (.int b), .un, .un, .un] = .ok (.ret (.val (.int (Int.gcd a b : Nat))), [.val (.int a), .val (.int b), .val (.int (Int.gcd a b : Nat)), .val (.int 0), s']) := by
    refine bs_seq (ρ1 := [.val (.int a), .val (.int b), .val (.int (a.natAbs : Nat)), .un, .un]) rfl ?_
    refine bs_seq (ρ1 := [.val (.int a), .val (.int b), .val (.int (a.natAbs : Nat)), .val (.int (b.natAbs : Nat)), .un]) rfl ?_
    exact bs_end (bs_for (ds := rngL 0 20000) (h := []) rfl hs)
  exact call_ret (as := [.val (.int a), .val (.int b)]) fn_divisor rfl rfl body
end Pv.K04
end
section
namespace Pv.K04
open Pv PySem PySem.Spec PyProof.Rows
variable {w k n : Nat}
theorem at0 (x y : D) : subD (.tuple [x, y]) (.int 0) = some x := rfl
theorem at1 (x y : D) : subD (.tuple [x, y]) (.int 1) = some y := rfl
/-! ### sizes -/
def B (n : Nat) (x : Int) : Prop := x.natAbs < 2 ^ n
theorem B.mono {m n : Nat} {x : Int} (h : B m x) (l : m ≤ n) : B n x := Nat.lt_of_lt_of_le h (Nat.pow_le_pow_right (by decide) l)
theorem B.mul {m n : Nat} {x y : Int} (h : B m x) (h2 : B n y) : B (m + n) (x * y) := by
  unfold B at *
  rw [Int.natAbs_mul, Nat.pow_add]
  exact Nat.mul_lt_mul'' h h2
theorem B.add {n : Nat} {x y : Int} (h : B n x) (h2 : B n y) : B (n + 1) (x + y) := by
  unfold B at *
  rw [Nat.pow_succ]
  have := Int.natAbs_add_le x y
  omega
theorem B.sub {n : Nat} {x y : Int} (h : B n x) (h2 : B n y) : B (n + 1) (x - y) := by
  unfold B at *
  rw [Nat.pow_succ]
  have := Int.natAbs_sub_le x y
  omega
theorem log2_le {n m : Nat} (h : n < 2 ^ m) : n.log2 ≤ m := by
  by_cases e : n = 0
  · subst e; simp
  · exact Nat.le_of_lt ((Nat.log2_lt e).mpr h)
theorem mul_ok {m n : Nat} {x y : Int} (h : B m x) (h2 : B n y) (l : m + n < 1000000) : mulOk x y = true := by
  unfold mulOk
  have h1 := log2_le h
  have h3 := log2_le h2
  exact decide_eq_true (by omega)
theorem div_ok {n : Nat} {y : Int} (h0 : y ≠ 0) (h2 : B n y) (l : n < 9000) : divOk y = true := by
  unfold divOk
  have h3 := log2_le h2
  rw [Bool.and_eq_true]
  exact ⟨decide_eq_true h0, decide_eq_true (by omega)⟩
/-! ### fractions -/
theorem sg_ne {a b : Int} (h : b ≠ 0) : sg a b ≠ 0 := by
  have : Int.gcd a b ≠ 0 := fun e => h (Int.gcd_eq_zero_iff.mp e).2
  unfold sg
  split <;> omega
theorem sg_abs (a b : Int) : (sg a b).natAbs = Int.gcd a b := by
  unfold sg
  split <;> omega
theorem sg_dvd_l (a b : Int) : sg a b ∣ a := by
  unfold sg
  split
  · exact Int.neg_dvd.mpr (Int.gcd_dvd_left ..)
  · exact Int.gcd_dvd_left ..
theorem sg_dvd_r (a b : Int) : sg a b ∣ b := by
  unfold sg
  split
  · exact Int.neg_dvd.mpr (Int.gcd_dvd_right ..)
  · exact Int.gcd_dvd_right ..
theorem sg_B {a b : Int} {n : Nat} (h : b ≠ 0) (hb : B n b) : B n (sg a b) := by
  unfold B at *
  rw [sg_abs]
  have : Int.gcd a b ≤ b.natAbs := Nat.le_of_dvd (by omega) (by rw [Int.gcd]; exact Nat.gcd_dvd_right ..)
  omega
theorem sg_ok {a b : Int} {n : Nat} (h : b ≠ 0) (hb : B n b) (l : n < 9000) : divOk (sg a b) = true := div_ok (sg_ne h) (sg_B h hb) l
/-- p is above over below, in lowest terms -/
structure Fr (n : Nat) (p : Int × Int) : Prop where
  pos : 0 < p.2
  cop : Int.gcd p.1 p.2 = 1
  b1 : B n p.1
  b2 : B n p.2
theorem fr_spec {a b : Int} (h : b ≠ 0) : a = sg a b * (fr a b).1 ∧ b = sg a b * (fr a b).2 := by
  have h0 := sg_ne (a := a) h
  obtain ⟨x, hx⟩ := sg_dvd_l a b
  obtain ⟨y, hy⟩ := sg_dvd_r a b
  unfold fr
  refine ⟨?_, ?_⟩
  · show a = sg a b * a.fdiv (sg a b)
    generalize sg a b = g at *
    subst hx
    rw [Int.mul_fdiv_cancel_left _ h0]
  · show b = sg a b * b.fdiv (sg a b)
    generalize sg a b = g at *
    subst hy
    rw [Int.mul_fdiv_cancel_left _ h0]
theorem abs_le_of_mul {g x y : Int} (h : y = g * x) (h0 : g ≠ 0) : x.natAbs ≤ y.natAbs := by
  subst h
  rw [Int.natAbs_mul]
  exact Nat.le_mul_of_pos_left _ (by omega)
theorem fr_ok {a b : Int} {n : Nat} (h : b ≠ 0) (ha : B n a) (hb : B n b) : Fr n (fr a b) := by
  obtain ⟨e1, e2⟩ := fr_spec (a := a) h
  have h0 := sg_ne (a := a) h
  have hs : (0 < b ∧ 0 < sg a b) ∨ (b < 0 ∧ sg a b < 0) := by
    have hz : Int.gcd a b ≠ 0 := fun e => h (Int.gcd_eq_zero_iff.mp e).2
    unfold sg
    split <;> omega
  refine ⟨?_, ?_, Nat.lt_of_le_of_lt (abs_le_of_mul e1 h0) ha, Nat.lt_of_le_of_lt (abs_le_of_mul e2 h0) hb⟩
  · generalize sg a b = g at *
    generalize (fr a b).2 = y at *
    rcases hs with ⟨h1, h2⟩ | ⟨h1, h2⟩
    · rw [e2] at h1
      exact Int.pos_of_mul_pos_right h1 (by omega) |> fun z => by first | exact z | omega
    · rw [e2] at h1
      by_cases hy : 0 < y
      · exact hy
      · exfalso
        have := Int.mul_nonneg_of_nonpos_of_nonpos (show g ≤ 0 by omega) (show y ≤ 0 by omega)
        omega
  · have hg := sg_abs a b
    have hm : Int.gcd a b = (sg a b).natAbs * Int.gcd (fr a b).1 (fr a b).2 := by
      have key : ∀ g x y a b : Int, a = g * x → b = g * y → Int.gcd a b = g.natAbs * Int.gcd x y := by
        rintro g x y _ _ rfl rfl
        rw [Int.gcd_mul_left]
      exact key _ _ _ _ _ e1 e2
    rw [hg] at hm
    have hz : Int.gcd a b ≠ 0 := fun e => h (Int.gcd_eq_zero_iff.mp e).2
    generalize Int.gcd (fr a b).1 (fr a b).2 = c at *
    generalize Int.gcd a b = g at *
    exact Nat.eq_of_mul_eq_mul_left (Nat.pos_of_ne_zero hz) (by omega)
theorem fr_eq {a b : Int} (h : b ≠ 0) : (fr a b).1 * b = (fr a b).2 * a := by
  obtain ⟨e1, e2⟩ := fr_spec (a := a) h
  generalize (fr a b).1 = x at *
  generalize (fr a b).2 = y at *
  generalize sg a b = g at *
  rw [e1, e2]
  rw [Int.mul_left_comm, Int.mul_left_comm y, Int.mul_comm x y]
end Pv.K04
end
section
namespace Pv.K04
open Pv PySem PySem.Spec PyProof.Rows
variable {w k n : Nat}
theorem fn_minus : G.fn "minus" = some F_minus := by kernel_rfl
theorem fn_times : G.fn "times" = some F_times := by kernel_rfl
theorem fn_over : G.fn "over" = some F_over := by kernel_rfl
theorem fn_is_less : G.fn "is_less" = some F_is_less := by kernel_rfl
theorem fn_sign_of : G.fn "sign_of" = some F_sign_of := by kernel_rfl
theorem fn_total : G.fn "total" = some F_total := by kernel_rfl
theorem fn_product : G.fn "product" = some F_product := by kernel_rfl
theorem fn_raised : G.fn "raised" = some F_raised := by kernel_rfl
theorem fn_is_fraction : G.fn "is_fraction" = some F_is_fraction := by kernel_rfl
theorem fn_deck : G.fn "_law_deck" = some F__law_deck := by kernel_rfl
theorem fn_take : G.fn "_law_take" = some F__law_take := by kernel_rfl
theorem fn_plain : G.fn "_law_plain" = some F__law_plain := by kernel_rfl
theorem fn_same : G.fn "_law_same" = some F__law_same := by kernel_rfl
theorem fn_lfraction : G.fn "_law_fraction" = some F__law_fraction := by kernel_rfl
theorem fn_lplus : G.fn "_law_plus" = some F__law_plus := by kernel_rfl
theorem fn_ltimes : G.fn "_law_times" = some F__law_times := by kernel_rfl
theorem fn_lsum : G.fn "_law_sum" = some F__law_sum := by kernel_rfl
theorem fn_number : G.fn "_law_number" = some F__law_number := by kernel_rfl
theorem fn_lowest : G.fn "_law_lowest" = some F__law_lowest := by kernel_rfl
theorem fn_law : G.fn "law" = some F_law := by kernel_rfl
theorem up {c n : Nat} (h : c ≤ n) : ∃ k, n = k + c := ⟨n - c, by omega⟩
theorem plus_eq {p q : Int × Int} {m l : Nat} (hn : 2 ≤ n) (hp : Fr m p) (hq : Fr l q) (hs : m + l ≤ 8000) : (tbl G w n).call "plus" [.val (frD p), .val (frD q)] = .ok (.val (frD (fr (p.1 * q.2 + q.1 * p.2) (p.2 * q.2))), [.val (frD p), .val (frD q)]) := by
  obtain ⟨k, rfl⟩ := up hn
  have h1 := mul_ok hp.b1 hq.b2 (by omega)
  have h2 := mul_ok hq.b1 hp.b2 (by omega)
  have h3 := mul_ok hp.b2 hq.b2 (by omega)
  have h4 : p.2 * q.2 ≠ 0 := Int.mul_ne_zero (by have := hp.pos; omega) (by have := hq.pos; omega)
  have hc := fraction_eq (w := w) (k := k) (sg_ok (a := p.1 * q.2 + q.1 * p.2) h4 (hp.b2.mul hq.b2) (by omega))
  refine call_ret (as := [.val (frD p), .val (frD q)]) (ρ := [.val (frD p), .val (frD q)]) fn_plus rfl rfl (bs_end ?_)
  unfold frD at *
  simp [exB, exS, ev, evOs, evL, evP, evC, evI, List.getElem?_cons_zero, List.getElem?_cons_succ, List.set_cons_zero, List.set_cons_succ, bind_ok, opt_some, opX, R.x_val, R.x_fresh, setX, retR, retX, retB, retD, Pv.peek1, Pv.peek2, peek, peeks, boo, argsOf, argOf, slotsOf, distinct, backs, frz, callX, okBi, biD, binD, eqI, neI, ltI, leI, gtI, geI, isN, isnN, isB, isnB, ↓reduceIte, at0, at1, truD, negD, R.x, retOf, outsOf, Bool.false_eq_true, List.contains_nil, Bool.not_false, Bool.not_true, Bool.and_true, Bool.true_and, isiD, tyD, isNon, isBo, h1, h2, h3, has_eq fn_fraction, hc]
  rfl
theorem minus_eq {p q : Int × Int} {m l : Nat} (hn : 2 ≤ n) (hp : Fr m p) (hq : Fr l q) (hs : m + l ≤ 8000) : (tbl G w n).call "minus" [.val (frD p), .val (frD q)] = .ok (.val (frD (fr (p.1 * q.2 - q.1 * p.2) (p.2 * q.2))), [.val (frD p), .val (frD q)]) := by
  obtain ⟨k, rfl⟩ := up hn
  have h1 := mul_ok hp.b1 hq.b2 (by omega)
  have h2 := mul_ok hq.b1 hp.b2 (by omega)
  have h3 := mul_ok hp.b2 hq.b2 (by omega)
  have h4 : p.2 * q.2 ≠ 0 := Int.mul_ne_zero (by have := hp.pos; omega) (by have := hq.pos; omega)
  have hc := fraction_eq (w := w) (k := k) (sg_ok (a := p.1 * q.2 - q.1 * p.2) h4 (hp.b2.mul hq.b2) (by omega))
  refine call_ret (as := [.val (frD p), .val (frD q)]) (ρ := [.val (frD p), .val (frD q)]) fn_minus rfl rfl (bs_end ?_)
  unfold frD at *
  simp [exB, exS, ev, evOs, evL, evP, evC, evI, List.getElem?_cons_zero, List.getElem?_cons_succ, List.set_cons_zero, List.set_cons_succ, bind_ok, opt_some, opX, R.x_val, R.x_fresh, setX, retR, retX, retB, retD, Pv.peek1, Pv.peek2, peek, peeks, boo, argsOf, argOf, slotsOf, distinct, backs, frz, callX, okBi, biD, binD, eqI, neI, ltI, leI, gtI, geI, isN, isnN, isB, isnB, ↓reduceIte, at0, at1, truD, negD, R.x, retOf, outsOf, Bool.false_eq_true, List.contains_nil, Bool.not_false, Bool.not_true, Bool.and_true, Bool.true_and, isiD, tyD, isNon, isBo, h1, h2, h3, has_eq fn_fraction, hc]
  rfl
theorem times_eq {p q : Int × Int} {m l : Nat} (hn : 2 ≤ n) (hp : Fr m p) (hq : Fr l q) (hs : m + l ≤ 8000) : (tbl G w n).call "times" [.val (frD p), .val (frD q)] = .ok (.val (frD (fr (p.1 * q.1) (p.2 * q.2))), [.val (frD p), .val (frD q)]) := by
  obtain ⟨k, rfl⟩ := up hn
  have h1 := mul_ok hp.b1 hq.b1 (by omega)
  have h3 := mul_ok hp.b2 hq.b2 (by omega)
  have h4 : p.2 * q.2 ≠ 0 := Int.mul_ne_zero (by have := hp.pos; omega) (by have := hq.pos; omega)
  have hc := fraction_eq (w := w) (k := k) (sg_ok (a := p.1 * q.1) h4 (hp.b2.mul hq.b2) (by omega))
  refine call_ret (as := [.val (frD p), .val (frD q)]) (ρ := [.val (frD p), .val (frD q)]) fn_times rfl rfl (bs_end ?_)
  unfold frD at *
  simp [exB, exS, ev, evOs, evL, evP, evC, evI, List.getElem?_cons_zero, List.getElem?_cons_succ, List.set_cons_zero, List.set_cons_succ, bind_ok, opt_some, opX, R.x_val, R.x_fresh, setX, retR, retX, retB, retD, Pv.peek1, Pv.peek2, peek, peeks, boo, argsOf, argOf, slotsOf, distinct, backs, frz, callX, okBi, biD, binD, eqI, neI, ltI, leI, gtI, geI, isN, isnN, isB, isnB, ↓reduceIte, at0, at1, truD, negD, R.x, retOf, outsOf, Bool.false_eq_true, List.contains_nil, Bool.not_false, Bool.not_true, Bool.and_true, Bool.true_and, isiD, tyD, isNon, isBo, h1, h3, has_eq fn_fraction, hc]
  rfl
theorem over_eq {p q : Int × Int} {m l : Nat} (hn : 2 ≤ n) (hp : Fr m p) (hq : Fr l q) (hs : m + l ≤ 8000) (hz : q.1 ≠ 0) : (tbl G w n).call "over" [.val (frD p), .val (frD q)] = .ok (.val (frD (fr (p.1 * q.2) (p.2 * q.1))), [.val (frD p), .val (frD q)]) := by
  obtain ⟨k, rfl⟩ := up hn
  have h1 := mul_ok hp.b1 hq.b2 (by omega)
  have h3 := mul_ok hp.b2 hq.b1 (by omega)
  have h4 : p.2 * q.1 ≠ 0 := Int.mul_ne_zero (by have := hp.pos; omega) hz
  have hc := fraction_eq (w := w) (k := k) (sg_ok (a := p.1 * q.2) h4 (hp.b2.mul hq.b1) (by omega))
  refine call_ret (as := [.val (frD p), .val (frD q)]) (ρ := [.val (frD p), .val (frD q)]) fn_over rfl rfl (bs_end ?_)
  unfold frD at *
  simp [exB, exS, ev, evOs, evL, evP, evC, evI, List.getElem?_cons_zero, List.getElem?_cons_succ, List.set_cons_zero, List.set_cons_succ, bind_ok, opt_some, opX, R.x_val, R.x_fresh, setX, retR, retX, retB, retD, Pv.peek1, Pv.peek2, peek, peeks, boo, argsOf, argOf, slotsOf, distinct, backs, frz, callX, okBi, biD, binD, eqI, neI, ltI, leI, gtI, geI, isN, isnN, isB, isnB, ↓reduceIte, at0, at1, truD, negD, R.x, retOf, outsOf, Bool.false_eq_true, List.contains_nil, Bool.not_false, Bool.not_true, Bool.and_true, Bool.true_and, isiD, tyD, isNon, isBo, h1, h3, has_eq fn_fraction, hc]
  rfl
theorem is_less_eq {p q : Int × Int} {m l : Nat} (hn : 1 ≤ n) (hp : Fr m p) (hq : Fr l q) (hs : m + l ≤ 8000) : (tbl G w n).call "is_less" [.val (frD p), .val (frD q)] = .ok (.val (.bool (decide (p.1 * q.2 < q.1 * p.2))), [.val (frD p), .val (frD q)]) := by
  obtain ⟨k, rfl⟩ := up hn
  have h1 := mul_ok hp.b1 hq.b2 (by omega)
  have h2 := mul_ok hq.b1 hp.b2 (by omega)
  refine call_ret (as := [.val (frD p), .val (frD q)]) (ρ := [.val (frD p), .val (frD q)]) fn_is_less rfl rfl (bs_end ?_)
  unfold frD at *
  simp [exB, exS, ev, evOs, evL, evP, evC, evI, List.getElem?_cons_zero, List.getElem?_cons_succ, List.set_cons_zero, List.set_cons_succ, bind_ok, opt_some, opX, R.x_val, R.x_fresh, setX, retR, retX, retB, retD, Pv.peek1, Pv.peek2, peek, peeks, boo, argsOf, argOf, slotsOf, distinct, backs, frz, callX, okBi, biD, binD, eqI, neI, ltI, leI, gtI, geI, isN, isnN, isB, isnB, ↓reduceIte, at0, at1, truD, negD, R.x, retOf, outsOf, Bool.false_eq_true, List.contains_nil, Bool.not_false, Bool.not_true, Bool.and_true, Bool.true_and, isiD, tyD, isNon, isBo, h1, h2]
  rfl
def sgn (x : Int) : Int := if 0 < x then 1 else if x < 0 then -1 else 0
theorem sign_of_eq {p : Int × Int} (hn : 1 ≤ n) : (tbl G w n).call "sign_of" [.val (frD p)] = .ok (.val (.int (sgn p.1)), [.val (frD p)]) := by
  obtain ⟨k, rfl⟩ := up hn
  refine call_ret (as := [.val (frD p)]) (ρ := [.val (frD p)]) fn_sign_of rfl rfl ?_
  unfold sgn
  by_cases h : 0 < p.1
  · rw [if_pos h]
    refine bs_end (bs_if (t := true) (ρ1 := [.val (frD p)]) ?_ rfl)
    simp [exB, exS, ev, evOs, evL, evP, evC, evI, List.getElem?_cons_zero, List.getElem?_cons_succ, List.set_cons_zero, List.set_cons_succ, bind_ok, opt_some, opX, R.x_val, R.x_fresh, setX, retR, retX, retB, retD, Pv.peek1, Pv.peek2, peek, peeks, boo, argsOf, argOf, slotsOf, distinct, backs, frz, callX, okBi, biD, binD, eqI, neI, ltI, leI, gtI, geI, isN, isnN, isB, isnB, ↓reduceIte, at0, at1, truD, negD, R.x, retOf, outsOf, Bool.false_eq_true, List.contains_nil, Bool.not_false, Bool.not_true, Bool.and_true, Bool.true_and, isiD, tyD, isNon, isBo, frD, h]
    rfl
  · rw [if_neg h]
    refine bs_seq (ρ1 := [.val (frD p)]) (bs_if (t := false) (ρ1 := [.val (frD p)]) ?_ rfl) ?_
    · simp [exB, exS, ev, evOs, evL, evP, evC, evI, List.getElem?_cons_zero, List.getElem?_cons_succ, List.set_cons_zero, List.set_cons_succ, bind_ok, opt_some, opX, R.x_val, R.x_fresh, setX, retR, retX, retB, retD, Pv.peek1, Pv.peek2, peek, peeks, boo, argsOf, argOf, slotsOf, distinct, backs, frz, callX, okBi, biD, binD, eqI, neI, ltI, leI, gtI, geI, isN, isnN, isB, isnB, ↓reduceIte, at0, at1, truD, negD, R.x, retOf, outsOf, Bool.false_eq_true, List.contains_nil, Bool.not_false, Bool.not_true, Bool.and_true, Bool.true_and, isiD, tyD, isNon, isBo, frD, h]
      rfl
    by_cases h' : p.1 < 0
    · rw [if_pos h']
      refine bs_end (bs_if (t := true) (ρ1 := [.val (frD p)]) ?_ rfl)
      simp [exB, exS, ev, evOs, evL, evP, evC, evI, List.getElem?_cons_zero, List.getElem?_cons_succ, List.set_cons_zero, List.set_cons_succ, bind_ok, opt_some, opX, R.x_val, R.x_fresh, setX, retR, retX, retB, retD, Pv.peek1, Pv.peek2, peek, peeks, boo, argsOf, argOf, slotsOf, distinct, backs, frz, callX, okBi, biD, binD, eqI, neI, ltI, leI, gtI, geI, isN, isnN, isB, isnB, ↓reduceIte, at0, at1, truD, negD, R.x, retOf, outsOf, Bool.false_eq_true, List.contains_nil, Bool.not_false, Bool.not_true, Bool.and_true, Bool.true_and, isiD, tyD, isNon, isBo, frD, h']
    · rw [if_neg h']
      refine bs_seq (ρ1 := [.val (frD p)]) (bs_if (t := false) (ρ1 := [.val (frD p)]) ?_ rfl) rfl
      simp [exB, exS, ev, evOs, evL, evP, evC, evI, List.getElem?_cons_zero, List.getElem?_cons_succ, List.set_cons_zero, List.set_cons_succ, bind_ok, opt_some, opX, R.x_val, R.x_fresh, setX, retR, retX, retB, retD, Pv.peek1, Pv.peek2, peek, peeks, boo, argsOf, argOf, slotsOf, distinct, backs, frz, callX, okBi, biD, binD, eqI, neI, ltI, leI, gtI, geI, isN, isnN, isB, isnB, ↓reduceIte, at0, at1, truD, negD, R.x, retOf, outsOf, Bool.false_eq_true, List.contains_nil, Bool.not_false, Bool.not_true, Bool.and_true, Bool.true_and, isiD, tyD, isNon, isBo, frD, h']
/-! the law's own -/
theorem lfraction_eq {a b : Int} {m : Nat} (hn : 2 ≤ n) (hb : b ≠ 0) (h : B m b) (hm : m ≤ 5000) : (tbl G w n).call "_law_fraction" [.val (.int a), .val (.int b)] = .ok (.val (frD (fr a b)), [.val (.int a), .val (.int b)]) := by
  obtain ⟨k, rfl⟩ := up hn
  have hd := divisor_eq (w := w) (k := k) (a := a) (b := b) h hm
  have h2 := sg_ok (a := a) hb h (by omega)
  refine call_ret (as := [.val (.int a), .val (.int b)]) (ρ := [.val (.int a), .val (.int b), .val (.int (sg a b))]) fn_lfraction rfl rfl ?_
  refine bs_seq (ρ1 := [.val (.int a), .val (.int b), .val (.int (Int.gcd a b : Nat))]) (by simp [exB, exS, ev, evOs, evL, evP, evC, evI, List.getElem?_cons_zero, List.getElem?_cons_succ, List.set_cons_zero, List.set_cons_succ, bind_ok, opt_some, opX, R.x_val, R.x_fresh, setX, retR, retX, retB, retD, Pv.peek1, Pv.peek2, peek, peeks, boo, argsOf, argOf, slotsOf, distinct, backs, frz, callX, okBi, biD, binD, eqI, neI, ltI, leI, gtI, geI, isN, isnN, isB, isnB, ↓reduceIte, at0, at1, truD, negD, R.x, retOf, outsOf, Bool.false_eq_true, List.contains_nil, Bool.not_false, Bool.not_true, Bool.and_true, Bool.true_and, isiD, tyD, isNon, isBo, has_eq fn_divisor, hd]; rfl) ?_
  refine bs_seq (ρ1 := [.val (.int a), .val (.int b), .val (.int (sg a b))]) (bs_if (t := decide (b < 0)) (ρ1 := [.val (.int a), .val (.int b), .val (.int (Int.gcd a b : Nat))]) rfl ?_) (bs_end ?_)
  · by_cases hb : b < 0
    · rw [if_pos (decide_eq_true hb), show sg a b = 0 - (Int.gcd a b : Int) by unfold sg; rw [if_pos hb]; omega]; rfl
    · rw [if_neg (by simpa using hb), show sg a b = (Int.gcd a b : Int) from if_neg hb]; rfl
  · simp [exB, exS, ev, evOs, evL, evP, evC, evI, List.getElem?_cons_zero, List.getElem?_cons_succ, List.set_cons_zero, List.set_cons_succ, bind_ok, opt_some, opX, R.x_val, R.x_fresh, setX, retR, retX, retB, retD, Pv.peek1, Pv.peek2, peek, peeks, boo, argsOf, argOf, slotsOf, distinct, backs, frz, callX, okBi, biD, binD, eqI, neI, ltI, leI, gtI, geI, isN, isnN, isB, isnB, ↓reduceIte, at0, at1, truD, negD, R.x, retOf, outsOf, Bool.false_eq_true, List.contains_nil, Bool.not_false, Bool.not_true, Bool.and_true, Bool.true_and, isiD, tyD, isNon, isBo, h2, lim, LIM, frD, fr]
theorem lplus_eq {p q : Int × Int} {m l : Nat} (hn : 3 ≤ n) (hp : Fr m p) (hq : Fr l q) (hs : m + l ≤ 5000) : (tbl G w n).call "_law_plus" [.val (frD p), .val (frD q)] = .ok (.val (frD (fr (p.1 * q.2 + q.1 * p.2) (p.2 * q.2))), [.val (frD p), .val (frD q)]) := by
  obtain ⟨k, rfl⟩ := up hn
  have h1 := mul_ok hp.b1 hq.b2 (by omega)
  have h2 := mul_ok hq.b1 hp.b2 (by omega)
  have h3 := mul_ok hp.b2 hq.b2 (by omega)
  have h4 : p.2 * q.2 ≠ 0 := Int.mul_ne_zero (by have := hp.pos; omega) (by have := hq.pos; omega)
  have hc := lfraction_eq (w := w) (n := k + 2) (a := p.1 * q.2 + q.1 * p.2) (by omega) h4 (hp.b2.mul hq.b2) (by omega)
  refine call_ret (as := [.val (frD p), .val (frD q)]) (ρ := [.val (frD p), .val (frD q)]) fn_lplus rfl rfl (bs_end ?_)
  unfold frD at *
  simp [exB, exS, ev, evOs, evL, evP, evC, evI, List.getElem?_cons_zero, List.getElem?_cons_succ, List.set_cons_zero, List.set_cons_succ, bind_ok, opt_some, opX, R.x_val, R.x_fresh, setX, retR, retX, retB, retD, Pv.peek1, Pv.peek2, peek, peeks, boo, argsOf, argOf, slotsOf, distinct, backs, frz, callX, okBi, biD, binD, eqI, neI, ltI, leI, gtI, geI, isN, isnN, isB, isnB, ↓reduceIte, at0, at1, truD, negD, R.x, retOf, outsOf, Bool.false_eq_true, List.contains_nil, Bool.not_false, Bool.not_true, Bool.and_true, Bool.true_and, isiD, tyD, isNon, isBo, h1, h2, h3, has_eq fn_lfraction, hc]
  rfl
theorem ltimes_eq {p q : Int × Int} {m l : Nat} (hn : 3 ≤ n) (hp : Fr m p) (hq : Fr l q) (hs : m + l ≤ 5000) : (tbl G w n).call "_law_times" [.val (frD p), .val (frD q)] = .ok (.val (frD (fr (p.1 * q.1) (p.2 * q.2))), [.val (frD p), .val (frD q)]) := by
  obtain ⟨k, rfl⟩ := up hn
  have h1 := mul_ok hp.b1 hq.b1 (by omega)
  have h3 := mul_ok hp.b2 hq.b2 (by omega)
  have h4 : p.2 * q.2 ≠ 0 := Int.mul_ne_zero (by have := hp.pos; omega) (by have := hq.pos; omega)
  have hc := lfraction_eq (w := w) (n := k + 2) (a := p.1 * q.1) (by omega) h4 (hp.b2.mul hq.b2) (by omega)
  refine call_ret (as := [.val (frD p), .val (frD q)]) (ρ := [.val (frD p), .val (frD q)]) fn_ltimes rfl rfl (bs_end ?_)
  unfold frD at *
  simp [exB, exS, ev, evOs, evL, evP, evC, evI, List.getElem?_cons_zero, List.getElem?_cons_succ, List.set_cons_zero, List.set_cons_succ, bind_ok, opt_some, opX, R.x_val, R.x_fresh, setX, retR, retX, retB, retD, Pv.peek1, Pv.peek2, peek, peeks, boo, argsOf, argOf, slotsOf, distinct, backs, frz, callX, okBi, biD, binD, eqI, neI, ltI, leI, gtI, geI, isN, isnN, isB, isnB, ↓reduceIte, at0, at1, truD, negD, R.x, retOf, outsOf, Bool.false_eq_true, List.contains_nil, Bool.not_false, Bool.not_true, Bool.and_true, Bool.true_and, isiD, tyD, isNon, isBo, h1, h3, has_eq fn_lfraction, hc]
  rfl
end Pv.K04
end
section
namespace Pv.K04
open Pv PySem PySem.Spec PyProof.Rows
variable {w k n : Nat}
/-! ### what is folded -/
def addF (p q : Int × Int) : Int × Int := fr (p.1 * q.2 + q.1 * p.2) (p.2 * q.2)
def mulF (p q : Int × Int) : Int × Int := fr (p.1 * q.1) (p.2 * q.2)
theorem addF_ok {m l : Nat} {p q : Int × Int} (hp : Fr m p) (hq : Fr l q) : Fr (m + l + 1) (addF p q) :=
  fr_ok (Int.mul_ne_zero (by have := hp.pos; omega) (by have := hq.pos; omega)) ((hp.b1.mul hq.b2).add ((hq.b1.mul hp.b2).mono (by omega))) ((hp.b2.mul hq.b2).mono (by omega))
theorem mulF_ok {m l : Nat} {p q : Int × Int} (hp : Fr m p) (hq : Fr l q) : Fr (m + l) (mulF p q) :=
  fr_ok (Int.mul_ne_zero (by have := hp.pos; omega) (by have := hq.pos; omega)) (hp.b1.mul hq.b1) (hp.b2.mul hq.b2)
theorem Fr.mono {m l : Nat} {p : Int × Int} (h : Fr m p) (hl : m ≤ l) : Fr l p := ⟨h.pos, h.cop, h.b1.mono hl, h.b2.mono hl⟩
theorem fold_loop {T : Tb} {f : Str} (hf : T.has f = true) {stp : Int × Int → Int × Int → Int × Int}
    (hst : ∀ i acc p, i < 10 → Fr (10 * i + 5) acc → Fr 5 p → T.call f [.val (frD acc), .val (frD p)] = .ok (.val (frD (stp acc p)), [.val (frD acc), .val (frD p)]) ∧ Fr (10 * (i + 1) + 5) (stp acc p)) :
    ∀ (ps : List (Int × Int)) (i : Nat) (acc : Int × Int) (s0 s2 : Slot), i + ps.length ≤ 10 → Fr (10 * i + 5) acc → (∀ p ∈ ps, Fr 5 p) →
      ∃ s2', forL (fun x ρ => (opt (asgT (.one 2) x ρ)).bind fun ρ => exB T [(.set 1 (.call f [(.var 1), (.var 2)]))] ρ) (ps.map frD) [s0, .val (frD acc), s2] = .ok (.nxt, [s0, .val (frD (ps.foldl stp acc)), s2'])
  | [], i, acc, s0, s2, _, _, _ => ⟨s2, rfl⟩
  | p :: ps, i, acc, s0, s2, hl, ha, hp => by
    rw [List.length_cons] at hl
    obtain ⟨h1, h2⟩ := hst i acc p (by omega) ha (hp p List.mem_cons_self)
    obtain ⟨s2', h3⟩ := fold_loop hf hst ps (i + 1) (stp acc p) s0 (.val (frD p)) (by omega) h2 fun q hq => hp q (List.mem_cons_of_mem _ hq)
    refine ⟨s2', ?_⟩
    rw [List.map_cons, forL_cons]
    have e : (opt (asgT (.one 2) (frD p) [s0, .val (frD acc), s2])).bind (fun ρ => exB T [(.set 1 (.call f [(.var 1), (.var 2)]))] ρ) = .ok (.nxt, [s0, .val (frD (stp acc p)), .val (frD p)]) := by
      simp [exB, exS, ev, evOs, evL, evP, evC, evI, List.getElem?_cons_zero, List.getElem?_cons_succ, List.set_cons_zero, List.set_cons_succ, bind_ok, opt_some, opX, R.x_val, R.x_fresh, setX, retR, retX, retB, retD, Pv.peek1, Pv.peek2, peek, peeks, boo, argsOf, argOf, slotsOf, distinct, backs, frz, callX, okBi, biD, binD, eqI, neI, ltI, leI, gtI, geI, isN, isnN, isB, isnB, ↓reduceIte, at0, at1, truD, negD, R.x, retOf, outsOf, Bool.false_eq_true, List.contains_nil, Bool.not_false, Bool.not_true, Bool.and_true, Bool.true_and, isiD, tyD, isNon, isBo, asgT, hf, h1]
    rw [e]
    exact h3
theorem one_ok {l : Nat} : Fr (l + 1) (1, 1) := ⟨by decide, by decide, Nat.one_lt_two_pow (by omega), Nat.one_lt_two_pow (by omega)⟩
theorem nought_ok {l : Nat} : Fr (l + 1) (0, 1) := ⟨by decide, by decide, Nat.two_pow_pos _, Nat.one_lt_two_pow (by omega)⟩
theorem add_step {f : Str} (h : ∀ {p q : Int × Int} {m l : Nat}, Fr m p → Fr l q → m + l ≤ 5000 → (tbl G w n).call f [.val (frD p), .val (frD q)] = .ok (.val (frD (addF p q)), [.val (frD p), .val (frD q)])) :
    ∀ (i : Nat) acc p, i < 10 → Fr (10 * i + 5) acc → Fr 5 p → (tbl G w n).call f [.val (frD acc), .val (frD p)] = .ok (.val (frD (addF acc p)), [.val (frD acc), .val (frD p)]) ∧ Fr (10 * (i + 1) + 5) (addF acc p) := fun i acc p hi ha hp =>
  ⟨h ha hp (by omega), (addF_ok ha hp).mono (by omega)⟩
theorem mul_step {f : Str} (h : ∀ {p q : Int × Int} {m l : Nat}, Fr m p → Fr l q → m + l ≤ 5000 → (tbl G w n).call f [.val (frD p), .val (frD q)] = .ok (.val (frD (mulF p q)), [.val (frD p), .val (frD q)])) :
    ∀ (i : Nat) acc p, i < 10 → Fr (10 * i + 5) acc → Fr 5 p → (tbl G w n).call f [.val (frD acc), .val (frD p)] = .ok (.val (frD (mulF acc p)), [.val (frD acc), .val (frD p)]) ∧ Fr (10 * (i + 1) + 5) (mulF acc p) := fun i acc p hi ha hp =>
  ⟨h ha hp (by omega), (mulF_ok ha hp).mono (by omega)⟩
theorem total_eq {ps : List (Int × Int)} (hn : 3 ≤ n) (hl : ps.length ≤ 10) (hp : ∀ p ∈ ps, Fr 5 p) : (tbl G w n).call "total" [.val (.list (ps.map frD))] = .ok (.val (frD (ps.foldl addF (0, 1))), [.val (.list (ps.map frD))]) := by
  obtain ⟨k, rfl⟩ := up hn
  obtain ⟨s2', h3⟩ := fold_loop (T := tbl G w (k + 2)) (f := "plus") (has_eq fn_plus) (add_step fun hp hq hs => plus_eq (by omega) hp hq (by omega)) ps 0 (0, 1) (.val (.list (ps.map frD))) .un (by omega) (nought_ok (l := 4)) hp
  refine call_ret (as := [.val (.list (ps.map frD))]) (ρ := [.val (.list (ps.map frD)), .val (frD (ps.foldl addF (0, 1))), s2']) fn_total rfl rfl ?_
  refine bs_seq (ρ1 := [.val (.list (ps.map frD)), .val (frD (0, 1)), .un]) (by rw [show (tbl G w (k + 2)) = tbl G w (k + 2) from rfl]; kernel_rfl) ?_
  refine bs_seq (bs_for (ds := ps.map frD) (h := []) (ρ0 := [.val (.list (ps.map frD)), .val (frD (0, 1)), .un]) rfl h3) rfl
theorem product_eq {ps : List (Int × Int)} (hn : 3 ≤ n) (hl : ps.length ≤ 10) (hp : ∀ p ∈ ps, Fr 5 p) : (tbl G w n).call "product" [.val (.tuple (ps.map frD))] = .ok (.val (frD (ps.foldl mulF (1, 1))), [.val (.tuple (ps.map frD))]) := by
  obtain ⟨k, rfl⟩ := up hn
  obtain ⟨s2', h3⟩ := fold_loop (T := tbl G w (k + 2)) (f := "times") (has_eq fn_times) (mul_step fun hp hq hs => times_eq (by omega) hp hq (by omega)) ps 0 (1, 1) (.val (.tuple (ps.map frD))) .un (by omega) (one_ok (l := 4)) hp
  refine call_ret (as := [.val (.tuple (ps.map frD))]) (ρ := [.val (.tuple (ps.map frD)), .val (frD (ps.foldl mulF (1, 1))), s2']) fn_product rfl rfl ?_
  refine bs_seq (ρ1 := [.val (.tuple (ps.map frD)), .val (frD (1, 1)), .un]) (by kernel_rfl) ?_
  refine bs_seq (bs_for (ds := ps.map frD) (h := []) (ρ0 := [.val (.tuple (ps.map frD)), .val (frD (1, 1)), .un]) rfl h3) rfl
theorem lsum_eq {ps : List (Int × Int)} (hn : 4 ≤ n) (hl : ps.length ≤ 10) (hp : ∀ p ∈ ps, Fr 5 p) : (tbl G w n).call "_law_sum" [.own (.list (ps.map frD))] = .ok (.val (frD (ps.foldl addF (0, 1))), [.own (.list (ps.map frD))]) := by
  obtain ⟨k, rfl⟩ := up hn
  obtain ⟨s2', h3⟩ := fold_loop (T := tbl G w (k + 3)) (f := "_law_plus") (has_eq fn_lplus) (add_step fun hp hq hs => lplus_eq (by omega) hp hq (by omega)) ps 0 (0, 1) .un .un (by omega) (nought_ok (l := 4)) hp
  refine call_ret (as := [.own (.list (ps.map frD))]) (ρ := [.own (.list (ps.map frD)), .val (frD (ps.foldl addF (0, 1))), s2']) fn_lsum rfl rfl ?_
  refine bs_seq (ρ1 := [.own (.list (ps.map frD)), .val (frD (0, 1)), .un]) (by kernel_rfl) ?_
  refine bs_seq (bs_for (ds := ps.map frD) (h := [0]) (ρ0 := [.own (.list (ps.map frD)), .val (frD (0, 1)), .un]) rfl h3) rfl
def powF (p : Int × Int) : Nat → Int × Int
  | 0 => (1, 1)
  | i + 1 => mulF (powF p i) p
theorem powF_ok {p : Int × Int} {m : Nat} (hp : Fr m p) : ∀ i, Fr (m * i + 1) (powF p i)
  | 0 => one_ok
  | i + 1 => (mulF_ok (powF_ok hp i) hp).mono (by rw [Nat.mul_succ]; omega)
end Pv.K04
end
section
namespace Pv.K04
open Pv PySem PySem.Spec PyProof.Rows
variable {w k n : Nat}
/-! ### is_fraction, the law's own sameness -/
theorem is_fraction_eq {p : Int × Int} {m : Nat} (hn : 1 ≤ n) (hp : Fr m p) : (tbl G w n).call "is_fraction" [.val (frD p)] = .ok (.val (.bool true), [.val (frD p)]) := by
  obtain ⟨k, rfl⟩ := up hn
  have gz := gcd_true (w := w) (k := k)
  refine call_ret (as := [.val (frD p)]) (ρ := [.val (frD p), .un]) fn_is_fraction rfl rfl ?_
  refine bs_seq (ρ1 := [.val (frD p), .un]) (bs_if (t := false) (ρ1 := [.val (frD p), .un]) (by kernel_rfl) rfl) ?_
  refine bs_seq (ρ1 := [.val (frD p), .un]) (bs_if (t := false) (ρ1 := [.val (frD p), .un]) (by kernel_rfl) rfl) ?_
  refine bs_end ?_
  have h1 := hp.pos
  have h2 := hp.cop
  simp [exB, exS, ev, evOs, evL, evP, evC, evI, List.getElem?_cons_zero, List.getElem?_cons_succ, List.set_cons_zero, List.set_cons_succ, bind_ok, opt_some, opX, R.x_val, R.x_fresh, setX, retR, retX, retB, retD, Pv.peek1, Pv.peek2, peek, peeks, boo, argsOf, argOf, slotsOf, distinct, backs, frz, callX, okBi, biD, binD, eqI, neI, ltI, leI, gtI, geI, isN, isnN, isB, isnB, ↓reduceIte, at0, at1, truD, negD, R.x, retOf, outsOf, Bool.false_eq_true, List.contains_nil, Bool.not_false, Bool.not_true, Bool.and_true, Bool.true_and, isiD, tyD, isNon, isBo, frD, gz, h1, h2]
theorem same_tt (hn : 3 ≤ n) : (tbl G w n).call "_law_same" [.val (.bool true), .val (.bool true)] = .ok (.val (.bool true), [.val (.bool true), .val (.bool true)]) := by
  obtain ⟨k, rfl⟩ := up hn
  kernel_rfl
theorem lowest_eq {p : Int × Int} {a b : Int} {m l : Nat} (hn : 4 ≤ n) (hp : Fr m p) (ha : B l a) (hb : B l b) (hm : m ≤ 4000) (hl : l ≤ 4000) (h : p.1 * b = p.2 * a) : (tbl G w n).call "_law_lowest" [.val (frD p), .val (.int a), .val (.int b)] = .ok (.val (.bool true), [.val (frD p), .val (.int a), .val (.int b)]) := by
  obtain ⟨k, rfl⟩ := up hn
  have h1 := mul_ok hp.b1 hb (by omega)
  have h2 := mul_ok hp.b2 ha (by omega)
  have hd := divisor_eq (w := w) (k := k + 2) (a := p.1) (b := p.2) hp.b2 (by omega)
  have hf := is_fraction_eq (w := w) (n := k + 3) (by omega) hp
  have hs := same_tt (w := w) (n := k + 3) (by omega)
  have h3 := hp.pos
  have h4 := hp.cop
  refine call_ret (as := [.val (frD p), .val (.int a), .val (.int b)]) (ρ := [.val (frD p), .val (.int a), .val (.int b)]) fn_lowest rfl rfl ?_
  refine bs_seq (ρ1 := [.val (frD p), .val (.int a), .val (.int b)]) (bs_if (t := false) (ρ1 := [.val (frD p), .val (.int a), .val (.int b)]) ?_ rfl) (bs_end ?_)
  · unfold frD at *
    simp [exB, exS, ev, evOs, evL, evP, evC, evI, List.getElem?_cons_zero, List.getElem?_cons_succ, List.set_cons_zero, List.set_cons_succ, bind_ok, opt_some, opX, R.x_val, R.x_fresh, setX, retR, retX, retB, retD, Pv.peek1, Pv.peek2, peek, peeks, boo, argsOf, argOf, slotsOf, distinct, backs, frz, callX, okBi, biD, binD, eqI, neI, ltI, leI, gtI, geI, isN, isnN, isB, isnB, ↓reduceIte, at0, at1, truD, negD, R.x, retOf, outsOf, Bool.false_eq_true, List.contains_nil, Bool.not_false, Bool.not_true, Bool.and_true, Bool.true_and, isiD, tyD, isNon, isBo, has_eq fn_is_fraction, has_eq fn_same, hf, hs]
    rfl
  · unfold frD at *
    simp [exB, exS, ev, evOs, evL, evP, evC, evI, List.getElem?_cons_zero, List.getElem?_cons_succ, List.set_cons_zero, List.set_cons_succ, bind_ok, opt_some, opX, R.x_val, R.x_fresh, setX, retR, retX, retB, retD, Pv.peek1, Pv.peek2, peek, peeks, boo, argsOf, argOf, slotsOf, distinct, backs, frz, callX, okBi, biD, binD, eqI, neI, ltI, leI, gtI, geI, isN, isnN, isB, isnB, ↓reduceIte, at0, at1, truD, negD, R.x, retOf, outsOf, Bool.false_eq_true, List.contains_nil, Bool.not_false, Bool.not_true, Bool.and_true, Bool.true_and, isiD, tyD, isNon, isBo, has_eq fn_divisor, h1, h2, hd, h, h3, h4]
/-! the plain form: what data looks like -/
def plI (i : Int) : D := .list [.bool false, .int i]
def plP (p : Int × Int) : D := .list [.bool false, plI p.1, plI p.2]
theorem plain_int {i : Int} (hn : 1 ≤ n) : (tbl G w n).call "_law_plain" [.val (.int i)] = .ok (.fresh (plI i), [.val (.int i)]) := by
  obtain ⟨k, rfl⟩ := up hn
  kernel_rfl
theorem plain_fr {p : Int × Int} (hn : 2 ≤ n) : (tbl G w n).call "_law_plain" [.val (frD p)] = .ok (.fresh (plP p), [.val (frD p)]) := by
  obtain ⟨k, rfl⟩ := up hn
  kernel_rfl
theorem plain_bool {b : Bool} (hn : 1 ≤ n) : (tbl G w n).call "_law_plain" [.val (.bool b)] = .ok (.val (.str (if b then "True" else "False")), [.val (.bool b)]) := by
  obtain ⟨k, rfl⟩ := up hn
  cases b <;> kernel_rfl
def plS (b : Bool) : D := .str (if b then "True" else "False")
theorem plain_four {a b c : Bool} {i : Int} (hn : 2 ≤ n) : (tbl G w n).call "_law_plain" [.val (.list [.bool a, .bool b, .bool c, .int i])] = .ok (.fresh (.list [.bool true, plS a, plS b, plS c, plI i]), [.val (.list [.bool a, .bool b, .bool c, .int i])]) := by
  obtain ⟨k, rfl⟩ := up hn
  cases a <;> cases b <;> cases c <;> kernel_rfl
theorem plain_four' {a b c : Bool} {i : Int} (hn : 2 ≤ n) : (tbl G w n).call "_law_plain" [.own (.list [.bool a, .bool b, .bool c, .int i])] = .ok (.fresh (.list [.bool true, plS a, plS b, plS c, plI i]), [.own (.list [.bool a, .bool b, .bool c, .int i])]) := by
  obtain ⟨k, rfl⟩ := up hn
  cases a <;> cases b <;> cases c <;> kernel_rfl
theorem plain_two {p q : Int × Int} (hn : 3 ≤ n) : (tbl G w n).call "_law_plain" [.val (.list [frD p, frD q])] = .ok (.fresh (.list [.bool true, plP p, plP q]), [.val (.list [frD p, frD q])]) := by
  obtain ⟨k, rfl⟩ := up hn
  kernel_rfl
theorem eq_four {a b c : Bool} {i : Int} : cmpD .eq (.list [.bool true, plS a, plS b, plS c, plI i]) (.list [.bool true, plS a, plS b, plS c, plI i]) = some true := by
  have h : shp (.list [.bool true, plS a, plS b, plS c, plI i]) = true := by cases a <;> cases b <;> cases c <;> kernel_rfl
  have e : PyData.eqv (.list [.bool true, plS a, plS b, plS c, plI i]) (.list [.bool true, plS a, plS b, plS c, plI i]) = true := by
    cases a <;> cases b <;> cases c <;> simp [plS, plI, PyData.eqv, PyData.eqvAll]
  simp only [cmpD, h, e, Bool.and_self, if_true]
theorem eq_two {p q : Int × Int} : cmpD .eq (.list [.bool true, plP p, plP q]) (.list [.bool true, plP p, plP q]) = some true := by
  have h : shp (.list [.bool true, plP p, plP q]) = true := by kernel_rfl
  have e : PyData.eqv (.list [.bool true, plP p, plP q]) (.list [.bool true, plP p, plP q]) = true := by
    simp [plP, plI, PyData.eqv, PyData.eqvAll]
  simp only [cmpD, h, e, Bool.and_self, if_true]
theorem same_four {a b c : Bool} {i : Int} (hn : 3 ≤ n) : (tbl G w n).call "_law_same" [.own (.list [.bool a, .bool b, .bool c, .int i]), .val (.list [.bool a, .bool b, .bool c, .int i])] = .ok (.val (.bool true), [.own (.list [.bool a, .bool b, .bool c, .int i]), .val (.list [.bool a, .bool b, .bool c, .int i])]) := by
  obtain ⟨k, rfl⟩ := up hn
  have h1 := plain_four (w := w) (n := k + 2) (a := a) (b := b) (c := c) (i := i) (by omega)
  have h2 := plain_four' (w := w) (n := k + 2) (a := a) (b := b) (c := c) (i := i) (by omega)
  refine call_ret (as := [.own (.list [.bool a, .bool b, .bool c, .int i]), .val (.list [.bool a, .bool b, .bool c, .int i])]) (ρ := [.own (.list [.bool a, .bool b, .bool c, .int i]), .val (.list [.bool a, .bool b, .bool c, .int i])]) fn_same rfl rfl (bs_end ?_)
  simp [exB, exS, ev, evOs, evL, evP, evC, evI, List.getElem?_cons_zero, List.getElem?_cons_succ, List.set_cons_zero, List.set_cons_succ, bind_ok, opt_some, opX, R.x_val, R.x_fresh, setX, retR, retX, retB, retD, Pv.peek1, Pv.peek2, peek, peeks, boo, argsOf, argOf, slotsOf, distinct, backs, frz, callX, okBi, biD, binD, eqI, neI, ltI, leI, gtI, geI, isN, isnN, isB, isnB, ↓reduceIte, at0, at1, truD, negD, R.x, retOf, outsOf, Bool.false_eq_true, List.contains_nil, Bool.not_false, Bool.not_true, Bool.and_true, Bool.true_and, isiD, tyD, isNon, isBo, has_eq fn_plain, h1, h2, eq_four]
  rfl
theorem same_two {p q : Int × Int} (hn : 4 ≤ n) : (tbl G w n).call "_law_same" [.val (.list [frD p, frD q]), .val (.list [frD p, frD q])] = .ok (.val (.bool true), [.val (.list [frD p, frD q]), .val (.list [frD p, frD q])]) := by
  obtain ⟨k, rfl⟩ := up hn
  have h1 := plain_two (w := w) (n := k + 3) (p := p) (q := q) (by omega)
  refine call_ret (as := [.val (.list [frD p, frD q]), .val (.list [frD p, frD q])]) (ρ := [.val (.list [frD p, frD q]), .val (.list [frD p, frD q])]) fn_same rfl rfl (bs_end ?_)
  simp [exB, exS, ev, evOs, evL, evP, evC, evI, List.getElem?_cons_zero, List.getElem?_cons_succ, List.set_cons_zero, List.set_cons_succ, bind_ok, opt_some, opX, R.x_val, R.x_fresh, setX, retR, retX, retB, retD, Pv.peek1, Pv.peek2, peek, peeks, boo, argsOf, argOf, slotsOf, distinct, backs, frz, callX, okBi, biD, binD, eqI, neI, ltI, leI, gtI, geI, isN, isnN, isB, isnB, ↓reduceIte, at0, at1, truD, negD, R.x, retOf, outsOf, Bool.false_eq_true, List.contains_nil, Bool.not_false, Bool.not_true, Bool.and_true, Bool.true_and, isiD, tyD, isNon, isBo, has_eq fn_plain, h1, eq_two]
  rfl
end Pv.K04
end
section
namespace Pv.K04
open Pv PySem PySem.Spec PyProof.Rows
variable {w k n : Nat}
theorem evI_rng1 {T : Tb} {a : Ex} {ρ : En} {d : D} {xs : List D} (h : ev T a ρ = .ok (.val d, ρ)) (h2 : rngI [d] = some xs) : evI T (.rng [a]) ρ = .ok ((xs, []), ρ) := by
  show (evL T [a] ρ).bind (fun p => (opt (rngI p.1)).bind fun xs => .ok ((xs, []), p.2)) = _
  rw [evL1, h]
  show (opt (rngI [d])).bind _ = _
  rw [h2]; rfl
theorem rng_small : ∀ m, m < 30 → rngOk ((m : Nat) : Int) = true := by decide
theorem rngI_small {m : Nat} (h : m < 30) : rngI [.int (m : Int)] = some (rngL 0 m) := by
  have := rng_small m h
  simp only [rngI, this, if_true]
theorem raised_eq {p : Int × Int} {e : Nat} (hn : 3 ≤ n) (he : e ≤ 10) (hp : Fr 110 p) : (tbl G w n).call "raised" [.val (frD p), .val (.int e)] = .ok (.val (frD (powF p e)), [.val (frD p), .val (.int e)]) := by
  obtain ⟨k, rfl⟩ := up hn
  obtain ⟨ρ', h3, s3, rfl⟩ := forL_inv (turn := fun x ρ => (opt (asgT (.one 3) x ρ)).bind fun ρ => exB (tbl G w (k + 2)) [(.set 2 (.call "times" [(.var 2), (.var 0)]))] ρ)
    (fun i ρ => ∃ s, ρ = [.val (frD p), .val (.int e), .val (frD (powF p i)), s]) (rngL 0 e) 0 [.val (frD p), .val (.int e), .val (frD (1, 1)), .un] ⟨.un, rfl⟩ fun j x ρ hx ⟨s, hρ⟩ => by
      subst hρ
      have hj : j < e := by
        have := (List.getElem?_eq_some_iff.mp hx).1
        rw [rngL_len] at this; omega
      have ht := times_eq (w := w) (n := k + 2) (by omega) (powF_ok hp (0 + j)) hp (by omega)
      rw [Nat.zero_add] at ht ⊢
      refine ⟨[.val (frD p), .val (.int e), .val (frD (mulF (powF p j) p)), .val x], ?_, .val x, rfl⟩
      simp [exB, exS, ev, evOs, evL, evP, evC, evI, List.getElem?_cons_zero, List.getElem?_cons_succ, List.set_cons_zero, List.set_cons_succ, bind_ok, opt_some, opX, R.x_val, R.x_fresh, setX, retR, retX, retB, retD, Pv.peek1, Pv.peek2, peek, peeks, boo, argsOf, argOf, slotsOf, distinct, backs, frz, callX, okBi, biD, binD, eqI, neI, ltI, leI, gtI, geI, isN, isnN, isB, isnB, ↓reduceIte, at0, at1, truD, negD, R.x, retOf, outsOf, Bool.false_eq_true, List.contains_nil, Bool.not_false, Bool.not_true, Bool.and_true, Bool.true_and, isiD, tyD, isNon, isBo, asgT, has_eq fn_times, ht, mulF]
  rw [rngL_len, Nat.zero_add, show ((e : Int) - 0).toNat = e by omega] at h3
  refine call_ret (as := [.val (frD p), .val (.int e)]) (ρ := [.val (frD p), .val (.int e), .val (frD (powF p e)), s3]) fn_raised rfl rfl ?_
  refine bs_seq (ρ1 := [.val (frD p), .val (.int e), .val (frD (1, 1)), .un]) (by kernel_rfl) ?_
  exact bs_seq (bs_for (ds := rngL 0 e) (h := []) (ρ0 := [.val (frD p), .val (.int e), .val (frD (1, 1)), .un]) (evI_rng1 rfl (rngI_small (by omega))) h3) rfl
end Pv.K04
end
section
namespace Pv.K04
open Pv PySem PySem.Spec PyProof.Rows
variable {w k n : Nat}
def ownI (ns : List Int) : Slot := .own (.list (ns.map .int))
theorem binMul {i j : Int} (h : mulOk i j = true) : binD .mul (.int i) (.int j) = some (.val (.int (i * j))) := by simp only [binD, h, if_true]
theorem binAdd (i j : Int) : binD .add (.int i) (.int j) = some (.val (.int (i + j))) := rfl
theorem take_eq {many : Int} (hn : 1 ≤ n) (hm : 0 < many) (ns : List Int) : ∃ ns' v, 0 ≤ v ∧ v < many ∧ (tbl G w n).call "_law_take" [ownI ns, .val (.int many)] = .ok (.val (.int v), [ownI ns', .val (.int many)]) := by
  obtain ⟨k, rfl⟩ := up hn
  rcases List.eq_nil_or_concat ns with rfl | ⟨ms, y, rfl⟩
  · refine ⟨[], 0, by omega, hm, ?_⟩
    exact call_ret (as := [ownI [], .val (.int many)]) (ρ := [ownI [], .val (.int many)]) fn_take rfl rfl (bs_end (bs_if (t := true) (ρ1 := [ownI [], .val (.int many)]) (by simp [exB, exS, ev, evOs, evL, evP, evC, evI, List.getElem?_cons_zero, List.getElem?_cons_succ, List.set_cons_zero, List.set_cons_succ, bind_ok, opt_some, opX, R.x_val, R.x_fresh, setX, retR, retX, retB, retD, Pv.peek1, Pv.peek2, peek, peeks, boo, argsOf, argOf, slotsOf, distinct, backs, frz, callX, okBi, biD, binD, eqI, neI, ltI, leI, gtI, geI, isN, isnN, isB, isnB, ↓reduceIte, at0, at1, truD, negD, R.x, retOf, outsOf, Bool.false_eq_true, List.contains_nil, Bool.not_false, Bool.not_true, Bool.and_true, Bool.true_and, isiD, tyD, isNon, isBo, ownI]; rfl) rfl))
  · rw [List.concat_eq_append]
    refine ⟨ms, y % many, Int.emod_nonneg _ (by omega), Int.emod_lt_of_pos _ hm, ?_⟩
    have hl : (ms ++ [y]).length ≠ 0 := by simp
    refine call_ret (as := [ownI (ms ++ [y]), .val (.int many)]) (ρ := [ownI ms, .val (.int many)]) fn_take rfl rfl ?_
    refine bs_seq (ρ1 := [ownI (ms ++ [y]), .val (.int many)]) (bs_if (t := false) (ρ1 := [ownI (ms ++ [y]), .val (.int many)]) ?_ rfl) (bs_end ?_)
    · unfold ownI
      simp [exB, exS, ev, evOs, evL, evP, evC, evI, List.getElem?_cons_zero, List.getElem?_cons_succ, List.set_cons_zero, List.set_cons_succ, bind_ok, opt_some, opX, R.x_val, R.x_fresh, setX, retR, retX, retB, retD, Pv.peek1, Pv.peek2, peek, peeks, boo, argsOf, argOf, slotsOf, distinct, backs, frz, callX, okBi, biD, binD, eqI, neI, ltI, leI, gtI, geI, isN, isnN, isB, isnB, ↓reduceIte, at0, at1, truD, negD, R.x, retOf, outsOf, Bool.false_eq_true, List.contains_nil, Bool.not_false, Bool.not_true, Bool.and_true, Bool.true_and, isiD, tyD, isNon, isBo]
      exact ⟨by omega, rfl⟩
    · unfold ownI
      simp [exB, exS, ev, evOs, evL, evP, evC, evI, List.getElem?_cons_zero, List.getElem?_cons_succ, List.set_cons_zero, List.set_cons_succ, bind_ok, opt_some, opX, R.x_val, R.x_fresh, setX, retR, retX, retB, retD, Pv.peek1, Pv.peek2, peek, peeks, boo, argsOf, argOf, slotsOf, distinct, backs, frz, callX, okBi, biD, binD, eqI, neI, ltI, leI, gtI, geI, isN, isnN, isB, isnB, ↓reduceIte, at0, at1, truD, negD, R.x, retOf, outsOf, Bool.false_eq_true, List.contains_nil, Bool.not_false, Bool.not_true, Bool.and_true, Bool.true_and, isiD, tyD, isNon, isBo, holds, mutX, muD, hm]
theorem B_of {x : Int} {m : Nat} (h0 : 0 ≤ x) (h : x < 2 ^ m) : B m x := by
  unfold B
  have : ((x.natAbs : Nat) : Int) < ((2 ^ m : Nat) : Int) := by
    rw [Int.natCast_pow]
    show _ < (2 : Int) ^ m
    omega
  exact_mod_cast this
theorem number_eq (hn : 2 ≤ n) (ns : List Int) : ∃ ns' v, B 106 v ∧ (tbl G w n).call "_law_number" [ownI ns] = .ok (.val (.int v), [ownI ns']) := by
  obtain ⟨k, rfl⟩ := up hn
  obtain ⟨n1, way, w0, w1, c1⟩ := take_eq (w := w) (n := k + 1) (many := 4) (by omega) (by omega) ns
  have key : ∃ many num0, 0 < many ∧ many ≤ 1000003 ∧ way = num0 ∧ subD (.list [.int 5, .int 100, .int 1000003, .int 1000003]) (.int way) = some (.int many) := by
    have : way = 0 ∨ way = 1 ∨ way = 2 ∨ way = 3 := by omega
    rcases this with rfl | rfl | rfl | rfl
    · exact ⟨5, 0, by omega, by omega, rfl, rfl⟩
    · exact ⟨100, 1, by omega, by omega, rfl, rfl⟩
    · exact ⟨1000003, 2, by omega, by omega, rfl, rfl⟩
    · exact ⟨1000003, 3, by omega, by omega, rfl, rfl⟩
  obtain ⟨many, _, m0, m1, _, hsub⟩ := key
  obtain ⟨n2, num, u0, u1, c2⟩ := take_eq (w := w) (n := k + 1) (many := many) (by omega) m0 n1
  obtain ⟨n3, t, t0, t1, c3⟩ := take_eq (w := w) (n := k + 1) (many := 2) (by omega) (by omega) n2
  have Bn : B 20 num := B_of u0 (by omega)
  obtain ⟨Z, hZ⟩ : ∃ Z : Int, Z = 10 ^ 25 := ⟨_, rfl⟩
  have B25 : B 84 Z := by rw [hZ]; unfold B; decide
  have hpow : binD .pow (.int 10) (.int 25) = some (.val (.int Z)) := by rw [hZ]; rfl
  have hm25 := mul_ok Bn B25 (by omega)
  have B2t : B 2 (1 - 2 * t) := by unfold B; omega
  have hm2t : mulOk 2 t = true := mul_ok (m := 2) (n := 2) (by unfold B; decide) (by unfold B; omega) (by omega)
  have fin : ∀ v : Int, B 104 v → ∃ ns' u, B 106 u ∧ exS (tbl G w (k + 1)) (.ret (.bin .mul (.var 2) (.bin .sub (.int 1) (.bin .mul (.int 2) (.call "_law_take" [(.var 0), (.int 2)]))))) [ownI n2, .val (.int way), .val (.int v)] = .ok (.ret (.val (.int u)), [ownI ns', .val (.int way), .val (.int v)]) := fun v hv => by
    refine ⟨n3, v * (1 - 2 * t), hv.mul B2t, ?_⟩
    have hm := mul_ok hv B2t (by omega)
    unfold ownI at *
    simp [exB, exS, ev, evOs, evL, evP, evC, evI, List.getElem?_cons_zero, List.getElem?_cons_succ, List.set_cons_zero, List.set_cons_succ, bind_ok, opt_some, opX, R.x_val, R.x_fresh, setX, retR, retX, retB, retD, Pv.peek1, Pv.peek2, peek, peeks, boo, argsOf, argOf, slotsOf, distinct, backs, frz, callX, okBi, biD, binD, eqI, neI, ltI, leI, gtI, geI, isN, isnN, isB, isnB, ↓reduceIte, at0, at1, truD, negD, R.x, retOf, outsOf, Bool.false_eq_true, List.contains_nil, Bool.not_false, Bool.not_true, Bool.and_true, Bool.true_and, isiD, tyD, isNon, isBo, has_eq fn_take, c3, hm, hm2t]
  by_cases hw : way = 3
  · have Bv : B 104 (num * Z + 7) := by
      have h1 : num * Z + 7 < 2 ^ 104 := by
        have : num * Z ≤ 1000003 * Z := Int.mul_le_mul_of_nonneg_right (by omega) (by rw [hZ]; decide)
        have hz2 : Z = 10000000000000000000000000 := hZ
        omega
      exact B_of (by have := Int.mul_nonneg u0 (show 0 ≤ Z by rw [hZ]; decide); omega) h1
    obtain ⟨ns', u, hu, hc⟩ := fin _ Bv
    refine ⟨ns', u, hu, ?_⟩
    refine call_ret (as := [ownI ns]) (ρ := [ownI ns', .val (.int way), .val (.int (num * Z + 7))]) fn_number rfl rfl ?_
    refine bs_seq (ρ1 := [ownI n1, .val (.int way), .un]) ?_ (bs_seq (ρ1 := [ownI n2, .val (.int way), .val (.int num)]) ?_ (bs_seq (ρ1 := [ownI n2, .val (.int way), .val (.int (num * Z + 7))]) (bs_if (t := true) (ρ1 := [ownI n2, .val (.int way), .val (.int num)]) ?_ (bs_seq (ρ1 := [ownI n2, .val (.int way), .val (.int (num * Z + 7))]) ?_ rfl)) (bs_end hc)))
    · unfold ownI at *
      simp [exB, exS, ev, evOs, evL, evP, evC, evI, List.getElem?_cons_zero, List.getElem?_cons_succ, List.set_cons_zero, List.set_cons_succ, bind_ok, opt_some, opX, R.x_val, R.x_fresh, setX, retR, retX, retB, retD, Pv.peek1, Pv.peek2, peek, peeks, boo, argsOf, argOf, slotsOf, distinct, backs, frz, callX, okBi, biD, binD, eqI, neI, ltI, leI, gtI, geI, isN, isnN, isB, isnB, ↓reduceIte, at0, at1, truD, negD, R.x, retOf, outsOf, Bool.false_eq_true, List.contains_nil, Bool.not_false, Bool.not_true, Bool.and_true, Bool.true_and, isiD, tyD, isNon, isBo, has_eq fn_take, c1]
      rfl
    · unfold ownI at *
      simp [exB, exS, ev, evOs, evL, evP, evC, evI, List.getElem?_cons_zero, List.getElem?_cons_succ, List.set_cons_zero, List.set_cons_succ, bind_ok, opt_some, opX, R.x_val, R.x_fresh, setX, retR, retX, retB, retD, Pv.peek1, Pv.peek2, peek, peeks, boo, argsOf, argOf, slotsOf, distinct, backs, frz, callX, okBi, biD, binD, eqI, neI, ltI, leI, gtI, geI, isN, isnN, isB, isnB, ↓reduceIte, at0, at1, truD, negD, R.x, retOf, outsOf, Bool.false_eq_true, List.contains_nil, Bool.not_false, Bool.not_true, Bool.and_true, Bool.true_and, isiD, tyD, isNon, isBo, has_eq fn_take, c2, hsub, lim, LIM]
    · unfold ownI at *
      simp [exB, exS, ev, evOs, evL, evP, evC, evI, List.getElem?_cons_zero, List.getElem?_cons_succ, List.set_cons_zero, List.set_cons_succ, bind_ok, opt_some, opX, R.x_val, R.x_fresh, setX, retR, retX, retB, retD, Pv.peek1, Pv.peek2, peek, peeks, boo, argsOf, argOf, slotsOf, distinct, backs, frz, callX, okBi, biD, binD, eqI, neI, ltI, leI, gtI, geI, isN, isnN, isB, isnB, ↓reduceIte, at0, at1, truD, negD, R.x, retOf, outsOf, Bool.false_eq_true, List.contains_nil, Bool.not_false, Bool.not_true, Bool.and_true, Bool.true_and, isiD, tyD, isNon, isBo, hw]
    · unfold ownI at *
      simp only [exS, ev, List.getElem?_cons_zero, List.getElem?_cons_succ, bind_ok, opt_some, peek2, peek, opX, retX, setX, R.x, hpow, binMul hm25, binAdd, List.set_cons_succ, List.set_cons_zero]
  · have Bv : B 104 num := Bn.mono (by omega)
    obtain ⟨ns', u, hu, hc⟩ := fin _ Bv
    refine ⟨ns', u, hu, ?_⟩
    refine call_ret (as := [ownI ns]) (ρ := [ownI ns', .val (.int way), .val (.int num)]) fn_number rfl rfl ?_
    refine bs_seq (ρ1 := [ownI n1, .val (.int way), .un]) ?_ (bs_seq (ρ1 := [ownI n2, .val (.int way), .val (.int num)]) ?_ (bs_seq (ρ1 := [ownI n2, .val (.int way), .val (.int num)]) (bs_if (t := false) (ρ1 := [ownI n2, .val (.int way), .val (.int num)]) ?_ rfl) (bs_end hc)))
    · unfold ownI at *
      simp [exB, exS, ev, evOs, evL, evP, evC, evI, List.getElem?_cons_zero, List.getElem?_cons_succ, List.set_cons_zero, List.set_cons_succ, bind_ok, opt_some, opX, R.x_val, R.x_fresh, setX, retR, retX, retB, retD, Pv.peek1, Pv.peek2, peek, peeks, boo, argsOf, argOf, slotsOf, distinct, backs, frz, callX, okBi, biD, binD, eqI, neI, ltI, leI, gtI, geI, isN, isnN, isB, isnB, ↓reduceIte, at0, at1, truD, negD, R.x, retOf, outsOf, Bool.false_eq_true, List.contains_nil, Bool.not_false, Bool.not_true, Bool.and_true, Bool.true_and, isiD, tyD, isNon, isBo, has_eq fn_take, c1]
      rfl
    · unfold ownI at *
      simp [exB, exS, ev, evOs, evL, evP, evC, evI, List.getElem?_cons_zero, List.getElem?_cons_succ, List.set_cons_zero, List.set_cons_succ, bind_ok, opt_some, opX, R.x_val, R.x_fresh, setX, retR, retX, retB, retD, Pv.peek1, Pv.peek2, peek, peeks, boo, argsOf, argOf, slotsOf, distinct, backs, frz, callX, okBi, biD, binD, eqI, neI, ltI, leI, gtI, geI, isN, isnN, isB, isnB, ↓reduceIte, at0, at1, truD, negD, R.x, retOf, outsOf, Bool.false_eq_true, List.contains_nil, Bool.not_false, Bool.not_true, Bool.and_true, Bool.true_and, isiD, tyD, isNon, isBo, has_eq fn_take, c2, hsub, lim, LIM]
    · unfold ownI at *
      simp [exB, exS, ev, evOs, evL, evP, evC, evI, List.getElem?_cons_zero, List.getElem?_cons_succ, List.set_cons_zero, List.set_cons_succ, bind_ok, opt_some, opX, R.x_val, R.x_fresh, setX, retR, retX, retB, retD, Pv.peek1, Pv.peek2, peek, peeks, boo, argsOf, argOf, slotsOf, distinct, backs, frz, callX, okBi, biD, binD, eqI, neI, ltI, leI, gtI, geI, isN, isnN, isB, isnB, ↓reduceIte, at0, at1, truD, negD, R.x, retOf, outsOf, Bool.false_eq_true, List.contains_nil, Bool.not_false, Bool.not_true, Bool.and_true, Bool.true_and, isiD, tyD, isNon, isBo, hw]
end Pv.K04
end
section
namespace Pv.K04
open Pv PySem PySem.Spec PyProof.Rows
variable {w k n : Nat} {T : Tb}
theorem binMod {i j : Int} (h : 0 < j) : binD .mod (.int i) (.int j) = some (.val (.int (i % j))) := by simp only [binD, h, if_true]
theorem binDiv {i j : Int} (h : divOk j = true) : binD .fdiv (.int i) (.int j) = some (.val (.int (i.fdiv j))) := by simp only [binD, h, if_true]
theorem div_m : divOk 1000003 = true := by decide
theorem div_11 : divOk 11 = true := by decide
/-- a list's new item -/
theorem mut_app {T : Tb} {ρ ρ1 : En} {i : Nat} {e : Ex} {ds : List Int} {v : Int} (h : ρ[i]? = some (ownI ds)) (he : ev T e ρ = .ok (.val (.int v), ρ)) (hl : ds.length < LIM) (h1 : ρ.set i (ownI (ds ++ [v])) = ρ1) : exS T (.exp (.mut i .append [e])) ρ = .ok (.nxt, ρ1) := by
  have hh : holds ρ i = true := by unfold holds; rw [h]; rfl
  show (ev T (.mut i .append [e]) ρ).bind _ = _
  have : ev T (.mut i .append [e]) ρ = (evL T [e] ρ).bind fun p => mutX i .append p.1 p.2 := by
    show (if holds ρ i = true then _ else _) = _
    rw [if_pos hh]
  rw [this, evL1, he]
  show (mutX i .append [.int v] ρ).bind _ = _
  have hm : mutX i .append [.int v] ρ = .ok (.val .none, ρ1) := by
    unfold mutX
    rw [h]
    show (opt (muD .append (ds.map .int) [.int v])).bind _ = _
    have : muD .append (ds.map .int) [.int v] = some (.none, (ds ++ [v]).map .int) := by
      show (if (ds.map PyData.int).length < LIM then _ else _) = _
      rw [if_pos (by rw [List.length_map]; exact hl), List.map_append]
      rfl
    rw [this]
    show Res.ok (X.val .none, ρ.set i (ownI (ds ++ [v]))) = _
    rw [h1]
  rw [hm]; rfl
def dE (ns : List Int) (ds : List Int) (sd : Int) (s5 s6 s7 s8 : Slot) : En := [.val (.list (ns.map .int)), .val (.int 14), .val (.int 14), ownI ds, .val (.int sd), s5, s6, s7, s8]
theorem innerA {ns ds : List Int} {sd r : Int} {s5 s6 s8 : Slot} (hd : ds.length ≤ 1000) : ∃ ds' r' s8', ds'.length ≤ ds.length + 14 ∧
    forL (fun x ρ => (opt (asgT (.one 8) x ρ)).bind fun ρ => exB T [(.exp (.mut 3 .append [(.bin .mod (.bi .int [(.var 7)]) (.int 1000003))])), (.set 7 (.bin .fdiv (.var 7) (.int 1000003)))] ρ) (rngL 0 14) (dE ns ds sd s5 s6 (.val (.int r)) s8) = .ok (.nxt, dE ns ds' sd s5 s6 (.val (.int r')) s8') := by
  obtain ⟨ρ', h1, ds', r', s8', h2, h3⟩ := forL_inv (turn := fun x ρ => (opt (asgT (.one 8) x ρ)).bind fun ρ => exB T [(.exp (.mut 3 .append [(.bin .mod (.bi .int [(.var 7)]) (.int 1000003))])), (.set 7 (.bin .fdiv (.var 7) (.int 1000003)))] ρ)
    (fun j ρ => ∃ ds' r' s8', ρ = dE ns ds' sd s5 s6 (.val (.int r')) s8' ∧ ds'.length ≤ ds.length + j) (rngL 0 14) 0 _ ⟨ds, r, s8, rfl, by omega⟩ fun j x ρ hx ⟨ds1, r1, t8, e1, e2⟩ => by
      subst e1
      have hj : j < 14 := by
        have := (List.getElem?_eq_some_iff.mp hx).1
        rw [rngL_len] at this; omega
      refine ⟨dE ns (ds1 ++ [r1 % 1000003]) sd s5 s6 (.val (.int (r1.fdiv 1000003))) (.val x), ?_, _, _, _, rfl, by rw [List.length_append]; simp; omega⟩
      refine bs_seq (ρ1 := dE ns (ds1 ++ [r1 % 1000003]) sd s5 s6 (.val (.int r1)) (.val x)) (mut_app (v := r1 % 1000003) rfl ?_ (by unfold LIM; omega) rfl) (bs_seq (ρ1 := dE ns (ds1 ++ [r1 % 1000003]) sd s5 s6 (.val (.int (r1.fdiv 1000003))) (.val x)) ?_ rfl)
      · unfold dE
        simp only [ev, evOs, List.getElem?_cons_zero, List.getElem?_cons_succ, List.set_cons_zero, List.set_cons_succ, bind_ok, opt_some, peek2, peek, peeks, opX, retX, R.x, okBi, if_true, biD, binMod (show (0 : Int) < 1000003 by decide)]
      · unfold dE
        simp only [exS, ev, List.getElem?_cons_zero, List.getElem?_cons_succ, List.set_cons_zero, List.set_cons_succ, bind_ok, opt_some, peek2, peek, opX, retX, setX, R.x, binDiv div_m]
  subst h2
  rw [rngL_len] at h3
  exact ⟨ds', r', s8', by omega, h1⟩
theorem innerB {ns ds : List Int} {sd : Int} {s5 s6 s7 s8 : Slot} (hd : ds.length ≤ 1000) (hs0 : 0 ≤ sd) (hs1 : sd < 2147483647) : ∃ ds' sd' s8', ds'.length ≤ ds.length + 14 ∧ 0 ≤ sd' ∧ sd' < 2147483647 ∧
    forL (fun x ρ => (opt (asgT (.one 8) x ρ)).bind fun ρ => exB T [(.set 4 (.bin .mod (.bi .int [(.bin .add (.bin .add (.bin .mul (.var 4) (.int 69621)) (.var 8)) (.int 3))]) (.int 2147483629))), (.exp (.mut 3 .append [(.bin .mod (.bi .int [(.bin .fdiv (.var 4) (.int 11))]) (.int 1000003))]))] ρ) (rngL 0 14) (dE ns ds sd s5 s6 s7 s8) = .ok (.nxt, dE ns ds' sd' s5 s6 s7 s8') := by
  obtain ⟨ρ', h1, ds', sd', s8', h2, h3, h4, h5⟩ := forL_inv (turn := fun x ρ => (opt (asgT (.one 8) x ρ)).bind fun ρ => exB T [(.set 4 (.bin .mod (.bi .int [(.bin .add (.bin .add (.bin .mul (.var 4) (.int 69621)) (.var 8)) (.int 3))]) (.int 2147483629))), (.exp (.mut 3 .append [(.bin .mod (.bi .int [(.bin .fdiv (.var 4) (.int 11))]) (.int 1000003))]))] ρ)
    (fun j ρ => ∃ ds' sd' s8', ρ = dE ns ds' sd' s5 s6 s7 s8' ∧ ds'.length ≤ ds.length + j ∧ 0 ≤ sd' ∧ sd' < 2147483647) (rngL 0 14) 0 _ ⟨ds, sd, s8, rfl, by omega, hs0, hs1⟩ fun j x ρ hx ⟨ds1, sd1, t8, e1, e2, e3, e4⟩ => by
      subst e1
      have hj : j < 14 := by
        have := (List.getElem?_eq_some_iff.mp hx).1
        rw [rngL_len] at this; omega
      have ex := rngL_get hx
      subst ex
      have hm : mulOk sd1 69621 = true := mul_ok (m := 31) (n := 20) (B_of e3 (by omega)) (by unfold B; decide) (by omega)
      generalize hv : (sd1 * 69621 + (0 + (j : Int)) + 3) % 2147483629 = v
      have v0 : 0 ≤ v := by rw [← hv]; exact Int.emod_nonneg _ (by decide)
      have v1 : v < 2147483629 := by rw [← hv]; exact Int.emod_lt_of_pos _ (by decide)
      refine ⟨dE ns (ds1 ++ [v.fdiv 11 % 1000003]) v s5 s6 s7 (.val (.int (0 + (j : Int)))), ?_, _, _, _, rfl, by rw [List.length_append]; simp; omega, v0, by omega⟩
      refine bs_seq (ρ1 := dE ns ds1 v s5 s6 s7 (.val (.int (0 + (j : Int))))) ?_ (bs_seq (ρ1 := dE ns (ds1 ++ [v.fdiv 11 % 1000003]) v s5 s6 s7 (.val (.int (0 + (j : Int))))) (mut_app (v := v.fdiv 11 % 1000003) rfl ?_ (by unfold LIM; omega) rfl) rfl)
      · unfold dE
        simp only [exS, ev, evOs, List.getElem?_cons_zero, List.getElem?_cons_succ, List.set_cons_zero, List.set_cons_succ, bind_ok, opt_some, peek2, peek, peeks, opX, retX, setX, R.x, okBi, if_true, biD, binMul hm, binAdd, binMod (show (0 : Int) < 2147483629 by decide), hv]
      · unfold dE
        simp only [ev, evOs, List.getElem?_cons_zero, List.getElem?_cons_succ, List.set_cons_zero, List.set_cons_succ, bind_ok, opt_some, peek2, peek, peeks, opX, retX, R.x, okBi, if_true, biD, binDiv div_11, binMod (show (0 : Int) < 1000003 by decide)]
  subst h2
  rw [rngL_len] at h3
  exact ⟨ds', sd', s8', by omega, h4, h5, h1⟩
end Pv.K04
end
section
namespace Pv.K04
open Pv PySem PySem.Spec PyProof.Rows
variable {w k n : Nat} {T : Tb}
def bA : List St := [(.exp (.mut 3 .append [(.bin .mod (.bi .int [(.var 7)]) (.int 1000003))])), (.set 7 (.bin .fdiv (.var 7) (.int 1000003)))]
def bB : List St := [(.set 4 (.bin .mod (.bi .int [(.bin .add (.bin .add (.bin .mul (.var 4) (.int 69621)) (.var 8)) (.int 3))]) (.int 2147483629))), (.exp (.mut 3 .append [(.bin .mod (.bi .int [(.bin .fdiv (.var 4) (.int 11))]) (.int 1000003))]))]
def bO : List St := [(.set 6 (.int 0)), (.ifs (.cmp .lt (.var 5) (.bi .len [(.var 0)])) [(.set 6 (.sub (.var 0) (.var 5)))] []), (.set 7 (.bi .abs [(.var 6)])), (.ifs (.cmp .ge (.var 7) (.bin .pow (.int 10) (.int 30))) [(.fo (.one 8) (.rng [(.var 2)]) bA)] [(.set 4 (.bin .mod (.bi .int [(.bin .add (.bin .add (.bin .add (.bin .mul (.var 4) (.int 48271)) (.bin .mul (.int 5) (.var 7))) (.bin .mul (.int 2) (.bi .int [(.cmp .lt (.var 6) (.int 0))]))) (.var 5))]) (.int 2147483647))), (.fo (.one 8) (.rng [(.var 2)]) bB)])]
theorem rng14 : rngI [PyData.int 14] = some (rngL 0 14) := rngI_small (m := 14) (by omega)
theorem outer {ns ds : List Int} {sd : Int} {j : Nat} {s5 s6 s7 s8 : Slot} (hn : ns.length ≤ 63) (hd : ds.length ≤ 900) (hs0 : 0 ≤ sd) (hs1 : sd < 2147483647) (hj : j < 14) : ∃ ds' sd' s6' s7' s8', ds'.length ≤ ds.length + 14 ∧ 0 ≤ sd' ∧ sd' < 2147483647 ∧
    exB T bO (dE ns ds sd (.val (.int (j : Int))) s6 s7 s8) = .ok (.nxt, dE ns ds' sd' (.val (.int (j : Int))) s6' s7' s8') := by
  have hcell : ∃ cell : Int, exS T (.ifs (.cmp .lt (.var 5) (.bi .len [(.var 0)])) [(.set 6 (.sub (.var 0) (.var 5)))] []) (dE ns ds sd (.val (.int (j : Int))) (.val (.int 0)) s7 s8) = .ok (.nxt, dE ns ds sd (.val (.int (j : Int))) (.val (.int cell)) s7 s8) := by
    by_cases h : j < ns.length
    · have hx : (ns.map PyData.int)[j]? = some (.int ns[j]) := by rw [List.getElem?_map, List.getElem?_eq_getElem h]; rfl
      have hat : subD (.list (ns.map .int)) (.int (j : Int)) = some (.int ns[j]) := L2.atI_nat hx
      refine ⟨ns[j], bs_if (t := true) (ρ1 := dE ns ds sd (.val (.int (j : Int))) (.val (.int 0)) s7 s8) ?_ (bs_seq (ρ1 := dE ns ds sd (.val (.int (j : Int))) (.val (.int ns[j])) s7 s8) ?_ rfl)⟩
      · unfold dE
        simp only [ev, evOs, List.getElem?_cons_zero, List.getElem?_cons_succ, bind_ok, opt_some, peek2, peek, peeks, opX, retX, retB, R.x, okBi, if_true, biD, ltI, boo, List.length_map]
        rw [decide_eq_true (by omega)]
      · unfold dE
        simp only [exS, ev, List.getElem?_cons_zero, List.getElem?_cons_succ, List.set_cons_zero, List.set_cons_succ, bind_ok, opt_some, peek2, peek, opX, retD, setX, hat]
    · refine ⟨0, bs_if (t := false) (ρ1 := dE ns ds sd (.val (.int (j : Int))) (.val (.int 0)) s7 s8) ?_ rfl⟩
      unfold dE
      simp only [ev, evOs, List.getElem?_cons_zero, List.getElem?_cons_succ, bind_ok, opt_some, peek2, peek, peeks, opX, retX, retB, R.x, okBi, if_true, biD, ltI, boo, List.length_map]
      rw [decide_eq_false (by omega)]
  obtain ⟨cell, hc⟩ := hcell
  obtain ⟨Z, hZ⟩ : ∃ Z : Int, Z = 10 ^ 30 := ⟨_, rfl⟩
  have hpow : binD .pow (.int 10) (.int 30) = some (.val (.int Z)) := by rw [hZ]; rfl
  have test : ∀ t, decide (Z ≤ (cell.natAbs : Int)) = t → (ev T (.cmp .ge (.var 7) (.bin .pow (.int 10) (.int 30))) (dE ns ds sd (.val (.int (j : Int))) (.val (.int cell)) (.val (.int (cell.natAbs : Int))) s8)).bind boo = .ok (t, dE ns ds sd (.val (.int (j : Int))) (.val (.int cell)) (.val (.int (cell.natAbs : Int))) s8) := fun t ht => by
    unfold dE
    simp only [ev, List.getElem?_cons_zero, List.getElem?_cons_succ, bind_ok, opt_some, peek2, peek, opX, retX, retB, R.x, hpow, geI, boo, ht]
  by_cases hbig : Z ≤ (cell.natAbs : Int)
  · obtain ⟨ds', r', s8', h1, h2⟩ := innerA (T := T) (ns := ns) (ds := ds) (sd := sd) (r := (cell.natAbs : Int)) (s5 := .val (.int (j : Int))) (s6 := .val (.int cell)) (s8 := s8) (by omega)
    refine ⟨ds', sd, .val (.int cell), .val (.int r'), s8', h1, hs0, hs1, ?_⟩
    refine bs_seq (ρ1 := dE ns ds sd (.val (.int (j : Int))) (.val (.int 0)) s7 s8) rfl (bs_seq hc (bs_seq (ρ1 := dE ns ds sd (.val (.int (j : Int))) (.val (.int cell)) (.val (.int (cell.natAbs : Int))) s8) rfl (bs_seq (bs_if (test true (decide_eq_true hbig)) ?_) bs_nil)))
    show exB T _ _ = _
    exact bs_seq (bs_for (ds := rngL 0 14) (h := []) (ρ0 := dE ns ds sd (.val (.int (j : Int))) (.val (.int cell)) (.val (.int (cell.natAbs : Int))) s8) (evI_rng1 rfl rng14) h2) bs_nil
  · have hr : cell.natAbs < 2 ^ 100 := by
      have : (cell.natAbs : Int) < 10 ^ 30 := by omega
      have : (cell.natAbs : Int) < 2 ^ 100 := by omega
      exact_mod_cast this
    have m1 : mulOk sd 48271 = true := mul_ok (m := 31) (n := 16) (B_of hs0 (by omega)) (by unfold B; decide) (by omega)
    have m2 : mulOk 5 (cell.natAbs : Int) = true := mul_ok (m := 3) (n := 100) (by unfold B; decide) (by unfold B; omega) (by omega)
    have m3 : mulOk 2 (if decide (cell < 0) then 1 else 0) = true := by cases decide (cell < 0) <;> decide
    generalize hv : (sd * 48271 + 5 * (cell.natAbs : Int) + 2 * (if decide (cell < 0) then 1 else 0) + (j : Int)) % 2147483647 = v
    have v0 : 0 ≤ v := by rw [← hv]; exact Int.emod_nonneg _ (by decide)
    have v1 : v < 2147483647 := by rw [← hv]; exact Int.emod_lt_of_pos _ (by decide)
    obtain ⟨ds', sd', s8', h1, h2, h3, h4⟩ := innerB (T := T) (ns := ns) (ds := ds) (sd := v) (s5 := .val (.int (j : Int))) (s6 := .val (.int cell)) (s7 := .val (.int (cell.natAbs : Int))) (s8 := s8) (by omega) v0 v1
    refine ⟨ds', sd', .val (.int cell), .val (.int (cell.natAbs : Int)), s8', h1, h2, h3, ?_⟩
    refine bs_seq (ρ1 := dE ns ds sd (.val (.int (j : Int))) (.val (.int 0)) s7 s8) rfl (bs_seq hc (bs_seq (ρ1 := dE ns ds sd (.val (.int (j : Int))) (.val (.int cell)) (.val (.int (cell.natAbs : Int))) s8) rfl (bs_seq (bs_if (test false (decide_eq_false hbig)) ?_) bs_nil)))
    show exB T _ _ = _
    refine bs_seq (ρ1 := dE ns ds v (.val (.int (j : Int))) (.val (.int cell)) (.val (.int (cell.natAbs : Int))) s8) ?_ (bs_seq (bs_for (ds := rngL 0 14) (h := []) (ρ0 := dE ns ds v (.val (.int (j : Int))) (.val (.int cell)) (.val (.int (cell.natAbs : Int))) s8) (evI_rng1 rfl rng14) h4) bs_nil)
    unfold dE
    simp only [exS, ev, evOs, List.getElem?_cons_zero, List.getElem?_cons_succ, List.set_cons_zero, List.set_cons_succ, bind_ok, opt_some, peek2, peek, peeks, opX, retX, retB, setX, R.x, okBi, if_true, biD, ltI, binMul m1, binMul m2, binMul m3, binAdd, binMod (show (0 : Int) < 2147483647 by decide), hv]
theorem deck_eq {ns : List Int} (hn : 1 ≤ n) (hl : ns.length ≤ 63) : ∃ ds : List Int, (tbl G w n).call "_law_deck" [.val (.list (ns.map .int)), .val (.int 14), .val (.int 14)] = .ok (.fresh (.list (ds.map .int)), [.val (.list (ns.map .int)), .val (.int 14), .val (.int 14)]) := by
  obtain ⟨k, rfl⟩ := up hn
  obtain ⟨ρ', h1, ds, sd, s5, s6, s7, s8, h2, _⟩ := forL_inv (turn := fun x ρ => (opt (asgT (.one 5) x ρ)).bind fun ρ => exB (tbl G w k) bO ρ)
    (fun i ρ => ∃ ds sd s5 s6 s7 s8, ρ = dE ns ds sd s5 s6 s7 s8 ∧ ds.length ≤ 14 * i ∧ 0 ≤ sd ∧ sd < 2147483647) (rngL 0 14) 0 (dE ns [] (19 + (ns.length : Int)) .un .un .un .un) ⟨[], _, _, _, _, _, rfl, by simp, by omega, by omega⟩ fun j x ρ hx ⟨ds, sd, s5, s6, s7, s8, e1, e2, e3, e4⟩ => by
      subst e1
      have hj : j < 14 := by
        have := (List.getElem?_eq_some_iff.mp hx).1
        rw [rngL_len] at this; omega
      have ex := rngL_get hx
      rw [Int.zero_add] at ex
      subst ex
      obtain ⟨ds', sd', s6', s7', s8', q1, q2, q3, q4⟩ := outer (T := tbl G w k) (s5 := s5) (s6 := s6) (s7 := s7) (s8 := s8) hl (show ds.length ≤ 900 by omega) e3 e4 hj
      exact ⟨_, q4, ds', sd', _, _, _, _, rfl, by omega, q2, q3⟩
  subst h2
  refine ⟨ds.reverse, ?_⟩
  refine call_ret (as := [.val (.list (ns.map .int)), .val (.int 14), .val (.int 14)]) (ρ := (dE ns ds.reverse sd s5 s6 s7 s8).set 3 .un) fn_deck rfl rfl ?_
  refine bs_seq (ρ1 := [.val (.list (ns.map .int)), .val (.int 14), .val (.int 14), ownI [], .un, .un, .un, .un, .un]) rfl ?_
  refine bs_seq (ρ1 := dE ns [] (19 + (ns.length : Int)) .un .un .un .un) ?_ ?_
  · unfold dE
    simp only [exS, ev, evOs, List.getElem?_cons_zero, List.getElem?_cons_succ, List.set_cons_zero, List.set_cons_succ, bind_ok, opt_some, peek2, peek, peeks, opX, retX, setX, R.x, okBi, if_true, biD, binAdd, List.length_map]
  refine bs_seq (bs_for (ds := rngL 0 14) (h := []) (ρ0 := dE ns [] (19 + (ns.length : Int)) .un .un .un .un) (evI_rng1 rfl rng14) h1) ?_
  refine bs_seq (ρ1 := dE ns ds.reverse sd s5 s6 s7 s8) ?_ rfl
  have e1 : ev (tbl G w k) (.mut 3 .reverse []) (dE ns ds sd s5 s6 s7 s8) = .ok (.val .none, dE ns ds.reverse sd s5 s6 s7 s8) := by
    unfold dE ownI
    simp only [ev, evL, holds, List.getElem?_cons_zero, List.getElem?_cons_succ, List.set_cons_zero, List.set_cons_succ, if_true, bind_ok, mutX, muD, opt_some, List.map_reverse]
  have e2 : exS (tbl G w k) (.exp (.mut 3 .reverse [])) (dE ns ds sd s5 s6 s7 s8) = .ok (.nxt, dE ns ds.reverse sd s5 s6 s7 s8) := by
    simp only [exS, e1, bind_ok]
  exact e2
end Pv.K04
end
section
namespace Pv.K04
open Pv PySem PySem.Spec PyProof.Rows
variable {w k n : Nat}

section
variable {T : Tb} {ρ ρ1 ρ2 : En}
theorem ev_call {f : Str} {es : List Ex} {os : List Op} {as outs : List Slot} {r : R} (hf : T.has f = true) (h : evOs T es ρ = .ok (os, ρ1)) (ha : argsOf ρ1 os = some as) (hd : distinct (slotsOf os) = true) (hc : T.call f as = .ok (r, outs)) (hb : backs os as outs ρ1 = ρ2) : ev T (.call f es) ρ = .ok (r.x, ρ2) := by
  show (if T.has f = true then (evOs T es ρ).bind fun p => callX T f p.1 p.2 else .bad) = _
  rw [if_pos hf, h, bind_ok]
  unfold callX
  simp only [ha, hd, if_true, hc, hb]
theorem ev_bin {o : Bop} {a b : Ex} {x y : X} {d e : D} {r : R} (h1 : ev T a ρ = .ok (x, ρ1)) (h2 : ev T b ρ1 = .ok (y, ρ2)) (hp : Pv.peek2 ρ2 (opX x) (opX y) = .ok (d, e)) (hr : binD o d e = some r) : ev T (.bin o a b) ρ = .ok (r.x, ρ2) := by
  show ((ev T a ρ).bind fun p => (ev T b p.2).bind fun q => (Pv.peek2 q.2 (opX p.1) (opX q.1)).bind fun de => (opt (binD o de.1 de.2)).bind (retX q.2)) = _
  rw [h1, bind_ok, h2, bind_ok, hp, bind_ok, hr]; rfl
theorem ev_tru {a : Ex} {d : D} {t : Bool} (h : ev T a ρ = .ok (.val d, ρ1)) (ht : truD d = some t) : ev T (.tru a) ρ = .ok (.val (.bool t), ρ1) := by
  show ((ev T a ρ).bind fun p => (Pv.peek1 p.2 (opX p.1)).bind fun d => (opt (truD d)).bind (retB p.2)) = _
  rw [h, bind_ok]
  show (opt (truD d)).bind _ = _
  rw [ht]; rfl
theorem ev_not {a : Ex} {t : Bool} (h : ev T a ρ = .ok (.val (.bool t), ρ1)) : ev T (.not a) ρ = .ok (.val (.bool (!t)), ρ1) := by
  show ((ev T a ρ).bind fun p => (boo p).bind fun c => retB c.2 (!c.1)) = _
  rw [h]; rfl
theorem ev_orF {a b : Ex} {t : Bool} (h : ev T a ρ = .ok (.val (.bool false), ρ1)) (h2 : ev T b ρ1 = .ok (.val (.bool t), ρ2)) : ev T (.or a b) ρ = .ok (.val (.bool t), ρ2) := by
  show ((ev T a ρ).bind fun p => (boo p).bind fun c => if c.1 then retB c.2 true else ev T b c.2) = _
  rw [h]; exact h2
theorem ev_cmp {o : Cop} {a b : Ex} {x y : X} {d e : D} {r : Bool} (h1 : ev T a ρ = .ok (x, ρ1)) (h2 : ev T b ρ1 = .ok (y, ρ2)) (hp : Pv.peek2 ρ2 (opX x) (opX y) = .ok (d, e)) (hr : cmpD o d e = some r) : ev T (.cmp o a b) ρ = .ok (.val (.bool r), ρ2) := by
  show ((ev T a ρ).bind fun p => (ev T b p.2).bind fun q => (Pv.peek2 q.2 (opX p.1) (opX q.1)).bind fun de => (opt (cmpD o de.1 de.2)).bind (retB q.2)) = _
  rw [h1, bind_ok, h2, bind_ok, hp, bind_ok, hr]; rfl
theorem evOs_cons {e : Ex} {es : List Ex} {x : X} {os : List Op} (h : ev T e ρ = .ok (x, ρ1)) (h2 : evOs T es ρ1 = .ok (os, ρ2)) : evOs T (e :: es) ρ = .ok (opX x :: os, ρ2) := by
  show (ev T e ρ).bind (fun p => (evOs T es p.2).bind fun q => .ok (opX p.1 :: q.1, q.2)) = _
  rw [h, bind_ok, h2]; rfl
theorem evL_cons {e : Ex} {es : List Ex} {d : D} {ds : List D} (h : (ev T e ρ).bind frz = .ok (d, ρ1)) (h2 : evL T es ρ1 = .ok (ds, ρ2)) : evL T (e :: es) ρ = .ok (d :: ds, ρ2) := by
  show ((ev T e ρ).bind frz).bind (fun p => (evL T es p.2).bind fun q => .ok (p.1 :: q.1, q.2)) = _
  rw [h, bind_ok, h2]; rfl
theorem frz_val {e : Ex} {d : D} (h : ev T e ρ = .ok (.val d, ρ1)) : (ev T e ρ).bind frz = .ok (d, ρ1) := by rw [h]; rfl
theorem frz_fresh {e : Ex} {d : D} (h : ev T e ρ = .ok (.fresh d, ρ1)) : (ev T e ρ).bind frz = .ok (d, ρ1) := by rw [h]; rfl
theorem ev_lst {es : List Ex} {ds : List D} (h : evL T es ρ = .ok (ds, ρ1)) (hl : ds.length ≤ LIM) : ev T (.lst es) ρ = .ok (.fresh (.list ds), ρ1) := by
  show (evL T es ρ).bind (fun p => lim p.1 (Res.ok (X.fresh (.list p.1), p.2))) = _
  rw [h, bind_ok]
  exact if_pos hl
theorem bs_set {i : Nat} {e : Ex} {d : D} (h : ev T e ρ = .ok (.val d, ρ1)) (h2 : ρ1.set i (.val d) = ρ2) : exS T (.set i e) ρ = .ok (.nxt, ρ2) := by
  show (ev T e ρ).bind (setX i) = _
  rw [h, ← h2]; rfl
theorem bs_setF {i : Nat} {e : Ex} {d : D} (h : ev T e ρ = .ok (.fresh d, ρ1)) (h2 : ρ1.set i (.own d) = ρ2) : exS T (.set i e) ρ = .ok (.nxt, ρ2) := by
  show (ev T e ρ).bind (setX i) = _
  rw [h, ← h2]; rfl
theorem mut_appD {i : Nat} {e : Ex} {ds : List D} {v : D} (h : ρ[i]? = some (.own (.list ds))) (he : (ev T e ρ).bind frz = .ok (v, ρ1)) (h' : ρ1[i]? = some (.own (.list ds))) (hl : ds.length < LIM) (h1 : ρ1.set i (.own (.list (ds ++ [v]))) = ρ2) : exS T (.exp (.mut i .append [e])) ρ = .ok (.nxt, ρ2) := by
  have hh : holds ρ i = true := by unfold holds; rw [h]
  have e1 : ev T (.mut i .append [e]) ρ = (evL T [e] ρ).bind fun p => mutX i .append p.1 p.2 := by
    show (if holds ρ i = true then _ else _) = _
    rw [if_pos hh]
  have hm : mutX i .append [v] ρ1 = .ok (.val .none, ρ2) := by
    have hmu : muD .append ds [v] = some (.none, ds ++ [v]) := if_pos hl
    unfold mutX
    simp only [h', hmu, opt_some, bind_ok, h1]
  show (ev T (.mut i .append [e]) ρ).bind (fun p => Res.ok (Fl.nxt, p.2)) = _
  rw [e1, evL1, he, bind_ok, hm]; rfl
end
def bR : List St := [(.ifs (.not (.tru (.call "_law_lowest" [(.var 13), (.var 10), (.var 11)]))) [(.ret (.bl false))] [])]
def RowD (d : D) : Prop := ∃ (p : Int × Int) (A Bv : Int), d = .list [frD p, .int A, .int Bv] ∧ Fr 2000 p ∧ B 2000 A ∧ B 2000 Bv ∧ p.1 * Bv = p.2 * A
theorem rows_loop (hn : 4 ≤ n) {S : Slot} {s0 s1 s2 s3 s4 s5 s6 s7 s8 s9 s12 s14 s15 s16 s17 s18 s19 : Slot} : ∀ (rs : List D) (x10 x11 x13 : Slot), (∀ r ∈ rs, RowD r) → ∃ y10 y11 y13, forL (fun x ρ => (opt (asgT (.tup [13, 10, 11]) x ρ)).bind fun ρ => exB (tbl G w n) bR ρ) rs [s0, s1, s2, s3, s4, s5, s6, s7, s8, s9, x10, x11, s12, x13, s14, s15, s16, s17, s18, s19] = .ok (.nxt, [s0, s1, s2, s3, s4, s5, s6, s7, s8, s9, y10, y11, s12, y13, s14, s15, s16, s17, s18, s19])
  | [], x10, x11, x13, _ => ⟨x10, x11, x13, rfl⟩
  | d :: rs, x10, x11, x13, h => by
    obtain ⟨p, A, Bv, rfl, h1, h2, h3, h4⟩ := h d List.mem_cons_self
    have hl := lowest_eq (w := w) (n := n) hn h1 h2 h3 (by omega) (by omega) h4
    obtain ⟨y10, y11, y13, e⟩ := rows_loop (S := S) hn rs (.val (.int A)) (.val (.int Bv)) (.val (frD p)) fun r hr => h r (List.mem_cons_of_mem _ hr)
    refine ⟨y10, y11, y13, ?_⟩
    rw [forL_cons]
    have ea : asgT (.tup [13, 10, 11]) (.list [frD p, .int A, .int Bv]) [s0, s1, s2, s3, s4, s5, s6, s7, s8, s9, x10, x11, s12, x13, s14, s15, s16, s17, s18, s19] = some [s0, s1, s2, s3, s4, s5, s6, s7, s8, s9, .val (.int A), .val (.int Bv), s12, .val (frD p), s14, s15, s16, s17, s18, s19] := rfl
    rw [ea, opt_some, bind_ok]
    have ec := ev_call (ρ := [s0, s1, s2, s3, s4, s5, s6, s7, s8, s9, .val (.int A), .val (.int Bv), s12, .val (frD p), s14, s15, s16, s17, s18, s19]) (es := [(.var 13), (.var 10), (.var 11)]) (has_eq (k := n) fn_lowest) rfl rfl rfl hl rfl
    have eb : exB (tbl G w n) bR [s0, s1, s2, s3, s4, s5, s6, s7, s8, s9, .val (.int A), .val (.int Bv), s12, .val (frD p), s14, s15, s16, s17, s18, s19] = .ok (.nxt, [s0, s1, s2, s3, s4, s5, s6, s7, s8, s9, .val (.int A), .val (.int Bv), s12, .val (frD p), s14, s15, s16, s17, s18, s19]) :=
      bs_seq (bs_if (t := false) (by rw [ev_not (ev_tru ec rfl)]; rfl) rfl) rfl
    rw [eb]
    exact e
end Pv.K04
end
section
namespace Pv.K04
open Pv PySem PySem.Spec PyProof.Rows
variable {w k n : Nat}

theorem B_one {x : Int} : B (110 * 0 + 1) (x ^ 0) := by
  rw [Int.pow_zero]
  unfold B; decide
theorem pow_loop {T : Tb} {a b : Int} {S s0 s1 s4 s5 s6 s7 s8 s9 s12 s13 s14 s15 s16 s17 s18 s19 : Slot} (ha : B 110 a) (hb : B 110 b) (e : Nat) (he : e ≤ 10) : ∃ y12, forL (fun x ρ => (opt (asgT (.one 12) x ρ)).bind fun ρ => exB T [(.set 10 (.bin .mul (.var 10) (.var 2))), (.set 11 (.bin .mul (.var 11) (.var 3)))] ρ) (rngL 0 e) [s0, s1, .val (.int a), .val (.int b), s4, s5, s6, s7, s8, s9, .val (.int (a ^ 0)), .val (.int (b ^ 0)), s12, s13, s14, s15, s16, s17, s18, s19] = .ok (.nxt, [s0, s1, .val (.int a), .val (.int b), s4, s5, s6, s7, s8, s9, .val (.int (a ^ e)), .val (.int (b ^ e)), y12, s13, s14, s15, s16, s17, s18, s19]) ∧ B (110 * e + 1) (a ^ e) ∧ B (110 * e + 1) (b ^ e) := by
  obtain ⟨ρ', h1, y12, h2, h3, h4⟩ := forL_inv (turn := fun x ρ => (opt (asgT (.one 12) x ρ)).bind fun ρ => exB T [(.set 10 (.bin .mul (.var 10) (.var 2))), (.set 11 (.bin .mul (.var 11) (.var 3)))] ρ)
    (fun i ρ => ∃ y12, ρ = [s0, s1, .val (.int a), .val (.int b), s4, s5, s6, s7, s8, s9, .val (.int (a ^ i)), .val (.int (b ^ i)), y12, s13, s14, s15, s16, s17, s18, s19] ∧ B (110 * i + 1) (a ^ i) ∧ B (110 * i + 1) (b ^ i)) (rngL 0 e) 0 [s0, s1, .val (.int a), .val (.int b), s4, s5, s6, s7, s8, s9, .val (.int (a ^ 0)), .val (.int (b ^ 0)), s12, s13, s14, s15, s16, s17, s18, s19] ⟨s12, rfl, B_one, B_one⟩ fun j x ρ hx ⟨t12, e1, e2, e3⟩ => by
      subst e1
      have hj : j < e := by
        have := (List.getElem?_eq_some_iff.mp hx).1
        rw [rngL_len] at this; omega
      rw [Nat.zero_add] at e2 e3 ⊢
      have m1 := mul_ok e2 ha (by omega)
      have m2 := mul_ok e3 hb (by omega)
      refine ⟨[s0, s1, .val (.int a), .val (.int b), s4, s5, s6, s7, s8, s9, .val (.int (a ^ j * a)), .val (.int (b ^ j * b)), .val x, s13, s14, s15, s16, s17, s18, s19], ?_, .val x, by rw [Int.pow_succ, Int.pow_succ], by rw [Int.pow_succ]; exact (e2.mul ha).mono (by omega), by rw [Int.pow_succ]; exact (e3.mul hb).mono (by omega)⟩
      show exB T _ [s0, s1, .val (.int a), .val (.int b), s4, s5, s6, s7, s8, s9, .val (.int (a ^ j)), .val (.int (b ^ j)), .val x, s13, s14, s15, s16, s17, s18, s19] = _
      exact bs_seq (ρ1 := [s0, s1, .val (.int a), .val (.int b), s4, s5, s6, s7, s8, s9, .val (.int (a ^ j * a)), .val (.int (b ^ j)), .val x, s13, s14, s15, s16, s17, s18, s19]) (bs_set (d := .int (a ^ j * a)) (ev_bin (x := .val (.int (a ^ j))) (y := .val (.int a)) rfl rfl rfl (binMul m1)) rfl) (bs_seq (ρ1 := [s0, s1, .val (.int a), .val (.int b), s4, s5, s6, s7, s8, s9, .val (.int (a ^ j * a)), .val (.int (b ^ j * b)), .val x, s13, s14, s15, s16, s17, s18, s19]) (bs_set (d := .int (b ^ j * b)) (ev_bin (x := .val (.int (b ^ j))) (y := .val (.int b)) rfl rfl rfl (binMul m2)) rfl) rfl)
  subst h2
  rw [rngL_len, Nat.zero_add, show ((e : Int) - 0).toNat = e by omega] at h1 h3 h4
  exact ⟨y12, h1, h3, h4⟩
end Pv.K04
end
section
namespace Pv.K04
open Pv PySem PySem.Spec PyProof.Rows
variable {w k n : Nat}

def eM : Ex := (.call "_law_fraction" [(.bin .sub (.call "_law_take" [(.var 1), (.int 20)]) (.int 9)), (.bin .add (.int 1) (.call "_law_take" [(.var 1), (.int 9)]))])
theorem many_loop (hn : 2 ≤ n) {S s0 s2 s3 s4 s5 s6 s7 s8 s9 s10 s11 s13 s14 s15 s16 s17 s18 s19 : Slot} : ∀ (l : List D) (ds : List Int) (x12 : Slot) (ps : List (Int × Int)), ps.length + l.length ≤ 10 → (∀ p ∈ ps, Fr 5 p) → ∃ (ds' : List Int) (y12 : Slot) (qs : List (Int × Int)), qs.length ≤ 10 ∧ (∀ p ∈ qs, Fr 5 p) ∧
    compL (turnL (tbl G w n) [12] (.one 12) none eM) l [s0, ownI ds, s2, s3, s4, s5, s6, s7, s8, s9, s10, s11, x12, s13, s14, s15, s16, s17, s18, s19] (ps.map frD) = .ok (qs.map frD, [s0, ownI ds', s2, s3, s4, s5, s6, s7, s8, s9, s10, s11, y12, s13, s14, s15, s16, s17, s18, s19])
  | [], ds, x12, ps, hl, hp => ⟨ds, x12, ps, by simpa using hl, hp, rfl⟩
  | x :: l, ds, x12, ps, hl, hp => by
    rw [List.length_cons] at hl
    obtain ⟨d1, u, u0, u1, c1⟩ := take_eq (w := w) (n := n) (many := 20) (by omega) (by omega) ds
    obtain ⟨d2, v, v0, v1, c2⟩ := take_eq (w := w) (n := n) (many := 9) (by omega) (by omega) d1
    have B1 : B 5 (u - 9) := by unfold B; omega
    have B2 : B 5 (1 + v) := by unfold B; omega
    have c3 := lfraction_eq (w := w) (n := n) (a := u - 9) (b := 1 + v) hn (by omega) B2 (by omega)
    have hf := fr_ok (show 1 + v ≠ 0 by omega) B1 B2
    obtain ⟨ds', y12, qs, q1, q2, q3⟩ := many_loop (S := S) hn l d2 (.val x) (ps ++ [fr (u - 9) (1 + v)]) (by rw [List.length_append]; simp; omega) (fun p h => by
      rcases List.mem_append.mp h with z | z
      · exact hp p z
      · rw [List.mem_singleton.mp z]; exact hf)
    refine ⟨ds', y12, qs, q1, q2, ?_⟩
    have t1 := ev_call (ρ := [s0, ownI ds, s2, s3, s4, s5, s6, s7, s8, s9, s10, s11, .val x, s13, s14, s15, s16, s17, s18, s19]) (ρ2 := [s0, ownI d1, s2, s3, s4, s5, s6, s7, s8, s9, s10, s11, .val x, s13, s14, s15, s16, s17, s18, s19]) (es := [(.var 1), (.int 20)]) (has_eq (k := n) fn_take) rfl rfl rfl c1 rfl
    have t2 := ev_call (ρ := [s0, ownI d1, s2, s3, s4, s5, s6, s7, s8, s9, s10, s11, .val x, s13, s14, s15, s16, s17, s18, s19]) (ρ2 := [s0, ownI d2, s2, s3, s4, s5, s6, s7, s8, s9, s10, s11, .val x, s13, s14, s15, s16, s17, s18, s19]) (es := [(.var 1), (.int 9)]) (has_eq (k := n) fn_take) rfl rfl rfl c2 rfl
    have t3 : ev (tbl G w n) eM [s0, ownI ds, s2, s3, s4, s5, s6, s7, s8, s9, s10, s11, .val x, s13, s14, s15, s16, s17, s18, s19] = .ok (.val (frD (fr (u - 9) (1 + v))), [s0, ownI d2, s2, s3, s4, s5, s6, s7, s8, s9, s10, s11, .val x, s13, s14, s15, s16, s17, s18, s19]) :=
      ev_call (has_eq (k := n) fn_lfraction) (evOs_cons (ev_bin t1 rfl rfl (r := .val (.int (u - 9))) rfl) (evOs_cons (ev_bin rfl t2 rfl (r := .val (.int (1 + v))) rfl) rfl)) rfl rfl c3 rfl
    have et : turnL (tbl G w n) [12] (.one 12) none eM x [s0, ownI ds, s2, s3, s4, s5, s6, s7, s8, s9, s10, s11, x12, s13, s14, s15, s16, s17, s18, s19] = .ok (some (frD (fr (u - 9) (1 + v))), [s0, ownI d2, s2, s3, s4, s5, s6, s7, s8, s9, s10, s11, .val x, s13, s14, s15, s16, s17, s18, s19]) := by
      show noRs (((ev (tbl G w n) eM [s0, ownI ds, s2, s3, s4, s5, s6, s7, s8, s9, s10, s11, .val x, s13, s14, s15, s16, s17, s18, s19]).bind frz).bind fun r => .ok (some r.1, r.2)) = _
      rw [t3]; rfl
    show (turnL (tbl G w n) [12] (.one 12) none eM x _).bind _ = _
    rw [et, bind_ok]
    show (if (ps.map frD).length < LIM then _ else _) = _
    rw [if_pos (by rw [List.length_map]; unfold LIM; omega)]
    rw [List.map_append] at q3
    exact q3
end Pv.K04
end
section
namespace Pv.K04
open Pv PySem PySem.Spec PyProof.Rows
variable {w k n : Nat}

theorem prod_loop {T : Tb} (hf : T.has "_law_times" = true)
    (hst : ∀ i acc p, i < 10 → Fr (10 * i + 5) acc → Fr 5 p → T.call "_law_times" [.val (frD acc), .val (frD p)] = .ok (.val (frD (mulF acc p)), [.val (frD acc), .val (frD p)]) ∧ Fr (10 * (i + 1) + 5) (mulF acc p)) {S s0 s1 s2 s3 s4 s5 s6 s7 s8 s9 s10 s11 s12 s13 s14 s15 s18 s19 : Slot} :
    ∀ (ps : List (Int × Int)) (i : Nat) (acc : Int × Int) (x17 : Slot), i + ps.length ≤ 10 → Fr (10 * i + 5) acc → (∀ p ∈ ps, Fr 5 p) →
      ∃ y17, forL (fun x ρ => (opt (asgT (.one 17) x ρ)).bind fun ρ => exB T [(.set 16 (.call "_law_times" [(.var 16), (.var 17)]))] ρ) (ps.map frD) [s0, s1, s2, s3, s4, s5, s6, s7, s8, s9, s10, s11, s12, s13, s14, s15, .val (frD acc), x17, s18, s19] = .ok (.nxt, [s0, s1, s2, s3, s4, s5, s6, s7, s8, s9, s10, s11, s12, s13, s14, s15, .val (frD (ps.foldl mulF acc)), y17, s18, s19])
  | [], i, acc, x17, _, _, _ => ⟨x17, rfl⟩
  | p :: ps, i, acc, x17, hl, ha, hp => by
    rw [List.length_cons] at hl
    obtain ⟨h1, h2⟩ := hst i acc p (by omega) ha (hp p List.mem_cons_self)
    obtain ⟨y17, h3⟩ := prod_loop (S := S) hf hst ps (i + 1) (mulF acc p) (.val (frD p)) (by omega) h2 fun q hq => hp q (List.mem_cons_of_mem _ hq)
    refine ⟨y17, ?_⟩
    rw [List.map_cons, forL_cons]
    have t1 := ev_call (ρ := [s0, s1, s2, s3, s4, s5, s6, s7, s8, s9, s10, s11, s12, s13, s14, s15, .val (frD acc), .val (frD p), s18, s19]) (ρ2 := [s0, s1, s2, s3, s4, s5, s6, s7, s8, s9, s10, s11, s12, s13, s14, s15, .val (frD acc), .val (frD p), s18, s19]) (es := [(.var 16), (.var 17)]) hf rfl rfl rfl h1 rfl
    have e : (opt (asgT (.one 17) (frD p) [s0, s1, s2, s3, s4, s5, s6, s7, s8, s9, s10, s11, s12, s13, s14, s15, .val (frD acc), x17, s18, s19])).bind (fun ρ => exB T [(.set 16 (.call "_law_times" [(.var 16), (.var 17)]))] ρ) = .ok (.nxt, [s0, s1, s2, s3, s4, s5, s6, s7, s8, s9, s10, s11, s12, s13, s14, s15, .val (frD (mulF acc p)), .val (frD p), s18, s19]) := by
      show exB T _ [s0, s1, s2, s3, s4, s5, s6, s7, s8, s9, s10, s11, s12, s13, s14, s15, .val (frD acc), .val (frD p), s18, s19] = _
      exact bs_seq (ρ1 := [s0, s1, s2, s3, s4, s5, s6, s7, s8, s9, s10, s11, s12, s13, s14, s15, .val (frD (mulF acc p)), .val (frD p), s18, s19]) (bs_set t1 rfl) rfl
    rw [e]
    exact h3

end Pv.K04
end
section
namespace Pv.K04
open Pv PySem PySem.Spec PyProof.Rows
variable {w k n : Nat}
theorem bad_set {T : Tb} {s0 s1 s2 s3 s4 s5 s6 s7 s8 s9 s10 s11 s12 s13 s14 s15 s16 s17 s18 s19 : Slot} : exS T (.set 18 (.lst [(.tup [(.int 2), (.int 4)]), (.tup [(.int 1), (.neg (.int 2))]), (.tup [(.int 0), (.int 2)]), (.tup [(.int 1), (.int 0)]), (.lst [(.int 1), (.int 2)]), (.tup [(.bl true), (.int 2)]), (.tup [(.int 1), (.bl true)]), (.tup [(.int 1), (.int 2), (.int 3)]), (.int 5), (.str "1/2"), .non, (.tup [(.str "1"), (.int 2)]), (.tup [(.int 1), (.str "2")])])) [s0, s1, s2, s3, s4, s5, s6, s7, s8, s9, s10, s11, s12, s13, s14, s15, s16, s17, s18, s19] = .ok (.nxt, [s0, s1, s2, s3, s4, s5, s6, s7, s8, s9, s10, s11, s12, s13, s14, s15, s16, s17, .own (.list [.tuple [.int 2, .int 4], .tuple [.int 1, .int (-2)], .tuple [.int 0, .int 2], .tuple [.int 1, .int 0], .list [.int 1, .int 2], .tuple [.bool true, .int 2], .tuple [.int 1, .bool true], .tuple [.int 1, .int 2, .int 3], .int 5, .str "1/2", .none, .tuple [.str "1", .int 2], .tuple [.int 1, .str "2"]]), s19]) := by kernel_rfl
end Pv.K04
end
section
namespace Pv.K04
open Pv PySem PySem.Spec PyProof.Rows
variable {w k n : Nat}
theorem fin_ret {s0 s1 s2 s3 s4 s5 s6 s7 s8 s9 s10 s11 s12 s13 s14 s15 s16 s17 s18 s19 : Slot} : exS (tbl G w 12) (.ret (.and (.cmp .eq (.bi .len [(.lc [19] (.one 19) (.hid 18) (some (.cmp .isnot (.call "is_fraction" [(.var 19)]) (.bl false))) (.int 1))]) (.int 0)) (.cmp .is (.call "is_fraction" [(.tup [(.int 0), (.int 1)])]) (.bl true)))) [s0, s1, s2, s3, s4, s5, s6, s7, s8, s9, s10, s11, s12, s13, s14, s15, s16, s17, .own (.list [.tuple [.int 2, .int 4], .tuple [.int 1, .int (-2)], .tuple [.int 0, .int 2], .tuple [.int 1, .int 0], .list [.int 1, .int 2], .tuple [.bool true, .int 2], .tuple [.int 1, .bool true], .tuple [.int 1, .int 2, .int 3], .int 5, .str "1/2", .none, .tuple [.str "1", .int 2], .tuple [.int 1, .str "2"]]), s19] = .ok (.ret (.val (.bool true)), [s0, s1, s2, s3, s4, s5, s6, s7, s8, s9, s10, s11, s12, s13, s14, s15, s16, s17, .own (.list [.tuple [.int 2, .int 4], .tuple [.int 1, .int (-2)], .tuple [.int 0, .int 2], .tuple [.int 1, .int 0], .list [.int 1, .int 2], .tuple [.bool true, .int 2], .tuple [.int 1, .bool true], .tuple [.int 1, .int 2, .int 3], .int 5, .str "1/2", .none, .tuple [.str "1", .int 2], .tuple [.int 1, .str "2"]]), s19]) := by kernel_rfl
end Pv.K04
end
section
namespace Pv.K04
open Pv PySem PySem.Spec PyProof.Rows
variable {w k n : Nat}

theorem binSub (i j : Int) : binD .sub (.int i) (.int j) = some (.val (.int (i - j))) := rfl
theorem evI_rngS {T : Tb} {a : Ex} {ρ ρ1 : En} {d : D} {xs : List D} (h : ev T a ρ = .ok (.val d, ρ1)) (h2 : rngI [d] = some xs) : evI T (.rng [a]) ρ = .ok ((xs, []), ρ1) := by
  show (evL T [a] ρ).bind (fun p => (opt (rngI p.1)).bind fun xs => Res.ok ((xs, []), p.2)) = _
  rw [evL1, h]
  show (opt (rngI [d])).bind _ = _
  rw [h2]; rfl
theorem ev_lc {T : Tb} {own : List Nat} {tg : Tg} {it : It} {cs : Option Ex} {e : Ex} {ρ ρ0 ρ1 ρ2 : En} {ds xs : List D} {h : List Nat} (hi : evI T it ρ = .ok ((ds, h), ρ0)) (hc : compL (turnL T own tg cs e) ds (wipeE ρ0 h) [] = .ok (xs, ρ1)) (hb : backE ρ0 ρ1 (h ++ own) = ρ2) : ev T (.lc own tg it cs e) ρ = .ok (.fresh (.list xs), ρ2) := by
  show (evI T it ρ).bind (fun w' => (compL (turnL T own tg cs e) w'.1.1 (wipeE w'.2 w'.1.2) []).bind fun p => Res.ok (X.fresh (.list p.1), backE w'.2 p.2 (w'.1.2 ++ own))) = _
  rw [hi, bind_ok, hc, bind_ok, hb]
theorem ev_ite {T : Tb} {c a b : Ex} {ρ ρ1 : En} {t : Bool} {res : Res (X × En)} (h : (ev T c ρ).bind boo = .ok (t, ρ1)) (h2 : (if t then ev T a ρ1 else ev T b ρ1) = res) : ev T (.ite c a b) ρ = res := by
  show (ev T c ρ).bind (fun p => (boo p).bind fun t => if t.1 then ev T a t.2 else ev T b t.2) = _
  have : (ev T c ρ).bind (fun p => (boo p).bind fun t => if t.1 then ev T a t.2 else ev T b t.2) = ((ev T c ρ).bind boo).bind fun t => if t.1 then ev T a t.2 else ev T b t.2 := by rw [bind_assoc]
  rw [this, h]; exact h2
theorem fn_last : True := trivial
theorem cross {x y u v Bv A : Int} (h1 : x * u = y * v) (h2 : v * Bv = u * A) (hu : u ≠ 0) : x * Bv = y * A := by
  apply Int.eq_of_mul_eq_mul_left hu
  have e1 : u * (x * Bv) = (x * u) * Bv := by rw [← Int.mul_assoc, Int.mul_comm u x]
  have e2 : u * (y * A) = y * (u * A) := by rw [Int.mul_left_comm]
  rw [e1, e2, h1, ← h2, Int.mul_assoc]
theorem pow_eq {p : Int × Int} {a b : Int} {m : Nat} (hp : Fr m p) (h : p.1 * b = p.2 * a) : ∀ i, (powF p i).1 * b ^ i = (powF p i).2 * a ^ i
  | 0 => by rw [Int.pow_zero, Int.pow_zero]; rfl
  | i + 1 => by
    have ih := pow_eq hp h i
    have hf := powF_ok hp i
    have hu : (powF p i).2 * p.2 ≠ 0 := Int.mul_ne_zero (by have := hf.pos; omega) (by have := hp.pos; omega)
    refine cross (fr_eq (a := (powF p i).1 * p.1) hu) ?_ hu
    rw [Int.pow_succ, Int.pow_succ]
    generalize (powF p i).1 = f1 at *
    generalize (powF p i).2 = f2 at *
    generalize b ^ i = bi at *
    generalize a ^ i = ai at *
    have e1 : f1 * p.1 * (bi * b) = (f1 * bi) * (p.1 * b) := by
      rw [Int.mul_assoc, Int.mul_assoc, Int.mul_left_comm p.1]
    have e2 : f2 * p.2 * (ai * a) = (f2 * ai) * (p.2 * a) := by
      rw [Int.mul_assoc, Int.mul_assoc, Int.mul_left_comm p.2]
    rw [e1, e2, ih, h]

theorem law_pure : ∀ ns : List Int, ns.length ≤ 63 → ∃ outs, (tbl G 100000 (12 + 1)).call "law" [.val (.list (ns.map .int))] = .ok (.val (.bool true), outs) := fun ns hns => by
  generalize hT : (100000 : Nat) = w
  have has : ∀ {x : Str} {fi : Fn}, G.fn x = some fi → (tbl G w 12).has x = true := fun h => has_eq h
  obtain ⟨d0, hd⟩ := deck_eq (w := w) (n := 12) (by omega) hns
  obtain ⟨d1, a, Ba0, h1⟩ := number_eq (w := w) (n := 12) (by omega) d0
  obtain ⟨d2, b0, Bb0, h2⟩ := number_eq (w := w) (n := 12) (by omega) d1
  obtain ⟨d3, c, Bc0, h3⟩ := number_eq (w := w) (n := 12) (by omega) d2
  obtain ⟨d4, e0, Be0, h4⟩ := number_eq (w := w) (n := 12) (by omega) d3
  have B2 : B 2 2 := by unfold B; decide
  have mb := mul_ok Bb0 B2 (by omega)
  have md := mul_ok Be0 B2 (by omega)
  have Bb1 : B 109 (b0 * 2 + 1) := (Bb0.mul B2).add (by unfold B; decide)
  have Bd1 : B 109 (e0 * 2 + 1) := (Be0.mul B2).add (by unfold B; decide)
  have hb0 : b0 * 2 + 1 ≠ 0 := by omega
  have hd0 : e0 * 2 + 1 ≠ 0 := by omega
  generalize hbd : b0 * 2 + 1 = b at *
  generalize hdd : e0 * 2 + 1 = d at *
  have Ba := Ba0.mono (show 106 ≤ 110 by omega)
  have Bc := Bc0.mono (show 106 ≤ 110 by omega)
  have Bb := Bb1.mono (show 109 ≤ 110 by omega)
  have Bd := Bd1.mono (show 109 ≤ 110 by omega)
  have hf1 := fraction_eq (w := w) (k := 11) (sg_ok (a := a) hb0 Bb (by omega))
  have hf2 := fraction_eq (w := w) (k := 11) (sg_ok (a := c) hd0 Bd (by omega))
  have Fp := fr_ok hb0 Ba Bb
  have Fq := fr_ok hd0 Bc Bd
  have Ep := fr_eq (a := a) hb0
  have Eq := fr_eq (a := c) hd0
  generalize hp : fr a b = p at *
  generalize hq : fr c d = q at *
  have hl1 := lowest_eq (w := w) (n := 12) (by omega) Fp Ba Bb (by omega) (by omega) Ep
  have hl2 := lowest_eq (w := w) (n := 12) (by omega) Fq Bc Bd (by omega) (by omega) Eq
  have hplus := plus_eq (w := w) (n := 12) (by omega) Fp Fq (by omega)
  have hminus := minus_eq (w := w) (n := 12) (by omega) Fp Fq (by omega)
  have htimes := times_eq (w := w) (n := 12) (by omega) Fp Fq (by omega)
  have mad := mul_ok Ba Bd (by omega)
  have mcb := mul_ok Bc Bb (by omega)
  have mbd := mul_ok Bb Bd (by omega)
  have mac := mul_ok Ba Bc (by omega)
  have mbc := mul_ok Bb Bc (by omega)
  have p2 : p.2 ≠ 0 := by have := Fp.pos; omega
  have q2 : q.2 ≠ 0 := by have := Fq.pos; omega
  have hu : p.2 * q.2 ≠ 0 := Int.mul_ne_zero p2 q2
  -- the rows
  have R1 : RowD (.list [frD (fr (p.1 * q.2 + q.1 * p.2) (p.2 * q.2)), .int (a * d + c * b), .int (b * d)]) :=
    ⟨_, _, _, rfl, (addF_ok Fp Fq).mono (by omega), ((Ba.mul Bd).add (Bc.mul Bb)).mono (by omega), (Bb.mul Bd).mono (by omega), cross (fr_eq hu) (by grind) hu⟩
  have R2 : RowD (.list [frD (fr (p.1 * q.2 - q.1 * p.2) (p.2 * q.2)), .int (a * d - c * b), .int (b * d)]) :=
    ⟨_, _, _, rfl, (fr_ok hu ((Fp.b1.mul Fq.b2).sub (Fq.b1.mul Fp.b2)) ((Fp.b2.mul Fq.b2).mono (by omega))).mono (by omega), ((Ba.mul Bd).sub (Bc.mul Bb)).mono (by omega), (Bb.mul Bd).mono (by omega), cross (fr_eq hu) (by grind) hu⟩
  have R3 : RowD (.list [frD (fr (p.1 * q.1) (p.2 * q.2)), .int (a * c), .int (b * d)]) :=
    ⟨_, _, _, rfl, (mulF_ok Fp Fq).mono (by omega), (Ba.mul Bc).mono (by omega), (Bb.mul Bd).mono (by omega), cross (fr_eq hu) (by grind) hu⟩

  suffices hb : ∃ ρ', exB (tbl G w 12) F_law.body [.val (.list (ns.map .int)), .un, .un, .un, .un, .un, .un, .un, .un, .un, .un, .un, .un, .un, .un, .un, .un, .un, .un, .un] = .ok (.ret (.val (.bool true)), ρ') by
    obtain ⟨ρ', hb⟩ := hb
    exact ⟨_, call_ret (as := [.val (.list (ns.map .int))]) fn_law rfl rfl hb⟩
  obtain ⟨d5, e6, x0, x1, h5⟩ := take_eq (w := w) (n := 12) (many := 6) (by omega) (by omega) d4
  obtain ⟨e, rfl⟩ : ∃ e : Nat, e6 = (e : Int) := ⟨e6.toNat, by omega⟩
  have he : e ≤ 10 := by omega
  have hraised := raised_eq (w := w) (n := 12) (e := e) (by omega) he Fp
  obtain ⟨d6, m6, y0, y1, h6⟩ := take_eq (w := w) (n := 12) (many := 10) (by omega) (by omega) d5
  obtain ⟨m, rfl⟩ : ∃ m : Nat, m6 = (m : Int) := ⟨m6.toNat, by omega⟩
  obtain ⟨rs, hrs, hlen, h10⟩ : ∃ rs : List D, (∀ r ∈ rs, RowD r) ∧ rs.length ≤ 4 ∧ exS (tbl G w 12) (.ifs (.cmp .ne (.var 4) (.int 0)) [(.exp (.mut 8 .append [(.lst [(.call "over" [(.var 6), (.var 7)]), (.bin .mul (.var 2) (.var 5)), (.bin .mul (.var 3) (.var 4))])]))] []) [.val (.list (ns.map .int)), ownI d4, .val (.int a), .val (.int b), .val (.int c), .val (.int d), .val (frD p), .val (frD q), .own (.list [.list [frD (fr (p.1 * q.2 + q.1 * p.2) (p.2 * q.2)), .int (a * d + c * b), .int (b * d)], .list [frD (fr (p.1 * q.2 - q.1 * p.2) (p.2 * q.2)), .int (a * d - c * b), .int (b * d)], .list [frD (fr (p.1 * q.1) (p.2 * q.2)), .int (a * c), .int (b * d)]]), .un, .un, .un, .un, .un, .un, .un, .un, .un, .un, .un] = .ok (.nxt, [.val (.list (ns.map .int)), ownI d4, .val (.int a), .val (.int b), .val (.int c), .val (.int d), .val (frD p), .val (frD q), .own (.list rs), .un, .un, .un, .un, .un, .un, .un, .un, .un, .un, .un]) := by
    have tst : ev (tbl G w 12) (.cmp .ne (.var 4) (.int 0)) [.val (.list (ns.map .int)), ownI d4, .val (.int a), .val (.int b), .val (.int c), .val (.int d), .val (frD p), .val (frD q), .own (.list [.list [frD (fr (p.1 * q.2 + q.1 * p.2) (p.2 * q.2)), .int (a * d + c * b), .int (b * d)], .list [frD (fr (p.1 * q.2 - q.1 * p.2) (p.2 * q.2)), .int (a * d - c * b), .int (b * d)], .list [frD (fr (p.1 * q.1) (p.2 * q.2)), .int (a * c), .int (b * d)]]), .un, .un, .un, .un, .un, .un, .un, .un, .un, .un, .un] = .ok (.val (.bool (!decide (c = 0))), [.val (.list (ns.map .int)), ownI d4, .val (.int a), .val (.int b), .val (.int c), .val (.int d), .val (frD p), .val (frD q), .own (.list [.list [frD (fr (p.1 * q.2 + q.1 * p.2) (p.2 * q.2)), .int (a * d + c * b), .int (b * d)], .list [frD (fr (p.1 * q.2 - q.1 * p.2) (p.2 * q.2)), .int (a * d - c * b), .int (b * d)], .list [frD (fr (p.1 * q.1) (p.2 * q.2)), .int (a * c), .int (b * d)]]), .un, .un, .un, .un, .un, .un, .un, .un, .un, .un, .un]) := ev_cmp rfl rfl rfl (neI c 0)
    by_cases hc : c = 0
    · refine ⟨_, ?_, ?_, bs_if (t := false) (by rw [tst, decide_eq_true hc]; rfl) rfl⟩
      · intro r hr
        simp only [List.mem_cons, List.not_mem_nil, or_false] at hr
        rcases hr with rfl | rfl | rfl
        · exact R1
        · exact R2
        · exact R3
      · show 3 ≤ 4
        omega
    · have hq1 : q.1 ≠ 0 := fun z => by
        rw [z, Int.zero_mul] at Eq
        rcases Int.mul_eq_zero.mp Eq.symm with z | z
        · exact q2 z
        · exact hc z
      have hover := over_eq (w := w) (n := 12) (by omega) Fp Fq (by omega) hq1
      have hv : p.2 * q.1 ≠ 0 := Int.mul_ne_zero p2 hq1
      have R4 : RowD (.list [frD (fr (p.1 * q.2) (p.2 * q.1)), .int (a * d), .int (b * c)]) :=
        ⟨_, _, _, rfl, (fr_ok hv (Fp.b1.mul Fq.b2) (Fp.b2.mul Fq.b1)).mono (by omega), (Ba.mul Bd).mono (by omega), (Bb.mul Bc).mono (by omega), cross (fr_eq hv) (by grind) hv⟩
      refine ⟨_, ?_, ?_, bs_if (t := true) (by rw [tst, decide_eq_false hc]; rfl) (bs_seq (mut_appD rfl (frz_fresh (ev_lst (evL_cons (frz_val (ev_call (has fn_over) rfl rfl rfl hover rfl)) (evL_cons (frz_val (ev_bin rfl rfl rfl (binMul mad))) (evL_cons (frz_val (ev_bin rfl rfl rfl (binMul mbc))) rfl))) (by show 3 ≤ LIM; decide))) rfl (by show 3 < LIM; decide) rfl) rfl)⟩
      · intro r hr
        simp only [List.mem_append, List.mem_cons, List.not_mem_nil, or_false] at hr
        rcases hr with (rfl | rfl | rfl) | rfl
        · exact R1
        · exact R2
        · exact R3
        · exact R4
      · show 4 ≤ 4
        omega
  obtain ⟨y12, hpow, Bae, Bbe⟩ := pow_loop (T := tbl G w 12) (S := .un) (s0 := .val (.list (ns.map .int))) (s1 := ownI d5) (s4 := .val (.int c)) (s5 := .val (.int d)) (s6 := .val (frD p)) (s7 := .val (frD q)) (s8 := .own (.list rs)) (s9 := .val (.int (e : Int))) (s12 := .un) (s13 := .un) (s14 := .un) (s15 := .un) (s16 := .un) (s17 := .un) (s18 := .un) (s19 := .un) Ba Bb e he
  rw [Int.pow_zero, Int.pow_zero] at hpow
  have R5 : RowD (.list [frD (powF p e), .int (a ^ e), .int (b ^ e)]) :=
    ⟨_, _, _, rfl, (powF_ok Fp e).mono (by omega), Bae.mono (by omega), Bbe.mono (by omega), pow_eq Fp Ep e⟩
  obtain ⟨rs2, hrs2e⟩ : ∃ r : List D, r = rs ++ [PyData.list [frD (powF p e), PyData.int (a ^ e), PyData.int (b ^ e)]] := ⟨_, rfl⟩
  have hrs2 : ∀ r ∈ rs2, RowD r := fun r hr => by
    rw [hrs2e] at hr
    rcases List.mem_append.mp hr with z | z
    · exact hrs r z
    · rw [List.mem_singleton.mp z]; exact R5
  obtain ⟨z10, z11, z13, hrow⟩ := rows_loop (w := w) (n := 12) (by omega) (S := .un) (s0 := .val (.list (ns.map .int))) (s1 := ownI d5) (s2 := .val (.int a)) (s3 := .val (.int b)) (s4 := .val (.int c)) (s5 := .val (.int d)) (s6 := .val (frD p)) (s7 := .val (frD q)) (s8 := .un) (s9 := .val (.int (e : Int))) (s12 := y12) (s14 := .un) (s15 := .un) (s16 := .un) (s17 := .un) (s18 := .un) (s19 := .un) _ (.val (.int (a ^ e))) (.val (.int (b ^ e))) .un hrs2
  have hsg : ev (tbl G w 12) (.ite (.cmp .gt (.sub (.var 6) (.int 0)) (.int 0)) (.int 1) (.ite (.cmp .lt (.sub (.var 6) (.int 0)) (.int 0)) (.neg (.int 1)) (.int 0))) [.val (.list (ns.map .int)), ownI d5, .val (.int a), .val (.int b), .val (.int c), .val (.int d), .val (frD p), .val (frD q), .own (.list rs2), .val (.int (e : Int)), z10, z11, y12, z13, .un, .un, .un, .un, .un, .un] = .ok (.val (.int (sgn p.1)), [.val (.list (ns.map .int)), ownI d5, .val (.int a), .val (.int b), .val (.int c), .val (.int d), .val (frD p), .val (frD q), .own (.list rs2), .val (.int (e : Int)), z10, z11, y12, z13, .un, .un, .un, .un, .un, .un]) := by
    have t1 : ev (tbl G w 12) (.cmp .gt (.sub (.var 6) (.int 0)) (.int 0)) [.val (.list (ns.map .int)), ownI d5, .val (.int a), .val (.int b), .val (.int c), .val (.int d), .val (frD p), .val (frD q), .own (.list rs2), .val (.int (e : Int)), z10, z11, y12, z13, .un, .un, .un, .un, .un, .un] = .ok (.val (.bool (decide (0 < p.1))), [.val (.list (ns.map .int)), ownI d5, .val (.int a), .val (.int b), .val (.int c), .val (.int d), .val (frD p), .val (frD q), .own (.list rs2), .val (.int (e : Int)), z10, z11, y12, z13, .un, .un, .un, .un, .un, .un]) := ev_cmp (x := .val (.int p.1)) rfl rfl rfl (gtI p.1 0)
    have t2 : ev (tbl G w 12) (.cmp .lt (.sub (.var 6) (.int 0)) (.int 0)) [.val (.list (ns.map .int)), ownI d5, .val (.int a), .val (.int b), .val (.int c), .val (.int d), .val (frD p), .val (frD q), .own (.list rs2), .val (.int (e : Int)), z10, z11, y12, z13, .un, .un, .un, .un, .un, .un] = .ok (.val (.bool (decide (p.1 < 0))), [.val (.list (ns.map .int)), ownI d5, .val (.int a), .val (.int b), .val (.int c), .val (.int d), .val (frD p), .val (frD q), .own (.list rs2), .val (.int (e : Int)), z10, z11, y12, z13, .un, .un, .un, .un, .un, .un]) := ev_cmp (x := .val (.int p.1)) rfl rfl rfl (ltI p.1 0)
    unfold sgn
    by_cases g1 : 0 < p.1
    · rw [if_pos g1]
      exact ev_ite (t := true) (by rw [t1, decide_eq_true g1]; rfl) rfl
    · rw [if_neg g1]
      refine ev_ite (t := false) (by rw [t1, decide_eq_false g1]; rfl) ?_
      rw [if_neg Bool.false_ne_true]
      by_cases g2 : p.1 < 0
      · rw [if_pos g2]
        exact ev_ite (t := true) (by rw [t2, decide_eq_true g2]; rfl) rfl
      · rw [if_neg g2]
        exact ev_ite (t := false) (by rw [t2, decide_eq_false g2]; rfl) rfl
  have g12 := is_less_eq (w := w) (n := 12) (by omega) Fp Fq (by omega)
  have g21 := is_less_eq (w := w) (n := 12) (by omega) Fq Fp (by omega)
  have g11 := is_less_eq (w := w) (n := 12) (by omega) Fp Fp (by omega)
  rw [decide_eq_false (Int.lt_irrefl _)] at g11
  have gs := sign_of_eq (w := w) (n := 12) (p := p) (by omega)
  have m12 := mul_ok Fp.b1 Fq.b2 (by omega)
  have m21 := mul_ok Fq.b1 Fp.b2 (by omega)
  have hs4 := same_four (w := w) (n := 12) (by omega) (a := decide (p.1 * q.2 < q.1 * p.2)) (b := decide (q.1 * p.2 < p.1 * q.2)) (c := false) (i := sgn p.1)
  have hargs4 : evOs (tbl G w 12) [(.var 13), (.lst [(.cmp .lt (.bin .mul (.sub (.var 6) (.int 0)) (.sub (.var 7) (.int 1))) (.bin .mul (.sub (.var 7) (.int 0)) (.sub (.var 6) (.int 1)))), (.cmp .lt (.bin .mul (.sub (.var 7) (.int 0)) (.sub (.var 6) (.int 1))) (.bin .mul (.sub (.var 6) (.int 0)) (.sub (.var 7) (.int 1)))), (.bl false), (.var 14)])] [.val (.list (ns.map .int)), ownI d5, .val (.int a), .val (.int b), .val (.int c), .val (.int d), .val (frD p), .val (frD q), .own (.list rs2), .val (.int (e : Int)), z10, z11, y12, .own (.list [.bool (decide (p.1 * q.2 < q.1 * p.2)), .bool (decide (q.1 * p.2 < p.1 * q.2)), .bool false, .int (sgn p.1)]), .val (.int (sgn p.1)), .un, .un, .un, .un, .un] = .ok ([.slot 13, .imm (.list [.bool (decide (p.1 * q.2 < q.1 * p.2)), .bool (decide (q.1 * p.2 < p.1 * q.2)), .bool false, .int (sgn p.1)])], [.val (.list (ns.map .int)), ownI d5, .val (.int a), .val (.int b), .val (.int c), .val (.int d), .val (frD p), .val (frD q), .own (.list rs2), .val (.int (e : Int)), z10, z11, y12, .own (.list [.bool (decide (p.1 * q.2 < q.1 * p.2)), .bool (decide (q.1 * p.2 < p.1 * q.2)), .bool false, .int (sgn p.1)]), .val (.int (sgn p.1)), .un, .un, .un, .un, .un]) := (evOs_cons (x := .slot 13) rfl (evOs_cons (ev_lst (evL_cons (frz_val (ev_cmp (ev_bin (x := .val (.int p.1)) (y := .val (.int q.2)) rfl rfl rfl (binMul m12)) (ev_bin (x := .val (.int q.1)) (y := .val (.int p.2)) rfl rfl rfl (binMul m21)) rfl (ltI _ _))) (evL_cons (frz_val (ev_cmp (ev_bin (x := .val (.int q.1)) (y := .val (.int p.2)) rfl rfl rfl (binMul m21)) (ev_bin (x := .val (.int p.1)) (y := .val (.int q.2)) rfl rfl rfl (binMul m12)) rfl (ltI _ _))) (evL_cons (frz_val rfl) (evL_cons (frz_val rfl) rfl)))) (by show 4 ≤ LIM; decide)) rfl))
  obtain ⟨d7, w12, qs, hqs, hq5, hmany⟩ := many_loop (w := w) (n := 12) (by omega) (S := .un) (s0 := .val (.list (ns.map .int))) (s2 := .val (.int a)) (s3 := .val (.int b)) (s4 := .val (.int c)) (s5 := .val (.int d)) (s6 := .val (frD p)) (s7 := .val (frD q)) (s8 := .own (.list rs2)) (s9 := .val (.int (e : Int))) (s10 := z10) (s11 := z11) (s13 := .own (.list [.bool (decide (p.1 * q.2 < q.1 * p.2)), .bool (decide (q.1 * p.2 < p.1 * q.2)), .bool false, .int (sgn p.1)])) (s14 := .val (.int (sgn p.1))) (s15 := .un) (s16 := .un) (s17 := .un) (s18 := .un) (s19 := .un) (rngL 0 m) d6 y12 [] (by rw [rngL_len]; simp; omega) (fun p h => absurd h (List.not_mem_nil))
  have hcomp : compL (turnL (tbl G w 12) [12] (.one 12) none eM) (rngL 0 m) [.val (.list (ns.map .int)), ownI d6, .val (.int a), .val (.int b), .val (.int c), .val (.int d), .val (frD p), .val (frD q), .own (.list rs2), .val (.int (e : Int)), z10, z11, y12, .own (.list [.bool (decide (p.1 * q.2 < q.1 * p.2)), .bool (decide (q.1 * p.2 < p.1 * q.2)), .bool false, .int (sgn p.1)]), .val (.int (sgn p.1)), .un, .un, .un, .un, .un] [] = _ := hmany
  obtain ⟨v17, hprod⟩ := prod_loop (T := tbl G w 12) (has fn_ltimes) (mul_step fun hp hq hs => ltimes_eq (by omega) hp hq (by omega)) (S := .un) (s0 := .val (.list (ns.map .int))) (s1 := ownI d7) (s2 := .val (.int a)) (s3 := .val (.int b)) (s4 := .val (.int c)) (s5 := .val (.int d)) (s6 := .val (frD p)) (s7 := .val (frD q)) (s8 := .own (.list rs2)) (s9 := .val (.int (e : Int))) (s10 := z10) (s11 := z11) (s12 := y12) (s13 := .own (.list [.bool (decide (p.1 * q.2 < q.1 * p.2)), .bool (decide (q.1 * p.2 < p.1 * q.2)), .bool false, .int (sgn p.1)])) (s14 := .val (.int (sgn p.1))) (s15 := .un) (s18 := .un) (s19 := .un) qs 0 (1, 1) .un (by omega) (one_ok (l := 4)) hq5
  have htot := total_eq (w := w) (n := 12) (by omega) hqs hq5
  have hpro := product_eq (w := w) (n := 12) (by omega) hqs hq5
  have hsum := lsum_eq (w := w) (n := 12) (by omega) hqs hq5
  have hs2 := same_two (w := w) (n := 12) (p := qs.foldl addF (0, 1)) (q := qs.foldl mulF (1, 1)) (by omega)
  have hargs2 : evOs (tbl G w 12) [(.lst [(.call "total" [(.bi .list [(.var 15)])]), (.call "product" [(.bi .tuple [(.var 15)])])]), (.lst [(.call "_law_sum" [(.var 15)]), (.var 16)])] [.val (.list (ns.map .int)), ownI d7, .val (.int a), .val (.int b), .val (.int c), .val (.int d), .val (frD p), .val (frD q), .own (.list rs2), .val (.int (e : Int)), z10, z11, y12, .own (.list [.bool (decide (p.1 * q.2 < q.1 * p.2)), .bool (decide (q.1 * p.2 < p.1 * q.2)), .bool false, .int (sgn p.1)]), .val (.int (sgn p.1)), .own (.list (qs.map frD)), .val (frD (qs.foldl mulF (1, 1))), v17, .un, .un] = .ok ([.imm (.list [frD (qs.foldl addF (0, 1)), frD (qs.foldl mulF (1, 1))]), .imm (.list [frD (qs.foldl addF (0, 1)), frD (qs.foldl mulF (1, 1))])], [.val (.list (ns.map .int)), ownI d7, .val (.int a), .val (.int b), .val (.int c), .val (.int d), .val (frD p), .val (frD q), .own (.list rs2), .val (.int (e : Int)), z10, z11, y12, .own (.list [.bool (decide (p.1 * q.2 < q.1 * p.2)), .bool (decide (q.1 * p.2 < p.1 * q.2)), .bool false, .int (sgn p.1)]), .val (.int (sgn p.1)), .own (.list (qs.map frD)), .val (frD (qs.foldl mulF (1, 1))), v17, .un, .un]) := (evOs_cons (ev_lst (evL_cons (frz_val (ev_call (has fn_total) (evOs_cons (x := .fresh (.list (qs.map frD))) rfl rfl) rfl rfl htot rfl)) (evL_cons (frz_val (ev_call (has fn_product) (evOs_cons (x := .val (.tuple (qs.map frD))) rfl rfl) rfl rfl hpro rfl)) rfl)) (by show 2 ≤ LIM; decide)) (evOs_cons (ev_lst (evL_cons (frz_val (ev_call (has fn_lsum) rfl rfl rfl hsum rfl)) (evL_cons (frz_val rfl) rfl)) (by show 2 ≤ LIM; decide)) rfl))
  refine ⟨[.val (.list (ns.map .int)), ownI d7, .val (.int a), .val (.int b), .val (.int c), .val (.int d), .val (frD p), .val (frD q), .own (.list rs2), .val (.int (e : Int)), z10, z11, y12, .own (.list [.bool (decide (p.1 * q.2 < q.1 * p.2)), .bool (decide (q.1 * p.2 < p.1 * q.2)), .bool false, .int (sgn p.1)]), .val (.int (sgn p.1)), .own (.list (qs.map frD)), .val (frD (qs.foldl mulF (1, 1))), v17, .own (.list [.tuple [.int 2, .int 4], .tuple [.int 1, .int (-2)], .tuple [.int 0, .int 2], .tuple [.int 1, .int 0], .list [.int 1, .int 2], .tuple [.bool true, .int 2], .tuple [.int 1, .bool true], .tuple [.int 1, .int 2, .int 3], .int 5, .str "1/2", .none, .tuple [.str "1", .int 2], .tuple [.int 1, .str "2"]]), .un], ?_⟩
  refine bs_seq (ρ1 := [.val (.list (ns.map .int)), ownI d0, .un, .un, .un, .un, .un, .un, .un, .un, .un, .un, .un, .un, .un, .un, .un, .un, .un, .un]) (bs_setF (ev_call (has fn_deck) rfl rfl rfl hd rfl) rfl) ?_
  refine bs_seq (ρ1 := [.val (.list (ns.map .int)), ownI d1, .val (.int a), .un, .un, .un, .un, .un, .un, .un, .un, .un, .un, .un, .un, .un, .un, .un, .un, .un]) (bs_set (ev_call (has fn_number) rfl rfl rfl h1 rfl) rfl) ?_
  refine bs_seq (ρ1 := [.val (.list (ns.map .int)), ownI d2, .val (.int a), .val (.int b), .un, .un, .un, .un, .un, .un, .un, .un, .un, .un, .un, .un, .un, .un, .un, .un]) (bs_set (d := .int b) (ev_bin (r := .val (.int b)) (ev_bin (r := .val (.int (b0 * 2))) (ev_call (has fn_number) rfl rfl rfl h2 rfl) rfl rfl (binMul mb)) rfl rfl (by rw [← hbd]; exact binAdd _ _)) rfl) ?_
  refine bs_seq (ρ1 := [.val (.list (ns.map .int)), ownI d3, .val (.int a), .val (.int b), .val (.int c), .un, .un, .un, .un, .un, .un, .un, .un, .un, .un, .un, .un, .un, .un, .un]) (bs_set (ev_call (has fn_number) rfl rfl rfl h3 rfl) rfl) ?_
  refine bs_seq (ρ1 := [.val (.list (ns.map .int)), ownI d4, .val (.int a), .val (.int b), .val (.int c), .val (.int d), .un, .un, .un, .un, .un, .un, .un, .un, .un, .un, .un, .un, .un, .un]) (bs_set (d := .int d) (ev_bin (r := .val (.int d)) (ev_bin (r := .val (.int (e0 * 2))) (ev_call (has fn_number) rfl rfl rfl h4 rfl) rfl rfl (binMul md)) rfl rfl (by rw [← hdd]; exact binAdd _ _)) rfl) ?_
  refine bs_seq (ρ1 := [.val (.list (ns.map .int)), ownI d4, .val (.int a), .val (.int b), .val (.int c), .val (.int d), .val (frD p), .un, .un, .un, .un, .un, .un, .un, .un, .un, .un, .un, .un, .un]) (bs_set (ev_call (has fn_fraction) rfl rfl rfl hf1 rfl) rfl) ?_
  refine bs_seq (ρ1 := [.val (.list (ns.map .int)), ownI d4, .val (.int a), .val (.int b), .val (.int c), .val (.int d), .val (frD p), .val (frD q), .un, .un, .un, .un, .un, .un, .un, .un, .un, .un, .un, .un]) (bs_set (ev_call (has fn_fraction) rfl rfl rfl hf2 rfl) rfl) ?_
  refine bs_seq (ρ1 := [.val (.list (ns.map .int)), ownI d4, .val (.int a), .val (.int b), .val (.int c), .val (.int d), .val (frD p), .val (frD q), .un, .un, .un, .un, .un, .un, .un, .un, .un, .un, .un, .un]) (bs_if (t := false) (by rw [ev_orF (ev_not (ev_tru (ev_call (has fn_lowest) rfl rfl rfl hl1 rfl) rfl)) (ev_not (ev_tru (ev_call (has fn_lowest) rfl rfl rfl hl2 rfl) rfl))]; rfl) rfl) ?_
  refine bs_seq (ρ1 := [.val (.list (ns.map .int)), ownI d4, .val (.int a), .val (.int b), .val (.int c), .val (.int d), .val (frD p), .val (frD q), .own (.list [.list [frD (fr (p.1 * q.2 + q.1 * p.2) (p.2 * q.2)), .int (a * d + c * b), .int (b * d)], .list [frD (fr (p.1 * q.2 - q.1 * p.2) (p.2 * q.2)), .int (a * d - c * b), .int (b * d)], .list [frD (fr (p.1 * q.1) (p.2 * q.2)), .int (a * c), .int (b * d)]]), .un, .un, .un, .un, .un, .un, .un, .un, .un, .un, .un]) (bs_setF (ev_lst (evL_cons (frz_fresh (ev_lst (evL_cons (frz_val (ev_call (has fn_plus) rfl rfl rfl hplus rfl)) (evL_cons (frz_val (ev_bin (ev_bin rfl rfl rfl (binMul mad)) (ev_bin rfl rfl rfl (binMul mcb)) rfl (binAdd _ _))) (evL_cons (frz_val (ev_bin rfl rfl rfl (binMul mbd))) rfl))) (by show 3 ≤ LIM; decide))) (evL_cons (frz_fresh (ev_lst (evL_cons (frz_val (ev_call (has fn_minus) rfl rfl rfl hminus rfl)) (evL_cons (frz_val (ev_bin (ev_bin rfl rfl rfl (binMul mad)) (ev_bin rfl rfl rfl (binMul mcb)) rfl (binSub _ _))) (evL_cons (frz_val (ev_bin rfl rfl rfl (binMul mbd))) rfl))) (by show 3 ≤ LIM; decide))) (evL_cons (frz_fresh (ev_lst (evL_cons (frz_val (ev_call (has fn_times) rfl rfl rfl htimes rfl)) (evL_cons (frz_val (ev_bin rfl rfl rfl (binMul mac))) (evL_cons (frz_val (ev_bin rfl rfl rfl (binMul mbd))) rfl))) (by show 3 ≤ LIM; decide))) rfl))) (by show 3 ≤ LIM; decide)) rfl) ?_
  refine bs_seq (ρ1 := [.val (.list (ns.map .int)), ownI d4, .val (.int a), .val (.int b), .val (.int c), .val (.int d), .val (frD p), .val (frD q), .own (.list rs), .un, .un, .un, .un, .un, .un, .un, .un, .un, .un, .un]) h10 ?_
  refine bs_seq (ρ1 := [.val (.list (ns.map .int)), ownI d5, .val (.int a), .val (.int b), .val (.int c), .val (.int d), .val (frD p), .val (frD q), .own (.list rs), .val (.int (e : Int)), .un, .un, .un, .un, .un, .un, .un, .un, .un, .un]) (bs_set (ev_call (has fn_take) rfl rfl rfl h5 rfl) rfl) ?_
  refine bs_seq (ρ1 := [.val (.list (ns.map .int)), ownI d5, .val (.int a), .val (.int b), .val (.int c), .val (.int d), .val (frD p), .val (frD q), .own (.list rs), .val (.int (e : Int)), .val (.int 1), .un, .un, .un, .un, .un, .un, .un, .un, .un]) (bs_set rfl rfl) ?_
  refine bs_seq (ρ1 := [.val (.list (ns.map .int)), ownI d5, .val (.int a), .val (.int b), .val (.int c), .val (.int d), .val (frD p), .val (frD q), .own (.list rs), .val (.int (e : Int)), .val (.int 1), .val (.int 1), .un, .un, .un, .un, .un, .un, .un, .un]) (bs_set rfl rfl) ?_
  refine bs_seq (ρ1 := [.val (.list (ns.map .int)), ownI d5, .val (.int a), .val (.int b), .val (.int c), .val (.int d), .val (frD p), .val (frD q), .own (.list rs), .val (.int (e : Int)), .val (.int (a ^ e)), .val (.int (b ^ e)), y12, .un, .un, .un, .un, .un, .un, .un]) (bs_for (ds := rngL 0 e) (h := []) (evI_rng1 rfl (rngI_small (by omega))) hpow) ?_
  refine bs_seq (ρ1 := [.val (.list (ns.map .int)), ownI d5, .val (.int a), .val (.int b), .val (.int c), .val (.int d), .val (frD p), .val (frD q), .own (.list rs2), .val (.int (e : Int)), .val (.int (a ^ e)), .val (.int (b ^ e)), y12, .un, .un, .un, .un, .un, .un, .un]) (mut_appD rfl (frz_fresh (ev_lst (evL_cons (frz_val (ev_call (has fn_raised) rfl rfl rfl hraised rfl)) (evL_cons (frz_val rfl) (evL_cons (frz_val rfl) rfl))) (by show 3 ≤ LIM; decide))) rfl (by unfold LIM; omega) (by rw [hrs2e]; rfl)) ?_
  refine bs_seq (ρ1 := [.val (.list (ns.map .int)), ownI d5, .val (.int a), .val (.int b), .val (.int c), .val (.int d), .val (frD p), .val (frD q), .own (.list rs2), .val (.int (e : Int)), z10, z11, y12, z13, .un, .un, .un, .un, .un, .un]) (bs_for (h := [8]) (ρ0 := [.val (.list (ns.map .int)), ownI d5, .val (.int a), .val (.int b), .val (.int c), .val (.int d), .val (frD p), .val (frD q), .own (.list rs2), .val (.int (e : Int)), .val (.int (a ^ e)), .val (.int (b ^ e)), y12, .un, .un, .un, .un, .un, .un, .un]) (ρ1 := [.val (.list (ns.map .int)), ownI d5, .val (.int a), .val (.int b), .val (.int c), .val (.int d), .val (frD p), .val (frD q), .un, .val (.int (e : Int)), z10, z11, y12, z13, .un, .un, .un, .un, .un, .un]) rfl hrow) ?_
  refine bs_seq (ρ1 := [.val (.list (ns.map .int)), ownI d5, .val (.int a), .val (.int b), .val (.int c), .val (.int d), .val (frD p), .val (frD q), .own (.list rs2), .val (.int (e : Int)), z10, z11, y12, z13, .val (.int (sgn p.1)), .un, .un, .un, .un, .un]) (bs_set hsg rfl) ?_
  refine bs_seq (ρ1 := [.val (.list (ns.map .int)), ownI d5, .val (.int a), .val (.int b), .val (.int c), .val (.int d), .val (frD p), .val (frD q), .own (.list rs2), .val (.int (e : Int)), z10, z11, y12, .own (.list [.bool (decide (p.1 * q.2 < q.1 * p.2)), .bool (decide (q.1 * p.2 < p.1 * q.2)), .bool false, .int (sgn p.1)]), .val (.int (sgn p.1)), .un, .un, .un, .un, .un]) (bs_setF (ev_lst (evL_cons (frz_val (ev_call (has fn_is_less) rfl rfl rfl g12 rfl)) (evL_cons (frz_val (ev_call (has fn_is_less) rfl rfl rfl g21 rfl)) (evL_cons (frz_val (ev_call (has fn_is_less) rfl rfl rfl g11 rfl)) (evL_cons (frz_val (ev_call (has fn_sign_of) rfl rfl rfl gs rfl)) rfl)))) (by show 4 ≤ LIM; decide)) rfl) ?_
  refine bs_seq (ρ1 := [.val (.list (ns.map .int)), ownI d5, .val (.int a), .val (.int b), .val (.int c), .val (.int d), .val (frD p), .val (frD q), .own (.list rs2), .val (.int (e : Int)), z10, z11, y12, .own (.list [.bool (decide (p.1 * q.2 < q.1 * p.2)), .bool (decide (q.1 * p.2 < p.1 * q.2)), .bool false, .int (sgn p.1)]), .val (.int (sgn p.1)), .un, .un, .un, .un, .un]) (bs_if (t := false) (by rw [ev_not (ev_tru (ev_call (has fn_same) hargs4 rfl rfl hs4 rfl) rfl)]; rfl) rfl) ?_
  refine bs_seq (ρ1 := [.val (.list (ns.map .int)), ownI d7, .val (.int a), .val (.int b), .val (.int c), .val (.int d), .val (frD p), .val (frD q), .own (.list rs2), .val (.int (e : Int)), z10, z11, y12, .own (.list [.bool (decide (p.1 * q.2 < q.1 * p.2)), .bool (decide (q.1 * p.2 < p.1 * q.2)), .bool false, .int (sgn p.1)]), .val (.int (sgn p.1)), .own (.list (qs.map frD)), .un, .un, .un, .un]) (bs_setF (ev_lc (ρ0 := [.val (.list (ns.map .int)), ownI d6, .val (.int a), .val (.int b), .val (.int c), .val (.int d), .val (frD p), .val (frD q), .own (.list rs2), .val (.int (e : Int)), z10, z11, y12, .own (.list [.bool (decide (p.1 * q.2 < q.1 * p.2)), .bool (decide (q.1 * p.2 < p.1 * q.2)), .bool false, .int (sgn p.1)]), .val (.int (sgn p.1)), .un, .un, .un, .un, .un]) (evI_rngS (ev_call (has fn_take) rfl rfl rfl h6 rfl) (rngI_small (by omega))) hcomp rfl) rfl) ?_
  refine bs_seq (ρ1 := [.val (.list (ns.map .int)), ownI d7, .val (.int a), .val (.int b), .val (.int c), .val (.int d), .val (frD p), .val (frD q), .own (.list rs2), .val (.int (e : Int)), z10, z11, y12, .own (.list [.bool (decide (p.1 * q.2 < q.1 * p.2)), .bool (decide (q.1 * p.2 < p.1 * q.2)), .bool false, .int (sgn p.1)]), .val (.int (sgn p.1)), .own (.list (qs.map frD)), .val (frD (1, 1)), .un, .un, .un]) (bs_set (d := frD (1, 1)) rfl rfl) ?_
  refine bs_seq (ρ1 := [.val (.list (ns.map .int)), ownI d7, .val (.int a), .val (.int b), .val (.int c), .val (.int d), .val (frD p), .val (frD q), .own (.list rs2), .val (.int (e : Int)), z10, z11, y12, .own (.list [.bool (decide (p.1 * q.2 < q.1 * p.2)), .bool (decide (q.1 * p.2 < p.1 * q.2)), .bool false, .int (sgn p.1)]), .val (.int (sgn p.1)), .own (.list (qs.map frD)), .val (frD (qs.foldl mulF (1, 1))), v17, .un, .un]) (bs_for (h := [15]) (ρ0 := [.val (.list (ns.map .int)), ownI d7, .val (.int a), .val (.int b), .val (.int c), .val (.int d), .val (frD p), .val (frD q), .own (.list rs2), .val (.int (e : Int)), z10, z11, y12, .own (.list [.bool (decide (p.1 * q.2 < q.1 * p.2)), .bool (decide (q.1 * p.2 < p.1 * q.2)), .bool false, .int (sgn p.1)]), .val (.int (sgn p.1)), .own (.list (qs.map frD)), .val (frD (1, 1)), .un, .un, .un]) (ρ1 := [.val (.list (ns.map .int)), ownI d7, .val (.int a), .val (.int b), .val (.int c), .val (.int d), .val (frD p), .val (frD q), .own (.list rs2), .val (.int (e : Int)), z10, z11, y12, .own (.list [.bool (decide (p.1 * q.2 < q.1 * p.2)), .bool (decide (q.1 * p.2 < p.1 * q.2)), .bool false, .int (sgn p.1)]), .val (.int (sgn p.1)), .un, .val (frD (qs.foldl mulF (1, 1))), v17, .un, .un]) rfl hprod) ?_
  refine bs_seq (ρ1 := [.val (.list (ns.map .int)), ownI d7, .val (.int a), .val (.int b), .val (.int c), .val (.int d), .val (frD p), .val (frD q), .own (.list rs2), .val (.int (e : Int)), z10, z11, y12, .own (.list [.bool (decide (p.1 * q.2 < q.1 * p.2)), .bool (decide (q.1 * p.2 < p.1 * q.2)), .bool false, .int (sgn p.1)]), .val (.int (sgn p.1)), .own (.list (qs.map frD)), .val (frD (qs.foldl mulF (1, 1))), v17, .un, .un]) (bs_if (t := false) (by rw [ev_not (ev_tru (ev_call (has fn_same) hargs2 rfl rfl hs2 rfl) rfl)]; rfl) rfl) ?_
  exact bs_seq (ρ1 := [.val (.list (ns.map .int)), ownI d7, .val (.int a), .val (.int b), .val (.int c), .val (.int d), .val (frD p), .val (frD q), .own (.list rs2), .val (.int (e : Int)), z10, z11, y12, .own (.list [.bool (decide (p.1 * q.2 < q.1 * p.2)), .bool (decide (q.1 * p.2 < p.1 * q.2)), .bool false, .int (sgn p.1)]), .val (.int (sgn p.1)), .own (.list (qs.map frD)), .val (frD (qs.foldl mulF (1, 1))), v17, .own (.list [.tuple [.int 2, .int 4], .tuple [.int 1, .int (-2)], .tuple [.int 0, .int 2], .tuple [.int 1, .int 0], .list [.int 1, .int 2], .tuple [.bool true, .int 2], .tuple [.int 1, .bool true], .tuple [.int 1, .int 2, .int 3], .int 5, .str "1/2", .none, .tuple [.str "1", .int 2], .tuple [.int 1, .str "2"]]), .un]) bad_set (bs_end (fin_ret (s18 := .un)))
end Pv.K04
end
open PySem PySem.W PyProof.Rows
set_option maxHeartbeats 0 in
theorem PySem.Challenge.cw_firstsapart_k04_fractions_in_lowest_term_holds : PySem.Challenge.rw_firstsapart_k04_fractions_in_lowest_term.Holds := by
  w_on; o_law; k_head; (case hw => w_witness2)
  k_fill
  refine L2.walk_of (l := PySem.Challenge.rw_firstsapart_k04_fractions_in_lowest_term) (n := 63) (k := 12 + 1) (x := "script") (CX := fun w => L2.CX PySem.Challenge.rw_firstsapart_k04_fractions_in_lowest_term.prog w) (sp := fun w => Pv.spL 63 _) rfl (by decide) rfl ⟨rfl, by decide, by decide⟩ (fun w h Y => PySem.W.kIn_of Y) ?F (fun _ _ a ns hl _ hS => ⟨a, ns, rfl, hS, hl, fun _ => rfl⟩) (fun _ _ _ _ _ h => Pv.cx_no h)
  case F =>
    intro w mg fa h KX G hmg
    refine' Pv.K04.all_mk KX G hmg Pv.K04.law_pure ?a4 ?l4 ?c4 ?k4 ?a5 ?l5 ?c5 ?k5 ?a6 ?l6 ?c6 ?k6 ?a7 ?l7 ?c7 ?k7 ?a8 ?l8 ?c8 ?k8 ?a9 ?l9 ?c9 ?k9 ?a10 ?l10 ?c10 ?k10 ?a11 ?l11 ?c11 ?k11 ?a12 ?l12 ?c12 ?k12 ?a13 ?l13 ?c13 ?k13 ?a14 ?l14 ?c14 ?k14 ?a16 ?l16 ?c16 ?k16 ?a17 ?l17 ?c17 ?k17 ?a18 ?l18 ?c18 ?k18 ?a19 ?l19 ?c19 ?k19 ?a20 ?l20 ?c20 ?k20 ?a21 ?l21 ?c21 ?k21 ?a22 ?l22 ?c22 ?k22 ?a23 ?l23 ?c23 ?k23 ?a24 ?l24 ?c24 ?k24 ?a25 ?l25 ?c25 ?k25 ?a26 ?l26 ?c26 ?k26 ?a27 ?l27 ?c27 ?k27 ?aNOUGHT ?lNOUGHT ?aWHOLE ?lWHOLE ?z_len ?z_abs ?z_int ?z_sum ?z_any ?z_all ?z_max ?z_min ?z_list ?z_tuple ?z_sorted ?z_isinstance ?z_range ?z_enumerate ?z_zip ?z_reversed ?z_str ?z_bool ?z_dict ?zgcd
    (case a4 => k_is); (case l4 => k_is); (case c4 => k_is); (case k4 => k_is); (case a5 => k_is); (case l5 => k_is); (case c5 => k_is); (case k5 => k_is); (case a6 => k_is); (case l6 => k_is); (case c6 => k_is); (case k6 => k_is); (case a7 => k_is); (case l7 => k_is); (case c7 => k_is); (case k7 => k_is); (case a8 => k_is); (case l8 => k_is); (case c8 => k_is); (case k8 => k_is); (case a9 => k_is); (case l9 => k_is); (case c9 => k_is); (case k9 => k_is); (case a10 => k_is); (case l10 => k_is); (case c10 => k_is); (case k10 => k_is); (case a11 => k_is); (case l11 => k_is); (case c11 => k_is); (case k11 => k_is); (case a12 => k_is); (case l12 => k_is); (case c12 => k_is); (case k12 => k_is); (case a13 => k_is); (case l13 => k_is); (case c13 => k_is); (case k13 => k_is); (case a14 => k_is); (case l14 => k_is); (case c14 => k_is); (case k14 => k_is); (case a16 => k_is); (case l16 => k_is); (case c16 => k_is); (case k16 => k_is); (case a17 => k_is); (case l17 => k_is); (case c17 => k_is); (case k17 => k_is); (case a18 => k_is); (case l18 => k_is); (case c18 => k_is); (case k18 => k_is); (case a19 => k_is); (case l19 => k_is); (case c19 => k_is); (case k19 => k_is); (case a20 => k_is); (case l20 => k_is); (case c20 => k_is); (case k20 => k_is); (case a21 => k_is); (case l21 => k_is); (case c21 => k_is); (case k21 => k_is); (case a22 => k_is); (case l22 => k_is); (case c22 => k_is); (case k22 => k_is); (case a23 => k_is); (case l23 => k_is); (case c23 => k_is); (case k23 => k_is); (case a24 => k_is); (case l24 => k_is); (case c24 => k_is); (case k24 => k_is); (case a25 => k_is); (case l25 => k_is); (case c25 => k_is); (case k25 => k_is); (case a26 => k_is); (case l26 => k_is); (case c26 => k_is); (case k26 => k_is); (case a27 => k_is); (case l27 => k_is); (case c27 => k_is); (case k27 => k_is); (case aNOUGHT => k_is); (case lNOUGHT => k_is); (case aWHOLE => k_is); (case lWHOLE => k_is); (case z_len => k_is); (case z_abs => k_is); (case z_int => k_is); (case z_sum => k_is); (case z_any => k_is); (case z_all => k_is); (case z_max => k_is); (case z_min => k_is); (case z_list => k_is); (case z_tuple => k_is); (case z_sorted => k_is); (case z_isinstance => k_is); (case z_range => k_is); (case z_enumerate => k_is); (case z_zip => k_is); (case z_reversed => k_is); (case z_str => k_is); (case z_bool => k_is); (case z_dict => k_is); (case zgcd => k_is)
