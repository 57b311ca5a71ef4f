import PyProof.Rows.All
import Wide.All
import OpenK.AllK
import Wide.FinOn
import PySem.Challenge.RW_linesfitted_k01_numbers_of_lines
import HandS.ForMost
import HandS.ForExc
import HandS.Wide
import HandS.Deep
import HandS.Style
import HandS.Flow
import HandS.IsInst
import HandS.TupAny
import HandS.Dict
import HandS.RaiseMore
import HandS.CallSlots
import HandS.Text
import HandS.Iter
import PyProof.Draws
import PyProof.EnumMake
import PyProof.TupleIter
import HandS.AnyAll
import HandS.GenCall
import HandS.Lambda
import HandS.GenList
import HandS.Words
import HandS.WordsExc
import HandS.EndBits
import HandS.EndTab
import HandS.EndOwn
import PyProof.Rows.RegStrFacts
import HandS.HotCalls
import HandS.ExcIs
import HandS.ExcCtx
set_option linter.all false
set_option Elab.async false
section
set_option maxRecDepth 100000
/-! The evaluator: pure values, slots that are owned or known, expressions, statements, their denotation. -/
namespace Ev
open PySem

inductive D where
  | non | bl (b : Bool) | int (i : Int) | str (s : Str)
  | tup (xs : List D) | lst (xs : List D)
  | frz (xs : List D) | dic (t : Bool) (kvs : List (D × D)) | ins (c : Nat) (fs : List (Nat × D)) | fn (f : Nat)
  deriving Inhabited

mutual
def D.py : D → PyData
  | .non => .none | .bl b => .bool b | .int i => .int i | .str s => .str s
  | .tup xs => .tuple (D.pys xs) | .lst xs => .list (D.pys xs)
  | .frz _ => .dict [] | .dic _ _ => .dict [] | .ins _ _ => .dict [] | .fn _ => .dict []
def D.pys : List D → List PyData
  | [] => []
  | x :: xs => D.py x :: D.pys xs
end
/-- what == is served for -/
def D.eqOk (a : D) : Bool := SeqAt.shaped a.py
def D.eqv (a b : D) : Bool := PyData.eqv a.py b.py
def D.eq? (a b : D) : Option Bool := if a.eqOk && b.eqOk then some (D.eqv a b) else none

inductive Sl where
  | val (d : D) | own (d : D)
  deriving Inhabited
abbrev Env := List (Option Sl)
structure Exn where
  cls : Nat
  fld : Option D
inductive A where
  | val (d : D) | own (i : Nat) | tmp (d : D)
  deriving Inhabited
inductive Out (α : Type) where
  | ok (a : α) (env : Env) | exn (x : Exn) (env : Env) | stuck
inductive Fl where
  | next | ret (a : A) | brk | cont
/-- a call's end: the value, what the parameters hold -/
inductive CR where
  | ret (a : A) (outs : Env) | exn (x : Exn) (outs : Env) | stuck
abbrev CF := Nat → List Sl → CR

abbrev M (α : Type) := Env → Out α
def Out.bind {α β : Type} (o : Out α) (k : α → Env → Out β) : Out β :=
  match o with
  | .ok a env => k a env
  | .exn x env => .exn x env
  | .stuck => .stuck
@[simp] theorem Out.bind_ok {α β : Type} (a : α) (env : Env) (k : α → Env → Out β) : (Out.ok a env).bind k = k a env := rfl
@[simp] theorem Out.bind_exn {α β : Type} (x : Exn) (env : Env) (k : α → Env → Out β) : (Out.exn (α := α) x env).bind k = .exn x env := rfl
@[simp] theorem Out.bind_stuck {α β : Type} (k : α → Env → Out β) : (Out.stuck (α := α)).bind k = .stuck := rfl

def Sl.d : Sl → D
  | .val d => d
  | .own d => d
/-- what a thing in hand holds -/
def A.look (a : A) (env : Env) : Option D :=
  match a with
  | .val d => some d
  | .tmp d => some d
  | .own i => match env[i]? with
    | some (some s) => some s.d
    | _ => none
/-- a thing in hand becomes known for good -/
def A.freeze (a : A) (env : Env) : Out D :=
  match a with
  | .val d => .ok d env
  | .tmp d => .ok d env
  | .own i => match env[i]? with
    | some (some s) => .ok s.d (env.set i (some (.val s.d)))
    | _ => .stuck

inductive Bo where | add | sub | mul | fdiv | mod | pow
  deriving DecidableEq
inductive Co where | eq | ne | lt | le | gt | ge | is | isn | inn | nin
  deriving DecidableEq

/-- a value, new (nobody else's) or not -/
inductive BR where
  | val (d : D) | new (d : D)
def BR.a : BR → A
  | .val d => .val d
  | .new d => .tmp d

/-- below 2 ^ 64 in size: by Nat.ble, so that the kernel does not count down a great literal -/
def s64 (i : Int) : Bool := Nat.ble i.natAbs 18446744073709551615
theorem s64_lt {i : Int} (h : s64 i = true) : -(2 ^ 64) < i ∧ i < 2 ^ 64 := by
  have := Nat.le_of_ble_eq_true h
  omega
theorem s64_of {i : Int} (h1 : -(2 ^ 64) < i) (h2 : i < 2 ^ 64) : s64 i = true := Nat.ble_eq_true_of_le (by omega)
def mulOk (i j : Int) : Bool := s64 i || s64 j || decide (i.natAbs.log2 + j.natAbs.log2 < 1000000)
def fdivOk (j : Int) : Bool := (decide (j ≠ 0) && decide (j.natAbs < 1073741824)) || (decide (j ≠ 0) && decide (j.natAbs.log2 < 9000))
def powOk (i j : Int) : Bool := decide (0 ≤ j) && decide (j ≤ 1000000) && decide (i.natAbs < 2 ^ 64)

def binF : Bo → D → D → Option BR
  | .add, .int i, .int j => some (.val (.int (i + j)))
  | .sub, .int i, .int j => some (.val (.int (i - j)))
  | .mul, .int i, .int j => if mulOk i j then some (.val (.int (i * j))) else none
  | .fdiv, .int i, .int j => if fdivOk j then some (.val (.int (i.fdiv j))) else none
  | .mod, .int i, .int j => if j = 0 then none else some (.val (.int (i.fmod j)))
  | .pow, .int i, .int j => if powOk i j then some (.val (.int (i ^ j.toNat))) else none
  | .add, .int i, .bl k => some (.val (.int (i + (if k then 1 else 0))))
  | .add, .str x, .str y => if x.length + y.length ≤ sizeLine then some (.val (.str (x ++ y))) else none
  | .add, .tup xs, .tup ys => if xs.length + ys.length ≤ sizeLine then some (.val (.tup (xs ++ ys))) else none
  | .add, .lst xs, .lst ys => if xs.length + ys.length ≤ sizeLine then some (.new (.lst (xs ++ ys))) else none
  | .mul, .lst xs, .int k => if -(2 ^ 63) ≤ k ∧ k < 2 ^ 63 ∧ xs.length * k.toNat ≤ sizeLine then some (.new (.lst (List.replicate k.toNat xs).flatten)) else none
  | _, _, _ => none

/-- x op= e of values -/
def augF : Bo → D → D → Option D
  | .add, .int i, .int j => some (.int (i + j))
  | .sub, .int i, .int j => some (.int (i - j))
  | .mul, .int i, .int j => if mulOk i j then some (.int (i * j)) else none
  | .fdiv, .int i, .int j => if fdivOk j then some (.int (i.fdiv j)) else none
  | .add, .str x, .str y => if x.length + y.length ≤ sizeLine then some (.str (x ++ y)) else none
  | _, _, _ => none
def D.isNon : D → Bool
  | .non => true
  | _ => false
def strIn (a b : Str) : Bool := !(Builtin.Str.occurrences b a 0 b.length 1).isEmpty
def cmpF : Co → D → D → Option Bool
  | .eq, a, b => a.eq? b
  | .ne, a, b => (a.eq? b).map (!·)
  | .lt, .int i, .int j => some (decide (i < j))
  | .le, .int i, .int j => some (decide (i ≤ j))
  | .gt, .int i, .int j => some (decide (j < i))
  | .ge, .int i, .int j => some (decide (j ≤ i))
  | .is, a, .non => some a.isNon
  | .isn, a, .non => some (!a.isNon)
  | .is, .bl a, .bl b => some (a == b)
  | .isn, .bl a, .bl b => some (a != b)
  | .inn, .str a, .str b => some (strIn a b)
  | .nin, .str a, .str b => some (!strIn a b)
  | .inn, a, .lst xs => if a.eqOk && (D.lst xs).eqOk then some (xs.any fun x => D.eqv x a) else none
  | .nin, a, .lst xs => if a.eqOk && (D.lst xs).eqOk then some (!xs.any fun x => D.eqv x a) else none
  | _, _, _ => none

def D.truth : D → Option Bool
  | .non => some false
  | .bl b => some b
  | .int i => some (i != 0)
  | .str s => if s.length ≤ sizeLine then some (s.length != 0) else none
  | .tup xs => some (!xs.isEmpty)
  | .lst xs => some (!xs.isEmpty)
  | _ => none

/-- equal keys of dicts: ints, texts, tuples of such -/
def kEqs (f : D → D → Bool) : List D → List D → Bool
  | [], [] => true
  | a :: as, b :: bs => f a b && kEqs f as bs
  | _, _ => false
def kEq1 : D → D → Bool
  | .int i, .int j => i == j
  | .str s, .str t => s == t
  | _, _ => false
def kEq : D → D → Bool
  | .tup xs, .tup ys => kEqs kEq1 xs ys
  | a, b => kEq1 a b
def dget (kvs : List (D × D)) (k : D) : Option D := (kvs.find? fun p => kEq p.1 k).map (·.2)
def dput (kvs : List (D × D)) (k v : D) : List (D × D) := if kvs.any fun p => kEq p.1 k then kvs.map (fun p => if kEq p.1 k then (p.1, v) else p) else kvs ++ [(k, v)]
def dmerge (kvs more : List (D × D)) : List (D × D) := more.foldl (fun acc p => dput acc p.1 p.2) kvs
def isKey1 : D → Bool
  | .int _ => true
  | .str _ => true
  | _ => false
def isKeyT : D → Bool
  | .tup ds => ds.all isKey1
  | _ => false
def keyOk (t : Bool) (k : D) : Bool := if t then isKeyT k else isKey1 k
def pairD : List D → Option (List (D × D))
  | [] => some []
  | k :: v :: r => if isKey1 k then (pairD r).map ((k, v) :: ·) else none
  | _ => none
def idxF : D → D → Option D
  | .dic t kvs, k => if keyOk t k then dget kvs k else none
  | .tup xs, .int i => L2.atI xs i
  | .lst xs, .int i => L2.atI xs i
  | .frz xs, .int i => L2.atI xs i
  | .str s, .int i => if s.length ≤ sizeLine then (L2.atI s.cps.toList i).map fun c => .str ⟨#[c]⟩ else none
  | _, _ => none
def setF : D → D → D → Option D
  | .lst xs, .int i, v => (L2.ixN xs.length i).map fun k => .lst (xs.set k v)
  | _, _, _ => none

/-- built-in functions of values -/
inductive Bi where
  | len | abs | int | list | tuple | any | all | isInt | isBool | isTuple | isStr | isList | max2 | min2 | sum | max1 | min1 | str
  deriving DecidableEq
def asBools : List D → Option (List Bool)
  | [] => some []
  | .bl b :: r => (asBools r).map (b :: ·)
  | _ :: _ => none
def asInts : List D → Option (List Int)
  | [] => some []
  | .int b :: r => (asInts r).map (b :: ·)
  | _ :: _ => none
def maxI : List Int → Option Int
  | [] => none
  | n :: ns => some (ns.foldl (fun m y => if m < y then y else m) n)
def minI : List Int → Option Int
  | [] => none
  | n :: ns => some (ns.foldl (fun m y => if y < m then y else m) n)
def asStrs : List D → Option (List Str)
  | [] => some []
  | .str b :: r => (asStrs r).map (b :: ·)
  | _ :: _ => none
/-- methods of a text -/
inductive Sm where | join
  deriving DecidableEq
def smF : Sm → Str → List D → Option BR
  | .join, a, [.lst xs] => (asStrs xs).bind fun ys => if (ys.map (·.length)).sum + ys.length * a.length ≤ 16777216 then some (.val (.str (Txt.join a ys))) else none
  | .join, a, [.tup xs] => (asStrs xs).bind fun ys => if (ys.map (·.length)).sum + ys.length * a.length ≤ 16777216 then some (.val (.str (Txt.join a ys))) else none
  | _, _, _ => none
def biF : Bi → List D → Option BR
  | .max1, [.lst xs] => ((asInts xs).bind maxI).map fun m => .val (.int m)
  | .min1, [.lst xs] => ((asInts xs).bind minI).map fun m => .val (.int m)
  | .str, [.int i] => if i.natAbs.log2 < 1920 then some (.val (.str (toString i))) else none
  | .str, [.str s] => some (.val (.str s))
  | .len, [.lst xs] => some (.val (.int xs.length))
  | .len, [.frz xs] => some (.val (.int xs.length))
  | .len, [.tup xs] => some (.val (.int xs.length))
  | .len, [.str s] => if s.length ≤ sizeLine then some (.val (.int s.length)) else none
  | .abs, [.int i] => some (.val (.int (if i < 0 then -i else i)))
  | .int, [.int i] => some (.val (.int i))
  | .int, [.bl k] => some (.val (.int (if k then 1 else 0)))
  | .list, [.lst xs] => some (.new (.lst xs))
  | .list, [.tup xs] => some (.new (.lst xs))
  | .list, [.frz xs] => some (.new (.lst xs))
  | .tuple, [.lst xs] => some (.val (.tup xs))
  | .tuple, [.tup xs] => some (.val (.tup xs))
  | .any, [.lst xs] => (asBools xs).map fun bs => .val (.bl (bs.any id))
  | .all, [.lst xs] => (asBools xs).map fun bs => .val (.bl (bs.all id))
  | .sum, [.lst xs] => (asInts xs).map fun ns => .val (.int ns.sum)
  | .max2, [.int i, .int j] => some (.val (.int (if j > i then j else i)))
  | .min2, [.int i, .int j] => some (.val (.int (if j < i then j else i)))
  | .isInt, [.int _] => some (.val (.bl true))
  | .isInt, [.bl _] => some (.val (.bl true))
  | .isInt, [.non] => some (.val (.bl false))
  | .isInt, [.str _] => some (.val (.bl false))
  | .isInt, [.tup _] => some (.val (.bl false))
  | .isInt, [.lst _] => some (.val (.bl false))
  | .isBool, [.bl _] => some (.val (.bl true))
  | .isBool, [.int _] => some (.val (.bl false))
  | .isBool, [.non] => some (.val (.bl false))
  | .isBool, [.str _] => some (.val (.bl false))
  | .isBool, [.tup _] => some (.val (.bl false))
  | .isBool, [.lst _] => some (.val (.bl false))
  | .isTuple, [.tup _] => some (.val (.bl true))
  | .isTuple, [.bl _] => some (.val (.bl false))
  | .isTuple, [.int _] => some (.val (.bl false))
  | .isTuple, [.non] => some (.val (.bl false))
  | .isTuple, [.str _] => some (.val (.bl false))
  | .isTuple, [.lst _] => some (.val (.bl false))
  | .isStr, [.str _] => some (.val (.bl true))
  | .isStr, [.bl _] => some (.val (.bl false))
  | .isStr, [.int _] => some (.val (.bl false))
  | .isStr, [.non] => some (.val (.bl false))
  | .isStr, [.tup _] => some (.val (.bl false))
  | .isStr, [.lst _] => some (.val (.bl false))
  | .isList, [.lst _] => some (.val (.bl true))
  | .isList, [.bl _] => some (.val (.bl false))
  | .isList, [.int _] => some (.val (.bl false))
  | .isList, [.non] => some (.val (.bl false))
  | .isList, [.tup _] => some (.val (.bl false))
  | .isList, [.str _] => some (.val (.bl false))
  | _, _ => none

/-- a row's cut -/
def cutD {α : Type} (xs : List α) (lo hi : Option Int) : List α := (xs.drop (HT.sIx xs.length 0 lo)).take (HT.sIx xs.length xs.length hi - HT.sIx xs.length 0 lo)

/-- things that are changed at a name -/
inductive Mm where | append | pop | extend
  deriving DecidableEq
def mutF : Mm → D → List D → Option (D × D)
  | .append, .lst xs, [v] => if xs.length < sizeLine then some (.lst (xs ++ [v]), .non) else none
  | .pop, .lst xs, [] => match xs[xs.length - 1]? with
    | some v => some (.lst xs.dropLast, v)
    | none => none
  | .extend, .lst xs, [.lst ys] => if xs.length + ys.length ≤ sizeLine then some (.lst (xs ++ ys), .non) else none
  | _, _, _ => none

inductive Tg where
  | nm (i : Nat) | tp (ts : Tg) | nil | cons (t ts : Tg)
  deriving DecidableEq

mutual
inductive E where
  | var (i : Nat) | cst (d : D)
  | neg (a : E) | bin (o : Bo) (a b : E) | cmp (o : Co) (a b : E) | chain (o p : Co) (a b c : E)
  | nt (a : E) | an (a b : E) | or (a b : E) | ite (c a b : E)
  | call (f : Nat) (es : Es) | bi (f : Bi) (es : Es)
  | tup (es : Es) | lst (es : Es) | idx (a i : E) | slc (a : E) (lo hi : Es)
  | mut (m : Mm) (i : Nat) (es : Es)
  | lc (elt : E) (t : Tg) (it : It) (c : Es) (ws : List Nat)
  | sm (m : Sm) (o : E) (es : Es) | dsp (es : Es) | dnew (t : Bool)
  | gx (isAll : Bool) (elt : E) (t : Tg) (it : It) (c : Es) (ws : List Nat)
inductive Es where
  | nil | cons (e : E) (es : Es)
inductive It where
  | of (e : E) | rng1 (a : E) | rng2 (a b : E) | rng3 (a b c : E) | enum (e : E) | zip (a b : E)
end

mutual
inductive S where
  | expr (e : E) | asg (t : Tg) (e : E) | par (i j : Nat) (a b : E) | par3 (i j k : Nat) (a b c : E)
  | setI (i : Nat) (ix e : E) | aug (i : Nat) (o : Bo) (e : E)
  | ret (e : E) | retN | iff (c : E) (a b : Ss) | whl (c : E) (b : Ss) | forr (t : Tg) (it : It) (b : Ss)
  | brk | cont | pass
  | raise (cls : Nat) (es : Es)
  | tryE (b : Ss) (cls : Nat) (nm : Option Nat) (h : Ss)
inductive Ss where
  | nil | cons (s : S) (r : Ss)
end
end Ev
end
section
set_option maxRecDepth 100000
namespace Ev
open PySem

def bindT : Tg → D → Env → Option Env
  | .nm i, d, env => if i < env.length then some (env.set i (some (.val d))) else none
  | .tp ts, .tup ds, env => bindTs ts ds env
  | .tp ts, .lst ds, env => bindTs ts ds env
  | _, _, _ => none
where bindTs : Tg → List D → Env → Option Env
  | .nil, [], env => some env
  | .cons t ts, d :: ds, env => match bindT t d env with
    | some env' => bindTs ts ds env'
    | none => none
  | _, _, _ => none

/-- a turn's end in a loop: none: the loop goes on -/
def forL (body : D → Env → Out Fl) : List D → Env → Out Fl
  | [], env => .ok .next env
  | d :: ds, env => match body d env with
    | .ok .next env' => forL body ds env'
    | .ok .cont env' => forL body ds env'
    | .ok .brk env' => .ok .next env'
    | .ok (.ret a) env' => .ok (.ret a) env'
    | .exn x env' => .exn x env'
    | .stuck => .stuck
def whlL (test : Env → Out Bool) (body : Env → Out Fl) : Nat → Env → Out Fl
  | 0, _ => .stuck
  | n + 1, env => (test env).bind fun b env' => if b then
      match body env' with
      | .ok .next e => whlL test body n e
      | .ok .cont e => whlL test body n e
      | .ok .brk e => .ok .next e
      | .ok (.ret a) e => .ok (.ret a) e
      | .exn x e => .exn x e
      | .stuck => .stuck
    else .ok .next env'
def lcL (body : D → Env → Out (Option D)) : List D → List D → Env → Out (List D)
  | [], acc, env => .ok acc env
  | d :: ds, acc, env => match body d env with
    | .ok (some y) env' => if acc.length < sizeLine then lcL body ds (acc ++ [y]) env' else .stuck
    | .ok none env' => lcL body ds acc env'
    | _ => .stuck

/-- all, any by turns: a turn gives none (filtered), or a truth -/
def gxL (isAll : Bool) (body : D → Env → Out (Option Bool)) : List D → Env → Out Bool
  | [], env => .ok isAll env
  | d :: ds, env => match body d env with
    | .ok (some c) env' => if c = isAll then gxL isAll body ds env' else .ok c env'
    | .ok none env' => gxL isAll body ds env'
    | _ => .stuck

def wipeE (env : Env) : List Nat → Env
  | [] => env
  | i :: is => (wipeE env is).set i none
/-- the slots is as they stand in old -/
def backE (old env : Env) : List Nat → Env
  | [] => env
  | i :: is => match old[i]? with
    | some s => (backE old env is).set i s
    | none => backE old env is

def rngD (lo : Int) : Nat → List D
  | 0 => []
  | n + 1 => .int lo :: rngD (lo + 1) n
def rngC (lo c : Int) : Nat → List D
  | 0 => []
  | n + 1 => .int lo :: rngC (lo + c) c n
def in62 (i : Int) : Bool := Nat.ble i.natAbs 4611686018427387903
/-- the turns of a range with a step -/
def turnsC (i j c : Int) : Nat := if 0 < c then ((j - i + c - 1) / c).toNat else ((i - j + (-c) - 1) / (-c)).toNat
def itemsOf : D → Option (List D)
  | .lst xs => some xs
  | .tup xs => some xs
  | .str s => some (s.cps.toList.map fun c => .str ⟨#[c]⟩)
  | _ => none
def enumD : Int → List D → List D
  | _, [] => []
  | i, x :: xs => .tup [.int i, x] :: enumD (i + 1) xs
def zipD : List D → List D → List D
  | x :: xs, y :: ys => .tup [x, y] :: zipD xs ys
  | _, _ => []

def freezeAll : List A → List Bool → Env → Out (List A)
  | a :: as, true :: ls, env => (freezeAll as ls env).bind fun r env' => .ok (a :: r) env'
  | a :: as, _, env => (a.freeze env).bind fun d env' => (freezeAll as [] env').bind fun r env'' => .ok (.val d :: r) env''
  | [], _, env => .ok [] env
def paramsOf : List A → Env → Option (List Sl)
  | [], _ => some []
  | a :: as, env => match (match a with
      | .val d => some (Sl.val d)
      | .tmp d => some (Sl.own d)
      | .own i => match env[i]? with
        | some (some s) => some s
        | _ => none), paramsOf as env with
    | some s, some r => some (s :: r)
    | _, _ => none
def lentOf : List A → List Nat
  | [] => []
  | .own i :: as => i :: lentOf as
  | _ :: as => lentOf as
def backOuts : List A → Env → Env → Env
  | .own i :: as, o :: os, env => backOuts as os (env.set i o)
  | _ :: as, _ :: os, env => backOuts as os env
  | _, _, env => env
def callM (F : CF) (f : Nat) (lend : List Bool) (as : List A) (env : Env) : Out A :=
  (freezeAll as lend env).bind fun as env =>
    match paramsOf as env with
    | none => .stuck
    | some ps => if (lentOf as).Nodup then
        match F f ps with
        | .ret (.own _) _ => .stuck
        | .ret r outs => .ok r (backOuts as outs env)
        | .exn x outs => .exn x (backOuts as outs env)
        | .stuck => .stuck
      else .stuck

def lookAll : List A → Env → Option (List D)
  | [], _ => some []
  | a :: as, env => match a.look env, lookAll as env with
    | some d, some ds => some (d :: ds)
    | _, _ => none

structure Par where
  F : CF
  lend : Nat → List Bool
  fuel : Nat
  np : Nat
  exm : Nat → Nat → Option Bool

mutual
def evA (P : Par) : E → M A
  | .var i => fun env => match env[i]? with
    | some (some (.val d)) => .ok (.val d) env
    | some (some (.own _)) => .ok (.own i) env
    | _ => .stuck
  | .cst d => fun env => .ok (.val d) env
  | .neg a => fun env => (evA P a env).bind fun x env => match x with
    | .val (.int i) => .ok (.val (.int (-i))) env
    | _ => .stuck
  | .bin o a b => fun env => (evA P a env).bind fun x env => (evA P b env).bind fun y env => match x.look env, y.look env with
    | some d, some e => match binF o d e with
      | some r => .ok r.a env
      | none => .stuck
    | _, _ => .stuck
  | .cmp o a b => fun env => (evA P a env).bind fun x env => (evA P b env).bind fun y env => match x.look env, y.look env with
    | some d, some e => match cmpF o d e with
      | some r => .ok (.val (.bl r)) env
      | none => .stuck
    | _, _ => .stuck
  | .chain o p a b c => fun env => (evA P a env).bind fun x env => (evA P b env).bind fun y env => match x.look env, y.look env with
    | some d, some e => match cmpF o d e with
      | some true => (evA P c env).bind fun z env => match y.look env, z.look env with
        | some e, some g => match cmpF p e g with
          | some r => .ok (.val (.bl r)) env
          | none => .stuck
        | _, _ => .stuck
      | some false => .ok (.val (.bl false)) env
      | none => .stuck
    | _, _ => .stuck
  | .nt a => fun env => (evA P a env).bind fun x env => match (x.look env).bind D.truth with
    | some b => .ok (.val (.bl (!b))) env
    | none => .stuck
  | .an a b => fun env => (evA P a env).bind fun x env => match (x.look env).bind D.truth with
    | some true => evA P b env
    | some false => .ok x env
    | none => .stuck
  | .or a b => fun env => (evA P a env).bind fun x env => match (x.look env).bind D.truth with
    | some false => evA P b env
    | some true => .ok x env
    | none => .stuck
  | .ite c a b => fun env => (evT P c env).bind fun k env => if k then evA P a env else evA P b env
  | .call f es => fun env => (evAs P es env).bind fun as env => callM P.F f (P.lend f) as env
  | .bi f es => fun env => (evAs P es env).bind fun as env => match lookAll as env with
    | some ds => match biF f ds with
      | some r => .ok r.a env
      | none => .stuck
    | none => .stuck
  | .tup es => fun env => (evVs P es env).bind fun ds env => if ds.length ≤ sizeLine then .ok (.val (.tup ds)) env else .stuck
  | .lst es => fun env => (evVs P es env).bind fun ds env => if ds.length ≤ sizeLine then .ok (.tmp (.lst ds)) env else .stuck
  | .sm m o es => fun env => (evA P o env).bind fun x env => match x with
    | .val (.str s) => (evAs P es env).bind fun as env => match lookAll as env with
      | some ds => match smF m s ds with
        | some r => .ok r.a env
        | none => .stuck
      | none => .stuck
    | _ => .stuck
  | .dsp es => fun env => (evVs P es env).bind fun ds env => match pairD ds with
    | some ps => if ps.length ≤ 15 then .ok (.tmp (.dic false (dmerge [] ps))) env else .stuck
    | none => .stuck
  | .dnew t => fun env => .ok (.tmp (.dic t [])) env
  | .idx a i => fun env => (evA P a env).bind fun x env => (evA P i env).bind fun y env => match x.look env, y.look env with
    | some d, some e => match idxF d e with
      | some r => .ok (.val r) env
      | none => .stuck
    | _, _ => .stuck
  | .slc a lo hi => fun env => (evA P a env).bind fun x env => (evO P lo env).bind fun i env => (evO P hi env).bind fun j env => match x.look env with
    | some (.lst xs) => .ok (.tmp (.lst (cutD xs i j))) env
    | some (.tup xs) => .ok (.val (.tup (cutD xs i j))) env
    | some (.str s) => if s.length ≤ sizeLine then .ok (.val (.str (L2.cutS s i j))) env else .stuck
    | _ => .stuck
  | .mut m i es => fun env => match env[i]? with
    | some (some (.own (.lst _))) => (evVs P es env).bind fun ds env => match env[i]? with
      | some (some (.own d)) => match mutF m d ds with
        | some (d', v) => .ok (.val v) (env.set i (some (.own d')))
        | none => .stuck
      | _ => .stuck
    | _ => .stuck
  | .lc elt t it c ws => fun env => (evI P it env).bind fun ds env =>
      match lcL (fun d env => match bindT t d env with
        | some env => (evC P c env).bind fun k env => if k then (evA P elt env).bind fun a env => (a.freeze env).bind fun y env => .ok (some y) (wipeE env ws) else .ok none (wipeE env ws)
        | none => .stuck) ds [] (wipeE env ws) with
      | .ok ys env' => .ok (.tmp (.lst ys)) (backE env env' ws)
      | _ => .stuck
  | .gx isAll elt t it c ws => fun env => (evI P it env).bind fun ds env =>
      match gxL isAll (fun d env => match bindT t d env with
        | some env => (evC P c env).bind fun k env => if k then (evA P elt env).bind fun a env => match a with
          | .val (.bl b) => .ok (some b) (wipeE env ws)
          | _ => .stuck
          else .ok none (wipeE env ws)
        | none => .stuck) ds (wipeE env ws) with
      | .ok b env' => .ok (.val (.bl b)) (backE env env' ws)
      | _ => .stuck
def evT (P : Par) : E → M Bool
  | .nt a => fun env => (evT P a env).bind fun k env => .ok (!k) env
  | .an a b => fun env => (evT P a env).bind fun k env => if k then evT P b env else .ok false env
  | .or a b => fun env => (evT P a env).bind fun k env => if k then .ok true env else evT P b env
  | .ite c a b => fun env => (evT P c env).bind fun k env => if k then evT P a env else evT P b env
  | e => fun env => (evA P e env).bind fun x env => match (x.look env).bind D.truth with
    | some b => .ok b env
    | none => .stuck
/-- a part of a slice -/
def evO (P : Par) : Es → M (Option Int)
  | .nil => fun env => .ok none env
  | .cons e _ => fun env => (evA P e env).bind fun a env => match a with
    | .val (.int i) => .ok (some i) env
    | _ => .stuck
/-- a clause's tests -/
def evC (P : Par) : Es → M Bool
  | .nil => fun env => .ok true env
  | .cons e _ => evT P e
def evAs (P : Par) : Es → M (List A)
  | .nil => fun env => .ok [] env
  | .cons e es => fun env => (evA P e env).bind fun a env => (evAs P es env).bind fun as env => .ok (a :: as) env
def evVs (P : Par) : Es → M (List D)
  | .nil => fun env => .ok [] env
  | .cons e es => fun env => (evA P e env).bind fun a env => (a.freeze env).bind fun d env => (evVs P es env).bind fun ds env => .ok (d :: ds) env
def evI (P : Par) : It → M (List D)
  | .of e => fun env => (evA P e env).bind fun a env => (a.freeze env).bind fun d env => match itemsOf d with
    | some ds => .ok ds env
    | none => .stuck
  | .rng1 a => fun env => (evA P a env).bind fun x env => match x with
    | .val (.int j) => if in62 j then .ok (rngD 0 j.toNat) env else .stuck
    | _ => .stuck
  | .rng2 a b => fun env => (evA P a env).bind fun x env => (evA P b env).bind fun y env => match x, y with
    | .val (.int i), .val (.int j) => if in62 i && in62 j then .ok (rngD i (j - i).toNat) env else .stuck
    | _, _ => .stuck
  | .rng3 a b c => fun env => (evA P a env).bind fun x env => (evA P b env).bind fun y env => (evA P c env).bind fun z env => match x, y, z with
    | .val (.int i), .val (.int j), .val (.int k) => if in62 i && in62 j && decide (k ≠ 0) && decide (k.natAbs < 1073741824) then .ok (rngC i k (turnsC i j k)) env else .stuck
    | _, _, _ => .stuck
  | .enum e => fun env => (evA P e env).bind fun a env => (a.freeze env).bind fun d env => match d with
    | .lst ds => .ok (enumD 0 ds) env
    | .tup ds => .ok (enumD 0 ds) env
    | _ => .stuck
  | .zip a b => fun env => (evA P a env).bind fun x env => (x.freeze env).bind fun d env => (evA P b env).bind fun y env => (y.freeze env).bind fun e env => match itemsOf d, itemsOf e with
    | some xs, some ys => .ok (zipD xs ys) env
    | _, _ => .stuck
end

mutual
def evS (P : Par) : S → M Fl
  | .expr e => fun env => (evA P e env).bind fun _ env => .ok .next env
  | .asg t e => fun env => (evA P e env).bind fun a env => match t, a with
    | .nm i, .tmp d => if i < env.length then .ok .next (env.set i (some (.own d))) else .stuck
    | t, a => (a.freeze env).bind fun d env => match bindT t d env with
      | some env => .ok .next env
      | none => .stuck
  | .par i j a b => fun env => (evA P a env).bind fun x env => (x.freeze env).bind fun d env => (evA P b env).bind fun y env => (y.freeze env).bind fun e env =>
      if i < env.length ∧ j < env.length then .ok .next ((env.set i (some (.val d))).set j (some (.val e))) else .stuck
  | .par3 i j k a b c => fun env => (evA P a env).bind fun x env => (x.freeze env).bind fun d env => (evA P b env).bind fun y env => (y.freeze env).bind fun e env => (evA P c env).bind fun z env => (z.freeze env).bind fun g env =>
      if i < env.length ∧ j < env.length ∧ k < env.length then .ok .next (((env.set i (some (.val d))).set j (some (.val e))).set k (some (.val g))) else .stuck
  | .setI i ix e => fun env => match env[i]? with
    | some (some (.own _)) => (evA P e env).bind fun a env => (a.freeze env).bind fun d env => (evA P ix env).bind fun y env => match y.look env, env[i]? with
      | some x, some (some (.own o)) => match setF o x d with
        | some o' => .ok .next (env.set i (some (.own o')))
        | none => .stuck
      | _, _ => .stuck
    | _ => .stuck
  | .aug i o e => fun env => match env[i]? with
    | some (some (.val d)) => (evA P e env).bind fun y env => match y.look env with
      | some g => match augF o d g with
        | some r => .ok .next (env.set i (some (.val r)))
        | none => .stuck
      | none => .stuck
    | _ => .stuck
  | .ret e => fun env => (evA P e env).bind fun a env => match a with
    | .own i => if i < P.np then (a.freeze env).bind fun d env => .ok (.ret (.val d)) env else match env[i]? with
      | some (some (.own d)) => .ok (.ret (.tmp d)) (env.set i none)
      | _ => .stuck
    | a => .ok (.ret a) env
  | .retN => fun env => .ok (.ret (.val .non)) env
  | .iff c a b => fun env => (evT P c env).bind fun k env => if k then evSs P a env else evSs P b env
  | .whl c b => whlL (evT P c) (evSs P b) P.fuel
  | .forr t it b => fun env => (evI P it env).bind fun ds env => forL (fun d env => match bindT t d env with
      | some env => evSs P b env
      | none => .stuck) ds env
  | .brk => fun env => .ok .brk env
  | .cont => fun env => .ok .cont env
  | .pass => fun env => .ok .next env
  | .raise c es => fun env => (evVs P es env).bind fun ds env => match ds with
    | [] => .exn ⟨c, none⟩ env
    | [d] => .exn ⟨c, some d⟩ env
    | _ => .stuck
  | .tryE b c nm h => fun env => match evSs P b env with
    | .exn x env' => match P.exm x.cls c, nm with
      | some true, none => match evSs P h env' with
        | .exn _ _ => .stuck
        | o => o
      | some false, _ => .exn x env'
      | _, _ => .stuck
    | o => o
def evSs (P : Par) : Ss → M Fl
  | .nil => fun env => .ok .next env
  | .cons s r => fun env => match evS P s env with
    | .ok .next env' => evSs P r env'
    | o => o
end
/-- a def: its parameters, its slots, which parameters are never stored, its body -/
structure Fn where
  np : Nat
  n : Nat
  lend : List Bool
  body : Ss
  /-- a def that is shown by hand: what it answers -/
  ext : Option (List Sl → CR)
/-- what the parameters that are never stored hold -/
def maskO : List Bool → Env → Env
  | true :: ls, s :: env => s :: maskO ls env
  | _ :: ls, _ :: env => none :: maskO ls env
  | _ :: ls, [] => none :: maskO ls []
  | [], _ => []
/-- the program's calls, by level -/
def callF (fs : List Fn) (exm : Nat → Nat → Option Bool) (fuel : Nat) : Nat → CF
  | 0 => fun _ _ => .stuck
  | k + 1 => fun f ps => match fs[f]? with
    | none => .stuck
    | some fn => match fn.ext with
      | some g => if 3 ≤ k then g ps else .stuck
      | none => if ps.length = fn.np then
        match evSs ⟨callF fs exm fuel k, fun g => (fs[g]?.map (·.lend)).getD [], fuel, fn.np, exm⟩ fn.body (ps.map some ++ List.replicate (fn.n - fn.np) none) with
        | .ok (.ret (.own _)) _ => .stuck
        | .ok (.ret a) env => .ret a (maskO fn.lend env)
        | .ok .next env => .ret (.val .non) (maskO fn.lend env)
        | .ok _ _ => .stuck
        | .exn x env => .exn x (maskO fn.lend env)
        | .stuck => .stuck
      else .stuck
end Ev
end
section
set_option maxRecDepth 100000
namespace Ev
open PySem PySem.Spec L2

/-- the program's own things -/
structure Glob where
  P : Program
  w : World
  K : PySem.W.Frag
  mg : Str → Option Value
  base : Heap
  /-- an exception's class -/
  exc : Nat → Option Addr
  /-- the tables of code -/
  tabs : List Addr

def TblOk (o : HO) : Prop := ∃ ps : Array Value, o = .tbl ps ∧ TriplesOk ps.toList

/-- from H to H' things at W alone are changed, W' are W's or new -/
structure Stp (W : Addr → Prop) (H : Hp) (W' : Addr → Prop) (H' : Hp) : Prop where
  keep : ∀ a o, H a = some o → ¬ W a → H' a = some o ∨ (TblOk o ∧ ∃ o', H' a = some o' ∧ TblOk o')
  tups : ∀ a vs, H a = some (.tup vs) → H' a = some (.tup vs)
  frzs : ∀ a o u, H a = some (.frz o u) → H' a = some (.frz o u)
  sub : ∀ a, W' a → W a ∨ H a = none
  there : ∀ a o, H a = some o → ∃ o', H' a = some o'

/-- a row that nobody may write: the caller's, or one of the program's own -/
def SqF (K : PySem.W.Frag) (H : Hp) (a : Addr) (vs : List V) : Prop :=
  (∃ o, H a = some (.frz o (.lst vs))) ∨ ∃ (o : Obj) (its : Array Value) (n : Nat), K.lookup a = some o ∧ o.cls = .type "list" ∧ o.dict = none ∧ o.data = .seq its n ∧ its.size ≤ sizeLine ∧ Vals vs its.toList
theorem SqF.sql {K : PySem.W.Frag} {H : Hp} {a : Addr} {vs : List V} (h : SqF K H a vs) : SqL K H a vs := by
  rcases h with ⟨o, h⟩ | h
  · exact .inl (.inr ⟨o, h⟩)
  · exact .inr h
/-- a dict's key: an int or a text; a tuple of such -/
def D.key : D → Option Key
  | .int i => some (.inl i)
  | .str s => some (.inr s)
  | _ => none
def keysD : List D → Option (List Key)
  | [] => some []
  | d :: ds => match d.key, keysD ds with
    | some k, some ks => some (k :: ks)
    | _, _ => none
def D.tkey : D → Option (List Key)
  | .tup ds => keysD ds
  | _ => none
/-- a thing that may be written -/
def MutO (o : HO) : Prop := (∃ vs, o = .lst vs) ∨ (∃ l, o = .dK l) ∨ ∃ l, o = .dT l
theorem MutO.ntab {o : HO} (m : MutO o) : ¬ TblOk o := fun ⟨ps, e, _⟩ => by
  rcases m with ⟨_, z⟩ | ⟨_, z⟩ | ⟨_, z⟩ <;> (rw [z] at e; cases e)
theorem MutO.ntup {o : HO} (m : MutO o) (vs : List V) : o ≠ .tup vs := fun e => by
  rcases m with ⟨_, z⟩ | ⟨_, z⟩ | ⟨_, z⟩ <;> (rw [z] at e; cases e)
theorem MutO.nfrz {o : HO} (m : MutO o) (x : Obj) (u : HO) : o ≠ .frz x u := fun e => by
  rcases m with ⟨_, z⟩ | ⟨_, z⟩ | ⟨_, z⟩ <;> (rw [z] at e; cases e)
mutual
inductive Rep (Γ : Glob) (O : Addr → Prop) (H : Hp) : V → D → Prop
  | non : Rep Γ O H .non .non
  | bl (b : Bool) : Rep Γ O H (.bl b) (.bl b)
  | int (i : Int) : Rep Γ O H (.int i) (.int i)
  | str (x : Str) : Rep Γ O H (.str x) (.str x)
  | lst {a : Addr} {vs : List V} {ds : List D} : H a = some (.lst vs) → ¬ O a → Reps Γ O H vs ds → Rep Γ O H (.ref a) (.lst ds)
  | frz {a : Addr} {vs : List V} {ds : List D} : SqF Γ.K H a vs → Reps Γ O H vs ds → Rep Γ O H (.ref a) (.frz ds)
  | tup {a : Addr} {vs : List V} {ds : List D} : H a = some (.tup vs) → Reps Γ O H vs ds → Rep Γ O H (.ref a) (.tup ds)
  | dicK {a : Addr} {l : List (Key × V)} {kvs : List (D × D)} : H a = some (.dK l) → ¬ O a → RepK Γ O H l kvs → Rep Γ O H (.ref a) (.dic false kvs)
  | dicT {a : Addr} {l : List (List Key × V)} {kvs : List (D × D)} : H a = some (.dT l) → ¬ O a → RepT Γ O H l kvs → Rep Γ O H (.ref a) (.dic true kvs)
inductive Reps (Γ : Glob) (O : Addr → Prop) (H : Hp) : List V → List D → Prop
  | nil : Reps Γ O H [] []
  | cons {v : V} {vs : List V} {d : D} {ds : List D} : Rep Γ O H v d → Reps Γ O H vs ds → Reps Γ O H (v :: vs) (d :: ds)
inductive RepK (Γ : Glob) (O : Addr → Prop) (H : Hp) : List (Key × V) → List (D × D) → Prop
  | nil : RepK Γ O H [] []
  | cons {k : Key} {v : V} {l : List (Key × V)} {dk d : D} {kvs : List (D × D)} : D.key dk = some k → Rep Γ O H v d → RepK Γ O H l kvs → RepK Γ O H ((k, v) :: l) ((dk, d) :: kvs)
inductive RepT (Γ : Glob) (O : Addr → Prop) (H : Hp) : List (List Key × V) → List (D × D) → Prop
  | nil : RepT Γ O H [] []
  | cons {k : List Key} {v : V} {l : List (List Key × V)} {dk d : D} {kvs : List (D × D)} : D.tkey dk = some k → Rep Γ O H v d → RepT Γ O H l kvs → RepT Γ O H ((k, v) :: l) ((dk, d) :: kvs)
end

section
variable {Γ : Glob} {O O' W W1 W2 W' V' : Addr → Prop} {H H1 H2 H' : Hp} {v : V} {vs : List V} {d : D} {ds : List D} {a : Addr}

theorem Stp.refl (W : Addr → Prop) (H : Hp) : Stp W H W H :=
  ⟨fun _ _ e _ => .inl e, fun _ _ e => e, fun _ _ _ e => e, fun _ h => .inl h, fun _ o e => ⟨o, e⟩⟩
theorem TblOk.ne_lst {vs : List V} (h : TblOk (.lst vs)) : False := by
  obtain ⟨_, e, _⟩ := h
  cases e
theorem Stp.lst (s : Stp W H W' H') {vs : List V} (h : H a = some (.lst vs)) (n : ¬ W a) : H' a = some (.lst vs) := by
  rcases s.keep a _ h n with e | ⟨t, _⟩
  · exact e
  · exact t.ne_lst.elim
theorem Stp.mu (s : Stp W H W' H') {o : HO} (h : H a = some o) (m : MutO o) (n : ¬ W a) : H' a = some o := by
  rcases s.keep a _ h n with e | ⟨t, _⟩
  · exact e
  · exact (m.ntab t).elim
theorem Stp.comp (s : Stp W H W1 H1) (t : Stp V' H1 W2 H2) (h : ∀ a, V' a → W1 a) : Stp W H W2 H2 where
  keep := fun a o e n => by
    have nv : ¬ V' a := fun z => by
      rcases s.sub a (h a z) with y | y
      · exact n y
      · rw [e] at y; cases y
    rcases s.keep a o e n with e1 | ⟨t1, o1, e1, t2⟩
    · exact t.keep a o e1 nv
    · rcases t.keep a o1 e1 nv with e2 | ⟨t3, o2, e2, t4⟩
      · exact .inr ⟨t1, o1, e2, t2⟩
      · exact .inr ⟨t1, o2, e2, t4⟩
  tups := fun a vs e => t.tups a vs (s.tups a vs e)
  frzs := fun a o u e => t.frzs a o u (s.frzs a o u e)
  sub := fun a h2 => by
    rcases t.sub a h2 with y | y
    · exact s.sub a (h a y)
    · right
      cases e : H a with
      | none => rfl
      | some o =>
        obtain ⟨o', e'⟩ := s.there a o e
        rw [y] at e'; cases e'
  there := fun a o e => by
    obtain ⟨o1, e1⟩ := s.there a o e
    exact t.there a o1 e1
theorem Stp.mono (s : Stp W H W' H') (h : ∀ a, W a → W1 a) (h' : ∀ a, W2 a → W' a ∨ W1 a ∨ H a = none) : Stp W1 H W2 H' :=
  ⟨fun a o e n => s.keep a o e fun z => n (h a z), s.tups, s.frzs, fun a z => by
    rcases h' a z with y | y | y
    · exact (s.sub a y).imp (h a) id
    · exact .inl y
    · exact .inr y, s.there⟩
theorem Stp.shr (s : Stp W H W' H') (h' : ∀ a, W2 a → W' a) : Stp W H W2 H' := s.mono (fun _ z => z) fun a z => .inl (h' a z)
/-- a new object -/
theorem Stp.new {p : Addr} {o : HO} (hp : H p = none) : Stp W H (fun b => W b ∨ b = p) (upd H p o) :=
  ⟨fun a o' e _ => .inl (by rw [upd_ne (ne_of_none e hp)]; exact e), fun a vs e => by rw [upd_ne (ne_of_none e hp)]; exact e, fun a o' u e => by rw [upd_ne (ne_of_none e hp)]; exact e,
    fun a z => z.imp id fun y => by rw [y]; exact hp, fun a o' e => ⟨o', by rw [upd_ne (ne_of_none e hp)]; exact e⟩⟩
/-- an owned list is written -/
theorem Stp.set {p : Addr} {vs ws : List V} (hp : H p = some (.lst vs)) (hW : W p) : Stp W H W (upd H p (.lst ws)) :=
  ⟨fun a o' e n => .inl (by rw [upd_ne (fun z => n (by rw [z]; exact hW))]; exact e),
   fun a us e => by rw [upd_ne (fun z => by rw [z, hp] at e; cases e)]; exact e,
   fun a o u e => by rw [upd_ne (fun z => by rw [z, hp] at e; cases e)]; exact e,
   fun a z => .inl z, fun a o e => by
     by_cases q : a = p
     · rw [q]; exact ⟨_, upd_same⟩
     · exact ⟨o, by rw [upd_ne q]; exact e⟩⟩

/-- a thing that is written -/
theorem Stp.setO {p : Addr} {o o' : HO} (hp : H p = some o) (m : MutO o) (hW : W p) : Stp W H W (upd H p o') :=
  ⟨fun a u e n => .inl (by rw [upd_ne (fun z => n (by rw [z]; exact hW))]; exact e),
   fun a us e => by rw [upd_ne (fun z => by rw [z, hp] at e; exact m.ntup us (Option.some.inj e))]; exact e,
   fun a x u e => by rw [upd_ne (fun z => by rw [z, hp] at e; exact m.nfrz x u (Option.some.inj e))]; exact e,
   fun a z => .inl z, fun a u e => by
     by_cases q : a = p
     · rw [q]; exact ⟨_, upd_same⟩
     · exact ⟨u, by rw [upd_ne q]; exact e⟩⟩
theorem Rd_stp {vs : List V} (s : Stp O H O' H') (n : ¬ O a) (r : Rd H a (.lst vs)) : Rd H' a (.lst vs) := by
  rcases r with r | ⟨o, r⟩
  · exact .inl (s.lst r n)
  · exact .inr ⟨o, s.frzs a o _ r⟩
theorem Rd_some {u : HO} (r : Rd H a u) : ∃ o, H a = some o := by
  rcases r with r | ⟨o, r⟩ <;> exact ⟨_, r⟩
theorem SqT_stp {K : PySem.W.Frag} {vs : List V} (s : Stp O H O' H') (r : SqT K H a vs) : SqT K H' a vs := by
  rcases r with (r | ⟨o, r⟩) | r
  · exact .inl (.inl (s.tups a vs r))
  · exact .inl (.inr ⟨o, s.frzs a o _ r⟩)
  · exact .inr r
theorem SqF_stp {K : PySem.W.Frag} {vs : List V} (s : Stp O H O' H') (r : SqF K H a vs) : SqF K H' a vs := by
  rcases r with ⟨o, r⟩ | r
  · exact .inl ⟨o, s.frzs a o _ r⟩
  · exact .inr r
theorem Stp.nin (s : Stp O H O' H') {o : HO} (e : H a = some o) (n : ¬ O a) : ¬ O' a := fun z => by
  rcases s.sub a z with y | y
  · exact n y
  · rw [e] at y; cases y
mutual
theorem Rep.stp (s : Stp O H O' H') : ∀ {v : V} {d : D}, Rep Γ O H v d → Rep Γ O' H' v d
  | _, _, .non => .non
  | _, _, .bl b => .bl b
  | _, _, .int i => .int i
  | _, _, .str x => .str x
  | _, _, .lst r n rs => .lst (s.lst r n) (s.nin r n) (Reps.stp s rs)
  | _, _, .frz r rs => .frz (SqF_stp s r) (Reps.stp s rs)
  | _, _, .tup r rs => .tup (s.tups _ _ r) (Reps.stp s rs)
  | _, _, .dicK r n rs => .dicK (s.mu r (.inr (.inl ⟨_, rfl⟩)) n) (s.nin r n) (RepK.stp s rs)
  | _, _, .dicT r n rs => .dicT (s.mu r (.inr (.inr ⟨_, rfl⟩)) n) (s.nin r n) (RepT.stp s rs)
theorem Reps.stp (s : Stp O H O' H') : ∀ {vs : List V} {ds : List D}, Reps Γ O H vs ds → Reps Γ O' H' vs ds
  | _, _, .nil => .nil
  | _, _, .cons r rs => .cons (Rep.stp s r) (Reps.stp s rs)
theorem RepK.stp (s : Stp O H O' H') : ∀ {l : List (Key × V)} {kvs : List (D × D)}, RepK Γ O H l kvs → RepK Γ O' H' l kvs
  | _, _, .nil => .nil
  | _, _, .cons e r rs => .cons e (Rep.stp s r) (RepK.stp s rs)
theorem RepT.stp (s : Stp O H O' H') : ∀ {l : List (List Key × V)} {kvs : List (D × D)}, RepT Γ O H l kvs → RepT Γ O' H' l kvs
  | _, _, .nil => .nil
  | _, _, .cons e r rs => .cons e (Rep.stp s r) (RepT.stp s rs)
end
/-- fewer that may change -/
theorem Rep.less (h : ∀ a, O' a → O a) (r : Rep Γ O H v d) : Rep Γ O' H v d := r.stp ((Stp.refl O H).shr h)
theorem Reps.less (h : ∀ a, O' a → O a) (r : Reps Γ O H vs ds) : Reps Γ O' H vs ds := r.stp ((Stp.refl O H).shr h)
theorem Reps.length : ∀ {vs : List V} {ds : List D}, Reps Γ O H vs ds → vs.length = ds.length
  | _, _, .nil => rfl
  | _, _, .cons _ r => by simp [Reps.length r]
theorem Reps.get : ∀ {vs : List V} {ds : List D} {i : Nat} {d : D}, Reps Γ O H vs ds → ds[i]? = some d → ∃ v, vs[i]? = some v ∧ Rep Γ O H v d
  | _, _, _, _, .nil, e => by simp at e
  | _, _, 0, _, .cons r _, e => by simp at e; subst e; exact ⟨_, rfl, r⟩
  | _, _, i + 1, d, .cons _ t, e => by
    obtain ⟨u, h1, h2⟩ := Reps.get (i := i) (d := d) t (by simpa using e)
    exact ⟨u, by simpa using h1, h2⟩
theorem Reps.append : ∀ {vs ws : List V} {ds es : List D}, Reps Γ O H vs ds → Reps Γ O H ws es → Reps Γ O H (vs ++ ws) (ds ++ es)
  | _, _, _, _, .nil, s => s
  | _, _, _, _, .cons r t, s => .cons r (Reps.append t s)
theorem Reps.take : ∀ {vs : List V} {ds : List D} (n : Nat), Reps Γ O H vs ds → Reps Γ O H (vs.take n) (ds.take n)
  | _, _, 0, _ => .nil
  | _, _, _ + 1, .nil => .nil
  | _, _, n + 1, .cons r t => .cons r (Reps.take n t)
theorem Reps.drop : ∀ {vs : List V} {ds : List D} (n : Nat), Reps Γ O H vs ds → Reps Γ O H (vs.drop n) (ds.drop n)
  | _, _, 0, r => r
  | _, _, _ + 1, .nil => .nil
  | _, _, n + 1, .cons _ t => Reps.drop n t
theorem Reps.set {v : V} {d : D} (r : Rep Γ O H v d) : ∀ {vs : List V} {ds : List D} (i : Nat), Reps Γ O H vs ds → Reps Γ O H (vs.set i v) (ds.set i d)
  | _, _, _, .nil => .nil
  | _, _, 0, .cons _ t => .cons r t
  | _, _, i + 1, .cons q t => .cons q (Reps.set r i t)

/-- what an owned thing holds -/
def Body (Γ : Glob) (O : Addr → Prop) (H : Hp) (a : Addr) (d : D) : Prop :=
  match d with
  | .lst ds => ∃ vs, H a = some (.lst vs) ∧ Reps Γ O H vs ds
  | .dic false kvs => ∃ l, H a = some (.dK l) ∧ RepK Γ O H l kvs
  | .dic true kvs => ∃ l, H a = some (.dT l) ∧ RepT Γ O H l kvs
  | _ => False
/-- by its three kinds -/
theorem Body.cs {motive : Prop} (b : Body Γ O H a d) (h1 : ∀ ds vs, d = .lst ds → H a = some (.lst vs) → Reps Γ O H vs ds → motive)
    (h2 : ∀ kvs l, d = .dic false kvs → H a = some (.dK l) → RepK Γ O H l kvs → motive) (h3 : ∀ kvs l, d = .dic true kvs → H a = some (.dT l) → RepT Γ O H l kvs → motive) : motive := by
  unfold Body at b
  split at b
  · obtain ⟨vs, e, r⟩ := b; exact h1 _ vs rfl e r
  · obtain ⟨l, e, r⟩ := b; exact h2 _ l rfl e r
  · obtain ⟨l, e, r⟩ := b; exact h3 _ l rfl e r
  · exact b.elim
theorem Body_mut (b : Body Γ O H a d) : ∃ o, H a = some o ∧ MutO o :=
  b.cs (fun _ vs _ e _ => ⟨_, e, .inl ⟨vs, rfl⟩⟩) (fun _ l _ e _ => ⟨_, e, .inr (.inl ⟨l, rfl⟩)⟩) fun _ l _ e _ => ⟨_, e, .inr (.inr ⟨l, rfl⟩)⟩
theorem Body_some (b : Body Γ O H a d) : ∃ o, H a = some o := let ⟨o, e, _⟩ := Body_mut b; ⟨o, e⟩
theorem Body.stp (b : Body Γ O H a d) (s : Stp O H O' H') (h : ∀ o, MutO o → H a = some o → H' a = some o) : Body Γ O' H' a d :=
  b.cs (fun ds vs e1 e r => by subst e1; exact ⟨vs, h _ (.inl ⟨vs, rfl⟩) e, Reps.stp s r⟩) (fun kvs l e1 e r => by subst e1; exact ⟨l, h _ (.inr (.inl ⟨l, rfl⟩)) e, RepK.stp s r⟩)
    fun kvs l e1 e r => by subst e1; exact ⟨l, h _ (.inr (.inr ⟨l, rfl⟩)) e, RepT.stp s r⟩
theorem Body.less (h : ∀ a, O' a → O a) (b : Body Γ O H a d) : Body Γ O' H a d := b.stp ((Stp.refl O H).shr h) fun _ _ e => e
theorem RepK.less (h : ∀ a, O' a → O a) {l : List (Key × V)} {kvs : List (D × D)} (r : RepK Γ O H l kvs) : RepK Γ O' H l kvs := r.stp ((Stp.refl O H).shr h)
theorem RepT.less (h : ∀ a, O' a → O a) {l : List (List Key × V)} {kvs : List (D × D)} (r : RepT Γ O H l kvs) : RepT Γ O' H l kvs := r.stp ((Stp.refl O H).shr h)
theorem Body.rep (b : Body Γ O H a d) (h : ∀ b, O' b → O b) (n : ¬ O' a) : Rep Γ O' H (.ref a) d :=
  b.cs (fun ds vs e1 e r => by subst e1; exact Rep.lst e n (Reps.less h r)) (fun kvs l e1 e r => by subst e1; exact Rep.dicK e n (RepK.less h r)) fun kvs l e1 e r => by subst e1; exact Rep.dicT e n (RepT.less h r)
end

/-! ### the slots -/
def Own (env : Env) (σ : St) (a : Addr) : Prop := ∃ (i : Nat) (d : D), env[i]? = some (some (Sl.own d)) ∧ σ[i]? = some (some (V.ref a))
def TabsOk (Γ : Glob) (H : Hp) : Prop := ∀ P ∈ Γ.tabs, ∃ o, H P = some o ∧ TblOk o
structure RE (Γ : Glob) (U : Addr → Prop) (env : Env) (σ : St) (H : Hp) : Prop where
  len : env.length = σ.length
  val : ∀ (i : Nat) (d : D), env[i]? = some (some (Sl.val d)) → ∃ v, σ[i]? = some (some v) ∧ Rep Γ (fun b => U b ∨ Own env σ b) H v d
  own : ∀ (i : Nat) (d : D), env[i]? = some (some (Sl.own d)) → ∃ a, σ[i]? = some (some (V.ref a)) ∧ ¬ U a ∧ Body Γ (fun b => U b ∨ Own env σ b) H a d
  sep : ∀ (i j : Nat) (a : Addr) (d e : D), env[i]? = some (some (Sl.own d)) → env[j]? = some (some (Sl.own e)) → σ[i]? = some (some (V.ref a)) → σ[j]? = some (some (V.ref a)) → i = j
  tabs : TabsOk Γ H
  uth : ∀ b, U b → ∃ o, H b = some o
def isTmp (a : A) (v : V) (b : Addr) : Prop :=
  match a, v with
  | .tmp _, .ref p => b = p
  | _, _ => False
def UA (U : Addr → Prop) (a : A) (v : V) (b : Addr) : Prop := U b ∨ isTmp a v b
/-- a thing in hand: O all that may change -/
def RA (Γ : Glob) (U O : Addr → Prop) (σ : St) (H : Hp) (a : A) (v : V) : Prop :=
  match a with
  | .val d => Rep Γ O H v d
  | .own i => σ[i]? = some (some v)
  | .tmp d => ∃ p, v = .ref p ∧ ¬ U p ∧ Body Γ O H p d
/-- behind an expression -/
structure Post (Γ : Glob) (U : Addr → Prop) (env : Env) (σ : St) (H : Hp) (a : A) (env' : Env) (v : V) (H' : Hp) : Prop where
  re : RE Γ (UA U a v) env' σ H'
  ra : RA Γ U (fun b => UA U a v b ∨ Own env' σ b) σ H' a v
  st : Stp (Own env σ) H (fun b => Own env' σ b ∨ isTmp a v b) H'
def XR (Γ : Glob) (x : Exn) (cls : Value) (d : Option Addr) (H : Hp) : Prop := (∃ C, Γ.exc x.cls = some C ∧ cls = .ref C) ∧ x.fld.isNone ∧ d = none
structure XPost (Γ : Glob) (U : Addr → Prop) (env : Env) (σ : St) (H : Hp) (x : Exn) (env' : Env) (cls : Value) (d : Option Addr) (H' : Hp) : Prop where
  re : RE Γ U env' σ H'
  xr : XR Γ x cls d H'
  st : Stp (Own env σ) H (Own env' σ) H'
/-- a wanted end -/
def Wp {α : Type} (o : Out α) (ok : α → Env → Prop) (ex : Exn → Env → Prop) : Prop :=
  match o with
  | .ok a e => ok a e
  | .exn x e => ex x e
  | .stuck => False
theorem Wp.bind {α β : Type} {o : Out α} {k : α → Env → Out β} {ok : β → Env → Prop} {ex : Exn → Env → Prop} : Wp (o.bind k) ok ex ↔ Wp o (fun a e => Wp (k a e) ok ex) ex := by
  cases o <;> exact Iff.rfl
theorem Wp.mono {α : Type} {o : Out α} {ok ok' : α → Env → Prop} {ex ex' : Exn → Env → Prop} (h : Wp o ok ex) (h1 : ∀ a e, ok a e → ok' a e) (h2 : ∀ x e, ex x e → ex' x e) : Wp o ok' ex' := by
  cases o with
  | ok a e => exact h1 _ _ h
  | exn x e => exact h2 _ _ h
  | stuck => exact h
def tE (Γ : Glob) (m : M A) (W : WX) : TE := fun σ H Q => ∃ U env, RE Γ U env σ H ∧
  Wp (m env) (fun a env' => ∀ v H', Post Γ U env σ H a env' v H' → Q v H') fun x env' => ∀ cls d H', XPost Γ U env σ H x env' cls d H' → W cls d σ H'
theorem Wp.eqn {α : Type} {o : Out α} {ok : α → Env → Prop} {ex : Exn → Env → Prop} (h : Wp o ok ex) : Wp o (fun a e => ok a e ∧ o = .ok a e) ex := by
  cases o with
  | ok a e => exact ⟨h, rfl⟩
  | exn x e => exact h
  | stuck => exact h
/-- e does what m says -/
def QE (Γ : Glob) (X : Cx) (e : Expr) (m : M A) : Prop := ∀ (xe : Value → Shared → Prop) (W : WX), Takes (X.wish xe) W → PE (X.wish xe) e (tE Γ m W)
def tT (Γ : Glob) (m : M Bool) (W : WX) : TT := fun σ H Q => ∃ U env, RE Γ U env σ H ∧
  Wp (m env) (fun b env' => ∀ H', Post Γ U env σ H (.val (.bl b)) env' (.bl b) H' → Q b H') fun x env' => ∀ cls d H', XPost Γ U env σ H x env' cls d H' → W cls d σ H'
def QT (Γ : Glob) (X : Cx) (e : Expr) (m : M Bool) : Prop := ∀ (xe : Value → Shared → Prop) (W : WX), Takes (X.wish xe) W → PT (X.wish xe) e (tT Γ m W)

section
variable {Γ : Glob} {U U' : Addr → Prop} {env env' env2 : Env} {σ : St} {H H1 H2 H' : Hp} {a : A} {v : V} {d : D}
theorem RE.less (r : RE Γ U env σ H) (h : ∀ a, U' a → U a) : RE Γ U' env σ H :=
  ⟨r.len, fun i d e => by
    obtain ⟨v, e1, q⟩ := r.val i d e
    exact ⟨v, e1, q.less fun a z => z.imp (h a) id⟩,
   fun i d e => by
    obtain ⟨a, e1, n, q⟩ := r.own i d e
    exact ⟨a, e1, fun z => n (h a z), q.less fun a z => z.imp (h a) id⟩, r.sep, r.tabs, fun b z => r.uth b (h b z)⟩
theorem TabsOk.stp {W W' : Addr → Prop} (t : TabsOk Γ H) (s : Stp W H W' H') (h : ∀ P ∈ Γ.tabs, ¬ W P) : TabsOk Γ H' := fun P hP => by
  obtain ⟨o, e, q⟩ := t P hP
  rcases s.keep P o e (h P hP) with e1 | ⟨_, o1, e1, q1⟩
  · exact ⟨o, e1, q⟩
  · exact ⟨o1, e1, q1⟩
theorem RE.tabN (r : RE Γ U env σ H) : ∀ P ∈ Γ.tabs, ¬ Own env σ P := fun P hP ⟨i, d, e1, e2⟩ => by
  obtain ⟨a, e3, _, b⟩ := r.own i d e1
  rw [e2] at e3
  cases e3
  obtain ⟨o, e, q⟩ := r.tabs P hP
  obtain ⟨o2, z, m⟩ := Body_mut b
  rw [e] at z
  cases z
  exact m.ntab q
/-- the slots stand, other things than theirs change -/
theorem RE.stp (r : RE Γ U env σ H) (s : Stp (fun _ => False) H (fun b => U' b ∧ ¬ U b) H') (hU : ∀ b, U b → U' b) (hT : ∀ b, U' b → ∃ o, H' b = some o) : RE Γ U' env σ H' := by
  have sO : Stp (fun b => U b ∨ Own env σ b) H (fun b => U' b ∨ Own env σ b) H' := s.mono (fun _ z => z.elim) fun b z => by
    rcases z with z | z
    · by_cases u : U b
      · exact .inr (.inl (.inl u))
      · exact .inl ⟨z, u⟩
    · exact .inr (.inl (.inr z))
  refine ⟨r.len, fun i d e => ?_, fun i d e => ?_, r.sep, r.tabs.stp s (fun _ _ z => z), hT⟩
  · obtain ⟨v, e1, q⟩ := r.val i d e
    exact ⟨v, e1, q.stp sO⟩
  · obtain ⟨a, e1, n, q⟩ := r.own i d e
    obtain ⟨o, eo⟩ := Body_some q
    refine ⟨a, e1, fun z => ?_, q.stp sO fun o m z => s.mu z m fun z => z⟩
    rcases s.sub a ⟨z, n⟩ with y | y
    · exact y
    · rw [eo] at y; cases y
end
end Ev
end
section
set_option maxRecDepth 100000
namespace Ev
open PySem PySem.Spec L2

section
variable {Γ : Glob} {U U' U1 O O' : Addr → Prop} {env env' env1 env2 env3 : Env} {σ : St} {H H1 H2 H3 H' : Hp} {a x y z : A} {v w u : V} {d : D} {e : Exn} {cls : Value} {dd : Option Addr} {W : WX}

theorem UA_val {d : D} {v : V} {b : Addr} (h : UA U (.val d) v b) : U b := h.elim id fun z => by cases v <;> exact z.elim
theorem UA_own {i : Nat} {v : V} {b : Addr} (h : UA U (.own i) v b) : U b := h.elim id fun z => by cases v <;> exact z.elim
theorem RA.less (hO : ∀ a, O' a → O a) (hU : ∀ a, U' a → U a) (h : RA Γ U O σ H a v) : RA Γ U' O' σ H a v := by
  cases a with
  | val d => exact Rep.less hO h
  | own i => exact h
  | tmp d =>
    obtain ⟨p, e, n, b⟩ := h
    exact ⟨p, e, fun z => n (hU p z), b.less hO⟩
theorem Post.comp (p1 : Post Γ U env σ H x env1 v H1) (p2 : Post Γ (UA U x v) env1 σ H1 y env2 w H2) : Post Γ U env σ H y env2 w H2 where
  re := p2.re.less fun a z => z.imp .inl id
  ra := p2.ra.less (fun a z => z.imp (fun y => y.imp .inl id) id) fun a z => .inl z
  st := p1.st.comp p2.st fun a z => .inl z
theorem Post.xcomp (p1 : Post Γ U env σ H x env1 v H1) (px : XPost Γ (UA U x v) env1 σ H1 e env2 cls dd H2) : XPost Γ U env σ H e env2 cls dd H2 where
  re := px.re.less fun a z => .inl z
  xr := px.xr
  st := p1.st.comp px.st fun a z => .inl z
/-- the thing in hand, behind more -/
theorem RA.on {W2 O2 : Addr → Prop} (r : RA Γ U (fun b => UA U x v b ∨ Own env1 σ b) σ H1 x v) (re : RE Γ (UA U x v) env1 σ H1) (st : Stp (Own env1 σ) H1 W2 H2)
    (h : ∀ b, O2 b → W2 b ∨ (UA U x v b ∨ Own env1 σ b) ∨ H1 b = none) : RA Γ U O2 σ H2 x v := by
  have s : Stp (fun b => UA U x v b ∨ Own env1 σ b) H1 O2 H2 := st.mono (fun _ z => .inr z) h
  cases x with
  | val d => exact Rep.stp s r
  | own i => exact r
  | tmp d =>
    obtain ⟨p, rfl, n, b⟩ := r
    refine ⟨p, rfl, n, b.stp s fun o m hv => st.mu hv m fun ⟨i, d', e1, e2⟩ => ?_⟩
    obtain ⟨a, e3, n3, _⟩ := re.own i d' e1
    rw [e2] at e3
    cases e3
    exact n3 (.inr rfl)
theorem Post.carry (p1 : Post Γ U env σ H x env1 v H1) (p2 : Post Γ (UA U x v) env1 σ H1 y env2 w H2) : RA Γ U (fun b => UA (UA U x v) y w b ∨ Own env2 σ b) σ H2 x v :=
  p1.ra.on p1.re p2.st fun a z => by
    rcases z with (z | z) | z
    · exact .inr (.inl (.inl z))
    · exact .inl (.inr z)
    · exact .inl (.inl z)
/-- nothing happened -/
theorem Post.pure (r : RE Γ U env σ H) (q : Rep Γ (fun b => U b ∨ Own env σ b) H v d) : Post Γ U env σ H (.val d) env v H where
  re := r.less fun _ z => UA_val z
  ra := Rep.less (fun _ z => z.imp UA_val id) q
  st := (Stp.refl _ _).shr fun _ z => z.elim id fun q => by cases v <;> exact q.elim
theorem Post.slot {i : Nat} (r : RE Γ U env σ H) (q : σ[i]? = some (some v)) : Post Γ U env σ H (.own i) env v H where
  re := r.less fun _ z => UA_own z
  ra := q
  st := (Stp.refl _ _).shr fun _ z => z.elim id fun q => by cases v <;> exact q.elim

theorem tE.mono {m : M A} {Q Q' : VK} (h : tE Γ m W σ H Q) (hQ : ∀ v H', Q v H' → Q' v H') : tE Γ m W σ H Q' := by
  obtain ⟨U, env, r, h⟩ := h
  exact ⟨U, env, r, h.mono (fun a e q v H' p => hQ v H' (q v H' p)) fun _ _ q => q⟩
theorem tT.mono {m : M Bool} {Q Q' : Bool → Hp → Prop} (h : tT Γ m W σ H Q) (hQ : ∀ v H', Q v H' → Q' v H') : tT Γ m W σ H Q' := by
  obtain ⟨U, env, r, h⟩ := h
  exact ⟨U, env, r, h.mono (fun a e q H' p => hQ a H' (q H' p)) fun _ _ q => q⟩
theorem stepE {m : M A} {β : Type} {k : A → Env → Out β} {OK : β → Env → Prop} {EX : Exn → Env → Prop} (r : RE Γ U env σ H)
    (hx : ∀ x e cls d H', XPost Γ U env σ H x e cls d H' → EX x e → W cls d σ H') (h : Wp ((m env).bind k) OK EX) :
    tE Γ m W σ H fun v H1 => ∃ a env1, Post Γ U env σ H a env1 v H1 ∧ Wp (k a env1) OK EX :=
  ⟨U, env, r, (Wp.bind.mp h).mono (fun a e q v H' p => ⟨a, e, p, q⟩) fun x e q cls d H' p => hx x e cls d H' p q⟩
theorem stepT {m : M Bool} {β : Type} {k : Bool → Env → Out β} {OK : β → Env → Prop} {EX : Exn → Env → Prop} (r : RE Γ U env σ H)
    (hx : ∀ x e cls d H', XPost Γ U env σ H x e cls d H' → EX x e → W cls d σ H') (h : Wp ((m env).bind k) OK EX) :
    tT Γ m W σ H fun b H1 => ∃ env1, Post Γ U env σ H (.val (.bl b)) env1 (.bl b) H1 ∧ Wp (k b env1) OK EX :=
  ⟨U, env, r, (Wp.bind.mp h).mono (fun a e q H' p => ⟨e, p, q⟩) fun x e q cls d H' p => hx x e cls d H' p q⟩

/-! ### what a thing in hand holds -/
def Vw (Γ : Glob) (O : Addr → Prop) (H : Hp) (v : V) (d : D) : Prop := Rep Γ O H v d ∨ ∃ a, v = .ref a ∧ Body Γ O H a d
theorem look_vw (r : RE Γ U env σ H) (q : RA Γ U1 O σ H x v) (hO : ∀ b, U b ∨ Own env σ b → O b) (hO' : ∀ b, O b → U b ∨ Own env σ b) (h : x.look env = some d) : Vw Γ (fun b => U b ∨ Own env σ b) H v d := by
  cases x with
  | val e =>
    cases h
    exact .inl (Rep.less hO q)
  | tmp e =>
    cases h
    obtain ⟨p, rfl, _, b⟩ := q
    exact .inr ⟨p, rfl, b.less hO⟩
  | own i =>
    have q : σ[i]? = some (some v) := q
    unfold A.look at h
    dsimp only at h
    split at h
    · rename_i s hs
      cases h
      cases s with
      | val e =>
        obtain ⟨v', e1, e2⟩ := r.val i e hs
        rw [q] at e1
        cases e1
        exact .inl e2
      | own e =>
        obtain ⟨a, e1, _, e2⟩ := r.own i e hs
        rw [q] at e1
        cases e1
        exact .inr ⟨a, rfl, e2⟩
    · cases h
theorem Post.vw (p : Post Γ U env σ H x env1 v H1) (h : x.look env1 = some d) : Vw Γ (fun b => UA U x v b ∨ Own env1 σ b) H1 v d := look_vw p.re p.ra (fun _ z => z) (fun _ z => z) h
theorem Vw.less (h : ∀ a, O' a → O a) (q : Vw Γ O H v d) : Vw Γ O' H v d := q.imp (Rep.less h) fun ⟨a, e, b⟩ => ⟨a, e, b.less h⟩
theorem Vw.int {i : Int} (h : Vw Γ O H v (.int i)) : v = .int i := by
  rcases h with h | ⟨_, _, b⟩
  · cases h; rfl
  · exact b.elim
theorem Vw.str {i : Str} (h : Vw Γ O H v (.str i)) : v = .str i := by
  rcases h with h | ⟨_, _, b⟩
  · cases h; rfl
  · exact b.elim
theorem Vw.bl {i : Bool} (h : Vw Γ O H v (.bl i)) : v = .bl i := by
  rcases h with h | ⟨_, _, b⟩
  · cases h; rfl
  · exact b.elim
theorem Vw.non (h : Vw Γ O H v .non) : v = .non := by
  rcases h with h | ⟨_, _, b⟩
  · cases h; rfl
  · exact b.elim
theorem Vw.lst {ds : List D} (h : Vw Γ O H v (.lst ds)) : ∃ a vs, v = .ref a ∧ H a = some (.lst vs) ∧ Reps Γ O H vs ds := by
  rcases h with h | ⟨a, e, vs, h1, h2⟩
  · cases h with
    | lst r _ rs => exact ⟨_, _, rfl, r, rs⟩
  · exact ⟨a, vs, e, h1, h2⟩
theorem Vw.frz {ds : List D} (h : Vw Γ O H v (.frz ds)) : ∃ a vs, v = .ref a ∧ SqF Γ.K H a vs ∧ Reps Γ O H vs ds := by
  rcases h with h | ⟨_, _, b⟩
  · cases h with
    | frz r rs => exact ⟨_, _, rfl, r, rs⟩
  · exact b.elim
theorem Vw.tup {ds : List D} (h : Vw Γ O H v (.tup ds)) : ∃ a vs, v = .ref a ∧ H a = some (.tup vs) ∧ Reps Γ O H vs ds := by
  rcases h with h | ⟨_, _, b⟩
  · cases h with
    | tup r rs => exact ⟨_, _, rfl, r, rs⟩
  · exact b.elim
theorem Vw.row {ds : List D} (h : Vw Γ O H v (.lst ds) ∨ Vw Γ O H v (.frz ds)) : ∃ a vs, v = .ref a ∧ SqL Γ.K H a vs ∧ Reps Γ O H vs ds := by
  rcases h with h | h
  · obtain ⟨a, vs, e, r, q⟩ := h.lst
    exact ⟨a, vs, e, .of r, q⟩
  · obtain ⟨a, vs, e, r, q⟩ := h.frz
    exact ⟨a, vs, e, r.sql, q⟩
theorem lay_not_dict {kvs : List (PyData × PyData)} (h : SeqAt.shaped (.dict kvs) = true) : False := by
  have q := SeqAt.canLay_of_shaped h
  simp [PyData.canLay0] at q
mutual
theorem Rep.dp : ∀ {v : V} {d : D}, Rep Γ O H v d → d.py.canLay0 = true → Dp Γ.K H v d.py
  | _, _, .non, _ => .non
  | _, _, .bl b, _ => .bl b
  | _, _, .int i, _ => .int i
  | _, _, .str x, _ => .str x
  | _, _, .lst r _ rs, h => .lst (SqL.of r) (Reps.dp rs (by simpa [D.py, PyData.canLay0] using h))
  | _, _, .frz r rs, h => by simp [D.py, PyData.canLay0] at h
  | _, _, .dicK _ _ _, h => by simp [D.py, PyData.canLay0] at h
  | _, _, .dicT _ _ _, h => by simp [D.py, PyData.canLay0] at h
  | _, _, .tup r rs, h => .tup (SqT.of r) (Reps.dp rs (by simpa [D.py, PyData.canLay0] using h))
theorem Reps.dp : ∀ {vs : List V} {ds : List D}, Reps Γ O H vs ds → PyData.canLayAll0 (D.pys ds) = true → DpAll Γ.K H vs (D.pys ds)
  | _, _, .nil, _ => .nil
  | _, _, .cons r rs, h => by
    have h' := h
    simp only [D.pys, PyData.canLayAll0, Bool.and_eq_true] at h'
    exact .cons (Rep.dp r h'.1) (Reps.dp rs h'.2)
end
theorem Vw.dp (h : Vw Γ O H v d) (q : d.eqOk = true) : Dp Γ.K H v d.py := by
  have c := SeqAt.canLay_of_shaped q
  rcases h with h | ⟨a, rfl, b⟩
  · exact h.dp c
  · refine b.cs (fun ds vs e1 e r => ?_) (fun kvs l e1 e r => ?_) fun kvs l e1 e r => ?_
    · subst e1
      exact Dp.lst (SqL.of e) (r.dp (by simpa [D.py, PyData.canLay0] using c))
    · subst e1
      exact (lay_not_dict q).elim
    · subst e1
      exact (lay_not_dict q).elim

/-! ### new things -/
theorem Post.newTup {vs : List V} {ds : List D} {p : Addr} (r : RE Γ U env σ H) (q : Reps Γ (fun b => U b ∨ Own env σ b) H vs ds) (hp : H p = none) :
    Post Γ U env σ H (.val (.tup ds)) env (.ref p) (upd H p (.tup vs)) := by
  have s : Stp (fun _ => False) H (fun b => False ∨ b = p) (upd H p (.tup vs)) := Stp.new hp
  have r' : RE Γ U env σ (upd H p (.tup vs)) := r.stp (s.shr fun b z => (z.2 z.1).elim) (fun _ z => z) fun b z => let ⟨o, e⟩ := r.uth b z; s.there b o e
  have sO : Stp (fun b => U b ∨ Own env σ b) H (fun b => U b ∨ Own env σ b) (upd H p (.tup vs)) := s.mono (fun _ z => z.elim) fun b z => .inr (.inl z)
  exact ⟨r'.less fun _ z => UA_val z, Rep.less (fun _ z => z.imp UA_val id) (.tup upd_same (q.stp sO)), s.mono (fun _ z => z.elim) fun b z => .inr (.inl (z.elim id fun y => y.elim))⟩
theorem Post.newLst {vs : List V} {ds : List D} {p : Addr} (r : RE Γ U env σ H) (q : Reps Γ (fun b => U b ∨ Own env σ b) H vs ds) (hp : H p = none) :
    Post Γ U env σ H (.tmp (.lst ds)) env (.ref p) (upd H p (.lst vs)) := by
  have s : Stp (fun _ => False) H (fun b => False ∨ b = p) (upd H p (.lst vs)) := Stp.new hp
  have r' : RE Γ (UA U (.tmp (.lst ds)) (.ref p)) env σ (upd H p (.lst vs)) := r.stp (s.shr fun b z => z.1.elim (fun y => (z.2 y).elim) .inr) (fun _ z => .inl z) fun b z => z.elim (fun y => let ⟨o, e⟩ := r.uth b y; s.there b o e) fun y => ⟨.lst vs, by rw [show b = p from y]; exact upd_same⟩
  have sO : Stp (fun b => U b ∨ Own env σ b) H (fun b => UA U (.tmp (.lst ds)) (.ref p) b ∨ Own env σ b) (upd H p (.lst vs)) := s.mono (fun _ z => z.elim) fun b z => by
    rcases z with (z | z) | z
    · exact .inr (.inl (.inl z))
    · exact .inl (.inr z)
    · exact .inr (.inl (.inr z))
  exact ⟨r', ⟨p, rfl, (fun z => by have y := r.uth p z; rw [hp] at y; obtain ⟨_, y⟩ := y; cases y), vs, upd_same, q.stp sO⟩, s.mono (fun _ z => z.elim) fun b z => z.elim (fun y => .inr (.inl y)) fun y => .inl (.inr y)⟩
end
end Ev
end
section
set_option maxRecDepth 100000
set_option maxHeartbeats 1000000
namespace Ev
open PySem PySem.Spec L2

def Bo.op : Bo → Operator
  | .add => .Add | .sub => .Sub | .mul => .Mult | .fdiv => .FloorDiv | .mod => .Mod | .pow => .Pow
def Co.op : Co → CmpOp
  | .eq => .Eq | .ne => .NotEq | .lt => .Lt | .le => .LtE | .gt => .Gt | .ge => .GtE | .is => .Is | .isn => .IsNot | .inn => .In | .nin => .NotIn

section
variable {X : Cx}
def rAddIB : R2 := fun x y H Q => ∃ i k, x = .int i ∧ y = .bl k ∧ Q (.int (i + (if k then 1 else 0))) H
theorem op_addIB : OpR X (binaryOp .Add) rAddIB := by
  intro pins s σ H x y v u Q I rx ry h
  obtain ⟨i, k, rfl, rfl, q⟩ := h
  exact op_add_ib pins s σ H _ _ v u Q I rx ry ⟨i, k, rfl, rfl, by cases k <;> exact q⟩
def rAddS : R2 := fun x y H Q => ∃ i j, x = .str i ∧ y = .str j ∧ i.length + j.length ≤ sizeLine ∧ Q (.str (i ++ j)) H
def rMulW : R2 := rI CMulW fun i j => .int (i * j)
def rDivW : R2 := rI (fun _ j => j ≠ 0 ∧ j.natAbs.log2 < 9000) fun i j => .int (i.fdiv j)
theorem op_divW : OpR X (binaryOp .FloorDiv) rDivW := opI fun i j _ _ _ _ _ hc q => PyProof.Rows.floordiv_int hc.1 q (.inl (PyProof.noPylong_of_log2 hc.2))
def rBin (K : PySem.W.Frag) : Bo → R2
  | .add => fun x y H Q => rI0 (fun i j => .int (i + j)) x y H Q ∨ rAddIB x y H Q ∨ rAddS x y H Q ∨ rCatA K x y H Q ∨ rCat x y H Q
  | .sub => rI0 fun i j => .int (i - j)
  | .mul => fun x y H Q => rI CMul (fun i j => .int (i * j)) x y H Q ∨ rMulW x y H Q ∨ rRep x y H Q
  | .fdiv => fun x y H Q => rI CDivN (fun i j => .int (i.fdiv j)) x y H Q ∨ rDivW x y H Q
  | .mod => rI (fun _ j => j ≠ 0) fun i j => .int (i.fmod j)
  | .pow => rI CPow fun i j => .int (i ^ j.toNat)
theorem op_bin (o : Bo) : OpR X (binaryOp o.op) (rBin X.K o) := by
  cases o with
  | add => exact op_add.or (op_addIB.or (op_add_str.or (op_catA.or op_cat)))
  | sub => exact op_sub
  | mul => exact op_mul.or (op_mulW.or op_rep)
  | fdiv => exact op_fdivN.or op_divW
  | mod => exact op_modN
  | pow => exact op_pow
def rCmp (K : PySem.W.Frag) : Co → R2
  | .eq => rEqD K
  | .ne => rNeD K
  | .lt => rI0 fun i j => .bl (decide (i < j))
  | .le => rI0 fun i j => .bl (decide (i ≤ j))
  | .gt => rI0 fun i j => .bl (decide (j < i))
  | .ge => rI0 fun i j => .bl (decide (j ≤ i))
  | .is => fun x y H Q => (y = .non ∧ Q (.bl (decide (x = .non))) H) ∨ rIsB x y H Q
  | .isn => fun x y H Q => (y = .non ∧ Q (.bl (!decide (x = .non))) H) ∨ rNotB x y H Q
  | .inn => fun x y H Q => (∃ i j, x = .str i ∧ y = .str j ∧ Q (.bl (!(Builtin.Str.occurrences j i 0 j.length 1).isEmpty)) H) ∨ rInD K x y H Q
  | .nin => fun x y H Q => (∃ i j, x = .str i ∧ y = .str j ∧ Q (.bl (!(!(Builtin.Str.occurrences j i 0 j.length 1).isEmpty))) H) ∨ rNotInD K x y H Q
theorem op_cmp (o : Co) (hu : X.A.units + 65 < cLine) : OpR X (compareOp o.op) (rCmp X.K o) := by
  cases o with
  | eq => exact op_eqD (by omega)
  | ne => exact op_neD (by omega)
  | lt => exact op_lt
  | le => exact op_le
  | gt => exact op_gt
  | ge => exact op_ge
  | is => exact op_isN.or op_isBl
  | isn => exact op_notN.or op_notBl
  | inn => exact op_in_str.or (op_inD hu)
  | nin => exact op_notin_str.or (op_notInD hu)
end

section
variable {Γ : Glob} {U U' U1 O O' : Addr → Prop} {env env' env1 env2 env3 : Env} {σ : St} {H H1 H2 H3 H' : Hp} {a x y z : A} {v w u : V} {d e g : D} {W : WX}
theorem Reps.nil_iff {vs : List V} {ds : List D} (h : Reps Γ O H vs ds) : vs = [] ↔ ds = [] := by
  cases h <;> simp
theorem Reps.rep {vs : List V} {ds : List D} (h : Reps Γ O H vs ds) : ∀ k, Reps Γ O H (List.replicate k vs).flatten (List.replicate k ds).flatten
  | 0 => .nil
  | k + 1 => by
    rw [List.replicate_succ, List.replicate_succ, List.flatten_cons, List.flatten_cons]
    exact h.append (Reps.rep h k)
theorem binF_ok {o : Bo} {r : BR} {Q : VK} (h : binF o d e = some r) (hv : Vw Γ (fun b => U b ∨ Own env σ b) H v d) (hw : Vw Γ (fun b => U b ∨ Own env σ b) H w e) (re : RE Γ U env σ H)
    (hQ : ∀ u H', Post Γ U env σ H r.a env u H' → Q u H') : rBin Γ.K o v w H Q := by
  unfold binF at h
  split at h
  · cases h; cases hv.int; cases hw.int
    exact .inl ⟨_, _, rfl, rfl, hQ _ _ (.pure re (.int _))⟩
  · cases h; cases hv.int; cases hw.int
    exact ⟨_, _, rfl, rfl, hQ _ _ (.pure re (.int _))⟩
  · split at h
    · rename_i hm
      cases h; cases hv.int; cases hw.int
      unfold mulOk at hm
      simp only [Bool.or_eq_true, decide_eq_true_eq] at hm
      rcases hm with (hm | hm) | hm
      · exact .inl ⟨_, _, rfl, rfl, .inl (s64_lt hm), hQ _ _ (.pure re (.int _))⟩
      · exact .inl ⟨_, _, rfl, rfl, .inr (s64_lt hm), hQ _ _ (.pure re (.int _))⟩
      · exact .inr (.inl ⟨_, _, rfl, rfl, hm, hQ _ _ (.pure re (.int _))⟩)
    · cases h
  · split at h
    · rename_i hm
      cases h; cases hv.int; cases hw.int
      unfold fdivOk at hm
      simp only [Bool.or_eq_true, Bool.and_eq_true, decide_eq_true_eq] at hm
      rcases hm with hm | hm
      · exact .inl ⟨_, _, rfl, rfl, hm, hQ _ _ (.pure re (.int _))⟩
      · exact .inr ⟨_, _, rfl, rfl, hm, hQ _ _ (.pure re (.int _))⟩
    · cases h
  · split at h
    · cases h
    · rename_i hm
      cases h; cases hv.int; cases hw.int
      exact ⟨_, _, rfl, rfl, hm, hQ _ _ (.pure re (.int _))⟩
  · split at h
    · rename_i hm
      cases h; cases hv.int; cases hw.int
      unfold powOk at hm
      simp only [Bool.and_eq_true, decide_eq_true_eq] at hm
      exact ⟨_, _, rfl, rfl, ⟨hm.1.1, hm.1.2, hm.2⟩, hQ _ _ (.pure re (.int _))⟩
    · cases h
  · cases h; cases hv.int; cases hw.bl
    exact .inr (.inl ⟨_, _, rfl, rfl, hQ _ _ (.pure re (.int _))⟩)
  · split at h
    · rename_i hm
      cases h; cases hv.str; cases hw.str
      exact .inr (.inr (.inl ⟨_, _, rfl, rfl, hm, hQ _ _ (.pure re (.str _))⟩))
    · cases h
  · split at h
    · rename_i hm
      cases h
      obtain ⟨a, vs, rfl, r1, r2⟩ := hv.tup
      obtain ⟨b, ws, rfl, q1, q2⟩ := hw.tup
      refine .inr (.inr (.inr (.inl ⟨a, b, vs, ws, rfl, rfl, SqT.of r1, SqT.of q1, by rw [r2.length, q2.length]; exact hm, fun z => ?_, fun _ z => ?_, fun _ _ p hp => ?_⟩)))
      · rw [r2.nil_iff.mp z, List.nil_append] at hQ
        exact hQ _ _ (.pure re (.tup q1 q2))
      · rw [q2.nil_iff.mp z, List.append_nil] at hQ
        exact hQ _ _ (.pure re (.tup r1 r2))
      · exact hQ _ _ (.newTup re (r2.append q2) hp)
    · cases h
  · split at h
    · rename_i hm
      cases h
      obtain ⟨a, vs, rfl, r1, r2⟩ := hv.lst
      obtain ⟨b, ws, rfl, q1, q2⟩ := hw.lst
      exact .inr (.inr (.inr (.inr ⟨a, b, vs, ws, rfl, rfl, r1, q1, by rw [r2.length, q2.length]; exact hm, fun p hp => hQ _ _ (.newLst re (r2.append q2) hp)⟩)))
    · cases h
  · split at h
    · rename_i hm
      cases h; cases hw.int
      obtain ⟨a, vs, rfl, r1, r2⟩ := hv.lst
      exact .inr (.inr ⟨a, _, vs, rfl, rfl, r1, hm.1, hm.2.1, by rw [r2.length]; exact hm.2.2, fun p hp => hQ _ _ (.newLst re (r2.rep _) hp)⟩)
    · cases h
  · cases h
theorem eq_ok {b : Bool} (h : d.eq? e = some b) : d.eqOk = true ∧ e.eqOk = true ∧ b = d.eqv e := by
  unfold D.eq? at h
  split at h
  · rename_i hm
    rw [Bool.and_eq_true] at hm
    cases h
    exact ⟨hm.1, hm.2, rfl⟩
  · cases h
theorem nonV (hv : Vw Γ O H v d) : decide (v = V.non) = d.isNon := by
  rcases hv with hv | ⟨a, rfl, q⟩
  · cases hv <;> rfl
  · exact q.cs (fun _ _ e _ _ => by subst e; rfl) (fun _ _ e _ _ => by subst e; rfl) fun _ _ e _ _ => by subst e; rfl
theorem cmpF_ok {o : Co} {b : Bool} {Q : VK} (h : cmpF o d e = some b) (hv : Vw Γ O H v d) (hw : Vw Γ O H w e) (hQ : Q (.bl b) H) : rCmp Γ.K o v w H Q := by
  unfold cmpF at h
  split at h
  · obtain ⟨h1, h2, rfl⟩ := eq_ok h
    exact ⟨_, _, hv.dp h1, hw.dp h2, h1, h2, hQ⟩
  · cases q : d.eq? e with
    | none => rw [q] at h; cases h
    | some c =>
      rw [q] at h
      cases h
      obtain ⟨h1, h2, rfl⟩ := eq_ok q
      exact ⟨_, _, hv.dp h1, hw.dp h2, h1, h2, hQ⟩
  · cases h; cases hv.int; cases hw.int
    exact ⟨_, _, rfl, rfl, hQ⟩
  · cases h; cases hv.int; cases hw.int
    exact ⟨_, _, rfl, rfl, hQ⟩
  · cases h; cases hv.int; cases hw.int
    exact ⟨_, _, rfl, rfl, hQ⟩
  · cases h; cases hv.int; cases hw.int
    exact ⟨_, _, rfl, rfl, hQ⟩
  · cases h; cases hw.non
    refine .inl ⟨rfl, ?_⟩
    have e1 := nonV hv
    rw [e1]
    exact hQ
  · cases h; cases hw.non
    refine .inl ⟨rfl, ?_⟩
    have e1 := nonV hv
    rw [e1]
    exact hQ
  · cases h; cases hv.bl; cases hw.bl
    exact .inr ⟨_, _, rfl, rfl, by rw [← Bool.beq_eq_decide_eq]; exact hQ⟩
  · cases h; cases hv.bl; cases hw.bl
    exact .inr ⟨_, _, rfl, rfl, by rw [← Bool.beq_eq_decide_eq]; exact hQ⟩
  · cases h; cases hv.str; cases hw.str
    exact .inl ⟨_, _, rfl, rfl, hQ⟩
  · cases h; cases hv.str; cases hw.str
    exact .inl ⟨_, _, rfl, rfl, hQ⟩
  · rename_i xs
    split at h
    · rename_i hm
      rw [Bool.and_eq_true] at hm
      cases h
      refine .inr ⟨_, D.pys xs, hv.dp hm.1, hw.dp hm.2, hm.1, hm.2, ?_⟩
      have e1 : ∀ l : List D, ((D.pys l).any fun z => PyData.eqv z d.py) = l.any fun x => D.eqv x d := fun l => by
        induction l with
        | nil => rfl
        | cons x l ih => show (_ || _) = (_ || _); rw [ih]; rfl
      rw [e1]
      exact hQ
    · cases h
  · rename_i xs
    split at h
    · rename_i hm
      rw [Bool.and_eq_true] at hm
      cases h
      refine .inr ⟨_, D.pys xs, hv.dp hm.1, hw.dp hm.2, hm.1, hm.2, ?_⟩
      have e1 : ∀ l : List D, ((D.pys l).any fun z => PyData.eqv z d.py) = l.any fun x => D.eqv x d := fun l => by
        induction l with
        | nil => rfl
        | cons x l ih => show (_ || _) = (_ || _); rw [ih]; rfl
      rw [e1]
      exact hQ
    · cases h
  · cases h
theorem truth_ok {b : Bool} (h : d.truth = some b) (hv : Vw Γ O H v d) : TruV Γ.K v H b := by
  unfold D.truth at h
  split at h
  · cases h; cases hv.non; rfl
  · cases h; cases hv.bl; rfl
  · cases h; cases hv.int; rfl
  · split at h
    · rename_i hm
      cases h; cases hv.str
      refine ⟨hm, ?_⟩
      rw [Bool.eq_iff_iff]
      simp
    · cases h
  · cases h
    obtain ⟨a, vs, rfl, r1, r2⟩ := hv.tup
    refine .inr (.inl ⟨vs, SqT.of r1, ?_⟩)
    cases r2 <;> rfl
  · cases h
    obtain ⟨a, vs, rfl, r1, r2⟩ := hv.lst
    refine .inl ⟨vs, SqL.of r1, ?_⟩
    cases r2 <;> rfl
  · cases h
/-! ### dicts -/
theorem Vw.dic {t : Bool} {kvs : List (D × D)} (h : Vw Γ O H v (.dic t kvs)) : ∃ a, v = .ref a ∧ ((t = false ∧ ∃ l, H a = some (.dK l) ∧ RepK Γ O H l kvs) ∨ (t = true ∧ ∃ l, H a = some (.dT l) ∧ RepT Γ O H l kvs)) := by
  rcases h with h | ⟨a, e, b⟩
  · cases h with
    | dicK r _ rs => exact ⟨_, rfl, .inl ⟨rfl, _, r, rs⟩⟩
    | dicT r _ rs => exact ⟨_, rfl, .inr ⟨rfl, _, r, rs⟩⟩
  · refine ⟨a, e, ?_⟩
    cases t with
    | false => exact .inl ⟨rfl, b⟩
    | true => exact .inr ⟨rfl, b⟩
theorem key_of1 (hk : isKey1 e = true) : ∃ k, D.key e = some k := by
  cases e <;> first | exact ⟨_, rfl⟩ | cases hk
theorem key_V {k : Key} (h : Vw Γ O H w e) (hk : D.key e = some k) : w = kV k := by
  cases e <;> first | (cases hk; done) | (cases hk; first | (cases h.int; rfl) | (cases h.str; rfl))
theorem kEq1_key {a b : D} {k j : Key} (ha : a.key = some k) (hb : b.key = some j) : kEq1 a b = decide (k = j) := by
  cases a <;> first | (cases ha; done) | (cases ha; cases b <;> first | (cases hb; done) | (cases hb; first | rfl | (simp [kEq1]; done) | (simp only [kEq1, Sum.inl.injEq, Sum.inr.injEq]; exact Bool.eq_iff_iff.mpr (by simp))))
theorem kEq_key {a b : D} {k j : Key} (ha : a.key = some k) (hb : b.key = some j) : kEq a b = decide (k = j) := by
  rw [← kEq1_key ha hb]
  cases a <;> first | (cases ha; done) | rfl
theorem keysD_of : ∀ {ds : List D}, ds.all isKey1 = true → ∃ ks, keysD ds = some ks
  | [], _ => ⟨[], rfl⟩
  | d :: ds, h => by
    rw [List.all_cons, Bool.and_eq_true] at h
    obtain ⟨k, hk⟩ := key_of1 h.1
    obtain ⟨ks, hks⟩ := keysD_of h.2
    exact ⟨k :: ks, by unfold keysD; rw [hk, hks]⟩
theorem keysD_V : ∀ {ds : List D} {ks : List Key} {vs : List V}, Reps Γ O H vs ds → keysD ds = some ks → vs = ks.map kV
  | [], ks, _, .nil, h => by cases h; rfl
  | d :: ds, ks, _, .cons r rs, h => by
    unfold keysD at h
    split at h
    · rename_i k ks' hk hks
      cases h
      rw [key_V (.inl r) hk, keysD_V rs hks]
      rfl
    · cases h
theorem kEqs_key : ∀ {as bs : List D} {ks js : List Key}, keysD as = some ks → keysD bs = some js → kEqs kEq1 as bs = decide (ks = js)
  | [], [], ks, js, h1, h2 => by cases h1; cases h2; rfl
  | [], b :: bs, ks, js, h1, h2 => by
    cases h1
    unfold keysD at h2
    split at h2
    · cases h2; rfl
    · cases h2
  | a :: as, [], ks, js, h1, h2 => by
    cases h2
    unfold keysD at h1
    split at h1
    · cases h1; rfl
    · cases h1
  | a :: as, b :: bs, ks, js, h1, h2 => by
    unfold keysD at h1 h2
    split at h1
    · rename_i k ks' e1 e2
      cases h1
      split at h2
      · rename_i j js' f1 f2
        cases h2
        unfold kEqs
        rw [kEq1_key e1 f1, kEqs_key e2 f2]
        simp
      · cases h2
    · cases h1
theorem tkey_of (hk : isKeyT e = true) : ∃ k, D.tkey e = some k := by
  cases e <;> first | (cases hk; done) | exact keysD_of hk
theorem tkey_V {k : List Key} (h : Vw Γ O H w e) (hk : D.tkey e = some k) : ∃ b, w = .ref b ∧ H b = some (.tup (k.map kV)) := by
  cases e <;> first | (cases hk; done) | skip
  obtain ⟨a, vs, rfl, r1, r2⟩ := h.tup
  exact ⟨a, rfl, by rw [← keysD_V r2 hk]; exact r1⟩
theorem kEq_tkey {a b : D} {k j : List Key} (ha : a.tkey = some k) (hb : b.tkey = some j) : kEq a b = decide (k = j) := by
  cases a <;> first | (cases ha; done) | skip
  cases b <;> first | (cases hb; done) | skip
  exact kEqs_key ha hb
theorem dget_K {k : Key} : ∀ {l : List (Key × V)} {kvs : List (D × D)}, RepK Γ O H l kvs → D.key e = some k → (∀ r, dget kvs e = some r → ∃ u, valV l k = some u ∧ Rep Γ O H u r) ∧ (dget kvs e = none → valV l k = none)
  | _, _, .nil, _ => ⟨fun r h => (by cases h), fun _ => rfl⟩
  | _, _, .cons (k := k1) (dk := dk) (kvs := kvs) e1 r1 rs, he => by
    obtain ⟨i1, i2⟩ := dget_K rs he
    unfold dget
    rw [List.find?_cons]
    dsimp only
    rw [kEq_key e1 he]
    by_cases hkk : k1 = k
    · rw [decide_eq_true hkk, valV_pos hkk]
      exact ⟨fun r h => by cases h; exact ⟨_, rfl, r1⟩, fun h => by cases h⟩
    · rw [decide_eq_false hkk, valV_neg hkk]
      exact ⟨i1, i2⟩
theorem dget_T {k : List Key} : ∀ {l : List (List Key × V)} {kvs : List (D × D)}, RepT Γ O H l kvs → D.tkey e = some k → (∀ r, dget kvs e = some r → ∃ u, valV l k = some u ∧ Rep Γ O H u r) ∧ (dget kvs e = none → valV l k = none)
  | _, _, .nil, _ => ⟨fun r h => (by cases h), fun _ => rfl⟩
  | _, _, .cons (k := k1) (dk := dk) (kvs := kvs) e1 r1 rs, he => by
    obtain ⟨i1, i2⟩ := dget_T rs he
    unfold dget
    rw [List.find?_cons]
    dsimp only
    rw [kEq_tkey e1 he]
    by_cases hkk : k1 = k
    · rw [decide_eq_true hkk, valV_pos hkk]
      exact ⟨fun r h => by cases h; exact ⟨_, rfl, r1⟩, fun h => by cases h⟩
    · rw [decide_eq_false hkk, valV_neg hkk]
      exact ⟨i1, i2⟩
/-- what stands at a key -/
theorem dget_ok {t : Bool} {kvs : List (D × D)} {r : D} (hv : Vw Γ O H v (.dic t kvs)) (hw : Vw Γ O H w e) (hk : keyOk t e = true) (h : dget kvs e = some r) : ∃ a u, v = .ref a ∧ DGet H a w (some u) ∧ Rep Γ O H u r := by
  obtain ⟨a, rfl, ⟨rfl, l, h1, h2⟩ | ⟨rfl, l, h1, h2⟩⟩ := hv.dic
  · obtain ⟨k, hk⟩ := key_of1 (e := e) hk
    obtain ⟨u, g1, g2⟩ := (dget_K h2 hk).1 r h
    exact ⟨a, u, rfl, by rw [key_V hw hk, ← g1]; exact .k h1, g2⟩
  · obtain ⟨k, hk⟩ := tkey_of (e := e) hk
    obtain ⟨u, g1, g2⟩ := (dget_T h2 hk).1 r h
    obtain ⟨b, rfl, hb⟩ := tkey_V hw hk
    exact ⟨a, u, rfl, by rw [← g1]; exact .t h1 hb, g2⟩
theorem dget_no {t : Bool} {kvs : List (D × D)} (hv : Vw Γ O H v (.dic t kvs)) (hw : Vw Γ O H w e) (hk : keyOk t e = true) (h : dget kvs e = none) : ∃ a, v = .ref a ∧ DGet H a w none := by
  obtain ⟨a, rfl, ⟨rfl, l, h1, h2⟩ | ⟨rfl, l, h1, h2⟩⟩ := hv.dic
  · obtain ⟨k, hk⟩ := key_of1 (e := e) hk
    have g1 := (dget_K h2 hk).2 h
    exact ⟨a, rfl, by rw [key_V hw hk, ← g1]; exact .k h1⟩
  · obtain ⟨k, hk⟩ := tkey_of (e := e) hk
    have g1 := (dget_T h2 hk).2 h
    obtain ⟨b, rfl, hb⟩ := tkey_V hw hk
    exact ⟨a, rfl, by rw [← g1]; exact .t h1 hb⟩
theorem idxF_ok {r : D} (h : idxF d e = some r) (hv : Vw Γ O H v d) (hw : Vw Γ O H w e) (nd : ∀ t kvs, d ≠ .dic t kvs) {Q : VK} (hQ : ∀ u, Rep Γ O H u r → Q u H) : rIx Γ.K v w H Q := by
  have at_ : ∀ {vs : List V} {ds : List D} {i : Int}, Reps Γ O H vs ds → atI ds i = some r → ∃ u, atI vs i = some u ∧ Rep Γ O H u r := by
    intro vs ds i q h
    unfold atI at h ⊢
    rw [q.length]
    cases z : ixN ds.length i with
    | none => rw [z] at h; cases h
    | some j =>
      rw [z] at h
      obtain ⟨u, e1, e2⟩ := q.get h
      exact ⟨u, e1, e2⟩
  unfold idxF at h
  split at h
  · exact (nd _ _ rfl).elim
  · obtain ⟨a, vs, rfl, r1, r2⟩ := hv.tup
    cases hw.int
    obtain ⟨u, e1, e2⟩ := at_ r2 h
    exact .inr (.inl ⟨a, vs, _, u, rfl, rfl, SqT.of r1, e1, hQ u e2⟩)
  · obtain ⟨a, vs, rfl, r1, r2⟩ := Vw.row (.inl hv)
    cases hw.int
    obtain ⟨u, e1, e2⟩ := at_ r2 h
    exact .inl ⟨a, vs, _, u, rfl, rfl, r1, e1, hQ u e2⟩
  · obtain ⟨a, vs, rfl, r1, r2⟩ := Vw.row (.inr hv)
    cases hw.int
    obtain ⟨u, e1, e2⟩ := at_ r2 h
    exact .inl ⟨a, vs, _, u, rfl, rfl, r1, e1, hQ u e2⟩
  · cases hv.str; cases hw.int
    split at h
    · rename_i s i hm
      cases z : atI s.cps.toList i with
      | none => rw [z] at h; cases h
      | some c =>
        rw [z] at h
        cases h
        exact .inr (.inr ⟨_, _, c, rfl, rfl, hm, z, hQ _ (.str _)⟩)
    · cases h
  · cases h
end
end Ev
end
section
set_option maxRecDepth 100000
set_option maxHeartbeats 1000000
namespace Ev
open PySem PySem.Spec L2

theorem PE.imp {X : Cx} {e : Expr} {t t' : TE} (h : PE X e t) (hi : ∀ σ H Q, t' σ H Q → t σ H Q) : PE X e t' := ⟨fun pins s σ H Q I hq => h.run pins s σ H Q I (hi σ H Q hq)⟩
theorem PT.imp {X : Cx} {e : Expr} {t t' : TT} (h : PT X e t) (hi : ∀ σ H Q, t' σ H Q → t σ H Q) : PT X e t' := ⟨fun pins s σ H Q I hq => h.run pins s σ H Q I (hi σ H Q hq)⟩
theorem PA.imp {X : Cx} {e : List Expr} {t t' : TA} (h : PA X e t) (hi : ∀ σ H Q, t' σ H Q → t σ H Q) : PA X e t' := ⟨fun pos pins s σ H Q I hq => h.run pos pins s σ H Q I (hi σ H Q hq)⟩

section
variable {Γ : Glob} {X : Cx} {P : Par} {U U' U1 O O' : Addr → Prop} {env env' env1 env2 env3 : Env} {σ : St} {H H1 H2 H3 H' : Hp} {a x y z : A} {v w u : V} {d e : D} {W : WX} {pos : Pos} {ea eb ec : Expr} {ma mb mc : M A} {ta tb : M Bool}

/-! ### freezing -/
theorem RE.frozen {i : Nat} {s : Sl} (r : RE Γ U env σ H) (hs : env[i]? = some (some s)) (hv : σ[i]? = some (some v)) :
    RE Γ U (env.set i (some (.val s.d))) σ H ∧ Rep Γ (fun b => U b ∨ Own (env.set i (some (.val s.d))) σ b) H v s.d ∧ ∀ b, Own (env.set i (some (.val s.d))) σ b → Own env σ b := by
  have hlt : i < env.length := (List.getElem?_eq_some_iff.mp hs).1
  have sub : ∀ b, Own (env.set i (some (.val s.d))) σ b → Own env σ b := fun b ⟨j, d, e1, e2⟩ => by
    by_cases hj : i = j
    · subst hj
      rw [List.getElem?_set_self hlt] at e1
      cases e1
    · rw [List.getElem?_set_ne hj] at e1
      exact ⟨j, d, e1, e2⟩
  have less : ∀ b, U b ∨ Own (env.set i (some (.val s.d))) σ b → U b ∨ Own env σ b := fun b z => z.imp id (sub b)
  have q : Rep Γ (fun b => U b ∨ Own (env.set i (some (.val s.d))) σ b) H v s.d := by
    cases s with
    | val d =>
      obtain ⟨v', e1, e2⟩ := r.val i d hs
      rw [hv] at e1
      cases e1
      exact e2.less less
    | own d =>
      obtain ⟨a, e1, n, e2⟩ := r.own i d hs
      rw [hv] at e1
      cases e1
      refine e2.rep less fun z => z.elim n fun ⟨j, d', z1, z2⟩ => ?_
      by_cases hj : i = j
      · subst hj
        rw [List.getElem?_set_self hlt] at z1
        cases z1
      · rw [List.getElem?_set_ne hj] at z1
        exact hj (r.sep i j a d d' hs z1 hv z2)
  refine ⟨⟨by rw [List.length_set]; exact r.len, fun j d e1 => ?_, fun j d e1 => ?_, fun j k b d d' e1 e2 e3 e4 => ?_, r.tabs, r.uth⟩, q, sub⟩
  · by_cases hj : i = j
    · subst hj
      rw [List.getElem?_set_self hlt] at e1
      cases e1
      exact ⟨v, hv, q⟩
    · rw [List.getElem?_set_ne hj] at e1
      obtain ⟨v', e2, e3⟩ := r.val j d e1
      exact ⟨v', e2, e3.less less⟩
  · by_cases hj : i = j
    · subst hj
      rw [List.getElem?_set_self hlt] at e1
      cases e1
    · rw [List.getElem?_set_ne hj] at e1
      obtain ⟨b, e2, e3, e4⟩ := r.own j d e1
      exact ⟨b, e2, e3, e4.less less⟩
  · have h1 : i ≠ j := fun z => by subst z; rw [List.getElem?_set_self hlt] at e1; cases e1
    have h2 : i ≠ k := fun z => by subst z; rw [List.getElem?_set_self hlt] at e2; cases e2
    rw [List.getElem?_set_ne h1] at e1
    rw [List.getElem?_set_ne h2] at e2
    exact r.sep j k b d d' e1 e2 e3 e4
theorem frozen_core (re : RE Γ (UA U a v) env1 σ H1) (ra : RA Γ U (fun b => UA U a v b ∨ Own env1 σ b) σ H1 a v) (h : a.freeze env1 = .ok d env2) :
    RE Γ U env2 σ H1 ∧ Rep Γ (fun b => U b ∨ Own env2 σ b) H1 v d ∧ ∀ b, Own env2 σ b → Own env1 σ b := by
  cases a with
  | val e =>
    cases h
    exact ⟨re.less fun _ z => .inl z, Rep.less (fun _ z => z.imp .inl id) ra, fun _ z => z⟩
  | tmp e =>
    cases h
    obtain ⟨q, rfl, n, b⟩ := ra
    refine ⟨re.less fun b z => .inl z, ?_, fun _ z => z⟩
    refine b.rep (fun b z => z.imp .inl id) fun z => z.elim n fun ⟨j, d', z1, z2⟩ => ?_
    obtain ⟨a, e1, e2, _⟩ := re.own j d' z1
    rw [z2] at e1
    cases e1
    exact e2 (.inr rfl)
  | own i =>
    have q : σ[i]? = some (some v) := ra
    unfold A.freeze at h
    dsimp only at h
    split at h
    · rename_i s hs
      cases h
      exact (re.less (U' := U) fun _ z => .inl z).frozen hs q
    · cases h
theorem Post.frozen (p : Post Γ U env σ H a env1 v H1) (h : a.freeze env1 = .ok d env2) : Post Γ U env σ H (.val d) env2 v H1 := by
  obtain ⟨r1, r2, r3⟩ := frozen_core p.re p.ra h
  exact ⟨r1.less fun _ z => UA_val z, Rep.less (fun _ z => z.imp UA_val id) r2, p.st.shr fun b z => .inl (r3 b (z.elim id fun y => by cases v <;> exact y.elim))⟩
theorem freeze_step {β : Type} {k : D → Env → Out β} {OK : β → Env → Prop} {EX : Exn → Env → Prop} (p : Post Γ U env σ H a env1 v H1) (h : Wp ((a.freeze env1).bind k) OK EX) :
    ∃ d env2, Post Γ U env σ H (.val d) env2 v H1 ∧ Wp (k d env2) OK EX := by
  cases q : a.freeze env1 with
  | ok d env2 =>
    rw [q] at h
    exact ⟨d, env2, p.frozen q, h⟩
  | exn x env2 =>
    cases a <;> simp only [A.freeze] at q <;> first | cases q | (split at q <;> cases q)
  | stuck =>
    rw [q] at h
    exact h.elim
theorem Post.reU {d : D} (p : Post Γ U env σ H (.val d) env1 v H1) : RE Γ U env1 σ H1 := p.re.less fun _ z => .inl z

/-! ### names, constants, operators -/
theorem q_var {i : Nat} {n : Str} (hN : X.N[i]? = some n) (hv : Vis X.env.scope n) (hd : (n == ("__debug__" : Str)) = false) (hcd : (n == ("__classdict__" : Str)) = false) : QE Γ X (.Name n pos) (evA P (.var i)) := fun xe W tk =>
  PE.imp (pe_var (X := X.wish xe) hN hv hd hcd) fun σ H Q ⟨U, env, r, h⟩ => by
    simp only [evA] at h
    split at h
    · rename_i d hs
      obtain ⟨v, e1, e2⟩ := r.val i d hs
      exact ⟨v, e1, h v H (.pure r e2)⟩
    · rename_i d hs
      obtain ⟨a, e1, e2, e3⟩ := r.own i d hs
      exact ⟨_, e1, h _ H (.slot r e1)⟩
    · exact h.elim
theorem q_cst {v : V} (hp : ∀ xe, PE (X.wish xe) ea (tC v)) (hr : ∀ O H, Rep Γ O H v d) : QE Γ X ea (evA P (.cst d)) := fun xe W tk =>
  PE.imp (hp xe) fun σ H Q ⟨U, env, r, h⟩ => by
    simp only [evA] at h
    exact h v H (.pure r (hr _ _))
theorem q_int {i : Int} {j : Nat} : QE Γ X (.Constant (.int i) j pos) (evA P (.cst (.int i))) := q_cst (fun _ => pe_int) fun _ _ => .int i
theorem q_bl {i : Bool} {j : Nat} : QE Γ X (.Constant (.bool i) j pos) (evA P (.cst (.bl i))) := q_cst (fun _ => pe_bl) fun _ _ => .bl i
theorem q_non {j : Nat} : QE Γ X (.Constant .none j pos) (evA P (.cst .non)) := q_cst (fun _ => pe_non) fun _ _ => .non
theorem q_str {i : Str} {j : Nat} : QE Γ X (.Constant (.str i) j pos) (evA P (.cst (.str i))) := q_cst (fun _ => pe_str) fun _ _ => .str i

/-- a value at the end -/
theorem fin_val {Q : VK} (hq : ∀ v H', Post Γ U env σ H (.val d) env1 v H' → Q v H') (p : Post Γ U env σ H x env1 v H1) (q : Rep Γ (fun b => UA U x v b ∨ Own env1 σ b) H1 w d) : Q w H1 :=
  hq _ _ (p.comp (.pure p.re q))
theorem q_neg {a : E} (ha : QE Γ X ea (evA P a)) : QE Γ X (.UnaryOp .USub ea pos) (evA P (.neg a)) := fun xe W tk =>
  PE.imp (pe_un un_neg (ha xe W tk)) fun σ H Q ⟨U, env, r, h⟩ => by
    simp only [evA] at h
    refine (stepE r (fun x e cls d H' p q => q cls d H' p) h).mono fun v H1 ⟨x, env1, p, h⟩ => ?_
    split at h
    · have q : Rep Γ _ H1 v _ := p.ra
      cases q
      exact ⟨_, rfl, fin_val h p (.int _)⟩
    · exact h.elim
theorem q_bin {o : Bo} {a b : E} (ha : QE Γ X ea (evA P a)) (hb : QE Γ X eb (evA P b)) (hK : X.K = Γ.K) : QE Γ X (.BinOp ea o.op eb pos) (evA P (.bin o a b)) := fun xe W tk =>
  PE.imp (pe_op (op_bin o) (ha xe W tk) (hb xe W tk)) fun σ H Q ⟨U, env, r, h⟩ => by
    simp only [evA] at h
    refine (stepE r (fun x e cls d H' p q => q cls d H' p) h).mono fun v H1 ⟨x, env1, p1, h⟩ => ?_
    refine (stepE p1.re (fun x e cls d H' p q => q cls d H' (p1.xcomp p)) h).mono fun w H2 ⟨y, env2, p2, h⟩ => ?_
    split at h
    · rename_i d e hd he
      split at h
      · rename_i g hg
        show rBin X.K o v w H2 Q
        rw [hK]
        exact binF_ok hg (look_vw p2.re (p1.carry p2) (fun _ z => z) (fun _ z => z) hd) (p2.vw he) p2.re fun u H' p3 => h u H' (p1.comp (p2.comp p3))
      · exact h.elim
    · exact h.elim
theorem cmp_core {o : Co} {a b : E} {Q : VK} (hK : X.K = Γ.K) (h : tE Γ (evA P (.cmp o a b)) W σ H Q) : tOp (rCmp X.K o) (tE Γ (evA P a) W) (tE Γ (evA P b) W) σ H Q := by
    obtain ⟨U, env, r, h⟩ := h
    simp only [evA] at h
    refine (stepE r (fun x e cls d H' p q => q cls d H' p) h).mono fun v H1 ⟨x, env1, p1, h⟩ => ?_
    refine (stepE p1.re (fun x e cls d H' p q => q cls d H' (p1.xcomp p)) h).mono fun w H2 ⟨y, env2, p2, h⟩ => ?_
    split at h
    · rename_i d e hd he
      split at h
      · rename_i g hg
        show rCmp X.K o v w H2 Q
        rw [hK]
        exact cmpF_ok hg (look_vw p2.re (p1.carry p2) (fun _ z => z) (fun _ z => z) hd) (p2.vw he) (fin_val h (p1.comp p2) (.bl _))
      · exact h.elim
    · exact h.elim
theorem q_cmp {o : Co} {a b : E} (ha : QE Γ X ea (evA P a)) (hb : QE Γ X eb (evA P b)) (hK : X.K = Γ.K) (hu : X.A.units + 65 < cLine) (hm : behindInMarks o.op eb = false) : QE Γ X (.Compare ea [o.op] [eb] pos) (evA P (.cmp o a b)) := fun xe W tk =>
  PE.imp (pe_cmpR (op_cmp o hu) (ha xe W tk) (hb xe W tk) hm) fun σ H Q h => by
    exact cmp_core hK h
theorem chain_core {o p : Co} {a b c : E} {Q : VK} (hK : X.K = Γ.K) (h : tE Γ (evA P (.chain o p a b c)) W σ H Q) : tChain (rCmp X.K o) (rCmp X.K p) (tE Γ (evA P a) W) (tE Γ (evA P b) W) (tE Γ (evA P c) W) σ H Q := by
    obtain ⟨U, env, r, h⟩ := h
    simp only [evA] at h
    refine (stepE r (fun x e cls d H' p q => q cls d H' p) h).mono fun v H1 ⟨x, env1, p1, h⟩ => ?_
    refine (stepE p1.re (fun x e cls d H' p q => q cls d H' (p1.xcomp p)) h).mono fun w H2 ⟨y, env2, p2, h⟩ => ?_
    split at h
    · rename_i d e hd he
      show rCmp X.K o v w H2 _
      rw [hK]
      split at h
      · rename_i hg
        refine cmpF_ok hg (look_vw p2.re (p1.carry p2) (fun _ z => z) (fun _ z => z) hd) (p2.vw he) ⟨true, rfl, ?_⟩
        rw [if_pos rfl]
        refine (stepE p2.re (fun x e cls d H' p q => q cls d H' (p1.xcomp (p2.xcomp p))) h).mono fun u H3 ⟨z, env3, p3, h⟩ => ?_
        split at h
        · rename_i e' g' he' hg'
          split at h
          · rename_i hk
            exact cmpF_ok hk (look_vw p3.re (p2.carry p3) (fun _ z => z) (fun _ z => z) he') (p3.vw hg') (fin_val h (p1.comp (p2.comp p3)) (.bl _))
          · exact h.elim
        · exact h.elim
      · rename_i hg
        refine cmpF_ok hg (look_vw p2.re (p1.carry p2) (fun _ z => z) (fun _ z => z) hd) (p2.vw he) ⟨false, rfl, ?_⟩
        rw [if_neg Bool.false_ne_true]
        exact fin_val h (p1.comp p2) (.bl _)
      · exact h.elim
    · exact h.elim
theorem q_chain {o p : Co} {a b c : E} (ha : QE Γ X ea (evA P a)) (hb : QE Γ X eb (evA P b)) (hc : QE Γ X ec (evA P c)) (hK : X.K = Γ.K) (hu : X.A.units + 65 < cLine) (hm : lastMarks [o.op, p.op] [eb, ec] = false) :
    QE Γ X (.Compare ea [o.op, p.op] [eb, ec] pos) (evA P (.chain o p a b c)) := fun xe W tk =>
  PE.imp (pe_chain (op_cmp o hu) (op_cmp p hu) (ha xe W tk) (hb xe W tk) (hc xe W tk) hm) fun σ H Q h => chain_core hK h
theorem pe_or {X : Cx} {e : Expr} {t t' : TE} (h : PE X e t) (h' : PE X e t') : PE X e (fun σ H Q => t σ H Q ∨ t' σ H Q) := ⟨fun pins s σ H Q I hq => hq.elim (h.run pins s σ H Q I) (h'.run pins s σ H Q I)⟩
theorem q_idx {a b : E} (ha : QE Γ X ea (evA P a)) (hb : QE Γ X eb (evA P b)) (hK : X.K = Γ.K) (hu : X.A.units + 65 < cLine) (hs : PlainIx eb) (hns : NoSl eb) : QE Γ X (.Subscript ea eb pos) (evA P (.idx a b)) := fun xe W tk =>
  PE.imp (pe_or (pe_ix ix_seq (ha xe W tk) (hb xe W tk) hs) (pe_dget (X := X.wish xe) (by show X.A.units + 1 < cLine; omega) (ha xe W tk) (hb xe W tk) hns)) fun σ H Q ⟨U, env, r, h⟩ => by
    simp only [evA] at h
    by_cases dd : ∃ x env1 y env2 t kvs, evA P a env = .ok x env1 ∧ evA P b env1 = .ok y env2 ∧ x.look env2 = some (.dic t kvs)
    · obtain ⟨x0, env10, y0, env20, t, kvs, e1, e2, e3⟩ := dd
      rw [e1, Out.bind_ok, e2, Out.bind_ok, e3] at h
      refine .inr ⟨U, env, r, ?_⟩
      rw [e1]
      refine fun v H1 p1 => ⟨_, env10, p1.re, ?_⟩
      rw [e2]
      refine fun w H2 p2 => ?_
      split at h
      · rename_i d e hd he
        cases hd
        split at h
        · rename_i g hg
          have hg : (if keyOk t e = true then dget kvs e else none) = some g := hg
          split at hg
          · rename_i hk
            obtain ⟨a, u, q1, q2, q3⟩ := dget_ok (look_vw p2.re (p1.carry p2) (fun _ z => z) (fun _ z => z) e3) (p2.vw he) hk hg
            exact ⟨a, u, q1, q2, fin_val h (p1.comp p2) (q3.less fun b z => z.imp (fun y => y.elim (fun k => .inl (.inl k)) fun k => by first | exact .inr k | exact .inl (.inr k)) id)⟩
          · cases hg
        · exact h.elim
      · exact h.elim
    · refine .inl ?_
      rw [Wp.bind] at h
      refine ⟨U, env, r, h.eqn.mono (fun x env1 ⟨h, e1⟩ v H1 p1 => ?_) fun x e h cls d H' p => h cls d H' p⟩
      rw [Wp.bind] at h
      refine ⟨_, env1, p1.re, h.eqn.mono (fun y env2 ⟨h, e2⟩ w H2 p2 => ?_) fun x e h cls d H' p => h cls d H' (p1.xcomp p)⟩
      split at h
      · rename_i d e hd he
        split at h
        · rename_i g hg
          show rIx X.K v w H2 Q
          rw [hK]
          exact idxF_ok hg (look_vw p2.re (p1.carry p2) (fun _ z => z) (fun _ z => z) hd) (p2.vw he) (fun t kvs z => dd ⟨x, env1, y, env2, t, kvs, e1, e2, by rw [hd, z]⟩) fun u q => fin_val h (p1.comp p2) (q.less fun b z => z.imp (fun y => y.elim (fun k => .inl (.inl k)) fun k => by first | exact .inr k | exact .inl (.inr k)) id)
        · exact h.elim
      · exact h.elim

/-! ### truth, and, or, not -/
theorem q_nt {a : E} (ha : QE Γ X ea (evA P a)) (hK : X.K = Γ.K) : QE Γ X (.UnaryOp .Not ea pos) (evA P (.nt a)) := fun xe W tk =>
  PE.imp (pe_notT (ha xe W tk)) fun σ H Q ⟨U, env, r, h⟩ => by
    simp only [evA] at h
    refine (stepE r (fun x e cls d H' p q => q cls d H' p) h).mono fun v H1 ⟨x, env1, p, h⟩ => ?_
    split at h
    · rename_i b hb
      obtain ⟨d, hd, hb⟩ := Option.bind_eq_some_iff.mp hb
      refine ⟨b, ?_, fin_val h p (.bl _)⟩
      show TruV X.K v H1 b
      rw [hK]
      exact truth_ok hb (p.vw hd)
    · exact h.elim
theorem q_an {a b : E} {rest : List Expr} (ha : QE Γ X ea (evA P a)) (hb : QE Γ X (.BoolOp .And (eb :: rest) pos) (evA P b)) (hK : X.K = Γ.K) : QE Γ X (.BoolOp .And (ea :: eb :: rest) pos) (evA P (.an a b)) := fun xe W tk =>
  PE.imp (pe_andT (ha xe W tk) (hb xe W tk)) fun σ H Q ⟨U, env, r, h⟩ => by
    simp only [evA] at h
    refine (stepE r (fun x e cls d H' p q => q cls d H' p) h).mono fun v H1 ⟨x, env1, p, h⟩ => ?_
    have tr : ∀ {d b}, x.look env1 = some d → d.truth = some b → TruV (X.wish xe).K v H1 b := fun h1 h2 => by
      show TruV X.K v H1 _
      rw [hK]
      exact truth_ok h2 (p.vw h1)
    split at h
    · rename_i hb'
      obtain ⟨d, hd, hb'⟩ := Option.bind_eq_some_iff.mp hb'
      refine ⟨true, tr hd hb', ?_⟩
      rw [if_pos rfl]
      exact ⟨_, _, p.re, h.mono (fun a e q v H' p' => q v H' (p.comp p')) fun x e q cls d H' p' => q cls d H' (p.xcomp p')⟩
    · rename_i hb'
      obtain ⟨d, hd, hb'⟩ := Option.bind_eq_some_iff.mp hb'
      refine ⟨false, tr hd hb', ?_⟩
      rw [if_neg Bool.false_ne_true]
      exact h _ _ p
    · exact h.elim
theorem q_or {a b : E} {rest : List Expr} (ha : QE Γ X ea (evA P a)) (hb : QE Γ X (.BoolOp .Or (eb :: rest) pos) (evA P b)) (hK : X.K = Γ.K) : QE Γ X (.BoolOp .Or (ea :: eb :: rest) pos) (evA P (.or a b)) := fun xe W tk =>
  PE.imp (pe_orT (ha xe W tk) (hb xe W tk)) fun σ H Q ⟨U, env, r, h⟩ => by
    simp only [evA] at h
    refine (stepE r (fun x e cls d H' p q => q cls d H' p) h).mono fun v H1 ⟨x, env1, p, h⟩ => ?_
    have tr : ∀ {d b}, x.look env1 = some d → d.truth = some b → TruV (X.wish xe).K v H1 b := fun h1 h2 => by
      show TruV X.K v H1 _
      rw [hK]
      exact truth_ok h2 (p.vw h1)
    split at h
    · rename_i hb'
      obtain ⟨d, hd, hb'⟩ := Option.bind_eq_some_iff.mp hb'
      refine ⟨false, tr hd hb', ?_⟩
      rw [if_neg Bool.false_ne_true]
      exact ⟨_, _, p.re, h.mono (fun a e q v H' p' => q v H' (p.comp p')) fun x e q cls d H' p' => q cls d H' (p.xcomp p')⟩
    · rename_i hb'
      obtain ⟨d, hd, hb'⟩ := Option.bind_eq_some_iff.mp hb'
      refine ⟨true, tr hd hb', ?_⟩
      rw [if_pos rfl]
      exact h _ _ p
    · exact h.elim
theorem q_one {op : BoolOp} {a : E} (ha : QE Γ X ea (evA P a)) : QE Γ X (.BoolOp op [ea] pos) (evA P a) := fun xe W tk => pe_one (ha xe W tk)
theorem q_ite {c a b : E} (hc : QT Γ X ec (evT P c)) (ha : QE Γ X ea (evA P a)) (hb : QE Γ X eb (evA P b)) : QE Γ X (.IfExp ec ea eb pos) (evA P (.ite c a b)) := fun xe W tk =>
  PE.imp (pe_ifExp (hc xe W tk) (ha xe W tk) (hb xe W tk)) fun σ H Q ⟨U, env, r, h⟩ => by
    simp only [evA] at h
    refine (stepT r (fun x e cls d H' p q => q cls d H' p) h).mono fun k H1 ⟨env1, p, h⟩ => ?_
    cases k with
    | true =>
      rw [if_pos rfl] at h ⊢
      exact ⟨_, _, p.re, h.mono (fun a e q v H' p' => q v H' (p.comp p')) fun x e q cls d H' p' => q cls d H' (p.xcomp p')⟩
    | false =>
      rw [if_neg Bool.false_ne_true] at h ⊢
      exact ⟨_, _, p.re, h.mono (fun a e q v H' p' => q v H' (p.comp p')) fun x e q cls d H' p' => q cls d H' (p.xcomp p')⟩

/-! ### tests -/
/-- a test of a value, by its truth -/
def tru (m : M A) : M Bool := fun env => (m env).bind fun x env => match (x.look env).bind D.truth with
  | some b => .ok b env
  | none => .stuck
theorem fin_b {Q : Bool → Hp → Prop} {b : Bool} (hq : ∀ H', Post Γ U env σ H (.val (.bl b)) env1 (.bl b) H' → Q b H') (p : Post Γ U env σ H x env1 v H1) : Q b H1 :=
  hq _ (p.comp (.pure p.re (.bl b)))
theorem qt_tru {m : M A} (ha : QE Γ X ea m) (hK : X.K = Γ.K) (he : ∀ whole, isTrue ea X.env whole = (do let v ← whole; standAt ea.pos; holding [v] (truthy v))) : QT Γ X ea (tru m) := fun xe W tk =>
  PT.imp (pt_truth (ha xe W tk) he) fun σ H Q ⟨U, env, r, h⟩ => by
    refine (stepE r (fun x e cls d H' p q => q cls d H' p) h).mono fun v H1 ⟨x, env1, p, h⟩ => ?_
    split at h
    · rename_i b hb
      obtain ⟨d, hd, hb⟩ := Option.bind_eq_some_iff.mp hb
      refine ⟨b, ?_, fin_b h p⟩
      show TruV X.K v H1 b
      rw [hK]
      exact truth_ok hb (p.vw hd)
    · exact h.elim
theorem tru_of {m : M A} {Q : Bool → Hp → Prop} (hb : ∀ env a env', m env = .ok a env' → ∃ b, a = .val (.bl b)) (h : tT Γ (tru m) W σ H Q) : tE Γ m W σ H fun v H' => ∃ k, v = .bl k ∧ Q k H' := by
  obtain ⟨U, env, r, h⟩ := h
  refine ⟨U, env, r, ?_⟩
  unfold tru at h
  rw [Wp.bind] at h
  cases q : m env with
  | ok a env' =>
    obtain ⟨b, rfl⟩ := hb env a env' q
    rw [q] at h
    intro v H' p
    have z : Rep Γ _ H' v (.bl b) := p.ra
    cases z
    exact ⟨b, rfl, h H' p⟩
  | exn x env' =>
    rw [q] at h
    exact h
  | stuck =>
    rw [q] at h
    exact h
theorem cmp_bl {o : Co} {a b : E} (env : Env) (x : A) (env' : Env) (h : evA P (.cmp o a b) env = .ok x env') : ∃ k, x = .val (.bl k) := by
  simp only [evA, Out.bind] at h
  repeat' (first | (split at h) | (cases h; exact ⟨_, rfl⟩) | cases h)
theorem chain_bl {o p : Co} {a b c : E} (env : Env) (x : A) (env' : Env) (h : evA P (.chain o p a b c) env = .ok x env') : ∃ k, x = .val (.bl k) := by
  simp only [evA, Out.bind] at h
  repeat' (first | (split at h) | (cases h; exact ⟨_, rfl⟩) | cases h)
theorem qt_cmp {o : Co} {a b : E} (ha : QE Γ X ea (evA P a)) (hb : QE Γ X eb (evA P b)) (hK : X.K = Γ.K) (hu : X.A.units + 65 < cLine) (hm : behindInMarks o.op eb = false) : QT Γ X (.Compare ea [o.op] [eb] pos) (tru (evA P (.cmp o a b))) := fun xe W tk =>
  PT.imp (pt_cmpR (op_cmp o hu) (ha xe W tk) (hb xe W tk) hm) fun σ H Q h => cmp_core hK (tru_of cmp_bl h)
theorem qt_chain {o p : Co} {a b c : E} (ha : QE Γ X ea (evA P a)) (hb : QE Γ X eb (evA P b)) (hc : QE Γ X ec (evA P c)) (hK : X.K = Γ.K) (hu : X.A.units + 65 < cLine) (hm : lastMarks [o.op, p.op] [eb, ec] = false) :
    QT Γ X (.Compare ea [o.op, p.op] [eb, ec] pos) (tru (evA P (.chain o p a b c))) := fun xe W tk =>
  PT.imp (pt_chain (op_cmp o hu) (op_cmp p hu) (ha xe W tk) (hb xe W tk) (hc xe W tk) hm) fun σ H Q h => chain_core hK (tru_of chain_bl h)
theorem qt_nt {a : E} (ha : QT Γ X ea (evT P a)) : QT Γ X (.UnaryOp .Not ea pos) (evT P (.nt a)) := fun xe W tk =>
  PT.imp (pt_not (ha xe W tk)) fun σ H Q ⟨U, env, r, h⟩ => by
    simp only [evT] at h
    exact (stepT r (fun x e cls d H' p q => q cls d H' p) h).mono fun k H1 ⟨env1, p, h⟩ => fin_b h p
structure QW (Γ : Glob) (X : Cx) (e : Expr) (m : M Bool) : Prop where
  run : ∀ (xe : Value → Shared → Prop) (W : WX), Takes (X.wish xe) W → PW (X.wish xe) e (tT Γ m W)
theorem PW.imp {X : Cx} {e : Expr} {t t' : TT} (h : PW X e t) (hi : ∀ σ H Q, t' σ H Q → t σ H Q) : PW X e t' := ⟨fun wh pins s σ H Q I hq => h.run wh pins s σ H Q I (hi σ H Q hq)⟩
theorem qw_and1 (ha : QT Γ X ea ta) : QW Γ X (.BoolOp .And [ea] pos) ta := ⟨fun xe W tk => pw_and1 (ha xe W tk)⟩
theorem qw_or1 (ha : QT Γ X ea ta) : QW Γ X (.BoolOp .Or [ea] pos) ta := ⟨fun xe W tk => pw_or1 (ha xe W tk)⟩
theorem qw_and {a b : E} {rest : List Expr} (ha : QT Γ X ea (evT P a)) (hb : QW Γ X (.BoolOp .And (eb :: rest) pos) (evT P b)) : QW Γ X (.BoolOp .And (ea :: eb :: rest) pos) (evT P (.an a b)) := ⟨fun xe W tk =>
  PW.imp (pw_and (ha xe W tk) (hb.run xe W tk)) fun σ H Q ⟨U, env, r, h⟩ => by
    simp only [evT] at h
    refine (stepT r (fun x e cls d H' p q => q cls d H' p) h).mono fun k H1 ⟨env1, p, h⟩ => ?_
    cases k with
    | true =>
      rw [if_pos rfl] at h ⊢
      exact ⟨_, _, p.re, h.mono (fun a e q H' p' => q H' (p.comp p')) fun x e q cls d H' p' => q cls d H' (p.xcomp p')⟩
    | false =>
      rw [if_neg Bool.false_ne_true] at h ⊢
      exact fin_b h p⟩
theorem qw_or {a b : E} {rest : List Expr} (ha : QT Γ X ea (evT P a)) (hb : QW Γ X (.BoolOp .Or (eb :: rest) pos) (evT P b)) : QW Γ X (.BoolOp .Or (ea :: eb :: rest) pos) (evT P (.or a b)) := ⟨fun xe W tk =>
  PW.imp (pw_or (ha xe W tk) (hb.run xe W tk)) fun σ H Q ⟨U, env, r, h⟩ => by
    simp only [evT] at h
    refine (stepT r (fun x e cls d H' p q => q cls d H' p) h).mono fun k H1 ⟨env1, p, h⟩ => ?_
    cases k with
    | false =>
      rw [if_neg Bool.false_ne_true] at h ⊢
      exact ⟨_, _, p.re, h.mono (fun a e q H' p' => q H' (p.comp p')) fun x e q cls d H' p' => q cls d H' (p.xcomp p')⟩
    | true =>
      rw [if_pos rfl] at h ⊢
      exact fin_b h p⟩
theorem QW.qt {e : Expr} {m : M Bool} (h : QW Γ X e m) : QT Γ X e m := fun xe W tk => (h.run xe W tk).pt
theorem qt_ite {c a b : E} (hc : QT Γ X ec (evT P c)) (ha : QT Γ X ea (evT P a)) (hb : QT Γ X eb (evT P b)) : QT Γ X (.IfExp ec ea eb pos) (evT P (.ite c a b)) := fun xe W tk => by
  refine ⟨fun pins s σ H Q I ⟨U, env, r, h⟩ => ?_⟩
  simp only [evT] at h
  refine PyProof.Rows.isTrue_IfExp (thn ((hc xe W tk).run pins s σ H _ I (stepT r (fun x e cls d H' p q => q cls d H' p) h)) fun k s1 ⟨H1, I1, env1, p, h⟩ => ?_)
  cases k with
  | true =>
    rw [if_pos rfl] at h ⊢
    exact (ha xe W tk).run pins s1 σ H1 Q I1 ⟨_, _, p.re, h.mono (fun a e q H' p' => q H' (p.comp p')) fun x e q cls d H' p' => q cls d H' (p.xcomp p')⟩
  | false =>
    rw [if_neg Bool.false_ne_true] at h ⊢
    exact (hb xe W tk).run pins s1 σ H1 Q I1 ⟨_, _, p.re, h.mono (fun a e q H' p' => q H' (p.comp p')) fun x e q cls d H' p' => q cls d H' (p.xcomp p')⟩
end
end Ev
end
section
set_option maxRecDepth 100000
set_option maxHeartbeats 1000000
namespace Ev
open PySem PySem.Spec L2

theorem Stp.add {W W' V' : Addr → Prop} {H H' : Hp} (s : Stp W H W' H') (h : ∀ a, V' a → W a ∨ H a = none) : Stp W H (fun a => W' a ∨ V' a) H' :=
  ⟨s.keep, s.tups, s.frzs, fun a z => z.elim (s.sub a) (h a), s.there⟩

/-! ### rows of things in hand -/
def isTmps : List A → List V → Addr → Prop
  | a :: as, v :: vs, b => isTmp a v b ∨ isTmps as vs b
  | _, _, _ => False
def UAs (U : Addr → Prop) (as : List A) (vs : List V) (b : Addr) : Prop := U b ∨ isTmps as vs b
def RAs (Γ : Glob) (U O : Addr → Prop) (σ : St) (H : Hp) : List A → List V → Prop
  | [], [] => True
  | a :: as, v :: vs => RA Γ U O σ H a v ∧ RAs Γ (UA U a v) O σ H as vs
  | _, _ => False
structure PostAs (Γ : Glob) (U : Addr → Prop) (env : Env) (σ : St) (H : Hp) (as : List A) (env' : Env) (vs : List V) (H' : Hp) : Prop where
  re : RE Γ (UAs U as vs) env' σ H'
  ra : RAs Γ U (fun b => UAs U as vs b ∨ Own env' σ b) σ H' as vs
  st : Stp (Own env σ) H (fun b => Own env' σ b ∨ isTmps as vs b) H'
def tAs (Γ : Glob) (m : M (List A)) (W : WX) : TA := fun σ H Q => ∃ U env, RE Γ U env σ H ∧
  Wp (m env) (fun as env' => ∀ vs H', PostAs Γ U env σ H as env' vs H' → Q vs H') fun x env' => ∀ cls d H', XPost Γ U env σ H x env' cls d H' → W cls d σ H'
def QAs (Γ : Glob) (X : Cx) (es : List Expr) (m : M (List A)) : Prop := ∀ (xe : Value → Shared → Prop) (W : WX), Takes (X.wish xe) W → PA (X.wish xe) es (tAs Γ m W)
structure PostVs (Γ : Glob) (U : Addr → Prop) (env : Env) (σ : St) (H : Hp) (ds : List D) (env' : Env) (vs : List V) (H' : Hp) : Prop where
  re : RE Γ U env' σ H'
  rs : Reps Γ (fun b => U b ∨ Own env' σ b) H' vs ds
  st : Stp (Own env σ) H (Own env' σ) H'
def tVs (Γ : Glob) (m : M (List D)) (W : WX) : TA := fun σ H Q => ∃ U env, RE Γ U env σ H ∧
  Wp (m env) (fun ds env' => ∀ vs H', PostVs Γ U env σ H ds env' vs H' → Q vs H') fun x env' => ∀ cls d H', XPost Γ U env σ H x env' cls d H' → W cls d σ H'
def QVs (Γ : Glob) (X : Cx) (es : List Expr) (m : M (List D)) : Prop := ∀ (xe : Value → Shared → Prop) (W : WX), Takes (X.wish xe) W → PA (X.wish xe) es (tVs Γ m W)

def notStar : Expr → Bool
  | .Starred .. => false
  | _ => true
theorem starEach_cons {e : Expr} {es : List Expr} {env : PySem.Env} (h : notStar e = true) : starEach (e :: es) env = (false, eval e env) :: starEach es env := by
  cases e <;> first | rfl | cases h

section
variable {Γ : Glob} {X : Cx} {P : Par} {U U' U1 O O' : Addr → Prop} {env env' env1 env2 env3 : Env} {σ : St} {H H1 H2 H3 H' : Hp} {a x y z : A} {as : List A} {v w u : V} {vs : List V} {d e : D} {ds : List D} {W : WX} {pos : Pos} {ea eb ec : Expr} {es : List Expr}
theorem RAs.less : ∀ {as : List A} {vs : List V} {U U' : Addr → Prop}, (∀ a, O' a → O a) → (∀ a, U' a → U a) → RAs Γ U O σ H as vs → RAs Γ U' O' σ H as vs
  | [], [], _, _, _, _, _ => trivial
  | _ :: _, _ :: _, _, _, h, h', ⟨r, rs⟩ => ⟨r.less h h', RAs.less h (fun a z => z.imp (h' a) id) rs⟩
  | [], _ :: _, _, _, _, _, r => r
  | _ :: _, [], _, _, _, _, r => r
theorem PostAs.nil (r : RE Γ U env σ H) : PostAs Γ U env σ H [] env [] H := ⟨r.less fun _ z => z.elim id fun y => y.elim, trivial, (Stp.refl _ _).shr fun _ z => z.elim id fun y => y.elim⟩
theorem PostAs.cons (p1 : Post Γ U env σ H a env1 v H1) (p2 : PostAs Γ (UA U a v) env1 σ H1 as env2 vs H2) : PostAs Γ U env σ H (a :: as) env2 (v :: vs) H2 := by
  have hO : ∀ b, UAs U (a :: as) (v :: vs) b → UAs (UA U a v) as vs b := fun b z => z.elim (fun y => .inl (.inl y)) fun y => y.elim (fun k => .inl (.inr k)) .inr
  refine ⟨p2.re.less hO, ⟨p1.ra.on p1.re p2.st fun b z => ?_, p2.ra.less (fun b z => z.imp (hO b) id) fun _ z => z⟩, ?_⟩
  · rcases z with (z | z | z) | z
    · exact .inr (.inl (.inl (.inl z)))
    · exact .inr (.inl (.inl (.inr z)))
    · exact .inl (.inr z)
    · exact .inl (.inl z)
  · refine ((p1.st.comp p2.st fun b z => .inl z).add (V' := isTmp a v) fun b z => p1.st.sub b (.inr z)).shr fun b z => ?_
    rcases z with z | z | z
    · exact .inl (.inl z)
    · exact .inr z
    · exact .inl (.inr z)
theorem Post.xcompAs (p1 : PostAs Γ U env σ H as env1 vs H1) {e : Exn} {cls : Value} {dd : Option Addr} (px : XPost Γ (UAs U as vs) env1 σ H1 e env2 cls dd H2) : XPost Γ U env σ H e env2 cls dd H2 where
  re := px.re.less fun a z => .inl z
  xr := px.xr
  st := p1.st.comp px.st fun a z => .inl z
/-- a thing made of a row of things -/
theorem PostAs.comp (p1 : PostAs Γ U env σ H as env1 vs H1) (p2 : Post Γ (UAs U as vs) env1 σ H1 y env2 w H2) : Post Γ U env σ H y env2 w H2 where
  re := p2.re.less fun a z => z.imp .inl id
  ra := p2.ra.less (fun a z => z.imp (fun y => y.imp .inl id) id) fun a z => .inl z
  st := p1.st.comp p2.st fun a z => .inl z
theorem PostVs.comp (p1 : PostVs Γ U env σ H ds env1 vs H1) (p2 : Post Γ U env1 σ H1 y env2 w H2) : Post Γ U env σ H y env2 w H2 := ⟨p2.re, p2.ra, p1.st.comp p2.st fun _ z => z⟩
theorem PostVs.nil (r : RE Γ U env σ H) : PostVs Γ U env σ H [] env [] H := ⟨r, .nil, Stp.refl _ _⟩
theorem PostVs.cons (p1 : Post Γ U env σ H (.val d) env1 v H1) (p2 : PostVs Γ U env1 σ H1 ds env2 vs H2) : PostVs Γ U env σ H (d :: ds) env2 (v :: vs) H2 := by
  have q : Rep Γ _ H1 v d := p1.ra
  refine ⟨p2.re, .cons (q.stp (p2.st.mono (fun b z => .inr z) fun b z => ?_)) p2.rs, p1.st.comp p2.st fun b z => .inl z⟩
  exact z.elim (fun y => .inr (.inl (.inl (.inl y)))) .inl
theorem Post.valU (p : Post Γ U env σ H (.val d) env1 v H1) {m : M A} : RE Γ U env1 σ H1 := p.reU
theorem q_anil : QAs Γ X [] (evAs P .nil) := fun xe W tk => PA.imp pa_nil fun σ H Q ⟨U, env, r, h⟩ => by
  simp only [evAs] at h
  exact h [] H (.nil r)
theorem tAs.mono {m : M (List A)} {Q Q' : List V → Hp → Prop} (h : tAs Γ m W σ H Q) (hQ : ∀ v H', Q v H' → Q' v H') : tAs Γ m W σ H Q' := by
  obtain ⟨U, env, r, h⟩ := h
  exact ⟨U, env, r, h.mono (fun a e q v H' p => hQ v H' (q v H' p)) fun _ _ q => q⟩
theorem tVs.mono {m : M (List D)} {Q Q' : List V → Hp → Prop} (h : tVs Γ m W σ H Q) (hQ : ∀ v H', Q v H' → Q' v H') : tVs Γ m W σ H Q' := by
  obtain ⟨U, env, r, h⟩ := h
  exact ⟨U, env, r, h.mono (fun a e q v H' p => hQ v H' (q v H' p)) fun _ _ q => q⟩
theorem stepAs {m : M (List A)} {β : Type} {k : List A → Env → Out β} {OK : β → Env → Prop} {EX : Exn → Env → Prop} (r : RE Γ U env σ H)
    (hx : ∀ x e cls d H', XPost Γ U env σ H x e cls d H' → EX x e → W cls d σ H') (h : Wp ((m env).bind k) OK EX) :
    tAs Γ m W σ H fun v H1 => ∃ a env1, PostAs Γ U env σ H a env1 v H1 ∧ Wp (k a env1) OK EX :=
  ⟨U, env, r, (Wp.bind.mp h).mono (fun a e q v H' p => ⟨a, e, p, q⟩) fun x e q cls d H' p => hx x e cls d H' p q⟩
theorem stepVs {m : M (List D)} {β : Type} {k : List D → Env → Out β} {OK : β → Env → Prop} {EX : Exn → Env → Prop} (r : RE Γ U env σ H)
    (hx : ∀ x e cls d H', XPost Γ U env σ H x e cls d H' → EX x e → W cls d σ H') (h : Wp ((m env).bind k) OK EX) :
    tVs Γ m W σ H fun v H1 => ∃ a env1, PostVs Γ U env σ H a env1 v H1 ∧ Wp (k a env1) OK EX :=
  ⟨U, env, r, (Wp.bind.mp h).mono (fun a e q v H' p => ⟨a, e, p, q⟩) fun x e q cls d H' p => hx x e cls d H' p q⟩
theorem q_acons {a : E} {as : Es} (ha : QE Γ X ea (evA P a)) (hs : QAs Γ X es (evAs P as)) (hst : notStar ea = true) : QAs Γ X (ea :: es) (evAs P (.cons a as)) := fun xe W tk =>
  PA.imp (pa_cons (ha xe W tk) (hs xe W tk) (starEach_cons hst)) fun σ H Q ⟨U, env, r, h⟩ => by
    simp only [evAs] at h
    refine (stepE r (fun x e cls d H' p q => q cls d H' p) h).mono fun v H1 ⟨x, env1, p1, h⟩ => ?_
    refine (stepAs p1.re (fun x e cls d H' p q => q cls d H' (p1.xcomp p)) h).mono fun vs H2 ⟨as, env2, p2, h⟩ => ?_
    exact h _ _ (.cons p1 p2)
theorem q_vnil : QVs Γ X [] (evVs P .nil) := fun xe W tk => PA.imp pa_nil fun σ H Q ⟨U, env, r, h⟩ => by
  simp only [evVs] at h
  exact h [] H (.nil r)
theorem Post.xcompV {e : Exn} {cls : Value} {dd : Option Addr} (p1 : Post Γ U env σ H (.val d) env1 v H1) (px : XPost Γ U env1 σ H1 e env2 cls dd H2) : XPost Γ U env σ H e env2 cls dd H2 :=
  ⟨px.re, px.xr, p1.st.comp px.st fun b z => .inl z⟩
theorem q_vcons {a : E} {as : Es} (ha : QE Γ X ea (evA P a)) (hs : QVs Γ X es (evVs P as)) (hst : notStar ea = true) : QVs Γ X (ea :: es) (evVs P (.cons a as)) := fun xe W tk =>
  PA.imp (pa_cons (ha xe W tk) (hs xe W tk) (starEach_cons hst)) fun σ H Q ⟨U, env, r, h⟩ => by
    simp only [evVs] at h
    refine (stepE r (fun x e cls d H' p q => q cls d H' p) h).mono fun v H1 ⟨x, env1, p1, h⟩ => ?_
    obtain ⟨d, env2, p2, h⟩ := freeze_step p1 h
    refine (stepVs p2.reU (fun x e cls d H' p q => q cls d H' (p2.xcompV p)) h).mono fun vs H2 ⟨ds, env3, p3, h⟩ => ?_
    exact h _ _ (.cons p2 p3)

/-! ### displays -/
theorem q_tup {as : Es} {k : Nat} (hs : QVs Γ X es (evVs P as)) : QE Γ X (.Tuple es k pos) (evA P (.tup as)) := fun xe W tk =>
  PE.imp (pe_tup (hs xe W tk)) fun σ H Q ⟨U, env, r, h⟩ => by
    simp only [evA] at h
    refine (stepVs r (fun x e cls d H' p q => q cls d H' p) h).mono fun vs H1 ⟨ds, env1, p, h⟩ => ?_
    split at h
    · rename_i hl
      exact ⟨by rw [p.rs.length]; exact hl, fun q hq => h _ _ (p.comp (.newTup p.re p.rs hq))⟩
    · exact h.elim
theorem q_lst {as : Es} (hs : QVs Γ X es (evVs P as)) : QE Γ X (.List es pos) (evA P (.lst as)) := fun xe W tk =>
  PE.imp (pe_lst (hs xe W tk)) fun σ H Q ⟨U, env, r, h⟩ => by
    simp only [evA] at h
    refine (stepVs r (fun x e cls d H' p q => q cls d H' p) h).mono fun vs H1 ⟨ds, env1, p, h⟩ => ?_
    split at h
    · rename_i hl
      exact ⟨by rw [p.rs.length]; exact hl, fun q hq => h _ _ (p.comp (.newLst p.re p.rs hq))⟩
    · exact h.elim

/-! ### built-in functions -/
def Vws (Γ : Glob) (O : Addr → Prop) (H : Hp) : List V → List D → Prop
  | [], [] => True
  | v :: vs, d :: ds => Vw Γ O H v d ∧ Vws Γ O H vs ds
  | _, _ => False
theorem lookAll_vws : ∀ {as : List A} {vs : List V} {ds : List D} {U1 : Addr → Prop}, RE Γ U env σ H → RAs Γ U1 (fun b => U b ∨ Own env σ b) σ H as vs → lookAll as env = some ds → Vws Γ (fun b => U b ∨ Own env σ b) H vs ds
  | [], [], ds, _, _, _, h => by cases h; trivial
  | a :: as, v :: vs, ds, U1, re, ⟨r, rs⟩, h => by
    unfold lookAll at h
    split at h
    · rename_i d ds' h1 h2
      cases h
      exact ⟨look_vw re r (fun _ z => z) (fun _ z => z) h1, lookAll_vws re rs h2⟩
    · cases h
  | [], _ :: _, _, _, _, r, _ => r.elim
  | _ :: _, [], _, _, _, r, _ => r.elim
theorem PostAs.vws (p : PostAs Γ U env σ H as env1 vs H1) (h : lookAll as env1 = some ds) : Vws Γ (fun b => UAs U as vs b ∨ Own env1 σ b) H1 vs ds := lookAll_vws p.re p.ra h
def Bi.nm : Bi → Str
  | .len => "len" | .abs => "abs" | .int => "int" | .list => "list" | .tuple => "tuple" | .any => "any" | .all => "all" | .max2 => "max" | .min2 => "min" | .sum => "sum" | .max1 => "max" | .min1 => "min" | .str => "str"
  | .isInt | .isBool | .isTuple | .isStr | .isList => "isinstance"
def Bi.fv : Bi → Value
  | .len => .builtin "len" | .abs => .builtin "abs" | .int => .type "int" | .list => .type "list" | .tuple => .type "tuple" | .any => .builtin "any" | .all => .builtin "all" | .max2 => .builtin "max" | .min2 => .builtin "min" | .sum => .builtin "sum" | .max1 => .builtin "max" | .min1 => .builtin "min" | .str => .type "str"
  | .isInt | .isBool | .isTuple | .isStr | .isList => .builtin "isinstance"
/-- the class that isinstance asks for -/
def Bi.ty : Bi → List String
  | .isInt => ["int"] | .isBool => ["bool"] | .isTuple => ["tuple"] | .isStr => ["str"] | .isList => ["list"]
  | _ => []
def Bi.hot : Bi → Bool
  | .any | .all | .max2 | .min2 | .sum | .max1 | .min1 => true
  | _ => false
theorem Bi.boot (f : Bi) : bootBuiltins f.nm = some f.fv := by cases f <;> decide +kernel
def rBi (K : PySem.W.Frag) : Bi → List V → Hp → VK → Prop
  | .len => fun xs H Q => ∃ x n, xs = [x] ∧ LenV K x H n ∧ Q (.int n) H
  | .abs => fun xs H Q => ∃ i, xs = [.int i] ∧ Q (.int (if i < 0 then -i else i)) H
  | .int => fun xs H Q => (∃ i, xs = [.int i] ∧ Q (.int i) H) ∨ ∃ k, xs = [.bl k] ∧ Q (.int (if k then 1 else 0)) H
  | .list => fun xs H Q => ∃ p ys, xs = [.ref p] ∧ (SqL K H p ys ∨ SqT K H p ys) ∧ ∀ l, H l = none → Q (.ref l) (upd H l (.lst ys))
  | .tuple => fun xs H Q => ∃ p ys, xs = [.ref p] ∧ ((SqL K H p ys ∧ ∀ l, H l = none → Q (.ref l) (upd H l (.tup ys))) ∨ (SqT K H p ys ∧ Q (.ref p) H))
  | .any => rAny K
  | .all => rAll K
  | .sum => rSum K
  | .max2 => fun xs H Q => ∃ i j, xs = [.int i, .int j] ∧ Q (.int (if j > i then j else i)) H
  | .min2 => fun xs H Q => ∃ i j, xs = [.int i, .int j] ∧ Q (.int (if j < i then j else i)) H
  | .max1 => rMax K
  | .min1 => rMin K
  | .str => fun xs H Q => (∃ i, xs = [.int i] ∧ i.natAbs.log2 < 1920 ∧ Q (.str (toString i)) H) ∨ ∃ a, xs = [.str a] ∧ Q (.str a) H
  | .isInt | .isBool | .isTuple | .isStr | .isList => rIsi K
theorem callR_bi {f : Bi} (hc : f.hot = true → X.calm = true) : CallR X f.fv (rBi X.K f) := by
  cases f with
  | len => exact call_len
  | abs => exact call_abs
  | int => exact call_int1
  | list => exact call_list_of
  | tuple => exact call_tuple_of
  | any => exact cr_any (hc rfl)
  | all => exact cr_all (hc rfl)
  | sum => exact cr_sum (hc rfl)
  | max2 => exact call_max2 (hc rfl)
  | min2 => exact call_min2 (hc rfl)
  | max1 => exact cr_max (hc rfl)
  | min1 => exact cr_min (hc rfl)
  | str => exact fun pins s σ H xs us Q I r h => h.elim (call_str_int pins s σ H xs us Q I r) (SkE.call_str_str pins s σ H xs us Q I r)
  | _ => exact call_isi
theorem bools_of : ∀ {ds : List D} {vs : List V} {bs : List Bool}, Reps Γ O H vs ds → asBools ds = some bs → vs = bs.map V.bl
  | [], _, bs, .nil, h => by cases h; rfl
  | .bl b :: ds, _, bs, .cons r rs, h => by
    unfold asBools at h
    cases q : asBools ds with
    | none => rw [q] at h; cases h
    | some cs =>
      rw [q] at h
      cases h
      cases r
      rw [bools_of rs q]
      rfl
  | .non :: _, _, _, _, h => by cases h
  | .int _ :: _, _, _, _, h => by cases h
  | .str _ :: _, _, _, _, h => by cases h
  | .tup _ :: _, _, _, _, h => by cases h
  | .lst _ :: _, _, _, _, h => by cases h
  | .frz _ :: _, _, _, _, h => by cases h
  | .dic _ _ :: _, _, _, _, h => by cases h
  | .ins _ _ :: _, _, _, _, h => by cases h
  | .fn _ :: _, _, _, _, h => by cases h
theorem ints_of : ∀ {ds : List D} {vs : List V} {bs : List Int}, Reps Γ O H vs ds → asInts ds = some bs → vs = bs.map V.int
  | [], _, bs, .nil, h => by cases h; rfl
  | .int b :: ds, _, bs, .cons r rs, h => by
    unfold asInts at h
    cases q : asInts ds with
    | none => rw [q] at h; cases h
    | some cs =>
      rw [q] at h
      cases h
      cases r
      rw [ints_of rs q]
      rfl
  | .non :: _, _, _, _, h => by cases h
  | .bl _ :: _, _, _, _, h => by cases h
  | .str _ :: _, _, _, _, h => by cases h
  | .tup _ :: _, _, _, _, h => by cases h
  | .lst _ :: _, _, _, _, h => by cases h
  | .frz _ :: _, _, _, _, h => by cases h
  | .dic _ _ :: _, _, _, _, h => by cases h
  | .ins _ _ :: _, _, _, _, h => by cases h
  | .fn _ :: _, _, _, _, h => by cases h
/-- the built-in class of a value -/
def tyOfD : D → String
  | .non => "NoneType" | .bl _ => "bool" | .int _ => "int" | .str _ => "str" | .tup _ => "tuple" | .lst _ => "list" | .frz _ => "list" | _ => "dict"
theorem Vw.ty (h : Vw Γ O H v d) : (∀ t kvs, d ≠ .dic t kvs) → (∀ c fs, d ≠ .ins c fs) → (∀ f, d ≠ .fn f) → TyX Γ.K H v (.type (tyOfD d)) := by
  intro h1 h2 h3
  cases d with
  | non => cases h.non; exact .base .non
  | bl b => cases h.bl; exact .base (.bl b)
  | int i => cases h.int; exact .base (.int i)
  | str s => cases h.str; exact .base (.str s)
  | lst xs =>
    obtain ⟨a, vs, rfl, r, _⟩ := h.lst
    exact .base (.lst r)
  | frz xs =>
    obtain ⟨a, vs, rfl, r, _⟩ := h.frz
    rcases r with ⟨o, r⟩ | ⟨o, its, n, r, c, _⟩
    · exact .base (.frz r)
    · exact .kList r c
  | tup xs =>
    obtain ⟨a, vs, rfl, r, _⟩ := h.tup
    exact .base (.tup r)
  | dic t kvs => exact (h1 _ _ rfl).elim
  | ins c fs => exact (h2 _ _ rfl).elim
  | fn f => exact (h3 _ rfl).elim
theorem Vws.one (h : Vws Γ O H vs [d]) : ∃ v, vs = [v] ∧ Vw Γ O H v d := by
  cases vs with
  | nil => exact h.elim
  | cons v vs =>
    cases vs with
    | nil => exact ⟨v, rfl, h.1⟩
    | cons _ _ => exact h.2.elim
theorem Vws.two (h : Vws Γ O H vs [d, e]) : ∃ v w, vs = [v, w] ∧ Vw Γ O H v d ∧ Vw Γ O H w e := by
  cases vs with
  | nil => exact h.elim
  | cons v vs =>
    obtain ⟨w, rfl, q⟩ := Vws.one h.2
    exact ⟨v, w, rfl, h.1, q⟩
theorem isi_ok {t : String} {b : Bool} {Q : VK} (h : Vw Γ O H v d) (h1 : ∀ t kvs, d ≠ .dic t kvs) (h2 : ∀ c fs, d ≠ .ins c fs) (h3 : ∀ f, d ≠ .fn f) (hk : kitB (tyOfD d) t = some b) (q : Q (.bl b) H) : rIsi Γ.K [v, .ty t] H Q :=
  ⟨v, .ty t, _, _, b, rfl, .ty t, h.ty h1 h2 h3, kit_ty hk, q⟩
theorem foldMax : ∀ {ns : List Int} {m0 : Int}, let m := ns.foldl (fun m y => if m < y then y else m) m0; (m = m0 ∨ m ∈ ns) ∧ m0 ≤ m ∧ ∀ y ∈ ns, y ≤ m
  | [], m0 => ⟨.inl rfl, Int.le_refl _, fun y hy => by cases hy⟩
  | n :: ns, m0 => by
    obtain ⟨h1, h2, h3⟩ := foldMax (ns := ns) (m0 := if m0 < n then n else m0)
    have a1 : m0 ≤ (if m0 < n then n else m0) := by split <;> omega
    have a2 : n ≤ (if m0 < n then n else m0) := by split <;> omega
    refine ⟨?_, Int.le_trans a1 h2, fun y hy => ?_⟩
    · rcases h1 with h1 | h1
      · simp only [List.foldl_cons]
        rw [h1]
        split
        · exact .inr (.head _)
        · exact .inl rfl
      · exact .inr (.tail _ h1)
    · rcases List.mem_cons.mp hy with e | hy
      · rw [e]; exact Int.le_trans a2 h2
      · exact h3 y hy
theorem foldMin : ∀ {ns : List Int} {m0 : Int}, let m := ns.foldl (fun m y => if y < m then y else m) m0; (m = m0 ∨ m ∈ ns) ∧ m ≤ m0 ∧ ∀ y ∈ ns, m ≤ y
  | [], m0 => ⟨.inl rfl, Int.le_refl _, fun y hy => by cases hy⟩
  | n :: ns, m0 => by
    obtain ⟨h1, h2, h3⟩ := foldMin (ns := ns) (m0 := if n < m0 then n else m0)
    have a1 : (if n < m0 then n else m0) ≤ m0 := by split <;> omega
    have a2 : (if n < m0 then n else m0) ≤ n := by split <;> omega
    refine ⟨?_, Int.le_trans h2 a1, fun y hy => ?_⟩
    · rcases h1 with h1 | h1
      · simp only [List.foldl_cons]
        rw [h1]
        split
        · exact .inr (.head _)
        · exact .inl rfl
      · exact .inr (.tail _ h1)
    · rcases List.mem_cons.mp hy with e | hy
      · rw [e]; exact Int.le_trans h2 a2
      · exact h3 y hy
theorem maxI_ok {ns : List Int} {m : Int} (h : maxI ns = some m) : 0 < ns.length ∧ m ∈ ns ∧ ∀ y ∈ ns, y ≤ m := by
  cases ns with
  | nil => cases h
  | cons n ns =>
    cases h
    obtain ⟨h1, h2, h3⟩ := foldMax (ns := ns) (m0 := n)
    refine ⟨Nat.succ_pos _, ?_, fun y hy => ?_⟩
    · rcases h1 with h1 | h1
      · rw [h1]; exact .head _
      · exact .tail _ h1
    · rcases List.mem_cons.mp hy with e | hy
      · rw [e]; exact h2
      · exact h3 y hy
theorem minI_ok {ns : List Int} {m : Int} (h : minI ns = some m) : 0 < ns.length ∧ m ∈ ns ∧ ∀ y ∈ ns, m ≤ y := by
  cases ns with
  | nil => cases h
  | cons n ns =>
    cases h
    obtain ⟨h1, h2, h3⟩ := foldMin (ns := ns) (m0 := n)
    refine ⟨Nat.succ_pos _, ?_, fun y hy => ?_⟩
    · rcases h1 with h1 | h1
      · rw [h1]; exact .head _
      · exact .tail _ h1
    · rcases List.mem_cons.mp hy with e | hy
      · rw [e]; exact h2
      · exact h3 y hy
theorem biF_ok {f : Bi} {r : BR} {Q : VK} (h : biF f ds = some r) (hv : Vws Γ (fun b => U b ∨ Own env σ b) H vs ds) (re : RE Γ U env σ H) (hQ : ∀ u H', Post Γ U env σ H r.a env u H' → Q u H') :
    rBi Γ.K f (vs ++ f.ty.map V.ty) H Q := by
  unfold biF at h
  split at h
  · rename_i xs
    obtain ⟨m, hm, e⟩ := Option.map_eq_some_iff.mp h
    obtain ⟨ns, hn, hm⟩ := Option.bind_eq_some_iff.mp hm
    cases e
    obtain ⟨v, rfl, q⟩ := hv.one; obtain ⟨a, us, rfl, r1, r2⟩ := Vw.row (.inl q)
    obtain ⟨m1, m2, m3⟩ := maxI_ok hm
    refine ⟨a, ns, rfl, by rw [← ints_of r2 hn]; exact r1, m1, fun m' h1 h2 => ?_⟩
    rw [Int.le_antisymm (m3 m' h1) (h2 m m2)]
    exact hQ _ _ (.pure re (.int _))
  · rename_i xs
    obtain ⟨m, hm, e⟩ := Option.map_eq_some_iff.mp h
    obtain ⟨ns, hn, hm⟩ := Option.bind_eq_some_iff.mp hm
    cases e
    obtain ⟨v, rfl, q⟩ := hv.one; obtain ⟨a, us, rfl, r1, r2⟩ := Vw.row (.inl q)
    obtain ⟨m1, m2, m3⟩ := minI_ok hm
    refine ⟨a, ns, rfl, by rw [← ints_of r2 hn]; exact r1, m1, fun m' h1 h2 => ?_⟩
    rw [Int.le_antisymm (h2 m m2) (m3 m' h1)]
    exact hQ _ _ (.pure re (.int _))
  · split at h
    · rename_i hl
      cases h; obtain ⟨v, rfl, q⟩ := hv.one; cases q.int
      exact .inl ⟨_, rfl, hl, hQ _ _ (.pure re (.str _))⟩
    · cases h
  · cases h; obtain ⟨v, rfl, q⟩ := hv.one; cases q.str
    exact .inr ⟨_, rfl, hQ _ _ (.pure re (.str _))⟩
  · cases h; obtain ⟨v, rfl, q⟩ := hv.one; obtain ⟨a, us, rfl, r1, r2⟩ := Vw.row (.inl q)
    exact ⟨_, _, rfl, .inl ⟨us, r1, rfl⟩, by rw [r2.length]; exact hQ _ _ (.pure re (.int _))⟩
  · cases h; obtain ⟨v, rfl, q⟩ := hv.one; obtain ⟨a, us, rfl, r1, r2⟩ := Vw.row (.inr q)
    exact ⟨_, _, rfl, .inl ⟨us, r1, rfl⟩, by rw [r2.length]; exact hQ _ _ (.pure re (.int _))⟩
  · cases h; obtain ⟨v, rfl, q⟩ := hv.one; obtain ⟨a, us, rfl, r1, r2⟩ := q.tup
    exact ⟨_, _, rfl, .inr ⟨us, SqT.of r1, rfl⟩, by rw [r2.length]; exact hQ _ _ (.pure re (.int _))⟩
  · split at h
    · rename_i hl
      cases h; obtain ⟨v, rfl, q⟩ := hv.one; cases q.str
      exact ⟨_, _, rfl, ⟨hl, rfl⟩, hQ _ _ (.pure re (.int _))⟩
    · cases h
  · cases h; obtain ⟨v, rfl, q⟩ := hv.one; cases q.int
    exact ⟨_, rfl, hQ _ _ (.pure re (.int _))⟩
  · cases h; obtain ⟨v, rfl, q⟩ := hv.one; cases q.int
    exact .inl ⟨_, rfl, hQ _ _ (.pure re (.int _))⟩
  · cases h; obtain ⟨v, rfl, q⟩ := hv.one; cases q.bl
    exact .inr ⟨_, rfl, hQ _ _ (.pure re (.int _))⟩
  · cases h; obtain ⟨v, rfl, q⟩ := hv.one; obtain ⟨a, us, rfl, r1, r2⟩ := Vw.row (.inl q)
    exact ⟨a, us, rfl, .inl r1, fun l hl => hQ _ _ (.newLst re r2 hl)⟩
  · cases h; obtain ⟨v, rfl, q⟩ := hv.one; obtain ⟨a, us, rfl, r1, r2⟩ := q.tup
    exact ⟨a, us, rfl, .inr (SqT.of r1), fun l hl => hQ _ _ (.newLst re r2 hl)⟩
  · cases h; obtain ⟨v, rfl, q⟩ := hv.one; obtain ⟨a, us, rfl, r1, r2⟩ := Vw.row (.inr q)
    exact ⟨a, us, rfl, .inl r1, fun l hl => hQ _ _ (.newLst re r2 hl)⟩
  · cases h; obtain ⟨v, rfl, q⟩ := hv.one; obtain ⟨a, us, rfl, r1, r2⟩ := Vw.row (.inl q)
    exact ⟨a, us, rfl, .inl ⟨r1, fun l hl => hQ _ _ (.newTup re r2 hl)⟩⟩
  · cases h; obtain ⟨v, rfl, q⟩ := hv.one; obtain ⟨a, us, rfl, r1, r2⟩ := q.tup
    exact ⟨a, us, rfl, .inr ⟨SqT.of r1, hQ _ _ (.pure re (.tup r1 r2))⟩⟩
  · rename_i xs
    cases z : asBools xs with
    | none => rw [z] at h; cases h
    | some bs =>
      rw [z] at h; cases h
      obtain ⟨v, rfl, q⟩ := hv.one; obtain ⟨a, us, rfl, r1, r2⟩ := Vw.row (.inl q)
      exact ⟨a, bs, rfl, by rw [← bools_of r2 z]; exact r1, hQ _ _ (.pure re (.bl _))⟩
  · rename_i xs
    cases z : asBools xs with
    | none => rw [z] at h; cases h
    | some bs =>
      rw [z] at h; cases h
      obtain ⟨v, rfl, q⟩ := hv.one; obtain ⟨a, us, rfl, r1, r2⟩ := Vw.row (.inl q)
      exact ⟨a, bs, rfl, by rw [← bools_of r2 z]; exact r1, hQ _ _ (.pure re (.bl _))⟩
  · rename_i xs
    cases z : asInts xs with
    | none => rw [z] at h; cases h
    | some bs =>
      rw [z] at h; cases h
      obtain ⟨v, rfl, q⟩ := hv.one; obtain ⟨a, us, rfl, r1, r2⟩ := Vw.row (.inl q)
      exact ⟨a, bs, rfl, by rw [← ints_of r2 z]; exact r1, hQ _ _ (.pure re (.int _))⟩
  · cases h; obtain ⟨v, w, rfl, q1, q2⟩ := hv.two; cases q1.int; cases q2.int
    exact ⟨_, _, rfl, hQ _ _ (.pure re (.int _))⟩
  · cases h; obtain ⟨v, w, rfl, q1, q2⟩ := hv.two; cases q1.int; cases q2.int
    exact ⟨_, _, rfl, hQ _ _ (.pure re (.int _))⟩
  all_goals first
    | (cases h; done)
    | (cases h; obtain ⟨v, rfl, q⟩ := hv.one; exact isi_ok q (by intros; simp) (by intros; simp) (by intros; simp) (by simp only [tyOfD]; decide +kernel) (hQ _ _ (.pure re (.bl _))))
end
end Ev
end
section
set_option maxRecDepth 100000
set_option maxHeartbeats 1000000
namespace Ev
open PySem PySem.Spec L2

section
variable {Γ : Glob} {X : Cx} {P : Par} {U U' U1 O O' : Addr → Prop} {env env' env1 env2 env3 : Env} {σ σ' : St} {H H1 H2 H3 H' H'' : Hp} {a x y z : A} {as : List A} {v w u : V} {vs : List V} {d e : D} {ds : List D} {W : WX} {pos p1 p2 : Pos} {ea eb ec : Expr} {es : List Expr}

/-! ### built-in functions -/
theorem noStars_any : ∀ {es : List Expr} {env : PySem.Env}, (es.all notStar) = true → (starEach es env).any (·.1) = false
  | [], _, _ => rfl
  | e :: es, env, h => by
    rw [List.all_cons, Bool.and_eq_true] at h
    rw [starEach_cons h.1, List.any_cons, noStars_any h.2]
    rfl
theorem backTo_any {l : List (Bool × Sem Value)} : (backTo pos l).any (·.1) = l.any (·.1) := by
  unfold backTo
  induction l with
  | nil => rfl
  | cons a l ih => first | (simp only [List.map_cons, List.any_cons]; rw [ih]) | (rw [List.map_cons, List.any_cons, List.any_cons, ih]) | simp_all
theorem pl_of {es : List Expr} {env : PySem.Env} (h : (es.all notStar) = true) : (backTo pos (starEach es env)).any (·.1) = false := by
  rw [backTo_any]
  exact noStars_any h
theorem q_bi {f : Bi} {as : Es} (hs : QAs Γ X (ea :: es) (evAs P as)) (hK : X.K = Γ.K) (hc : f.hot = true → X.calm = true) (hty : f.ty = []) (hg : Gl X f.nm) (hm : X.mg f.nm = none) (hst : ((ea :: es).all notStar) = true) :
    QE Γ X (.Call (.Name f.nm p1) (ea :: es) [] pos) (evA P (.bi f as)) := fun xe W tk => by
  have hst' := hst
  rw [List.all_cons, Bool.and_eq_true] at hst'
  have hb := f.boot
  have n1 : f.nm ≠ "__name__" := by cases f <;> decide
  have n2 : (f.nm == ("__debug__" : Str)) = false := by cases f <;> decide
  have core : PE (X.wish xe) (.Call (.Name f.nm p1) (ea :: es) [] pos) (tCB (rBi X.K f) (tAs Γ (evAs P as) W)) := by
    cases q : f.fv with
    | builtin id =>
      rw [q] at hb
      exact pe_callB (X := X.wish xe) (by rw [← q]; exact callR_bi (X := X.wish xe) hc) hg hm hb (hs xe W tk) n1 n2 (starEach_cons hst'.1) (pl_of hst'.2)
    | type T =>
      rw [q] at hb
      exact pe_callTy (X := X.wish xe) (by rw [← q]; exact callR_bi (X := X.wish xe) hc) hg hm hb (hs xe W tk) n1 n2 (starEach_cons hst'.1) (pl_of hst'.2)
    | _ => cases f <;> cases q
  refine PE.imp core fun σ H Q ⟨U, env, r, h⟩ => ?_
  simp only [evA] at h
  refine (stepAs r (fun x e cls d H' p q => q cls d H' p) h).mono fun vs H1 ⟨as, env1, p, h⟩ => ?_
  split at h
  · rename_i ds hd
    split at h
    · rename_i r hr
      have z := biF_ok (Q := Q) hr (p.vws hd) p.re fun u H' p2 => h u H' (p.comp p2)
      rw [hty] at z
      rw [hK]
      simpa using z
    · exact h.elim
  · exact h.elim
/-- isinstance(e, T) -/
theorem q_isi {f : Bi} {a : E} {ty : String} {n : Str} (ha : QE Γ X ea (evA P a)) (hK : X.K = Γ.K) (hty : f.ty = [ty]) (hg : Gl X f.nm) (hm : X.mg f.nm = none) (hst : notStar ea = true)
    (hgt : Gl X n) (hmt : X.mg n = none) (hbt : bootBuiltins n = some (.type ty)) (hn : n ≠ "__name__") (hd : (n == ("__debug__" : Str)) = false) :
    QE Γ X (.Call (.Name f.nm p1) [ea, .Name n p2] [] pos) (evA P (.bi f (.cons a .nil))) := fun xe W tk => by
  have hfv : f.fv = .builtin "isinstance" ∧ f.nm = "isinstance" := by cases f <;> first | exact ⟨rfl, rfl⟩ | cases hty
  have core : PE (X.wish xe) (.Call (.Name f.nm p1) [ea, .Name n p2] [] pos) (tCB (rBi X.K f) (tCons (tE Γ (evA P a) W) (tCons (tC (.ty ty)) tNil))) := by
    refine pe_callB (X := X.wish xe) (id := "isinstance") (by rw [← hfv.1]; exact callR_bi (X := X.wish xe) (by cases f <;> first | (intro z; cases z; done) | cases hty)) hg hm (by rw [← hfv.1]; exact f.boot) ?_ (by rw [hfv.2]; decide) (by rw [hfv.2]; decide) (starEach_cons hst) (pl_of rfl)
    exact pa_cons (ha xe W tk) (pa_cons (pe_bltn hgt hmt hbt rfl hn hd) pa_nil) (starEach_cons hst)
  refine PE.imp core fun σ H Q ⟨U, env, r, h⟩ => ?_
  simp only [evA, evAs] at h
  rw [Wp.bind, Wp.bind] at h
  refine (stepE (k := fun a e => .ok a e) r (fun x e cls d H' p q => q cls d H' p) (Wp.bind.mpr h)).mono fun v H1 ⟨x, env1, p, h⟩ => ?_
  have h : Wp (match lookAll [x] env1 with | some ds => (match biF f ds with | some r => Out.ok r.a env1 | none => .stuck) | none => .stuck) _ _ := h
  split at h
  · rename_i ds hds
    split at h
    · rename_i r hr
      unfold lookAll at hds
      split at hds
      · rename_i d ds' h1 h2
        cases h2
        cases hds
        have z := biF_ok (Q := Q) (vs := [v]) hr ⟨p.vw h1, trivial⟩ p.re fun u H' p2 => h u H' (p.comp p2)
        rw [hty] at z
        show rBi X.K f [v, .ty ty] H1 Q
        rw [hK]
        exact z
      · cases hds
    · exact h.elim
  · exact h.elim

/-! ### slices, changes at a name -/
theorem cutV_eq (xs : List V) (lo hi : Option Int) : cutV xs lo hi = cutD xs lo hi := rfl
theorem Reps.cut (h : Reps Γ O H vs ds) (lo hi : Option Int) : Reps Γ O H (cutV vs lo hi) (cutD ds lo hi) := by
  unfold cutV cutD
  rw [h.length]
  exact (h.drop _).take _
theorem cut_whole {α : Type} (xs : List α) (lo hi : Option Int) (h : HT.sIx xs.length 0 lo = 0 ∧ HT.sIx xs.length xs.length hi = xs.length) : cutD xs lo hi = xs := by
  unfold cutD
  rw [h.1, h.2]
  simp
end
end Ev
end
section
set_option maxRecDepth 100000
set_option maxHeartbeats 1000000
namespace Ev
open PySem PySem.Spec L2

/-- a def's promise: what F says of it -/
def spF (Γ : Glob) (F : CF) (f : Nat) : Sp := fun vs H Q E => ∃ (ps : List Sl) (U : Addr → Prop), RE Γ U (ps.map some) (vs.map some) H ∧
  match F f ps with
  | .ret a outs => ∀ v H', Post Γ U (ps.map some) (vs.map some) H a outs v H' → Q v H'
  | .exn x outs => ∀ cls d H', XPost Γ U (ps.map some) (vs.map some) H x outs cls d H' → E cls d H'
  | .stuck => False

section
variable {Γ : Glob} {X : Cx} {P : Par} {U U' U1 O O' : Addr → Prop} {env env' env1 env2 env3 : Env} {σ σ' : St} {H H1 H2 H3 H' H'' : Hp} {a x y z r : A} {as as' : List A} {v w u : V} {vs : List V} {d e : D} {ds : List D} {W : WX} {pos p1 p2 : Pos} {ea eb ec : Expr} {es : List Expr} {ps : List Sl} {outs : Env} {i j k : Nat}

theorem RAs.get : ∀ {as : List A} {vs : List V} {U : Addr → Prop} {j : Nat} {a : A}, RAs Γ U O σ H as vs → as[j]? = some a → ∃ v, vs[j]? = some v ∧ RA Γ U O σ H a v
  | a :: as, v :: vs, U, 0, b, ⟨r, _⟩, e => by
    cases e
    exact ⟨v, rfl, r⟩
  | a :: as, v :: vs, U, j + 1, b, ⟨_, rs⟩, e => by
    obtain ⟨w, e1, q⟩ := RAs.get (j := j) rs (by simpa using e)
    exact ⟨w, by simpa using e1, q.less (fun _ z => z) fun _ z => .inl z⟩
  | [], [], _, _, _, _, e => by simp at e
  | [], _ :: _, _, _, _, r, _ => r.elim
  | _ :: _, [], _, _, _, r, _ => r.elim
theorem RAs.length : ∀ {as : List A} {vs : List V} {U : Addr → Prop}, RAs Γ U O σ H as vs → as.length = vs.length
  | [], [], _, _ => rfl
  | _ :: _, _ :: _, _, ⟨_, rs⟩ => by simp [RAs.length rs]
  | [], _ :: _, _, r => r.elim
  | _ :: _, [], _, r => r.elim
theorem isTmps_iff : ∀ {as : List A} {vs : List V} {b : Addr}, isTmps as vs b ↔ ∃ (j : Nat) (d : D), as[j]? = some (A.tmp d) ∧ vs[j]? = some (V.ref b)
  | [], _, b => ⟨fun z => z.elim, fun ⟨j, d, e, _⟩ => by simp at e⟩
  | _ :: _, [], b => ⟨fun z => z.elim, fun ⟨j, d, _, e⟩ => by simp at e⟩
  | a :: as, v :: vs, b => by
    constructor
    · intro z
      rcases z with z | z
      · cases a with
        | tmp d =>
          cases v with
          | ref p => exact ⟨0, d, rfl, by rw [show b = p from z]; rfl⟩
          | _ => exact z.elim
        | _ => cases v <;> exact z.elim
      · obtain ⟨j, d, e1, e2⟩ := isTmps_iff.mp z
        exact ⟨j + 1, d, by simpa using e1, by simpa using e2⟩
    · rintro ⟨j, d, e1, e2⟩
      cases j with
      | zero =>
        have e1 : some a = some (.tmp d) := by simpa using e1
        have e2 : some v = some (.ref b) := by simpa using e2
        cases e1
        cases e2
        exact .inl rfl
      | succ j => exact .inr (isTmps_iff.mpr ⟨j, d, by simpa using e1, by simpa using e2⟩)
theorem RAs.tmpN : ∀ {as : List A} {vs : List V} {U : Addr → Prop} {b : Addr}, RAs Γ U O σ H as vs → isTmps as vs b → ¬ U b
  | a :: as, v :: vs, U, b, ⟨r, rs⟩, z => by
    rcases z with z | z
    · cases a with
      | tmp d =>
        obtain ⟨p, rfl, n, _⟩ := r
        rw [show b = p from z]
        exact n
      | _ => cases v <;> exact z.elim
    · exact fun y => RAs.tmpN rs z (.inl y)
  | [], _, _, _, _, z => z.elim
  | _ :: _, [], _, _, r, _ => r.elim
theorem RAs.dist : ∀ {as : List A} {vs : List V} {U : Addr → Prop} {j k : Nat} {d e : D} {b : Addr}, RAs Γ U O σ H as vs → as[j]? = some (.tmp d) → as[k]? = some (.tmp e) → vs[j]? = some (.ref b) → vs[k]? = some (.ref b) → j = k
  | a :: as, v :: vs, U, 0, 0, _, _, _, _, _, _, _, _ => rfl
  | a :: as, v :: vs, U, j + 1, k + 1, d, e, b, ⟨_, rs⟩, h1, h2, h3, h4 => congrArg (· + 1) (RAs.dist rs (by simpa using h1) (by simpa using h2) (by simpa using h3) (by simpa using h4))
  | a :: as, v :: vs, U, 0, k + 1, d, e, b, ⟨_, rs⟩, h1, h2, h3, h4 => by
    have h1 : some a = some (.tmp d) := by simpa using h1
    have h3 : some v = some (.ref b) := by simpa using h3
    cases h1
    cases h3
    exact (RAs.tmpN rs (isTmps_iff.mpr ⟨k, e, by simpa using h2, by simpa using h4⟩) (.inr rfl)).elim
  | a :: as, v :: vs, U, j + 1, 0, d, e, b, ⟨_, rs⟩, h1, h2, h3, h4 => by
    have g1 : some a = some (.tmp e) := by simpa using h2
    have g3 : some v = some (.ref b) := by simpa using h4
    cases g1
    cases g3
    exact (RAs.tmpN rs (isTmps_iff.mpr ⟨j, d, by simpa using h1, by simpa using h3⟩) (.inr rfl)).elim
  | [], _, _, _, _, _, _, _, _, h, _, _, _ => by simp at h
  | _ :: _, [], _, _, _, _, _, _, r, _, _, _, _ => r.elim

theorem freezeAll_ok : ∀ {as : List A} {ls : List Bool} {vs : List V} {U : Addr → Prop} {env1 : Env} {as' : List A} {env2 : Env}, RE Γ (UAs U as vs) env1 σ H1 → RAs Γ U (fun b => UAs U as vs b ∨ Own env1 σ b) σ H1 as vs →
    freezeAll as ls env1 = .ok as' env2 → RE Γ (UAs U as' vs) env2 σ H1 ∧ RAs Γ U (fun b => UAs U as' vs b ∨ Own env2 σ b) σ H1 as' vs ∧ (∀ b, Own env2 σ b → Own env1 σ b) ∧ ∀ b, isTmps as' vs b → isTmps as vs b
  | [], ls, [], U, env1, as', env2, re, ra, h => by
    cases ls <;> (unfold freezeAll at h; cases h; exact ⟨re, ra, fun _ z => z, fun _ z => z⟩)
  | [], ls, _ :: _, _, _, _, _, _, ra, _ => ra.elim
  | _ :: _, ls, [], _, _, _, _, _, ra, _ => ra.elim
  | a :: as, ls, v :: vs, U, env1, as', env2, re, ⟨r, rs⟩, h => by
    have go : ∀ {ls : List Bool}, (a.freeze env1).bind (fun d env' => (freezeAll as ls env').bind fun r env'' => .ok (.val d :: r) env'') = .ok as' env2 →
        RE Γ (UAs U as' (v :: vs)) env2 σ H1 ∧ RAs Γ U (fun b => UAs U as' (v :: vs) b ∨ Own env2 σ b) σ H1 as' (v :: vs) ∧ (∀ b, Own env2 σ b → Own env1 σ b) ∧ ∀ b, isTmps as' (v :: vs) b → isTmps (a :: as) (v :: vs) b := by
      intro ls h
      cases q : a.freeze env1 with
      | exn x e => rw [q] at h; cases h
      | stuck => rw [q] at h; cases h
      | ok d env3 =>
        rw [q] at h
        have h : (freezeAll as ls env3).bind (fun r env'' => Out.ok (.val d :: r) env'') = .ok as' env2 := h
        have re2 : RE Γ (UA (UAs U as vs) a v) env1 σ H1 := re.less fun b z => z.elim (fun y => y.elim .inl fun k => .inr (.inr k)) fun y => .inr (.inl y)
        have ra2 : RA Γ (UAs U as vs) (fun b => UA (UAs U as vs) a v b ∨ Own env1 σ b) σ H1 a v := by
          have sub : ∀ b, UA (UAs U as vs) a v b ∨ Own env1 σ b → UAs U (a :: as) (v :: vs) b ∨ Own env1 σ b := fun b z => z.imp (fun y => y.elim (fun k => k.elim .inl fun k => .inr (.inr k)) fun k => .inr (.inl k)) id
          cases a with
          | val d => exact Rep.less sub r
          | own i => exact r
          | tmp d =>
            obtain ⟨p, rfl, n, b⟩ := r
            refine ⟨p, rfl, fun z => z.elim n fun y => RAs.tmpN rs y (.inr rfl), b.less sub⟩
        obtain ⟨f1, f2, f3⟩ := frozen_core re2 ra2 q
        have rs2 : RAs Γ U (fun b => UAs U as vs b ∨ Own env3 σ b) σ H1 as vs := rs.less (fun b z => z.imp (fun y => y.elim .inl fun k => .inr (.inr k)) (f3 b)) fun b z => .inl z
        cases q2 : freezeAll as ls env3 with
        | exn x e => rw [q2] at h; cases h
        | stuck => rw [q2] at h; cases h
        | ok as2 env4 =>
          rw [q2] at h
          cases h
          obtain ⟨g1, g2, g3, g4⟩ := freezeAll_ok f1 rs2 q2
          have eqU : ∀ b, UAs U (.val d :: as2) (v :: vs) b → UAs U as2 vs b := fun b z => z.elim .inl fun y => y.elim (fun k => by cases v <;> exact k.elim) .inr
          have s : ∀ b, (UAs U (.val d :: as2) (v :: vs) b ∨ Own env2 σ b) → UAs U as vs b ∨ Own env3 σ b := fun b z => z.imp (fun y => (eqU b y).imp id (g4 b)) (g3 b)
          exact ⟨g1.less eqU, ⟨Rep.less s f2, g2.less (fun b z => z.imp (eqU b) id) fun b z => UA_val z⟩, fun b z => f3 b (g3 b z), fun b z => z.elim (fun k => by cases v <;> exact k.elim) fun k => .inr (g4 b k)⟩
    cases ls with
    | nil => exact go (ls := []) h
    | cons l ls =>
      cases l with
      | false => exact go (ls := []) h
      | true =>
        unfold freezeAll at h
        have assoc : ∀ {as : List A} b, UAs (UA U a v) as vs b → UAs U (a :: as) (v :: vs) b := fun b z => z.elim (fun y => y.elim .inl fun k => .inr (.inl k)) fun y => .inr (.inr y)
        have assoc2 : ∀ {as : List A} b, UAs U (a :: as) (v :: vs) b → UAs (UA U a v) as vs b := fun b z => z.elim (fun y => .inl (.inl y)) fun y => y.elim (fun k => .inl (.inr k)) .inr
        cases q2 : freezeAll as ls env1 with
        | exn x e => rw [q2] at h; cases h
        | stuck => rw [q2] at h; cases h
        | ok as2 env4 =>
          rw [q2] at h
          cases h
          obtain ⟨g1, g2, g3, g4⟩ := freezeAll_ok (re.less assoc) (rs.less (fun b z => z.imp (assoc b) id) fun _ z => z) q2
          refine ⟨g1.less assoc2, ⟨r.less (fun b z => ?_) fun _ z => z, g2.less (fun b z => z.imp (assoc2 b) id) fun _ z => z⟩, g3, fun b z => z.imp id (g4 b)⟩
          exact z.imp (fun y => y.imp id fun k => k.imp id (g4 b)) (g3 b)

/-! ### parameters -/
/-- the slot that a thing in hand hands on -/
def slotOf (a : A) (env : Env) : Option Sl :=
  match a with
  | .val d => some (.val d)
  | .tmp d => some (.own d)
  | .own i => match env[i]? with
    | some (some s) => some s
    | _ => none
theorem paramsOf_cons {a : A} {as : List A} {env : Env} {ps : List Sl} (h : paramsOf (a :: as) env = some ps) : ∃ s r, ps = s :: r ∧ slotOf a env = some s ∧ paramsOf as env = some r := by
  unfold paramsOf at h
  unfold slotOf
  cases a <;> dsimp only at h ⊢
  all_goals
    split at h
    · rename_i s r h1 h2
      cases h
      exact ⟨s, r, rfl, h1, h2⟩
    · cases h
theorem paramsOf_get : ∀ {as : List A} {ps : List Sl} {j : Nat} {a : A}, paramsOf as env = some ps → as[j]? = some a → ∃ s, ps[j]? = some s ∧ slotOf a env = some s
  | a :: as, ps, 0, b, h, e => by
    cases e
    obtain ⟨s, r, rfl, h1, _⟩ := paramsOf_cons h
    exact ⟨s, rfl, h1⟩
  | a :: as, ps, j + 1, b, h, e => by
    obtain ⟨s, r, rfl, _, h2⟩ := paramsOf_cons h
    obtain ⟨t, e1, e2⟩ := paramsOf_get (j := j) h2 (by simpa using e)
    exact ⟨t, by simpa using e1, e2⟩
  | [], _, _, _, _, e => by simp at e
theorem paramsOf_len : ∀ {as : List A} {ps : List Sl}, paramsOf as env = some ps → ps.length = as.length
  | [], ps, h => by
    unfold paramsOf at h
    cases h
    rfl
  | a :: as, ps, h => by
    obtain ⟨s, r, rfl, _, h2⟩ := paramsOf_cons h
    simp [paramsOf_len h2]
theorem slot_own (h : slotOf a env = some (.own d)) : a = .tmp d ∨ ∃ i, a = .own i ∧ env[i]? = some (some (.own d)) := by
  unfold slotOf at h
  cases a with
  | val e => cases h
  | tmp e => cases h; exact .inl rfl
  | own i =>
    dsimp only at h
    split at h
    · rename_i s hs
      cases h
      exact .inr ⟨i, rfl, hs⟩
    · cases h
theorem slot_val (h : slotOf a env = some (.val d)) : a = .val d ∨ ∃ i, a = .own i ∧ env[i]? = some (some (.val d)) := by
  unfold slotOf at h
  cases a with
  | val e => cases h; exact .inl rfl
  | tmp e => cases h
  | own i =>
    dsimp only at h
    split at h
    · rename_i s hs
      cases h
      exact .inr ⟨i, rfl, hs⟩
    · cases h
theorem lentOf_mem : ∀ {as : List A} {i : Nat}, i ∈ lentOf as ↔ ∃ j : Nat, as[j]? = some (.own i)
  | [], i => by simp [lentOf]
  | a :: as, i => by
    have ih := lentOf_mem (as := as) (i := i)
    constructor
    · intro h
      cases a with
      | own k =>
        unfold lentOf at h
        rcases List.mem_cons.mp h with rfl | h
        · exact ⟨0, rfl⟩
        · obtain ⟨j, e⟩ := ih.mp h
          exact ⟨j + 1, by simpa using e⟩
      | val d => obtain ⟨j, e⟩ := ih.mp h; exact ⟨j + 1, by simpa using e⟩
      | tmp d => obtain ⟨j, e⟩ := ih.mp h; exact ⟨j + 1, by simpa using e⟩
    · rintro ⟨j, e⟩
      cases j with
      | zero =>
        have e : some a = some (A.own i) := by simpa using e
        cases e
        exact List.mem_cons_self
      | succ j =>
        have h := ih.mpr ⟨j, by simpa using e⟩
        cases a with
        | own k => exact List.mem_cons_of_mem _ h
        | val d => exact h
        | tmp d => exact h
theorem lentOf_inj : ∀ {as : List A} {i j k : Nat}, (lentOf as).Nodup → as[j]? = some (.own i) → as[k]? = some (.own i) → j = k
  | a :: as, i, 0, 0, _, _, _ => rfl
  | a :: as, i, j + 1, k + 1, h, h1, h2 => congrArg (· + 1) (lentOf_inj (as := as) (by
      cases a with
      | own l => exact (List.nodup_cons.mp h).2
      | val d => exact h
      | tmp d => exact h) (by simpa using h1) (by simpa using h2))
  | a :: as, i, 0, k + 1, h, h1, h2 => by
    have h1 : some a = some (A.own i) := by simpa using h1
    cases h1
    exact ((List.nodup_cons.mp h).1 (lentOf_mem.mpr ⟨k, by simpa using h2⟩)).elim
  | a :: as, i, j + 1, 0, h, h1, h2 => by
    have h2 : some a = some (A.own i) := by simpa using h2
    cases h2
    exact ((List.nodup_cons.mp h).1 (lentOf_mem.mpr ⟨j, by simpa using h1⟩)).elim
theorem back_len : ∀ {as : List A} {outs env : Env}, (backOuts as outs env).length = env.length
  | [], outs, env => by cases outs <;> rfl
  | a :: as, [], env => by cases a <;> rfl
  | .own i :: as, o :: os, env => by unfold backOuts; rw [back_len, List.length_set]
  | .val d :: as, o :: os, env => by unfold backOuts; exact back_len
  | .tmp d :: as, o :: os, env => by unfold backOuts; exact back_len
theorem back_out : ∀ {as : List A} {outs env : Env} {i : Nat}, (∀ j : Nat, as[j]? ≠ some (.own i)) → (backOuts as outs env)[i]? = env[i]?
  | [], outs, env, i, _ => by cases outs <;> rfl
  | a :: as, [], env, i, _ => by cases a <;> rfl
  | .own k :: as, o :: os, env, i, h => by
    unfold backOuts
    rw [back_out fun j e => h (j + 1) (by simpa using e), List.getElem?_set_ne (fun z => h 0 (by rw [z]; rfl))]
  | .val d :: as, o :: os, env, i, h => by unfold backOuts; exact back_out fun j e => h (j + 1) (by simpa using e)
  | .tmp d :: as, o :: os, env, i, h => by unfold backOuts; exact back_out fun j e => h (j + 1) (by simpa using e)
theorem back_in : ∀ {as : List A} {outs env : Env} {i j : Nat} {o : Option Sl}, (lentOf as).Nodup → as[j]? = some (.own i) → outs[j]? = some o → i < env.length → (backOuts as outs env)[i]? = some o
  | .own k :: as, p :: os, env, i, 0, o, h, h1, h2, h3 => by
    have h1 : some (A.own k) = some (A.own i) := by simpa using h1
    cases h1
    have h2 : some p = some o := by simpa using h2
    cases h2
    unfold backOuts
    rw [back_out fun j e => (List.nodup_cons.mp h).1 (lentOf_mem.mpr ⟨j, e⟩), List.getElem?_set_self h3]
  | .own k :: as, p :: os, env, i, j + 1, o, h, h1, h2, h3 => by
    unfold backOuts
    exact back_in (List.nodup_cons.mp h).2 (by simpa using h1) (by simpa using h2) (by rw [List.length_set]; exact h3)
  | .val d :: as, p :: os, env, i, j + 1, o, h, h1, h2, h3 => by unfold backOuts; exact back_in h (by simpa using h1) (by simpa using h2) h3
  | .tmp d :: as, p :: os, env, i, j + 1, o, h, h1, h2, h3 => by unfold backOuts; exact back_in h (by simpa using h1) (by simpa using h2) h3
  | .val d :: as, p :: os, env, i, 0, o, h, h1, h2, h3 => by simp at h1
  | .tmp d :: as, p :: os, env, i, 0, o, h, h1, h2, h3 => by simp at h1
  | a :: as, [], env, i, j, o, h, h1, h2, h3 => by simp at h2
  | [], _, _, _, _, _, _, h1, _, _ => by simp at h1

theorem mapsome_get {α : Type} {l : List α} {j : Nat} {x : α} : (l.map some)[j]? = some (some x) ↔ l[j]? = some x := by
  rw [List.getElem?_map]
  cases l[j]? <;> simp

/-- what a callee may not touch -/
def UC (U : Addr → Prop) (as : List A) (vs : List V) (env : Env) (σ : St) (ps : List Sl) (b : Addr) : Prop := (UAs U as vs b ∨ Own env σ b) ∧ ¬ Own (ps.map some) (vs.map some) b
/-- whence a parameter's owned thing comes -/
theorem own_from (re : RE Γ (UAs U as vs) env2 σ H1) (ra : RAs Γ U O σ H1 as vs) (hp : paramsOf as env2 = some ps) {b : Addr} (h : Own (ps.map some) (vs.map some) b) :
    (∃ (j : Nat) (d : D), as[j]? = some (.tmp d) ∧ vs[j]? = some (.ref b) ∧ ps[j]? = some (.own d)) ∨
    ∃ (j i : Nat) (d : D), as[j]? = some (.own i) ∧ vs[j]? = some (.ref b) ∧ ps[j]? = some (.own d) ∧ env2[i]? = some (some (.own d)) ∧ σ[i]? = some (some (.ref b)) := by
  obtain ⟨j, d, e1, e2⟩ := h
  have e1 := mapsome_get.mp e1
  have e2 := mapsome_get.mp e2
  have hl := paramsOf_len hp
  obtain ⟨a, ha⟩ : ∃ a, as[j]? = some a := ⟨as[j]'(by rw [← hl]; exact (List.getElem?_eq_some_iff.mp e1).1), by simp⟩
  obtain ⟨s, q1, q2⟩ := paramsOf_get hp ha
  rw [e1] at q1
  cases q1
  rcases slot_own q2 with rfl | ⟨i, rfl, z⟩
  · exact .inl ⟨j, d, ha, e2, e1⟩
  · obtain ⟨w, w1, w2⟩ := ra.get ha
    rw [e2] at w1
    cases w1
    exact .inr ⟨j, i, d, ha, e2, e1, z, w2⟩
theorem own_sub (re : RE Γ (UAs U as vs) env2 σ H1) (ra : RAs Γ U O σ H1 as vs) (hp : paramsOf as env2 = some ps) {b : Addr} (h : Own (ps.map some) (vs.map some) b) : UAs U as vs b ∨ Own env2 σ b := by
  rcases own_from re ra hp h with ⟨j, d, e1, e2, _⟩ | ⟨j, i, d, _, _, _, e3, e4⟩
  · exact .inl (.inr (isTmps_iff.mpr ⟨j, d, e1, e2⟩))
  · exact .inr ⟨i, d, e3, e4⟩
theorem own_nU (re : RE Γ (UAs U as vs) env2 σ H1) (ra : RAs Γ U O σ H1 as vs) (hp : paramsOf as env2 = some ps) {b : Addr} (h : Own (ps.map some) (vs.map some) b) : ¬ U b := by
  rcases own_from re ra hp h with ⟨j, d, e1, e2, _⟩ | ⟨j, i, d, _, _, _, e3, e4⟩
  · exact RAs.tmpN ra (isTmps_iff.mpr ⟨j, d, e1, e2⟩)
  · obtain ⟨a, q1, q2, _⟩ := re.own i d e3
    rw [e4] at q1
    cases q1
    exact fun z => q2 (.inl z)
theorem params_RE (re : RE Γ (UAs U as vs) env2 σ H1) (ra : RAs Γ U (fun b => UAs U as vs b ∨ Own env2 σ b) σ H1 as vs) (hp : paramsOf as env2 = some ps) (nd : (lentOf as).Nodup) :
    RE Γ (UC U as vs env2 σ ps) (ps.map some) (vs.map some) H1 := by
  have hl := paramsOf_len hp
  have hv := ra.length
  have less : ∀ b, UC U as vs env2 σ ps b ∨ Own (ps.map some) (vs.map some) b → UAs U as vs b ∨ Own env2 σ b := fun b z => z.elim (fun y => y.1) (own_sub re ra hp)
  have at_ : ∀ {j : Nat} {s : Sl}, ps[j]? = some s → ∃ a v, as[j]? = some a ∧ vs[j]? = some v ∧ slotOf a env2 = some s ∧ RA Γ U (fun b => UAs U as vs b ∨ Own env2 σ b) σ H1 a v := fun {j s} e => by
    obtain ⟨a, ha⟩ : ∃ a, as[j]? = some a := ⟨as[j]'(by rw [← hl]; exact (List.getElem?_eq_some_iff.mp e).1), by simp⟩
    obtain ⟨s', q1, q2⟩ := paramsOf_get hp ha
    rw [e] at q1
    cases q1
    obtain ⟨v, w1, w2⟩ := ra.get ha
    exact ⟨a, v, ha, w1, q2, w2⟩
  refine ⟨by rw [List.length_map, List.length_map, hl, hv], fun j d e => ?_, fun j d e => ?_, fun j k b d e h1 h2 h3 h4 => ?_, re.tabs, fun b z => ?_⟩
  · obtain ⟨a, v, e1, e2, e3, e4⟩ := at_ (mapsome_get.mp e)
    refine ⟨v, mapsome_get.mpr e2, ?_⟩
    rcases slot_val e3 with rfl | ⟨i, rfl, z⟩
    · exact Rep.less less e4
    · obtain ⟨v', z1, z2⟩ := re.val i d z
      rw [show σ[i]? = some (some v) from e4] at z1
      cases z1
      exact z2.less less
  · obtain ⟨a, v, e1, e2, e3, e4⟩ := at_ (mapsome_get.mp e)
    rcases slot_own e3 with rfl | ⟨i, rfl, z⟩
    · obtain ⟨p, rfl, n, b⟩ := e4
      exact ⟨p, mapsome_get.mpr e2, fun z => z.2 ⟨j, d, e, mapsome_get.mpr e2⟩, b.less less⟩
    · obtain ⟨p, z1, z2, z3⟩ := re.own i d z
      rw [show σ[i]? = some (some v) from e4] at z1
      cases z1
      exact ⟨p, mapsome_get.mpr e2, fun z => z.2 ⟨j, d, e, mapsome_get.mpr e2⟩, z3.less less⟩
  · obtain ⟨a, v, a1, a2, a3, a4⟩ := at_ (mapsome_get.mp h1)
    obtain ⟨c, w, c1, c2, c3, c4⟩ := at_ (mapsome_get.mp h2)
    have h3 := mapsome_get.mp h3
    have h4 := mapsome_get.mp h4
    rw [h3] at a2
    cases a2
    rw [h4] at c2
    cases c2
    have apart : ∀ {j i : Nat} {d e : D}, as[j]? = some (.tmp d) → vs[j]? = some (.ref b) → env2[i]? = some (some (.own e)) → σ[i]? = some (some (.ref b)) → False := fun {j i d e} z1 z2 z3 z4 => by
      obtain ⟨q, q1, q2, _⟩ := re.own i e z3
      rw [z4] at q1
      cases q1
      exact q2 (.inr (isTmps_iff.mpr ⟨j, d, z1, z2⟩))
    rcases slot_own a3 with rfl | ⟨i, rfl, z⟩
    · rcases slot_own c3 with rfl | ⟨i', rfl, z'⟩
      · exact ra.dist a1 c1 h3 h4
      · exact (apart a1 h3 z' c4).elim
    · rcases slot_own c3 with rfl | ⟨i', rfl, z'⟩
      · exact (apart c1 h4 z a4).elim
      · have := re.sep i i' b d e z z' a4 c4
        subst this
        exact lentOf_inj nd a1 c1
  · rcases z.1 with y | ⟨i, d, y1, y2⟩
    · exact re.uth b y
    · obtain ⟨q, q1, _, q3⟩ := re.own i d y1
      rw [y2] at q1
      cases q1
      exact Body_some q3

/-- behind the call: what the slots hold -/
theorem back_RE (re : RE Γ (UAs U as vs) env2 σ H1) (ra : RAs Γ U (fun b => UAs U as vs b ∨ Own env2 σ b) σ H1 as vs) (hp : paramsOf as env2 = some ps) (nd : (lentOf as).Nodup)
    (ro : RE Γ (UA (UC U as vs env2 σ ps) r v) outs (vs.map some) H') (st : Stp (Own (ps.map some) (vs.map some)) H1 (fun b => Own outs (vs.map some) b ∨ isTmp r v b) H') :
    RE Γ (UA U r v) (backOuts as outs env2) σ H' ∧ (∀ b, UA U r v b ∨ Own (backOuts as outs env2) σ b → UA (UC U as vs env2 σ ps) r v b ∨ Own outs (vs.map some) b) ∧
      ∀ b, Own (backOuts as outs env2) σ b → Own outs (vs.map some) b ∨ Own env2 σ b := by
  have hl := paramsOf_len hp
  have hv := ra.length
  have hol : outs.length = as.length := by rw [ro.len, List.length_map, hv]
  have UtoC : ∀ b, U b → UC U as vs env2 σ ps b := fun b z => ⟨.inl (.inl z), fun y => own_nU re ra hp y z⟩
  -- a slot that is lent
  have lent : ∀ {i j : Nat} {s : Option Sl}, as[j]? = some (.own i) → (backOuts as outs env2)[i]? = some s → outs[j]? = some s ∧ ∃ w, vs[j]? = some w ∧ σ[i]? = some (some w) := fun {i j s} e1 e2 => by
    obtain ⟨w, w1, w2⟩ := ra.get e1
    have hj : j < outs.length := by rw [hol]; exact (List.getElem?_eq_some_iff.mp e1).1
    have hi : i < env2.length := by
      have := (List.getElem?_eq_some_iff.mp e2).1
      rwa [back_len] at this
    have := back_in (outs := outs) (env := env2) nd e1 (List.getElem?_eq_getElem hj) hi
    rw [e2] at this
    cases this
    exact ⟨List.getElem?_eq_getElem hj, w, w1, w2⟩
  -- a slot that is not
  have unlent : ∀ {i : Nat} {b : Addr} {d : D}, (∀ j : Nat, as[j]? ≠ some (.own i)) → env2[i]? = some (some (.own d)) → σ[i]? = some (some (.ref b)) → ¬ Own (ps.map some) (vs.map some) b := fun {i b d} h1 h2 h3 h4 => by
    obtain ⟨q, q1, q2, _⟩ := re.own i d h2
    rw [h3] at q1
    cases q1
    rcases own_from re ra hp h4 with ⟨j, d', e1, e2, _⟩ | ⟨j, i', d', e1, _, _, e3, e4⟩
    · exact q2 (.inr (isTmps_iff.mpr ⟨j, d', e1, e2⟩))
    · have := re.sep i i' b d d' h2 e3 h3 e4
      subst this
      exact h1 j e1
  have ownB : ∀ b, Own (backOuts as outs env2) σ b → Own outs (vs.map some) b ∨ (Own env2 σ b ∧ ¬ Own (ps.map some) (vs.map some) b) := fun b ⟨i, d, e1, e2⟩ => by
    by_cases h : ∃ j : Nat, as[j]? = some (.own i)
    · obtain ⟨j, hj⟩ := h
      obtain ⟨h1, w, h2, h3⟩ := lent hj e1
      rw [e2] at h3
      cases h3
      exact .inl ⟨j, d, h1, mapsome_get.mpr h2⟩
    · have h' : ∀ j : Nat, as[j]? ≠ some (.own i) := fun j z => h ⟨j, z⟩
      rw [back_out h'] at e1
      exact .inr ⟨⟨i, d, e1, e2⟩, unlent h' e1 e2⟩
  have sub : ∀ b, UA U r v b ∨ Own (backOuts as outs env2) σ b → UA (UC U as vs env2 σ ps) r v b ∨ Own outs (vs.map some) b := fun b z => by
    rcases z with (z | z) | z
    · exact .inl (.inl (UtoC b z))
    · exact .inl (.inr z)
    · rcases ownB b z with y | ⟨y1, y2⟩
      · exact .inr y
      · exact .inl (.inl ⟨.inr y1, y2⟩)
  have stO : Stp (fun b => UAs U as vs b ∨ Own env2 σ b) H1 (fun b => UA U r v b ∨ Own (backOuts as outs env2) σ b) H' := st.mono (fun b z => own_sub re ra hp z) fun b z => by
    rcases z with (z | z) | z
    · exact .inr (.inl (.inl (.inl z)))
    · exact .inl (.inr z)
    · rcases ownB b z with y | ⟨y1, y2⟩
      · exact .inl (.inl y)
      · exact .inr (.inl (.inr y1))
  refine ⟨⟨by rw [back_len]; exact re.len, fun i d e => ?_, fun i d e => ?_, fun i k b d e h1 h2 h3 h4 => ?_, ro.tabs, fun b z => ?_⟩, sub, fun b z => (ownB b z).imp id fun y => y.1⟩
  · by_cases h : ∃ j : Nat, as[j]? = some (.own i)
    · obtain ⟨j, hj⟩ := h
      obtain ⟨h1, w, h2, h3⟩ := lent hj e
      obtain ⟨w', z1, z2⟩ := ro.val j d h1
      rw [mapsome_get.mpr h2] at z1
      cases z1
      exact ⟨w, h3, z2.less sub⟩
    · have h' : ∀ j : Nat, as[j]? ≠ some (.own i) := fun j z => h ⟨j, z⟩
      rw [back_out h'] at e
      obtain ⟨w, z1, z2⟩ := re.val i d e
      exact ⟨w, z1, z2.stp stO⟩
  · by_cases h : ∃ j : Nat, as[j]? = some (.own i)
    · obtain ⟨j, hj⟩ := h
      obtain ⟨h1, w, h2, h3⟩ := lent hj e
      obtain ⟨p, z1, z2, z3⟩ := ro.own j d h1
      rw [mapsome_get.mpr h2] at z1
      cases z1
      refine ⟨p, h3, fun y => z2 ?_, z3.less sub⟩
      exact y.imp (UtoC p) id
    · have h' : ∀ j : Nat, as[j]? ≠ some (.own i) := fun j z => h ⟨j, z⟩
      rw [back_out h'] at e
      obtain ⟨p, z1, z2, z3⟩ := re.own i d e
      have np := unlent h' e z1
      obtain ⟨o, ho⟩ := Body_some z3
      refine ⟨p, z1, fun y => ?_, z3.stp stO fun o m hv => st.mu hv m np⟩
      rcases y with y | y
      · exact z2 (.inl y)
      · exact st.nin ho np (.inr y)
  · have key : ∀ {i k j : Nat} {b : Addr} {d e : D}, as[j]? = some (.own i) → (∀ j : Nat, as[j]? ≠ some (.own k)) → (backOuts as outs env2)[i]? = some (some (.own d)) → (backOuts as outs env2)[k]? = some (some (.own e)) →
        σ[i]? = some (some (.ref b)) → σ[k]? = some (some (.ref b)) → False := fun {i k j b d e} hj hk g1 g2 g3 g4 => by
      obtain ⟨q1, w, q2, q3⟩ := lent hj g1
      rw [g3] at q3
      cases q3
      rw [back_out hk] at g2
      have np := unlent hk g2 g4
      obtain ⟨p, z1, _, z3⟩ := re.own k e g2
      rw [g4] at z1
      cases z1
      obtain ⟨o, ho⟩ := Body_some z3
      exact st.nin ho np (.inl ⟨j, d, q1, mapsome_get.mpr q2⟩)
    by_cases hi : ∃ j : Nat, as[j]? = some (.own i)
    · obtain ⟨j, hj⟩ := hi
      by_cases hk : ∃ j : Nat, as[j]? = some (.own k)
      · obtain ⟨j', hj'⟩ := hk
        obtain ⟨q1, w, q2, q3⟩ := lent hj h1
        obtain ⟨q1', w', q2', q3'⟩ := lent hj' h2
        rw [h3] at q3
        cases q3
        rw [h4] at q3'
        cases q3'
        have := ro.sep j j' b d e q1 q1' (mapsome_get.mpr q2) (mapsome_get.mpr q2')
        subst this
        rw [hj] at hj'
        cases hj'
        rfl
      · exact (key hj (fun j z => hk ⟨j, z⟩) h1 h2 h3 h4).elim
    · have hi' : ∀ j : Nat, as[j]? ≠ some (.own i) := fun j z => hi ⟨j, z⟩
      by_cases hk : ∃ j : Nat, as[j]? = some (.own k)
      · obtain ⟨j', hj'⟩ := hk
        exact (key hj' hi' h2 h1 h4 h3).elim
      · have hk' : ∀ j : Nat, as[j]? ≠ some (.own k) := fun j z => hk ⟨j, z⟩
        rw [back_out hi'] at h1
        rw [back_out hk'] at h2
        exact re.sep i k b d e h1 h2 h3 h4
  · rcases z with z | z
    · obtain ⟨o, e⟩ := re.uth b (.inl z)
      exact st.there b o e
    · exact ro.uth b (.inr z)
end
end Ev
end
section
set_option maxRecDepth 100000
set_option maxHeartbeats 1000000
namespace Ev
open PySem PySem.Spec L2
section
variable {Γ : Glob} {X : Cx} {P : Par} {U U' U1 O O' : Addr → Prop} {env env' env1 env2 env3 : Env} {σ σ' : St} {H H1 H2 H3 H' H'' : Hp} {a x y z r : A} {as as' : List A} {v w u : V} {vs : List V} {d e : D} {ds : List D} {W : WX} {pos p1 p2 : Pos} {ea eb ec : Expr} {es : List Expr} {ps : List Sl} {outs : Env} {i j k : Nat}

theorem callM_ok {F : CF} {f : Nat} {ls : List Bool} {Q : VK} {E : XK} (p : PostAs Γ U env σ H as env1 vs H1)
    (h : Wp (callM F f ls as env1) (fun a env' => ∀ v H', Post Γ U env σ H a env' v H' → Q v H') fun x env' => ∀ cls d H', XPost Γ U env σ H x env' cls d H' → E cls d H') : spF Γ F f vs H1 Q E := by
  unfold callM at h
  rw [Wp.bind] at h
  cases q : freezeAll as ls env1 with
  | exn x e =>
    have : ∀ (as : List A) (ls : List Bool) (env1 : Env) x e, freezeAll as ls env1 ≠ .exn x e := by
      intro as
      have fz : ∀ (a : A) (env : Env) x e, a.freeze env ≠ .exn x e := by
        intro a env x e h
        cases a <;> simp only [A.freeze] at h <;> first | cases h | (split at h <;> cases h)
      induction as with
      | nil => intro ls env1 x e h; cases ls <;> (unfold freezeAll at h; cases h)
      | cons a as ih =>
        have go : ∀ ls env1 x e, (a.freeze env1).bind (fun d env' => (freezeAll as ls env').bind fun r env'' => .ok (A.val d :: r) env'') ≠ .exn x e := by
          intro ls env1 x e h
          cases q : a.freeze env1 with
          | exn x' e' => exact fz _ _ _ _ q
          | stuck => rw [q] at h; cases h
          | ok d env' =>
            rw [q] at h
            have h : (freezeAll as ls env').bind (fun r env'' => Out.ok (A.val d :: r) env'') = .exn x e := h
            cases q2 : freezeAll as ls env' with
            | exn x' e' => exact ih _ _ _ _ q2
            | stuck => rw [q2] at h; cases h
            | ok r env'' => rw [q2] at h; cases h
        intro ls env1 x e h
        cases ls with
        | nil => exact go [] _ _ _ h
        | cons l ls =>
          cases l with
          | false => exact go [] _ _ _ h
          | true =>
            unfold freezeAll at h
            cases q2 : freezeAll as ls env1 with
            | exn x' e' => exact ih _ _ _ _ q2
            | stuck => rw [q2] at h; cases h
            | ok r env'' => rw [q2] at h; cases h
    exact (this _ _ _ _ _ q).elim
  | stuck => rw [q] at h; exact h.elim
  | ok as' env2 =>
    rw [q] at h
    obtain ⟨re, ra, s1, s2⟩ := freezeAll_ok p.re p.ra q
    have st : Stp (Own env σ) H (fun b => Own env2 σ b ∨ isTmps as' vs b) H1 := p.st.shr fun b z => z.imp (s1 b) (s2 b)
    have h : Wp (match paramsOf as' env2 with | none => Out.stuck | some ps => if (lentOf as').Nodup then (match F f ps with | .ret (.own _) _ => .stuck | .ret r outs => .ok r (backOuts as' outs env2) | .exn x outs => .exn x (backOuts as' outs env2) | .stuck => .stuck) else .stuck) _ _ := h
    split at h
    · exact h.elim
    · rename_i ps hp
      split at h
      · rename_i nd
        refine ⟨ps, _, params_RE re ra hp nd, ?_⟩
        have comp : ∀ {r : A} {v : V} {outs : Env} {H' : Hp}, RE Γ (UA (UC U as' vs env2 σ ps) r v) outs (vs.map some) H' → Stp (Own (ps.map some) (vs.map some)) H1 (fun b => Own outs (vs.map some) b ∨ isTmp r v b) H' →
            Stp (Own env σ) H (fun b => Own (backOuts as' outs env2) σ b ∨ isTmp r v b) H' := fun {r v outs H'} r1 r2 => by
          obtain ⟨_, _, b3⟩ := back_RE re ra hp nd r1 r2
          have c := st.comp r2 fun b z => (own_sub re ra hp z).elim (fun y => y.elim (fun k => (own_nU re ra hp z k).elim) .inr) .inl
          refine (c.add (V' := Own env2 σ) fun b z => st.sub b (.inl z)).shr fun b z => ?_
          rcases z with z | z
          · exact (b3 b z).elim (fun y => .inl (.inl y)) .inr
          · exact .inl (.inr z)
        split at h
        · exact h.elim
        · rename_i r outs hno hF
          rw [hF]
          intro v H' pc
          obtain ⟨b1, b2, _⟩ := back_RE re ra hp nd pc.re pc.st
          refine h v H' ⟨b1, ?_, comp pc.re pc.st⟩
          have q := pc.ra
          cases r with
          | val d => exact Rep.less b2 q
          | own i => exact (hno i rfl).elim
          | tmp d =>
            obtain ⟨a, rfl, n, b⟩ := q
            exact ⟨a, rfl, fun z => n ⟨.inl (.inl z), fun y => own_nU re ra hp y z⟩, b.less b2⟩
        · rename_i x outs hF
          rw [hF]
          intro cls d H' px
          have r1 : RE Γ (UA (UC U as' vs env2 σ ps) (.val .non) .non) outs (vs.map some) H' := px.re.less fun _ z => UA_val z
          have r2 : Stp (Own (ps.map some) (vs.map some)) H1 (fun b => Own outs (vs.map some) b ∨ isTmp (.val .non) .non b) H' := px.st.shr fun _ z => z.elim id fun y => y.elim
          obtain ⟨b1, _, _⟩ := back_RE re ra hp nd r1 r2
          exact h cls d H' ⟨b1.less fun _ z => .inl z, px.xr, (comp r1 r2).shr fun _ z => .inl z⟩
        · exact h.elim
      · exact h.elim

/-- what is known of the program's defs from here -/
structure FnAt (Γ : Glob) (X : Cx) (F : CF) (k f : Nat) (x : Str) : Prop where
  ex : ∃ (fa : Addr) (fd : FuncData) (ps : List Str), FnOk X.prog X.w X.K X.mg X.base (L2.CX X.prog X.w) k fa fd ps (spF Γ F f) ∧ X.mg x = some (.ref fa) ∧ PySem.W.keepIn X.K (.ref fa) = true ∧ Binds X.K fd ps []
theorem q_call {f : Nat} {x : Str} {as : Es} {k : Nat} (hf : FnAt Γ X P.F k f x) (hr : Room k X.A) (hg : Gl X x) (hd : (x == ("__debug__" : Str)) = false) (hs : QAs Γ X (ea :: es) (evAs P as)) (hst : ((ea :: es).all notStar) = true) :
    QE Γ X (.Call (.Name x p1) (ea :: es) [] pos) (evA P (.call f as)) := fun xe W tk => by
  obtain ⟨fa, fd, ps, F, hm, hk, hb⟩ := hf.ex
  have core : PE (X.wish xe) (.Call (.Name x p1) (ea :: es) [] pos) (tCallS (spF Γ P.F f) (WE W) (tAs Γ (evAs P as) W)) := by
    rw [List.all_cons, Bool.and_eq_true] at hst
    exact pe_callS (X := X.wish xe) F hr hg hm hk hb (fun σ => passAt tk σ) (hs xe W tk) hd (starEach_cons hst.1) (pl_of hst.2)
  refine PE.imp core fun σ H Q ⟨U, env, r, h⟩ => ?_
  simp only [evA] at h
  refine (stepAs r (fun x e cls d H' p q => q cls d H' p) h).mono fun vs H1 ⟨as, env1, p, h⟩ => ?_
  exact callM_ok p h
theorem q_call0 {f : Nat} {x : Str} {k : Nat} (hf : FnAt Γ X P.F k f x) (hr : Room k X.A) (hg : Gl X x) (hd : (x == ("__debug__" : Str)) = false) : QE Γ X (.Call (.Name x p1) [] [] pos) (evA P (.call f .nil)) := fun xe W tk => by
  obtain ⟨fa, fd, ps, F, hm, hk, hb⟩ := hf.ex
  have core : PE (X.wish xe) (.Call (.Name x p1) [] [] pos) (tCallS (spF Γ P.F f) (WE W) tNil) := by
    refine ⟨fun pins s σ H Q I h => ?_⟩
    refine wpAny_Call_Name_kw (ld_glob I hg hm ?_ hd)
    exact PySem.W.callWith_K0 I.kIn hk (run_fnS (X := X.wish xe) (us := []) F hr hb (passAt tk σ) I .nil h)
  refine PE.imp core fun σ H Q ⟨U, env, r, h⟩ => ?_
  simp only [evA, evAs, Out.bind_ok] at h
  exact callM_ok (PostAs.nil r) h
end
end Ev
end
section
set_option maxRecDepth 100000
set_option maxHeartbeats 1000000
namespace Ev
open PySem PySem.Spec L2
section
variable {Γ : Glob} {X : Cx} {P : Par} {U U' U1 O O' : Addr → Prop} {env env' env1 env2 env3 : Env} {σ σ' : St} {H H1 H2 H3 H' H'' : Hp} {a x y z r : A} {as as' : List A} {v w u : V} {vs ws : List V} {d e : D} {ds es' : List D} {W : WX} {pos p1 p2 apos cpos : Pos} {ea eb ec : Expr} {es : List Expr} {i j k : Nat}

/-! ### slices -/
def tO (Γ : Glob) (m : M (Option Int)) (W : WX) : TO := fun σ H Q => ∃ U env, RE Γ U env σ H ∧
  Wp (m env) (fun i env' => ∀ H', Post Γ U env σ H (.val .non) env' .non H' → Q i H') fun x env' => ∀ cls d H', XPost Γ U env σ H x env' cls d H' → W cls d σ H'
def QO (Γ : Glob) (X : Cx) (e : Option Expr) (m : M (Option Int)) : Prop := ∀ (xe : Value → Shared → Prop) (W : WX), Takes (X.wish xe) W → PO (X.wish xe) e (tO Γ m W)
theorem PO.imp {X : Cx} {e : Option Expr} {t t' : TO} (h : PO X e t) (hi : ∀ σ H Q, t' σ H Q → t σ H Q) : PO X e t' := ⟨fun pins s σ H Q I hq => h.run pins s σ H Q I (hi σ H Q hq)⟩
theorem tO.mono {m : M (Option Int)} {Q Q' : Option Int → Hp → Prop} (h : tO Γ m W σ H Q) (hQ : ∀ v H', Q v H' → Q' v H') : tO Γ m W σ H Q' := by
  obtain ⟨U, env, r, h⟩ := h
  exact ⟨U, env, r, h.mono (fun a e q H' p => hQ a H' (q H' p)) fun _ _ q => q⟩
theorem stepO {m : M (Option Int)} {β : Type} {k : Option Int → Env → Out β} {OK : β → Env → Prop} {EX : Exn → Env → Prop} (r : RE Γ U env σ H)
    (hx : ∀ x e cls d H', XPost Γ U env σ H x e cls d H' → EX x e → W cls d σ H') (h : Wp ((m env).bind k) OK EX) :
    tO Γ m W σ H fun b H1 => ∃ env1, Post Γ U env σ H (.val .non) env1 .non H1 ∧ Wp (k b env1) OK EX :=
  ⟨U, env, r, (Wp.bind.mp h).mono (fun a e q H' p => ⟨e, p, q⟩) fun x e q cls d H' p => hx x e cls d H' p q⟩
theorem qo_none : QO Γ X none (evO P .nil) := fun xe W tk => PO.imp po_none fun σ H Q ⟨U, env, r, h⟩ => by
  simp only [evO] at h
  exact h H (.pure r .non)
theorem qo_some {a : E} {as : Es} (ha : QE Γ X ea (evA P a)) : QO Γ X (some ea) (evO P (.cons a as)) := fun xe W tk => PO.imp (po_some (ha xe W tk)) fun σ H Q ⟨U, env, r, h⟩ => by
  simp only [evO] at h
  refine (stepE r (fun x e cls d H' p q => q cls d H' p) h).mono fun v H1 ⟨x, env1, p, h⟩ => ?_
  split at h
  · have q : Rep Γ _ H1 v _ := p.ra
    cases q
    exact ⟨_, rfl, h _ (p.comp (.pure p.re .non))⟩
  · exact h.elim
theorem q_slc {a : E} {lo hi : Option Expr} {l h : Es} (ha : QE Γ X ea (evA P a)) (hl : QO Γ X lo (evO P l)) (hh : QO Γ X hi (evO P h)) (hK : X.K = Γ.K) : QE Γ X (.Subscript ea (.Slice lo hi none p2) pos) (evA P (.slc a l h)) := fun xe W tk =>
  PE.imp (pe_slice (SlR.or sl_list (SlR.or sl_tupA sl_str)) (ha xe W tk) (hl xe W tk) (hh xe W tk)) fun σ H Q ⟨U, env, r, h⟩ => by
    simp only [evA] at h
    refine (stepE r (fun x e cls d H' p q => q cls d H' p) h).mono fun v H1 ⟨x, env1, p1, h⟩ => ?_
    refine (stepO p1.re (fun x e cls d H' p q => q cls d H' (p1.xcomp p)) h).mono fun i H2 ⟨env2, p2, h⟩ => ?_
    refine (stepO p2.re (fun x e cls d H' p q => q cls d H' (p1.xcomp (p2.xcomp p))) h).mono fun j H3 ⟨env3, p3, h⟩ => ?_
    have p23 := p2.comp p3
    have vw : ∀ {d : D}, x.look env3 = some d → Vw Γ (fun b => UA (UA U x v) (.val .non) .non b ∨ Own env3 σ b) H3 v d := fun hd => look_vw p23.re (p1.carry p23) (fun _ z => z) (fun _ z => z) hd
    split at h
    · rename_i xs hd
      obtain ⟨a, us, rfl, r1, r2⟩ := (vw hd).lst
      refine .inl ⟨a, us, rfl, SqL.of r1, fun p hp => ?_⟩
      exact h _ _ (p1.comp (p23.comp (.newLst p23.re (r2.cut i j) hp)))
    · rename_i xs hd
      obtain ⟨a, us, rfl, r1, r2⟩ := (vw hd).tup
      refine .inr (.inl ⟨a, us, rfl, ?_, fun z => ?_, fun _ p hp => ?_⟩)
      · show SqT X.K H3 a us
        rw [hK]
        exact SqT.of r1
      · rw [r2.length] at z
        rw [cut_whole xs i j z] at h
        exact h _ _ (p1.comp (p23.comp (.pure p23.re (.tup r1 r2))))
      · exact h _ _ (p1.comp (p23.comp (.newTup p23.re (r2.cut i j) hp)))
    · rename_i z hd
      cases (vw hd).str
      split at h
      · rename_i hz
        exact .inr (.inr ⟨_, rfl, hz, h _ _ (p1.comp (p23.comp (.pure p23.re (.str _))))⟩)
      · exact h.elim
    · exact h.elim

/-! ### a change at a name -/
theorem RE.writeO {b : Addr} {o0 o1 : HO} {d' : D} (r : RE Γ U env σ H) (h1 : env[i]? = some (some (.own d))) (h2 : σ[i]? = some (some (.ref b))) (h3 : H b = some o0) (m0 : MutO o0) (h4 : ∀ O', Stp (fun c => U c ∨ Own env σ c) H O' (upd H b o1) → Body Γ O' (upd H b o1) b d') :
    RE Γ U (env.set i (some (.own d'))) σ (upd H b o1) ∧ (∀ c, Own (env.set i (some (.own d'))) σ c ↔ Own env σ c) ∧ Stp (Own env σ) H (Own env σ) (upd H b o1) := by
  have hlt : i < env.length := (List.getElem?_eq_some_iff.mp h1).1
  have own_ : ∀ c, Own (env.set i (some (.own d'))) σ c ↔ Own env σ c := fun c => by
    constructor
    · rintro ⟨j, e, e1, e2⟩
      by_cases hj : i = j
      · subst hj
        exact ⟨i, d, h1, e2⟩
      · rw [List.getElem?_set_ne hj] at e1
        exact ⟨j, e, e1, e2⟩
    · rintro ⟨j, e, e1, e2⟩
      by_cases hj : i = j
      · subst hj
        exact ⟨i, _, List.getElem?_set_self hlt, e2⟩
      · exact ⟨j, e, by rw [List.getElem?_set_ne hj]; exact e1, e2⟩
  have st : Stp (Own env σ) H (Own env σ) (upd H b o1) := Stp.setO h3 m0 ⟨i, d, h1, h2⟩
  have stO : Stp (fun c => U c ∨ Own env σ c) H (fun c => U c ∨ Own (env.set i (some (.own d'))) σ c) (upd H b o1) := st.mono (fun _ z => .inr z) fun c z => .inr (.inl (z.imp id (own_ c).mp))
  obtain ⟨b', q1, q2, _⟩ := r.own i d h1
  rw [h2] at q1
  cases q1
  refine ⟨⟨by rw [List.length_set]; exact r.len, fun j e e1 => ?_, fun j e e1 => ?_, fun j k c e e' e1 e2 e3 e4 => ?_, r.tabs.stp st fun P hP => r.tabN P hP, fun c z => ?_⟩, own_, st⟩
  · have hj : i ≠ j := fun z => by subst z; rw [List.getElem?_set_self hlt] at e1; cases e1
    rw [List.getElem?_set_ne hj] at e1
    obtain ⟨v, z1, z2⟩ := r.val j e e1
    exact ⟨v, z1, z2.stp stO⟩
  · by_cases hj : i = j
    · subst hj
      rw [List.getElem?_set_self hlt] at e1
      cases e1
      exact ⟨b, h2, q2, h4 _ stO⟩
    · rw [List.getElem?_set_ne hj] at e1
      obtain ⟨c, z1, z2, z3⟩ := r.own j e e1
      have hc : c ≠ b := fun z => by subst z; exact hj (r.sep i j c d e h1 e1 h2 z1)
      exact ⟨c, z1, z2, z3.stp stO fun o m q => by rw [upd_ne hc]; exact q⟩
  · have g : ∀ {j : Nat} {e : D}, (env.set i (some (.own d')))[j]? = some (some (.own e)) → ∃ e', env[j]? = some (some (.own e')) := fun {j e} q => by
      by_cases hj : i = j
      · subst hj; exact ⟨d, h1⟩
      · rw [List.getElem?_set_ne hj] at q; exact ⟨e, q⟩
    obtain ⟨_, f1⟩ := g e1
    obtain ⟨_, f2⟩ := g e2
    exact r.sep j k c _ _ f1 f2 e3 e4
  · obtain ⟨o, e⟩ := r.uth c z
    exact st.there c o e
theorem RE.write {b : Addr} (r : RE Γ U env σ H) (h1 : env[i]? = some (some (.own d))) (h2 : σ[i]? = some (some (.ref b))) (h3 : H b = some (.lst vs)) (h4 : Reps Γ (fun b => U b ∨ Own env σ b) H ws ds) :
    RE Γ U (env.set i (some (.own (.lst ds)))) σ (upd H b (.lst ws)) ∧ (∀ c, Own (env.set i (some (.own (.lst ds)))) σ c ↔ Own env σ c) ∧ Stp (Own env σ) H (Own env σ) (upd H b (.lst ws)) :=
  r.writeO h1 h2 h3 (.inl ⟨_, rfl⟩) fun O' s => ⟨ws, upd_same, h4.stp s⟩
theorem Post.write {b : Addr} (r : RE Γ U env σ H) (h1 : env[i]? = some (some (.own d))) (h2 : σ[i]? = some (some (.ref b))) (h3 : H b = some (.lst vs)) (h4 : Reps Γ (fun b => U b ∨ Own env σ b) H ws ds) (q : Rep Γ (fun b => U b ∨ Own env σ b) H v e) :
    Post Γ U env σ H (.val e) (env.set i (some (.own (.lst ds)))) v (upd H b (.lst ws)) := by
  obtain ⟨r1, r2, r3⟩ := r.write h1 h2 h3 h4
  refine ⟨r1.less fun _ z => UA_val z, ?_, r3.shr fun c z => (z.elim (r2 c).mp fun y => by cases v <;> exact y.elim)⟩
  exact Rep.stp (r3.mono (fun _ z => .inr z) fun c z => .inr (.inl (z.imp UA_val (r2 c).mp))) q
def Mm.nm : Mm → Str
  | .append => "append" | .pop => "pop" | .extend => "extend"
theorem tyL {K : PySem.W.Frag} {b : Addr} (h : H b = some (.lst vs)) : tyV K "list" (.ref b) H := .inl ⟨rfl, vs, SqL.of h⟩
/-- the list at an owned slot -/
theorem RE.at_own (r : RE Γ U env σ H) (h : env[i]? = some (some (.own (.lst ds)))) : ∃ b us, σ[i]? = some (some (.ref b)) ∧ H b = some (.lst us) ∧ Reps Γ (fun b => U b ∨ Own env σ b) H us ds := by
  obtain ⟨b, e1, _, us, e2, e3⟩ := r.own i _ h
  exact ⟨b, us, e1, e2, e3⟩
theorem few1 {e : Expr} {env : PySem.Env} (h : notStar e = true) : ((backTo cpos (starEach [e] env)).all (fun x => !x.1) && (backToKw cpos (keywordEach [] env)).all (fun x => x.1.isSome)
      && decide (([e] : List Expr).length + ([] : List Keyword).length + (if ([] : List Keyword).isEmpty then 0 else 1) < 30)) = true := by
  rw [starEach_cons h]
  rfl
theorem Reps.last (h : Reps Γ O H vs ds) (q : ds[ds.length - 1]? = some d) : ∃ v, vs[vs.length - 1]? = some v ∧ Rep Γ O H v d := by
  rw [h.length]
  exact h.get q
theorem Reps.dropLast : ∀ {vs : List V} {ds : List D}, Reps Γ O H vs ds → Reps Γ O H vs.dropLast ds.dropLast := fun {vs ds} h => by
  rw [List.dropLast_eq_take, List.dropLast_eq_take, h.length]
  exact h.take _
theorem mutF_append {cs gs : List D} {d' e' : D} (h : mutF .append (.lst cs) gs = some (d', e')) : ∃ g, gs = [g] ∧ cs.length < sizeLine ∧ d' = .lst (cs ++ [g]) ∧ e' = .non := by
  cases gs with
  | nil => cases h
  | cons g r =>
    cases r with
    | nil =>
      simp only [mutF] at h
      split at h
      · rename_i hl
        cases h
        exact ⟨g, rfl, hl, rfl, rfl⟩
      · cases h
    | cons _ _ => cases h
theorem mutF_extend {cs gs : List D} {d' e' : D} (h : mutF .extend (.lst cs) gs = some (d', e')) : ∃ ys, gs = [.lst ys] ∧ cs.length + ys.length ≤ sizeLine ∧ d' = .lst (cs ++ ys) ∧ e' = .non := by
  cases gs with
  | nil => cases h
  | cons g r =>
    cases r with
    | nil =>
      cases g with
      | lst ys =>
        simp only [mutF] at h
        split at h
        · rename_i hl
          cases h
          exact ⟨ys, rfl, hl, rfl, rfl⟩
        · cases h
      | _ => cases h
    | cons _ _ => cases g <;> cases h
theorem mut_wp {β : Type} {m : Mm} {as : Es} {k : A → Env → Out β} {OK : β → Env → Prop} {EX : Exn → Env → Prop} (h : Wp ((evA P (.mut m i as) env).bind k) OK EX) : True := trivial
/-- x.append(e), x.extend(e) -/
theorem q_mut1 {m : Mm} {n : Str} {as : Es} (hm : m = .append ∨ m = .extend) (hN : X.N[i]? = some n) (hv : Vis X.env.scope n) (hd : (n == ("__debug__" : Str)) = false) (hcd : (n == ("__classdict__" : Str)) = false) (hs : QVs Γ X [ea] (evVs P as)) (hst : notStar ea = true)
    (hl : (apos.endLine == cpos.line) = true) : QE Γ X (.Call (.Attribute (.Name n p1) m.nm apos) [ea] [] cpos) (evA P (.mut m i as)) := fun xe W tk => by
  have pv : PE (X.wish xe) (.Name n p1) (tVar i) := pe_var (X := X.wish xe) hN hv hd hcd
  have main : ∀ {rr : V → List V → Hp → VK → Prop}, PE (X.wish xe) (.Call (.Attribute (.Name n p1) m.nm apos) [ea] [] cpos) (tBM (X.wish xe).K "list" rr (tVar i) (tVs Γ (evVs P as) W)) →
      (∀ {U env1 σ H1} {b : Addr} {us vs : List V} {cs gs : List D} {d' e' : D} {Q : VK}, RE Γ U env1 σ H1 → env1[i]? = some (some (.own (.lst cs))) → σ[i]? = some (some (.ref b)) → H1 b = some (.lst us) → Reps Γ (fun b => U b ∨ Own env1 σ b) H1 us cs →
        Reps Γ (fun b => U b ∨ Own env1 σ b) H1 vs gs → mutF m (.lst cs) gs = some (d', e') → (∀ v H', Post Γ U env1 σ H1 (.val e') (env1.set i (some (.own d'))) v H' → Q v H') → rr (.ref b) vs H1 Q) →
      PE (X.wish xe) (.Call (.Attribute (.Name n p1) m.nm apos) [ea] [] cpos) (tE Γ (evA P (.mut m i as)) W) := fun {rr} hp hr => PE.imp hp fun σ H Q ⟨U, env, r, h⟩ => by
    simp only [evA] at h
    split at h
    · rename_i ds0 h0
      obtain ⟨b, us, e1, e2, _⟩ := r.at_own h0
      refine ⟨.ref b, e1, tyL e2, ?_⟩
      refine (stepVs r (fun x e cls d H' p q => q cls d H' p) h).mono fun vs H1 ⟨gs, env1, p, h⟩ => ?_
      split at h
      · rename_i d hd
        split at h
        · rename_i d' e' hm
          cases d with
          | lst cs =>
            obtain ⟨b', us', f1, f2, f3⟩ := p.re.at_own hd
            rw [e1] at f1
            cases f1
            exact hr p.re hd e1 f2 f3 p.rs hm fun v H' p2 => h v H' (p.comp p2)
          | _ => cases m <;> cases hm
        · exact h.elim
      · exact h.elim
    · exact h.elim
  rcases hm with rfl | rfl
  · refine main (rr := rAppend) (pe_bm (X := X.wish xe) PySem.F.plainAttrs_list PySem.F.slot_list_append PySem.F.type_list_append mt_append pv (hs xe W tk) rfl (few1 hst) hl (starEach_cons hst) rfl) ?_
    intro U env1 σ H1 b us vs cs gs d' e' Q r h1 h2 h3 h4 h5 hm hQ
    obtain ⟨g, rfl, hl, rfl, rfl⟩ := mutF_append hm
    cases h5 with
    | cons q1 q2 =>
      cases q2
      exact ⟨b, us, _, rfl, rfl, h3, by rw [h4.length]; exact hl, hQ _ _ (.write r h1 h2 h3 (h4.append (.cons q1 .nil)) .non)⟩
  · refine main (rr := rExtend) (pe_bm (X := X.wish xe) PySem.F.plainAttrs_list PySem.F.slot_list_extend PySem.F.type_list_extend mt_extend pv (hs xe W tk) rfl (few1 hst) hl (starEach_cons hst) rfl) ?_
    intro U env1 σ H1 b us vs cs gs d' e' Q r h1 h2 h3 h4 h5 hm hQ
    obtain ⟨ys, rfl, hl, rfl, rfl⟩ := mutF_extend hm
    cases h5 with
    | cons q1 q2 =>
      cases q2
      cases q1 with
      | lst z1 z2 z3 => exact ⟨b, _, us, _, rfl, rfl, h3, z1, by rw [h4.length, z3.length]; exact hl, hQ _ _ (.write r h1 h2 h3 (h4.append z3) .non)⟩
/-- x.pop() -/
theorem q_pop {n : Str} (hN : X.N[i]? = some n) (hv : Vis X.env.scope n) (hd : (n == ("__debug__" : Str)) = false) (hcd : (n == ("__classdict__" : Str)) = false)
    (hl : (apos.endLine == cpos.line) = true) : QE Γ X (.Call (.Attribute (.Name n p1) "pop" apos) [] [] cpos) (evA P (.mut .pop i .nil)) := fun xe W tk => by
  have pv : PE (X.wish xe) (.Name n p1) (tVar i) := pe_var (X := X.wish xe) hN hv hd hcd
  refine PE.imp (pe_bm0 (X := X.wish xe) PySem.F.plainAttrs_list PySem.F.slot_list_pop PySem.F.type_list_pop mt_pop pv rfl hl) fun σ H Q ⟨U, env, r, h⟩ => ?_
  simp only [evA, evVs, Out.bind_ok] at h
  split at h
  · rename_i ds0 h0
    obtain ⟨b, us, e1, e2, e3⟩ := r.at_own h0
    refine ⟨.ref b, e1, tyL e2, ?_⟩
    rw [h0] at h
    have h : Wp (match mutF .pop (.lst ds0) [] with | some (d', v) => Out.ok (A.val v) (env.set i (some (.own d'))) | none => .stuck) _ _ := h
    unfold mutF at h
    dsimp only at h
    cases z : ds0[ds0.length - 1]? with
    | none => rw [z] at h; exact h.elim
    | some g =>
      rw [z] at h
      obtain ⟨y, y1, y2⟩ := e3.last z
      exact ⟨b, us, y, rfl, rfl, e2, y1, h _ _ (.write r h0 e1 e2 e3.dropLast y2)⟩
  · exact h.elim
end
end Ev
end
section
set_option maxRecDepth 100000
set_option maxHeartbeats 1000000
namespace Ev
open PySem PySem.Spec L2

section
variable {Γ : Glob} {X : Cx} {P : Par} {U U' U1 O O' : Addr → Prop} {env env' env1 env2 env3 : Env} {σ σ' : St} {H H1 H2 H3 H' H'' : Hp} {a x y z r : A} {as as' : List A} {v w u : V} {vs : List V} {d e : D} {ds : List D} {W : WX} {pos p1 p2 apos cpos : Pos} {ea eb ec : Expr} {es : List Expr} {i j k : Nat}

/-! ### methods of a text -/
theorem strs_of : ∀ {ds : List D} {vs : List V} {bs : List Str}, Reps Γ O H vs ds → asStrs ds = some bs → vs = bs.map V.str
  | [], _, bs, .nil, h => by cases h; rfl
  | .str b :: ds, _, bs, .cons r rs, h => by
    unfold asStrs at h
    cases q : asStrs ds with
    | none => rw [q] at h; cases h
    | some cs =>
      rw [q] at h
      cases h
      cases r
      rw [strs_of rs q]
      rfl
  | .non :: _, _, _, _, h => by cases h
  | .bl _ :: _, _, _, _, h => by cases h
  | .int _ :: _, _, _, _, h => by cases h
  | .tup _ :: _, _, _, _, h => by cases h
  | .lst _ :: _, _, _, _, h => by cases h
  | .frz _ :: _, _, _, _, h => by cases h
  | .dic _ _ :: _, _, _, _, h => by cases h
  | .ins _ _ :: _, _, _, _, h => by cases h
  | .fn _ :: _, _, _, _, h => by cases h
/-- sep.join(e) -/
theorem q_join {o : E} {b : E} (ho : QE Γ X ea (evA P o)) (hb : QE Γ X eb (evA P b)) (hK : X.K = Γ.K) (hst : notStar eb = true) (hbase : attributeBase ea "join" X.env (eval ea X.env) = eval ea X.env) (hl : (apos.endLine == cpos.line) = true) :
    QE Γ X (.Call (.Attribute ea "join" apos) [eb] [] cpos) (evA P (.sm .join o (.cons b .nil))) := fun xe W tk =>
  PE.imp (pe_join (X := X.wish xe) (ho xe W tk) (hb xe W tk) (starEach_cons hst) hbase hl) fun σ H Q ⟨U, env, r, h⟩ => by
    simp only [evA] at h
    refine (stepE r (fun x e cls d H' p q => q cls d H' p) h).mono fun v H1 ⟨x, env1, p1, h⟩ => ?_
    split at h
    · rename_i s
      have hv : v = .str s := by
        have q : Rep Γ _ H1 v (.str s) := p1.ra
        cases q
        rfl
      subst hv
      refine ⟨⟨s, rfl⟩, ?_⟩
      simp only [evAs, Out.bind_ok] at h
      rw [Wp.bind] at h
      have h : Wp ((evA P b env1).bind fun a env => Out.ok [a] env) _ _ := h
      refine (stepE p1.re (fun x e cls d H' p q => q cls d H' (p1.xcomp p)) h).mono fun w H2 ⟨y, env2, p2, h⟩ => ?_
      have h : Wp (match lookAll [y] env2 with | some ds => (match smF .join s ds with | some r => Out.ok r.a env2 | none => .stuck) | none => .stuck) (fun a env' => ∀ v H', Post Γ U env σ H a env' v H' → Q v H') (fun x env' => ∀ cls d H', XPost Γ U env σ H x env' cls d H' → W cls d σ H') := h
      have hl2 : lookAll [y] env2 = (y.look env2).map fun d => [d] := by
        unfold lookAll lookAll
        cases y.look env2 <;> rfl
      rw [hl2] at h
      cases hy : y.look env2 with
      | none => rw [hy] at h; exact h.elim
      | some d =>
        rw [hy] at h
        have h : Wp (match smF .join s [d] with | some r => Out.ok r.a env2 | none => .stuck) (fun a env' => ∀ v H', Post Γ U env σ H a env' v H' → Q v H') (fun x env' => ∀ cls d H', XPost Γ U env σ H x env' cls d H' → W cls d σ H') := h
        have vw := p2.vw hy
        cases hr : smF .join s [d] with
        | none => rw [hr] at h; exact h.elim
        | some rr =>
          rw [hr] at h
          have core : ∀ {xs : List D}, (asStrs xs).bind (fun ys => if (ys.map (·.length)).sum + ys.length * s.length ≤ 16777216 then some (BR.val (.str (Txt.join s ys))) else none) = some rr →
              ∃ ys, asStrs xs = some ys ∧ (ys.map (·.length)).sum + ys.length * s.length ≤ 16777216 ∧ Q (.str (Txt.join s ys)) H2 := fun {xs} hr => by
            obtain ⟨ys, hys, hr⟩ := Option.bind_eq_some_iff.mp hr
            split at hr
            · rename_i hz
              cases hr
              exact ⟨ys, hys, hz, fin_val h (p1.comp p2) (.str _)⟩
            · cases hr
          cases d with
          | lst xs =>
            obtain ⟨ys, hys, hz, hq⟩ := core (xs := xs) hr
            obtain ⟨a, us, rfl, r1, r2⟩ := Vw.row (.inl vw)
            refine ⟨s, a, ys, rfl, rfl, .inl ?_, hz, hq⟩
            rw [← strs_of r2 hys]
            show SqL X.K _ _ _
            rw [hK]
            exact r1
          | tup xs =>
            obtain ⟨ys, hys, hz, hq⟩ := core (xs := xs) hr
            obtain ⟨a, us, rfl, r1, r2⟩ := vw.tup
            refine ⟨s, a, ys, rfl, rfl, .inr ?_, hz, hq⟩
            rw [← strs_of r2 hys]
            exact SqT.of r1
          | _ => cases hr
    · exact h.elim

/-! ### dicts -/
theorem dput_K {k : Key} {v : V} {e d : D} {l : List (Key × V)} {kvs : List (D × D)} (h : RepK Γ O H l kvs) (he : D.key e = some k) (hv : Rep Γ O H v d) : RepK Γ O H (putK l k v) (dput kvs e d) := by
  have any_ : ∀ {l : List (Key × V)} {kvs : List (D × D)}, RepK Γ O H l kvs → (l.any fun kv => decide (kv.1 = k)) = kvs.any fun p => kEq p.1 e := fun {l kvs} h => by
    have go : ∀ (l : List (Key × V)) (kvs : List (D × D)), RepK Γ O H l kvs → (l.any fun kv => decide (kv.1 = k)) = kvs.any fun p => kEq p.1 e := by
      intro l
      induction l with
      | nil => intro kvs h; cases h; rfl
      | cons p l ih =>
        intro kvs h
        cases h with
        | cons e1 r1 rs =>
          rw [List.any_cons, List.any_cons, ih _ rs, kEq_key e1 he]
    exact go l kvs h
  have map_ : ∀ (l : List (Key × V)) (kvs : List (D × D)), RepK Γ O H l kvs → RepK Γ O H (l.map fun kv => if kv.1 = k then (kv.1, v) else kv) (kvs.map fun p => if kEq p.1 e then (p.1, d) else p) := by
    intro l
    induction l with
    | nil => intro kvs h; cases h; exact .nil
    | cons p l ih =>
      intro kvs h
      cases h with
      | @cons k1 v1 _ dk d1 _ e1 r1 rs =>
        rw [List.map_cons, List.map_cons]
        have hk := kEq_key e1 he
        by_cases hkk : k1 = k
        · rw [decide_eq_true hkk] at hk
          simp only [hk, if_true, hkk]
          rw [hkk] at e1
          exact .cons e1 hv (ih _ rs)
        · rw [decide_eq_false hkk] at hk
          simp only [hk, hkk, if_false, Bool.false_eq_true]
          exact .cons e1 r1 (ih _ rs)
  have app_ : ∀ (l : List (Key × V)) (kvs : List (D × D)), RepK Γ O H l kvs → RepK Γ O H (l ++ [(k, v)]) (kvs ++ [(e, d)]) := by
    intro l
    induction l with
    | nil => intro kvs h; cases h; exact .cons he hv .nil
    | cons p l ih =>
      intro kvs h
      cases h with
      | cons e1 r1 rs => exact .cons e1 r1 (ih _ rs)
  unfold putK dput
  rw [any_ h]
  cases kvs.any fun p => kEq p.1 e with
  | true => exact map_ _ _ h
  | false => exact app_ _ _ h
theorem dput_T {k : List Key} {v : V} {e d : D} {l : List (List Key × V)} {kvs : List (D × D)} (h : RepT Γ O H l kvs) (he : D.tkey e = some k) (hv : Rep Γ O H v d) : RepT Γ O H (putK l k v) (dput kvs e d) := by
  have any_ : ∀ (l : List (List Key × V)) (kvs : List (D × D)), RepT Γ O H l kvs → (l.any fun kv => decide (kv.1 = k)) = kvs.any fun p => kEq p.1 e := by
    intro l
    induction l with
    | nil => intro kvs h; cases h; rfl
    | cons p l ih =>
      intro kvs h
      cases h with
      | cons e1 r1 rs =>
        rw [List.any_cons, List.any_cons, ih _ rs, kEq_tkey e1 he]
  have map_ : ∀ (l : List (List Key × V)) (kvs : List (D × D)), RepT Γ O H l kvs → RepT Γ O H (l.map fun kv => if kv.1 = k then (kv.1, v) else kv) (kvs.map fun p => if kEq p.1 e then (p.1, d) else p) := by
    intro l
    induction l with
    | nil => intro kvs h; cases h; exact .nil
    | cons p l ih =>
      intro kvs h
      cases h with
      | @cons k1 v1 _ dk d1 _ e1 r1 rs =>
        rw [List.map_cons, List.map_cons]
        have hk := kEq_tkey e1 he
        by_cases hkk : k1 = k
        · rw [decide_eq_true hkk] at hk
          simp only [hk, if_true, hkk]
          rw [hkk] at e1
          exact .cons e1 hv (ih _ rs)
        · rw [decide_eq_false hkk] at hk
          simp only [hk, hkk, if_false, Bool.false_eq_true]
          exact .cons e1 r1 (ih _ rs)
  have app_ : ∀ (l : List (List Key × V)) (kvs : List (D × D)), RepT Γ O H l kvs → RepT Γ O H (l ++ [(k, v)]) (kvs ++ [(e, d)]) := by
    intro l
    induction l with
    | nil => intro kvs h; cases h; exact .cons he hv .nil
    | cons p l ih =>
      intro kvs h
      cases h with
      | cons e1 r1 rs => exact .cons e1 r1 (ih _ rs)
  unfold putK dput
  rw [any_ _ _ h]
  cases kvs.any fun p => kEq p.1 e with
  | true => exact map_ _ _ h
  | false => exact app_ _ _ h
theorem RepK.length : ∀ {l : List (Key × V)} {kvs : List (D × D)}, RepK Γ O H l kvs → l.length = kvs.length
  | _, _, .nil => rfl
  | _, _, .cons _ _ rs => by simp [RepK.length rs]
theorem RepT.length : ∀ {l : List (List Key × V)} {kvs : List (D × D)}, RepT Γ O H l kvs → l.length = kvs.length
  | _, _, .nil => rfl
  | _, _, .cons _ _ rs => by simp [RepT.length rs]
theorem merge_K : ∀ {more : List (Key × V)} {prs : List (D × D)} {l : List (Key × V)} {kvs : List (D × D)}, RepK Γ O H more prs → RepK Γ O H l kvs → RepK Γ O H (mergeK l more) (dmerge kvs prs)
  | _, _, _, _, .nil, h => h
  | (k, v) :: more, (dk, d) :: prs, l, kvs, .cons e r rs, h => by
    show RepK Γ O H (mergeK (putK l k v) more) (dmerge (dput kvs dk d) prs)
    exact merge_K rs (dput_K h e r)
/-- a thing that is nobody's here is written -/
theorem RE.setUO {b : Addr} {o o1 : HO} (r : RE Γ U env σ H) (hU : U b) (hb : H b = some o) (m : MutO o) : RE Γ U env σ (upd H b o1) := by
  have st : Stp (fun c => c = b) H (fun c => c = b) (upd H b o1) := Stp.setO hb m rfl
  have stO : Stp (fun c => U c ∨ Own env σ c) H (fun c => U c ∨ Own env σ c) (upd H b o1) := st.mono (fun c z => .inl (by rw [z]; exact hU)) fun c z => .inr (.inl z)
  have nt : ∀ P ∈ Γ.tabs, ¬ P = b := fun P hP z => by
    subst z
    obtain ⟨o, e, q⟩ := r.tabs P hP
    rw [hb] at e
    cases e
    exact m.ntab q
  refine ⟨r.len, fun i d e => ?_, fun i d e => ?_, r.sep, r.tabs.stp st nt, fun c z => ?_⟩
  · obtain ⟨v, e1, e2⟩ := r.val i d e
    exact ⟨v, e1, e2.stp stO⟩
  · obtain ⟨c, e1, e2, e3⟩ := r.own i d e
    have hc : c ≠ b := fun z => by subst z; exact e2 hU
    exact ⟨c, e1, e2, e3.stp stO fun o m q => by rw [upd_ne hc]; exact q⟩
  · obtain ⟨o, e⟩ := r.uth c z
    exact st.there c o e
def flatP : List (V × V) → List V
  | [] => []
  | (x, y) :: r => x :: y :: flatP r
/-- a display's keys and values in the order of their making -/
def ilv : List (Option Expr) → List Expr → Option (List Expr)
  | [], [] => some []
  | some k :: ks, v :: vs => (ilv ks vs).map fun r => k :: v :: r
  | _, _ => none
def QPs (Γ : Glob) (X : Cx) (pos : Pos) (keys : List (Option Expr)) (values : List Expr) (m : M (List D)) : Prop := ∀ (xe : Value → Shared → Prop) (W : WX), Takes (X.wish xe) W →
  ∃ trs, PPs (X.wish xe) pos keys values trs ∧ ∀ σ H Q, tVs Γ m W σ H (fun vs H' => ∀ ps, flatP ps = vs → Q ps H') → tPairs trs σ H Q
theorem qps_nil : QPs Γ X pos [] [] (evVs P .nil) := fun xe W tk => ⟨[], pps_nil, fun σ H Q ⟨U, env, r, h⟩ => by
  simp only [evVs] at h
  exact h [] H (.nil r) [] rfl⟩
theorem qps_cons {a b : E} {as : Es} {k v : Expr} {ks : List (Option Expr)} {vs : List Expr} (hk : QE Γ X k (evA P a)) (hv : QE Γ X v (evA P b)) (hr : QPs Γ X pos ks vs (evVs P as)) : QPs Γ X pos (some k :: ks) (v :: vs) (evVs P (.cons a (.cons b as))) := fun xe W tk => by
  obtain ⟨trs, h1, h2⟩ := hr xe W tk
  refine ⟨_, pps_cons (hk xe W tk) (hv xe W tk) h1, fun σ H Q ⟨U, env, r, h⟩ => ?_⟩
  simp only [evVs] at h
  refine (stepE r (fun x e cls d H' p q => q cls d H' p) h).mono fun x H1 ⟨xa, env1, p1, h⟩ => ?_
  obtain ⟨d1, env2, p2, h⟩ := freeze_step p1 h
  rw [Wp.bind] at h
  have h : Wp ((evA P b env2).bind fun a env => (a.freeze env).bind fun d env => (evVs P as env).bind fun ds env => Out.ok (d :: ds) env) (fun ds e => Wp (Out.ok (d1 :: ds) e) (fun ds env' => ∀ vs H', PostVs Γ U env σ H ds env' vs H' → ∀ ps, flatP ps = vs → Q ps H') fun x env' => ∀ cls d H', XPost Γ U env σ H x env' cls d H' → W cls d σ H') (fun x env' => ∀ cls d H', XPost Γ U env σ H x env' cls d H' → W cls d σ H') := h
  refine (stepE p2.reU (fun x e cls d H' p q => q cls d H' (p2.xcompV p)) h).mono fun y H2 ⟨ya, env3, p3, h⟩ => ?_
  obtain ⟨d2, env4, p4, h⟩ := freeze_step p3 h
  rw [Wp.bind] at h
  refine h2 σ H2 _ ⟨U, env4, p4.reU, h.mono (fun ds env5 h vs H3 p5 ps hps => ?_) fun x e q cls d H' p => q cls d H' (p2.xcompV (p4.xcompV p))⟩
  subst hps
  exact h _ H3 (.cons p2 (.cons p4 p5)) ((x, y) :: ps) rfl
theorem pairs_of : ∀ {ps : List (V × V)} {ds : List D} {prs : List (D × D)}, Reps Γ O H (flatP ps) ds → pairD ds = some prs → ∃ kvs : List (Key × V), ps = kvs.map (fun kv => (kV kv.1, kv.2)) ∧ RepK Γ O H kvs prs
  | [], _, prs, .nil, h => by cases h; exact ⟨[], rfl, .nil⟩
  | (x, y) :: ps, _, prs, .cons (d := dk) r1 (.cons (d := dv) (ds := ds) r2 rs), h => by
    unfold pairD at h
    split at h
    · rename_i hk
      cases q : pairD ds with
      | none => rw [q] at h; cases h
      | some prs' =>
        rw [q] at h
        cases h
        obtain ⟨kvs, e, rk⟩ := pairs_of rs q
        obtain ⟨k, hk⟩ := key_of1 hk
        refine ⟨(k, y) :: kvs, ?_, .cons hk r2 rk⟩
        rw [List.map_cons, ← e, key_V (.inl r1) hk]
    · cases h
/-- {k: v, ..} -/
theorem q_dsp {as : Es} {keys : List (Option Expr)} {values : List Expr} (hs : QPs Γ X pos keys values (evVs P as)) (hall : keys.all (·.isSome) = true) (hl : keys.length = values.length) (h0 : keys ≠ []) (h15 : keys.length ≤ 15) :
    QE Γ X (.Dict keys values pos) (evA P (.dsp as)) := fun xe W tk => by
  obtain ⟨trs, g1, g2⟩ := hs xe W tk
  refine PE.imp (pe_disp g1 hall hl h0 h15) fun σ H Q ⟨U, env, r, h⟩ p hp => ?_
  simp only [evA] at h
  rw [Wp.bind] at h
  have s0 : Stp (fun _ => False) H (fun b => False ∨ b = p) (upd H p (.dK [])) := Stp.new hp
  have r0 : RE Γ (fun b => U b ∨ b = p) env σ (upd H p (.dK [])) := r.stp (s0.shr fun b z => z.1.elim (fun y => (z.2 y).elim) .inr) (fun _ z => .inl z) fun b z => z.elim (fun y => let ⟨o, e⟩ := r.uth b y; s0.there b o e) fun y => ⟨.dK [], by rw [y]; exact upd_same⟩
  have sN : Stp (Own env σ) H (fun b => Own env σ b ∨ b = p) (upd H p (.dK [])) := Stp.new hp
  have nU : ¬ U p := fun z => by
    obtain ⟨o, e⟩ := r.uth p z
    rw [hp] at e
    cases e
  have np : ¬ Own env σ p := fun ⟨i, d, e1, e2⟩ => by
    obtain ⟨b, q1, q2, _⟩ := r0.own i d e1
    rw [e2] at q1
    cases q1
    exact q2 (.inr rfl)
  refine g2 σ _ _ ⟨_, env, r0, h.mono (fun ds env1 h vs H2 pv ps hps => ?_) fun x e h cls d H' px => ?_⟩
  · subst hps
    have hp2 : H2 p = some (.dK []) := pv.st.mu upd_same (.inr (.inl ⟨[], rfl⟩)) np
    refine ⟨hp2, ?_⟩
    cases q : pairD ds with
    | none => rw [q] at h; exact h.elim
    | some prs =>
      rw [q] at h
      have h : Wp (if prs.length ≤ 15 then Out.ok (A.tmp (.dic false (dmerge [] prs))) env1 else .stuck) (fun a env' => ∀ v H', Post Γ U env σ H a env' v H' → Q v H') (fun x env' => ∀ cls d H', XPost Γ U env σ H x env' cls d H' → W cls d σ H') := h
      obtain ⟨kvs, e, rk⟩ := pairs_of pv.rs q
      split at h
      · rename_i hz
        refine ⟨kvs, e, by rw [rk.length]; exact hz, ?_⟩
        have r2 : RE Γ (fun b => U b ∨ b = p) env1 σ (upd H2 p (.dK (mergeK [] kvs))) := pv.re.setUO (.inr rfl) hp2 (.inr (.inl ⟨[], rfl⟩))
        have s2 : Stp (fun c => c = p) H2 (fun c => c = p) (upd H2 p (.dK (mergeK [] kvs))) := Stp.setO hp2 (.inr (.inl ⟨[], rfl⟩)) rfl
        have eqU : ∀ b, UA U (.tmp (.dic false (dmerge [] prs))) (.ref p) b ↔ (U b ∨ b = p) := fun b => Iff.rfl
        refine h _ _ ⟨r2, ⟨p, rfl, nU, _, upd_same, ?_⟩, ?_⟩
        · exact merge_K (rk.stp (s2.mono (W1 := fun b => (U b ∨ b = p) ∨ Own env1 σ b) (W2 := fun b => UA U (.tmp (.dic false (dmerge [] prs))) (.ref p) b ∨ Own env1 σ b) (fun c z => .inl (.inr z)) fun c z => .inr (.inl z))) .nil
        · refine (sN.comp (pv.st.mono (W1 := fun b => Own env σ b ∨ b = p) (W2 := fun b => Own env1 σ b ∨ b = p) (fun b z => .inl z) fun b z => z.elim .inl fun y => .inr (.inl (.inr y))) fun _ z => z).comp (s2.mono (W1 := fun b => Own env1 σ b ∨ b = p) (W2 := fun b => Own env1 σ b ∨ b = p) (fun b z => .inr z) fun b z => .inr (.inl z)) fun _ z => z
      · exact h.elim
  · refine h cls d H' ⟨px.re.less fun _ z => .inl z, px.xr, (sN.comp (px.st.mono (W1 := fun b => Own env σ b ∨ b = p) (W2 := fun b => Own e σ b ∨ b = p) (fun b z => .inl z) fun b z => z.elim .inl fun y => .inr (.inl (.inr y))) fun _ z => z).shr fun _ z => .inl z⟩
/-- {} -/
theorem Post.newDic {t : Bool} {o : HO} {p : Addr} (r : RE Γ U env σ H) (hp : H p = none) (ho : o = if t then .dT [] else .dK []) : Post Γ U env σ H (.tmp (.dic t [])) env (.ref p) (upd H p o) := by
  have s : Stp (fun _ => False) H (fun b => False ∨ b = p) (upd H p o) := Stp.new hp
  have r' : RE Γ (UA U (.tmp (.dic t [])) (.ref p)) env σ (upd H p o) := r.stp (s.shr fun b z => z.1.elim (fun y => (z.2 y).elim) .inr) (fun _ z => .inl z) fun b z => z.elim (fun y => let ⟨o, e⟩ := r.uth b y; s.there b o e) fun y => ⟨o, by rw [show b = p from y]; exact upd_same⟩
  refine ⟨r', ⟨p, rfl, fun z => ?_, ?_⟩, s.mono (fun _ z => z.elim) fun b z => ?_⟩
  · obtain ⟨o, e⟩ := r.uth p z
    rw [hp] at e
    cases e
  · subst ho
    cases t with
    | false => exact ⟨[], upd_same, .nil⟩
    | true => exact ⟨[], upd_same, .nil⟩
  · rcases z with z | z
    · exact .inr (.inl z)
    · exact .inl (.inr z)
theorem q_dnew {t : Bool} : QE Γ X (.Dict [] [] pos) (evA P (.dnew t)) := fun xe W tk => by
  cases t with
  | false =>
    refine PE.imp pe_dnewK fun σ H Q ⟨U, env, r, h⟩ p hp => ?_
    simp only [evA] at h
    exact h _ _ (.newDic r hp rfl)
  | true =>
    refine PE.imp pe_dnewT fun σ H Q ⟨U, env, r, h⟩ p hp => ?_
    simp only [evA] at h
    exact h _ _ (.newDic r hp rfl)
end
end Ev
end
section
set_option maxRecDepth 100000
/-! enumerate of a tuple. -/
namespace PySem
open Sem (wp)
open AutoSeq1 (wpAny_loadPart')

set_option maxHeartbeats 1000000 in
theorem ev_enumNewT (l : Addr) (items : Array Value) (n : Nat) (dct : Option Addr) (sl : Array (Option Value)) :
    Meets (Builtin.«enumerate.__new__» ⟨[.type "enumerate", .ref l], []⟩) (fun _ R s => s.heap.get? l = some { cls := .type "tuple", dict := dct, data := .seq items n, slots := sl } ∧
      R (.ok (.ret (.ref (s.heap.push { cls := .type "tuple_iterator", data := .fields #[.ref l, .int 0 0] }).objs.size)))
        { s with heap := (s.heap.push { cls := .type "tuple_iterator", data := .fields #[.ref l, .int 0 0] }).push { cls := .type "enumerate", data := .fields #[.none, .bool false, .ref s.heap.objs.size, rawInt 0, .none, .none] } }) :=
  .of_wp fun prog w A R s h => by
    obtain ⟨hp, g, d, tk, os⟩ := s; obtain ⟨hl, h⟩ := h
    have hsub := sub_enumerate
    have hT : Heap.IsTuple (Shared.heap ⟨hp, g, d, tk, os⟩) l items := ⟨_, hl, rfl, n, rfl⟩
    wp_walk using wpAny_loadPart' hl
    refine wpAny_stack_any fun st => wpAny_pure ?_
    split
    · rename_i c _ _ _ _ _
      cases (c == Value.type "enumerate")
      · wp_walk using wpAny_loadPart' hl, wpAny_pyIter_tuple hT
        exact ⟨_, rfl, h⟩
      · wp_walk using wpAny_loadPart' hl, wpAny_pyIter_tuple hT
        exact ⟨_, rfl, h⟩
    · wp_walk using wpAny_loadPart' hl, wpAny_pyIter_tuple hT
      exact ⟨_, rfl, h⟩
section
variable {prog : Program} {w : World} {A : Around} {E : Value → Shared → Prop} {s : Shared}
theorem ev_callEnumT {l : Addr} {items : Array Value} {Q : Value → Shared → Prop} (hL : s.heap.IsTuple l items)
    (h : ∀ h', IsEnum h' (s.heap.objs.size + 1) s.heap.objs.size 0 .none → h'.IsTupleIter s.heap.objs.size l 0 → h'.objs.size = s.heap.objs.size + 2 →
      (∀ b o, s.heap.get? b = some o → h'.get? b = some o) → Q (.ref (s.heap.objs.size + 1)) { s with heap := h' }) :
    wpAny (model prog w) A (call (.type "enumerate") [.ref l]) Q E s := by
  obtain ⟨⟨c, dct, dt, sl⟩, hl, hc, n, hd⟩ := hL
  replace hc : c = .type "tuple" := hc
  replace hd : dt = .seq items n := hd
  subst hc hd
  refine callType_new F.called_enumerate (by decide) (F.typeCall_enumerate_1 _) (F.newCall_enumerate_1 _) (fun obj => F.args_object_init_2 obj _) F.entry_enumerate_new
    (ev_enumNewT l items n dct sl) ⟨hl, ?_⟩
  have hz : (s.heap.push { cls := .type "tuple_iterator", data := .fields #[.ref l, .int 0 0] }).objs.size = s.heap.objs.size + 1 := Heap.size_push ..
  show _ ∧ _
  rw [hz]
  have he : IsEnum ((s.heap.push { cls := .type "tuple_iterator", data := .fields #[.ref l, .int 0 0] }).push
      { cls := .type "enumerate", data := .fields #[.none, .bool false, .ref s.heap.objs.size, rawInt 0, .none, .none] }) (s.heap.objs.size + 1) s.heap.objs.size 0 .none := by
    have := Heap.get?_push_size (s.heap.push { cls := .type "tuple_iterator", data := .fields #[.ref l, .int 0 0] })
      (o := { cls := .type "enumerate", data := .fields #[.none, .bool false, .ref s.heap.objs.size, rawInt 0, .none, .none] }) rfl
    rw [hz] at this; exact this
  refine ⟨⟨_, he, rfl⟩, h _ he ⟨_, Heap.get?_push_of_some _ (Heap.get?_push_size _ rfl), rfl, rfl⟩ (by rw [Heap.size_push, hz]) fun b o x => Heap.get?_push_of_some _ (Heap.get?_push_of_some _ x)⟩
theorem ev_nextOfT_item {it t : Addr} {i : Nat} {items} {x : Value} {Q : Value → Shared → Prop} (hit : s.heap.IsTupleIter it t i) (ht : s.heap.IsTuple t items) (hx : items[i]? = some x)
    (hQ : ∀ h', h'.IsTupleIter it t (i + 1) → Heap.SameBut it s.heap h' → Q x { s with heap := h' }) : wpAny (model prog w) A (Builtin.SmallTypes.nextOf (.ref it)) Q E s := by
  obtain ⟨o, ho, hc, hd⟩ := id hit
  obtain ⟨ol, hol, _, nl, hdl⟩ := ht
  unfold Builtin.SmallTypes.nextOf
  refine wpAny_bind (wpAny_callSpecial?_slot (name := Str.ofString "__next__") hit.typeIs F.slot_tuple_iterator_next
    (wpAny_call_entry F.slot_tuple_iterator_next hit.typeIs F.entry_tuple_iterator_next ?_ (F.args_tuple_iterator_next_1 _)))
  show wpAny _ _ (field (.ref it) 0 >>= _) _ _ s
  refine wpAny_bind (wpAny_field ho hd (x := .ref t) rfl ?_)
  show wpAny _ _ (if (Value.ref t == Value.none) = true then _ else _) _ _ s
  rw [if_neg (show ¬ ((Value.ref t == Value.none) = true) from Bool.false_ne_true)]
  show wpAny _ _ (field (.ref it) 1 >>= _) _ _ s
  refine wpAny_bind (wpAny_field ho hd (x := .int i 0) rfl ?_)
  show wpAny _ _ (seqItems? (.ref t) >>= _) _ _ s
  refine wpAny_bind (wpAny_seqItems hol hdl ?_)
  simp only [Int.toNat_natCast, hx]
  refine wpAny_bind (wpAny_setField ho hd (by simp) (wpAny_pure ⟨x, rfl, wpAny_pure (hQ _ ?_ (Heap.SameBut.update ..))⟩))
  exact ⟨_, Heap.get?_update_self _ ho (Obj.isFreed_of_fields (Obj.data_mapFields hd _)), (Obj.cls_mapFields ..).trans hc, by
    rw [Obj.data_mapFields hd]; simp [rawInt]⟩
theorem ev_nextOfT_end {it t : Addr} {i : Nat} {items} {Q : Value → Shared → Prop} (hh : A.handled = none) (hit : s.heap.IsTupleIter it t i) (ht : s.heap.IsTuple t items) (hx : items[i]? = none)
    (hE : ∀ h' e, Heap.ExtBut it s.heap h' → (∃ o, h'.get? e = some o ∧ o.cls = .type "StopIteration") → E (.ref e) { s with heap := h' }) : wpAny (model prog w) A (Builtin.SmallTypes.nextOf (.ref it)) Q E s := by
  obtain ⟨o, ho, hc, hd⟩ := id hit
  obtain ⟨ol, hol, _, nl, hdl⟩ := ht
  unfold Builtin.SmallTypes.nextOf
  refine wpAny_bind (wpAny_callSpecial?_slot (name := Str.ofString "__next__") hit.typeIs F.slot_tuple_iterator_next
    (wpAny_call_entry F.slot_tuple_iterator_next hit.typeIs F.entry_tuple_iterator_next ?_ (F.args_tuple_iterator_next_1 _)))
  show wpAny _ _ (field (.ref it) 0 >>= _) _ _ s
  refine wpAny_bind (wpAny_field ho hd (x := .ref t) rfl ?_)
  show wpAny _ _ (if (Value.ref t == Value.none) = true then _ else _) _ _ s
  rw [if_neg (show ¬ ((Value.ref t == Value.none) = true) from Bool.false_ne_true)]
  show wpAny _ _ (field (.ref it) 1 >>= _) _ _ s
  refine wpAny_bind (wpAny_field ho hd (x := .int i 0) rfl ?_)
  show wpAny _ _ (seqItems? (.ref t) >>= _) _ _ s
  refine wpAny_bind (wpAny_seqItems hol hdl ?_)
  simp only [Int.toNat_natCast, hx]
  refine wpAny_bind (wpAny_rule (wpAny_bind (wpAny_setField ho hd (by simp) ?_)))
  show wpAny _ _ (newExc (.type "StopIteration") [] >>= _) _ _ _
  refine wpAny_bind ?_
  simp only [newExc, newTuple]
  refine wpAny_bind (wpAny_newObj_type ?_ (by size_fits))
  refine wpAny_bind (m := firstArgMember _ _) (wpAny_of_eq (a := Value.none) (by first | rfl | (simp only [firstArgMember]; rfl)) ?_)
  refine wpAny_newObj_type ?_ (by size_fits)
  simp only [raiseNew]
  refine wpAny_bind (wpAny_handled ?_)
  first | rw [show A.in1.handled = none from hh] | rw [hh]
  refine wpAny_bind (wpAny_pure (wpAny_throw ?_))
  exact hE _ _ (((Heap.SameBut.update ..).extBut.push _).push _) ⟨_, Heap.get?_push_size _ rfl, rfl⟩
end
theorem Draws.evTuple {prog : Program} {w : World} {A : Around} (hh : A.handled = none) (it l : Addr) (hne : l ≠ it) (items : Array Value) :
    Draws prog w A it [it, l] items.size (fun i v => items[i]? = some v) (fun i h => h.IsTupleIter it l i ∧ h.IsTuple l items) where
  live := fun _ _ st => let ⟨o, ho, _⟩ := st.1; ⟨o, ho⟩
  frame := fun _ _ _ st hk => ⟨st.1.at fun o e => hk it (by simp) o e, let ⟨o, e, r⟩ := st.2; ⟨o, hk l (by simp) o e, r⟩⟩
  item := fun i s Q E hi st hQ => by
    refine ev_nextOfT_item st.1 st.2 (x := items[i]) (by simp [hi]) fun h' hit' hs' => ?_
    exact hQ _ h' s.toks (by simp [hi]) ⟨hit', st.2.extBut hs'.extBut hne⟩ hs'
  done := fun s Q E st hE => ev_nextOfT_end hh st.1 st.2 (by simp) hE
end PySem
namespace L2
open PySem PySem.Spec PyProof.Rows
/-- the tuple at a, the items in new pairs with their numbers -/
def IteT (K : PySem.W.Frag) (a : Addr) : It :=
  ⟨fun i H => ∃ xs x, SqT K H a xs ∧ xs[i]? = some x, fun i H v H' => ∃ T x, v = .ref T ∧ H T = none ∧ H' = upd H T (.tup [.int (i : Nat), x]) ∧ ∀ xs, SqT K H a xs → xs[i]? = some x, fun i H => ∃ xs, SqT K H a xs ∧ xs.length ≤ i⟩
theorem turn_enumT {P : Program} {w : World} {K : PySem.W.Frag} {elts : List Expr} {kk : Nat} {tpos : Pos} (a e it : Addr) (hai : a ≠ it) (hae : a ≠ e) :
    Turn P w K (.Tuple elts kk tpos) (IteT K a) [e, it] e (fun i h => (∃ old, IsEnum h e it ((i : Nat) : Int) old) ∧ h.IsTupleIter it a i ∧ e ≠ it) where
  mem := by simp
  obj := fun i h st b hb => by
    obtain ⟨⟨old, he⟩, ⟨o, ho, hc, hd⟩, _⟩ := st
    have e' : b = e ∨ b = it := by simpa using hb
    rcases e' with z | z
    · rw [z]; exact ⟨_, he, fun v q => nomatch q⟩
    · rw [z]; exact ⟨o, ho, fun v q => by rw [hd] at q; cases q⟩
  keep := fun i h h' st k => let ⟨⟨old, he⟩, hi, hne⟩ := st; ⟨⟨old, k e (by simp) _ he⟩, hi.at fun o q => k it (by simp) o q, hne⟩
  item := by
    intro X hP hw hK hc i pins s σ H E I hf st hg
    subst hP hw hK
    obtain ⟨⟨old, he⟩, hit, hne⟩ := st
    obtain ⟨xs, x, hq, hx⟩ := hg
    obtain ⟨its, rv, p, hz⟩ := I.tuple hq
    obtain ⟨u, hu, ru⟩ := rv.get hx
    have hel : e < s.heap.objs.size := Heap.lt_size he
    have hil : it < s.heap.objs.size := by obtain ⟨_, q, _⟩ := hit; exact Heap.lt_size q
    have hlt : i < its.toArray.size := by
      have := (List.getElem?_eq_some_iff.mp hu).1
      simpa using this
    refine wpAny_pyNext_enum_itemD (Draws.evTuple (A := X.A.in1) (I.ok.hd hc) it a hai its.toArray) he ⟨hit, (show Heap.IsTuple s.heap a its.toArray from p)⟩ hlt hne (fun z => (List.mem_cons.mp z).elim hne fun z => hae (List.mem_singleton.mp z).symm) fun u' h' tk hPu ho hst' hT hsz hk => ?_
    have eu : u' = u := by
      have h1 : its.toArray[i]? = some u' := hPu
      have h2 : its.toArray[i]? = some u := by simpa using hu
      rw [h1] at h2
      exact Option.some.inj h2
    subst eu
    refine ⟨_, rfl, wpAny_letOwnedTupleGo_enum (s := { s with heap := h', toks := tk + 1 }) ho fun h'' he' sb => ?_⟩
    have hT2 : h''.get? s.heap.objs.size = some { cls := .type "tuple", data := .seq #[.int i tk, u'] } := (sb.2 _ (Nat.ne_of_gt hel)).trans hT
    have new : ObjOk X.prog X.w (upd H s.heap.objs.size (.tup [.int (i : Nat), x])) h'' s.heap.objs.size (.tup [.int (i : Nat), x]) :=
      ⟨by show 2 ≤ sizeLine; decide, [.int i tk, u'], .cons ⟨_, rfl⟩ (.cons ru .nil), ⟨_, hT2, rfl, _, rfl⟩⟩
    have I1 : Inv X pins σ (upd H s.heap.objs.size (.tup [.int (i : Nat), x])) { s with heap := h'', toks := tk + 1 } :=
      I.turnedNew (ch := [e, it]) (fun b ob hb q => (sb.2 b (fun z => hb (by simp [z]))).trans (hk b ob (fun z => hb (by simp [z])) (fun z => hb (by simp [z])) q)) hf (Nat.le_refl _) new
    refine ⟨.ref s.heap.objs.size, _, I1, rfl, ⟨_, x, rfl, I.hok.fresh (Nat.le_refl _), rfl, fun ys hy => by rw [I.tuple_inj hy hq]; exact hx⟩, ⟨⟨u', ?_⟩, hst'.1.at fun o q => (sb.2 it (Ne.symm hne)).trans q, hne⟩, fun b hb => ?_⟩
    · have e1 : ((i + 1 : Nat) : Int) = (i : Int) + 1 := by omega
      rw [e1]; exact he'
    · have hb' : b < s.heap.objs.size := by
        have e' : b = e ∨ b = it := by simpa using hb
        rcases e' with z | z
        · rw [z]; exact hel
        · rw [z]; exact hil
      rw [upd_ne (Nat.ne_of_lt hb')]
      exact (hf b hb).1
  done := by
    intro X hP hw hK hc i pins s σ H E I hf st hg
    subst hP hw hK
    obtain ⟨⟨old, he⟩, hit, hne⟩ := st
    obtain ⟨xs, hq, hx⟩ := hg
    obtain ⟨its, rv, p, hz⟩ := I.tuple hq
    obtain ⟨f0, f1, f2, f3, f4, f5⟩ := hf it (by simp)
    have hl := rv.length
    have hT : Heap.IsTuple s.heap a its.toArray := p
    unfold pyNext
    refine wpAny_bind (wpAny_attempt (wpAny_callSpecial?_slot (name := Str.ofString "__next__") (⟨_, he, rfl⟩ : s.TypeIs (.ref e) "enumerate") F.slot_enumerate_next
      (wpAny_call_entry F.slot_enumerate_next ⟨_, he, rfl⟩ F.entry_enumerate_next ?_ (F.args_enumerate_next_1 _))))
    show wpAny _ _ (field (.ref e) 2 >>= _) _ _ _
    refine wpAny_bind (wpAny_field he rfl (x := .ref it) rfl ?_)
    refine wpAny_bind (ev_nextOfT_end (I.ok.hd hc) hit hT (by simp; omega) fun h' x he' hx' => ?_)
    obtain ⟨o, ho, hcc⟩ := hx'
    refine wpAny_bind (wpAny_isInstance (T := "StopIteration") (b := true) ⟨o, ho, hcc⟩ isSubtype_stop ?_)
    exact wpAny_pure ⟨rfl, I.turned (t' := s.toks) (fun b o hb q => he' b o hb q) f0 f1 f3 f4 f5⟩
  self := fun A i s Q E st h => let ⟨⟨_, he⟩, _⟩ := st; wpAny_pyIter_enum he h
def iEnumT (K : PySem.W.Frag) (ta : TA) : TI := fun σ H R => ta σ H fun vs H1 => ∃ a xs, vs = [.ref a] ∧ SqT K H1 a xs ∧ R (IteT K a) H1
theorem pi_enumT {X : Cx} {e : Expr} {ta : TA} {p pos tpos : Pos} {elts : List Expr} {kk : Nat} (hg : Gl X "enumerate") (hm : X.mg "enumerate" = none) (ha : PA X [e] ta) (hs : starEach [e] X.env = [(false, eval e X.env)] := by rfl) :
    PI X (.Tuple elts kk tpos) (.Call (.Name "enumerate" p) [e] [] pos) (iEnumT X.K ta) := by
  refine ⟨fun pins s σ H R I h => ?_⟩
  refine Call_ (ld_blt I hg hm boot_enumerate (PyProof.Rows.callWith_type1 (thn (ha.run pos pins s σ H _ I h) fun us s1 ⟨vs, H1, I1, r1, q1⟩ => ?_) hs rfl))
  obtain ⟨a, xs, ex, hq, q⟩ := q1
  subst ex
  cases r1 with
  | cons r rr =>
    cases rr
    cases r
    obtain ⟨its, rv, p', hz⟩ := I1.tuple hq
    have hT : Heap.IsTuple s1.heap a its.toArray := p'
    have hal : a < s1.heap.objs.size := let ⟨_, e, _⟩ := hT; Heap.lt_size e
    refine ev_callEnumT hT fun h' he hit hsz hk => wpAny_pyIter_enum he ?_
    have I2 : Inv X pins σ H1 { s1 with heap := h' } := I1.kept (t' := s1.toks) hk
    refine ⟨s1.heap.objs.size + 1, [s1.heap.objs.size + 1, s1.heap.objs.size], _, _, H1, rfl, I2, turn_enumT a (s1.heap.objs.size + 1) s1.heap.objs.size (Nat.ne_of_lt hal) (Nat.ne_of_lt (Nat.lt_succ_of_lt hal)), ⟨⟨.none, he⟩, hit, Nat.succ_ne_self _⟩, fun b hb => ?_, q⟩
    have e' : b = s1.heap.objs.size + 1 ∨ b = s1.heap.objs.size := by simpa using hb
    have hle : s1.heap.objs.size ≤ b := by
      rcases e' with z | z
      · rw [z]; exact Nat.le_add_right _ _
      · rw [z]; exact Nat.le_refl _
    exact I1.fpOk hle (I1.hok.fresh hle)
end L2
end
section
set_option maxRecDepth 100000
set_option maxHeartbeats 1000000
namespace Ev
open PySem PySem.Spec L2

def Tg.slots : Tg → List Nat
  | .nm i => [i]
  | .tp ts => ts.slots
  | .nil => []
  | .cons t ts => t.slots ++ ts.slots
def Tg.len : Tg → Nat
  | .cons _ ts => ts.len + 1
  | _ => 0

section
variable {Γ : Glob} {X : Cx} {P : Par} {U U' U1 O O' : Addr → Prop} {env env' env1 env2 env3 : Env} {σ σ' : St} {H H1 H2 H3 H' H'' : Hp} {a x y z r : A} {as as' : List A} {v w u : V} {vs ws : List V} {d e : D} {ds es' : List D} {W : WX} {pos p1 p2 apos cpos : Pos} {ea eb ec tg : Expr} {es : List Expr} {i j k : Nat} {t ts : Tg}

/-! ### targets -/
structure PostG (Γ : Glob) (U : Addr → Prop) (env : Env) (σ : St) (H : Hp) (sl : List Nat) (env' : Env) (σ' : St) : Prop where
  re : RE Γ U env' σ' H
  sub : ∀ b, Own env' σ' b → Own env σ b
  off : ∀ i, i ∉ sl → σ'[i]? = σ[i]?
  len : σ'.length = σ.length
def tG (Γ : Glob) (t : Tg) : TG := fun v σ H Q => ∃ U env d env', RE Γ U env σ H ∧ Rep Γ (fun b => U b ∨ Own env σ b) H v d ∧ bindT t d env = some env' ∧ ∀ σ', PostG Γ U env σ H t.slots env' σ' → Q σ' H
def tGs (Γ : Glob) (t : Tg) : TGs := fun vs σ H Q => ∃ U env ds env', RE Γ U env σ H ∧ Reps Γ (fun b => U b ∨ Own env σ b) H vs ds ∧ bindT.bindTs t ds env = some env' ∧ ∀ σ', PostG Γ U env σ H t.slots env' σ' → Q σ' H
def QG (Γ : Glob) (X : Cx) (e : Expr) (t : Tg) : Prop := ∀ xe, PG (X.wish xe) e (tG Γ t)
structure QGs (Γ : Glob) (X : Cx) (es : List Expr) (t : Tg) : Prop where
  run : ∀ xe, PGs (X.wish xe) es (tGs Γ t)
  len : es.length = t.len
theorem PG.imp {X : Cx} {e : Expr} {t t' : TG} (h : PG X e t) (hi : ∀ v σ H Q, t' v σ H Q → t v σ H Q) : PG X e t' := ⟨fun pins s σ H v u Q I r hq => h.run pins s σ H v u Q I r (hi v σ H Q hq)⟩
theorem PGs.imp {X : Cx} {e : List Expr} {t t' : TGs} (h : PGs X e t) (hi : ∀ v σ H Q, t' v σ H Q → t v σ H Q) : PGs X e t' := ⟨fun pins s σ H v u Q I r hq => h.run pins s σ H v u Q I r (hi v σ H Q hq)⟩
theorem PG.or {X : Cx} {e : Expr} {t t' : TG} (h : PG X e t) (h' : PG X e t') : PG X e (fun v σ H Q => t v σ H Q ∨ t' v σ H Q) := ⟨fun pins s σ H v u Q I r hq => hq.elim (h.run pins s σ H v u Q I r) (h'.run pins s σ H v u Q I r)⟩
theorem RE.bind (r : RE Γ U env σ H) (q : Rep Γ (fun b => U b ∨ Own env σ b) H v d) (hi : i < env.length) : PostG Γ U env σ H [i] (env.set i (some (.val d))) (σ.set i (some v)) := by
  have hσ : i < σ.length := by rw [← r.len]; exact hi
  have sub : ∀ b, Own (env.set i (some (.val d))) (σ.set i (some v)) b → Own env σ b := fun b ⟨j, e, e1, e2⟩ => by
    by_cases hj : i = j
    · subst hj
      rw [List.getElem?_set_self hi] at e1
      cases e1
    · rw [List.getElem?_set_ne hj] at e1 e2
      exact ⟨j, e, e1, e2⟩
  have less : ∀ b, U b ∨ Own (env.set i (some (.val d))) (σ.set i (some v)) b → U b ∨ Own env σ b := fun b z => z.imp id (sub b)
  refine ⟨⟨by rw [List.length_set, List.length_set]; exact r.len, fun j e e1 => ?_, fun j e e1 => ?_, fun j k b e e' e1 e2 e3 e4 => ?_, r.tabs, r.uth⟩, sub, fun j hj => ?_, by rw [List.length_set]⟩
  · by_cases hj : i = j
    · subst hj
      rw [List.getElem?_set_self hi] at e1
      cases e1
      exact ⟨v, List.getElem?_set_self hσ, q.less less⟩
    · rw [List.getElem?_set_ne hj] at e1
      obtain ⟨w, z1, z2⟩ := r.val j e e1
      exact ⟨w, by rw [List.getElem?_set_ne hj]; exact z1, z2.less less⟩
  · by_cases hj : i = j
    · subst hj
      rw [List.getElem?_set_self hi] at e1
      cases e1
    · rw [List.getElem?_set_ne hj] at e1
      obtain ⟨b, z1, z2, z3⟩ := r.own j e e1
      exact ⟨b, by rw [List.getElem?_set_ne hj]; exact z1, z2, z3.less less⟩
  · have h1 : i ≠ j := fun z => by subst z; rw [List.getElem?_set_self hi] at e1; cases e1
    have h2 : i ≠ k := fun z => by subst z; rw [List.getElem?_set_self hi] at e2; cases e2
    rw [List.getElem?_set_ne h1] at e1 e3
    rw [List.getElem?_set_ne h2] at e2 e4
    exact r.sep j k b e e' e1 e2 e3 e4
  · rw [List.getElem?_set_ne (fun z => hj (by simp [z]))]
theorem qg_nm {n : Str} (hN : X.N.Nodup) (hi : X.N[i]? = some n) (hx : Loc X.env.scope n) (hf : X.fn n = true ∨ X.env.scope.names.lookup n = some .local) : QG Γ X (.Name n pos) (.nm i) := fun xe =>
  PG.imp (pg_name (X := X.wish xe) hN hi hx hf) fun v σ H Q ⟨U, env, d, env', r, q, hb, h⟩ => by
    unfold bindT at hb
    split at hb
    · rename_i hlt
      cases hb
      exact h _ (r.bind q hlt)
    · cases hb
theorem assignEach_cons {e : Expr} {es : List Expr} {env : PySem.Env} (h : notStar e = true) : assignEach (e :: es) env = (false, assign e env) :: assignEach es env := by
  cases e <;> first | rfl | cases h
theorem assignEach_facts : ∀ {es : List Expr} {env : PySem.Env}, es.all notStar = true → (assignEach es env).length = es.length ∧ (assignEach es env).findIdx? (·.1) = none
  | [], _, _ => ⟨rfl, rfl⟩
  | e :: es, env, h => by
    rw [List.all_cons, Bool.and_eq_true] at h
    obtain ⟨h1, h2⟩ := assignEach_facts (es := es) (env := env) h.2
    rw [assignEach_cons h.1]
    exact ⟨by rw [List.length_cons, List.length_cons, h1], by rw [List.findIdx?_cons, h2]; rfl⟩
theorem PostG.comp {s1 s2 : List Nat} (p1 : PostG Γ U env σ H s1 env1 σ') (p2 : PostG Γ U env1 σ' H s2 env2 σ'') : PostG Γ U env σ H (s1 ++ s2) env2 σ'' :=
  ⟨p2.re, fun b z => p1.sub b (p2.sub b z), fun i hi => by
    rw [List.mem_append, not_or] at hi
    rw [p2.off i hi.2, p1.off i hi.1], p2.len.trans p1.len⟩
theorem qgs_nil : QGs Γ X [] .nil where
  len := rfl
  run := fun xe => PGs.imp pgs_nil fun vs σ H Q ⟨U, env, ds, env', r, q, hb, h⟩ => by
    cases q with
    | nil =>
      unfold bindT.bindTs at hb
      cases hb
      exact ⟨rfl, h σ ⟨r, fun _ z => z, fun _ _ => rfl, rfl⟩⟩
    | cons _ _ =>
      unfold bindT.bindTs at hb
      cases hb
theorem qgs_cons (h1 : QG Γ X ea t) (h2 : QGs Γ X es ts) (hst : notStar ea = true) : QGs Γ X (ea :: es) (.cons t ts) where
  len := by rw [List.length_cons, h2.len]; rfl
  run := fun xe => PGs.imp (pgs_cons (h1 xe) (h2.run xe) (by rw [assignEach_cons hst]; rfl)) fun vs0 σ H Q ⟨U, env, ds0, env', r, q, hb, h⟩ => by
    cases q with
    | nil => unfold bindT.bindTs at hb; cases hb
    | cons q qs =>
      rename_i v vs d ds
      unfold bindT.bindTs at hb
      split at hb
      · rename_i env1 hb1
        refine ⟨_, _, rfl, U, env, _, env1, r, q, hb1, fun σ1 p1 => ?_⟩
        exact ⟨U, env1, _, env', p1.re, qs.less fun b z => z.imp id (p1.sub b), hb, fun σ2 p2 => h σ2 (p1.comp p2)⟩
      · cases hb
theorem bindTs_len : ∀ {t : Tg} {ds : List D} {env env' : Env}, bindT.bindTs t ds env = some env' → ds.length = t.len
  | .nil, [], _, _, _ => rfl
  | .cons t ts, d :: ds, env, env', h => by
    unfold bindT.bindTs at h
    split at h
    · rw [List.length_cons, bindTs_len h]; rfl
    · cases h
  | .nil, _ :: _, _, _, h => by unfold bindT.bindTs at h; cases h
  | .cons _ _, [], _, _, h => by unfold bindT.bindTs at h; cases h
  | .nm _, _, _, _, h => by unfold bindT.bindTs at h; cases h
  | .tp _, _, _, _, h => by unfold bindT.bindTs at h; cases h
theorem qg_tp {k : Nat} (hs : QGs Γ X es ts) (hc : X.calm = true) (hst : es.all notStar = true) (hK : X.K = Γ.K) : QG Γ X (.Tuple es k pos) (.tp ts) := fun xe => by
  obtain ⟨f1, f2⟩ := assignEach_facts (env := X.env) hst
  refine PG.imp (PG.or (pg_tup (X := X.wish xe) hc (hs.run xe) f1 f2) (pg_lst (X := X.wish xe) hc (hs.run xe) f1 f2)) fun v σ H Q ⟨U, env, d, env', r, q, hb, h⟩ => ?_
  cases q with
  | tup q1 q2 =>
    unfold bindT at hb
    refine .inl ⟨_, _, rfl, ?_, ?_, U, env, _, env', r, q2, hb, h⟩
    · show SqT X.K H _ _
      rw [hK]
      exact SqT.of q1
    · rw [q2.length, bindTs_len hb, hs.len]
  | lst q1 _ q2 =>
    unfold bindT at hb
    exact .inr ⟨_, _, rfl, SqL.of q1, by rw [q2.length, bindTs_len hb, hs.len], U, env, _, env', r, q2, hb, h⟩
  | _ => unfold bindT at hb; cases hb

/-! ### what is walked -/
def YOk (Γ : Glob) (O : Addr → Prop) (H : Hp) (x : V) (H' : Hp) (d : D) : Prop :=
  (H' = H ∧ Rep Γ O H x d) ∨ ∃ p vs ds, H p = none ∧ H' = upd H p (.tup vs) ∧ x = .ref p ∧ d = .tup ds ∧ Reps Γ O H vs ds
theorem YOk.post (r : RE Γ U env σ H) (y : YOk Γ (fun b => U b ∨ Own env σ b) H v H' d) : Post Γ U env σ H (.val d) env v H' := by
  rcases y with ⟨rfl, q⟩ | ⟨p, vs, ds, hp, rfl, rfl, rfl, q⟩
  · exact .pure r q
  · exact .newTup r q hp
structure JOk (Γ : Glob) (O : Addr → Prop) (H : Hp) (J : L2.It) (ds : List D) : Prop where
  go : ∀ (i : Nat) (O' : Addr → Prop) (H' : Hp), Stp O H O' H' → i < ds.length → J.go i H'
  stop : ∀ (i : Nat) (O' : Addr → Prop) (H' : Hp), Stp O H O' H' → ds.length ≤ i → J.stop i H'
  yld : ∀ (i : Nat) (O' : Addr → Prop) (H' : Hp) (x : V) (H'' : Hp) (d : D), Stp O H O' H' → ds[i]? = some d → J.yld i H' x H'' → YOk Γ O' H' x H'' d
theorem get_lt {α : Type} {l : List α} {i : Nat} (h : i < l.length) : ∃ x, l[i]? = some x := ⟨l[i], by simp⟩
theorem jok_list (h : H b = some (.lst vs)) (n : ¬ O b) (r : Reps Γ O H vs ds) : JOk Γ O H (Itl Γ.K b) ds where
  go := fun i O' H' s hi => by
    obtain ⟨x, e⟩ := get_lt (l := vs) (i := i) (by rw [r.length]; exact hi)
    exact ⟨vs, x, SqL.of (s.lst h n), e⟩
  stop := fun i O' H' s hi => ⟨vs, SqL.of (s.lst h n), by rw [r.length]; exact hi⟩
  yld := fun i O' H' x H'' d s hd y => by
    obtain ⟨rfl, y⟩ := y
    have e := y vs (SqL.of (s.lst h n))
    obtain ⟨x', e1, e2⟩ := r.get hd
    rw [e] at e1
    cases e1
    exact .inl ⟨rfl, e2.stp s⟩
theorem jok_frz {o : Obj} (h : H b = some (.frz o (.lst vs))) (r : Reps Γ O H vs ds) : JOk Γ O H (Itl Γ.K b) ds where
  go := fun i O' H' s hi => by
    obtain ⟨x, e⟩ := get_lt (l := vs) (i := i) (by rw [r.length]; exact hi)
    exact ⟨vs, x, .inl (.inr ⟨o, s.frzs _ _ _ h⟩), e⟩
  stop := fun i O' H' s hi => ⟨vs, .inl (.inr ⟨o, s.frzs _ _ _ h⟩), by rw [r.length]; exact hi⟩
  yld := fun i O' H' x H'' d s hd y => by
    obtain ⟨rfl, y⟩ := y
    have e := y vs (.inl (.inr ⟨o, s.frzs _ _ _ h⟩))
    obtain ⟨x', e1, e2⟩ := r.get hd
    rw [e] at e1
    cases e1
    exact .inl ⟨rfl, e2.stp s⟩
theorem jok_tup (h : SqT Γ.K H b vs) (r : Reps Γ O H vs ds) : JOk Γ O H (Itt Γ.K b) ds where
  go := fun i O' H' s hi => by
    obtain ⟨x, e⟩ := get_lt (l := vs) (i := i) (by rw [r.length]; exact hi)
    exact ⟨vs, x, SqT_stp s h, e⟩
  stop := fun i O' H' s hi => ⟨vs, SqT_stp s h, by rw [r.length]; exact hi⟩
  yld := fun i O' H' x H'' d s hd y => by
    obtain ⟨rfl, y⟩ := y
    have e := y vs (SqT_stp s h)
    obtain ⟨x', e1, e2⟩ := r.get hd
    rw [e] at e1
    cases e1
    exact .inl ⟨rfl, e2.stp s⟩
theorem rngD_len : ∀ {lo : Int} {n : Nat}, (rngD lo n).length = n
  | _, 0 => rfl
  | lo, n + 1 => by unfold rngD; rw [List.length_cons, rngD_len]
theorem rngD_get : ∀ {lo : Int} {n i : Nat} {d : D}, (rngD lo n)[i]? = some d → d = .int (lo + i)
  | lo, n + 1, 0, d, h => by
    unfold rngD at h
    have h : some (D.int lo) = some d := by simpa using h
    cases h
    simp
  | lo, n + 1, i + 1, d, h => by
    unfold rngD at h
    have := rngD_get (lo := lo + 1) (n := n) (i := i) (d := d) (by simpa using h)
    rw [this]
    congr 1
    push_cast
    omega
  | _, 0, _, _, h => by unfold rngD at h; simp at h
theorem jok_rng {lo : Int} {n : Nat} : JOk Γ O H (Itr lo n) (rngD lo n) where
  go := fun i O' H' s hi => by rw [rngD_len] at hi; exact hi
  stop := fun i O' H' s hi => by rw [rngD_len] at hi; exact hi
  yld := fun i O' H' x H'' d s hd y => by
    obtain ⟨rfl, rfl⟩ := y
    rw [rngD_get hd]
    exact .inl ⟨rfl, .int _⟩
theorem rngC_len : ∀ {lo c : Int} {n : Nat}, (rngC lo c n).length = n
  | _, _, 0 => rfl
  | lo, c, n + 1 => by unfold rngC; rw [List.length_cons, rngC_len]
theorem rngC_get : ∀ {lo c : Int} {n i : Nat} {d : D}, (rngC lo c n)[i]? = some d → d = .int (lo + (i : Nat) * c)
  | lo, c, n + 1, 0, d, h => by
    unfold rngC at h
    have h : some (D.int lo) = some d := by simpa using h
    cases h
    simp
  | lo, c, n + 1, i + 1, d, h => by
    unfold rngC at h
    have := rngC_get (lo := lo + c) (n := n) (i := i) (d := d) (by simpa using h)
    rw [this]
    congr 1
    push_cast
    rw [Int.add_mul]
    omega
  | _, _, 0, _, _, h => by unfold rngC at h; simp at h
theorem jok_rngC {lo c : Int} {n : Nat} : JOk Γ O H (Itc lo c n) (rngC lo c n) where
  go := fun i O' H' s hi => by rw [rngC_len] at hi; exact hi
  stop := fun i O' H' s hi => by rw [rngC_len] at hi; exact hi
  yld := fun i O' H' x H'' d s hd y => by
    obtain ⟨rfl, rfl⟩ := y
    rw [rngC_get hd]
    exact .inl ⟨rfl, .int _⟩
theorem jok_str {z : Str} : JOk Γ O H (Its z) (z.cps.toList.map fun c => .str ⟨#[c]⟩) where
  go := fun i O' H' s hi => by
    show i < z.cps.size
    simpa using hi
  stop := fun i O' H' s hi => by
    show z.cps.size ≤ i
    simpa using hi
  yld := fun i O' H' x H'' d s hd y => by
    obtain ⟨rfl, c, e, rfl⟩ := y
    rw [List.getElem?_map, Array.getElem?_toList, e] at hd
    cases hd
    exact .inl ⟨rfl, .str _⟩
theorem enumD_len : ∀ {ds : List D} {i : Int}, (enumD i ds).length = ds.length
  | [], _ => rfl
  | d :: ds, i => by unfold enumD; rw [List.length_cons, enumD_len, List.length_cons]
theorem enumD_get : ∀ {ds : List D} {k : Int} {i : Nat} {d : D}, (enumD k ds)[i]? = some d → ∃ e, ds[i]? = some e ∧ d = .tup [.int (k + i), e]
  | x :: ds, k, 0, d, h => by
    unfold enumD at h
    have h : some (D.tup [.int k, x]) = some d := by simpa using h
    cases h
    exact ⟨x, rfl, by simp⟩
  | x :: ds, k, i + 1, d, h => by
    unfold enumD at h
    obtain ⟨e, e1, e2⟩ := enumD_get (ds := ds) (k := k + 1) (i := i) (d := d) (by simpa using h)
    refine ⟨e, by simpa using e1, ?_⟩
    rw [e2]
    congr 3
    push_cast
    omega
  | [], _, _, _, h => by unfold enumD at h; simp at h
theorem jok_enum (h : H b = some (.lst vs)) (n : ¬ O b) (r : Reps Γ O H vs ds) : JOk Γ O H (Ite Γ.K b) (enumD 0 ds) where
  go := fun i O' H' s hi => by
    rw [enumD_len] at hi
    obtain ⟨x, e⟩ := get_lt (l := vs) (i := i) (by rw [r.length]; exact hi)
    exact ⟨vs, x, SqL.of (s.lst h n), e⟩
  stop := fun i O' H' s hi => by
    rw [enumD_len] at hi
    exact ⟨vs, SqL.of (s.lst h n), by rw [r.length]; exact hi⟩
  yld := fun i O' H' x H'' d s hd y => by
    obtain ⟨T, x', rfl, hT, rfl, y⟩ := y
    obtain ⟨e, e1, rfl⟩ := enumD_get hd
    have q := y vs (SqL.of (s.lst h n))
    obtain ⟨x'', q1, q2⟩ := r.get e1
    rw [q] at q1
    cases q1
    refine .inr ⟨T, _, _, hT, rfl, rfl, rfl, .cons ?_ (.cons (q2.stp s) .nil)⟩
    rw [Int.zero_add]
    exact .int _

structure PostI (Γ : Glob) (U : Addr → Prop) (env : Env) (σ : St) (H : Hp) (ds : List D) (env' : Env) (J : L2.It) (H' : Hp) : Prop where
  re : RE Γ U env' σ H'
  st : Stp (Own env σ) H (Own env' σ) H'
  jok : JOk Γ (fun b => U b ∨ Own env' σ b) H' J ds
def tI (Γ : Glob) (m : M (List D)) (W : WX) : TI := fun σ H R => ∃ U env, RE Γ U env σ H ∧
  Wp (m env) (fun ds env' => ∀ J H', PostI Γ U env σ H ds env' J H' → R J H') fun x env' => ∀ cls d H', XPost Γ U env σ H x env' cls d H' → W cls d σ H'
def QI (Γ : Glob) (X : Cx) (tg it : Expr) (m : M (List D)) : Prop := ∀ (xe : Value → Shared → Prop) (W : WX), Takes (X.wish xe) W → PI (X.wish xe) tg it (tI Γ m W)
theorem PI.imp {X : Cx} {tg it : Expr} {t t' : TI} (h : PI X tg it t) (hi : ∀ σ H R, t' σ H R → t σ H R) : PI X tg it t' := ⟨fun pins s σ H R I hq => h.run pins s σ H R I (hi σ H R hq)⟩
theorem PI.or {X : Cx} {tg it : Expr} {t t' : TI} (h : PI X tg it t) (h' : PI X tg it t') : PI X tg it (fun σ H R => t σ H R ∨ t' σ H R) := ⟨fun pins s σ H R I hq => hq.elim (h.run pins s σ H R I) (h'.run pins s σ H R I)⟩
/-- the walked thing by its kind -/
theorem q_of {a : E} (ha : QE Γ X ea (evA P a)) (hK : X.K = Γ.K) : QI Γ X tg ea (evI P (.of a)) := fun xe W tk =>
  PI.imp (PI.or (pi_list (ha xe W tk)) (PI.or (pi_tup (ha xe W tk)) (pi_str (ha xe W tk)))) fun σ H R ⟨U, env, r, h⟩ => by
    simp only [evI] at h
    rw [Wp.bind] at h
    have exn : ∀ x e, evA P a env = .exn x e → iList X.K (tE Γ (evA P a) W) σ H R := fun x e q => by
      rw [q] at h
      exact ⟨U, env, r, by rw [q]; exact h⟩
    cases q : evA P a env with
    | exn x e => exact .inl (exn x e q)
    | stuck => rw [q] at h; exact h.elim
    | ok x env1 =>
      rw [q] at h
      have h : Wp ((x.freeze env1).bind fun d env => match itemsOf d with | some ds => Out.ok ds env | none => .stuck) _ _ := h
      have fz : ∀ {d : D} {env2 : Env} {v : V} {H1 : Hp}, x.freeze env1 = .ok d env2 → Post Γ U env σ H x env1 v H1 → Post Γ U env σ H (.val d) env2 v H1 := fun q2 p => p.frozen q2
      cases q2 : x.freeze env1 with
      | exn x' e => rw [q2] at h; cases x <;> simp only [A.freeze] at q2 <;> first | cases q2 | (split at q2 <;> cases q2)
      | stuck => rw [q2] at h; exact h.elim
      | ok d env2 =>
        rw [q2] at h
        have h : Wp (match itemsOf d with | some ds => Out.ok ds env2 | none => .stuck) _ _ := h
        have tE_ : ∀ {Q : VK}, (∀ v H1, Post Γ U env σ H (.val d) env2 v H1 → Q v H1) → tE Γ (evA P a) W σ H Q := fun hQ => ⟨U, env, r, by rw [q]; exact fun v H1 p => hQ v H1 (fz q2 p)⟩
        cases d with
        | lst ds =>
          refine .inl (tE_ fun v H1 p => ?_)
          have z : Rep Γ _ H1 v (.lst ds) := p.ra
          cases z with
          | lst z1 z2 z3 =>
            refine ⟨_, rfl, ⟨_, SqL.of z1⟩, ?_⟩
            have := h (Itl Γ.K _) H1 ⟨p.reU, p.st.shr fun b z => .inl z, jok_list z1 (fun z => z2 (z.imp .inl id)) (z3.less fun b z => z.imp .inl id)⟩
            rw [show (X.wish xe).K = Γ.K from hK]
            exact this
        | frz ds => exact h.elim
        | tup ds =>
          refine .inr (.inl (tE_ fun v H1 p => ?_))
          have z : Rep Γ _ H1 v (.tup ds) := p.ra
          cases z with
          | tup z1 z3 =>
            have := h (Itt Γ.K _) H1 ⟨p.reU, p.st.shr fun b z => .inl z, jok_tup (SqT.of z1) (z3.less fun b z => z.imp .inl id)⟩
            rw [show (X.wish xe).K = Γ.K from hK]
            exact ⟨_, rfl, ⟨_, SqT.of z1⟩, this⟩
        | str s =>
          refine .inr (.inr (tE_ fun v H1 p => ?_))
          have z : Rep Γ _ H1 v (.str s) := p.ra
          cases z
          exact ⟨_, rfl, h (Its s) H1 ⟨p.reU, p.st.shr fun b z => .inl z, jok_str⟩⟩
        | _ => exact h.elim
theorem in62_ok {i : Int} (h : in62 i = true) : -(2 ^ 62) ≤ i ∧ i < 2 ^ 62 := by
  have := Nat.le_of_ble_eq_true h
  omega
theorem q_rng1 {a : E} (ha : QE Γ X ea (evA P a)) (hg : Gl X "range") (hm : X.mg "range" = none) (hst : notStar ea = true) : QI Γ X tg (.Call (.Name "range" p1) [ea] [] pos) (evI P (.rng1 a)) := fun xe W tk =>
  PI.imp (pi_range1 (X := X.wish xe) hg hm (pa_cons (ha xe W tk) pa_nil (starEach_cons hst)) (starEach_cons hst)) fun σ H R ⟨U, env, r, h⟩ => by
    simp only [evI] at h
    refine (stepE r (fun x e cls d H' p q => q cls d H' p) h).mono fun v H1 ⟨x, env1, p, h⟩ => ?_
    split at h
    · rename_i j
      split at h
      · rename_i hj
        have z : Rep Γ _ H1 v (.int j) := p.ra
        cases z
        obtain ⟨h1, h2⟩ := in62_ok hj
        exact ⟨j, rfl, h1, h2, h _ _ ⟨p.reU, p.st.shr fun b z => .inl z, jok_rng⟩⟩
      · exact h.elim
    · exact h.elim
theorem q_rng2 {a b : E} (ha : QE Γ X ea (evA P a)) (hb : QE Γ X eb (evA P b)) (hg : Gl X "range") (hm : X.mg "range" = none) (hst : notStar ea = true) (hst2 : notStar eb = true) : QI Γ X tg (.Call (.Name "range" p1) [ea, eb] [] pos) (evI P (.rng2 a b)) := fun xe W tk =>
  PI.imp (pi_range2 (X := X.wish xe) hg hm (pa_cons (ha xe W tk) (pa_cons (hb xe W tk) pa_nil (starEach_cons hst2)) (starEach_cons hst)) (by rw [starEach_cons hst, starEach_cons hst2]; rfl) (starEach_cons hst2)) fun σ H R ⟨U, env, r, h⟩ => by
    simp only [evI] at h
    refine (stepE r (fun x e cls d H' p q => q cls d H' p) h).mono fun v H1 ⟨x, env1, p1, h⟩ => ?_
    refine (stepE p1.re (fun x e cls d H' p q => q cls d H' (p1.xcomp p)) h).mono fun w H2 ⟨y, env2, p2, h⟩ => ?_
    split at h
    · split at h
      · rename_i hij
        rw [Bool.and_eq_true] at hij
        have z1 : Rep Γ _ H1 v (.int _) := p1.ra
        have z2 : Rep Γ _ H2 w (.int _) := p2.ra
        cases z1
        cases z2
        obtain ⟨h1, h2⟩ := in62_ok hij.1
        obtain ⟨h3, h4⟩ := in62_ok hij.2
        have p12 := p1.comp p2
        exact ⟨_, _, rfl, ⟨h1, h2, h3, h4⟩, h _ _ ⟨p12.reU, p12.st.shr fun b z => .inl z, jok_rng⟩⟩
      · exact h.elim
    · exact h.elim
theorem jok_enumT (h : H b = some (.tup vs)) (r : Reps Γ O H vs ds) : JOk Γ O H (IteT Γ.K b) (enumD 0 ds) where
  go := fun i O' H' s hi => by
    rw [enumD_len] at hi
    obtain ⟨x, e⟩ := get_lt (l := vs) (i := i) (by rw [r.length]; exact hi)
    exact ⟨vs, x, SqT.of (s.tups _ _ h), e⟩
  stop := fun i O' H' s hi => by
    rw [enumD_len] at hi
    exact ⟨vs, SqT.of (s.tups _ _ h), by rw [r.length]; exact hi⟩
  yld := fun i O' H' x H2 d s hd y => by
    obtain ⟨T, x', rfl, hT, rfl, hx⟩ := y
    obtain ⟨e, he, rfl⟩ := enumD_get hd
    have q := hx vs (SqT.of (s.tups _ _ h))
    obtain ⟨v, hv, rv⟩ := (r.stp s).get he
    rw [q] at hv
    cases hv
    refine .inr ⟨T, [.int (i : Nat), x'], _, hT, rfl, rfl, rfl, .cons ?_ (.cons rv .nil)⟩
    have : (0 : Int) + (i : Nat) = ((i : Nat) : Int) := by omega
    rw [this]
    exact .int _
/-- enumerate(e) of a list or a tuple -/
theorem q_enum {elts : List Expr} {kk : Nat} {a : E} (ha : QE Γ X ea (evA P a)) (hg : Gl X "enumerate") (hm : X.mg "enumerate" = none) (hst : notStar ea = true) (hK : X.K = Γ.K) :
    QI Γ X (.Tuple elts kk p2) (.Call (.Name "enumerate" p1) [ea] [] pos) (evI P (.enum a)) := fun xe W tk =>
  PI.imp (PI.or (pi_enum (X := X.wish xe) hg hm (pa_cons (ha xe W tk) pa_nil (starEach_cons hst)) (starEach_cons hst)) (pi_enumT (X := X.wish xe) hg hm (pa_cons (ha xe W tk) pa_nil (starEach_cons hst)) (starEach_cons hst))) fun σ H R ⟨U, env, r, h⟩ => by
    simp only [evI] at h
    rw [Wp.bind] at h
    cases q : evA P a env with
    | exn x e =>
      rw [q] at h
      exact .inl ⟨U, env, r, by rw [q]; exact fun cls d H' p => h cls d H' p⟩
    | stuck => rw [q] at h; exact h.elim
    | ok x env1 =>
      rw [q] at h
      have h : Wp ((x.freeze env1).bind fun d env => match d with | .lst ds => Out.ok (enumD 0 ds) env | .tup ds => .ok (enumD 0 ds) env | _ => .stuck) (fun ds env' => ∀ J H', PostI Γ U env σ H ds env' J H' → R J H') (fun x env' => ∀ cls d H', XPost Γ U env σ H x env' cls d H' → W cls d σ H') := h
      have fz : ∀ {d : D} {env2 : Env} {v : V} {H1 : Hp}, x.freeze env1 = .ok d env2 → Post Γ U env σ H x env1 v H1 → Post Γ U env σ H (.val d) env2 v H1 := fun q2 p => p.frozen q2
      cases q2 : x.freeze env1 with
      | exn x' e => rw [q2] at h; cases x <;> simp only [A.freeze] at q2 <;> first | cases q2 | (split at q2 <;> cases q2)
      | stuck => rw [q2] at h; exact h.elim
      | ok d env2 =>
        rw [q2] at h
        have h : Wp (match d with | .lst ds => Out.ok (enumD 0 ds) env2 | .tup ds => .ok (enumD 0 ds) env2 | _ => .stuck) (fun ds env' => ∀ J H', PostI Γ U env σ H ds env' J H' → R J H') (fun x env' => ∀ cls d H', XPost Γ U env σ H x env' cls d H' → W cls d σ H') := h
        have tE_ : ∀ {Q : List V → Hp → Prop}, (∀ v H1, Post Γ U env σ H (.val d) env2 v H1 → Q [v] H1) → tCons (tE Γ (evA P a) W) tNil σ H Q := fun hQ => ⟨U, env, r, by rw [q]; exact fun v H1 p => hQ v H1 (fz q2 p)⟩
        cases d with
        | lst ds =>
          refine .inl (tE_ fun v H1 p => ?_)
          have z : Rep Γ _ H1 v (.lst ds) := p.ra
          cases z with
          | lst z1 z2 z3 =>
            have := h (Ite Γ.K _) H1 ⟨p.reU, p.st.shr fun b z => .inl z, jok_enum z1 (fun z => z2 (z.imp .inl id)) (z3.less fun b z => z.imp .inl id)⟩
            rw [show (X.wish xe).K = Γ.K from hK]
            exact ⟨_, _, rfl, SqL.of z1, this⟩
        | tup ds =>
          refine .inr (tE_ fun v H1 p => ?_)
          have z : Rep Γ _ H1 v (.tup ds) := p.ra
          cases z with
          | tup z1 z3 =>
            have := h (IteT Γ.K _) H1 ⟨p.reU, p.st.shr fun b z => .inl z, jok_enumT z1 (z3.less fun b z => z.imp .inl id)⟩
            rw [show (X.wish xe).K = Γ.K from hK]
            exact ⟨_, _, rfl, SqT.of z1, this⟩
        | _ => exact h.elim
end
end Ev
end
section
set_option maxRecDepth 100000
set_option maxHeartbeats 1000000
namespace Ev
open PySem PySem.Spec L2

theorem wipe_len {σ : St} : ∀ {ws : List Nat}, (wipe σ ws).length = σ.length := fun {ws} => wipe_length σ ws
theorem wipe_in {σ : St} {i : Nat} : ∀ {ws : List Nat}, i ∈ ws → i < σ.length → (wipe σ ws)[i]? = some none
  | w :: ws, h, hl => by
    unfold wipe
    by_cases e : w = i
    · subst e
      rw [List.getElem?_set_self (by rw [wipe_len]; exact hl)]
    · rw [List.getElem?_set_ne e]
      exact wipe_in ((List.mem_cons.mp h).resolve_left fun z => e z.symm) hl
theorem wipe_off {σ : St} {i : Nat} : ∀ {ws : List Nat}, i ∉ ws → (wipe σ ws)[i]? = σ[i]?
  | [], _ => rfl
  | w :: ws, h => by
    unfold wipe
    rw [List.getElem?_set_ne (fun z => h (by rw [z]; exact List.mem_cons_self))]
    exact wipe_off fun z => h (List.mem_cons_of_mem _ z)
theorem wipeE_len {env : Env} : ∀ {ws : List Nat}, (wipeE env ws).length = env.length
  | [] => rfl
  | w :: ws => by unfold wipeE; rw [List.length_set, wipeE_len]
theorem wipeE_in {env : Env} {i : Nat} : ∀ {ws : List Nat} {s : Sl}, i ∈ ws → (wipeE env ws)[i]? ≠ some (some s)
  | w :: ws, s, h, z => by
    unfold wipeE at z
    by_cases e : w = i
    · subst e
      by_cases hl : w < (wipeE env ws).length
      · rw [List.getElem?_set_self hl] at z; cases z
      · rw [List.getElem?_eq_none (by rw [List.length_set]; omega)] at z; cases z
    · rw [List.getElem?_set_ne e] at z
      exact wipeE_in ((List.mem_cons.mp h).resolve_left fun z => e z.symm) z
theorem wipeE_off {env : Env} {i : Nat} : ∀ {ws : List Nat}, i ∉ ws → (wipeE env ws)[i]? = env[i]?
  | [], _ => rfl
  | w :: ws, h => by
    unfold wipeE
    rw [List.getElem?_set_ne (fun z => h (by rw [z]; exact List.mem_cons_self))]
    exact wipeE_off fun z => h (List.mem_cons_of_mem _ z)
theorem backE_len {old env : Env} : ∀ {ws : List Nat}, (backE old env ws).length = env.length
  | [] => rfl
  | w :: ws => by
    unfold backE
    split
    · rw [List.length_set, backE_len]
    · exact backE_len
theorem backE_in {old env : Env} {i : Nat} (hl : i < old.length) (he : i < env.length) : ∀ {ws : List Nat}, i ∈ ws → (backE old env ws)[i]? = old[i]?
  | w :: ws, h => by
    unfold backE
    by_cases e : w = i
    · subst e
      obtain ⟨s, hs⟩ := get_lt hl
      rw [hs]
      dsimp only
      rw [List.getElem?_set_self (by rw [backE_len]; exact he)]
    · have ih := backE_in hl he ((List.mem_cons.mp h).resolve_left fun z => e z.symm)
      split
      · rw [List.getElem?_set_ne e]; exact ih
      · exact ih
theorem backE_off {old env : Env} {i : Nat} : ∀ {ws : List Nat}, i ∉ ws → (backE old env ws)[i]? = env[i]?
  | [], _ => rfl
  | w :: ws, h => by
    unfold backE
    have ih := backE_off (old := old) (env := env) (ws := ws) fun z => h (List.mem_cons_of_mem _ z)
    split
    · rw [List.getElem?_set_ne (fun z => h (by rw [z]; exact List.mem_cons_self))]; exact ih
    · exact ih
theorem wipe_ext {σ σ' : St} {ws : List Nat} (hl : σ'.length = σ.length) (h : ∀ i, i ∉ ws → σ'[i]? = σ[i]?) : wipe σ' ws = wipe σ ws := by
  apply List.ext_getElem?
  intro i
  by_cases hi : i ∈ ws
  · by_cases hlt : i < σ.length
    · rw [wipe_in hi hlt, wipe_in hi (by rw [hl]; exact hlt)]
    · rw [List.getElem?_eq_none (by rw [wipe_len]; omega), List.getElem?_eq_none (by rw [wipe_len]; omega)]
  · rw [wipe_off hi, wipe_off hi, h i hi]

section
variable {Γ : Glob} {X : Cx} {P : Par} {U U' U1 O O' : Addr → Prop} {env env' env1 env2 env3 : Env} {σ σ' : St} {H H1 H2 H3 H' H'' : Hp} {a x y z r : A} {as as' : List A} {v w u : V} {vs : List V} {ws : List Nat} {d e : D} {ds es' : List D} {W : WX} {pos p1 p2 apos cpos : Pos} {ea eb ec tg : Expr} {es : List Expr} {i j k : Nat} {t ts : Tg} {D0 : Addr} {acc : List V}

/-- what is out of reach in a block -/
def UW (U : Addr → Prop) (env : Env) (σ : St) (ws : List Nat) (b : Addr) : Prop := U b ∨ (Own env σ b ∧ ¬ Own (wipeE env ws) (wipe σ ws) b)
theorem own_wipe (b : Addr) (h : Own (wipeE env ws) (wipe σ ws) b) : Own env σ b := by
  obtain ⟨i, d, e1, e2⟩ := h
  by_cases hi : i ∈ ws
  · exact (wipeE_in hi e1).elim
  · rw [wipeE_off hi] at e1
    rw [wipe_off hi] at e2
    exact ⟨i, d, e1, e2⟩
theorem RE.wiped (r : RE Γ U env σ H) : RE Γ (UW U env σ ws) (wipeE env ws) (wipe σ ws) H := by
  have less : ∀ b, UW U env σ ws b ∨ Own (wipeE env ws) (wipe σ ws) b → U b ∨ Own env σ b := fun b z => z.elim (fun y => y.imp id fun k => k.1) fun y => .inr (own_wipe b y)
  have off : ∀ {i : Nat} {s : Sl}, (wipeE env ws)[i]? = some (some s) → i ∉ ws := fun e hi => wipeE_in hi e
  refine ⟨by rw [wipeE_len, wipe_len]; exact r.len, fun i d e => ?_, fun i d e => ?_, fun i j b d e h1 h2 h3 h4 => ?_, r.tabs, fun b z => ?_⟩
  · have hi := off e
    rw [wipeE_off hi] at e
    obtain ⟨v, e1, e2⟩ := r.val i d e
    exact ⟨v, by rw [wipe_off hi]; exact e1, e2.less less⟩
  · have hi := off e
    have e' := e
    rw [wipeE_off hi] at e
    obtain ⟨b, e1, e2, e3⟩ := r.own i d e
    have e1' : (wipe σ ws)[i]? = some (some (.ref b)) := by rw [wipe_off hi]; exact e1
    exact ⟨b, e1', fun z => z.elim e2 fun y => y.2 ⟨i, d, e', e1'⟩, e3.less less⟩
  · have hi := off h1
    have hj := off h2
    rw [wipeE_off hi] at h1
    rw [wipe_off hi] at h3
    rw [wipeE_off hj] at h2
    rw [wipe_off hj] at h4
    exact r.sep i j b d e h1 h2 h3 h4
  · rcases z with z | ⟨⟨i, d, e1, e2⟩, _⟩
    · exact r.uth b z
    · obtain ⟨c, q1, _, q3⟩ := r.own i d e1
      rw [e2] at q1
      cases q1
      exact Body_some q3
/-- a list that is nobody's here is written -/
theorem RE.setU {b : Addr} {us : List V} (r : RE Γ U env σ H) (hU : U b) (hb : H b = some (.lst acc)) : RE Γ U env σ (upd H b (.lst us)) := by
  have st : Stp (fun c => c = b) H (fun c => c = b) (upd H b (.lst us)) := Stp.set hb rfl
  have stO : Stp (fun c => U c ∨ Own env σ c) H (fun c => U c ∨ Own env σ c) (upd H b (.lst us)) := st.mono (fun c z => .inl (by rw [z]; exact hU)) fun c z => .inr (.inl z)
  have nt : ∀ P ∈ Γ.tabs, ¬ P = b := fun P hP z => by
    subst z
    obtain ⟨o, e, q⟩ := r.tabs P hP
    rw [hb] at e
    cases e
    exact q.ne_lst
  refine ⟨r.len, fun i d e => ?_, fun i d e => ?_, r.sep, r.tabs.stp st nt, fun c z => ?_⟩
  · obtain ⟨v, e1, e2⟩ := r.val i d e
    exact ⟨v, e1, e2.stp stO⟩
  · obtain ⟨c, e1, e2, e3⟩ := r.own i d e
    have hc : c ≠ b := fun z => by subst z; exact e2 hU
    exact ⟨c, e1, e2, e3.stp stO fun o m q => by rw [upd_ne hc]; exact q⟩
  · obtain ⟨o, e⟩ := r.uth c z
    exact st.there c o e
theorem JOk.stp {J : L2.It} (j : JOk Γ O H J ds) (s : Stp O H O' H') : JOk Γ O' H' J ds :=
  ⟨fun i O2 H2 t hi => j.go i O2 H2 (s.comp t fun _ z => z) hi, fun i O2 H2 t hi => j.stop i O2 H2 (s.comp t fun _ z => z) hi, fun i O2 H2 x H3 d t hd y => j.yld i O2 H2 x H3 d (s.comp t fun _ z => z) hd y⟩

/-- the loop's state behind some turns: env1, H1 ahead of it; D0 the new list -/
structure LcI (Γ : Glob) (U : Addr → Prop) (env1 : Env) (σ : St) (H1 : Hp) (ws : List Nat) (D0 : Addr) (ys : List D) (env : Env) (H : Hp) : Prop where
  ex : ∃ (U' : Addr → Prop) (acc : List V), RE Γ U' env (wipe σ ws) H ∧ (∀ b, UW U env1 σ ws b ∨ b = D0 → U' b) ∧
    (∀ b, U' b → (UW U env1 σ ws b ∨ b = D0) ∨ Own (wipeE env1 ws) (wipe σ ws) b ∨ upd H1 D0 (.lst []) b = none) ∧
    H D0 = some (.lst acc) ∧ Reps Γ (fun b => U' b ∨ Own env (wipe σ ws) b) H acc ys
  st : Stp (fun b => Own (wipeE env1 ws) (wipe σ ws) b ∨ b = D0) (upd H1 D0 (.lst [])) (fun b => Own env (wipe σ ws) b ∨ b = D0) H
theorem LcI.start (r : RE Γ U env1 σ H1) (hD : H1 D0 = none) : LcI Γ U env1 σ H1 ws D0 [] (wipeE env1 ws) (upd H1 D0 (.lst [])) := by
  have s : Stp (fun _ => False) H1 (fun b => False ∨ b = D0) (upd H1 D0 (.lst [])) := Stp.new hD
  refine ⟨⟨fun b => UW U env1 σ ws b ∨ b = D0, [], ?_, fun _ z => z, fun _ z => .inl z, upd_same, .nil⟩, Stp.refl _ _⟩
  refine r.wiped.stp (s.shr fun b z => z.1.elim (fun y => (z.2 y).elim) .inr) (fun _ z => .inl z) fun b z => z.elim (fun y => let ⟨o, e⟩ := r.wiped.uth b y; s.there b o e) fun y => ⟨.lst [], by rw [y]; exact upd_same⟩
/-- a turn has an end: b an item or none -/
theorem LcI.turn {y : Option D} {env4 : Env} {σ2 : St} {H4 : Hp} {U' : Addr → Prop} {ys : List D} {vy : V} (r : RE Γ U' env (wipe σ ws) H) (h1 : ∀ b, UW U env1 σ ws b ∨ b = D0 → U' b)
    (h2 : ∀ b, U' b → (UW U env1 σ ws b ∨ b = D0) ∨ Own (wipeE env1 ws) (wipe σ ws) b ∨ upd H1 D0 (.lst []) b = none) (hD : H D0 = some (.lst acc)) (hys : Reps Γ (fun b => U' b ∨ Own env (wipe σ ws) b) H acc ys)
    (st : Stp (fun b => Own (wipeE env1 ws) (wipe σ ws) b ∨ b = D0) (upd H1 D0 (.lst [])) (fun b => Own env (wipe σ ws) b ∨ b = D0) H)
    (r4 : RE Γ U' env4 σ2 H4) (s4 : Stp (Own env (wipe σ ws)) H (Own env4 σ2) H4) (hw : wipe σ2 ws = wipe σ ws) :
    H4 D0 = some (.lst acc) ∧ (LcI Γ U env1 σ H1 ws D0 ys (wipeE env4 ws) H4) ∧
      (∀ d, Rep Γ (fun b => U' b ∨ Own env4 σ2 b) H4 vy d → LcI Γ U env1 σ H1 ws D0 (ys ++ [d]) (wipeE env4 ws) (upd H4 D0 (.lst (acc ++ [vy])))) := by
  have UD : U' D0 := h1 D0 (.inr rfl)
  have nD : ¬ Own env (wipe σ ws) D0 := fun ⟨i, d, e1, e2⟩ => by
    obtain ⟨b, q1, q2, _⟩ := r.own i d e1
    rw [e2] at q1
    cases q1
    exact q2 UD
  have hD4 : H4 D0 = some (.lst acc) := s4.lst hD nD
  have st4 : Stp (fun b => Own (wipeE env1 ws) (wipe σ ws) b ∨ b = D0) (upd H1 D0 (.lst [])) (fun b => Own env4 σ2 b ∨ b = D0) H4 :=
    (st.comp s4 fun b z => .inl z).mono (fun _ z => z) fun b z => z.imp id fun y => .inl (.inr y)
  have rw4 := r4.wiped (ws := ws)
  rw [hw] at rw4
  have ow : ∀ b, Own (wipeE env4 ws) (wipe σ ws) b → Own env4 σ2 b := fun b z => own_wipe (σ := σ2) b (by rw [hw]; exact z)
  have less : ∀ b, UW U' env4 σ2 ws b ∨ Own (wipeE env4 ws) (wipe σ ws) b → U' b ∨ Own env4 σ2 b := fun b z => z.elim (fun y => y.imp id fun k => k.1) fun y => .inr (ow b y)
  have c1 : ∀ b, UW U env1 σ ws b ∨ b = D0 → UW U' env4 σ2 ws b := fun b z => .inl (h1 b z)
  have c2 : ∀ b, UW U' env4 σ2 ws b → (UW U env1 σ ws b ∨ b = D0) ∨ Own (wipeE env1 ws) (wipe σ ws) b ∨ upd H1 D0 (.lst []) b = none := fun b z => by
    rcases z with z | ⟨z, _⟩
    · exact h2 b z
    · rcases st4.sub b (.inl z) with (y | y) | y
      · exact .inr (.inl y)
      · exact .inl (.inr y)
      · exact .inr (.inr y)
  have s4O : Stp (fun b => U' b ∨ Own env (wipe σ ws) b) H (fun b => U' b ∨ Own env4 σ2 b) H4 := s4.mono (fun _ z => .inr z) fun b z => z.elim (fun y => .inr (.inl (.inl y))) .inl
  have stw : Stp (fun b => Own (wipeE env1 ws) (wipe σ ws) b ∨ b = D0) (upd H1 D0 (.lst [])) (fun b => Own (wipeE env4 ws) (wipe σ ws) b ∨ b = D0) H4 := st4.shr fun b z => z.imp (ow b) id
  refine ⟨hD4, ⟨⟨_, acc, rw4, c1, c2, hD4, (hys.stp s4O).less less⟩, stw⟩, fun d q => ?_⟩
  have sD : Stp (fun c => c = D0) H4 (fun c => c = D0) (upd H4 D0 (.lst (acc ++ [vy]))) := Stp.set hD4 rfl
  have sDO : Stp (fun b => U' b ∨ Own env4 σ2 b) H4 (fun b => UW U' env4 σ2 ws b ∨ Own (wipeE env4 ws) (wipe σ ws) b) (upd H4 D0 (.lst (acc ++ [vy]))) :=
    sD.mono (fun c z => .inl (by rw [z]; exact UD)) fun c z => .inr (.inl (less c z))
  refine ⟨⟨_, acc ++ [vy], rw4.setU (.inl UD) hD4, c1, c2, upd_same, ((hys.stp s4O).stp sDO).append (.cons (q.stp sDO) .nil)⟩, ?_⟩
  exact (stw.comp (sD.mono (W1 := fun b => Own (wipeE env4 ws) (wipe σ ws) b ∨ b = D0) (fun c z => .inr z) fun b z => .inr (.inl z)) fun _ z => z)
/-- behind the loop -/
theorem LcI.fin {ys : List D} (p0 : PostI Γ U env σ H ds env1 J H1) (hD : H1 D0 = none) (l : LcI Γ U env1 σ H1 ws D0 ys env' H') : Post Γ U env σ H (.tmp (.lst ys)) (backE env1 env' ws) (.ref D0) H' := by
  obtain ⟨⟨U', acc, r, h1, h2, hD', hys⟩, st⟩ := l
  have r1 := p0.re
  have hlen : env'.length = env1.length := by rw [r.len, wipe_len, ← r1.len]
  have sT : Stp (Own (wipeE env1 ws) (wipe σ ws)) H1 (fun b => Own env' (wipe σ ws) b ∨ b = D0) H' := (Stp.new (W := Own (wipeE env1 ws) (wipe σ ws)) hD).comp st fun _ z => z
  have in_ : ∀ {i : Nat} {s : Sl}, i ∈ ws → (backE env1 env' ws)[i]? = some (some s) → env1[i]? = some (some s) := fun {i s} hi e => by
    have hl : i < env'.length := by
      have := (List.getElem?_eq_some_iff.mp e).1
      rwa [backE_len] at this
    rw [backE_in (by rw [← hlen]; exact hl) hl hi] at e
    exact e
  -- the things of the block's own names
  have inU : ∀ {i : Nat} {d : D} {b : Addr}, i ∈ ws → env1[i]? = some (some (.own d)) → σ[i]? = some (some (.ref b)) → UW U env1 σ ws b := fun {i d b} hi e1 e2 => by
    refine .inr ⟨⟨i, d, e1, e2⟩, fun ⟨j, d', q1, q2⟩ => ?_⟩
    have hj : j ∉ ws := fun z => wipeE_in z q1
    rw [wipeE_off hj] at q1
    rw [wipe_off hj] at q2
    have := r1.sep i j b d d' e1 q1 e2 q2
    subst this
    exact hj hi
  have ownB : ∀ b, Own (backE env1 env' ws) σ b → (UW U env1 σ ws b ∧ Own env1 σ b) ∨ Own env' (wipe σ ws) b := fun b ⟨i, d, e1, e2⟩ => by
    by_cases hi : i ∈ ws
    · have e1' := in_ hi e1
      exact .inl ⟨inU hi e1' e2, i, d, e1', e2⟩
    · rw [backE_off hi] at e1
      exact .inr ⟨i, d, e1, by rw [wipe_off hi]; exact e2⟩
  have sub : ∀ b, UA U (.tmp (.lst ys)) (.ref D0) b ∨ Own (backE env1 env' ws) σ b → U' b ∨ Own env' (wipe σ ws) b := fun b z => by
    rcases z with (z | z) | z
    · exact .inl (h1 b (.inl (.inl z)))
    · exact .inl (h1 b (.inr z))
    · rcases ownB b z with ⟨y, _⟩ | y
      · exact .inl (h1 b (.inl y))
      · exact .inr y
  have sTO : Stp (fun b => U b ∨ Own env1 σ b) H1 (fun b => UA U (.tmp (.lst ys)) (.ref D0) b ∨ Own (backE env1 env' ws) σ b) H' := sT.mono (fun b z => .inr (own_wipe b z)) fun b z => by
    rcases z with (z | z) | z
    · exact .inr (.inl (.inl z))
    · exact .inl (.inr z)
    · rcases ownB b z with ⟨_, y⟩ | y
      · exact .inr (.inl (.inr y))
      · exact .inl (.inl y)
  refine ⟨⟨by rw [backE_len, r.len, wipe_len], fun i d e => ?_, fun i d e => ?_, fun i k b d e e1 e2 e3 e4 => ?_, r.tabs, fun b z => ?_⟩, ?_, ?_⟩
  · by_cases hi : i ∈ ws
    · obtain ⟨v, q1, q2⟩ := r1.val i d (in_ hi e)
      exact ⟨v, q1, q2.stp sTO⟩
    · rw [backE_off hi] at e
      obtain ⟨v, q1, q2⟩ := r.val i d e
      rw [wipe_off hi] at q1
      exact ⟨v, q1, q2.less sub⟩
  · by_cases hi : i ∈ ws
    · have e' := in_ hi e
      obtain ⟨b, q1, q2, q3⟩ := r1.own i d e'
      have nw : ¬ Own (wipeE env1 ws) (wipe σ ws) b := (inU hi e' q1).elim (fun z => (q2 z).elim) fun z => z.2
      obtain ⟨o, ho⟩ := Body_some q3
      refine ⟨b, q1, fun z => z.elim q2 fun y => ?_, q3.stp sTO fun o m hv => sT.mu hv m nw⟩
      rw [show b = D0 from y, hD] at ho
      cases ho
    · rw [backE_off hi] at e
      obtain ⟨b, q1, q2, q3⟩ := r.own i d e
      rw [wipe_off hi] at q1
      exact ⟨b, q1, fun z => q2 (z.elim (fun y => h1 b (.inl (.inl y))) fun y => h1 b (.inr y)), q3.less sub⟩
  · have mixed : ∀ {i k : Nat} {d e : D}, i ∈ ws → k ∉ ws → (backE env1 env' ws)[i]? = some (some (.own d)) → (backE env1 env' ws)[k]? = some (some (.own e)) → σ[i]? = some (some (.ref b)) → σ[k]? = some (some (.ref b)) → False := fun {i k d e} hi hk g1 g2 g3 g4 => by
      rw [backE_off hk] at g2
      obtain ⟨c, q1, q2, _⟩ := r.own k e g2
      rw [wipe_off hk, g4] at q1
      cases q1
      exact q2 (h1 b (.inl (inU hi (in_ hi g1) g3)))
    by_cases hi : i ∈ ws
    · by_cases hk : k ∈ ws
      · exact r1.sep i k b d e (in_ hi e1) (in_ hk e2) e3 e4
      · exact (mixed hi hk e1 e2 e3 e4).elim
    · by_cases hk : k ∈ ws
      · exact (mixed hk hi e2 e1 e4 e3).elim
      · rw [backE_off hi] at e1
        rw [backE_off hk] at e2
        exact r.sep i k b d e e1 e2 (by rw [wipe_off hi]; exact e3) (by rw [wipe_off hk]; exact e4)
  · rcases z with z | z
    · obtain ⟨o, e⟩ := r1.uth b z
      exact sT.there b o e
    · exact ⟨.lst acc, by rw [show b = D0 from z]; exact hD'⟩
  · refine ⟨D0, rfl, fun z => ?_, acc, hD', hys.less sub⟩
    obtain ⟨o, e⟩ := r1.uth D0 z
    rw [hD] at e
    cases e
  · refine ((p0.st.comp sT fun b z => own_wipe b z).add (V' := Own env1 σ) fun b z => p0.st.sub b z).shr fun b z => ?_
    rcases z with z | z
    · rcases ownB b z with ⟨_, y⟩ | y
      · exact .inr y
      · exact .inl (.inl y)
    · exact .inl (.inr z)

/-! ### a comprehension -/
/-- the tests of a clause -/
def QC (Γ : Glob) (X : Cx) (ifs : List Expr) (m : M Bool) : Prop := ∀ (xe : Value → Shared → Prop) (W : WX), Takes (X.wish xe) W → PTs (X.wish xe) ifs (tT Γ m W)
theorem qc_nil : QC Γ X [] (evC P .nil) := fun xe W tk => ⟨fun pins s σ H Q I ⟨U, env, r, h⟩ => by
  simp only [evC] at h
  exact (pts_nil (X := X.wish xe)).run pins s σ H Q I (h H (.pure r (.bl true)))⟩
theorem qc_one {a : E} {as : Es} (ha : QT Γ X ea (evT P a)) : QC Γ X [ea] (evC P (.cons a as)) := fun xe W tk => by
  have := pts_one (ha xe W tk)
  simp only [evC]
  exact this
def lcB (P : Par) (t : Tg) (c : Es) (elt : E) (ws : List Nat) (d : D) (env : Env) : Out (Option D) := match bindT t d env with
  | some env => (evC P c env).bind fun k env => if k then (evA P elt env).bind fun a env => (a.freeze env).bind fun y env => .ok (some y) (wipeE env ws) else .ok none (wipeE env ws)
  | none => .stuck
/-- what the evaluator says of a comprehension gives what its rule asks -/
theorem lc_imp {el : E} {it : It} {c : Es} {ws : List Nat} {W : WX} {Q : VK} (hsl : ∀ i ∈ t.slots, i ∈ ws) (h : tE Γ (evA P (.lc el t it c ws)) W σ H Q) :
    tLc (tI Γ (evI P it) W) (tG Γ t) (tT Γ (evC P c) fun _ _ _ _ => False) (tE Γ (evA P el) fun _ _ _ _ => False) ws σ H Q := by
  obtain ⟨U, env, r, h⟩ := h
  simp only [evA] at h
  rw [Wp.bind] at h
  refine ⟨U, env, r, h.mono (fun ds env1 h J H1 p0 => ?_) fun _ _ q => q⟩
  intro D0 hD
  refine ⟨fun i m Hi => ∃ envi ys, m = ds.length - i ∧ i ≤ ds.length ∧ LcI Γ U env1 σ H1 ws D0 ys envi Hi ∧
    Wp (lcL (lcB P t c el ws) (ds.drop i) ys envi) (fun ys env' => ∀ v H', Post Γ U env σ H (.tmp (.lst ys)) (backE env1 env' ws) v H' → Q v H') (fun _ _ => False), ⟨ds.length, _, [], by simp, Nat.zero_le _, .start p0.re hD, ?_⟩, ?_⟩
  · show Wp (lcL (lcB P t c el ws) ds [] (wipeE env1 ws)) _ _
    have h' : Wp (match lcL (lcB P t c el ws) ds [] (wipeE env1 ws) with | .ok ys env' => Out.ok (A.tmp (.lst ys)) (backE env1 env' ws) | _ => .stuck) _ _ := h
    cases q : lcL (lcB P t c el ws) ds [] (wipeE env1 ws) with
    | ok ys env' => rw [q] at h'; exact h'
    | exn x e => rw [q] at h'; exact h'
    | stuck => rw [q] at h'; exact h'
  · rintro i m Hi ⟨envi, ys, rfl, hil, l, h⟩
    obtain ⟨⟨U', acc, r1, h1, h2, hD1, hys⟩, st⟩ := id l
    have jst : Stp (fun b => U b ∨ Own env1 σ b) H1 (fun b => U' b ∨ Own envi (wipe σ ws) b) Hi :=
      (Stp.new (W := fun b => U b ∨ Own env1 σ b) hD).comp (st.mono (W1 := fun b => (U b ∨ Own env1 σ b) ∨ b = D0) (W2 := fun b => U' b ∨ Own envi (wipe σ ws) b) (fun b z => z.imp (fun y => .inr (own_wipe b y)) id) fun b z => by
        rcases z with z | z
        · rcases h2 b z with (y | y) | y | y
          · exact .inr (.inl (.inl (y.imp id fun k => k.1)))
          · exact .inr (.inl (.inr y))
          · exact .inr (.inl (.inl (.inr (own_wipe b y))))
          · exact .inr (.inr y)
        · exact .inl (.inl z)) fun _ z => z
    by_cases hlt : i < ds.length
    · refine .inr ⟨p0.jok.go i _ _ jst hlt, fun H' => ∃ envi ys, LcI Γ U env1 σ H1 ws D0 ys envi H' ∧
        Wp (lcL (lcB P t c el ws) (ds.drop (i + 1)) ys envi) (fun ys env' => ∀ v H', Post Γ U env σ H (.tmp (.lst ys)) (backE env1 env' ws) v H' → Q v H') (fun _ _ => False),
        fun H' ⟨envi, ys, l, h⟩ => ⟨ds.length - (i + 1), by omega, envi, ys, rfl, hlt, l, h⟩, fun x H' hy => ?_⟩
      obtain ⟨d, hd⟩ := get_lt hlt
      have hdrop : ds.drop i = d :: ds.drop (i + 1) := by
        rw [List.drop_eq_getElem_cons hlt]
        congr 1
        rw [List.getElem?_eq_getElem hlt] at hd
        exact Option.some.inj hd
      rw [hdrop] at h
      have py := YOk.post r1 (p0.jok.yld i _ _ x H' d jst hd hy)
      unfold lcL at h
      have hb : Wp (lcB P t c el ws d envi) (fun o e => match o with
          | some y => ys.length < sizeLine ∧ Wp (lcL (lcB P t c el ws) (ds.drop (i + 1)) (ys ++ [y]) e) (fun ys env' => ∀ v H', Post Γ U env σ H (.tmp (.lst ys)) (backE env1 env' ws) v H' → Q v H') (fun _ _ => False)
          | none => Wp (lcL (lcB P t c el ws) (ds.drop (i + 1)) ys e) (fun ys env' => ∀ v H', Post Γ U env σ H (.tmp (.lst ys)) (backE env1 env' ws) v H' → Q v H') (fun _ _ => False)) (fun _ _ => False) := by
        cases q : lcB P t c el ws d envi with
        | ok o e =>
          rw [q] at h
          cases o with
          | none => exact h
          | some y =>
            dsimp only at h
            split at h
            · rename_i hz; exact ⟨hz, h⟩
            · exact h.elim
        | exn x e => rw [q] at h; exact h
        | stuck => rw [q] at h; exact h
      unfold lcB at hb
      split at hb
      · rename_i envb hbind
        have rb := py.reU
        have qx : Rep Γ (fun b => U' b ∨ Own envi (wipe σ ws) b) H' x d := Rep.less (fun b z => z.imp .inl id) (show Rep Γ (fun b => UA U' (.val d) x b ∨ Own envi (wipe σ ws) b) H' x d from py.ra)
        refine ⟨U', envi, d, envb, rb, qx, hbind, fun σ2 pg => ?_⟩
        have hw : wipe σ2 ws = wipe σ ws := by
          rw [wipe_ext (σ := wipe σ ws) pg.len fun i hi => pg.off i fun z => hi (hsl i z)]
          exact wipe_ext (wipe_len) fun i hi => wipe_off hi
        refine ⟨hw, ?_⟩
        have sg : Stp (Own envi (wipe σ ws)) Hi (Own envb σ2) H' := py.st.shr fun b z => .inl (pg.sub b z)
        refine (stepT pg.re (fun _ _ _ _ _ _ q => q.elim) hb).mono fun k H3 ⟨env3, p3, hb⟩ => ?_
        cases k with
        | false =>
          rw [if_neg Bool.false_ne_true] at hb ⊢
          have r3 : RE Γ U' env3 σ2 H3 := p3.reU
          obtain ⟨_, l2, _⟩ := LcI.turn (y := none) (vy := .non) r1 h1 h2 hD1 hys st r3 (sg.comp (p3.st.shr fun b z => .inl z) fun _ z => z) hw
          exact ⟨_, ys, l2, hb⟩
        | true =>
          rw [if_pos rfl] at hb ⊢
          refine (stepE p3.reU (fun _ _ _ _ _ _ q => q.elim) hb).mono fun vy H4 ⟨a, env4, p4, hb⟩ => ?_
          obtain ⟨y, env5, p5, hb⟩ := freeze_step p4 hb
          have s5 : Stp (Own envi (wipe σ ws)) Hi (Own env5 σ2) H4 := (sg.comp (p3.st.shr fun b z => .inl z) fun _ z => z).comp (p5.st.shr fun b z => .inl z) fun _ z => z
          obtain ⟨g1, _, g3⟩ := LcI.turn (y := none) (vy := vy) r1 h1 h2 hD1 hys st p5.reU s5 hw
          obtain ⟨hz, hb⟩ : ys.length < sizeLine ∧ _ := hb
          exact ⟨acc, g1, by rw [hys.length]; exact hz, _, _, g3 y (Rep.less (fun b z => z.imp .inl id) p5.ra), hb⟩
      · exact hb.elim
    · have e : i = ds.length := by omega
      subst e
      rw [List.drop_length] at h
      refine .inl ⟨p0.jok.stop _ _ _ jst (Nat.le_refl _), ?_⟩
      unfold lcL at h
      exact h _ _ (l.fin p0 hD)
theorem q_lc {elt iter : Expr} {ifs : List Expr} {scope : Scope} {own : List (Str × Nat)} {el : E} {it : It} {c : Es} (hc : X.calm = true) (hN : X.N.Nodup) (hi : QI Γ X tg iter (evI P it)) (ok : BlkOk X.N X.env.scope scope own)
    (hg : ∀ (s : Shared) (H : Hp) (C : Addr) (cl : List (Str × Addr)) (fp : List Addr), QG Γ (X.blk s H scope (compEnvC scope cl C X.env) fp) tg t)
    (ht : ∀ (s : Shared) (H : Hp) (C : Addr) (cl : List (Str × Addr)) (fp : List Addr), QC Γ (X.blk s H scope (compEnvC scope cl C X.env) fp) ifs (evC P c))
    (he : ∀ (s : Shared) (H : Hp) (C : Addr) (cl : List (Str × Addr)) (fp : List Addr), QE Γ (X.blk s H scope (compEnvC scope cl C X.env) fp) elt (evA P el))
    (hs : ∀ x, foldedSetIterable iter X.env x = pure x) (hsl : ∀ i ∈ t.slots, i ∈ own.map (·.2)) :
    QE Γ X (.ListComp elt [⟨tg, iter, ifs, 0⟩] scope pos) (evA P (.lc el t it c (own.map (·.2)))) := fun xe W tk => by
  exact PE.imp (pe_lc (X := X.wish xe) hc hN (hi xe W tk) ok (fun s H C cl fp => hg s H C cl fp _) (fun s H C cl fp => ht s H C cl fp _ (fun _ _ _ _ => False) takes0) (fun s H C cl fp => he s H C cl fp _ (fun _ _ _ _ => False) takes0) hs) fun σ H Q h => lc_imp hsl h
end
end Ev
end
section
set_option maxRecDepth 100000
set_option maxHeartbeats 2000000
/-! all(..), any(..) of a generator expression of any element: by its turns. -/
namespace Gx
open PySem PySem.Spec PyProof.Rows L2 GxR GenW

structure GxS (N : List Str) (sc scope : Scope) (own : List (Str × Nat)) : Prop where
  kind : scope.kind = .function
  co : scope.isCoroutine = false
  nocell : ∀ y ∈ scope.names, y.2 ≠ .cell
  dot : scope.names.lookup (".0" : Str) = some NameKind.local
  onn : ∀ y ∈ scope.names, y.2 = .local → y.1 ∈ own.map (·.1) ∨ y.1 ∉ N
  ix : ∀ p ∈ own, N[p.2]? = some p.1
  free : ∀ y ∈ scope.names, y.2 = .free → sc.names.lookup y.1 = some .cell ∨ sc.names.lookup y.1 = some .free
def gxB (N : List Str) (sc scope : Scope) (own : List (Str × Nat)) : Bool :=
  decide (scope.kind = .function) && !scope.isCoroutine && (scope.names.all fun y => y.2 != .cell) && (scope.names.lookup (".0" : Str) == some NameKind.local) &&
  (scope.names.all fun y => y.2 != .local || (own.map (·.1)).contains y.1 || !N.contains y.1) && (own.all fun p => N[p.2]? == some p.1) &&
  (scope.names.all fun y => y.2 != .free || sc.names.lookup y.1 == some .cell || sc.names.lookup y.1 == some .free)
theorem gxS_by {N : List Str} {sc scope : Scope} {own : List (Str × Nat)} (h : gxB N sc scope own = true) : GxS N sc scope own := by
  unfold gxB at h
  simp only [Bool.and_eq_true, decide_eq_true_eq, Bool.not_eq_true', List.all_eq_true, bne_iff_ne, beq_iff_eq, Bool.or_eq_true, List.contains_eq_mem, decide_eq_false_iff_not] at h
  obtain ⟨⟨⟨⟨⟨⟨h1, h2⟩, h3⟩, h4⟩, h5⟩, h6⟩, h7⟩ := h
  refine ⟨h1, h2, h3, h4, fun y hy e => ?_, h6, fun y hy e => ?_⟩
  · rcases h5 y hy with (z | z) | z
    · exact (z e).elim
    · exact .inl z
    · exact .inr z
  · rcases h7 y hy with (z | z) | z
    · exact (z e).elim
    · exact .inl z
    · exact .inr z

abbrev gxEnv (X : Cx) (scope : Scope) (C : Addr) (code : Value) : Env := genEnv scope (cloFrom X.env.cells scope.names []) C code builtinsNs X.env
/-- the context within the generator's frame -/
abbrev gxCx (X : Cx) (A : Around) (s : Shared) (H : Hp) (scope : Scope) (C : Addr) (code : Value) (fp : List Addr) : Cx :=
  { X with A := A.deeper (gxEnv X scope C code), s_0 := s, H_0 := H, env := gxEnv X scope C code, outer := X.stack, stack := gxEnv X scope C code :: X.stack, ex := fp, fn := fun _ => false, calm := true, pn := [], xe := fun _ _ => False }
section
variable {X : Cx} {pins : List (Addr × Obj)} {σ : L2.St} {H : Hp} {s s' : Shared}
theorem gx_start {A : Around} {scope : Scope} {own : List (Str × Nat)} {fp : List Addr} {C : Addr} {code : Value} {m : Str → Option Value} (I : Inv X pins σ H s) (S : GxS X.N X.env.scope scope own) (hN : X.N.Nodup)
    (hfp : ∀ b ∈ fp, FpOk X pins H b ∧ b < s.heap.objs.size) (hA : A.frames = some X.stack) (hd : A.handled = none) (hC : C = s.heap.objs.size) (ho : s'.os = s.os) (hb : AllBare s'.gens)
    (kp : ∀ b o, s.heap.get? b = some o → s'.heap.get? b = some o) (hns : s'.heap.Ns C m) : Inv (gxCx X A s H scope C code fp) [] (wipe σ (own.map (·.2))) H s' := by
  subst hC
  have hfree : ∀ y ∈ scope.names, y.2 = .free → ∃ c, X.env.cells.lookup y.1 = some c := fun y hy e => by
    rcases S.free y hy e with k | k
    · exact I.ok.has _ (.inl k)
    · exact I.ok.has _ (.inr k)
  have cm : ∀ {y c}, (cloFrom X.env.cells scope.names []).lookup y = some c → X.env.cells.lookup y = some c := fun {y c} e => by
    rcases cloFrom_mem (PySem.mem_of_lookup e) with hm | ⟨h1, h2⟩
    · cases hm
    · obtain ⟨c1, hc⟩ := hfree _ h1 rfl
      have hc : X.env.cells.lookup y = some c1 := hc
      have e2 : c = c1 := by
        rw [h2, hc] <;> rfl
      rw [e2]
      exact hc
  have look : ∀ {y}, scope.names.lookup y = some .free → ∃ c, (cloFrom X.env.cells scope.names []).lookup y = some c := fun {y} hl => by
    have hy : (y, NameKind.free) ∈ scope.names := PySem.mem_of_lookup hl
    exact mem_lookup (cloFrom_has (cells := X.env.cells) (acc := []) hy)
  have cellK : ∀ {c : Addr} {v : Option Value}, s.heap.IsCell c v → s'.heap.IsCell c v := fun {c v} ⟨o, ho, hd⟩ => ⟨o, kp _ _ ho, hd⟩
  refine ⟨⟨I.ok.mod, S.kind, I.ok.glob, rfl, Nat.le_refl _, fun y z c e1 e2 => I.ok.inj y z c (cm e1) (cm e2), fun y hy => ?_, fun y c z _ => ?_, fun _ => hd, Around.frames_deeper hA, .inr ⟨rfl, rfl⟩, fun b hb => ⟨?_, fun y c e z => ?_⟩, I.bs, Nat.le_trans I.ok.bsz I.sz, fun b o e hb => ?_, fun b hb z => ?_, I.stack, I.stkFree⟩,
    ho, hb, Un.kept kp, ⟨m, hns, fun i y v e1 e2 e3 => ?_⟩, fun y c e => ?_, I.hok.fresh (Nat.le_refl _), fun y c e => ?_, fun q hq => absurd (show q ∈ ([] : List (Addr × Obj)) ++ [] from hq) (by simp), I.hok.kept kp, by rw [wipe_length]; exact I.len⟩
  · have hy : scope.names.lookup y = some .cell ∨ scope.names.lookup y = some .free := hy
    rcases hy with hy | hy
    · exact absurd rfl (S.nocell _ (PySem.mem_of_lookup hy))
    · exact look hy
  · have z : false = true := z
    cases z
  · exact Nat.ne_of_lt (hfp b hb).2
  · exact (hfp b hb).1.2.2.2.2.1 y c (cm e) z
  · rcases (hfp b hb).1.2.2.2.1 with z | z
    · exact I.ok.noex b o e z
    · exact absurd (Nat.lt_of_lt_of_le (Heap.lt_size e) (Nat.le_trans I.ok.bsz z)) (Nat.lt_irrefl _)
  · rcases List.mem_cons.mp (I.stkSub b z) with z | z
    · exact (hfp b hb).1.2.1 z
    · exact (hfp b hb).1.2.2.1 z
  · obtain ⟨e2, hne⟩ := wipe_some e2
    have e3 : Vis scope y := e3
    rcases e3 with k | k | k
    · rcases S.onn _ (PySem.mem_of_lookup k) rfl with e' | e'
      · obtain ⟨p, hp, hpy⟩ := List.mem_map.mp e'
        have e3 := S.ix p hp
        have : p.1 = y := hpy
        rw [this] at e3
        exact (hne (List.mem_map.mpr ⟨p, hp, nodup_ix hN e3 e1⟩)).elim
      · exact (e' (List.mem_of_getElem? e1)).elim
    · exact absurd rfl (S.nocell _ (PySem.mem_of_lookup k))
    · obtain ⟨m, hn, hl⟩ := I.loc
      have hvis : Vis X.env.scope y := (S.free _ (PySem.mem_of_lookup k) rfl).elim (fun k => .inr (.inl k)) (fun k => .inr (.inr k))
      obtain ⟨w', r, q⟩ := hl i y v e1 e2 hvis
      obtain ⟨c2, h2⟩ := look k
      refine ⟨w', r, .inr ⟨.inr k, c2, h2, ?_⟩⟩
      have c1 := cm h2
      rcases q with ⟨k', _⟩ | ⟨_, c3, e', z⟩
      · have k' : X.env.scope.names.lookup y = some .local := k'
        rcases S.free _ (PySem.mem_of_lookup k) rfl with k2 | k2 <;> rw [show X.env.scope.names.lookup y = _ from k2] at k' <;> cases k'
      · rw [c1] at e'
        cases e'
        exact cellK z
  · obtain ⟨w', z⟩ := I.cell y c (cm e)
    exact ⟨w', cellK z⟩
  · exact I.freeC y c (cm e)
end

theorem over_gl {A : Around} {elt : Expr} {gs : List Comprehension} {scope : Scope} {pos : Pos} {it acc : Value} {env : Env} : A.over (.compLoop (.GeneratorExp elt gs scope pos) 0 it acc env) [] = A.deeper env := by
  obtain ⟨hd, d, fr, gs, u⟩ := A
  simp [Around.over, Around.deeper, marksOver, frameCount, unitsOf, envsOf, guardsOf, pushEnvs, pushGuards, Code.envs, Code.env?, Code.isFrame, Code.guards, Code.isGuard, Code.weight, Code.frames, Code.isCreation, Code.isCaller, Code.cUnits]
theorem over_gs {A : Around} {elt : Expr} {gs : List Comprehension} {scope : Scope} {pos : Pos} {it acc : Value} {env : Env} : A.over (.compStart (.GeneratorExp elt gs scope pos) 0 it acc env) [] = A.deeper env := by
  obtain ⟨hd, d, fr, gs, u⟩ := A
  simp [Around.over, Around.deeper, marksOver, frameCount, unitsOf, envsOf, guardsOf, pushEnvs, pushGuards, Code.envs, Code.env?, Code.isFrame, Code.guards, Code.isGuard, Code.weight, Code.frames, Code.isCreation, Code.isCaller, Code.cUnits]

/-- while it sleeps all stands -/
structure Sl (s s' : Shared) : Prop where
  os : s'.os = s.os
  bare : AllBare s'.gens
  keep : ∀ b o, s.heap.get? b = some o → s'.heap.get? b = some o
theorem Inv.sl {X : Cx} {pins : List (Addr × Obj)} {σ : L2.St} {H : Hp} {s s' : Shared} (I : Inv X pins σ H s) (z : Sl s s') : Inv X pins σ H s' :=
  I.call' (ch := []) z.os (Un.kept z.keep) (I.hok.kept z.keep) z.bare fun b z => by simp at z
/-- what a turn of the block gives -/
def Step (isAll : Bool) (J : L2.It) (g : TG) (tt : TT) (te : TE) (ws : List Nat) (σ : L2.St) (Q : VK) (W : Nat → Nat → Hp → Prop) : Prop := ∀ i m H, W i m H →
  (J.stop i H ∧ Q (.bl isAll) H) ∨ (J.go i H ∧ ∃ Nx : Hp → Prop, (∀ H', Nx H' → ∃ m', m' < m ∧ W (i + 1) m' H') ∧ ∀ x H', J.yld i H x H' → g x (wipe σ ws) H' fun σ2 H2 => wipe σ2 ws = wipe σ ws ∧ tt σ2 H2 fun b H3 =>
    if b = true then te σ2 H3 fun y H4 => ∃ c : Bool, y = .bl c ∧ (if c = isAll then Nx H4 else Q (.bl c) H4) else Nx H3)
def Rg (Xg : Cx) (P0 : List (Addr × Obj)) (isAll : Bool) (Q : VK) : GenEnd := fun _ _ r s₁ => r = .ok .next ∧ ∃ σ H, Inv Xg P0 σ H s₁ ∧ Q (.bl isAll) H
def Yg (Xg : Cx) (P0 : List (Addr × Obj)) (isAll : Bool) (Q : VK) : Protocol := fun _ _ v s kap => ∃ (c : Bool) (σ : L2.St) (H : Hp), v = .bool c ∧ Inv Xg P0 σ H s ∧ (if c = isAll then ∀ s', Sl s s' → kap (.send .none) s' else Q (.bl c) H)

section
variable {X : Cx} {σ : L2.St}
theorem seg_gx {A : Around} {s4 : Shared} {H4 : Hp} {scope : Scope} {C it : Addr} {code : Value} {fp : List Addr} {tn : Nat → Heap → Prop} {J : L2.It} {tg elt iter : Expr} {ifs : List Expr} {pos : Pos} {g : TG} {tt : TT} {te : TE} {ws : List Nat} {Q : VK} {isAll : Bool} {W : Nat → Nat → Hp → Prop}
    {P0 : List (Addr × Obj)} (T : Turn X.prog X.w X.K tg J fp it tn) (hP : ∀ p ∈ P0, p.1 ∉ fp) (hco : scope.isCoroutine = false)
    (hg : PG (gxCx X A s4 H4 scope C code fp) tg g) (ht : PTs (gxCx X A s4 H4 scope C code fp) ifs tt) (he : PE (gxCx X A s4 H4 scope C code fp) elt te) (st : Step isAll J g tt te ws σ Q W) :
    ∀ (m n i : Nat) (s₀ s : Shared) (H : Hp), m < n → W i m H → Inv (gxCx X A s4 H4 scope C code fp) P0 (wipe σ ws) H s → tn i s.heap → (∀ b ∈ fp, H b = none) →
      Seg (model X.prog X.w) A (Rg (gxCx X A s4 H4 scope C code fp) P0 isAll Q) (Yg (gxCx X A s4 H4 scope C code fp) P0 isAll Q) n s₀ (.compLoop (.GeneratorExp elt [⟨tg, iter, ifs, 0⟩] scope pos) 0 (.ref it) .none (gxEnv X scope C code))
        ((model X.prog X.w).den (.compLoop (.GeneratorExp elt [⟨tg, iter, ifs, 0⟩] scope pos) 0 (.ref it) .none (gxEnv X scope C code))) [] s := by
  have hov : A.over (.compLoop (.GeneratorExp elt [⟨tg, iter, ifs, 0⟩] scope pos) 0 (.ref it) .none (gxEnv X scope C code)) [] = (gxCx X A s4 H4 scope C code fp).A := over_gl
  intro m
  induction m using Nat.strongRecOn with
  | ind m ih =>
    intro n i s₀ s H hmn w I tnI nfp
    have stat : ∀ {σ' : L2.St} {H' : Hp} {s' : Shared}, Inv (gxCx X A s4 H4 scope C code fp) P0 σ' H' s' → (∀ b ∈ fp, H' b = none) → ∀ b ∈ fp, FpOk (gxCx X A s4 H4 scope C code fp) P0 H' b := fun {σ' H' s'} I' hn b hb =>
      ⟨hn b hb, (I'.ok.exf b hb).1, I'.ok.exfs b hb, .inl hb, fun x c e => (I'.ok.exf b hb).2 x c e, fun p hp z => hP p (by simpa using hp) (by rw [z]; exact hb)⟩
    show Seg _ A _ _ _ s₀ _ ((compTurn (.GeneratorExp elt [⟨tg, iter, ifs, 0⟩] scope pos) 0 (.ref it) .none (gxEnv X scope C code)).onRaise (leaving (gxEnv X scope C code))) [] s
    rw [compTurn_gen, Sem.onRaise_eq_wrap]
    refine seg_bind_wrap (wpAny_standAt ?_)
    refine seg_bind_wrap ?_
    rw [hov]
    rcases st i m H w with ⟨stop, qq⟩ | ⟨go, Nx, hNx, step⟩
    · refine thnF (T.done (gxCx X A s4 H4 scope C code fp) rfl rfl rfl rfl i P0 s _ H (fun _ _ => False) I (stat I nfp) tnI stop) fun r s6 ⟨hr, I6⟩ => ?_
      subst hr
      exact seg_end (.ok .next) ⟨rfl, _, H, I6, qq⟩
    · refine thnF (T.item (gxCx X A s4 H4 scope C code fp) rfl rfl rfl rfl i P0 s _ H (fun _ _ => False) I (stat I nfp) tnI go) fun r s6 ⟨u, hr, h6⟩ => ?_
      subst hr
      refine seg_bind_wrap ?_
      rw [hov]
      refine thnF h6 fun _ s7 ⟨x, H7, I7, r7, y7, st7, n7⟩ => ?_
      have I7' := I7.pinned (stat I7 n7) (T.obj _ _ st7)
      refine seg_bind_wrap ?_
      rw [hov]
      refine thnF (hg.run _ s7 _ H7 x u _ I7' r7 (step x H7 y7)) fun _ s8 ⟨σ8, H8, I8, hw8, q8⟩ => ?_
      refine seg_bind_wrap ?_
      rw [hov]
      refine thnF (ht.run _ s8 σ8 H8 _ I8 q8) fun b s9 ⟨H9, I9, q9⟩ => ?_
      have fin : ∀ {s' : Shared} {H' : Hp}, Inv (gxCx X A s4 H4 scope C code fp) (P0 ++ pinsAt fp s7.heap) σ8 H' s' → Inv (gxCx X A s4 H4 scope C code fp) P0 (wipe σ ws) H' s' ∧ tn (i + 1) s'.heap ∧ (∀ b ∈ fp, H' b = none) := fun {s' H'} I' => by
        have pin' : ∀ b ∈ fp, ∀ o, s7.heap.get? b = some o → s'.heap.get? b = some o ∧ H' b = none := fun b hb o e =>
          let z := I'.pin (b, o) (List.mem_append_right _ (List.mem_append_right _ (mem_pinsAt hb e)))
          ⟨z.1, z.2.1⟩
        have hl : (wipe σ ws).length = σ8.length := by rw [← hw8, wipe_length]
        refine ⟨(I'.unpinned (pins := P0)).weak hl (fun j v e => ?_), T.keep _ _ _ st7 fun b hb o e => (pin' b hb o e).1, fun b hb => ?_⟩
        · rw [← hw8] at e
          exact (wipe_some e).1
        · obtain ⟨o, e, _⟩ := T.obj _ _ st7 b hb
          exact (pin' b hb o e).2
      cases b with
      | false =>
        simp only [Bool.false_eq_true, if_false] at q9 ⊢
        obtain ⟨f1, f2, f3⟩ := fin I9
        obtain ⟨m', hm, w'⟩ := hNx H9 q9
        exact seg_again rfl (ih m' hm n (i + 1) s₀ s9 H9 (by omega) w' f1 f2 f3)
      | true =>
        simp only [if_true] at q9 ⊢
        have hy : ∀ v, yieldOut (gxEnv X scope C code) v = yieldValue v := fun v => by
          have : (gxEnv X scope C code).scope.isCoroutine = false := hco
          simp only [yieldOut, this, Bool.false_eq_true, if_false]
        simp only [hy]
        rw [Sem.bind_eq_wrap', Sem.bind_eq_wrap', Sem.wrap_wrap, Sem.wrap_wrap]
        refine seg_wrap ?_
        rw [hov]
        refine thnF (he.run _ s9 σ8 H9 _ I9 q9) fun z s10 ⟨yv, H10, I10, r10, c, hyc, q10⟩ => ?_
        subst hyc
        have hz : z = Value.bool c := r10
        subst hz
        obtain ⟨n', rfl⟩ : ∃ n', n = n' + 1 := ⟨n - 1, by omega⟩
        obtain ⟨f1, f2, f3⟩ := fin I10
        refine seg_at (seg_yield rfl rfl rfl ⟨c, _, H10, rfl, f1, ?_⟩)
        by_cases hc : c = isAll
        · rw [if_pos hc] at q10 ⊢
          obtain ⟨m', hm, w'⟩ := hNx H10 q10
          intro s' zz
          exact seg_again rfl (ih m' hm n' (i + 1) s' s' H10 (by omega) w' (Inv.sl f1 zz) (T.keep _ _ _ f2 fun b _ o e => zz.keep b o e) f3)
        · rw [if_neg hc] at q10 ⊢
          exact q10
theorem seg_gxs {A : Around} {s4 : Shared} {H4 : Hp} {scope : Scope} {C it : Addr} {code : Value} {fp : List Addr} {tn : Nat → Heap → Prop} {J : L2.It} {tg elt iter : Expr} {ifs : List Expr} {pos : Pos} {g : TG} {tt : TT} {te : TE} {ws : List Nat} {Q : VK} {isAll : Bool} {W : Nat → Nat → Hp → Prop}
    {P0 : List (Addr × Obj)} (T : Turn X.prog X.w X.K tg J fp it tn) (hP : ∀ p ∈ P0, p.1 ∉ fp) (hco : scope.isCoroutine = false)
    (hg : PG (gxCx X A s4 H4 scope C code fp) tg g) (ht : PTs (gxCx X A s4 H4 scope C code fp) ifs tt) (he : PE (gxCx X A s4 H4 scope C code fp) elt te) (st : Step isAll J g tt te ws σ Q W)
    {m n : Nat} {s₀ s : Shared} {H : Hp} (hmn : m < n) (w : W 0 m H) (I : Inv (gxCx X A s4 H4 scope C code fp) P0 (wipe σ ws) H s) (tnI : tn 0 s.heap) (nfp : ∀ b ∈ fp, H b = none) :
      Seg (model X.prog X.w) A (Rg (gxCx X A s4 H4 scope C code fp) P0 isAll Q) (Yg (gxCx X A s4 H4 scope C code fp) P0 isAll Q) n s₀ (.compStart (.GeneratorExp elt [⟨tg, iter, ifs, 0⟩] scope pos) 0 (.ref it) .none (gxEnv X scope C code))
        ((model X.prog X.w).den (.compStart (.GeneratorExp elt [⟨tg, iter, ifs, 0⟩] scope pos) 0 (.ref it) .none (gxEnv X scope C code))) [] s := by
  have loop := seg_gx (iter := iter) (pos := pos) T hP hco hg ht he st m n 0 s₀ s H hmn w I tnI nfp
  show Seg _ A _ _ _ s₀ _ ((compStart (.GeneratorExp elt [⟨tg, iter, ifs, 0⟩] scope pos) 0 (.ref it) .none (gxEnv X scope C code)).onRaise (leaving (gxEnv X scope C code))) [] s
  unfold compStart
  rw [Sem.onRaise_eq_wrap]
  show Seg _ A _ _ _ s₀ _ ((ask >>= _).wrap _ _ _ _) [] s
  refine seg_bind_wrap (wpAny_askSetting ?_)
  split
  · exact seg_again rfl loop
  · first
      | exact seg_bind_wrap (wpAny_rule (seg_bind_wrap (wpAny_standAt (seg_bind_wrap (T.self _ 0 s _ _ tnI (seg_again rfl loop))))))
      | (refine seg_bind_wrap (wpAny_rule ?_); show Seg _ A _ _ _ s₀ _ ((standAt iter.pos >>= _).wrap _ _ _ _) [] s; exact seg_bind_wrap (wpAny_standAt (seg_bind_wrap (T.self _ 0 s _ _ tnI (seg_again rfl loop)))))
end
end Gx
end
section
set_option maxRecDepth 100000
set_option maxHeartbeats 2000000
namespace Gx
open PySem PySem.Spec PyProof.Rows L2 GxR GenW

section
variable {X Xg : Cx} {A : Around} {R : Result → Shared → Prop} {a : Addr} {g : Nat} {go : Obj} {Q : VK}
/-- where the generator stands, asleep -/
def Asleep (Xg : Cx) (A : Around) (a : Addr) (go : Obj) (g : Nat) (isAll : Bool) (Q : VK) (n : Nat) (s : Shared) : Prop :=
  s.heap.IsGen a g ∧ s.heap.NoLimit ∧ AllBare s.gens ∧ s.heap.get? a = some go ∧
  ∃ gs, s.gens[g]? = some gs ∧ ∀ s', Sl s s' → gs.Goes (model Xg.prog Xg.w) A (Rg Xg [(a, go)] isAll Q) (Yg Xg [(a, go)] isAll Q) n (.send .none) s'
theorem sl_setGen {s : Shared} {x : GenState} (hb : AllBare s.gens) (hx : x.bare = true) : Sl s (s.setGen g x) := ⟨rfl, allBare_setGen hb hx, fun _ _ e => e⟩
theorem next_gx {isAll : Bool} {n : Nat} {s : Shared} {Q' : Option Value → Shared → Prop} {E : Value → Shared → Prop} (hh : A.handled = none) (hd : A.depth < recursionLimit) (h : Asleep Xg A.in1 a go g isAll Q n s)
    (hY : ∀ (c : Bool) (σ : L2.St) (H : Hp) (s' : Shared), Inv Xg [(a, go)] σ H s' → (if c = isAll then ∃ m, n = m + 1 ∧ Asleep Xg A.in1 a go g isAll Q m s' else Q (.bl c) H) → Q' (some (.bool c)) s')
    (hP : ∀ (σ : L2.St) (H : Hp) (s' : Shared), Inv Xg [(a, go)] σ H s' → Q (.bl isAll) H → Q' none s') :
    wpAny (model Xg.prog Xg.w) A (pyNext (.ref a)) Q' E s := by
  obtain ⟨hg, hl, hb, hgo, gs, hgs, goes⟩ := h
  have hgl : g < s.gens.size := (Array.getElem?_eq_some_iff.mp hgs).1
  refine wpAny_gsz (n := g + 1) hgl (wpAny_pyNext_genexpQ (P := fun _ _ s₁ => ∃ σ H, Inv Xg [(a, go)] σ H s₁ ∧ Q (.bl isAll) H) (Y := Yg Xg [(a, go)] isAll Q) (n := n) hh hl hd hg hgs (goes _ (sl_setGen hb rfl)) (fun v s₁ gs' hbare hv => ?_) fun s₁ hp h' hk => ?_)
  · intro hsz
    obtain ⟨c, σ, H, rfl, I, q⟩ := hv
    have hsz1 : g < s₁.gens.size := by
      have q : (s₁.setGen g gs').gens.size = s₁.gens.size := setGen_size _ _ _
      have hsz' : g + 1 ≤ (s₁.setGen g gs').gens.size := hsz
      omega
    have I' : Inv Xg [(a, go)] σ H (s₁.setGen g gs') := Inv.sl I (sl_setGen I.bare hbare)
    have pa := (I'.pin (a, go) (List.mem_append_right _ (List.mem_singleton.mpr rfl))).1
    refine hY c σ H _ I' ?_
    by_cases hc : c = isAll
    · rw [if_pos hc] at q ⊢
      cases n with
      | zero => exact (q s₁ ⟨rfl, I.bare, fun _ _ e => e⟩).elim
      | succ m =>
        refine ⟨m, rfl, ?_, I'.nolimit, I'.bare, pa, gs', setGen_at hsz1, fun s' z => q s' ⟨z.os, z.bare, z.keep⟩⟩
        obtain ⟨o, nm, qn, ho, r⟩ := hg
        rw [hgo] at ho
        cases ho
        exact ⟨_, nm, qn, pa, r⟩
    · rw [if_neg hc] at q ⊢
      exact q
  · intro _
    obtain ⟨σ, H, I, q⟩ := hp
    refine hP σ H _ (Inv.sl I ⟨rfl, ?_, fun b o e => hk b o e⟩) q
    exact allBare_setGen I.bare rfl
theorem all_loop (hh : A.handled = none) (hd : A.depth < recursionLimit) (hR : ∀ (c : Bool) (σ : L2.St) (H : Hp) (s' : Shared), Inv Xg [(a, go)] σ H s' → Q (.bl c) H → R (.ok (.ret (.bool c))) s') :
    ∀ (n : Nat) (s : Shared), Asleep Xg A.in1.in1 a go g true Q n s → codeAny (model Xg.prog Xg.w) A (.builtin "all.loop" ⟨[.ref a], []⟩) R s := by
  intro n
  induction n with
  | zero =>
    intro s h
    refine codeAny_builtin F.entry_all_loop ?_
    rw [Around.under_plainId F.plain_all_loop _]
    show wpAny _ A.in1 (pyNext (.ref a) >>= _) _ _ s
    refine wpAny_bind (next_gx (A := A.in1) hh hd h (fun c σ H s' I q => ?_) fun σ H s' I q => ?_)
    · refine wpAny_bind (wpAny_holding (wpAny_truthy_bool ?_))
      refine wpAny_bind (wpAny_letGo ?_)
      cases c with
      | true => obtain ⟨m, e, _⟩ := q; cases e
      | false =>
        simp only [Bool.false_eq_true, if_false] at q ⊢
        exact wpAny_bind (wpAny_rule (wpAny_pure (hR false σ H s' I q)))
    · exact wpAny_bind (wpAny_rule (wpAny_pure (hR true σ H s' I q)))
  | succ n ih =>
    intro s h
    refine codeAny_builtin F.entry_all_loop ?_
    rw [Around.under_plainId F.plain_all_loop _]
    show wpAny _ A.in1 (pyNext (.ref a) >>= _) _ _ s
    refine wpAny_bind (next_gx (A := A.in1) hh hd h (fun c σ H s' I q => ?_) fun σ H s' I q => ?_)
    · refine wpAny_bind (wpAny_holding (wpAny_truthy_bool ?_))
      refine wpAny_bind (wpAny_letGo ?_)
      cases c with
      | true =>
        simp only [if_true] at q ⊢
        obtain ⟨m, e, q⟩ := q
        cases e
        exact wpAny_pure ⟨plainId_quiet F.plain_all_loop _, ih _ q⟩
      | false =>
        simp only [Bool.false_eq_true, if_false] at q ⊢
        exact wpAny_bind (wpAny_rule (wpAny_pure (hR false σ H s' I q)))
    · exact wpAny_bind (wpAny_rule (wpAny_pure (hR true σ H s' I q)))
theorem any_loop (hh : A.handled = none) (hd : A.depth < recursionLimit) (hR : ∀ (c : Bool) (σ : L2.St) (H : Hp) (s' : Shared), Inv Xg [(a, go)] σ H s' → Q (.bl c) H → R (.ok (.ret (.bool c))) s') :
    ∀ (n : Nat) (s : Shared), Asleep Xg A.in1.in1 a go g false Q n s → codeAny (model Xg.prog Xg.w) A (.builtin "any.loop" ⟨[.ref a], []⟩) R s := by
  intro n
  induction n with
  | zero =>
    intro s h
    refine codeAny_builtin F.entry_any_loop ?_
    rw [Around.under_plainId F.plain_any_loop _]
    show wpAny _ A.in1 (pyNext (.ref a) >>= _) _ _ s
    refine wpAny_bind (next_gx (A := A.in1) hh hd h (fun c σ H s' I q => ?_) fun σ H s' I q => ?_)
    · refine wpAny_bind (wpAny_holding (wpAny_truthy_bool ?_))
      refine wpAny_bind (wpAny_letGo ?_)
      cases c with
      | false => obtain ⟨m, e, _⟩ := q; cases e
      | true =>
        simp only [Bool.true_eq_false, if_false, if_true] at q ⊢
        exact wpAny_bind (wpAny_rule (wpAny_pure (hR true σ H s' I q)))
    · exact wpAny_bind (wpAny_rule (wpAny_pure (hR false σ H s' I q)))
  | succ n ih =>
    intro s h
    refine codeAny_builtin F.entry_any_loop ?_
    rw [Around.under_plainId F.plain_any_loop _]
    show wpAny _ A.in1 (pyNext (.ref a) >>= _) _ _ s
    refine wpAny_bind (next_gx (A := A.in1) hh hd h (fun c σ H s' I q => ?_) fun σ H s' I q => ?_)
    · refine wpAny_bind (wpAny_holding (wpAny_truthy_bool ?_))
      refine wpAny_bind (wpAny_letGo ?_)
      cases c with
      | false =>
        simp only [if_true, Bool.false_eq_true, if_false] at q ⊢
        obtain ⟨m, e, q⟩ := q
        cases e
        exact wpAny_pure ⟨plainId_quiet F.plain_any_loop _, ih _ q⟩
      | true =>
        simp only [Bool.true_eq_false, if_false, if_true] at q ⊢
        exact wpAny_bind (wpAny_rule (wpAny_pure (hR true σ H s' I q)))
    · exact wpAny_bind (wpAny_rule (wpAny_pure (hR false σ H s' I q)))
end

def gxNm (isAll : Bool) : Str := if isAll then "all" else "any"
/-- any, all of the generator, asleep at a -/
theorem call_gx {Xg : Cx} {A : Around} {a : Addr} {g : Nat} {go : Obj} {Q : VK} {n : Nat} {s : Shared} {isAll : Bool} {Q' : Value → Shared → Prop} {E : Value → Shared → Prop} (hh : A.handled = none) (hd : A.depth < recursionLimit)
    (h : Asleep Xg A.in1.in1 a go g isAll Q n s) (hR : ∀ (c : Bool) (σ : L2.St) (H : Hp) (s' : Shared), Inv Xg [(a, go)] σ H s' → Q (.bl c) H → Q' (.bool c) s') :
    wpAny (model Xg.prog Xg.w) A (call (.builtin (if isAll then "all" else "any")) [.ref a]) Q' E s := by
  cases isAll with
  | true =>
    refine call_function_tree F.kind_all F.plain_all F.entry_all (F.args_all1 _) ?_
    show wpAny _ _ (Builtin.«all» _) _ _ _
    unfold Builtin.«all»
    refine wpAny_bind (m := oneArg "all" _) (wpAny_pure ?_)
    refine wpAny_bind (wpAny_pyIter_gen h.1 ?_)
    exact wpAny_pure ⟨plainId_quiet F.plain_all_loop _, all_loop hh hd hR n s h⟩
  | false =>
    refine call_function_tree F.kind_any F.plain_any F.entry_any (F.args_any1 _) ?_
    show wpAny _ _ (Builtin.«any» _) _ _ _
    unfold Builtin.«any»
    refine wpAny_bind (m := oneArg "any" _) (wpAny_pure ?_)
    refine wpAny_bind (wpAny_pyIter_gen h.1 ?_)
    exact wpAny_pure ⟨plainId_quiet F.plain_any_loop _, any_loop hh hd hR n s h⟩
end Gx
end
section
set_option maxRecDepth 100000
set_option maxHeartbeats 2000000
namespace Gx
open PySem PySem.Spec PyProof.Rows L2 GxR GenW

/-- all(elt for tg in iter if ..), any(..): W by the turn and a measure, Nx what a turn is to reach; P the def's table -/
def tGx (P : Addr) (isAll : Bool) (wi : TI) (g : TG) (tt : TT) (te : TE) (ws : List Nat) : TE := fun σ H Q => wi σ H fun J H1 => TabG H1 P ∧ ∀ H2, Tabbed P H1 H2 → ∃ W : Nat → Nat → Hp → Prop, (∃ m, W 0 m H2) ∧ Step isAll J g tt te ws σ Q W
section
variable {X : Cx}
theorem pe_gx {isAll : Bool} {c P : Addr} {elt iter tg : Expr} {ifs : List Expr} {p pos gpos : Pos} {scope : Scope} {own : List (Str × Nat)} {wi : TI} {g : TG} {tt : TT} {te : TE} {k : Nat}
    (hr : Room k X.A) (hcalm : X.calm = true) (hN : X.N.Nodup) (hg : Gl X (gxNm isAll)) (hm : X.mg (gxNm isAll) = none) (TB : TabB X.base X.mg c P) (hcode : X.env.code = .ref c) (S : GxS X.N X.env.scope scope own) (hi : PI X tg iter wi)
    (hgg : ∀ (A : Around) (s : Shared) (H : Hp) (C : Addr) (code : Value) (fp : List Addr), A.handled = none → A.depth = X.A.depth → A.units ≤ X.A.units + 8 → PG (gxCx X A s H scope C code fp) tg g)
    (htt : ∀ (A : Around) (s : Shared) (H : Hp) (C : Addr) (code : Value) (fp : List Addr), A.handled = none → A.depth = X.A.depth → A.units ≤ X.A.units + 8 → PTs (gxCx X A s H scope C code fp) ifs tt)
    (hee : ∀ (A : Around) (s : Shared) (H : Hp) (C : Addr) (code : Value) (fp : List Addr), A.handled = none → A.depth = X.A.depth → A.units ≤ X.A.units + 8 → PE (gxCx X A s H scope C code fp) elt te)
    (hs : ∀ v, genFold iter X.env v = pure v) :
    PE X (.Call (.Name (gxNm isAll) p) [.GeneratorExp elt [⟨tg, iter, ifs, 0⟩] scope gpos] [] pos) (tGx P isAll wi g tt te (own.map (·.2))) := by
  refine ⟨fun pins s σ H Q I h => ?_⟩
  have he : starEach [.GeneratorExp elt [⟨tg, iter, ifs, 0⟩] scope gpos] X.env = (false, eval (.GeneratorExp elt [⟨tg, iter, ifs, 0⟩] scope gpos) X.env) :: starEach [] X.env := by rfl
  have hfree : ∀ y ∈ scope.names, y.2 = .free → ∃ c, X.env.cells.lookup y.1 = some c := fun y hy e => by
    rcases S.free y hy e with k | k
    · exact I.ok.has _ (.inl k)
    · exact I.ok.has _ (.inr k)
  have hfn : bootBuiltins (gxNm isAll) = some (.builtin (if isAll then "all" else "any")) := by cases isAll <;> decide +kernel
  have hnm : gxNm isAll ≠ "__name__" := by cases isAll <;> decide
  have hdb : (gxNm isAll == ("__debug__" : Str)) = false := by cases isAll <;> decide
  refine wpAny_Call_Name_kw (ld_blt I hg hm hfn ?_ hnm hdb)
  refine PyProof.Rows.callWith_builtin1 ?_ he (by rfl)
  rw [he]
  show wpAny _ _ (spliced ((false, eval (.GeneratorExp elt [⟨tg, iter, ifs, 0⟩] scope gpos) X.env) :: backTo pos (starEach [] X.env))) _ _ s
  refine Calls.spliced_cons ?_
  refine wpAny_GeneratorExp_make S.co (closure_ok hfree) S.nocell S.dot S.kind (by have := hr.dp; omega) ?_ hs
  refine thn (hi.run pins s σ H _ I h) fun xv s1 hx => thn hx fun itv s2 h2 => ?_
  obtain ⟨it, fp, tn, J, H1, e, I2, T, st2, f2, ⟨ps, hP, htr⟩, q⟩ := h2
  subst e
  refine ⟨I2.nolimit, ?_⟩
  have hPs : s2.heap.get? P = some { cls := .none, data := .fields ps } := I2.hok P _ hP
  have hPlt : P < s2.heap.objs.size := Heap.lt_size hPs
  have cd : PySem.W.CodeHd s2.heap c P := TB.code.keeps fun b u e => I2.bk b u e
  have cont : ∀ (code : Value) (h3 : Heap) (tk : Nat) (ps' : Array Value), Heap.ExtBut P s2.heap h3 → s2.heap.objs.size ≤ h3.objs.size → h3.get? P = some { cls := .none, data := .fields ps' } → (∃ more, ps' = ps ++ more) → TriplesOk ps'.toList →
      wpAny (model X.prog X.w) X.A (builtinsFor X.env.globals X.env.builtins) (fun bi s₄ => ∀ h', h'.Ns s₄.heap.objs.size (fun y => if y = ".0" then some (.ref it) else none) → Heap.SameBut s₄.heap.objs.size (s₄.heap.push { cls := .type "frame", data := .dict #[] }) h' →
          wpAny (model X.prog X.w) X.A (spliced (backTo pos (starEach [] X.env))) (fun vs s' => wpAny (model X.prog X.w) X.A (call (.builtin (if isAll then "all" else "any")) (.ref h'.objs.size :: vs)) (EP X pins σ Q) X.xe s') X.xe { s₄ with
            gens := s₄.gens.push (.fresh (.compStart (.GeneratorExp elt [⟨tg, iter, ifs, 0⟩] scope gpos) 0 (.ref it) .none (genEnv scope (cloFrom X.env.cells scope.names []) s₄.heap.objs.size code bi X.env))),
            toks := s₄.toks + 1 + 1 + 1,
            heap := h'.push { cls := .type "generator", data := .fields #[.int s₄.gens.size 0, .str "<genexpr>" (s₄.toks + 1), .str (X.env.qual ++ "<genexpr>") (s₄.toks + 1 + 1)] } }) X.xe { s2 with heap := h3, toks := tk } := by
    intro code h3 tk ps' hx hsz hP3 hmore ht3
    obtain ⟨more, em⟩ := hmore
    subst em
    obtain ⟨bm, ob, e1, e2, e3, e4, e5, e6, e7, e8⟩ := TB.bm
    have I3 : Inv X pins σ (upd H1 P (.tbl (ps ++ more))) { s2 with heap := h3, toks := tk } := inv_tab (h' := h3) (g' := s2.gens) (d' := s2.drawn) (t' := tk) I2 hP (fun b u hb e => hx b u hb e) hP3 I2.bare
    have keep3 : ∀ b u, b ≠ P → s2.heap.get? b = some u → h3.get? b = some u := fun b u hb e => hx b u hb e
    refine wpAny_builtinsFor (m := X.mg) (by rw [I2.ok.glob]; exact (I2.mod.glob.keeps I2.bk).extBut hx TB.gP) e1 e2 (keep3 _ _ e4 (I2.bk _ _ e5)) e6 e7 e8 ?_
    generalize hs3 : ({ s2 with heap := h3, toks := tk } : Shared) = s3 at I3 ⊢
    have h3e : s3.heap = h3 := by rw [← hs3]
    have nfpP : ∀ b ∈ fp, b ≠ P := fun b hb z => by
      have := (f2 b hb).1
      rw [z, hP] at this
      cases this
    have st3 : tn 0 s3.heap := T.keep _ _ _ st2 fun b hb o e => by rw [h3e]; exact keep3 b o (nfpP b hb) e
    have szfp : ∀ b ∈ fp, b < s3.heap.objs.size := fun b hb => by
      obtain ⟨o, e, _⟩ := T.obj _ _ st3 b hb
      exact Heap.lt_size e
    have f3 : ∀ b ∈ fp, FpOk X pins (upd H1 P (.tbl (ps ++ more))) b ∧ b < s3.heap.objs.size := fun b hb => ⟨⟨by rw [upd_ne (nfpP b hb)]; exact (f2 b hb).1, (f2 b hb).2⟩, szfp b hb⟩
    have hT2 : Tabbed P H1 (upd H1 P (.tbl (ps ++ more))) := ⟨⟨_, upd_same, ht3⟩, fun b hb => upd_ne hb⟩
    obtain ⟨W, ⟨m0, w0⟩, step⟩ := q _ hT2
    generalize hH3 : upd H1 P (.tbl (ps ++ more)) = H3 at I3 f3 w0
    intro h' hn' hsb
    -- the generator's frame and object
    have hsz' : h'.objs.size = s3.heap.objs.size + 1 := by rw [hsb.1, Heap.size_push]
    have keep' : ∀ b o, s3.heap.get? b = some o → h'.get? b = some o := fun b o e => hsb.extBut b o (Nat.ne_of_lt (Heap.lt_size e)) (Heap.get?_push_of_some _ e)
    generalize hgo : ({ cls := .type "generator", data := .fields #[.int s3.gens.size 0, .str "<genexpr>" (s3.toks + 1), .str (X.env.qual ++ "<genexpr>") (s3.toks + 1 + 1)] } : Obj) = go
    have hgoc : go.cls = .type "generator" := by rw [← hgo]
    have hgod : go.data = .fields #[.int s3.gens.size 0, .str "<genexpr>" (s3.toks + 1), .str (X.env.qual ++ "<genexpr>") (s3.toks + 1 + 1)] := by rw [← hgo]
    have hgos : go.slots = #[] := by rw [← hgo]
    have hpush : (h'.push go).get? h'.objs.size = some go := by rw [← hgo]; exact Heap.get?_push_size _ rfl
    have keep5 : ∀ b o, s3.heap.get? b = some o → (h'.push go).get? b = some o := fun b o e => Heap.get?_push_of_some _ (keep' b o e)
    generalize hs5 : ({ s3 with gens := s3.gens.push (.fresh (.compStart (.GeneratorExp elt [⟨tg, iter, ifs, 0⟩] scope gpos) 0 (.ref it) .none (genEnv scope (cloFrom X.env.cells scope.names []) s3.heap.objs.size code builtinsNs X.env))), toks := s3.toks + 1 + 1 + 1, heap := h'.push go } : Shared) = s5
    have h5h : s5.heap = h'.push go := by rw [← hs5]
    have h5g : s5.gens = s3.gens.push (.fresh (.compStart (.GeneratorExp elt [⟨tg, iter, ifs, 0⟩] scope gpos) 0 (.ref it) .none (genEnv scope (cloFrom X.env.cells scope.names []) s3.heap.objs.size code builtinsNs X.env))) := by rw [← hs5]
    have h5o : s5.os = s3.os := by rw [← hs5]
    have b5 : AllBare s5.gens := by rw [h5g]; exact I3.bare.push rfl
    have hd0 : X.A.in1.in1.handled = none := hr.hd
    have J5 : Inv (gxCx X X.A.in1.in1 s3 H3 scope s3.heap.objs.size code fp) [] (wipe σ (own.map (·.2))) H3 s5 :=
      gx_start I3 S hN f3 I3.ok.frames hd0 rfl h5o b5 (fun b o e => by rw [h5h]; exact keep5 b o e) (m := fun y => if y = ".0" then some (.ref it) else none) (by rw [h5h]; exact hn'.push _)
    have na : ∀ b o, s3.heap.get? b = some o → b ≠ h'.objs.size := fun b o e z => by
      have h9 : (h'.objs.size : Nat) < s3.heap.objs.size := by rw [← z]; exact Heap.lt_size e
      omega
    have nofa : h'.objs.size ∉ frs X.stack := fun z => by
      rcases List.mem_cons.mp (I3.stkSub _ z) with y | y
      · have h9 : (h'.objs.size : Nat) < s3.heap.objs.size := by rw [y]; exact I3.lt
        omega
      · exact I3.nofs (by rw [hsz']; omega) y
    have J5' : Inv (gxCx X X.A.in1.in1 s3 H3 scope s3.heap.objs.size code fp) [(h'.objs.size, go)] (wipe σ (own.map (·.2))) H3 s5 := J5.pins_of fun p hp => by
      rw [List.mem_singleton.mp hp]
      refine ⟨by rw [h5h]; exact hpush, I3.hok.fresh (by rw [hsz']; omega), by show h'.objs.size ≠ s3.heap.objs.size; rw [hsz']; omega, nofa, fun v z => ?_⟩
      have z : go.data = .cell v := z
      rw [hgod] at z
      cases z
    have st5 : tn 0 s5.heap := T.keep _ _ _ st3 fun b hb o e => by rw [h5h]; exact keep5 b o e
    have asleep : Asleep (gxCx X X.A.in1.in1 s3 H3 scope s3.heap.objs.size code fp) X.A.in1.in1 h'.objs.size go s3.gens.size isAll Q (m0 + 1) s5 := by
      refine ⟨⟨go, _, _, by rw [h5h]; exact hpush, hgoc, hgod, hgos⟩, J5.nolimit, b5, by rw [h5h]; exact hpush, .fresh (.compStart (.GeneratorExp elt [⟨tg, iter, ifs, 0⟩] scope gpos) 0 (.ref it) .none (genEnv scope (cloFrom X.env.cells scope.names []) s3.heap.objs.size code builtinsNs X.env)), by rw [h5g]; exact Array.getElem?_push_size .., fun s' z => ⟨rfl, ?_⟩⟩
      refine seg_gxs (X := X) (σ := σ) (A := X.A.in1.in1) T (fun p hp z => ?_) S.co (hgg _ _ _ _ _ _ hd0 rfl (by show X.A.units + 1 + 1 ≤ _; omega)) (htt _ _ _ _ _ _ hd0 rfl (by show X.A.units + 1 + 1 ≤ _; omega)) (hee _ _ _ _ _ _ hd0 rfl (by show X.A.units + 1 + 1 ≤ _; omega)) step (Nat.lt_succ_self m0) w0 (Inv.sl J5' z) (T.keep _ _ _ st5 fun b _ o e => z.keep b o e) fun b hb => (f3 b hb).1.1
      rw [List.mem_singleton.mp hp] at z
      have e : (h'.objs.size : Nat) < s3.heap.objs.size := szfp _ z
      omega
    refine Calls.spliced_nil ?_
    refine call_gx (Xg := gxCx X X.A.in1.in1 s3 H3 scope s3.heap.objs.size code fp) (A := X.A) hr.hd (by have := hr.dp; omega) asleep fun cc σ' H' s' I6 qq => ?_
    have I7 : Inv X pins σ H' s' := I3.call' (ch := fp) I6.os I6.base I6.hok I6.bare fun b hb => ⟨(f3 b hb).1.2.2.2.1, (f3 b hb).1.2.1, (f3 b hb).1.2.2.2.2.1, (f3 b hb).1.2.2.2.2.2⟩
    exact ⟨.bl cc, H', I7, rfl, qq⟩
  cases hf : codeAmong gpos ps.toList with
  | none =>
    refine wpAny_genexprCodeX hcode (cd.code hPs htr) (cd.tab hPs) hf fun c' h' tk hx hge hlt hco' _ htab' _ => ?_
    obtain ⟨o1, vs, f1, tf, fl, tg, inF, tx, tt, op, _, _, _, _, _, _, _, _, _, htr', _⟩ := hco'
    exact cont _ h' tk _ hx (Nat.le_trans hge (Nat.le_of_lt hlt)) htab'.2 ⟨_, rfl⟩ htr'
  | some cv =>
    refine wpAny_genexprCode_hit hcode (cd.code hPs htr) hf ?_
    exact cont cv s2.heap s2.toks ps (Heap.ExtBut.refl _ _) (Nat.le_refl _) hPs ⟨#[], by simp⟩ htr
end
end Gx
end
section
set_option maxRecDepth 100000
set_option maxHeartbeats 1000000
namespace Ev
open PySem PySem.Spec L2

section
variable {Γ : Glob} {X : Cx} {P : Par} {U U' U1 O O' : Addr → Prop} {env env' env1 env2 env3 : Env} {σ σ' σ1 σ2 : St} {H H1 H2 H3 H' H'' : Hp} {a x y z r : A} {v w u : V} {vs : List V} {ws : List Nat} {d e : D} {ds es' : List D} {W : WX} {pos p1 p2 p3 gpos : Pos} {ea eb ec tg : Expr} {es : List Expr} {i j k : Nat} {t ts : Tg} {J : L2.It}

/-- behind some turns -/
structure GxI (Γ : Glob) (U : Addr → Prop) (env1 : Env) (σ : St) (H1 : Hp) (ws : List Nat) (env : Env) (H : Hp) : Prop where
  ex : ∃ (U' : Addr → Prop), RE Γ U' env (wipe σ ws) H ∧ (∀ b, UW U env1 σ ws b → U' b) ∧ (∀ b, U' b → UW U env1 σ ws b ∨ Own (wipeE env1 ws) (wipe σ ws) b ∨ H1 b = none)
  st : Stp (Own (wipeE env1 ws) (wipe σ ws)) H1 (Own env (wipe σ ws)) H
theorem GxI.start (r : RE Γ U env1 σ H1) : GxI Γ U env1 σ H1 ws (wipeE env1 ws) H1 := ⟨⟨_, r.wiped, fun _ z => z, fun _ z => .inl z⟩, Stp.refl _ _⟩
theorem GxI.turn {env4 : Env} {σ2 : St} {H4 : Hp} {U' : Addr → Prop} (r : RE Γ U' env (wipe σ ws) H) (h1 : ∀ b, UW U env1 σ ws b → U' b)
    (h2 : ∀ b, U' b → UW U env1 σ ws b ∨ Own (wipeE env1 ws) (wipe σ ws) b ∨ H1 b = none)
    (st : Stp (Own (wipeE env1 ws) (wipe σ ws)) H1 (Own env (wipe σ ws)) H)
    (r4 : RE Γ U' env4 σ2 H4) (s4 : Stp (Own env (wipe σ ws)) H (Own env4 σ2) H4) (hw : wipe σ2 ws = wipe σ ws) : GxI Γ U env1 σ H1 ws (wipeE env4 ws) H4 := by
  have rw4 := r4.wiped (ws := ws)
  rw [hw] at rw4
  have ow : ∀ b, Own (wipeE env4 ws) (wipe σ ws) b → Own env4 σ2 b := fun b z => own_wipe (σ := σ2) b (by rw [hw]; exact z)
  have st4 := st.comp s4 fun b z => z
  refine ⟨⟨_, rw4, fun b z => .inl (h1 b z), fun b z => ?_⟩, st4.shr ow⟩
  rcases z with z | ⟨z, _⟩
  · exact h2 b z
  · rcases st4.sub b z with y | y
    · exact .inr (.inl y)
    · exact .inr (.inr y)
theorem GxI.fin {c : Bool} (p0 : PostI Γ U env σ H ds env1 J H1) (l : GxI Γ U env1 σ H1 ws env' H') : Post Γ U env σ H (.val (.bl c)) (backE env1 env' ws) (.bl c) H' := by
  obtain ⟨⟨U', r, h1, h2⟩, sT⟩ := l
  have r1 := p0.re
  have hlen : env'.length = env1.length := by rw [r.len, wipe_len, ← r1.len]
  have in_ : ∀ {i : Nat} {s : Sl}, i ∈ ws → (backE env1 env' ws)[i]? = some (some s) → env1[i]? = some (some s) := fun {i s} hi e => by
    have hl : i < env'.length := by
      have := (List.getElem?_eq_some_iff.mp e).1
      rwa [backE_len] at this
    rw [backE_in (by rw [← hlen]; exact hl) hl hi] at e
    exact e
  have inU : ∀ {i : Nat} {d : D} {b : Addr}, i ∈ ws → env1[i]? = some (some (.own d)) → σ[i]? = some (some (.ref b)) → UW U env1 σ ws b := fun {i d b} hi e1 e2 => by
    refine .inr ⟨⟨i, d, e1, e2⟩, fun ⟨j, d', q1, q2⟩ => ?_⟩
    have hj : j ∉ ws := fun z => wipeE_in z q1
    rw [wipeE_off hj] at q1
    rw [wipe_off hj] at q2
    have := r1.sep i j b d d' e1 q1 e2 q2
    subst this
    exact hj hi
  have ownB : ∀ b, Own (backE env1 env' ws) σ b → (UW U env1 σ ws b ∧ Own env1 σ b) ∨ Own env' (wipe σ ws) b := fun b ⟨i, d, e1, e2⟩ => by
    by_cases hi : i ∈ ws
    · have e1' := in_ hi e1
      exact .inl ⟨inU hi e1' e2, i, d, e1', e2⟩
    · rw [backE_off hi] at e1
      exact .inr ⟨i, d, e1, by rw [wipe_off hi]; exact e2⟩
  have sub : ∀ b, UA U (.val (.bl c)) (.bl c) b ∨ Own (backE env1 env' ws) σ b → U' b ∨ Own env' (wipe σ ws) b := fun b z => by
    rcases z with (z | z) | z
    · exact .inl (h1 b (.inl z))
    · exact z.elim
    · rcases ownB b z with ⟨y, _⟩ | y
      · exact .inl (h1 b y)
      · exact .inr y
  have sTO : Stp (fun b => U b ∨ Own env1 σ b) H1 (fun b => UA U (.val (.bl c)) (.bl c) b ∨ Own (backE env1 env' ws) σ b) H' := sT.mono (fun b z => .inr (own_wipe b z)) fun b z => by
    rcases z with (z | z) | z
    · exact .inr (.inl (.inl z))
    · exact z.elim
    · rcases ownB b z with ⟨_, y⟩ | y
      · exact .inr (.inl (.inr y))
      · exact .inl y
  refine ⟨⟨by rw [backE_len, r.len, wipe_len], fun i d e => ?_, fun i d e => ?_, fun i k b d e e1 e2 e3 e4 => ?_, r.tabs, fun b z => ?_⟩, .bl c, ?_⟩
  · by_cases hi : i ∈ ws
    · obtain ⟨v, q1, q2⟩ := r1.val i d (in_ hi e)
      exact ⟨v, q1, q2.stp sTO⟩
    · rw [backE_off hi] at e
      obtain ⟨v, q1, q2⟩ := r.val i d e
      rw [wipe_off hi] at q1
      exact ⟨v, q1, q2.less sub⟩
  · by_cases hi : i ∈ ws
    · have e' := in_ hi e
      obtain ⟨b, q1, q2, q3⟩ := r1.own i d e'
      have nw : ¬ Own (wipeE env1 ws) (wipe σ ws) b := (inU hi e' q1).elim (fun z => (q2 z).elim) fun z => z.2
      exact ⟨b, q1, fun z => z.elim q2 fun y => y.elim, q3.stp sTO fun o m hv => sT.mu hv m nw⟩
    · rw [backE_off hi] at e
      obtain ⟨b, q1, q2, q3⟩ := r.own i d e
      rw [wipe_off hi] at q1
      exact ⟨b, q1, fun z => q2 (z.elim (fun y => h1 b (.inl y)) fun y => y.elim), q3.less sub⟩
  · have mixed : ∀ {i k : Nat} {d e : D}, i ∈ ws → k ∉ ws → (backE env1 env' ws)[i]? = some (some (.own d)) → (backE env1 env' ws)[k]? = some (some (.own e)) → σ[i]? = some (some (.ref b)) → σ[k]? = some (some (.ref b)) → False := fun {i k d e} hi hk g1 g2 g3 g4 => by
      rw [backE_off hk] at g2
      obtain ⟨c, q1, q2, _⟩ := r.own k e g2
      rw [wipe_off hk, g4] at q1
      cases q1
      exact q2 (h1 b (inU hi (in_ hi g1) g3))
    by_cases hi : i ∈ ws
    · by_cases hk : k ∈ ws
      · exact r1.sep i k b d e (in_ hi e1) (in_ hk e2) e3 e4
      · exact (mixed hi hk e1 e2 e3 e4).elim
    · by_cases hk : k ∈ ws
      · exact (mixed hk hi e2 e1 e4 e3).elim
      · rw [backE_off hi] at e1
        rw [backE_off hk] at e2
        exact r.sep i k b d e e1 e2 (by rw [wipe_off hi]; exact e3) (by rw [wipe_off hk]; exact e4)
  · rcases z with z | z
    · obtain ⟨o, e⟩ := r1.uth b z
      exact sT.there b o e
    · exact z.elim
  · refine ((p0.st.comp sT fun b z => own_wipe b z).add (V' := Own env1 σ) fun b z => p0.st.sub b z).shr fun b z => ?_
    rcases z with z | z
    · rcases ownB b z with ⟨_, y⟩ | y
      · exact .inr y
      · exact .inl y
    · exact z.elim
/-- a table has grown -/
theorem stp_tab {Pt : Addr} (hT : GxR.TabG H1 Pt) (h : GxR.Tabbed Pt H1 H2) (W : Addr → Prop) (hW : ¬ W Pt) : Stp W H1 W H2 := by
  obtain ⟨ps, e1, q1⟩ := hT
  obtain ⟨⟨ps', e2, q2⟩, hb⟩ := h
  refine ⟨fun a o e n => ?_, fun a vs e => ?_, fun a o u e => ?_, fun a z => .inl z, fun a o e => ?_⟩
  · by_cases hp : a = Pt
    · subst hp
      rw [e1] at e
      cases e
      exact .inr ⟨⟨_, rfl, q1⟩, _, e2, _, rfl, q2⟩
    · exact .inl (by rw [hb a hp]; exact e)
  · rw [hb a fun z => by rw [z, e1] at e; cases e]
    exact e
  · rw [hb a fun z => by rw [z, e1] at e; cases e]
    exact e
  · by_cases hp : a = Pt
    · subst hp
      exact ⟨_, e2⟩
    · exact ⟨o, by rw [hb a hp]; exact e⟩
def gxB (P : Par) (t : Tg) (c : Es) (elt : E) (ws : List Nat) (d : D) (env : Env) : Out (Option Bool) := match bindT t d env with
        | some env => (evC P c env).bind fun k env => if k then (evA P elt env).bind fun a env => match a with
          | .val (.bl b) => .ok (some b) (wipeE env ws)
          | _ => .stuck
          else .ok none (wipeE env ws)
        | none => .stuck
theorem gx_imp {isAll : Bool} {el : E} {it : It} {c : Es} {ws : List Nat} {W : WX} {Q : VK} {Pt : Addr} (hPt : Pt ∈ Γ.tabs) (hsl : ∀ i ∈ t.slots, i ∈ ws) (h : tE Γ (evA P (.gx isAll el t it c ws)) W σ H Q) :
    Gx.tGx Pt isAll (tI Γ (evI P it) W) (tG Γ t) (tT Γ (evC P c) fun _ _ _ _ => False) (tE Γ (evA P el) fun _ _ _ _ => False) ws σ H Q := by
  obtain ⟨U, env, r, h⟩ := h
  simp only [evA] at h
  rw [Wp.bind] at h
  refine ⟨U, env, r, h.mono (fun ds env1 h J H1 p0 => ?_) fun _ _ q => q⟩
  have hT : GxR.TabG H1 Pt := by
    obtain ⟨o, e, ps, q1, q2⟩ := p0.re.tabs Pt hPt
    subst q1
    exact ⟨ps, e, q2⟩
  refine ⟨hT, fun H2 hH2 => ?_⟩
  -- the table has grown
  have p1 : PostI Γ U env σ H ds env1 J H2 := by
    have hno : ¬ (fun b => U b ∨ Own env1 σ b) Pt ∨ True := .inr trivial
    have s2 : Stp (fun _ => False) H1 (fun b => U b ∧ ¬ U b) H2 := (stp_tab hT hH2 (fun _ => False) (fun z => z)).shr fun b z => z.2 z.1
    have uth2 : ∀ b, U b → ∃ o, H2 b = some o := fun b z => let ⟨o, e⟩ := p0.re.uth b z; s2.there b o e
    have sW : Stp (Own env1 σ) H1 (Own env1 σ) H2 := stp_tab hT hH2 _ (p0.re.tabN Pt hPt)
    refine ⟨p0.re.stp s2 (fun _ z => z) uth2, p0.st.comp sW fun _ z => z, p0.jok.stp (sW.mono (fun b z => .inr z) fun b z => z.elim (fun y => .inr (.inl (.inl y))) .inl)⟩
  refine ⟨fun i m Hi => ∃ envi, m = ds.length - i ∧ i ≤ ds.length ∧ GxI Γ U env1 σ H2 ws envi Hi ∧
    Wp (gxL isAll (gxB P t c el ws) (ds.drop i) envi) (fun b env' => ∀ H', Post Γ U env σ H (.val (.bl b)) (backE env1 env' ws) (.bl b) H' → Q (.bl b) H') (fun _ _ => False), ⟨ds.length, _, by simp, Nat.zero_le _, .start p1.re, ?_⟩, ?_⟩
  · show Wp (gxL isAll (gxB P t c el ws) ds (wipeE env1 ws)) _ _
    have h' : Wp (match gxL isAll (gxB P t c el ws) ds (wipeE env1 ws) with | .ok b env' => Out.ok (A.val (.bl b)) (backE env1 env' ws) | _ => .stuck) (fun a env' => ∀ v H', Post Γ U env σ H a env' v H' → Q v H') _ := h
    cases q : gxL isAll (gxB P t c el ws) ds (wipeE env1 ws) with
    | ok b env' => rw [q] at h'; exact fun H' p => h' _ H' p
    | exn x e => rw [q] at h'; exact h'
    | stuck => rw [q] at h'; exact h'
  · rintro i m Hi ⟨envi, rfl, hil, l, h⟩
    obtain ⟨⟨U', r1, h1, h2⟩, st⟩ := id l
    have jst : Stp (fun b => U b ∨ Own env1 σ b) H2 (fun b => U' b ∨ Own envi (wipe σ ws) b) Hi := st.mono (fun b z => .inr (own_wipe b z)) fun b z => by
        rcases z with z | z
        · rcases h2 b z with y | y | y
          · exact .inr (.inl (y.imp id fun k => k.1))
          · exact .inr (.inl (.inr (own_wipe b y)))
          · exact .inr (.inr y)
        · exact .inl z
    by_cases hlt : i < ds.length
    · refine .inr ⟨p1.jok.go i _ _ jst hlt, fun H' => ∃ envi, GxI Γ U env1 σ H2 ws envi H' ∧
        Wp (gxL isAll (gxB P t c el ws) (ds.drop (i + 1)) envi) (fun b env' => ∀ H', Post Γ U env σ H (.val (.bl b)) (backE env1 env' ws) (.bl b) H' → Q (.bl b) H') (fun _ _ => False),
        fun H' ⟨envi, l, h⟩ => ⟨ds.length - (i + 1), by omega, envi, rfl, hlt, l, h⟩, fun x H' hy => ?_⟩
      obtain ⟨d, hd⟩ := get_lt hlt
      have hdrop : ds.drop i = d :: ds.drop (i + 1) := by
        rw [List.drop_eq_getElem_cons hlt]
        congr 1
        rw [List.getElem?_eq_getElem hlt] at hd
        exact Option.some.inj hd
      rw [hdrop] at h
      have py := YOk.post r1 (p1.jok.yld i _ _ x H' d jst hd hy)
      unfold gxL at h
      have hb : Wp (gxB P t c el ws d envi) (fun o e => match o with
          | some k => if k = isAll then Wp (gxL isAll (gxB P t c el ws) (ds.drop (i + 1)) e) (fun b env' => ∀ H', Post Γ U env σ H (.val (.bl b)) (backE env1 env' ws) (.bl b) H' → Q (.bl b) H') (fun _ _ => False)
              else ∀ H', Post Γ U env σ H (.val (.bl k)) (backE env1 e ws) (.bl k) H' → Q (.bl k) H'
          | none => Wp (gxL isAll (gxB P t c el ws) (ds.drop (i + 1)) e) (fun b env' => ∀ H', Post Γ U env σ H (.val (.bl b)) (backE env1 env' ws) (.bl b) H' → Q (.bl b) H') (fun _ _ => False)) (fun _ _ => False) := by
        cases q : gxB P t c el ws d envi with
        | ok o e =>
          rw [q] at h
          cases o with
          | none => exact h
          | some y =>
            dsimp only at h
            show if y = isAll then _ else _
            split at h
            · rename_i hz; rw [if_pos hz]; exact h
            · rename_i hz; rw [if_neg hz]; exact h
        | exn x e => rw [q] at h; exact h
        | stuck => rw [q] at h; exact h
      unfold gxB at hb
      split at hb
      · rename_i envb hbind
        have rb := py.reU
        have qx : Rep Γ (fun b => U' b ∨ Own envi (wipe σ ws) b) H' x d := Rep.less (fun b z => z.imp .inl id) (show Rep Γ (fun b => UA U' (.val d) x b ∨ Own envi (wipe σ ws) b) H' x d from py.ra)
        refine ⟨U', envi, d, envb, rb, qx, hbind, fun σ2 pg => ?_⟩
        have hw : wipe σ2 ws = wipe σ ws := by
          rw [wipe_ext (σ := wipe σ ws) pg.len fun i hi => pg.off i fun z => hi (hsl i z)]
          exact wipe_ext (wipe_len) fun i hi => wipe_off hi
        refine ⟨hw, ?_⟩
        have sg : Stp (Own envi (wipe σ ws)) Hi (Own envb σ2) H' := py.st.shr fun b z => .inl (pg.sub b z)
        refine (stepT pg.re (fun _ _ _ _ _ _ q => q.elim) hb).mono fun k H3 ⟨env3, p3, hb⟩ => ?_
        cases k with
        | false =>
          rw [if_neg Bool.false_ne_true] at hb ⊢
          exact ⟨_, GxI.turn r1 h1 h2 st p3.reU (sg.comp (p3.st.shr fun b z => .inl z) fun _ z => z) hw, hb⟩
        | true =>
          rw [if_pos rfl] at hb ⊢
          refine (stepE p3.reU (fun _ _ _ _ _ _ q => q.elim) hb).mono fun vy H4 ⟨a, env4, p4, hb⟩ => ?_
          split at hb
          · rename_i bb
            have hv : vy = .bl bb := by
              have q := p4.ra
              have q : Rep Γ _ H4 vy (.bl bb) := q
              cases q
              rfl
            refine ⟨bb, hv, ?_⟩
            have s5 : Stp (Own envi (wipe σ ws)) Hi (Own env4 σ2) H4 := (sg.comp (p3.st.shr fun b z => .inl z) fun _ z => z).comp (p4.st.shr fun b z => .inl z) fun _ z => z
            have l4 := GxI.turn r1 h1 h2 st p4.reU s5 hw
            have hb : if bb = isAll then _ else _ := hb
            by_cases hc : bb = isAll
            · rw [if_pos hc] at hb ⊢
              exact ⟨_, l4, hb⟩
            · rw [if_neg hc] at hb ⊢
              exact hb H4 (l4.fin p1)
          · exact hb.elim
      · exact hb.elim
    · have e : i = ds.length := by omega
      subst e
      rw [List.drop_length] at h
      refine .inl ⟨p1.jok.stop _ _ _ jst (Nat.le_refl _), ?_⟩
      unfold gxL at h
      exact h _ (l.fin p1)
theorem q_gx {isAll : Bool} {elt iter : Expr} {ifs : List Expr} {scope : Scope} {own : List (Str × Nat)} {el : E} {it : It} {c : Es} {Pt : Addr} {cA : Addr} (hr : Room k X.A) (hc : X.calm = true) (hN : X.N.Nodup) (hg : Gl X (Gx.gxNm isAll)) (hm : X.mg (Gx.gxNm isAll) = none)
    (hPt : Pt ∈ Γ.tabs) (TB : GxR.TabB X.base X.mg cA Pt) (hcode : X.env.code = .ref cA) (S : Gx.GxS X.N X.env.scope scope own) (hi : QI Γ X tg iter (evI P it))
    (hgg : ∀ (A : Around) (s : Shared) (H : Hp) (C : Addr) (code : Value) (fp : List Addr), A.handled = none → A.depth = X.A.depth → A.units ≤ X.A.units + 8 → QG Γ (Gx.gxCx X A s H scope C code fp) tg t)
    (htt : ∀ (A : Around) (s : Shared) (H : Hp) (C : Addr) (code : Value) (fp : List Addr), A.handled = none → A.depth = X.A.depth → A.units ≤ X.A.units + 8 → QC Γ (Gx.gxCx X A s H scope C code fp) ifs (evC P c))
    (hee : ∀ (A : Around) (s : Shared) (H : Hp) (C : Addr) (code : Value) (fp : List Addr), A.handled = none → A.depth = X.A.depth → A.units ≤ X.A.units + 8 → QE Γ (Gx.gxCx X A s H scope C code fp) elt (evA P el))
    (hs : ∀ v, genFold iter X.env v = pure v) (hsl : ∀ i ∈ t.slots, i ∈ own.map (·.2)) :
    QE Γ X (.Call (.Name (Gx.gxNm isAll) p1) [.GeneratorExp elt [⟨tg, iter, ifs, 0⟩] scope gpos] [] pos) (evA P (.gx isAll el t it c (own.map (·.2)))) := fun xe W tk => by
  exact PE.imp (Gx.pe_gx (X := X.wish xe) hr hc hN hg hm TB hcode S (hi xe W tk)
    (fun A s H C code fp h1 h2 h3 => hgg A s H C code fp h1 h2 h3 _) (fun A s H C code fp h1 h2 h3 => htt A s H C code fp h1 h2 h3 _ (fun _ _ _ _ => False) takes0)
    (fun A s H C code fp h1 h2 h3 => hee A s H C code fp h1 h2 h3 _ (fun _ _ _ _ => False) takes0) hs) fun σ H Q h => gx_imp hPt hsl h
end
end Ev
end
section
set_option maxRecDepth 100000
set_option maxHeartbeats 1000000
namespace Ev
open PySem PySem.Spec L2

section
variable {Γ : Glob} {X : Cx} {P : Par} {fx : List Nat} {U U' U1 O O' : Addr → Prop} {env env' env1 env2 env3 : Env} {σ σ' σ1 σ2 : St} {H H1 H2 H3 H' H'' : Hp} {a x y z r : A} {as as' : List A} {v w u : V} {vs : List V} {ws : List Nat} {d e : D} {ds es' : List D} {W : WX} {pos p1 p2 p3 apos cpos : Pos} {ea eb ec tg : Expr} {es : List Expr} {i j k : Nat} {t ts : Tg} {st : Stmt} {sts : List Stmt}

structure PostS (Γ : Glob) (fx : List Nat) (U : Addr → Prop) (env : Env) (σ : St) (H : Hp) (env' : Env) (σ' : St) (H' : Hp) : Prop where
  re : RE Γ U env' σ' H'
  st : Stp (Own env σ) H (Own env' σ') H'
  fx : ∀ i ∈ fx, σ'[i]? = σ[i]?
structure PostR (Γ : Glob) (fx : List Nat) (U : Addr → Prop) (env : Env) (σ : St) (H : Hp) (a : A) (env' : Env) (σ' : St) (v : V) (H' : Hp) : Prop where
  re : RE Γ (UA U a v) env' σ' H'
  ra : RA Γ U (fun b => UA U a v b ∨ Own env' σ' b) σ' H' a v
  st : Stp (Own env σ) H (fun b => Own env' σ' b ∨ isTmp a v b) H'
  fx : ∀ i ∈ fx, σ'[i]? = σ[i]?
structure XPostS (Γ : Glob) (fx : List Nat) (U : Addr → Prop) (env : Env) (σ : St) (H : Hp) (x : Exn) (env' : Env) (cls : Value) (d : Option Addr) (σ' : St) (H' : Hp) : Prop where
  re : RE Γ U env' σ' H'
  xr : XR Γ x cls d H'
  st : Stp (Own env σ) H (Own env' σ') H'
  fx : ∀ i ∈ fx, σ'[i]? = σ[i]?
def okS (Γ : Glob) (fx : List Nat) (U : Addr → Prop) (env : Env) (σ : St) (H : Hp) (D : Ends) (fl : Fl) (env' : Env) : Prop :=
  match fl with
  | .next => ∀ σ' H', PostS Γ fx U env σ H env' σ' H' → D.nx σ' H'
  | .brk => ∀ σ' H', PostS Γ fx U env σ H env' σ' H' → D.bk σ' H'
  | .cont => ∀ σ' H', PostS Γ fx U env σ H env' σ' H' → D.ct σ' H'
  | .ret a => ∀ v σ' H', PostR Γ fx U env σ H a env' σ' v H' → D.rt v H'
def exS (Γ : Glob) (fx : List Nat) (U : Addr → Prop) (env : Env) (σ : St) (H : Hp) (W : WX) (x : Exn) (env' : Env) : Prop := ∀ cls d σ' H', XPostS Γ fx U env σ H x env' cls d σ' H' → W cls d σ' H'
def tS (Γ : Glob) (fx : List Nat) (m : M Fl) (W : WX) : TS := fun D σ H => ∃ U env, RE Γ U env σ H ∧ Wp (m env) (okS Γ fx U env σ H D) (exS Γ fx U env σ H W)
def QS (Γ : Glob) (fx : List Nat) (X : Cx) (s : Stmt) (m : M Fl) : Prop := ∀ (xe : Value → Shared → Prop) (W : WX), Takes (X.wish xe) W → PassesOwn (model X.prog X.w) X.A X.env xe → PS (X.wish xe) s (tS Γ fx m W)
def QSs (Γ : Glob) (fx : List Nat) (X : Cx) (s : List Stmt) (m : M Fl) : Prop := ∀ (xe : Value → Shared → Prop) (W : WX), Takes (X.wish xe) W → PassesOwn (model X.prog X.w) X.A X.env xe → PSs (X.wish xe) s (tS Γ fx m W)
theorem PS.imp {X : Cx} {s : Stmt} {t t' : TS} (h : PS X s t) (hi : ∀ D σ H, t' D σ H → t D σ H) : PS X s t' := ⟨fun pins s σ H D I hq => h.run pins s σ H D I (hi D σ H hq)⟩
theorem PSs.imp {X : Cx} {s : List Stmt} {t t' : TS} (h : PSs X s t) (hi : ∀ D σ H, t' D σ H → t D σ H) : PSs X s t' := ⟨fun pins s σ H D I hq => h.run pins s σ H D I (hi D σ H hq)⟩
theorem PostS.refl (r : RE Γ U env σ H) : PostS Γ fx U env σ H env σ H := ⟨r, Stp.refl _ _, fun _ _ => rfl⟩
theorem PostS.comp (p1 : PostS Γ fx U env σ H env1 σ1 H1) (p2 : PostS Γ fx U env1 σ1 H1 env2 σ2 H2) : PostS Γ fx U env σ H env2 σ2 H2 := ⟨p2.re, p1.st.comp p2.st fun _ z => z, fun i hi => (p2.fx i hi).trans (p1.fx i hi)⟩
theorem PostS.compR (p1 : PostS Γ fx U env σ H env1 σ1 H1) (p2 : PostR Γ fx U env1 σ1 H1 a env2 σ2 v H2) : PostR Γ fx U env σ H a env2 σ2 v H2 := ⟨p2.re, p2.ra, p1.st.comp p2.st fun _ z => z, fun i hi => (p2.fx i hi).trans (p1.fx i hi)⟩
theorem PostS.compX {x : Exn} {cls : Value} {dd : Option Addr} (p1 : PostS Γ fx U env σ H env1 σ1 H1) (p2 : XPostS Γ fx U env1 σ1 H1 x env2 cls dd σ2 H2) : XPostS Γ fx U env σ H x env2 cls dd σ2 H2 := ⟨p2.re, p2.xr, p1.st.comp p2.st fun _ z => z, fun i hi => (p2.fx i hi).trans (p1.fx i hi)⟩
theorem okS.comp {D : Ends} {fl : Fl} {env2 : Env} (p1 : PostS Γ fx U env σ H env1 σ1 H1) (h : okS Γ fx U env σ H D fl env2) : okS Γ fx U env1 σ1 H1 D fl env2 := by
  cases fl with
  | next => exact fun σ' H' p => h σ' H' (p1.comp p)
  | brk => exact fun σ' H' p => h σ' H' (p1.comp p)
  | cont => exact fun σ' H' p => h σ' H' (p1.comp p)
  | ret a => exact fun v σ' H' p => h v σ' H' (p1.compR p)
theorem exS.comp {x : Exn} {env2 : Env} (p1 : PostS Γ fx U env σ H env1 σ1 H1) (h : exS Γ fx U env σ H W x env2) : exS Γ fx U env1 σ1 H1 W x env2 := fun cls d σ' H' p => h cls d σ' H' (p1.compX p)
/-- behind an expression -/
theorem Post.s {d : D} (p : Post Γ U env σ H (.val d) env1 v H1) : PostS Γ fx U env σ H env1 σ H1 := ⟨p.reU, p.st.shr fun _ z => .inl z, fun _ _ => rfl⟩
theorem Post.sA (p : Post Γ U env σ H a env1 v H1) : PostS Γ fx U env σ H env1 σ H1 := ⟨p.re.less fun _ z => .inl z, p.st.shr fun _ z => .inl z, fun _ _ => rfl⟩
theorem exS.at {x : Exn} {cls : Value} {dd : Option Addr} {env2 : Env} (h : exS Γ fx U env σ H W x env2) (p : XPost Γ U env σ H x env2 cls dd H2) : W cls dd σ H2 := h cls dd σ H2 ⟨p.re, p.xr, p.st, fun _ _ => rfl⟩

/-! ### rows of statements -/
theorem qs_nil : QSs Γ fx X [] (evSs P .nil) := fun xe W tk po => PSs.imp pss_nil fun D σ H ⟨U, env, r, h⟩ => by
  simp only [evSs] at h
  exact h σ H (.refl r)
theorem seq_wp {s : S} {r : Ss} {D : Ends} (h : Wp (evSs P (.cons s r) env) (okS Γ fx U env σ H D) (exS Γ fx U env σ H W)) :
    Wp (evS P s env) (fun fl env1 => match fl with | .next => Wp (evSs P r env1) (okS Γ fx U env σ H D) (exS Γ fx U env σ H W) | fl => okS Γ fx U env σ H D fl env1) (exS Γ fx U env σ H W) := by
  simp only [evSs] at h
  cases q : evS P s env with
  | ok fl e =>
    rw [q] at h
    cases fl <;> exact h
  | exn x e => rw [q] at h; exact h
  | stuck => rw [q] at h; exact h
theorem qs_cons {s : S} {r : Ss} (h1 : QS Γ fx X st (evS P s)) (h2 : QSs Γ fx X sts (evSs P r)) : QSs Γ fx X (st :: sts) (evSs P (.cons s r)) := fun xe W tk po =>
  PSs.imp (pss_cons (h1 xe W tk po) (h2 xe W tk po)) fun D σ H ⟨U, env, r, h⟩ => ⟨U, env, r, (seq_wp h).mono (fun fl env1 h => by
    cases fl with
    | next => exact fun σ1 H1 p1 => ⟨U, env1, p1.re, h.mono (fun _ _ q => okS.comp p1 q) fun _ _ q => exS.comp p1 q⟩
    | brk => exact h
    | cont => exact h
    | ret a => exact h) fun _ _ q => q⟩

/-! ### small statements -/
theorem qs_pass : QS Γ fx X (.Pass pos) (evS P .pass) := fun xe W tk po => PS.imp ps_pass fun D σ H ⟨U, env, r, h⟩ => by
  simp only [evS] at h
  exact h σ H (.refl r)
theorem qs_brk : QS Γ fx X (.Break pos) (evS P .brk) := fun xe W tk po => PS.imp ps_break fun D σ H ⟨U, env, r, h⟩ => by
  simp only [evS] at h
  exact h σ H (.refl r)
theorem qs_cont : QS Γ fx X (.Continue pos) (evS P .cont) := fun xe W tk po => PS.imp ps_continue fun D σ H ⟨U, env, r, h⟩ => by
  simp only [evS] at h
  exact h σ H (.refl r)
theorem qs_doc {z : Str} {j : Nat} : QS Γ fx X (.Expr (.Constant (.str z) j p1) pos) (evS P .pass) := fun xe W tk po => PS.imp ps_doc fun D σ H ⟨U, env, r, h⟩ => by
  simp only [evS] at h
  exact h σ H (.refl r)
def isComp : Expr → Bool
  | .ListComp .. | .SetComp .. | .DictComp .. => true
  | _ => false
theorem swaps_no {e : Expr} {t : Option Expr} {l : Nat} {env : PySem.Env} (h : isComp e = false) : swapsWith e t l env = pure false := by
  cases e <;> first | rfl | cases h
theorem qs_expr {e : E} (he : QE Γ X ea (evA P e)) (hc : isComp ea = false) : QS Γ fx X (.Expr ea pos) (evS P (.expr e)) := fun xe W tk po => PS.imp (ps_expr (he xe W tk) (swaps_no hc)) fun D σ H ⟨U, env, r, h⟩ => by
  simp only [evS] at h
  exact (stepE r (fun x e cls d H' p q => exS.at q p) h).mono fun v H1 ⟨x, env1, p, h⟩ => h σ H1 p.sA
theorem qs_retN : QS Γ fx X (.Return none pos) (evS P .retN) := fun xe W tk po => PS.imp ps_retN fun D σ H ⟨U, env, r, h⟩ => by
  simp only [evS] at h
  have p : Post Γ U env σ H (.val .non) env .non H := .pure r .non
  exact h .non σ H ⟨p.re, p.ra, p.st, fun _ _ => rfl⟩
/-- an owned slot hands over -/
theorem RE.handed (r : RE Γ U env σ H) (h : env[i]? = some (some (.own d))) (hv : σ[i]? = some (some v)) :
    RE Γ (UA U (.tmp d) v) (env.set i none) σ H ∧ RA Γ U (fun b => UA U (.tmp d) v b ∨ Own (env.set i none) σ b) σ H (.tmp d) v ∧ ∀ b, Own (env.set i none) σ b ∨ isTmp (.tmp d) v b → Own env σ b := by
  have hlt : i < env.length := (List.getElem?_eq_some_iff.mp h).1
  obtain ⟨b0, q1, q2, q3⟩ := r.own i d h
  rw [hv] at q1
  cases q1
  have off : ∀ {j : Nat} {s : Sl}, (env.set i none)[j]? = some (some s) → i ≠ j ∧ env[j]? = some (some s) := fun {j s} e => by
    have hj : i ≠ j := fun z => by subst z; rw [List.getElem?_set_self hlt] at e; cases e
    rw [List.getElem?_set_ne hj] at e
    exact ⟨hj, e⟩
  have sub : ∀ b, Own (env.set i none) σ b ∨ isTmp (.tmp d) (.ref b0) b → Own env σ b := fun b z => by
    rcases z with ⟨j, e, e1, e2⟩ | z
    · exact ⟨j, e, (off e1).2, e2⟩
    · rw [show b = b0 from z]
      exact ⟨i, d, h, hv⟩
  have less : ∀ b, UA U (.tmp d) (.ref b0) b ∨ Own (env.set i none) σ b → U b ∨ Own env σ b := fun b z => by
    rcases z with (z | z) | z
    · exact .inl z
    · exact .inr (sub b (.inr z))
    · exact .inr (sub b (.inl z))
  refine ⟨⟨by rw [List.length_set]; exact r.len, fun j e e1 => ?_, fun j e e1 => ?_, fun j k b d' e' e1 e2 e3 e4 => r.sep j k b d' e' (off e1).2 (off e2).2 e3 e4, r.tabs, fun b z => ?_⟩, ⟨b0, rfl, q2, q3.less less⟩, sub⟩
  · obtain ⟨v, z1, z2⟩ := r.val j e (off e1).2
    exact ⟨v, z1, z2.less less⟩
  · obtain ⟨b, z1, z2, z3⟩ := r.own j e (off e1).2
    refine ⟨b, z1, fun z => z.elim z2 fun y => (off e1).1 ?_, z3.less less⟩
    have y : b = b0 := y
    subst y
    exact r.sep i j b d e h (off e1).2 hv z1
  · rcases z with z | z
    · exact r.uth b z
    · rw [show b = b0 from z]
      exact Body_some q3
theorem qs_ret {e : E} (he : QE Γ X ea (evA P e)) : QS Γ fx X (.Return (some ea) pos) (evS P (.ret e)) := fun xe W tk po => PS.imp (ps_ret (he xe W tk)) fun D σ H ⟨U, env, r, h⟩ => by
  simp only [evS] at h
  refine (stepE r (fun x e cls d H' p q => exS.at q p) h).mono fun v H1 ⟨x, env1, p, h⟩ => ?_
  have fin : ∀ {x : A} {env2 : Env}, Wp (Out.ok (Fl.ret x) env2) (okS Γ fx U env σ H D) (exS Γ fx U env σ H W) → Post Γ U env σ H x env2 v H1 → D.rt v H1 := fun h p => h v σ H1 ⟨p.re, p.ra, p.st, fun _ _ => rfl⟩
  cases x with
  | own i =>
    dsimp only at h
    split at h
    · obtain ⟨d, env2, p2, h⟩ := freeze_step p h
      exact fin h p2
    · split at h
      · rename_i d hd
        have hv : σ[i]? = some (some v) := p.ra
        have re : RE Γ U env1 σ H1 := p.re.less fun _ z => .inl z
        obtain ⟨r1, r2, r3⟩ := re.handed hd hv
        exact h v σ H1 ⟨r1, r2, p.st.shr fun b z => .inl (r3 b z), fun _ _ => rfl⟩
      · exact h.elim
  | val d => exact fin h p
  | tmp d => exact fin h p

/-! ### stores -/
theorem RE.bindO (r : RE Γ (UA U (.tmp d) v) env σ H) (q : RA Γ U (fun b => UA U (.tmp d) v b ∨ Own env σ b) σ H (.tmp d) v) (hi : i < env.length) :
    RE Γ U (env.set i (some (.own d))) (σ.set i (some v)) H ∧ ∀ b, Own (env.set i (some (.own d))) (σ.set i (some v)) b → Own env σ b ∨ isTmp (.tmp d) v b := by
  obtain ⟨p, rfl, nU, body⟩ := q
  have hσ : i < σ.length := by rw [← r.len]; exact hi
  have sub : ∀ b, Own (env.set i (some (.own d))) (σ.set i (some (.ref p))) b → Own env σ b ∨ isTmp (.tmp d) (.ref p) b := fun b ⟨j, e, e1, e2⟩ => by
    by_cases hj : i = j
    · subst hj
      rw [List.getElem?_set_self hσ] at e2
      cases e2
      exact .inr rfl
    · rw [List.getElem?_set_ne hj] at e1 e2
      exact .inl ⟨j, e, e1, e2⟩
  have less : ∀ b, U b ∨ Own (env.set i (some (.own d))) (σ.set i (some (.ref p))) b → UA U (.tmp d) (.ref p) b ∨ Own env σ b := fun b z => by
    rcases z with z | z
    · exact .inl (.inl z)
    · exact (sub b z).elim .inr fun y => .inl (.inr y)
  have apart : ∀ {j : Nat} {e : D}, env[j]? = some (some (.own e)) → σ[j]? = some (some (.ref p)) → False := fun {j e} e1 e2 => by
    obtain ⟨b, z1, z2, _⟩ := r.own j e e1
    rw [e2] at z1
    cases z1
    exact z2 (.inr rfl)
  refine ⟨⟨by rw [List.length_set, List.length_set]; exact r.len, fun j e e1 => ?_, fun j e e1 => ?_, fun j k b e e' e1 e2 e3 e4 => ?_, r.tabs, fun b z => r.uth b (.inl z)⟩, sub⟩
  · have hj : i ≠ j := fun z => by subst z; rw [List.getElem?_set_self hi] at e1; cases e1
    rw [List.getElem?_set_ne hj] at e1
    obtain ⟨w, z1, z2⟩ := r.val j e e1
    exact ⟨w, by rw [List.getElem?_set_ne hj]; exact z1, z2.less less⟩
  · by_cases hj : i = j
    · subst hj
      rw [List.getElem?_set_self hi] at e1
      cases e1
      exact ⟨p, List.getElem?_set_self hσ, nU, body.less less⟩
    · rw [List.getElem?_set_ne hj] at e1
      obtain ⟨b, z1, z2, z3⟩ := r.own j e e1
      exact ⟨b, by rw [List.getElem?_set_ne hj]; exact z1, fun z => z2 (.inl z), z3.less less⟩
  · by_cases hj : i = j
    · subst hj
      rw [List.getElem?_set_self hσ] at e3
      cases e3
      by_cases hk : i = k
      · exact hk
      · rw [List.getElem?_set_ne hk] at e2 e4
        exact (apart e2 e4).elim
    · rw [List.getElem?_set_ne hj] at e1 e3
      by_cases hk : i = k
      · subst hk
        rw [List.getElem?_set_self hσ] at e4
        cases e4
        exact (apart e1 e3).elim
      · rw [List.getElem?_set_ne hk] at e2 e4
        exact r.sep j k b e e' e1 e2 e3 e4
/-- a name's store: what follows -/
theorem asg_nm {De : Ends} (hfx : i ∉ fx) (p : Post Γ U env σ H a env1 v H1)
    (h : Wp (match Tg.nm i, a with | .nm i, .tmp d => if i < env1.length then Out.ok Fl.next (env1.set i (some (.own d))) else .stuck | t, a => (a.freeze env1).bind fun d env => match bindT t d env with | some env => .ok .next env | none => .stuck)
      (okS Γ fx U env σ H De) (exS Γ fx U env σ H W)) : De.nx (σ.set i (some v)) H1 := by
  have fin : ∀ {d : D} {env2 : Env}, Post Γ U env σ H (.val d) env2 v H1 → Wp (match bindT (.nm i) d env2 with | some env => Out.ok Fl.next env | none => .stuck) (okS Γ fx U env σ H De) (exS Γ fx U env σ H W) → De.nx (σ.set i (some v)) H1 := fun {d env2} p2 h => by
    unfold bindT at h
    split at h
    · rename_i env3 hb
      split at hb
      · rename_i hlt
        cases hb
        have b := p2.reU.bind (Rep.less (fun b z => z.imp .inl id) (show Rep Γ (fun b => UA U (.val d) v b ∨ Own env2 σ b) H1 v d from p2.ra)) hlt
        exact h _ _ ⟨b.re, p2.st.shr fun b' z => .inl (b.sub b' z), fun k hk => by rw [List.getElem?_set_ne (fun z => hfx (by rw [z]; exact hk))]⟩
      · cases hb
    · exact h.elim
  cases a with
  | tmp d =>
    dsimp only at h
    split at h
    · rename_i hlt
      obtain ⟨r1, r2⟩ := p.re.bindO p.ra hlt
      exact h _ _ ⟨r1, p.st.shr r2, fun k hk => by rw [List.getElem?_set_ne (fun z => hfx (by rw [z]; exact hk))]⟩
    · exact h.elim
  | val d =>
    obtain ⟨d, env2, p2, h⟩ := freeze_step p h
    exact fin p2 h
  | own j =>
    obtain ⟨d, env2, p2, h⟩ := freeze_step p h
    exact fin p2 h
theorem qs_set {n : Str} {e : E} (hN : X.N.Nodup) (hi : X.N[i]? = some n) (hx : Loc X.env.scope n) (hf : X.fn n = true ∨ X.env.scope.names.lookup n = some .local) (he : QE Γ X ea (evA P e)) (hsw : swapsWith ea (some (.Name n p1)) pos.line X.env = pure false) (hfx : i ∉ fx) :
    QS Γ fx X (.Assign [.Name n p1] ea pos) (evS P (.asg (.nm i) e)) := fun xe W tk po => PS.imp (ps_set (X := X.wish xe) hN hi hx (he xe W tk) hsw hf) fun D σ H ⟨U, env, r, h⟩ => by
  simp only [evS] at h
  exact (stepE r (fun x e cls d H' p q => exS.at q p) h).mono fun v H1 ⟨a, env1, p, h⟩ => asg_nm hfx p h
/-- a store to any target -/
theorem qs_asg {e : E} (hg : QG Γ X tg t) (he : QE Γ X ea (evA P e)) (hs : swapsWithSole [tg] ea pos.line X.env = pure false) (hw : swappedStores [tg] ea X.env = pure none) (hst : notStar tg = true) (ht : ∀ i, t ≠ .nm i) (hfx : ∀ i ∈ fx, i ∉ t.slots) :
    QS Γ fx X (.Assign [tg] ea pos) (evS P (.asg t e)) := fun xe W tk po => PS.imp (ps_asg (X := X.wish xe) (he xe W tk) (hg xe) hs hw (by rw [assignEach_cons hst]; rfl)) fun D σ H ⟨U, env, r, h⟩ => by
  simp only [evS] at h
  refine (stepE r (fun x e cls d H' p q => exS.at q p) h).mono fun v H1 ⟨a, env1, p, h⟩ => ?_
  have h : Wp ((a.freeze env1).bind fun d env => match bindT t d env with | some env => Out.ok Fl.next env | none => .stuck) (okS Γ fx U env σ H D) (exS Γ fx U env σ H W) := by
    cases t with
    | nm i => exact (ht i rfl).elim
    | _ => exact h
  obtain ⟨d, env2, p2, h⟩ := freeze_step p h
  split at h
  · rename_i env3 hb
    refine ⟨U, env2, d, env3, p2.reU, Rep.less (fun b z => z.imp .inl id) (show Rep Γ (fun b => UA U (.val d) v b ∨ Own env2 σ b) H1 v d from p2.ra), hb, fun σ' pg => ?_⟩
    exact h _ _ ⟨pg.re, p2.st.shr fun b z => .inl (pg.sub b z), fun k hk => pg.off k (hfx k hk)⟩
  · exact h.elim
end
end Ev
end
section
set_option maxRecDepth 100000
set_option maxHeartbeats 1000000
namespace Ev
open PySem PySem.Spec L2

section
variable {Γ : Glob} {X : Cx} {P : Par} {fx : List Nat} {U U' U1 O O' : Addr → Prop} {env env' env1 env2 env3 : Env} {σ σ' σ1 σ2 : St} {H H1 H2 H3 H' H'' : Hp} {a x y z r : A} {as as' : List A} {v w u : V} {vs : List V} {ws : List Nat} {d e : D} {ds es' : List D} {W : WX} {pos p1 p2 p3 apos cpos : Pos} {ea eb ec tg : Expr} {es : List Expr} {i j k : Nat} {t ts : Tg} {st : Stmt} {sts : List Stmt} {sa sb : List Stmt}

theorem qs_iff {c : E} {a b : Ss} (hc : QT Γ X ec (evT P c)) (ha : QSs Γ fx X sa (evSs P a)) (hb : QSs Γ fx X sb (evSs P b)) : QS Γ fx X (.If ec sa sb pos) (evS P (.iff c a b)) := fun xe W tk po =>
  PS.imp (ps_if (hc xe W tk) (ha xe W tk po) (hb xe W tk po)) fun D σ H ⟨U, env, r, h⟩ => by
    simp only [evS] at h
    refine (stepT r (fun x e cls d H' p q => exS.at q p) h).mono fun k H1 ⟨env1, p, h⟩ => ?_
    cases k with
    | true =>
      rw [if_pos rfl] at h ⊢
      exact ⟨U, env1, p.reU, h.mono (fun _ _ q => okS.comp p.s q) fun _ _ q => exS.comp p.s q⟩
    | false =>
      rw [if_neg Bool.false_ne_true] at h ⊢
      exact ⟨U, env1, p.reU, h.mono (fun _ _ q => okS.comp p.s q) fun _ _ q => exS.comp p.s q⟩

/-! ### loops -/
/-- a body's end within a loop: again, or out -/
theorem loop_body {m : M Fl} {D : Ends} {again : Env → Out Fl} (p : PostS Γ fx U env σ H env1 σ1 H1)
    (h : Wp (match m env1 with | .ok .next e => again e | .ok .cont e => again e | .ok .brk e => .ok .next e | .ok (.ret a) e => .ok (.ret a) e | .exn x e => .exn x e | .stuck => .stuck) (okS Γ fx U env σ H D) (exS Γ fx U env σ H W))
    (N : St → Hp → Prop) (hN : ∀ e σ' H', PostS Γ fx U env σ H e σ' H' → Wp (again e) (okS Γ fx U env σ H D) (exS Γ fx U env σ H W) → N σ' H') :
    Wp (m env1) (okS Γ fx U env1 σ1 H1 { D with nx := N, ct := N, bk := D.nx }) (exS Γ fx U env1 σ1 H1 W) := by
  cases q : m env1 with
  | ok fl e =>
    rw [q] at h
    cases fl with
    | next => exact fun σ' H' p2 => hN e σ' H' (p.comp p2) h
    | cont => exact fun σ' H' p2 => hN e σ' H' (p.comp p2) h
    | brk => exact fun σ' H' p2 => h σ' H' (p.comp p2)
    | ret a => exact fun v σ' H' p2 => h v σ' H' (p.compR p2)
  | exn x e => rw [q] at h; exact exS.comp p h
  | stuck => rw [q] at h; exact h
theorem qs_whl {c : E} {b : Ss} (hc : QT Γ X ec (evT P c)) (hb : QSs Γ fx X sb (evSs P b)) : QS Γ fx X (.While ec sb [] pos) (evS P (.whl c b)) := fun xe W tk po =>
  PS.imp (ps_while (X := X.wish xe) po (hc xe W tk) (hb xe W tk po)) fun D σ H ⟨U, env, r, h⟩ => by
    simp only [evS] at h
    refine ⟨fun n σi Hi => ∃ envi, PostS Γ fx U env σ H envi σi Hi ∧ Wp (whlL (evT P c) (evSs P b) n envi) (okS Γ fx U env σ H D) (exS Γ fx U env σ H W), ⟨P.fuel, env, .refl r, h⟩, ?_⟩
    rintro n σi Hi ⟨envi, pi, h⟩
    cases n with
    | zero => unfold whlL at h; exact h.elim
    | succ n =>
      unfold whlL at h
      refine (stepT pi.re (fun x e cls d H' p q => exS.at (exS.comp pi q) p) h).mono fun k H1 ⟨env1, p, h⟩ => ?_
      have p1 := pi.comp (p.s (fx := fx))
      cases k with
      | true =>
        rw [if_pos rfl] at h ⊢
        refine ⟨fun σ' H' => ∃ envi, PostS Γ fx U env σ H envi σ' H' ∧ Wp (whlL (evT P c) (evSs P b) n envi) (okS Γ fx U env σ H D) (exS Γ fx U env σ H W), fun σ' H' q => ⟨n, Nat.lt_succ_self _, q⟩, ?_⟩
        exact ⟨U, env1, p1.re, loop_body p1 h _ fun e σ' H' pe q => ⟨e, pe, q⟩⟩
      | false =>
        rw [if_neg Bool.false_ne_true] at h ⊢
        exact h _ _ p1
theorem qs_forr {it : It} {b : Ss} {iter : Expr} (hc : X.calm = true) (hg : QG Γ X tg t) (hi : QI Γ X tg iter (evI P it)) (hb : QSs Γ fx X sb (evSs P b)) (hs : ∀ x, foldedSetIterable iter X.env x = pure x) (hfx : ∀ i ∈ fx, i ∉ t.slots) :
    QS Γ fx X (.For tg iter sb [] pos) (evS P (.forr t it b)) := fun xe W tk po =>
  PS.imp (ps_for (X := X.wish xe) po hc (hi xe W tk) (hg xe) (hb xe W tk po) hs) fun De σ H ⟨U, env, r, h⟩ => by
    simp only [evS] at h
    rw [Wp.bind] at h
    refine ⟨U, env, r, h.mono (fun ds env1 h J H1 p0 => ?_) fun x e q cls d H' p => exS.at q p⟩
    have ps0 : PostS Γ fx U env σ H env1 σ H1 := ⟨p0.re, p0.st, fun _ _ => rfl⟩
    let body : D → Env → Out Fl := fun d env => match bindT t d env with | some env => evSs P b env | none => .stuck
    refine ⟨fun i m σi Hi => ∃ envi, m = ds.length - i ∧ i ≤ ds.length ∧ PostS Γ fx U env1 σ H1 envi σi Hi ∧ Wp (forL body (ds.drop i) envi) (okS Γ fx U env σ H De) (exS Γ fx U env σ H W),
      ⟨ds.length, env1, by simp, Nat.zero_le _, .refl p0.re, h⟩, ?_⟩
    rintro i m σi Hi ⟨envi, rfl, hil, pi, h⟩
    have jst : Stp (fun b => U b ∨ Own env1 σ b) H1 (fun b => U b ∨ Own envi σi b) Hi := pi.st.mono (fun _ z => .inr z) fun b z => z.elim (fun y => .inr (.inl (.inl y))) .inl
    have pt : PostS Γ fx U env σ H envi σi Hi := ps0.comp pi
    by_cases hlt : i < ds.length
    · refine .inr ⟨p0.jok.go i _ _ jst hlt, fun σ' H' => ∃ envi, PostS Γ fx U env1 σ H1 envi σ' H' ∧ Wp (forL body (ds.drop (i + 1)) envi) (okS Γ fx U env σ H De) (exS Γ fx U env σ H W),
        fun σ' H' ⟨e, pe, q⟩ => ⟨ds.length - (i + 1), by omega, e, rfl, hlt, pe, q⟩, fun x H' hy => ?_⟩
      obtain ⟨d, hd⟩ := get_lt hlt
      have hdrop : ds.drop i = d :: ds.drop (i + 1) := by
        rw [List.drop_eq_getElem_cons hlt]
        congr 1
        rw [List.getElem?_eq_getElem hlt] at hd
        exact Option.some.inj hd
      rw [hdrop] at h
      have py := YOk.post pi.re (p0.jok.yld i _ _ x H' d jst hd hy)
      unfold forL at h
      have hb : Wp (match bindT t d envi with | some e => (match evSs P b e with | .ok .next e => forL body (ds.drop (i + 1)) e | .ok .cont e => forL body (ds.drop (i + 1)) e | .ok .brk e => .ok .next e | .ok (.ret a) e => .ok (.ret a) e | .exn x e => .exn x e | .stuck => .stuck) | none => Out.stuck)
          (okS Γ fx U env σ H De) (exS Γ fx U env σ H W) := by
        have h' := h
        simp only [body] at h'
        cases q : bindT t d envi with
        | none => rw [q] at h'; exact h'
        | some e => rw [q] at h'; exact h'
      split at hb
      · rename_i envb hbind
        have qx : Rep Γ (fun b => U b ∨ Own envi σi b) H' x d := Rep.less (fun b z => z.imp .inl id) (show Rep Γ (fun b => UA U (.val d) x b ∨ Own envi σi b) H' x d from py.ra)
        refine ⟨U, envi, d, envb, py.reU, qx, hbind, fun σ2 pg => ?_⟩
        have pb : PostS Γ fx U envi σi Hi envb σ2 H' := ⟨pg.re, py.st.shr fun b z => .inl (pg.sub b z), fun k hk => pg.off k (hfx k hk)⟩
        have pb1 := pi.comp pb
        have ptb := ps0.comp pb1
        refine ⟨U, envb, pg.re, ?_⟩
        have lb := loop_body (again := forL body (ds.drop (i + 1))) ptb hb (fun σ' H' => ∃ envi, PostS Γ fx U env σ H envi σ' H' ∧ Wp (forL body (ds.drop (i + 1)) envi) (okS Γ fx U env σ H De) (exS Γ fx U env σ H W)) fun e σ' H' pe q => ⟨e, pe, q⟩
        cases q : evSs P b envb with
        | ok fl e =>
          rw [q] at hb
          cases fl with
          | next => exact fun σ' H' p2 => ⟨e, pb1.comp p2, hb⟩
          | cont => exact fun σ' H' p2 => ⟨e, pb1.comp p2, hb⟩
          | brk => exact fun σ' H' p2 => hb σ' H' (ptb.comp p2)
          | ret a => exact fun v σ' H' p2 => hb v σ' H' (ptb.compR p2)
        | exn x e => rw [q] at hb; exact exS.comp ptb hb
        | stuck => rw [q] at hb; exact hb
      · exact hb.elim
    · have e : i = ds.length := by omega
      subst e
      rw [List.drop_length] at h
      refine .inl ⟨p0.jok.stop _ _ _ jst (Nat.le_refl _), ?_⟩
      unfold forL at h
      exact h _ _ pt

/-! ### two and three names at once -/
theorem qs_par {n m : Str} {a b : E} {kt k2 : Nat} {pt pt2 : Pos} (hc : X.calm = true) (hN : X.N.Nodup) (hi : X.N[i]? = some n) (hj : X.N[j]? = some m) (hij : i ≠ j) (hx : X.env.scope.names.lookup n = some .local) (hy : X.env.scope.names.lookup m = some .local)
    (ha : QE Γ X ea (evA P a)) (hb : QE Γ X eb (evA P b)) (hst : ([ea, eb] : List Expr).all notStar = true)
    (hw : swappedStores [.Tuple [.Name n p1, .Name m p2] kt pt] (.Tuple [ea, eb] k2 pt2) X.env = pure (some [n, m])) (hfi : i ∉ fx) (hfj : j ∉ fx) :
    QS Γ fx X (.Assign [.Tuple [.Name n p1, .Name m p2] kt pt] (.Tuple [ea, eb] k2 pt2) pos) (evS P (.par i j a b)) := fun xe W tk po => by
  have hst := hst
  simp only [List.all_cons, List.all_nil, Bool.and_true, Bool.and_eq_true] at hst
  refine PS.imp (ps_par (X := X.wish xe) hc hN hi hj hij hx hy (pa_cons (ha xe W tk) (pa_cons (hb xe W tk) pa_nil (starEach_cons hst.2)) (starEach_cons hst.1)) hw) fun D σ H ⟨U, env, r, h⟩ => ?_
  simp only [evS] at h
  refine (stepE r (fun x e cls d H' p q => exS.at q p) h).mono fun v H1 ⟨x, env1, p1, h⟩ => ?_
  obtain ⟨d, env2, p2, h⟩ := freeze_step p1 h
  refine (stepE p2.re (fun x e cls d H' p q => exS.at q (p2.xcomp p)) h).mono fun w H2 ⟨y, env3, p3, h⟩ => ?_
  obtain ⟨e, env4, p4, h⟩ := freeze_step p3 h
  split at h
  · rename_i hl
    have p24 := p2.comp p4
    have qv : Rep Γ (fun b => U b ∨ Own env4 σ b) H2 v d := Rep.less (fun b z => z.imp (fun y => .inl (.inl y)) id) (show Rep Γ _ H2 v d from p2.carry p4)
    have qw : Rep Γ (fun b => U b ∨ Own env4 σ b) H2 w e := Rep.less (fun b z => z.imp .inl id) (show Rep Γ (fun b => UA U (.val e) w b ∨ Own env4 σ b) H2 w e from p24.ra)
    have b1 := p24.reU.bind qv hl.1
    have b2 := b1.re.bind (qw.less fun b z => z.imp id (b1.sub b)) (by rw [List.length_set]; exact hl.2)
    refine ⟨v, w, rfl, h _ _ ⟨b2.re, p24.st.shr fun b z => .inl (b1.sub b (b2.sub b z)), fun k hk => ?_⟩⟩
    rw [List.getElem?_set_ne (fun z => hfj (by rw [z]; exact hk)), List.getElem?_set_ne (fun z => hfi (by rw [z]; exact hk))]
  · exact h.elim

/-! ### x op= e -/
theorem iop_mulW : OpR X (inplaceOp .Mult) rMulW := opI fun _ _ _ _ _ _ _ hc q => PyProof.Rows.imul_int q hc.ok
theorem iop_divN : OpR X (inplaceOp .FloorDiv) (rI CDivN fun i j => .int (i.fdiv j)) := opI fun _ _ _ _ _ _ _ hc q => PyProof.Rows.ifloordiv_int hc.1 q (.inl (PyProof.noPylong_small hc.2))
theorem iop_divW : OpR X (inplaceOp .FloorDiv) rDivW := opI fun i j _ _ _ _ _ hc q => PyProof.Rows.ifloordiv_int (by omega) q (.inl (PyProof.noPylong_of_log2 hc.2))
def rAug : Bo → R2
  | .add => fun x y H Q => rI0 (fun i j => .int (i + j)) x y H Q ∨ rAddS x y H Q
  | .sub => rI0 fun i j => .int (i - j)
  | .mul => fun x y H Q => rI CMul (fun i j => .int (i * j)) x y H Q ∨ rMulW x y H Q
  | .fdiv => fun x y H Q => rI CDivN (fun i j => .int (i.fdiv j)) x y H Q ∨ rDivW x y H Q
  | _ => fun _ _ _ _ => False
theorem op_aug (o : Bo) : OpR X (inplaceOp o.op) (rAug o) := by
  cases o with
  | add => exact iop_add.or iop_add_str
  | sub => exact iop_sub
  | mul => exact iop_mul.or iop_mulW
  | fdiv => exact iop_divN.or iop_divW
  | mod => exact fun _ _ _ _ _ _ _ _ _ _ _ _ h => h.elim
  | pow => exact fun _ _ _ _ _ _ _ _ _ _ _ _ h => h.elim
theorem augF_ok {o : Bo} {r : D} {Q : VK} (h : augF o d e = some r) (hv : Vw Γ O H v d) (hw : Vw Γ O H w e) (hQ : ∀ u, (∀ O' : Addr → Prop, Rep Γ O' H u r) → Q u H) : rAug o v w H Q := by
  unfold augF at h
  split at h
  · cases h; cases hv.int; cases hw.int
    exact .inl ⟨_, _, rfl, rfl, hQ _ fun _ => .int _⟩
  · cases h; cases hv.int; cases hw.int
    exact ⟨_, _, rfl, rfl, hQ _ fun _ => .int _⟩
  · split at h
    · rename_i hm
      cases h; cases hv.int; cases hw.int
      unfold mulOk at hm
      simp only [Bool.or_eq_true, decide_eq_true_eq] at hm
      rcases hm with (hm | hm) | hm
      · exact .inl ⟨_, _, rfl, rfl, .inl (s64_lt hm), hQ _ fun _ => .int _⟩
      · exact .inl ⟨_, _, rfl, rfl, .inr (s64_lt hm), hQ _ fun _ => .int _⟩
      · exact .inr ⟨_, _, rfl, rfl, hm, hQ _ fun _ => .int _⟩
    · cases h
  · split at h
    · rename_i hm
      cases h; cases hv.int; cases hw.int
      unfold fdivOk at hm
      simp only [Bool.or_eq_true, Bool.and_eq_true, decide_eq_true_eq] at hm
      rcases hm with hm | hm
      · exact .inl ⟨_, _, rfl, rfl, hm, hQ _ fun _ => .int _⟩
      · exact .inr ⟨_, _, rfl, rfl, hm, hQ _ fun _ => .int _⟩
    · cases h
  · split at h
    · rename_i hm
      cases h; cases hv.str; cases hw.str
      exact .inr ⟨_, _, rfl, rfl, hm, hQ _ fun _ => .str _⟩
    · cases h
  · cases h
theorem qs_aug {n : Str} {e : E} {o : Bo} (hN : X.N.Nodup) (hi : X.N[i]? = some n) (hx : Loc X.env.scope n) (hf : X.fn n = true ∨ X.env.scope.names.lookup n = some .local) (he : QE Γ X ea (evA P e)) (hfx : i ∉ fx) :
    QS Γ fx X (.AugAssign (.Name n p1) o.op ea pos) (evS P (.aug i o e)) := fun xe W tk po => PS.imp (ps_aug (X := X.wish xe) (ti := rAug o) hN hi hx (he xe W tk) (op_aug o) hf) fun D σ H ⟨U, env, r, h⟩ => by
  simp only [evS] at h
  split at h
  · rename_i d hd
    obtain ⟨v, e1, e2⟩ := r.val i d hd
    refine ⟨v, e1, ?_⟩
    refine (stepE r (fun x e cls d H' p q => exS.at q p) h).mono fun w H1 ⟨y, env1, p, h⟩ => ?_
    split at h
    · rename_i g hg
      split at h
      · rename_i rr hr
        have qv : Rep Γ (fun b => UA U y w b ∨ Own env1 σ b) H1 v d := e2.stp (p.st.mono (fun _ z => .inr z) fun b z => by
          rcases z with (z | z) | z
          · exact .inr (.inl (.inl z))
          · exact .inl (.inr z)
          · exact .inl (.inl z))
        refine augF_ok hr (.inl qv) (p.vw hg) fun u qu => ?_
        have hlt : i < env1.length := by
          rw [p.re.len, ← r.len]
          exact (List.getElem?_eq_some_iff.mp hd).1
        have b := (p.re.less (U' := U) fun _ z => .inl z).bind (qu _) hlt
        exact h _ _ ⟨b.re, p.st.shr fun b' z => .inl (b.sub b' z), fun k hk => by rw [List.getElem?_set_ne (fun z => hfx (by rw [z]; exact hk))]⟩
      · exact h.elim
    · exact h.elim
  · exact h.elim

/-! ### x[i] = e -/
def isSlice : Expr → Bool
  | .Slice .. => true
  | _ => false
theorem assign_sub {o i : Expr} {env : PySem.Env} {v : Value} (h : isSlice i = false) : assign (.Subscript o i pos) env v = (do
      let ov ← holding [v] (eval o env)
      let iv ← holding [v, ov] (eval i env)
      standAt pos
      holding [v, ov, iv] (setItem ov iv v)
      release [v, ov, iv] []) := by
  cases i <;> first | rfl | cases h
theorem plainIx_of {i : Expr} (h : isSlice i = false) : PlainIx i := by
  intro o k
  cases i <;> first | rfl | cases h
theorem setF_lst {o x d o' : D} (h : setF o x d = some o') : ∃ xs k j, o = .lst xs ∧ x = .int k ∧ ixN xs.length k = some j ∧ o' = .lst (xs.set j d) := by
  unfold setF at h
  split at h
  · rename_i xs k
    cases q : ixN xs.length k with
    | none => rw [q] at h; cases h
    | some j => rw [q] at h; cases h; exact ⟨xs, k, j, rfl, rfl, q, rfl⟩
  · cases h
theorem qs_setI {n : Str} {e ix : E} (hN : X.N[i]? = some n) (hv : Vis X.env.scope n) (hd : (n == ("__debug__" : Str)) = false) (hcd : (n == ("__classdict__" : Str)) = false) (he : QE Γ X ea (evA P e)) (hx : QE Γ X eb (evA P ix)) (hsl : isSlice eb = false) :
    QS Γ fx X (.Assign [.Subscript (.Name n p1) eb p2] ea pos) (evS P (.setI i ix e)) := fun xe W tk po => by
  have hs : swapsWithSole [.Subscript (.Name n p1) eb p2] ea pos.line X.env = pure false := by cases ea <;> rfl
  refine PS.imp (ps_asg (X := X.wish xe) (he xe W tk) (pg_sub (X := X.wish xe) (pe_var (X := X.wish xe) hN hv hd hcd) (hx xe W tk) set_list (fun _ => assign_sub hsl)) hs (by cases ea <;> rfl)) fun D σ H ⟨U, env, r, h⟩ => ?_
  simp only [evS] at h
  split at h
  · rename_i o0 h0
    obtain ⟨b, e1, _, _⟩ := r.own i o0 h0
    refine (stepE r (fun x e cls d H' p q => exS.at q p) h).mono fun v H1 ⟨x, env1, p1, h⟩ => ?_
    obtain ⟨d, env2, p2, h⟩ := freeze_step p1 h
    refine ⟨.ref b, e1, ?_⟩
    refine (stepE p2.re (fun x e cls d H' p q => exS.at q (p2.xcomp p)) h).mono fun w H2 ⟨y, env3, p3, h⟩ => ?_
    split at h
    · rename_i x' o hx' ho
      split at h
      · rename_i o' hset
        obtain ⟨xs, k, j, rfl, rfl, hj, rfl⟩ := setF_lst hset
        cases (p3.vw hx').int
        have p23 := p2.comp p3
        have r3 : RE Γ U env3 σ H2 := p23.re.less fun _ z => .inl z
        obtain ⟨b', us, f1, f2, f3⟩ := r3.at_own ho
        rw [e1] at f1
        cases f1
        have qv : Rep Γ (fun b => U b ∨ Own env3 σ b) H2 v d := Rep.less (fun b z => z.imp (fun y => .inl (.inl y)) id) (show Rep Γ _ H2 v d from p2.carry p3)
        obtain ⟨w1, w2, w3⟩ := r3.write ho e1 f2 (Reps.set qv j f3)
        refine ⟨b, us, k, j, rfl, rfl, f2, by rw [f3.length]; exact hj, ?_⟩
        exact h _ _ ⟨w1, (p23.st.shr fun b z => .inl z).comp (w3.shr fun b z => (w2 b).mp z) fun _ z => z, fun _ _ => rfl⟩
      · exact h.elim
    · exact h.elim
  · exact h.elim

/-! ### raise, try -/
/-- an exception's class of the program, made without an argument -/
structure ExcAt (Γ : Glob) (X : Cx) (n : Str) (c : Nat) : Prop where
  ex : ∃ C : Addr, Γ.exc c = some C ∧ X.mg n = some (.ref C) ∧ PySem.W.excIn X.K C [.type "ValueError", .type "Exception", .type "BaseException", .type "object"] "ValueError.__new__" = true ∧ PySem.W.keepIn X.K (.ref C) = true ∧
    PySem.W.subIn X.K (.ref C) (.type "BaseException") = some true ∧ PySem.W.typeIn X.K (.ref C) = some (.type "type")
theorem pmk_own0 {C : Addr} {bmB : List Value} {B newId initId : String} {n : Str} (F : ExcBaseFacts B newId initId bmB) (q : PySem.W.excIn X.K C bmB newId = true) (gC : X.mg n = some (.ref C)) (kC : PySem.W.keepIn X.K (.ref C) = true) (r : Raises X (.ref C)) (hg : Gl X n)
    (hdb : (n == ("__debug__" : Str)) = false) : PMk X (.Call (.Name n p1) [] [] pos) (fun _ H Q => Q (.ref C) none H) := by
  intro pins s σ H Q I h
  refine wpAny_Call_Name_kw (ld_glob I hg gC ?_ hdb)
  refine PySem.W.callWith_K0 I.kIn kC ?_
  obtain ⟨bm, N, nm, qn, bs, hdct, sn, sub, ab, col, dd, k0, k1, k2, k3, k5, mN, hC, hN, hni, T⟩ := exc_obj I.kIn q
  exact wpAny_call_exc_subT F T hC hN hni (fun h' e hm => mk_of I hm r h (I.hok.gone hm.new)) (Nat.zero_le _)
theorem qs_raise0 {n : Str} {c : Nat} (hc : X.calm = true) (hx : ExcAt Γ X n c) (hg : Gl X n) (hdb : (n == ("__debug__" : Str)) = false) : QS Γ fx X (.Raise (some (.Call (.Name n p1) [] [] p2)) none pos) (evS P (.raise c .nil)) := fun xe W tk po => by
  obtain ⟨C, e1, e2, e3, e4, e5, e6⟩ := hx.ex
  refine PS.imp (ps_raise (X := X.wish xe) hc tk (pmk_own0 (X := X.wish xe) PySem.F.excBase_ValueError e3 e2 e4 (raises_own e5 e6) hg hdb)) fun D σ H ⟨U, env, r, h⟩ => ?_
  simp only [evS, evVs, Out.bind_ok] at h
  exact h (.ref C) none σ H ⟨r, ⟨⟨C, e1, rfl⟩, rfl, rfl⟩, Stp.refl _ _, fun _ _ => rfl⟩
/-- which clause takes which exception -/
def ExmOk (Γ : Glob) (K : PySem.W.Frag) (exm : Nat → Nat → Option Bool) : Prop := ∀ x c b, exm x c = some b → ∃ Cx Cc, Γ.exc x = some Cx ∧ Γ.exc c = some Cc ∧ PySem.W.exmOne K (.ref Cx) (.ref Cc) = some b
theorem qs_try {n : Str} {c : Nat} {b h' : Ss} {b0 : Stmt} {np : Pos} (hs : X.stack = X.env :: X.outer) (hf : X.env.frame = some X.env.locals) (hx : ExcAt Γ X n c) (hg : Gl X n) (hdb : (n == ("__debug__" : Str)) = false) (he : ExmOk Γ X.K P.exm)
    (hb : ∀ pn, QSs Γ fx { X with pn := pn } sb (evSs P b)) (hh : ∀ a pn, QSs Γ fx (X.suite a pn) (b0 :: sa) (evSs P h')) :
    QS Γ fx X (.Try sb [.ExceptHandler (some (.Name n np)) none (b0 :: sa) p1] [] [] pos) (evS P (.tryE b c none h')) := fun xe W tk po => by
  obtain ⟨C, e1, e2, _⟩ := hx.ex
  refine PS.imp (ps_try_only (X := X.wish xe) (tb := fun W => tS Γ fx (evSs P b) W) (ts := fun _ _ _ => tS Γ fx (evSs P h') (fun _ _ _ _ => False)) (Wout := W) hs hf ⟨hg, hdb, .inl e2⟩ tk (fun W pn xe' tk' po' => hb pn xe' W tk' po') (fun a oe cls d pn _ _ => hh a _ (fun _ _ => False) (fun _ _ _ _ => False) takes0 PassesOwn.never)) fun D σ H ⟨U, env, r, h⟩ => ?_
  simp only [evS] at h
  refine ⟨U, env, r, ?_⟩
  cases q : evSs P b env with
  | ok fl e => rw [q] at h; exact h
  | stuck => rw [q] at h; exact h
  | exn x e =>
    rw [q] at h
    intro cls d σ1 H1 p1
    obtain ⟨⟨Cx, g1, rfl⟩, _, _⟩ := p1.xr
    have h : Wp (match P.exm x.cls c, (none : Option Nat) with | some true, none => (match evSs P h' e with | .exn _ _ => .stuck | o => o) | some false, _ => .exn x e | _, _ => .stuck) (okS Γ fx U env σ H D) (exS Γ fx U env σ H W) := h
    have ps : PostS Γ fx U env σ H e σ1 H1 := ⟨p1.re, p1.st, p1.fx⟩
    cases z : P.exm x.cls c with
    | none => rw [z] at h; exact h.elim
    | some bb =>
      obtain ⟨Cx', Cc, k1, k2, k3⟩ := he _ _ _ z
      rw [g1] at k1
      cases k1
      rw [e1] at k2
      cases k2
      refine ⟨bb, k3, fun t a na => ?_, fun f => ?_⟩
      · subst t
        rw [z] at h
        have h : Wp (match evSs P h' e with | .exn _ _ => Out.stuck | o => o) (okS Γ fx U env σ H D) (exS Γ fx U env σ H W) := h
        refine ⟨U, e, p1.re, ?_⟩
        cases q2 : evSs P h' e with
        | ok fl e2 => rw [q2] at h; exact okS.comp ps h
        | exn x2 e2 => rw [q2] at h; exact h.elim
        | stuck => rw [q2] at h; exact h.elim
      · subst f
        rw [z] at h
        exact h _ _ _ _ ⟨p1.re, p1.xr, p1.st, p1.fx⟩
end
end Ev
end
section
set_option maxRecDepth 100000
set_option maxHeartbeats 1000000
namespace Ev
open PySem PySem.Spec L2

section
variable {Γ : Glob} {X : Cx} {P : Par} {fx : List Nat} {U U' U1 O O' : Addr → Prop} {env env' env1 env2 env3 : Env} {σ σ' σ1 σ2 : St} {H H1 H2 H3 H' H'' : Hp} {a x y z r : A} {as as' : List A} {v w u : V} {vs : List V} {ws : List Nat} {d e : D} {ds es' : List D} {W : WX} {pos spos p1 p2 p3 apos cpos : Pos} {ea eb ec tg : Expr} {es : List Expr} {i j k : Nat} {t ts : Tg} {st : Stmt} {sts : List Stmt} {sa sb : List Stmt}

/-- a comprehension stored at a local name on its line -/
theorem qs_setLc {y : Str} {elt iter : Expr} {ifs : List Expr} {scope : Scope} {own : List (Str × Nat)} {el : E} {it : It} {c : Es} (hc : X.calm = true) (hN : X.N.Nodup) (hy : X.N[i]? = some y) (hyl : X.env.scope.names.lookup y = some .local)
    (hsw : swapsWith (.ListComp elt [⟨tg, iter, ifs, 0⟩] scope pos) (some (.Name y p1)) spos.line X.env = pure true) (hi : QI Γ X tg iter (evI P it)) (ok : BlkOk X.N X.env.scope scope own)
    (hg : ∀ (s : Shared) (H : Hp) (C : Addr) (cl : List (Str × Addr)) (fp : List Addr), QG Γ (X.blk s H scope (compEnvC scope cl C X.env) fp) tg t)
    (ht : ∀ (s : Shared) (H : Hp) (C : Addr) (cl : List (Str × Addr)) (fp : List Addr), QC Γ (X.blk s H scope (compEnvC scope cl C X.env) fp) ifs (evC P c))
    (he : ∀ (s : Shared) (H : Hp) (C : Addr) (cl : List (Str × Addr)) (fp : List Addr), QE Γ (X.blk s H scope (compEnvC scope cl C X.env) fp) elt (evA P el))
    (hs : ∀ x, foldedSetIterable iter X.env x = pure x) (hsl : ∀ i ∈ t.slots, i ∈ own.map (·.2)) (hfx : i ∉ fx) :
    QS Γ fx X (.Assign [.Name y p1] (.ListComp elt [⟨tg, iter, ifs, 0⟩] scope pos) spos) (evS P (.asg (.nm i) (.lc el t it c (own.map (·.2))))) := fun xe W tk po =>
  PS.imp (ps_setLc (X := X.wish xe) hc hN hy hyl hsw (hi xe W tk) ok (fun s H C cl fp => hg s H C cl fp _) (fun s H C cl fp => ht s H C cl fp _ (fun _ _ _ _ => False) takes0) (fun s H C cl fp => he s H C cl fp _ (fun _ _ _ _ => False) takes0) hs) fun D σ H ⟨U, env, r, h⟩ => by
  simp only [evS] at h
  refine lc_imp hsl ?_
  exact (stepE r (fun x e cls d H' p q => exS.at q p) h).mono fun v H1 ⟨a, env1, p, h⟩ => asg_nm hfx p h

theorem qs_par3 {n m l : Str} {a b c : E} {kt k2 : Nat} {pt pt2 : Pos} (hc : X.calm = true) (hN : X.N.Nodup) (hi : X.N[i]? = some n) (hj : X.N[j]? = some m) (hk : X.N[k]? = some l) (hij : i ≠ j) (hik : i ≠ k) (hjk : j ≠ k) (hx : X.env.scope.names.lookup n = some .local) (hy : X.env.scope.names.lookup m = some .local) (hz : X.env.scope.names.lookup l = some .local)
    (ha : QE Γ X ea (evA P a)) (hb : QE Γ X eb (evA P b)) (hc' : QE Γ X ec (evA P c)) (hst : ([ea, eb, ec] : List Expr).all notStar = true)
    (hw : swappedStores [.Tuple [.Name n p1, .Name m p2, .Name l p3] kt pt] (.Tuple [ea, eb, ec] k2 pt2) X.env = pure (some [n, m, l])) (hfi : i ∉ fx) (hfj : j ∉ fx) (hfk : k ∉ fx) :
    QS Γ fx X (.Assign [.Tuple [.Name n p1, .Name m p2, .Name l p3] kt pt] (.Tuple [ea, eb, ec] k2 pt2) pos) (evS P (.par3 i j k a b c)) := fun xe W tk po => by
  have hst := hst
  simp only [List.all_cons, List.all_nil, Bool.and_true, Bool.and_eq_true] at hst
  refine PS.imp (ps_par3 (X := X.wish xe) hc hN hi hj hk hij hik hjk hx hy hz (pa_cons (ha xe W tk) (pa_cons (hb xe W tk) (pa_cons (hc' xe W tk) pa_nil (starEach_cons hst.2.2)) (starEach_cons hst.2.1)) (starEach_cons hst.1)) hw) fun D σ H ⟨U, env, r, h⟩ => ?_
  simp only [evS] at h
  refine (stepE r (fun x e cls d H' p q => exS.at q p) h).mono fun v H1 ⟨x, env1, p1, h⟩ => ?_
  obtain ⟨d, env2, p2, h⟩ := freeze_step p1 h
  refine (stepE p2.re (fun x e cls d H' p q => exS.at q (p2.xcomp p)) h).mono fun w H2 ⟨y, env3, p3, h⟩ => ?_
  obtain ⟨e, env4, p4, h⟩ := freeze_step p3 h
  have p24 := p2.comp p4
  refine (stepE p24.re (fun x e cls d H' p q => exS.at q (p24.xcomp p)) h).mono fun u H3 ⟨z, env5, p5, h⟩ => ?_
  obtain ⟨g, env6, p6, h⟩ := freeze_step p5 h
  split at h
  · rename_i hl
    have p26 := p24.comp p6
    have qv0 : Rep Γ (fun b => UA U (.val d) v b ∨ Own env4 σ b) H2 v d := Rep.less (fun b z => z.imp (fun y => .inl y) id) (show Rep Γ _ H2 v d from p2.carry p4)
    have sU : Stp (fun b => U b ∨ Own env4 σ b) H2 (fun b => U b ∨ Own env6 σ b) H3 := p6.st.mono (fun _ z => .inr z) fun b z => by
      rcases z with z | z
      · exact .inr (.inl (.inl z))
      · exact .inl (.inl z)
    have qv : Rep Γ (fun b => U b ∨ Own env6 σ b) H3 v d := Rep.stp sU (Rep.less (fun b z => z.imp .inl id) qv0)
    have qw : Rep Γ (fun b => U b ∨ Own env6 σ b) H3 w e := Rep.stp sU (Rep.less (fun b z => z.imp .inl id) (show Rep Γ (fun b => UA U (.val e) w b ∨ Own env4 σ b) H2 w e from p24.ra))
    have qu : Rep Γ (fun b => U b ∨ Own env6 σ b) H3 u g := Rep.less (fun b z => z.imp .inl id) (show Rep Γ (fun b => UA U (.val g) u b ∨ Own env6 σ b) H3 u g from p26.ra)
    have b1 := p26.reU.bind qv hl.1
    have b2 := b1.re.bind (qw.less fun b z => z.imp id (b1.sub b)) (by rw [List.length_set]; exact hl.2.1)
    have b3 := b2.re.bind (qu.less fun b z => z.imp id fun k => b1.sub b (b2.sub b k)) (by rw [List.length_set, List.length_set]; exact hl.2.2)
    refine ⟨v, w, u, rfl, h _ _ ⟨b3.re, p26.st.shr fun b z => .inl (b1.sub b (b2.sub b (b3.sub b z))), fun q hq => ?_⟩⟩
    rw [List.getElem?_set_ne (fun z => hfk (by rw [z]; exact hq)), List.getElem?_set_ne (fun z => hfj (by rw [z]; exact hq)), List.getElem?_set_ne (fun z => hfi (by rw [z]; exact hq))]
  · exact h.elim
end
end Ev
end
section
set_option maxRecDepth 100000
set_option maxHeartbeats 1000000
namespace Ev
open PySem PySem.Spec L2

/-- where a body stands: its scope, its names by slot, the block's own scope (within a comprehension), slots that are never stored, whether nothing is being handled; the program's defs, its exceptions, the built-in names that it leaves alone -/
structure Cc where
  sc : Scope
  N : List Str
  blk : Option Scope
  fx : List Nat
  calm : Bool
  fns : List Str
  excs : List Str
  blt : List Str
  tab : Bool
  gl : List (Str × D)

def posOf : List Str → Str → Option Nat
  | [], _ => none
  | y :: ys, x => if y = x then some 0 else (posOf ys x).map (· + 1)
theorem posOf_get : ∀ {N : List Str} {x : Str} {i : Nat}, posOf N x = some i → N[i]? = some x
  | y :: ys, x, i, h => by
    unfold posOf at h
    split at h
    · rename_i e
      cases h
      rw [e]
      rfl
    · cases q : posOf ys x with
      | none => rw [q] at h; cases h
      | some j =>
        rw [q] at h
        cases h
        have := posOf_get q
        simpa using this
  | [], _, _, h => by cases h
def Cc.vis (C : Cc) (x : Str) : Bool := match C.sc.names.lookup x with
  | some .local => true
  | some .cell => true
  | some .free => true
  | _ => false
def Cc.loc (C : Cc) (x : Str) : Bool := match C.sc.names.lookup x with
  | some .local => true
  | some .cell => true
  | _ => false
def Cc.islocal (C : Cc) (x : Str) : Bool := match C.sc.names.lookup x with
  | some .local => true
  | _ => false
def Cc.glob (C : Cc) (x : Str) : Bool := match C.sc.names.lookup x with
  | some .globalImplicit => true
  | _ => false
def plainName (x : Str) : Bool := !(x == ("__debug__" : Str)) && !(x == ("__classdict__" : Str)) && !(x == ("__name__" : Str))
/-- a name that is read: its slot -/
def Cc.slot (C : Cc) (x : Str) : Option Nat := if C.vis x && plainName x then posOf C.N x else none
def Cc.may (C : Cc) (x : Str) : Bool := match C.blk with
  | none => true
  | some s => s.names.lookup x == some .cell || C.sc.names.lookup x == some .local
/-- a name that is stored -/
def Cc.dest (C : Cc) (x : Str) : Option Nat :=
  if C.loc x && plainName x && C.may x then
    match posOf C.N x with
    | some i => if C.fx.contains i then none else some i
    | none => none
  else none

def cBo : Operator → Option Bo
  | .Add => some .add | .Sub => some .sub | .Mult => some .mul | .FloorDiv => some .fdiv | .Mod => some .mod | .Pow => some .pow | _ => none
theorem cBo_op {o : Operator} {b : Bo} (h : cBo o = some b) : o = b.op := by cases o <;> cases h <;> rfl
def cCo : CmpOp → Option Co
  | .Eq => some .eq | .NotEq => some .ne | .Lt => some .lt | .LtE => some .le | .Gt => some .gt | .GtE => some .ge | .Is => some .is | .IsNot => some .isn | .In => some .inn | .NotIn => some .nin
theorem cCo_op {o : CmpOp} {b : Co} (h : cCo o = some b) : o = b.op := by cases o <;> cases h <;> rfl
def isSet : Expr → Bool
  | .Set .. => true
  | _ => false
theorem nomarks {b : Expr} {op : CmpOp} (h : isSet b = false) : behindInMarks op b = false := by cases b <;> first | rfl | cases h
theorem nofold {e : Expr} {env : PySem.Env} (h : isSet e = false) : ∀ x, foldedSetIterable e env x = pure x := by
  intro x
  cases e <;> first | rfl | cases h
def cConst : Const → Option D
  | .none => some .non
  | .bool b => some (.bl b)
  | .int i => some (.int i)
  | .str s => some (.str s)
  | _ => none
def tyIs (x : Str) : Option Bi :=
  if x = "int" then some .isInt else if x = "bool" then some .isBool else if x = "tuple" then some .isTuple else if x = "str" then some .isStr else if x = "list" then some .isList else none
/-- the built-in functions by name; 0: any number of arguments -/
def biTab : List (Str × Nat × Bi) := [("len", 0, .len), ("abs", 0, .abs), ("int", 0, .int), ("list", 0, .list), ("tuple", 0, .tuple), ("any", 0, .any), ("all", 0, .all), ("sum", 0, .sum), ("max", 2, .max2), ("min", 2, .min2), ("max", 1, .max1), ("min", 1, .min1), ("str", 0, .str)]
def cBi (x : Str) (n : Nat) : Option Bi := (biTab.find? fun p => p.1 == x && (p.2.1 == 0 || p.2.1 == n)).map (·.2.2)
/-- enumerate's argument, its pairs parted at once -/
def enumArg : Expr → List Expr → Option Expr
  | .Tuple _ _ _, [a] => some a
  | _, _ => none
theorem enumArg_ok {tg : Expr} {es : List Expr} {a : Expr} (h : enumArg tg es = some a) : (∃ elts k p, tg = .Tuple elts k p) ∧ es = [a] := by
  unfold enumArg at h
  split at h
  · cases h; exact ⟨⟨_, _, _, rfl⟩, rfl⟩
  · cases h
def cMm (m : Str) : Option Mm := if m = "append" then some .append else if m = "extend" then some .extend else if m = "pop" then some .pop else none
/-- a comprehension's own names with their slots -/
def ownOf (N : List Str) : List (Str × NameKind) → List (Str × Nat)
  | [] => []
  | (n, k) :: r => match k, posOf N n with
    | .local, some i => (n, i) :: ownOf N r
    | .cell, some i => (n, i) :: ownOf N r
    | _, _ => ownOf N r
def Cc.inner (C : Cc) (s : Scope) : Cc := { C with sc := relS s C.sc, blk := some s }
/-- within a generator expression -/
def Cc.gxin (C : Cc) (s : Scope) : Cc := { C with sc := s, blk := some s, tab := false }
def isLst : Expr → Bool
  | .List .. => true
  | _ => false
theorem nogenfold {e : Expr} {env : PySem.Env} (h : isSet e = false) (h2 : isLst e = false) : ∀ x, genFold e env x = pure x := by
  intro x
  cases e <;> first | rfl | (cases h; done) | cases h2

def cTgs (cT : Expr → Option Tg) : List Expr → Option Tg
  | [] => some .nil
  | e :: es => if notStar e then match cT e, cTgs cT es with
    | some t, some ts => some (.cons t ts)
    | _, _ => none
    else none
/-- a target -/
def cTg : Nat → Cc → Expr → Option Tg
  | 0, _, _ => none
  | n + 1, C, e => match e with
    | .Name x _ => (C.dest x).map .nm
    | .Tuple es _ _ => if C.calm && es.all notStar then (cTgs (cTg n C) es).map .tp else none
    | _ => none
def cEs (cE : Expr → Option E) : List Expr → Option Es
  | [] => some .nil
  | e :: es => if notStar e then match cE e, cEs cE es with
    | some a, some as => some (.cons a as)
    | _, _ => none
    else none
def cPs (cE : Expr → Option E) : List (Option Expr) → List Expr → Option Es
  | [], [] => some .nil
  | some k :: ks, v :: vs => match cE k, cE v, cPs cE ks vs with
    | some a, some b, some r => some (.cons a (.cons b r))
    | _, _, _ => none
  | _, _ => none
def cOpt (cE : Expr → Option E) : Option Expr → Option Es
  | none => some .nil
  | some e => (cE e).map fun a => .cons a .nil
def cBools (f : Expr → Option E) (op : BoolOp) : List Expr → Option E
  | [] => none
  | [a] => f a
  | a :: b :: r => match f a, cBools f op (b :: r) with
    | some a, some b => some (match op with | .And => .an a b | .Or => .or a b)
    | _, _ => none
def isGen : List Expr → Bool
  | [.GeneratorExp ..] => true
  | _ => false
mutual
def cE : Nat → Cc → Expr → Option E
  | 0, _, _ => none
  | n + 1, C, e => match e with
    | .Name x _ => match C.slot x with
      | some i => some (.var i)
      | none => if C.glob x && plainName x then (C.gl.lookup x).map .cst else none
    | .Constant c _ _ => (cConst c).map .cst
    | .BinOp a o b _ => match cBo o, cE n C a, cE n C b with
      | some o, some a, some b => some (.bin o a b)
      | _, _, _ => none
    | .UnaryOp .USub a _ => (cE n C a).map .neg
    | .UnaryOp .Not a _ => (cE n C a).map .nt
    | .BoolOp op vs _ => cBools (cE n C) op vs
    | .Compare a [o] [b] _ => if isSet b then none else match cCo o, cE n C a, cE n C b with
      | some o, some a, some b => some (.cmp o a b)
      | _, _, _ => none
    | .Compare a [o, p] [b, c] _ => if isSet b || isSet c then none else match cCo o, cCo p, cE n C a, cE n C b, cE n C c with
      | some o, some p, some a, some b, some c => some (.chain o p a b c)
      | _, _, _, _, _ => none
    | .IfExp c a b _ => match cE n C c, cE n C a, cE n C b with
      | some c, some a, some b => some (.ite c a b)
      | _, _, _ => none
    | .Tuple es _ _ => (cEs (cE n C) es).map .tup
    | .List es _ => (cEs (cE n C) es).map .lst
    | .Subscript a (.Slice lo hi none _) _ => match cE n C a, cOpt (cE n C) lo, cOpt (cE n C) hi with
      | some a, some l, some h => some (.slc a l h)
      | _, _, _ => none
    | .Subscript a i _ => if isSlice i then none else match cE n C a, cE n C i with
      | some a, some i => some (.idx a i)
      | _, _ => none
    | .Call (.Name f _) es [] _ => if C.glob f && plainName f then cCall n C f es else none
    | .Call (.Attribute (.Name x _) m p) es [] q => match C.slot x, cMm m, cEs (cE n C) es with
      | some i, some mm, some as => if p.endLine == q.line then (match mm, es with
        | .append, [_] => some (.mut .append i as)
        | .extend, [_] => some (.mut .extend i as)
        | .pop, [] => some (.mut .pop i .nil)
        | _, _ => none) else none
      | _, _, _ => none
    | .Call (.Attribute (.Constant c k p0) m p) [e] [] q => if m == ("join" : Str) && notStar e && p.endLine == q.line then match cE n C (.Constant c k p0), cE n C e with
      | some o, some a => some (.sm .join o (.cons a .nil))
      | _, _ => none
      else none
    | .Dict keys values _ => if keys.isEmpty then none else if keys.all (·.isSome) && keys.length == values.length && decide (keys.length ≤ 15) then (cPs (cE n C) keys values).map .dsp else none
    | .ListComp elt [⟨tg, iter, ifs, 0⟩] s _ =>
      let own := ownOf C.N s.names
      if C.calm && blkC C.N C.sc s own && !isSet iter then
        match cTg n (C.inner s) tg, cIt n C tg iter, cE n (C.inner s) elt, (match ifs with | [] => some Es.nil | [c] => (cE n (C.inner s) c).map fun c => Es.cons c .nil | _ => none) with
        | some t, some it, some el, some c => if t.slots.all fun i => (own.map (·.2)).contains i then some (.lc el t it c (own.map (·.2))) else none
        | _, _, _, _ => none
      else none
    | _ => none
def cCall : Nat → Cc → Str → List Expr → Option E
  | 0, _, _, _ => none
  | n + 1, C, f, es => match posOf C.fns f with
    | some i => if C.calm then (cEs (cE n C) es).map (.call i) else none
    | none => if C.blt.contains f then (if f = "isinstance" then (match es with
        | [e, .Name t _] => if C.glob t && plainName t && C.blt.contains t && notStar e then (match cE n C e, tyIs t with
          | some a, some b => some (.bi b (.cons a .nil))
          | _, _ => none) else none
        | _ => none)
      else if isGen es then (match es with
        | [.GeneratorExp elt [⟨tg, iter, ifs, 0⟩] s _] =>
          let own := ownOf C.N s.names
          if C.tab && C.calm && (f == Gx.gxNm true || f == Gx.gxNm false) && Gx.gxB C.N C.sc s own && !isSet iter && !isLst iter then
            match cTg n (C.gxin s) tg, cIt n C tg iter, cE n (C.gxin s) elt, (match ifs with | [] => some Es.nil | [c] => (cE n (C.gxin s) c).map fun c => Es.cons c .nil | _ => none) with
            | some t, some it, some el, some c => if t.slots.all fun i => (own.map (·.2)).contains i then some (.gx (f == Gx.gxNm true) el t it c (own.map (·.2))) else none
            | _, _, _, _ => none
          else none
        | _ => none)
      else match cBi f es.length, cEs (cE n C) es with
        | some b, some as => if (b.hot && !C.calm) || es.isEmpty then none else some (.bi b as)
        | _, _ => none) else none
def cIt : Nat → Cc → Expr → Expr → Option It
  | 0, _, _, _ => none
  | n + 1, C, tg, e => match e with
    | .Call (.Name f _) es [] _ => if C.glob f && plainName f && C.blt.contains f && (posOf C.fns f).isNone then
        (if f = "range" then (match es with
          | [a] => if notStar a then (cE n C a).map .rng1 else none
          | [a, b] => if notStar a && notStar b then (match cE n C a, cE n C b with
            | some a, some b => some (.rng2 a b)
            | _, _ => none) else none
          | _ => none)
        else if f = "enumerate" then (match enumArg tg es with
          | some a => if notStar a then (cE n C a).map .enum else none
          | none => none)
        else (cE n C e).map .of)
      else (cE n C e).map .of
    | _ => (cE n C e).map .of
end

def starry : Expr → Bool
  | .Starred .. => true
  | _ => false
def swN (sc : Scope) (line : Nat) : Expr → Option Str
  | .Name id pos => if (sc.names.lookup id == some .local && pos.line == line) = true then some id else none
  | _ => none
/-- the names that a store swaps; none: not served -/
def swapT (ts vs : List Expr) (sc : Scope) : Option (Option (List Str)) :=
  if (!(ts.length == 2 || ts.length == 3) || vs.length != ts.length || ScopeKind.function != ScopeKind.function) = true then some none
  else if vs.any starry = true then some none
  else if ((ts.filterMap (swN sc ((ts.head?.map (·.pos.line)).getD 0))).length != ts.length || (ts.filterMap (swN sc ((ts.head?.map (·.pos.line)).getD 0))).eraseDups.length != (ts.filterMap (swN sc ((ts.head?.map (·.pos.line)).getD 0))).length) = true then some none
  else if vs.all (foldedForSure 8) = true then some none
  else if vs.all (constantsAlone 8) = true then none
  else some (some (ts.filterMap (swN sc ((ts.head?.map (·.pos.line)).getD 0))))
theorem swapT_ok {ts vs : List Expr} {env : PySem.Env} {a c : Nat} {b d : Pos} {r : Option (List Str)} (hk : env.scope.kind = .function) (h : swapT ts vs env.scope = some r) : swappedStores [.Tuple ts a b] (.Tuple vs c d) env = pure r := by
  have hb : env.blockKind = .function := by unfold Env.blockKind; rw [hk]; rfl
  have e : swappedStores [.Tuple ts a b] (.Tuple vs c d) env = (if (!(ts.length == 2 || ts.length == 3) || vs.length != ts.length || env.blockKind != ScopeKind.function) = true then pure none
      else if vs.any starry = true then pure none
      else if ((ts.filterMap (swN env.scope ((ts.head?.map (·.pos.line)).getD 0))).length != ts.length || (ts.filterMap (swN env.scope ((ts.head?.map (·.pos.line)).getD 0))).eraseDups.length != (ts.filterMap (swN env.scope ((ts.head?.map (·.pos.line)).getD 0))).length) = true then pure none
      else if vs.all (foldedForSure 8) = true then pure none
      else if vs.all (constantsAlone 8) = true then (do unsupported "assign.tuple-of-constant-expressions:order-of-the-stores"; pure (some (ts.filterMap (swN env.scope ((ts.head?.map (·.pos.line)).getD 0)))))
      else pure (some (ts.filterMap (swN env.scope ((ts.head?.map (·.pos.line)).getD 0))))) := by
    unfold swappedStores
    rfl
  rw [e, hb]
  unfold swapT at h
  split at h
  · rename_i c; cases h; exact if_pos c
  · rename_i c
    rw [if_neg c]
    split at h
    · rename_i c; cases h; exact if_pos c
    · rename_i c
      rw [if_neg c]
      split at h
      · rename_i c; cases h; exact if_pos c
      · rename_i c
        rw [if_neg c]
        split at h
        · rename_i c; cases h; exact if_pos c
        · rename_i c
          rw [if_neg c]
          split at h
          · cases h
          · rename_i c; cases h; exact if_neg c
def isTuple : Expr → Bool
  | .Tuple .. => true
  | _ => false
theorem noswap {t v : Expr} {env : PySem.Env} (h : isTuple v = false) : swappedStores [t] v env = pure none := by
  cases v <;> first | (cases h; done) | (cases t <;> rfl)
end Ev
end
section
set_option maxRecDepth 100000
set_option maxHeartbeats 2000000
namespace Ev
open PySem PySem.Spec L2

structure XOk (Γ : Glob) (P : Par) (C : Cc) (X : Cx) : Prop where
  K : X.K = Γ.K
  sc : X.env.scope = C.sc
  N : X.N = C.N
  nd : X.N.Nodup
  fn : ∀ x, (match C.blk with | none => true | some s => s.names.lookup x == some .cell) = true → X.fn x = true
  calm : C.calm = true → X.calm = true
  un : X.A.units + 65 + 11 * C.tab.toNat < cLine
  fns : C.calm = true → ∀ (i : Nat) (x : Str), C.fns[i]? = some x → ∃ k, FnAt Γ X P.F k i x ∧ Room (k + C.tab.toNat) X.A
  tab : C.tab = true → C.calm = true → Room 1 X.A ∧ ∃ c Pt, X.env.code = .ref c ∧ GxR.TabB X.base X.mg c Pt ∧ Pt ∈ Γ.tabs
  gl : ∀ (x : Str) (d : D), C.gl.lookup x = some d → ∃ v u, X.mg x = some u ∧ RelV v u ∧ ∀ O H, Rep Γ O H v d
  blt : ∀ x, C.blt.contains x = true → X.mg x = none
  exc : ∀ (i : Nat) (x : Str), C.excs[i]? = some x → ExcAt Γ X x i
  exm : ExmOk Γ X.K P.exm
  stk : C.blk = none → X.stack = X.env :: X.outer ∧ X.env.frame = some X.env.locals ∧ X.env.scope.kind = .function

section
variable {Γ : Glob} {P : Par} {C : Cc} {X : Cx} {i : Nat} {x : Str}
theorem plain_ok (h : plainName x = true) : (x == ("__debug__" : Str)) = false ∧ (x == ("__classdict__" : Str)) = false ∧ x ≠ "__name__" := by
  unfold plainName at h
  simp only [Bool.and_eq_true, Bool.not_eq_true'] at h
  exact ⟨h.1.1, h.1.2, fun z => by have := h.2; rw [z] at this; simp at this⟩
theorem glob_ok (hX : XOk Γ P C X) (h : C.glob x = true) : Gl X x := by
  unfold Cc.glob at h
  show X.env.scope.names.lookup x = _
  rw [hX.sc]
  split at h
  · assumption
  · cases h
theorem slot_ok (hX : XOk Γ P C X) (h : C.slot x = some i) : X.N[i]? = some x ∧ Vis X.env.scope x ∧ plainName x = true := by
  unfold Cc.slot at h
  split at h
  · rename_i c
    rw [Bool.and_eq_true] at c
    refine ⟨by rw [hX.N]; exact posOf_get h, ?_, c.2⟩
    have v := c.1
    unfold Cc.vis at v
    unfold Vis
    rw [hX.sc]
    split at v
    · exact .inl (by assumption)
    · exact .inr (.inl (by assumption))
    · exact .inr (.inr (by assumption))
    · cases v
  · cases h
theorem dest_ok (hX : XOk Γ P C X) (h : C.dest x = some i) : X.N[i]? = some x ∧ L2.Loc X.env.scope x ∧ plainName x = true ∧ (X.fn x = true ∨ X.env.scope.names.lookup x = some .local) ∧ i ∉ C.fx := by
  unfold Cc.dest at h
  split at h
  · rename_i c
    rw [Bool.and_eq_true, Bool.and_eq_true] at c
    obtain ⟨⟨c1, c2⟩, c3⟩ := c
    split at h
    · rename_i j hj
      split at h
      · cases h
      · rename_i nf
        cases h
        refine ⟨by rw [hX.N]; exact posOf_get hj, ?_, c2, ?_, fun z => nf (by simpa using z)⟩
        · unfold Cc.loc at c1
          unfold L2.Loc
          rw [hX.sc]
          split at c1
          · exact .inl (by assumption)
          · exact .inr (by assumption)
          · cases c1
        · rw [hX.sc]
          unfold Cc.may at c3
          have hfn := hX.fn x
          split at c3
          · rename_i hb
            rw [hb] at hfn
            exact .inl (hfn rfl)
          · rename_i s hb
            rw [hb] at hfn
            rw [Bool.or_eq_true] at c3
            rcases c3 with c3 | c3
            · exact .inl (hfn c3)
            · exact .inr (by simpa using c3)
    · cases h
  · cases h
theorem inner_ok (hX : XOk Γ P C X) (s : Scope) (sh : Shared) (H : Hp) (Ca : Addr) (cl : List (Str × Addr)) (fp : List Addr) : XOk Γ P (C.inner s) (X.blk sh H s (compEnvC s cl Ca X.env) fp) where
  K := hX.K
  sc := by show relS s X.env.scope = relS s C.sc; rw [hX.sc]
  N := hX.N
  nd := hX.nd
  fn := fun x h => h
  calm := hX.calm
  un := hX.un
  fns := fun h i x e => let ⟨k, f, r⟩ := hX.fns h i x e; ⟨k, ⟨f.ex⟩, r⟩
  blt := hX.blt
  tab := hX.tab
  gl := hX.gl
  exc := fun i x e => ⟨(hX.exc i x e).ex⟩
  exm := hX.exm
  stk := fun h => by cases h
theorem un_ok (hX : XOk Γ P C X) : X.A.units + 65 < cLine := by have := hX.un; omega
theorem gx_ok (hX : XOk Γ P C X) (ht : C.tab = true) (hc : C.calm = true) (s : Scope) (hnc : ∀ y ∈ s.names, y.2 ≠ .cell) {A : Around} (h1 : A.handled = none) (h2 : A.depth = X.A.depth) (h3 : A.units ≤ X.A.units + 8) (sh : Shared) (H : Hp) (Ca : Addr) (code : Value) (fp : List Addr) :
    XOk Γ P (C.gxin s) (Gx.gxCx X A sh H s Ca code fp) where
  K := hX.K
  sc := rfl
  N := hX.N
  nd := hX.nd
  fn := fun x h => by
    have h : (s.names.lookup x == some NameKind.cell) = true := h
    have h : s.names.lookup x = some .cell := by simpa using h
    exact (hnc _ (PySem.mem_of_lookup h) rfl).elim
  calm := fun _ => rfl
  un := by
    have := hX.un
    rw [ht] at this
    have e : (C.gxin s).tab.toNat = 0 := rfl
    have e1 : true.toNat = 1 := rfl
    rw [e1] at this
    show A.units + 3 + 65 + 11 * (C.gxin s).tab.toNat < cLine
    rw [e]
    omega
  fns := fun h i x e => by
    obtain ⟨k, f, r⟩ := hX.fns hc i x e
    refine ⟨k, ⟨f.ex⟩, ?_⟩
    rw [ht] at r
    have e0 : (C.gxin s).tab.toNat = 0 := rfl
    rw [e0]
    have r : Room (k + 1) X.A := r
    refine ⟨h1, ?_, ?_⟩
    · have := r.dp
      show A.depth + 1 + 3 * (k + 0) + 5 < _
      omega
    · have := r.un
      show A.units + 3 + 16 * (k + 0) + 200 < _
      omega
  blt := hX.blt
  tab := fun h => by cases h
  gl := hX.gl
  exc := fun i x e => ⟨(hX.exc i x e).ex⟩
  exm := hX.exm
  stk := fun h => by cases h

/-! ### targets -/
theorem sound_Tgs {n : Nat} (ih : ∀ e t, cTg n C e = some t → QG Γ X e t) : ∀ {es : List Expr} {t : Tg}, cTgs (cTg n C) es = some t → QGs Γ X es t
  | [], t, h => by cases h; exact qgs_nil
  | e :: es, t, h => by
    unfold cTgs at h
    split at h
    · rename_i hst
      split at h
      · rename_i t1 ts h1 h2
        cases h
        exact qgs_cons (ih e t1 h1) (sound_Tgs ih h2) hst
      · cases h
    · cases h
theorem sound_Tg (hX : XOk Γ P C X) : ∀ (n : Nat) (e : Expr) (t : Tg), cTg n C e = some t → QG Γ X e t
  | 0, _, _, h => by cases h
  | n + 1, e, t, h => by
    unfold cTg at h
    split at h
    · rename_i x p
      cases q : C.dest x with
      | none => rw [q] at h; cases h
      | some i =>
        rw [q] at h
        cases h
        obtain ⟨h1, h2, _, h3, _⟩ := dest_ok hX q
        exact qg_nm hX.nd h1 h2 h3
    · rename_i es k p
      split at h
      · rename_i c
        rw [Bool.and_eq_true] at c
        cases q : cTgs (cTg n C) es with
        | none => rw [q] at h; cases h
        | some ts =>
          rw [q] at h
          cases h
          exact qg_tp (sound_Tgs (fun e t => sound_Tg hX n e t) q) (hX.calm c.1) c.2 hX.K
      · cases h
    · cases h
theorem slots_fx (hX : XOk Γ P C X) : ∀ (n : Nat) (e : Expr) (t : Tg), cTg n C e = some t → ∀ i ∈ t.slots, i ∉ C.fx
  | 0, _, _, h => by cases h
  | n + 1, e, t, h => by
    unfold cTg at h
    split at h
    · rename_i x p
      cases q : C.dest x with
      | none => rw [q] at h; cases h
      | some i =>
        rw [q] at h
        cases h
        obtain ⟨_, _, _, _, h3⟩ := dest_ok hX q
        intro j hj
        have : j = i := by simpa [Tg.slots] using hj
        rw [this]
        exact h3
    · rename_i es k p
      split at h
      · cases q : cTgs (cTg n C) es with
        | none => rw [q] at h; cases h
        | some ts =>
          rw [q] at h
          cases h
          have aux : ∀ {es : List Expr} {ts : Tg}, cTgs (cTg n C) es = some ts → ∀ i ∈ ts.slots, i ∉ C.fx := by
            intro es
            induction es with
            | nil => intro ts h i hi; cases h; cases hi
            | cons e es ih =>
              intro ts h i hi
              unfold cTgs at h
              split at h
              · split at h
                · rename_i t1 ts1 h1 h2
                  cases h
                  rcases List.mem_append.mp hi with z | z
                  · exact slots_fx hX n e t1 h1 i z
                  · exact ih h2 i z
                · cases h
              · cases h
          exact fun i hi => aux q i hi
      · cases h
    · cases h

/-! ### expressions -/
theorem map_some {α β : Type} {f : α → β} {o : Option α} {b : β} (h : o.map f = some b) : ∃ a, o = some a ∧ f a = b := by
  cases o with
  | none => cases h
  | some a => cases h; exact ⟨a, rfl, rfl⟩
theorem es_ok {f : Expr → Option E} (ih : ∀ e e', f e = some e' → QE Γ X e (evA P e')) : ∀ {es : List Expr} {as : Es}, cEs f es = some as → QAs Γ X es (evAs P as) ∧ QVs Γ X es (evVs P as) ∧ es.all notStar = true
  | [], _, h => by cases h; exact ⟨q_anil, q_vnil, rfl⟩
  | e :: es, as, h => by
    unfold cEs at h
    split at h
    · rename_i hst
      split at h
      · rename_i a as1 h1 h2
        cases h
        obtain ⟨g1, g2, g3⟩ := es_ok ih h2
        exact ⟨q_acons (ih e a h1) g1 hst, q_vcons (ih e a h1) g2 hst, by rw [List.all_cons, hst, g3]; rfl⟩
      · cases h
    · cases h
theorem opt_ok {f : Expr → Option E} (ih : ∀ e e', f e = some e' → QE Γ X e (evA P e')) {o : Option Expr} {as : Es} (h : cOpt f o = some as) : QO Γ X o (evO P as) := by
  cases o with
  | none => cases h; exact qo_none
  | some e =>
    obtain ⟨a, ha, rfl⟩ := map_some (show (f e).map (fun a => Es.cons a .nil) = some as from h)
    exact qo_some (ih e a ha)
theorem ps_ok {f : Expr → Option E} {pos : Pos} (ih : ∀ e e', f e = some e' → QE Γ X e (evA P e')) : ∀ {ks : List (Option Expr)} {vs : List Expr} {as : Es}, cPs f ks vs = some as → QPs Γ X pos ks vs (evVs P as)
  | [], [], _, h => by cases h; exact qps_nil
  | some k :: ks, v :: vs, as, h => by
    unfold cPs at h
    split at h
    · rename_i a b r h1 h2 h3
      cases h
      exact qps_cons (ih _ _ h1) (ih _ _ h2) (ps_ok ih h3)
    · cases h
  | none :: _, _, _, h => by cases h
  | some _ :: _, [], _, h => by cases h
  | [], _ :: _, _, h => by cases h
structure ESound (Γ : Glob) (P : Par) (n : Nat) : Prop where
  e : ∀ {C : Cc} {X : Cx}, XOk Γ P C X → ∀ e e', cE n C e = some e' → QE Γ X e (evA P e') ∧ QT Γ X e (evT P e')
  c : ∀ {C : Cc} {X : Cx}, XOk Γ P C X → ∀ f es e', cCall n C f es = some e' → C.glob f = true → plainName f = true → (∀ p pos, QE Γ X (.Call (.Name f p) es [] pos) (evA P e')) ∧ evT P e' = tru (evA P e')
  i : ∀ {C : Cc} {X : Cx}, XOk Γ P C X → ∀ tg e it, cIt n C tg e = some it → QI Γ X tg e (evI P it)
theorem nosl_of {i : Expr} (h : isSlice i = false) : NoSl i := by
  intro o k
  cases i <;> first | rfl | cases h
theorem tyIs_ok {t : Str} {b : Bi} (h : tyIs t = some b) : ∃ s, b.ty = [s] ∧ bootBuiltins t = some (.type s) ∧ b.nm = "isinstance" := by
  unfold tyIs at h
  split at h
  · rename_i e; cases h; subst e; exact ⟨"int", rfl, by decide +kernel, rfl⟩
  · split at h
    · rename_i e; cases h; subst e; exact ⟨"bool", rfl, by decide +kernel, rfl⟩
    · split at h
      · rename_i e; cases h; subst e; exact ⟨"tuple", rfl, by decide +kernel, rfl⟩
      · split at h
        · rename_i e; cases h; subst e; exact ⟨"str", rfl, by decide +kernel, rfl⟩
        · split at h
          · rename_i e; cases h; subst e; exact ⟨"list", rfl, by decide +kernel, rfl⟩
          · cases h
theorem biTab_ok : ∀ p ∈ biTab, p.2.2.nm = p.1 ∧ p.2.2.ty = [] := by decide +kernel
theorem cBi_ok {x : Str} {n : Nat} {b : Bi} (h : cBi x n = some b) : b.nm = x ∧ b.ty = [] := by
  obtain ⟨p, hp, rfl⟩ := map_some h
  obtain ⟨h1, h2⟩ := biTab_ok p (List.mem_of_find?_eq_some hp)
  have h3 := List.find?_some hp
  rw [Bool.and_eq_true] at h3
  exact ⟨h1.trans (beq_iff_eq.mp h3.1), h2⟩
theorem cMm_ok {m : Str} {mm : Mm} (h : cMm m = some mm) : m = mm.nm := by
  unfold cMm at h
  repeat' (split at h)
  all_goals first
    | (rename_i e; cases h; subst e; rfl)
    | cases h
theorem bools_ok {f : Expr → Option E} (hK : X.K = Γ.K) (ihe : ∀ e e', f e = some e' → QE Γ X e (evA P e')) (iht : ∀ e e', f e = some e' → QT Γ X e (evT P e')) {op : BoolOp} {p : Pos} : ∀ {vs : List Expr} {e' : E}, cBools f op vs = some e' →
    QE Γ X (.BoolOp op vs p) (evA P e') ∧ QW Γ X (.BoolOp op vs p) (evT P e')
  | [], e', h => by cases h
  | [a], e', h => by
    unfold cBools at h
    cases op with
    | And => exact ⟨q_one (ihe _ _ h), qw_and1 (iht _ _ h)⟩
    | Or => exact ⟨q_one (ihe _ _ h), qw_or1 (iht _ _ h)⟩
  | a :: b :: r, e', h => by
    unfold cBools at h
    split at h
    · rename_i a' b' ha hb
      cases h
      obtain ⟨g1, g2⟩ := bools_ok hK ihe iht (vs := b :: r) (p := p) hb
      cases op with
      | And => exact ⟨q_an (ihe _ _ ha) g1 hK, qw_and (iht _ _ ha) g2⟩
      | Or => exact ⟨q_or (ihe _ _ ha) g1 hK, qw_or (iht _ _ ha) g2⟩
    · cases h
def isPlain : E → Bool
  | .nt _ | .an _ _ | .or _ _ | .ite _ _ _ => false
  | _ => true
theorem evT_plain {e : E} (h : isPlain e = true) : evT P e = tru (evA P e) := by
  cases e <;> first
    | (cases h; done)
    | (funext env; simp only [evT, tru]; all_goals rfl)
theorem qt_plain {ea : Expr} {e : E} (h : isPlain e = true) (q : QE Γ X ea (evA P e)) (hK : X.K = Γ.K) (he : ∀ whole, isTrue ea X.env whole = (do let v ← whole; standAt ea.pos; holding [v] (truthy v))) : QT Γ X ea (evT P e) := by
  rw [evT_plain h]
  exact qt_tru q hK he
theorem both {ea : Expr} {e : E} (q : QE Γ X ea (evA P e)) (h : isPlain e = true) (hK : X.K = Γ.K) (he : ∀ whole, isTrue ea X.env whole = (do let v ← whole; standAt ea.pos; holding [v] (truthy v))) : QE Γ X ea (evA P e) ∧ QT Γ X ea (evT P e) := ⟨q, qt_plain h q hK he⟩
theorem soundE (Γ : Glob) (P : Par) : ∀ n, ESound Γ P n
  | 0 => ⟨fun _ _ _ h => by simp [cE] at h, fun _ _ _ _ h => by simp [cCall] at h, fun _ _ _ _ h => by simp [cIt] at h⟩
  | n + 1 => by
    have ih := soundE Γ P n
    refine ⟨fun {C X} hX e e' h => ?_, fun {C X} hX f es e' h hg hp => ?_, fun {C X} hX tg e it h => ?_⟩
    · have ihe : ∀ e e', cE n C e = some e' → QE Γ X e (evA P e') := fun e e' h => (ih.e hX e e' h).1
      have iht : ∀ e e', cE n C e = some e' → QT Γ X e (evT P e') := fun e e' h => (ih.e hX e e' h).2
      unfold cE at h
      try dsimp only at h
      split at h
      · -- Name
        split at h
        · rename_i i hi
          cases h
          obtain ⟨h1, h2, h3⟩ := slot_ok hX hi
          obtain ⟨d1, d2, _⟩ := plain_ok h3
          exact both (q_var (P := P) h1 h2 d1 d2) rfl hX.K fun _ => rfl
        · split at h
          · rename_i c
            rw [Bool.and_eq_true] at c
            obtain ⟨d, hd, rfl⟩ := map_some h
            obtain ⟨v, u, g1, g2, g3⟩ := hX.gl _ _ hd
            refine both (fun xe W tk => PE.imp (pe_glob (X := X.wish xe) (show Gl X _ from glob_ok hX c.1) g1 g2 (plain_ok c.2).1) fun σ H Q ⟨U, env, r, h⟩ => ?_) rfl hX.K fun _ => rfl
            simp only [evA] at h
            exact h v H (.pure r (g3 _ _))
          · cases h
      · -- Constant
        obtain ⟨d, hd, rfl⟩ := map_some h
        rename_i c k p
        have q : QE Γ X (.Constant c k p) (evA P (.cst d)) := by
          unfold cConst at hd
          split at hd <;> cases hd
          · exact q_non
          · exact q_bl
          · exact q_int
          · exact q_str
        exact ⟨q, qt_plain rfl q hX.K fun _ => rfl⟩
      · -- BinOp
        split at h
        · rename_i o a b ho ha hb
          cases h
          rw [cBo_op ho]
          exact both (q_bin (ihe _ _ ha) (ihe _ _ hb) hX.K) rfl hX.K fun _ => rfl
        · cases h
      · -- USub
        obtain ⟨a, ha, rfl⟩ := map_some h
        exact both (q_neg (ihe _ _ ha)) rfl hX.K fun _ => rfl
      · -- Not
        obtain ⟨a, ha, rfl⟩ := map_some h
        exact ⟨q_nt (ihe _ _ ha) hX.K, qt_nt (iht _ _ ha)⟩
      · -- BoolOp
        obtain ⟨g1, g2⟩ := bools_ok hX.K ihe iht h
        exact ⟨g1, g2.qt⟩
      · -- Compare
        split at h
        · cases h
        · rename_i hs
          split at h
          · rename_i o a b ho ha hb
            cases h
            rw [cCo_op ho]
            have hm := nomarks (op := o.op) (Bool.eq_false_iff.mpr hs)
            exact ⟨q_cmp (ihe _ _ ha) (ihe _ _ hb) hX.K (un_ok hX) hm, by rw [evT_plain rfl]; exact qt_cmp (ihe _ _ ha) (ihe _ _ hb) hX.K (un_ok hX) hm⟩
          · cases h
      · -- chain
        split at h
        · cases h
        · rename_i hs
          split at h
          · rename_i o p a b c ho hp ha hb hc
            cases h
            rw [cCo_op ho, cCo_op hp]
            have hs' := Bool.eq_false_iff.mpr hs
            rw [Bool.or_eq_false_iff] at hs'
            exact ⟨q_chain (ihe _ _ ha) (ihe _ _ hb) (ihe _ _ hc) hX.K (un_ok hX) (nomarks (op := p.op) hs'.2), by rw [evT_plain rfl]; exact qt_chain (ihe _ _ ha) (ihe _ _ hb) (ihe _ _ hc) hX.K (un_ok hX) (nomarks (op := p.op) hs'.2)⟩
          · cases h
      · -- IfExp
        split at h
        · rename_i c a b hc ha hb
          cases h
          exact ⟨q_ite (iht _ _ hc) (ihe _ _ ha) (ihe _ _ hb), qt_ite (iht _ _ hc) (iht _ _ ha) (iht _ _ hb)⟩
        · cases h
      · -- Tuple
        obtain ⟨as, ha, rfl⟩ := map_some h
        exact both (q_tup (es_ok ihe ha).2.1) rfl hX.K fun _ => rfl
      · -- List
        obtain ⟨as, ha, rfl⟩ := map_some h
        exact both (q_lst (es_ok ihe ha).2.1) rfl hX.K fun _ => rfl
      · -- slice
        split at h
        · rename_i a l hh ha hl hhi
          cases h
          exact both (q_slc (ihe _ _ ha) (opt_ok ihe hl) (opt_ok ihe hhi) hX.K) rfl hX.K fun _ => rfl
        · cases h
      · -- index
        split at h
        · cases h
        · rename_i hs
          split at h
          · rename_i a i ha hi
            cases h
            exact both (q_idx (ihe _ _ ha) (ihe _ _ hi) hX.K (un_ok hX) (plainIx_of (Bool.eq_false_iff.mpr hs)) (nosl_of (Bool.eq_false_iff.mpr hs))) rfl hX.K fun _ => rfl
          · cases h
      · -- call
        split at h
        · rename_i c
          rw [Bool.and_eq_true] at c
          obtain ⟨g1, g2⟩ := ih.c hX _ _ _ h c.1 c.2
          refine ⟨g1 _ _, ?_⟩
          rw [g2]
          exact qt_tru (g1 _ _) hX.K fun _ => rfl
        · cases h
      · -- a change at a name
        split at h
        · rename_i i mm as hi hmm has
          split at h
          · rename_i hl
            obtain ⟨h1, h2, h3⟩ := slot_ok hX hi
            obtain ⟨d1, d2, _⟩ := plain_ok h3
            obtain ⟨_, v2, v3⟩ := es_ok ihe has
            rw [cMm_ok hmm]
            split at h
            · cases h
              simp only [List.all_cons, List.all_nil, Bool.and_true] at v3
              exact both (q_mut1 (m := .append) (.inl rfl) h1 h2 d1 d2 v2 v3 hl) rfl hX.K fun _ => rfl
            · cases h
              simp only [List.all_cons, List.all_nil, Bool.and_true] at v3
              exact both (q_mut1 (m := .extend) (.inr rfl) h1 h2 d1 d2 v2 v3 hl) rfl hX.K fun _ => rfl
            · cases h
              exact both (q_pop h1 h2 d1 d2 hl) rfl hX.K fun _ => rfl
            · cases h
          · cases h
        · cases h
      · -- a method of a text
        split at h
        · rename_i c
          rw [Bool.and_eq_true, Bool.and_eq_true] at c
          obtain ⟨⟨c1, c2⟩, c3⟩ := c
          split at h
          · rename_i o a ho ha
            cases h
            have e1 := beq_iff_eq.mp c1
            subst e1
            exact both (q_join (ihe _ _ ho) (ihe _ _ ha) hX.K c2 rfl c3) rfl hX.K fun _ => rfl
          · cases h
        · cases h
      · -- a dict
        split at h
        · cases h
        · rename_i hne
          split at h
          · rename_i c
            simp only [Bool.and_eq_true, decide_eq_true_eq, beq_iff_eq] at c
            obtain ⟨as, ha, rfl⟩ := map_some h
            exact both (q_dsp (ps_ok ihe ha) c.1.1 c.1.2 (fun z => hne (by rw [z]; rfl)) c.2) rfl hX.K fun _ => rfl
          · cases h
      · -- a comprehension
        rename_i elt tg iter ifs s p
        try dsimp only at h
        split at h
        · rename_i c
          rw [Bool.and_eq_true, Bool.and_eq_true] at c
          obtain ⟨⟨c1, c2⟩, c3⟩ := c
          split at h
          · rename_i t it el cc ht hit hel hcc
            split at h
            · rename_i hsl
              cases h
              have bok : BlkOk X.N X.env.scope s (ownOf C.N s.names) := by
                rw [hX.N, hX.sc]
                exact blkOk_by c2
              have q : QE Γ X (.ListComp elt [⟨tg, iter, ifs, 0⟩] s p) _ := q_lc (P := P) (c := cc) (hX.calm c1) hX.nd (ih.i hX _ _ _ hit) bok
                (fun sh H Ca cl fp => sound_Tg (inner_ok hX s sh H Ca cl fp) n _ _ ht)
                (fun sh H Ca cl fp => by
                  split at hcc
                  · cases hcc; exact qc_nil
                  · obtain ⟨a, ha, rfl⟩ := map_some hcc
                    exact qc_one (ih.e (inner_ok hX s sh H Ca cl fp) _ _ ha).2
                  · cases hcc)
                (fun sh H Ca cl fp => (ih.e (inner_ok hX s sh H Ca cl fp) _ _ hel).1) (nofold (by simpa using c3)) (fun i hi => by
                  rw [List.all_eq_true] at hsl
                  simpa using hsl i hi)
              exact ⟨q, qt_plain rfl q hX.K fun _ => rfl⟩
            · cases h
          · cases h
        · cases h
      · cases h
    · have ihe : ∀ e e', cE n C e = some e' → QE Γ X e (evA P e') := fun e e' h => (ih.e hX e e' h).1
      have hgl := glob_ok hX hg
      obtain ⟨d1, d2, d3⟩ := plain_ok hp
      unfold cCall at h
      try dsimp only at h
      split at h
      · rename_i i hi
        split at h
        · rename_i hc
          obtain ⟨as, has, rfl⟩ := map_some h
          obtain ⟨k, hf, hr⟩ := hX.fns hc i f (posOf_get hi)
          have hr := hr.mono (Nat.le_add_right k _)
          obtain ⟨a1, _, a3⟩ := es_ok ihe has
          refine ⟨fun p pos => ?_, evT_plain rfl⟩
          cases es with
          | nil => cases has; exact q_call0 hf hr hgl d1
          | cons e es => exact q_call hf hr hgl d1 a1 a3
        · cases h
      · split at h
        · rename_i hb
          have hm := hX.blt f hb
          split at h
          · rename_i hf
            subst hf
            split at h
            · rename_i e t pt
              split at h
              · rename_i c
                simp only [Bool.and_eq_true] at c
                obtain ⟨⟨⟨c1, c2⟩, c3⟩, c4⟩ := c
                split at h
                · rename_i a b ha hb'
                  cases h
                  obtain ⟨ty, t1, t2, t3⟩ := tyIs_ok hb'
                  obtain ⟨e1, _, e3⟩ := plain_ok c2
                  refine ⟨fun p pos => ?_, evT_plain rfl⟩
                  have q := q_isi (P := P) (p1 := p) (p2 := pt) (pos := pos) (ihe _ _ ha) hX.K t1 (by rw [t3]; exact hgl) (by rw [t3]; exact hm) c4 (glob_ok hX c1) (hX.blt t c3) t2 e3 e1
                  rw [t3] at q
                  exact q
                · cases h
              · cases h
            · cases h
          · split at h
            · -- a generator expression
              split at h
              · rename_i elt tg iter ifs s pg hh
                try dsimp only at h
                split at h
                · rename_i c
                  simp only [Bool.and_eq_true, Bool.not_eq_true'] at c
                  obtain ⟨⟨⟨⟨⟨c1, c2⟩, c3⟩, c4⟩, c5⟩, c6⟩ := c
                  split at h
                  · rename_i t it el cc ht hit hel hcc
                    split at h
                    · rename_i hsl
                      cases h
                      have S : Gx.GxS X.N X.env.scope s (ownOf C.N s.names) := by
                        rw [hX.N, hX.sc]
                        exact Gx.gxS_by c4
                      obtain ⟨hr, cA, Pt, t1, t2, t3⟩ := hX.tab c1 c2
                      have hnm : f = Gx.gxNm (f == Gx.gxNm true) := by
                        cases q : (f == Gx.gxNm true) with
                        | true => simpa using q
                        | false =>
                          rw [q] at c3
                          simpa using c3
                      generalize (f == Gx.gxNm true) = isAll at hnm ⊢
                      subst hnm
                      refine ⟨fun p pos => ?_, evT_plain rfl⟩
                      exact q_gx (P := P) (c := cc) hr (hX.calm c2) hX.nd hgl hm t3 t2 t1 S (ih.i hX _ _ _ hit)
                        (fun A sh H Ca code fp a1 a2 a3 => sound_Tg (gx_ok hX c1 c2 s S.nocell a1 a2 a3 sh H Ca code fp) n _ _ ht)
                        (fun A sh H Ca code fp a1 a2 a3 => by
                          split at hcc
                          · cases hcc; exact qc_nil
                          · obtain ⟨a, ha, rfl⟩ := map_some hcc
                            exact qc_one (ih.e (gx_ok hX c1 c2 s S.nocell a1 a2 a3 sh H Ca code fp) _ _ ha).2
                          · cases hcc)
                        (fun A sh H Ca code fp a1 a2 a3 => (ih.e (gx_ok hX c1 c2 s S.nocell a1 a2 a3 sh H Ca code fp) _ _ hel).1) (nogenfold c5 c6) (fun i hi => by
                          rw [List.all_eq_true] at hsl
                          simpa using hsl i hi)
                    · cases h
                  · cases h
                · cases h
              · cases h
            · split at h
              · rename_i b as hcb has
                split at h
                · cases h
                · rename_i hne
                  cases h
                  simp only [Bool.or_eq_true, Bool.and_eq_true, Bool.not_eq_true', not_or, not_and] at hne
                  obtain ⟨b1, b2⟩ := cBi_ok hcb
                  obtain ⟨a1, _, a3⟩ := es_ok ihe has
                  refine ⟨fun p pos => ?_, evT_plain rfl⟩
                  cases es with
                  | nil => exact (hne.2 rfl).elim
                  | cons e es =>
                    have q := q_bi (P := P) (p1 := p) (pos := pos) (f := b) a1 hX.K (fun hot => hX.calm (by have := hne.1 hot; simpa using this)) b2 (by rw [b1]; exact hgl) (by rw [b1]; exact hm) a3
                    rw [b1] at q
                    exact q
              · cases h
        · cases h
    · have ihe : ∀ e e', cE n C e = some e' → QE Γ X e (evA P e') := fun e e' h => (ih.e hX e e' h).1
      have dflt : ∀ {e : Expr} {it : It}, (cE n C e).map It.of = some it → QI Γ X tg e (evI P it) := fun {e it} h => by
        obtain ⟨a, ha, rfl⟩ := map_some h
        exact q_of (ihe _ _ ha) hX.K
      unfold cIt at h
      try dsimp only at h
      split at h
      · rename_i f pf es pos
        split at h
        · rename_i c
          simp only [Bool.and_eq_true] at c
          obtain ⟨⟨⟨c1, c2⟩, c3⟩, c4⟩ := c
          split at h
          · rename_i hf
            subst hf
            have hgl := glob_ok hX c1
            have hm := hX.blt _ c3
            split at h
            · split at h
              · rename_i hst
                obtain ⟨a, ha, rfl⟩ := map_some h
                exact q_rng1 (ihe _ _ ha) hgl hm hst
              · cases h
            · split at h
              · rename_i hst
                rw [Bool.and_eq_true] at hst
                split at h
                · rename_i a b ha hb
                  cases h
                  exact q_rng2 (ihe _ _ ha) (ihe _ _ hb) hgl hm hst.1 hst.2
                · cases h
              · cases h
            · cases h
          · split at h
            · rename_i hf
              subst hf
              split at h
              · rename_i a0 hea
                obtain ⟨⟨elts, k, p, rfl⟩, rfl⟩ := enumArg_ok hea
                split at h
                · rename_i hst
                  obtain ⟨a, ha, rfl⟩ := map_some h
                  exact q_enum (ihe _ _ ha) (glob_ok hX c1) (hX.blt _ c3) hst hX.K
                · cases h
              · cases h
            · exact dflt h
        · exact dflt h
      · exact dflt h
end
end Ev
end
section
set_option maxRecDepth 100000
set_option maxHeartbeats 2000000
namespace Ev
open PySem PySem.Spec L2

def swLc (C : Cc) (x : Str) (p : Pos) (s : Scope) (q : Pos) : Bool := C.islocal x && p.line == q.line && !(s.names.any fun (n, k) => n == x && (k == .local || k == .cell))
def isLcOf (e : Expr) : Option (Scope × Pos) := match e with
  | .ListComp _ _ s q => some (s, q)
  | _ => none
/-- a store -/
def cAsg (n : Nat) (C : Cc) (t e : Expr) : Option S :=
  match t with
  | .Name x p => match C.dest x with
    | none => none
    | some i => match e with
      | .ListComp elt gs s q => if swLc C x p s q then (match gs with
          | [⟨tg, iter, ifs, 0⟩] =>
            let own := ownOf C.N s.names
            if C.calm && blkC C.N C.sc s own && !isSet iter then
              match cTg n (C.inner s) tg, cIt n C tg iter, cE n (C.inner s) elt, (match ifs with | [] => some Es.nil | [c] => (cE n (C.inner s) c).map fun c => Es.cons c .nil | _ => none) with
              | some t, some it, some el, some c => if t.slots.all fun i => (own.map (·.2)).contains i then some (.asg (.nm i) (.lc el t it c (own.map (·.2)))) else none
              | _, _, _, _ => none
            else none
          | _ => none) else (cE n C e).map fun a => .asg (.nm i) a
      | _ => if isComp e then none else (cE n C e).map fun a => .asg (.nm i) a
  | .Tuple ts _ _ => match e with
    | .Tuple vs _ _ => match swapT ts vs C.sc with
      | some none => match cTg n C t, cE n C e with
        | some t, some a => some (.asg t a)
        | _, _ => none
      | some (some ns) => if C.calm then (match ts, vs with
        | [.Name x _, .Name y _], [a, b] => if notStar a && notStar b && ns == [x, y] && C.islocal x && C.islocal y then (match C.dest x, C.dest y, cE n C a, cE n C b with
          | some i, some j, some a, some b => if i == j then none else some (.par i j a b)
          | _, _, _, _ => none) else none
        | [.Name x _, .Name y _, .Name z _], [a, b, c] => if notStar a && notStar b && notStar c && ns == [x, y, z] && C.islocal x && C.islocal y && C.islocal z then (match C.dest x, C.dest y, C.dest z, cE n C a, cE n C b, cE n C c with
          | some i, some j, some k, some a, some b, some c => if i == j || i == k || j == k then none else some (.par3 i j k a b c)
          | _, _, _, _, _, _ => none) else none
        | _, _ => none) else none
      | none => none
    | _ => match cTg n C t, cE n C e with
      | some t, some a => some (.asg t a)
      | _, _ => none
  | .Subscript (.Name x _) ix _ => if isSlice ix then none else match C.slot x, cE n C e, cE n C ix with
    | some i, some a, some b => some (.setI i b a)
    | _, _, _ => none
  | _ => none
def cSsOf (f : Stmt → Option S) : List Stmt → Option Ss
  | [] => some .nil
  | s :: r => match f s, cSsOf f r with
    | some a, some b => some (.cons a b)
    | _, _ => none
def isDoc : Expr → Bool
  | .Constant (.str _) _ _ => true
  | _ => false
def cS : Nat → Cc → Stmt → Option S
  | 0, _, _ => none
  | n + 1, C, s => match s with
    | .Pass _ => some .pass
    | .Break _ => some .brk
    | .Continue _ => some .cont
    | .Expr e _ => if isDoc e then some .pass else if isComp e then none else (cE n C e).map .expr
    | .Return none _ => some .retN
    | .Return (some e) _ => (cE n C e).map .ret
    | .If c a b _ => match cE n C c, cSsOf (cS n C) a, cSsOf (cS n C) b with
      | some c, some a, some b => some (.iff c a b)
      | _, _, _ => none
    | .While c b [] _ => match cE n C c, cSsOf (cS n C) b with
      | some c, some b => some (.whl c b)
      | _, _ => none
    | .For tg it b [] _ => if C.calm && !isSet it then (match cTg n C tg, cIt n C tg it, cSsOf (cS n C) b with
      | some t, some i, some b => some (.forr t i b)
      | _, _, _ => none) else none
    | .Assign [t] e _ => cAsg n C t e
    | .AugAssign (.Name x _) o e _ => match C.dest x, cBo o, cE n C e with
      | some i, some o, some a => some (.aug i o a)
      | _, _, _ => none
    | .Raise (some (.Call (.Name x _) [] [] _)) none _ => if C.calm && C.glob x && plainName x then (posOf C.excs x).map fun i => .raise i .nil else none
    | .Try b [.ExceptHandler (some (.Name x _)) none (h0 :: h) _] [] [] _ => if C.glob x && plainName x then (match posOf C.excs x, cSsOf (cS n C) b, cSsOf (cS n { C with calm := false }) (h0 :: h) with
      | some c, some b, some h => some (.tryE b c none h)
      | _, _, _ => none) else none
    | _ => none

section
variable {Γ : Glob} {P : Par} {C : Cc} {X : Cx} {i : Nat} {x : Str}
theorem pn_ok (hX : XOk Γ P C X) (pn : List (Addr × Obj)) : XOk Γ P C { X with pn := pn } where
  K := hX.K
  sc := hX.sc
  N := hX.N
  nd := hX.nd
  fn := hX.fn
  calm := hX.calm
  un := hX.un
  fns := fun h i x e => let ⟨k, f, r⟩ := hX.fns h i x e; ⟨k, ⟨f.ex⟩, r⟩
  blt := hX.blt
  tab := hX.tab
  gl := hX.gl
  exc := fun i x e => ⟨(hX.exc i x e).ex⟩
  exm := hX.exm
  stk := hX.stk
theorem suite_ok (hX : XOk Γ P C X) (a : Addr) (pn : List (Addr × Obj)) : XOk Γ P { C with calm := false } (X.suite a pn) where
  K := hX.K
  sc := hX.sc
  N := hX.N
  nd := hX.nd
  fn := hX.fn
  calm := fun h => by cases h
  un := hX.un
  fns := fun h => by cases h
  blt := hX.blt
  tab := fun _ h => by cases h
  gl := hX.gl
  exc := fun i x e => ⟨(hX.exc i x e).ex⟩
  exm := hX.exm
  stk := hX.stk
theorem islocal_ok (hX : XOk Γ P C X) (h : C.islocal x = true) : X.env.scope.names.lookup x = some .local := by
  unfold Cc.islocal at h
  rw [hX.sc]
  split at h
  · assumption
  · cases h
theorem not_fx (hX : XOk Γ P C X) (h : C.dest x = some i) : i ∉ C.fx := (dest_ok hX h).2.2.2.2
theorem sw_lc {elt : Expr} {gs : List Comprehension} {s : Scope} {p q : Pos} {l : Nat} (hX : XOk Γ P C X) (hb : C.blk = none) : swapsWith (.ListComp elt gs s q) (some (.Name x p)) l X.env = pure (swLc C x p s q) := by
  have hk := (hX.stk hb).2.2
  have hbk : X.env.blockKind = .function := by unfold Env.blockKind; rw [hk]; rfl
  have e1 : (X.env.kindOf x == some NameKind.local) = C.islocal x := by
    show (X.env.scope.names.lookup x == some NameKind.local) = C.islocal x
    unfold Cc.islocal
    rw [hX.sc]
    split
    · rename_i e; rw [e]; rfl
    · rename_i e
      cases q : C.sc.names.lookup x with
      | none => rfl
      | some k => cases k <;> first | rfl | (exact (e q).elim)
  unfold swapsWith swLc
  simp only [hbk, e1, Expr.pos]
  rfl
theorem sound_asg (hX : XOk Γ P C X) (hb : C.blk = none) {n : Nat} {t e : Expr} {pos : Pos} {s : S} (h : cAsg n C t e = some s) : QS Γ C.fx X (.Assign [t] e pos) (evS P s) := by
  have ih := soundE Γ P n
  have ihe : ∀ e e', cE n C e = some e' → QE Γ X e (evA P e') := fun e e' h => (ih.e hX e e' h).1
  obtain ⟨hs1, hs2, hk⟩ := hX.stk hb
  unfold cAsg at h
  split at h
  · rename_i x p
    split at h
    · cases h
    · rename_i i hi
      obtain ⟨d1, d2, _, d3, d4⟩ := dest_ok hX hi
      split at h
      · rename_i elt gs s q
        split at h
        · rename_i hsw
          have hlocal : C.islocal x = true := by
            unfold swLc at hsw
            simp only [Bool.and_eq_true] at hsw
            exact hsw.1.1
          split at h
          · rename_i tg iter ifs
            try dsimp only at h
            split at h
            · rename_i c
              rw [Bool.and_eq_true, Bool.and_eq_true] at c
              obtain ⟨⟨c1, c2⟩, c3⟩ := c
              split at h
              · rename_i t it el cc ht hit hel hcc
                split at h
                · rename_i hsl
                  cases h
                  have bok : BlkOk X.N X.env.scope s (ownOf C.N s.names) := by
                    rw [hX.N, hX.sc]
                    exact blkOk_by c2
                  exact qs_setLc (P := P) (c := cc) (hX.calm c1) hX.nd d1 (islocal_ok hX hlocal) (by rw [sw_lc hX hb, hsw]) (ih.i hX _ _ _ hit) bok
                    (fun sh H Ca cl fp => sound_Tg (inner_ok hX s sh H Ca cl fp) n _ _ ht)
                    (fun sh H Ca cl fp => by
                      split at hcc
                      · cases hcc; exact qc_nil
                      · obtain ⟨a, ha, rfl⟩ := map_some hcc
                        exact qc_one (ih.e (inner_ok hX s sh H Ca cl fp) _ _ ha).2
                      · cases hcc)
                    (fun sh H Ca cl fp => (ih.e (inner_ok hX s sh H Ca cl fp) _ _ hel).1) (nofold (by simpa using c3)) (fun i hi => by
                      rw [List.all_eq_true] at hsl
                      simpa using hsl i hi) d4
                · cases h
              · cases h
            · cases h
          · cases h
        · rename_i hsw
          obtain ⟨a, ha, rfl⟩ := map_some h
          exact qs_set hX.nd d1 d2 d3 (ihe _ _ ha) (by rw [sw_lc hX hb, Bool.eq_false_iff.mpr hsw]) d4
      · split at h
        · cases h
        · rename_i hcomp
          obtain ⟨a, ha, rfl⟩ := map_some h
          exact qs_set hX.nd d1 d2 d3 (ihe _ _ ha) (swaps_no (Bool.eq_false_iff.mpr hcomp)) d4
  · rename_i ts kt pt
    have fxd : ∀ {t : Tg}, cTg n C (.Tuple ts kt pt) = some t → (∀ i ∈ C.fx, i ∉ t.slots) := fun {t} ht i hi hs => slots_fx hX n _ _ ht i hs hi
    have nnm : ∀ {t : Tg}, cTg n C (.Tuple ts kt pt) = some t → ∀ i, t ≠ .nm i := fun {t} ht i e => by
      cases n with
      | zero => cases ht
      | succ n =>
        unfold cTg at ht
        dsimp only at ht
        split at ht
        · obtain ⟨a, _, rfl⟩ := map_some ht
          cases e
        · cases ht
    split at h
    · rename_i vs kv pv
      split at h
      · rename_i hsw
        split at h
        · rename_i t a ht ha
          cases h
          exact qs_asg (sound_Tg hX n _ _ ht) (ihe _ _ ha) rfl (swapT_ok hk (by rw [hX.sc]; exact hsw)) rfl (nnm ht) (fxd ht)
        · cases h
      · rename_i ns hsw
        have hsw' : ∀ {a c : Nat} {b d : Pos}, swappedStores [.Tuple ts a b] (.Tuple vs c d) X.env = pure (some ns) := fun {a c b d} => swapT_ok hk (by rw [hX.sc]; exact hsw)
        split at h
        · rename_i hcalm
          split at h
          · rename_i x p1 y p2 a b
            split at h
            · rename_i c
              simp only [Bool.and_eq_true] at c
              obtain ⟨⟨⟨⟨c1, c2⟩, c3⟩, c4⟩, c5⟩ := c
              split at h
              · rename_i i j a' b' hi hj ha hb'
                split at h
                · cases h
                · rename_i hij
                  cases h
                  have hns : ns = [x, y] := by simpa using c3
                  subst hns
                  exact qs_par (hX.calm hcalm) hX.nd (dest_ok hX hi).1 (dest_ok hX hj).1 (by simpa using hij) (islocal_ok hX c4) (islocal_ok hX c5) (ihe _ _ ha) (ihe _ _ hb') (by simp [c1, c2]) hsw' (not_fx hX hi) (not_fx hX hj)
              · cases h
            · cases h
          · rename_i x p1 y p2 z p3 a b c
            split at h
            · rename_i c
              simp only [Bool.and_eq_true] at c
              obtain ⟨⟨⟨⟨⟨⟨c1, c2⟩, c2'⟩, c3⟩, c4⟩, c5⟩, c6⟩ := c
              split at h
              · rename_i i j k a' b' c' hi hj hk' ha hb' hc'
                split at h
                · cases h
                · rename_i hij
                  cases h
                  have hns : ns = [x, y, z] := by simpa using c3
                  subst hns
                  simp only [Bool.or_eq_true, beq_iff_eq, not_or] at hij
                  exact qs_par3 (hX.calm hcalm) hX.nd (dest_ok hX hi).1 (dest_ok hX hj).1 (dest_ok hX hk').1 hij.1.1 hij.1.2 hij.2 (islocal_ok hX c4) (islocal_ok hX c5) (islocal_ok hX c6) (ihe _ _ ha) (ihe _ _ hb') (ihe _ _ hc') (by simp [c1, c2, c2']) hsw' (not_fx hX hi) (not_fx hX hj) (not_fx hX hk')
              · cases h
            · cases h
          · cases h
        · cases h
      · cases h
    · rename_i hnt
      split at h
      · rename_i t a ht ha
        cases h
        have hne : isTuple e = false := by
          cases e <;> first | rfl | (exact (hnt _ _ _ rfl).elim)
        exact qs_asg (sound_Tg hX n _ _ ht) (ihe _ _ ha) (by cases e <;> rfl) (noswap hne) rfl (nnm ht) (fxd ht)
      · cases h
  · rename_i x p1 ix p2
    split at h
    · cases h
    · rename_i hsl
      split at h
      · rename_i i a b hi ha hb'
        cases h
        obtain ⟨h1, h2, h3⟩ := slot_ok hX hi
        obtain ⟨d1, d2, _⟩ := plain_ok h3
        exact qs_setI h1 h2 d1 d2 (ihe _ _ ha) (ihe _ _ hb') (Bool.eq_false_iff.mpr hsl)
      · cases h
  · cases h
theorem rows_ok {f : Stmt → Option S} (ih : ∀ s s', f s = some s' → QS Γ C.fx X s (evS P s')) : ∀ {ss : List Stmt} {r : Ss}, cSsOf f ss = some r → QSs Γ C.fx X ss (evSs P r)
  | [], r, h => by cases h; exact qs_nil
  | s :: ss, r, h => by
    unfold cSsOf at h
    split at h
    · rename_i a b ha hb
      cases h
      exact qs_cons (ih s a ha) (rows_ok ih hb)
    · cases h
theorem soundS (Γ : Glob) (P : Par) : ∀ (n : Nat) {C : Cc} {X : Cx}, XOk Γ P C X → C.blk = none → ∀ s s', cS n C s = some s' → QS Γ C.fx X s (evS P s')
  | 0, C, X, hX, hb, s, s', h => by cases h
  | n + 1, C, X, hX, hb, s, s', h => by
    have ih := soundE Γ P n
    have ihe : ∀ e e', cE n C e = some e' → QE Γ X e (evA P e') := fun e e' h => (ih.e hX e e' h).1
    have iht : ∀ e e', cE n C e = some e' → QT Γ X e (evT P e') := fun e e' h => (ih.e hX e e' h).2
    have ihs : ∀ {ss r}, cSsOf (cS n C) ss = some r → QSs Γ C.fx X ss (evSs P r) := fun h => rows_ok (fun s s' h => soundS Γ P n hX hb s s' h) h
    unfold cS at h
    try dsimp only at h
    split at h
    · cases h; exact qs_pass
    · cases h; exact qs_brk
    · cases h; exact qs_cont
    · rename_i e p
      split at h
      · rename_i hd
        cases h
        unfold isDoc at hd
        split at hd
        · exact qs_doc
        · cases hd
      · split at h
        · cases h
        · rename_i hc
          obtain ⟨a, ha, rfl⟩ := map_some h
          exact qs_expr (ihe _ _ ha) (Bool.eq_false_iff.mpr hc)
    · cases h; exact qs_retN
    · obtain ⟨a, ha, rfl⟩ := map_some h
      exact qs_ret (ihe _ _ ha)
    · split at h
      · rename_i c a b hc ha hb'
        cases h
        exact qs_iff (iht _ _ hc) (ihs ha) (ihs hb')
      · cases h
    · split at h
      · rename_i c b hc hb'
        cases h
        exact qs_whl (iht _ _ hc) (ihs hb')
      · cases h
    · split at h
      · rename_i c
        rw [Bool.and_eq_true] at c
        split at h
        · rename_i t i b ht hi hb'
          cases h
          exact qs_forr (hX.calm c.1) (sound_Tg hX n _ _ ht) (ih.i hX _ _ _ hi) (ihs hb') (nofold (by simpa using c.2)) fun i hi hs => slots_fx hX n _ _ ht i hs hi
        · cases h
      · cases h
    · exact sound_asg hX hb h
    · split at h
      · rename_i i o a hi ho ha
        cases h
        obtain ⟨d1, d2, _, d3, d4⟩ := dest_ok hX hi
        rw [cBo_op ho]
        exact qs_aug hX.nd d1 d2 d3 (ihe _ _ ha) d4
      · cases h
    · split at h
      · rename_i c
        simp only [Bool.and_eq_true] at c
        obtain ⟨i, hi, rfl⟩ := map_some h
        exact qs_raise0 (hX.calm c.1.1) (hX.exc _ _ (posOf_get hi)) (glob_ok hX c.1.2) (plain_ok c.2).1
      · cases h
    · split at h
      · rename_i c
        simp only [Bool.and_eq_true] at c
        split at h
        · rename_i c' b h' hc hb' hh
          cases h
          obtain ⟨hs1, hs2, _⟩ := hX.stk hb
          exact qs_try hs1 hs2 (hX.exc _ _ (posOf_get hc)) (glob_ok hX c.1) (plain_ok c.2).1 hX.exm
            (fun pn => rows_ok (fun s s' h => soundS Γ P n (pn_ok hX pn) hb s s' h) hb')
            (fun a pn => rows_ok (C := { C with calm := false }) (fun s s' h => soundS Γ P n (suite_ok hX a pn) hb s s' h) hh)
        · cases h
      · cases h
    · cases h
end
end Ev
end
section
set_option maxRecDepth 100000
set_option maxHeartbeats 2000000
namespace Ev
open PySem PySem.Spec L2

/-- a def's text: its name, its statement, its parameters, its slots, the slots that are never stored -/
structure Txt where
  name : Str
  st : Stmt
  ps : List Str
  N : List Str
  fx : List Nat
  tab : Bool
/-- a whole program: the names of its defs, of its exceptions, of the built-in things it leaves alone -/
structure Prg where
  fns : List Str
  excs : List Str
  blt : List Str
  gl : List (Str × D)
  n : Nat
def Txt.cc (G : Prg) (T : Txt) : Cc := ⟨defScope T.st, T.N, none, T.fx, true, G.fns, G.excs, G.blt, T.tab, G.gl⟩
def nodupB : List Str → Bool
  | [] => true
  | x :: xs => !(xs.contains x) && nodupB xs
theorem nodupB_ok : ∀ {xs : List Str}, nodupB xs = true → xs.Nodup
  | [], _ => List.nodup_nil
  | x :: xs, h => by
    unfold nodupB at h
    rw [Bool.and_eq_true] at h
    refine List.nodup_cons.mpr ⟨?_, nodupB_ok h.2⟩
    have := h.1
    simpa using this
/-- its scope is a plain def's -/
def Txt.ok (T : Txt) : Bool :=
  decide ((defScope T.st).kind = .function) && !(defScope T.st).isCoroutine && !(defScope T.st).isGenerator && nodupB T.N && decide (T.N.take T.ps.length = T.ps) &&
  (T.ps.all fun x => (defScope T.st).names.lookup x == some .local || (defScope T.st).names.lookup x == some .cell) && ((defScope T.st).names.all fun y => y.2 != .free)
theorem Txt.scope_ok {T : Txt} (h : T.ok = true) : FnScope T.N T.ps (defScope T.st) := by
  unfold Txt.ok at h
  simp only [Bool.and_eq_true, decide_eq_true_eq, Bool.not_eq_true'] at h
  obtain ⟨⟨⟨⟨⟨⟨h1, h2⟩, h3⟩, h4⟩, h5⟩, h6⟩, h7⟩ := h
  refine ⟨h1, h2, h3, nodupB_ok h4, h5, fun x hx => ?_, fun y hy => ?_⟩
  · have := List.all_eq_true.mp h6 x hx
    simpa using this
  · have := List.all_eq_true.mp h7 y hy
    simpa using this
/-- f is what T's text says -/
structure Txt.Is (G : Prg) (T : Txt) (f : Fn) : Prop where
  ok : T.ok = true
  body : cSsOf (cS G.n (T.cc G)) (defBody T.st) = some f.body
  np : f.np = T.ps.length
  n : f.n = T.N.length
  lend : f.lend = (List.range T.ps.length).map fun i => T.fx.contains i

/-! ### what holds of the outs -/
theorem maskO_get : ∀ {ls : List Bool} {env : Env} {i : Nat} {s : Sl}, (maskO ls env)[i]? = some (some s) → ls[i]? = some true ∧ env[i]? = some (some s)
  | [], env, i, s, h => by cases env <;> (unfold maskO at h; simp at h)
  | true :: ls, [], i, s, h => by
    unfold maskO at h
    cases i with
    | zero => simp at h
    | succ i =>
      have := maskO_get (ls := ls) (env := []) (i := i) (s := s) (by simpa using h)
      simpa using this
  | false :: ls, [], i, s, h => by
    unfold maskO at h
    cases i with
    | zero => simp at h
    | succ i =>
      have := maskO_get (ls := ls) (env := []) (i := i) (s := s) (by simpa using h)
      simpa using this
  | true :: ls, e :: env, i, s, h => by
    unfold maskO at h
    cases i with
    | zero => simpa using h
    | succ i =>
      have := maskO_get (ls := ls) (env := env) (i := i) (s := s) (by simpa using h)
      simpa using this
  | false :: ls, e :: env, i, s, h => by
    unfold maskO at h
    cases i with
    | zero => simp at h
    | succ i =>
      have := maskO_get (ls := ls) (env := env) (i := i) (s := s) (by simpa using h)
      simpa using this
theorem maskO_len : ∀ {ls : List Bool} {env : Env}, (maskO ls env).length = ls.length
  | [], env => by cases env <;> rfl
  | true :: ls, [] => by unfold maskO; simp [maskO_len (ls := ls) (env := [])]
  | false :: ls, [] => by unfold maskO; simp [maskO_len (ls := ls) (env := [])]
  | true :: ls, e :: env => by unfold maskO; simp [maskO_len (ls := ls) (env := env)]
  | false :: ls, e :: env => by unfold maskO; simp [maskO_len (ls := ls) (env := env)]
section
variable {Γ : Glob} {U : Addr → Prop} {env env' outs : Env} {σ σ' ρ : St} {H H' : Hp} {a : A} {v : V}
theorem Own.mask (h : ∀ (i : Nat) (s : Sl), outs[i]? = some (some s) → env'[i]? = some (some s) ∧ σ'[i]? = ρ[i]?) (b : Addr) (o : Own outs ρ b) : Own env' σ' b := by
  obtain ⟨i, d, e1, e2⟩ := o
  obtain ⟨h1, h2⟩ := h i _ e1
  exact ⟨i, d, h1, h2.trans e2⟩
theorem RE.mask (r : RE Γ U env' σ' H') (hl : outs.length = ρ.length) (h : ∀ (i : Nat) (s : Sl), outs[i]? = some (some s) → env'[i]? = some (some s) ∧ σ'[i]? = ρ[i]?) : RE Γ U outs ρ H' := by
  refine ⟨hl, fun i d e => ?_, fun i d e => ?_, fun i j a d e e1 e2 e3 e4 => ?_, r.tabs, r.uth⟩
  · obtain ⟨h1, h2⟩ := h i _ e
    obtain ⟨v, e1, q⟩ := r.val i d h1
    exact ⟨v, h2 ▸ e1, q.less fun b z => z.imp id (Own.mask h b)⟩
  · obtain ⟨h1, h2⟩ := h i _ e
    obtain ⟨a, e1, n, q⟩ := r.own i d h1
    exact ⟨a, h2 ▸ e1, n, q.less fun b z => z.imp id (Own.mask h b)⟩
  · obtain ⟨h1, h2⟩ := h i _ e1
    obtain ⟨h3, h4⟩ := h j _ e2
    exact r.sep i j a d e h1 h3 (h2.trans e3) (h4.trans e4)
theorem Own.start {ps : List Sl} {vs : List V} {n m : Nat} (hl : ps.length = vs.length) (b : Addr) : Own (ps.map some ++ List.replicate n none) (vs.map some ++ List.replicate m none) b ↔ Own (ps.map some) (vs.map some) b := by
  constructor
  · rintro ⟨i, d, e1, e2⟩
    have hi : i < ps.length := by
      rcases Nat.lt_or_ge i ps.length with z | z
      · exact z
      · rw [List.getElem?_append_right (by simpa using z)] at e1
        rw [List.getElem?_replicate] at e1
        split at e1 <;> cases e1
    rw [List.getElem?_append_left (by simpa using hi)] at e1
    rw [List.getElem?_append_left (by simpa [← hl] using hi)] at e2
    exact ⟨i, d, e1, e2⟩
  · rintro ⟨i, d, e1, e2⟩
    have hi : i < ps.length := by
      have := (List.getElem?_eq_some_iff.mp e1).1
      simpa using this
    refine ⟨i, d, ?_, ?_⟩
    · rw [List.getElem?_append_left (by simpa using hi)]; exact e1
    · rw [List.getElem?_append_left (by simpa [← hl] using hi)]; exact e2
theorem RE.start {ps : List Sl} {vs : List V} {n m : Nat} (r : RE Γ U (ps.map some) (vs.map some) H) (hnm : ps.length + n = vs.length + m) : RE Γ U (ps.map some ++ List.replicate n none) (vs.map some ++ List.replicate m none) H := by
  have hl : ps.length = vs.length := by simpa using r.len
  have low : ∀ {i : Nat} {s : Sl}, (ps.map some ++ List.replicate n none)[i]? = some (some s) → i < ps.length ∧ (ps.map some)[i]? = some (some s) := fun {i s} e => by
    rcases Nat.lt_or_ge i ps.length with z | z
    · rw [List.getElem?_append_left (by simpa using z)] at e
      exact ⟨z, e⟩
    · rw [List.getElem?_append_right (by simpa using z), List.getElem?_replicate] at e
      split at e <;> cases e
  have up : ∀ {i : Nat}, i < ps.length → (vs.map some ++ List.replicate m none)[i]? = (vs.map some)[i]? := fun {i} z => List.getElem?_append_left (by simpa [← hl] using z)
  refine ⟨by simp [hnm], fun i d e => ?_, fun i d e => ?_, fun i j a d e e1 e2 e3 e4 => ?_, r.tabs, r.uth⟩
  · obtain ⟨z, e'⟩ := low e
    obtain ⟨v, e1, q⟩ := r.val i d e'
    exact ⟨v, by rw [up z]; exact e1, q.less fun b y => y.imp id (Own.start hl b).mp⟩
  · obtain ⟨z, e'⟩ := low e
    obtain ⟨a, e1, n, q⟩ := r.own i d e'
    exact ⟨a, by rw [up z]; exact e1, n, q.less fun b y => y.imp id (Own.start hl b).mp⟩
  · obtain ⟨z, e1'⟩ := low e1
    obtain ⟨z2, e2'⟩ := low e2
    rw [up z] at e3
    rw [up z2] at e4
    exact r.sep i j a d e e1' e2' e3 e4
end

/-! ### a program's defs -/
section
variable {Γ : Glob} {G : Prg} {fs : List Fn} {exm : Nat → Nat → Option Bool} {fuel k : Nat}
/-- what is known of a def's object -/
structure DefAt (Γ : Glob) (T : Txt) (fa : Addr) (fd : FuncData) : Prop where
  fn : ∃ (oc : Value) (od : Option Addr) (qual : Str) (kV doc pm : Value) (an : Option Addr) (cdv ct : Value) (osl : Array (Option Value)),
    fd = PySem.W.fnOf T.name qual (defArgs T.st) (defBody T.st) (defScope T.st) .none kV doc pm an cdv ct ∧ Γ.K.lookup fa = some ⟨oc, od, .func fd, osl⟩ ∧ PySem.W.codeIn Γ.K cdv qual = true ∧
    (T.tab = true → ∃ c Pt, cdv = .ref c ∧ GxR.TabB Γ.base Γ.mg c Pt ∧ Pt ∈ Γ.tabs)
  mg : Γ.mg T.name = some (.ref fa)
  kp : PySem.W.keepIn Γ.K (.ref fa) = true
  bd : Binds Γ.K fd T.ps []
/-- an exception's class, wherever one stands -/
structure ExcOk (Γ : Glob) (n : Str) (c : Nat) : Prop where
  ex : ∃ C : Addr, Γ.exc c = some C ∧ Γ.mg n = some (.ref C) ∧ PySem.W.excIn Γ.K C [.type "ValueError", .type "Exception", .type "BaseException", .type "object"] "ValueError.__new__" = true ∧ PySem.W.keepIn Γ.K (.ref C) = true ∧
    PySem.W.subIn Γ.K (.ref C) (.type "BaseException") = some true ∧ PySem.W.typeIn Γ.K (.ref C) = some (.type "type")
/-- all that is known of the program -/
structure World0 (Γ : Glob) (G : Prg) (fs : List Fn) (exm : Nat → Nat → Option Bool) (Ts : List Txt) : Prop where
  names : ∀ (i : Nat) (x : Str), G.fns[i]? = some x → ∃ T f, Ts[i]? = some T ∧ fs[i]? = some f ∧ T.name = x ∧ (f.ext = none → T.Is G f) ∧ ∃ fa fd, DefAt Γ T fa fd
  blt : ∀ x, G.blt.contains x = true → Γ.mg x = none
  gl : ∀ (x : Str) (d : D), G.gl.lookup x = some d → ∃ v u, Γ.mg x = some u ∧ RelV v u ∧ ∀ O H, Rep Γ O H v d
  exc : ∀ (i : Nat) (x : Str), G.excs[i]? = some x → ExcOk Γ x i
  exm : ExmOk Γ Γ.K exm
  /-- what is shown by hand -/
  ext : ∀ (i : Nat) (T : Txt) (f : Fn) (g : List Sl → CR), Ts[i]? = some T → fs[i]? = some f → f.ext = some g → ∀ fa fd, DefAt Γ T fa fd → FnOk Γ.P Γ.w Γ.K Γ.mg Γ.base (L2.CX Γ.P Γ.w) 8 fa fd T.ps (spF Γ (fun _ => g) i)
def FnsOk (Γ : Glob) (G : Prg) (F : CF) (Ts : List Txt) (k : Nat) : Prop := ∀ (i : Nat) (x : Str) (T : Txt), G.fns[i]? = some x → Ts[i]? = some T → ∀ fa fd, DefAt Γ T fa fd → FnOk Γ.P Γ.w Γ.K Γ.mg Γ.base (L2.CX Γ.P Γ.w) (2 * k) fa fd T.ps (spF Γ F i)
theorem spF_len {F : CF} {i : Nat} {vs : List V} {H : Hp} {Q : VK} {E : XK} {np : Nat} (hF : ∀ ps, F i ps ≠ .stuck → ps.length = np) (h : spF Γ F i vs H Q E) : vs.length = np := by
  obtain ⟨ps, U, r, h⟩ := h
  have hl : ps.length = vs.length := by simpa using r.len
  rw [← hl]
  refine hF ps fun z => ?_
  rw [z] at h
  exact h
theorem fns_step {Ts : List Txt} (w0 : World0 Γ G fs exm Ts) (ih : FnsOk Γ G (callF fs exm fuel k) Ts k) : FnsOk Γ G (callF fs exm fuel (k + 1)) Ts (k + 1) := by
  intro i x T hi hT fa fd hd
  obtain ⟨T', f, hT', hf, hx, hIs, _⟩ := w0.names i x hi
  rw [hT] at hT'
  cases hT'
  cases hext : f.ext with
  | some g =>
    have he : ∀ ps, callF fs exm fuel (k + 1) i ps = if 3 ≤ k then g ps else .stuck := fun ps => by
      show (match fs[i]? with | none => CR.stuck | some fn => _) = _
      rw [hf]
      show (match f.ext with | some g => _ | none => _) = _
      rw [hext]
    by_cases h3 : 3 ≤ k
    · refine FnOk.imp ((w0.ext i T f g hT hf hext fa fd hd).mono (show 8 ≤ 2 * (k + 1) by omega)) fun vs H Q E ⟨ps, U, r, h⟩ => ⟨ps, U, r, ?_⟩
      rw [he, if_pos h3] at h
      exact h
    · have no : ∀ vs H Q E, ¬ spF Γ (callF fs exm fuel (k + 1)) i vs H Q E := fun vs H Q E ⟨ps, U, r, h⟩ => by
        rw [he, if_neg h3] at h
        exact h
      exact ⟨fun vs H Q E h => (no vs H Q E h).elim, fun A outer s H args us vs Q E _ _ _ _ h => (no vs H Q E h).elim⟩
  | none =>
  replace hIs := hIs hext
  obtain ⟨oc, od, qual, kV, doc, pm, an, cdv, ct, osl, rfl, lk, hcd, htab⟩ := hd.fn
  have hcall : ∀ ps, callF fs exm fuel (k + 1) i ps = if ps.length = f.np then
        match evSs ⟨callF fs exm fuel k, fun g => (fs[g]?.map (·.lend)).getD [], fuel, f.np, exm⟩ f.body (ps.map some ++ List.replicate (f.n - f.np) none) with
        | .ok (.ret (.own _)) _ => .stuck
        | .ok (.ret a) env => .ret a (maskO f.lend env)
        | .ok .next env => .ret (.val .non) (maskO f.lend env)
        | .ok _ _ => .stuck
        | .exn x env => .exn x (maskO f.lend env)
        | .stuck => .stuck
      else .stuck := fun ps => by
    show (match fs[i]? with | none => CR.stuck | some fn => _) = _
    rw [hf]
    show (match f.ext with | some g => _ | none => _) = _
    rw [hext]
    all_goals rfl
  show FnOk _ _ _ _ _ _ (2 * k + 1 + 1) _ _ _ _
  refine fn_of lk hcd (Txt.scope_ok hIs.ok) (fun vs H Q E h => ?_) fun A outer s H vs Q E hr hsp => ?_
  · refine spF_len (np := T.ps.length) (fun ps hps => ?_) h
    rw [hcall] at hps
    split at hps
    · rename_i e; rw [e, hIs.np]
    · exact (hps rfl).elim
  · obtain ⟨ps, U, r, hsp⟩ := hsp
    rw [hcall] at hsp
    have hl : ps.length = vs.length := by simpa using r.len
    by_cases hnp : ps.length = f.np
    · rw [if_pos hnp] at hsp
      have S := Txt.scope_ok hIs.ok
      have npN : f.np ≤ T.N.length := by
        rw [hIs.np]
        have := congrArg List.length S.pre
        rw [List.length_take] at this
        omega
      have hX : XOk Γ ⟨callF fs exm fuel k, fun g => (fs[g]?.map (·.lend)).getD [], fuel, f.np, exm⟩ (T.cc G) (cxOf (L2.CX Γ.P Γ.w) Γ.P Γ.w Γ.K Γ.mg Γ.base T.N qual (defScope T.st) fa cdv A outer s H E) := {
        K := rfl, sc := rfl, N := rfl, nd := S.nd, fn := fun _ _ => rfl, calm := fun _ => rfl
        un := by
          have := hr.un
          have h2 : (T.cc G).tab.toNat ≤ 1 := Bool.toNat_le _
          show (A.deeper _).units + 65 + 11 * (T.cc G).tab.toNat < _
          omega
        tab := fun h _ => by
          obtain ⟨c, Pt, e1, e2, e3⟩ := htab h
          exact ⟨hr.mono (by omega), c, Pt, e1, e2, e3⟩
        gl := w0.gl
        fns := fun _ j y hj => by
          obtain ⟨T2, f2, g1, g2, g3, g4, fa2, fd2, g5⟩ := w0.names j y hj
          exact ⟨2 * k, ⟨⟨fa2, fd2, T2.ps, ih j y T2 hj g1 fa2 fd2 g5, by rw [← g3]; exact g5.mg, g5.kp, g5.bd⟩⟩, hr.mono (Nat.add_le_add_left (Bool.toNat_le _) _)⟩
        blt := w0.blt
        exc := fun j y hj => ⟨(w0.exc j y hj).ex⟩
        exm := w0.exm
        stk := fun _ => ⟨rfl, rfl, S.kind⟩ }
      have q : QSs Γ T.fx _ (defBody T.st) (evSs ⟨callF fs exm fuel k, fun g => (fs[g]?.map (·.lend)).getD [], fuel, f.np, exm⟩ f.body) := rows_ok (fun s s' h => soundS Γ _ G.n hX rfl s s' h) hIs.body
      refine ⟨_, q _ (fun cls d _ H => E cls d H) (takes_of rfl rfl rfl rfl) (passes_of rfl), U, ps.map some ++ List.replicate (f.n - f.np) none, ?_, ?_⟩
      · have : L2.start T.N vs = vs.map some ++ List.replicate (T.N.length - vs.length) none := rfl
        rw [this]
        exact r.start (by rw [hIs.n]; omega)
      · have h0 : L2.start T.N vs = vs.map some ++ List.replicate (T.N.length - vs.length) none := rfl
        rw [h0]
        have st0 : ∀ {W' : Addr → Prop} {H' : Hp}, Stp (Own (ps.map some ++ List.replicate (f.n - f.np) none) (vs.map some ++ List.replicate (T.N.length - vs.length) none)) H W' H' → Stp (Own (ps.map some) (vs.map some)) H W' H' := fun {W' H'} s =>
          s.mono (fun b z => (Own.start hl b).mp z) fun b z => .inl z
        have mk : ∀ {env' : Env} {σ' : St}, (∀ i ∈ T.fx, σ'[i]? = (vs.map some ++ List.replicate (T.N.length - vs.length) none)[i]?) → ∀ (i : Nat) (s : Sl), (maskO f.lend env')[i]? = some (some s) → env'[i]? = some (some s) ∧ σ'[i]? = (vs.map some)[i]? := fun {env' σ'} hfx i s e => by
          obtain ⟨e1, e2⟩ := maskO_get e
          refine ⟨e2, ?_⟩
          rw [hIs.lend, List.getElem?_map] at e1
          cases q : (List.range T.ps.length)[i]? with
          | none => rw [q] at e1; cases e1
          | some j =>
            rw [q] at e1
            have hij := List.getElem?_eq_some_iff.mp q
            obtain ⟨hlt, hj⟩ := hij
            have hij : j = i := by simpa using hj.symm
            subst hij
            have hm : T.fx.contains j = true := by simpa using e1
            rw [hfx j (by simpa using hm)]
            exact List.getElem?_append_left (by
              have : j < T.ps.length := by simpa using hlt
              rw [List.length_map, ← hl, hnp, hIs.np]
              exact this)
        have ml : (maskO f.lend (ps.map some)).length = f.lend.length := maskO_len
        have mlen : ∀ {env' : Env}, (maskO f.lend env').length = (vs.map some).length := fun {env'} => by
          rw [maskO_len, hIs.lend, List.length_map, List.length_range, List.length_map, ← hl, hnp, hIs.np]
        cases hev : evSs ⟨callF fs exm fuel k, fun g => (fs[g]?.map (·.lend)).getD [], fuel, f.np, exm⟩ f.body (ps.map some ++ List.replicate (f.n - f.np) none) with
        | stuck => rw [hev] at hsp; exact hsp.elim
        | exn x env' =>
          rw [hev] at hsp
          intro cls d σ' H' p
          refine hsp cls d H' ⟨p.re.mask mlen (mk p.fx), p.xr, (st0 p.st).shr fun b z => Own.mask (mk p.fx) b z⟩
        | ok fl env' =>
          rw [hev] at hsp
          cases fl with
          | next =>
            intro σ' H' p
            refine hsp .non H' ⟨(p.re.mask mlen (mk p.fx)).less fun b z => z.elim id fun y => y.elim, .non, (st0 p.st).shr fun b z => z.elim (fun y => Own.mask (mk p.fx) b y) fun y => y.elim⟩
          | brk => exact hsp.elim
          | cont => exact hsp.elim
          | ret a =>
            cases a with
            | own j => exact hsp.elim
            | val d =>
              intro v σ' H' p
              exact hsp v H' ⟨p.re.mask mlen (mk p.fx), Rep.less (fun b z => z.imp id (Own.mask (mk p.fx) b)) p.ra, (st0 p.st).shr fun b z => z.imp (Own.mask (mk p.fx) b) id⟩
            | tmp d =>
              intro v σ' H' p
              obtain ⟨b, e1, e2, e3⟩ := p.ra
              exact hsp v H' ⟨p.re.mask mlen (mk p.fx), ⟨b, e1, e2, Body.less (fun b z => z.imp id (Own.mask (mk p.fx) b)) e3⟩, (st0 p.st).shr fun b z => z.imp (Own.mask (mk p.fx) b) id⟩
    · rw [if_neg hnp] at hsp
      exact hsp.elim
theorem fns_ok {Ts : List Txt} (w0 : World0 Γ G fs exm Ts) : ∀ k, FnsOk Γ G (callF fs exm fuel k) Ts k
  | 0 => fun i x T hi hT fa fd hd => by
    have no : ∀ vs H Q E, ¬ spF Γ (callF fs exm fuel 0) i vs H Q E := fun vs H Q E ⟨ps, U, r, h⟩ => h
    exact ⟨fun vs H Q E h => (no vs H Q E h).elim, fun A outer s H args us vs Q E _ _ _ _ h => (no vs H Q E h).elim⟩
  | k + 1 => fns_step w0 (fns_ok w0 k)
end
end Ev
end
section
set_option maxRecDepth 100000
set_option maxHeartbeats 2000000
namespace Ev
open PySem PySem.Spec L2

def fdOf (K : PySem.W.Frag) (a : Addr) : FuncData := match K.lookup a with
  | some ⟨_, _, .func fd, _⟩ => fd
  | _ => default
def faOf (K : PySem.W.Frag) (x : Str) : Addr := match PySem.W.nsIn K mainGlobals x with
  | some (some (.ref a)) => a
  | _ => 0
def isRef : Option (Option Value) → Bool
  | some (some (.ref _)) => true
  | _ => false
def isFunc (K : PySem.W.Frag) (a : Addr) : Bool := match K.lookup a with
  | some ⟨_, _, .func _, _⟩ => true
  | _ => false
def tabOk (K : PySem.W.Frag) (x : Str) : Bool := match PySem.W.tabIn K x with
  | some (_, P) => (K.lookup P).isNone
  | none => false
theorem tabB_of {base : Heap} {mg : Str → Option Value} {c P : Addr} (h : LamX.TabB base mg c P) : GxR.TabB base mg c P := ⟨h.code, h.bm, h.gP⟩
/-- what is to be looked at of a def -/
def defB (K : PySem.W.Frag) (T : Txt) : Bool :=
  isRef (PySem.W.nsIn K mainGlobals T.name) && isFunc K (faOf K T.name) && PySem.W.codeIn K (fdOf K (faOf K T.name)).code T.name && PySem.W.keepIn K (.ref (faOf K T.name)) && (!T.tab || tabOk K T.name)
def fdEq (K : PySem.W.Frag) (T : Txt) : Prop :=
  fdOf K (faOf K T.name) = PySem.W.fnOf T.name T.name (defArgs T.st) (defBody T.st) (defScope T.st) .none (fdOf K (faOf K T.name)).kwdefaults (fdOf K (faOf K T.name)).doc (fdOf K (faOf K T.name)).pyModule (fdOf K (faOf K T.name)).annotations (fdOf K (faOf K T.name)).code (fdOf K (faOf K T.name)).closureTuple
def bindOk (T : Txt) : Prop := ∀ (kV doc pm : Value) (an : Option Addr) (cdv ct : Value) (us : List Value), us.length = T.ps.length →
  bindArgs (PySem.W.fnOf T.name T.name (defArgs T.st) (defBody T.st) (defScope T.st) .none kV doc pm an cdv ct) ⟨us, []⟩ = pure (T.ps.zip us)
structure PerDef (K : PySem.W.Frag) (G : Prg) (T : Txt) (f : Fn) : Prop where
  b : defB K T = true
  e : fdEq K T
  bind : bindOk T
  is : f.ext = none → T.Is G f
def excB (K : PySem.W.Frag) (n : Str) : Bool :=
  isRef (PySem.W.nsIn K mainGlobals n) && PySem.W.excIn K (faOf K n) [.type "ValueError", .type "Exception", .type "BaseException", .type "object"] "ValueError.__new__" && PySem.W.keepIn K (.ref (faOf K n)) &&
  (PySem.W.subIn K (.ref (faOf K n)) (.type "BaseException") == some true) && (PySem.W.typeIn K (.ref (faOf K n)) == some (.type "type"))
def glB (K : PySem.W.Frag) (p : Str × D) : Bool := match p.2, PySem.W.nsIn K mainGlobals p.1 with
  | .int i, some (some (.int j _)) => i == j
  | .str s, some (some (.str t _)) => s == t
  | _, _ => false
def exmT (t : List (List Bool)) (x c : Nat) : Option Bool := (t[x]?).bind (·[c]?)
def exmB (K : PySem.W.Frag) (G : Prg) (t : List (List Bool)) : Bool := (List.range t.length).all fun x => match t[x]? with
  | some r => (List.range r.length).all fun c => match r[c]?, G.excs[x]?, G.excs[c]? with
    | some b, some n, some m => PySem.W.exmOne K (.ref (faOf K n)) (.ref (faOf K m)) == some b
    | _, _, _ => false
  | none => false
def worldB (K : PySem.W.Frag) (G : Prg) (t : List (List Bool)) : Bool :=
  (G.blt.all fun x => PySem.W.nsIn K mainGlobals x == some none) && (G.excs.all fun x => excB K x) && (G.gl.all fun p => glB K p) && exmB K G t

section
variable {K : PySem.W.Frag} {h : Heap} {mg : Str → Option Value}
theorem fa_ns {x : Str} (e : isRef (PySem.W.nsIn K mainGlobals x) = true) : PySem.W.nsIn K mainGlobals x = some (some (.ref (faOf K x))) := by
  unfold isRef at e
  unfold faOf
  split at e
  · rename_i q
    rw [q]
  · cases e
theorem fd_look {a : Addr} (e : isFunc K a = true) : ∃ oc od osl, K.lookup a = some ⟨oc, od, .func (fdOf K a), osl⟩ := by
  unfold isFunc at e
  unfold fdOf
  split at e
  · rename_i q
    rw [q]
    exact ⟨_, _, _, rfl⟩
  · cases e
theorem tab_some {x : Str} (e : tabOk K x = true) : ∃ c P, PySem.W.tabIn K x = some (c, P) ∧ K.lookup P = none := by
  unfold tabOk at e
  split at e
  · rename_i c P q
    exact ⟨c, P, q, by simpa using e⟩
  · cases e
theorem tab_code {x : Str} {c P : Addr} (e : PySem.W.tabIn K x = some (c, P)) : (fdOf K (faOf K x)).code = .ref c := by
  unfold PySem.W.tabIn at e
  unfold faOf
  split at e
  · rename_i f hf
    rw [hf]
    dsimp only
    split at e
    · rename_i hl
      unfold fdOf
      rw [hl]
      dsimp only
      split at e
      · rename_i c2 hc
        rw [hc]
        split at e
        · split at e
          · cases e; rfl
          · cases e
        · cases e
      · cases e
    · cases e
  · cases e
theorem defAt_mk {Γ : Glob} {G : Prg} {T : Txt} {f : Fn} (hK : Γ.K.In h) (hG : h.Ns mainGlobals Γ.mg) (p : PerDef Γ.K G T f) (ht : T.tab = true → ∀ c P, PySem.W.tabIn Γ.K T.name = some (c, P) → GxR.TabB Γ.base Γ.mg c P ∧ P ∈ Γ.tabs) :
    DefAt Γ T (faOf Γ.K T.name) (fdOf Γ.K (faOf Γ.K T.name)) := by
  have hb := p.b
  unfold defB at hb
  simp only [Bool.and_eq_true] at hb
  obtain ⟨⟨⟨⟨h1, h2⟩, h3⟩, h4⟩, h5⟩ := hb
  obtain ⟨oc, od, osl, hl⟩ := fd_look h2
  refine ⟨⟨oc, od, T.name, _, _, _, _, _, _, osl, p.e, hl, h3, fun tb => ?_⟩, PySem.W.mg_of hK hG (fa_ns h1), h4, ?_⟩
  · rw [tb] at h5
    obtain ⟨c, P, e1, e2⟩ := tab_some (x := T.name) (by simpa using h5)
    obtain ⟨t1, t2⟩ := ht tb c P e1
    exact ⟨c, P, tab_code e1, t1, t2⟩
  · rw [p.e]
    exact .all (p.bind _ _ _ _ _ _)

/-- what is known of the program's things, its bodies left out -/
structure Base1 (Γ : Glob) (G : Prg) (exm : Nat → Nat → Option Bool) (Ts : List Txt) : Prop where
  defs : ∀ (i : Nat) (T : Txt), Ts[i]? = some T → ∃ fa fd, DefAt Γ T fa fd
  blt : ∀ x, G.blt.contains x = true → Γ.mg x = none
  exc : ∀ (i : Nat) (x : Str), G.excs[i]? = some x → ExcOk Γ x i
  exm : ExmOk Γ Γ.K exm
  hexc : Γ.exc = fun i => (G.excs[i]?).map (faOf Γ.K ·)
def ExtOk (K : PySem.W.Frag) (G : Prg) (Ts : List Txt) (fs : List Fn) (t : List (List Bool)) : Prop := ∀ Γ : Glob, Γ.K = K → Base1 Γ G (exmT t) Ts → ∀ (i : Nat) (T : Txt) (f : Fn) (g : List Sl → CR), Ts[i]? = some T → fs[i]? = some f → f.ext = some g → ∀ fa fd, DefAt Γ T fa fd →
  FnOk Γ.P Γ.w Γ.K Γ.mg Γ.base (L2.CX Γ.P Γ.w) 8 fa fd T.ps (spF Γ (fun _ => g) i)
/-- all that a program's proof gives -/
structure Says (K : PySem.W.Frag) (G : Prg) (Ts : List Txt) (fs : List Fn) (t : List (List Bool)) : Prop where
  per : ∀ (i : Nat) (T : Txt) (f : Fn), Ts[i]? = some T → fs[i]? = some f → PerDef K G T f
  len : Ts.length = fs.length
  names : G.fns = Ts.map (·.name)
  wb : worldB K G t = true
  ext : ExtOk K G Ts fs t
theorem world0_mk {Γ : Glob} {G : Prg} {Ts : List Txt} {fs : List Fn} {t : List (List Bool)} (hK : Γ.K.In h) (hG : h.Ns mainGlobals Γ.mg) (s : Says Γ.K G Ts fs t) (hexc : Γ.exc = fun i => (G.excs[i]?).map (faOf Γ.K ·))
    (ht : ∀ T ∈ Ts, T.tab = true → ∀ c P, PySem.W.tabIn Γ.K T.name = some (c, P) → GxR.TabB Γ.base Γ.mg c P ∧ P ∈ Γ.tabs) : World0 Γ G fs (exmT t) Ts := by
  have wb := s.wb
  unfold worldB at wb
  simp only [Bool.and_eq_true] at wb
  obtain ⟨⟨⟨w1, w2⟩, w3⟩, w4⟩ := wb
  have exOk : ∀ (i : Nat) (x : Str), G.excs[i]? = some x → excB Γ.K x = true := fun i x e => List.all_eq_true.mp w2 x (List.mem_of_getElem? e)
  have hB : Base1 Γ G (exmT t) Ts := by
    refine ⟨fun i T q => ?_, fun x e => ?_, fun i x e => ?_, fun x c b e => ?_, hexc⟩
    · have hlt : i < fs.length := by rw [← s.len]; exact (List.getElem?_eq_some_iff.mp q).1
      obtain ⟨f, hf⟩ := get_lt hlt
      exact ⟨_, _, defAt_mk hK hG (s.per i T f q hf) (ht T (List.mem_of_getElem? q))⟩
    · have hm : x ∈ G.blt := by simpa using e
      have := List.all_eq_true.mp w1 x hm
      exact PySem.W.mg_none_of hK hG (by simpa using this)
    · have q := exOk i x e
      unfold excB at q
      simp only [Bool.and_eq_true, beq_iff_eq] at q
      obtain ⟨⟨⟨⟨q1, q2⟩, q3⟩, q4⟩, q5⟩ := q
      exact ⟨faOf Γ.K x, by rw [hexc]; show (G.excs[i]?).map _ = _; rw [e]; rfl, PySem.W.mg_of hK hG (fa_ns q1), q2, q3, q4, q5⟩
    · unfold exmT at e
      cases q : t[x]? with
      | none => rw [q] at e; cases e
      | some r =>
        rw [q] at e
        have e : r[c]? = some b := e
        have hx := List.all_eq_true.mp w4 x (List.mem_range.mpr (List.getElem?_eq_some_iff.mp q).1)
        rw [q] at hx
        have hc := List.all_eq_true.mp hx c (List.mem_range.mpr (List.getElem?_eq_some_iff.mp e).1)
        rw [e] at hc
        split at hc
        · rename_i b' n m e1 e2 e3
          cases e1
          refine ⟨faOf Γ.K n, faOf Γ.K m, by rw [hexc]; show (G.excs[x]?).map _ = _; rw [e2]; rfl, by rw [hexc]; show (G.excs[c]?).map _ = _; rw [e3]; rfl, by simpa using hc⟩
        · cases hc
  refine ⟨fun i x e => ?_, hB.blt, fun x d e => ?_, hB.exc, hB.exm, s.ext Γ rfl hB⟩
  · rw [s.names, List.getElem?_map] at e
    cases q : Ts[i]? with
    | none => rw [q] at e; cases e
    | some T =>
      rw [q] at e
      cases e
      have hlt : i < fs.length := by rw [← s.len]; exact (List.getElem?_eq_some_iff.mp q).1
      obtain ⟨f, hf⟩ := get_lt hlt
      have p := s.per i T f q hf
      exact ⟨T, f, rfl, hf, rfl, p.is, _, _, defAt_mk hK hG p (ht T (List.mem_of_getElem? q))⟩
  · have hm : (x, d) ∈ G.gl := PySem.mem_of_lookup e
    have q := List.all_eq_true.mp w3 _ hm
    unfold glB at q
    dsimp only at q
    split at q
    · rename_i i j t1 z
      have hij : i = j := by simpa using q
      subst hij
      exact ⟨.int i, _, PySem.W.mg_of hK hG z, ⟨_, rfl⟩, fun O H => .int i⟩
    · rename_i s1 t1 tk z
      have hst : s1 = t1 := by simpa using q
      subst hst
      exact ⟨.str s1, _, PySem.W.mg_of hK hG z, ⟨_, rfl⟩, fun O H => .str s1⟩
    · cases q
/-- the tables of code of a program's defs -/
def csOf (K : PySem.W.Frag) (Ts : List Txt) : List (Addr × Addr) := Ts.filterMap fun T => if T.tab then PySem.W.tabIn K T.name else none
theorem csOf_mem {Ts : List Txt} {p : Addr × Addr} (h : p ∈ csOf K Ts) : ∃ T ∈ Ts, T.tab = true ∧ PySem.W.tabIn K T.name = some p := by
  obtain ⟨T, hT, e⟩ := List.mem_filterMap.mp h
  split at e
  · rename_i z; exact ⟨T, hT, z, e⟩
  · cases e
theorem mem_csOf {Ts : List Txt} {p : Addr × Addr} {T : Txt} (hT : T ∈ Ts) (ht : T.tab = true) (e : PySem.W.tabIn K T.name = some p) : p ∈ csOf K Ts :=
  List.mem_filterMap.mpr ⟨T, hT, by rw [if_pos ht]; exact e⟩
/-- the evaluator's word on the law -/
def RunOk (fs : List Fn) (t : List (List Bool)) (fuel kk li n : Nat) : Prop := ∀ (ns : List Int), ns.length ≤ n → (∀ z ∈ ns, Builtin.Int.intBits z ≤ 1048576) → ∀ d, (d = D.lst (ns.map D.int) ∨ d = D.frz (ns.map D.int)) →
  ∃ outs, callF fs (exmT t) fuel kk li [.val d] = .ret (.val (.bl true)) outs
theorem reps_ints {Γ : Glob} {O : Addr → Prop} {H : Hp} : ∀ (ns : List Int), Reps Γ O H (ns.map V.int) (ns.map D.int)
  | [] => .nil
  | n :: ns => .cons (.int n) (reps_ints ns)
theorem lawAt {l : PySem.W.OpenLaw} {w : World} {n kk fuel li : Nat} {fa : Addr} {x : Str} {G : Prg} {Ts : List Txt} {fs : List Fn} {t : List (List Bool)} {T : Txt} (hK : K.In h) (hG : h.Ns mainGlobals mg)
    (htab : ∀ T ∈ Ts, T.tab = true → ∀ c P, PySem.W.tabIn K T.name = some (c, P) → PySem.W.CodeHd h c P ∧ h.get? P = some { cls := .none, data := .fields #[] }) (s : Says K G Ts fs t)
    (hli : Ts[li]? = some T) (hps : T.ps = [x]) (hfa : mg T.name = some (.ref fa)) (run : RunOk fs t fuel kk li n) : LamX.LawAtS l w K (L2.CX l.prog w) (2 * kk) n x mg fa h := by
  have hlt : li < fs.length := by rw [← s.len]; exact (List.getElem?_eq_some_iff.mp hli).1
  obtain ⟨f, hf⟩ := get_lt hlt
  have p := s.per li T f hli hf
  have hb := p.b
  unfold defB at hb
  simp only [Bool.and_eq_true] at hb
  obtain ⟨⟨⟨⟨h1, h2⟩, h3⟩, h4⟩, h5⟩ := hb
  have efa : fa = faOf K T.name := by
    have := PySem.W.mg_of hK hG (fa_ns h1)
    rw [hfa] at this
    cases this
    rfl
  subst efa
  refine ⟨fdOf K (faOf K T.name), csOf K Ts, fun vs H Q E => ∃ (a : Addr) (ns : List Int), vs = [.ref a] ∧ ns.length ≤ n ∧ (∀ z ∈ ns, Builtin.Int.intBits z ≤ 1048576) ∧ (∀ p ∈ csOf K Ts, H p.2 = some (.tbl #[])) ∧ SqL K H a (ns.map V.int) ∧ ∀ H', Q (.bl true) H', fun p hp => ?_, fun p hp => ?_, fun p hp => ?_, fun s' u => ?_, fun H a ns q1 q2 q3 q4 => ?_, fun base hB hN hT => ?_⟩
  · obtain ⟨T, hT, ht, e⟩ := csOf_mem hp
    exact (htab T hT ht p.1 p.2 e).2
  · obtain ⟨T, hT, ht, e⟩ := csOf_mem hp
    obtain ⟨i, hi⟩ := List.mem_iff_getElem?.mp hT
    have hlt : i < fs.length := by rw [← s.len]; exact (List.getElem?_eq_some_iff.mp hi).1
    obtain ⟨f, hf⟩ := get_lt hlt
    have hb := (s.per i T f hi hf).b
    unfold defB at hb
    simp only [Bool.and_eq_true] at hb
    have h5 := hb.2
    rw [ht] at h5
    obtain ⟨c, P, e1, e2⟩ := tab_some (x := T.name) (by simpa using h5)
    rw [e] at e1
    cases e1
    exact e2
  · obtain ⟨T, hT, ht, e⟩ := csOf_mem hp
    exact (htab T hT ht p.1 p.2 e).1
  · have q : Binds K (fdOf K (faOf K T.name)) T.ps [] := by
      rw [p.e]
      exact .all (p.bind _ _ _ _ _ _)
    rw [p.e]
    refine .of_eq ?_
    have := p.bind (fdOf K (faOf K T.name)).kwdefaults (fdOf K (faOf K T.name)).doc (fdOf K (faOf K T.name)).pyModule (fdOf K (faOf K T.name)).annotations (fdOf K (faOf K T.name)).code (fdOf K (faOf K T.name)).closureTuple [u] (by rw [hps]; rfl)
    rw [hps] at this
    exact this
  · exact ⟨a, ns, rfl, q1, q2, q3, q4, fun _ => rfl⟩
  · let Γ : Glob := ⟨l.prog, w, K, mg, base, fun i => (G.excs[i]?).map (faOf K ·), (csOf K Ts).map (·.2)⟩
    have w0 : World0 Γ G fs (exmT t) Ts := world0_mk (Γ := Γ) hB hN s rfl fun T' hT' ht c P e => ⟨tabB_of (hT (c, P) (mem_csOf hT' ht e)), List.mem_map.mpr ⟨(c, P), mem_csOf hT' ht e, rfl⟩⟩
    have hfn : G.fns[li]? = some T.name := by rw [s.names, List.getElem?_map, hli]; rfl
    obtain ⟨T', f', g1, g2, g3, g4, fa2, fd2, g5⟩ := w0.names li T.name hfn
    have da : DefAt Γ T (faOf K T.name) (fdOf K (faOf K T.name)) := defAt_mk (Γ := Γ) hB hN p fun ht c P e => ⟨tabB_of (hT (c, P) (mem_csOf (List.mem_of_getElem? hli) ht e)), List.mem_map.mpr ⟨(c, P), mem_csOf (List.mem_of_getElem? hli) ht e, rfl⟩⟩
    have F := fns_ok (fuel := fuel) w0 kk li T.name T hfn hli _ _ da
    rw [hps] at F
    refine FnOk.imp F fun vs H Q E ⟨a, ns, e1, e2, e3, e4, e5, e6⟩ => ?_
    subst e1
    have mk : ∀ d, (d = D.lst (ns.map D.int) ∨ d = D.frz (ns.map D.int)) → Rep Γ (fun _ => False) H (.ref a) d → spF Γ (callF fs (exmT t) fuel kk) li [.ref a] H Q E := fun d hd r => by
      obtain ⟨outs, hrun⟩ := run ns e2 e3 d hd
      have no : ∀ b, Own ([Sl.val d].map some) ([V.ref a].map some) b → False := fun b ⟨i, d', z1, z2⟩ => by
        cases i with
        | zero => simp at z1
        | succ i => simp at z1
      refine ⟨[.val d], fun _ => False, ⟨rfl, fun i d' z => ?_, fun i d' z => ?_, fun i j b d1 d2 z1 _ _ _ => ?_, fun P hP => ?_, fun b z => z.elim⟩, ?_⟩
      · cases i with
        | zero =>
          simp at z
          subst z
          exact ⟨.ref a, rfl, r.less fun b y => y.elim id fun k => no b k⟩
        | succ i => simp at z
      · cases i with
        | zero => simp at z
        | succ i => simp at z
      · cases i with
        | zero => simp at z1
        | succ i => simp at z1
      · obtain ⟨p, hp, rfl⟩ := List.mem_map.mp hP
        exact ⟨_, e4 p hp, _, rfl, trivial⟩
      · rw [hrun]
        intro v H' pp
        have q := pp.ra
        have q : Rep Γ _ H' v (.bl true) := q
        cases q
        exact e6 H'
    rcases e5 with (e5 | ⟨o, e5⟩) | e5
    · exact mk _ (.inl rfl) (.lst e5 (fun z => z) (reps_ints ns))
    · exact mk _ (.inr rfl) (.frz (.inl ⟨o, e5⟩) (reps_ints ns))
    · exact mk _ (.inr rfl) (.frz (.inr e5) (reps_ints ns))
end

/-- the end of a law -/
theorem walk_ev {l : PySem.W.OpenLaw} {n kk fuel li : Nat} {q : Program} {loose : List Str} {XP : (Str → Option Value) → Heap → Prop} {YP : World → Heap → Prop} {d : DefRec} {K : Params → PySem.W.Frag} {G : Prg} {Ts : List Txt} {fs : List Fn} {t : List (List Bool)} {T : Txt} {x : Str}
    (hn : l.most = some n) (hn2 : n ≤ sizeLine) (hdf : d.params.defaults = []) (hr : Room (2 * kk) callerA) (hY : ∀ (w : World) (h : Heap), YP w h → (K w.params).In h)
    (hrec : (Ts.all fun T => !T.tab || ((PyProof.Rows.recsOf q).find? (fun e => e.name == T.name)).isSome) = true)
    (s : ∀ P, Says (K P) G Ts fs t) (hli : Ts[li]? = some T) (hps : T.ps = [x]) (hnm : d.name = T.name) (run : RunOk fs t fuel kk li n) :
    PySem.W.WalkO q loose XP YP l.row.toRowW d [] (fun f vs => PySem.call f vs) := by
  refine Att.attach_callB hn hdf fun w s₀ s₁ mg mb fa o pm cd doc a vs ns Gr Y ho hd hcd hmg hobj hints hlen hbits hg => ?_
  have KX := hY w _ Y
  rw [hnm] at hmg
  obtain ⟨fd, cs, sp, hT, nT, C, hb, hsp, hF⟩ := lawAt (l := l) (w := w) (fuel := fuel) KX Gr.T.g (fun T hT ht c P e => by
    have h1 := List.all_eq_true.mp hrec T hT
    rw [ht] at h1
    have h1 : ((PyProof.Rows.recsOf q).find? (fun e => e.name == T.name)).isSome = true := by simpa using h1
    obtain ⟨dd, hdd⟩ := Option.isSome_iff_exists.mp h1
    exact PySem.W.tab_of Gr.T KX hdd e) (s w.params) hli hps hmg run
  exact LamX.law_callTs KX Gr.T.g Gr.T.b Gr.T.builtins Gr.T.nolimit hg hT nT C Gr.T.bmain hobj hints (Nat.le_trans hlen hn2) hr hF hb (fun H hH hS => hsp H a ns hlen hbits hH hS) fun H e s' hc => by
    obtain ⟨_, _, _, _, _, _, _, _, _, _, _, _, z⟩ := hc
    exact z.elim
end Ev
end
section
set_option maxRecDepth 100000
/-! The evaluator as a machine whose continuations are data: for simp (no rewriting under binders). -/
namespace Ev
open PySem

/-- a value of two things in hand -/
def two (env : Env) (f : D → D → Option A) (x y : A) : Out A := match x.look env, y.look env with
  | some d, some e => match f d e with
    | some r => .ok r env
    | none => .stuck
  | _, _ => .stuck
def fBin (o : Bo) (d e : D) : Option A := (binF o d e).map BR.a
def fCmp (o : Co) (d e : D) : Option A := (cmpF o d e).map fun b => .val (.bl b)
def fIdx (d e : D) : Option A := (idxF d e).map .val
def kTwo (P : Par) (f : D → D → Option A) (b : E) (o : Out A) : Out A := o.bind fun x env => (evA P b env).bind fun y env => two env f x y
def kTwo2 (f : D → D → Option A) (x : A) (o : Out A) : Out A := o.bind fun y env => two env f x y
@[simp] theorem s_bin {P : Par} {o : Bo} {a b : E} {env : Env} : evA P (.bin o a b) env = kTwo P (fBin o) b (evA P a env) := by
  unfold kTwo
  simp only [evA]
  congr; funext x env1; congr; funext y env2
  unfold two fBin
  cases x.look env2 <;> cases y.look env2 <;> try rfl
  rename_i d e
  dsimp only
  cases binF o d e <;> rfl
@[simp] theorem s_cmp {P : Par} {o : Co} {a b : E} {env : Env} : evA P (.cmp o a b) env = kTwo P (fCmp o) b (evA P a env) := by
  unfold kTwo
  simp only [evA]
  congr; funext x env1; congr; funext y env2
  unfold two fCmp
  cases x.look env2 <;> cases y.look env2 <;> try rfl
  rename_i d e
  dsimp only
  cases cmpF o d e <;> rfl
@[simp] theorem s_idx {P : Par} {a b : E} {env : Env} : evA P (.idx a b) env = kTwo P fIdx b (evA P a env) := by
  unfold kTwo
  simp only [evA]
  congr; funext x env1; congr; funext y env2
  unfold two fIdx
  cases x.look env2 <;> cases y.look env2 <;> try rfl
  rename_i d e
  dsimp only
  cases idxF d e <;> rfl
@[simp] theorem k_two {P : Par} {f : D → D → Option A} {b : E} {x : A} {env : Env} : kTwo P f b (.ok x env) = kTwo2 f x (evA P b env) := rfl
@[simp] theorem k_two2 {f : D → D → Option A} {x y : A} {env : Env} : kTwo2 f x (.ok y env) = two env f x y := rfl
@[simp] theorem k_twox {P : Par} {f : D → D → Option A} {b : E} {x : Exn} {env : Env} : kTwo P f b (.exn x env) = .exn x env := rfl
@[simp] theorem k_two2x {f : D → D → Option A} {x : A} {y : Exn} {env : Env} : kTwo2 f x (.exn y env) = .exn y env := rfl
@[simp] theorem two_vv {f : D → D → Option A} {d e : D} {env : Env} : two env f (.val d) (.val e) = (match f d e with | some r => .ok r env | none => .stuck) := by
  rw [show two env f (.val d) (.val e) = (match f d e with | some r => .ok r env | none => .stuck) from rfl]
@[simp] theorem two_tv {f : D → D → Option A} {d e : D} {env : Env} : two env f (.tmp d) (.val e) = (match f d e with | some r => .ok r env | none => .stuck) := by
  rw [show two env f (.tmp d) (.val e) = (match f d e with | some r => .ok r env | none => .stuck) from rfl]
@[simp] theorem two_vt {f : D → D → Option A} {d e : D} {env : Env} : two env f (.val d) (.tmp e) = (match f d e with | some r => .ok r env | none => .stuck) := by
  rw [show two env f (.val d) (.tmp e) = (match f d e with | some r => .ok r env | none => .stuck) from rfl]
@[simp] theorem two_tt {f : D → D → Option A} {d e : D} {env : Env} : two env f (.tmp d) (.tmp e) = (match f d e with | some r => .ok r env | none => .stuck) := by
  rw [show two env f (.tmp d) (.tmp e) = (match f d e with | some r => .ok r env | none => .stuck) from rfl]
@[simp] theorem look_val {d : D} {env : Env} : (A.val d).look env = some d := rfl
@[simp] theorem look_tmp {d : D} {env : Env} : (A.tmp d).look env = some d := rfl
@[simp] theorem frz_val {d : D} {env : Env} : (A.val d).freeze env = .ok d env := rfl
@[simp] theorem frz_tmp {d : D} {env : Env} : (A.tmp d).freeze env = .ok d env := rfl
@[simp] theorem two_ov {f : D → D → Option A} {i : Nat} {e : D} {env : Env} : two env f (.own i) (.val e) = (match (A.own i).look env with | some d => (match f d e with | some r => .ok r env | none => .stuck) | none => .stuck) := by
  unfold two; rw [look_val]; cases (A.own i).look env <;> rfl
/-- a name -/
def sVar (i : Nat) (o : Option (Option Sl)) (env : Env) : Out A := match o with
  | some (some (.val d)) => .ok (.val d) env
  | some (some (.own _)) => .ok (.own i) env
  | _ => .stuck
@[simp] theorem s_var {P : Par} {i : Nat} {env : Env} : evA P (.var i) env = sVar i env[i]? env := by
  simp only [evA]; rfl
@[simp] theorem s_cst {P : Par} {d : D} {env : Env} : evA P (.cst d) env = .ok (.val d) env := by simp only [evA]
@[simp] theorem v_val {i : Nat} {d : D} {env : Env} : sVar i (some (some (.val d))) env = .ok (.val d) env := rfl
@[simp] theorem v_own {i : Nat} {d : D} {env : Env} : sVar i (some (some (.own d))) env = .ok (.own i) env := rfl
/-- neg -/
def kNeg (o : Out A) : Out A := o.bind fun x env => match x with
  | .val (.int i) => .ok (.val (.int (-i))) env
  | _ => .stuck
@[simp] theorem s_neg {P : Par} {a : E} {env : Env} : evA P (.neg a) env = kNeg (evA P a env) := by simp only [evA]; rfl
@[simp] theorem k_neg {i : Int} {env : Env} : kNeg (.ok (.val (.int i)) env) = .ok (.val (.int (-i))) env := rfl
/-- a truth of what is in hand -/
def tru1 (x : A) (env : Env) : Out Bool := match (x.look env).bind D.truth with
  | some b => .ok b env
  | none => .stuck
@[simp] theorem t_bl {b : Bool} {env : Env} : tru1 (.val (.bl b)) env = .ok b env := rfl
@[simp] theorem t_int {i : Int} {env : Env} : tru1 (.val (.int i)) env = .ok (i != 0) env := rfl
@[simp] theorem t_non {env : Env} : tru1 (.val .non) env = .ok false env := rfl
@[simp] theorem t_tup {xs : List D} {env : Env} : tru1 (.val (.tup xs)) env = .ok (!xs.isEmpty) env := rfl
@[simp] theorem t_lst {xs : List D} {env : Env} : tru1 (.val (.lst xs)) env = .ok (!xs.isEmpty) env := rfl
def kTru (o : Out A) : Out Bool := o.bind tru1
@[simp] theorem k_tru {x : A} {env : Env} : kTru (.ok x env) = tru1 x env := rfl
@[simp] theorem k_trux {x : Exn} {env : Env} : kTru (.exn x env) = .exn x env := rfl
@[simp] def isT : E → Bool
  | .nt _ | .an _ _ | .or _ _ | .ite _ _ _ => false
  | _ => true
theorem s_tru {P : Par} {e : E} {env : Env} (h : isT e = true) : evT P e env = kTru (evA P e env) := by
  cases e <;> first | (cases h; done) | (simp only [evT, kTru]; rfl)
@[simp] theorem t_var {P : Par} {env : Env} {i : Nat} : evT P (.var i) env = kTru (evA P (.var i) env) := s_tru rfl
@[simp] theorem t_cst {P : Par} {env : Env} {d : D} : evT P (.cst d) env = kTru (evA P (.cst d) env) := s_tru rfl
@[simp] theorem t_neg {P : Par} {env : Env} {a : E} : evT P (.neg a) env = kTru (evA P (.neg a) env) := s_tru rfl
@[simp] theorem t_bin {P : Par} {env : Env} {o : Bo} {a b : E} : evT P (.bin o a b) env = kTru (evA P (.bin o a b) env) := s_tru rfl
@[simp] theorem t_cmp {P : Par} {env : Env} {o : Co} {a b : E} : evT P (.cmp o a b) env = kTru (evA P (.cmp o a b) env) := s_tru rfl
@[simp] theorem t_chain {P : Par} {env : Env} {o p : Co} {a b c : E} : evT P (.chain o p a b c) env = kTru (evA P (.chain o p a b c) env) := s_tru rfl
@[simp] theorem t_call {P : Par} {env : Env} {f : Nat} {es : Es} : evT P (.call f es) env = kTru (evA P (.call f es) env) := s_tru rfl
@[simp] theorem t_bi {P : Par} {env : Env} {f : Bi} {es : Es} : evT P (.bi f es) env = kTru (evA P (.bi f es) env) := s_tru rfl
@[simp] theorem t_idx {P : Par} {env : Env} {a b : E} : evT P (.idx a b) env = kTru (evA P (.idx a b) env) := s_tru rfl
@[simp] theorem t_slc {P : Par} {env : Env} {a : E} {l h : Es} : evT P (.slc a l h) env = kTru (evA P (.slc a l h) env) := s_tru rfl
@[simp] theorem t_gx {P : Par} {env : Env} {q : Bool} {el : E} {t : Tg} {it : It} {c : Es} {ws : List Nat} : evT P (.gx q el t it c ws) env = kTru (evA P (.gx q el t it c ws) env) := s_tru rfl
@[simp] theorem t_lc {P : Par} {env : Env} {el : E} {t : Tg} {it : It} {c : Es} {ws : List Nat} : evT P (.lc el t it c ws) env = kTru (evA P (.lc el t it c ws) env) := s_tru rfl
@[simp] theorem t_mut {P : Par} {env : Env} {m : Mm} {i : Nat} {es : Es} : evT P (.mut m i es) env = kTru (evA P (.mut m i es) env) := s_tru rfl
@[simp] theorem te_tup {P : Par} {env : Env} {es : Es} : evT P (.tup es) env = kTru (evA P (.tup es) env) := s_tru rfl
@[simp] theorem te_lst {P : Par} {env : Env} {es : Es} : evT P (.lst es) env = kTru (evA P (.lst es) env) := s_tru rfl
@[simp] theorem t_sm {P : Par} {env : Env} {m : Sm} {a : E} {es : Es} : evT P (.sm m a es) env = kTru (evA P (.sm m a es) env) := s_tru rfl
/-- not -/
def kNt (o : Out Bool) : Out A := o.bind fun b env => .ok (.val (.bl (!b))) env
@[simp] theorem s_nt {P : Par} {a : E} {env : Env} : evA P (.nt a) env = kNt (kTru (evA P a env)) := by
  simp only [evA]
  unfold kNt kTru
  cases evA P a env with
  | ok x e =>
    simp only [Out.bind_ok]
    unfold tru1
    cases (x.look e).bind D.truth <;> rfl
  | exn x e => rfl
  | stuck => rfl
@[simp] theorem k_nt {b : Bool} {env : Env} : kNt (.ok b env) = .ok (.val (.bl (!b))) env := rfl
def kNtT (o : Out Bool) : Out Bool := o.bind fun b env => .ok (!b) env
@[simp] theorem t_nt {P : Par} {a : E} {env : Env} : evT P (.nt a) env = kNtT (evT P a env) := by simp only [evT]; rfl
@[simp] theorem k_ntt {b : Bool} {env : Env} : kNtT (.ok b env) = .ok (!b) env := rfl
@[simp] theorem k_nttx {x : Exn} {env : Env} : kNtT (.exn x env) = .exn x env := rfl
/-- and, or as tests -/
def kAnT (P : Par) (b : E) (o : Out Bool) : Out Bool := o.bind fun k env => if k then evT P b env else .ok false env
def kOrT (P : Par) (b : E) (o : Out Bool) : Out Bool := o.bind fun k env => if k then .ok true env else evT P b env
@[simp] theorem t_an {P : Par} {a b : E} {env : Env} : evT P (.an a b) env = kAnT P b (evT P a env) := by simp only [evT]; rfl
@[simp] theorem t_or {P : Par} {a b : E} {env : Env} : evT P (.or a b) env = kOrT P b (evT P a env) := by simp only [evT]; rfl
@[simp] theorem k_ant1 {P : Par} {b : E} {env : Env} : kAnT P b (.ok true env) = evT P b env := rfl
@[simp] theorem k_ant0 {P : Par} {b : E} {env : Env} : kAnT P b (.ok false env) = .ok false env := rfl
@[simp] theorem k_ort1 {P : Par} {b : E} {env : Env} : kOrT P b (.ok true env) = .ok true env := rfl
@[simp] theorem k_ort0 {P : Par} {b : E} {env : Env} : kOrT P b (.ok false env) = evT P b env := rfl
@[simp] theorem k_antc {P : Par} {b : E} {env : Env} {c : Bool} : kAnT P b (.ok c env) = if c then evT P b env else .ok false env := rfl
@[simp] theorem k_ortc {P : Par} {b : E} {env : Env} {c : Bool} : kOrT P b (.ok c env) = if c then .ok true env else evT P b env := rfl
/-- and, or as values -/
def kAn (P : Par) (b : E) (o : Out A) : Out A := o.bind fun x env => (tru1 x env).bind fun k env => if k then evA P b env else .ok x env
def kOr (P : Par) (b : E) (o : Out A) : Out A := o.bind fun x env => (tru1 x env).bind fun k env => if k then .ok x env else evA P b env
@[simp] theorem s_an {P : Par} {a b : E} {env : Env} : evA P (.an a b) env = kAn P b (evA P a env) := by
  simp only [evA]; unfold kAn
  congr; funext x e
  unfold tru1
  cases (x.look e).bind D.truth with
  | none => rfl
  | some c => cases c <;> rfl
@[simp] theorem s_or {P : Par} {a b : E} {env : Env} : evA P (.or a b) env = kOr P b (evA P a env) := by
  simp only [evA]; unfold kOr
  congr; funext x e
  unfold tru1
  cases (x.look e).bind D.truth with
  | none => rfl
  | some c => cases c <;> rfl
@[simp] theorem k_anb {P : Par} {b : E} {env : Env} {c : Bool} : kAn P b (.ok (.val (.bl c)) env) = if c then evA P b env else .ok (.val (.bl false)) env := by cases c <;> rfl
@[simp] theorem k_orb {P : Par} {b : E} {env : Env} {c : Bool} : kOr P b (.ok (.val (.bl c)) env) = if c then .ok (.val (.bl true)) env else evA P b env := by cases c <;> rfl
/-- if-else -/
def kIte (P : Par) (a b : E) (o : Out Bool) : Out A := o.bind fun k env => if k then evA P a env else evA P b env
@[simp] theorem s_ite {P : Par} {c a b : E} {env : Env} : evA P (.ite c a b) env = kIte P a b (evT P c env) := by simp only [evA]; rfl
@[simp] theorem k_ite {P : Par} {a b : E} {k : Bool} {env : Env} : kIte P a b (.ok k env) = if k then evA P a env else evA P b env := rfl
/-- rows of expressions -/
def kCons (P : Par) (es : Es) (o : Out A) : Out (List A) := o.bind fun a env => (evAs P es env).bind fun as env => .ok (a :: as) env
def kCons2 (a : A) (o : Out (List A)) : Out (List A) := o.bind fun as env => .ok (a :: as) env
@[simp] theorem s_nil {P : Par} {env : Env} : evAs P .nil env = .ok [] env := by simp only [evAs]
@[simp] theorem s_cons {P : Par} {e : E} {es : Es} {env : Env} : evAs P (.cons e es) env = kCons P es (evA P e env) := by simp only [evAs]; rfl
@[simp] theorem k_cons {P : Par} {es : Es} {a : A} {env : Env} : kCons P es (.ok a env) = kCons2 a (evAs P es env) := rfl
@[simp] theorem k_cons2 {a : A} {as : List A} {env : Env} : kCons2 a (.ok as env) = .ok (a :: as) env := rfl
def kV (P : Par) (es : Es) (o : Out A) : Out (List D) := o.bind fun a env => (a.freeze env).bind fun d env => (evVs P es env).bind fun ds env => .ok (d :: ds) env
def kV1 (P : Par) (es : Es) (o : Out D) : Out (List D) := o.bind fun d env => (evVs P es env).bind fun ds env => .ok (d :: ds) env
def kV2 (d : D) (o : Out (List D)) : Out (List D) := o.bind fun ds env => .ok (d :: ds) env
@[simp] theorem s_vnil {P : Par} {env : Env} : evVs P .nil env = .ok [] env := by simp only [evVs]
@[simp] theorem s_vcons {P : Par} {e : E} {es : Es} {env : Env} : evVs P (.cons e es) env = kV P es (evA P e env) := by simp only [evVs]; rfl
@[simp] theorem k_v {P : Par} {es : Es} {a : A} {env : Env} : kV P es (.ok a env) = kV1 P es (a.freeze env) := rfl
@[simp] theorem k_v1 {P : Par} {es : Es} {d : D} {env : Env} : kV1 P es (.ok d env) = kV2 d (evVs P es env) := rfl
@[simp] theorem k_v2 {d : D} {ds : List D} {env : Env} : kV2 d (.ok ds env) = .ok (d :: ds) env := rfl
def kTup (o : Out (List D)) : Out A := o.bind fun ds env => if ds.length ≤ sizeLine then .ok (.val (.tup ds)) env else .stuck
def kLst (o : Out (List D)) : Out A := o.bind fun ds env => if ds.length ≤ sizeLine then .ok (.tmp (.lst ds)) env else .stuck
@[simp] theorem s_tup {P : Par} {es : Es} {env : Env} : evA P (.tup es) env = kTup (evVs P es env) := by simp only [evA]; rfl
@[simp] theorem s_lst {P : Par} {es : Es} {env : Env} : evA P (.lst es) env = kLst (evVs P es env) := by simp only [evA]; rfl
theorem sz0 {α : Type} : ([] : List α).length ≤ sizeLine := Nat.zero_le _
@[simp] theorem k_tup0 {env : Env} : kTup (.ok [] env) = .ok (.val (.tup [])) env := rfl
@[simp] theorem k_lst0 {env : Env} : kLst (.ok [] env) = .ok (.tmp (.lst [])) env := rfl
@[simp] theorem k_tup {ds : List D} {env : Env} (h : ds.length ≤ 100) : kTup (.ok ds env) = .ok (.val (.tup ds)) env := by
  unfold kTup
  rw [Out.bind_ok, if_pos (Nat.le_trans h (by decide))]
@[simp] theorem k_lst {ds : List D} {env : Env} (h : ds.length ≤ 100) : kLst (.ok ds env) = .ok (.tmp (.lst ds)) env := by
  unfold kLst
  rw [Out.bind_ok, if_pos (Nat.le_trans h (by decide))]
/-- built-in functions -/
def kBi (f : Bi) (o : Out (List A)) : Out A := o.bind fun as env => match lookAll as env with
  | some ds => match biF f ds with
    | some r => .ok r.a env
    | none => .stuck
  | none => .stuck
@[simp] theorem s_bi {P : Par} {f : Bi} {es : Es} {env : Env} : evA P (.bi f es) env = kBi f (evAs P es env) := by simp only [evA]; rfl
def kBi2 (f : Bi) (env : Env) (o : Option (List D)) : Out A := match o with
  | some ds => match biF f ds with
    | some r => .ok r.a env
    | none => .stuck
  | none => .stuck
def kBi3 (env : Env) (o : Option BR) : Out A := match o with
  | some r => .ok r.a env
  | none => .stuck
@[simp] theorem k_bi {f : Bi} {as : List A} {env : Env} : kBi f (.ok as env) = kBi2 f env (lookAll as env) := rfl
@[simp] theorem k_bi2 {f : Bi} {ds : List D} {env : Env} : kBi2 f env (some ds) = kBi3 env (biF f ds) := rfl
@[simp] theorem k_bi3 {r : BR} {env : Env} : kBi3 env (some r) = .ok r.a env := rfl
@[simp] theorem la_nil {env : Env} : lookAll [] env = some [] := rfl
@[simp] theorem la_val {d : D} {as : List A} {env : Env} : lookAll (.val d :: as) env = (lookAll as env).map (d :: ·) := by
  show (match (A.val d).look env, lookAll as env with | some d, some ds => some (d :: ds) | _, _ => none) = _
  rw [look_val]; cases lookAll as env <;> rfl
@[simp] theorem la_tmp {d : D} {as : List A} {env : Env} : lookAll (.tmp d :: as) env = (lookAll as env).map (d :: ·) := by
  show (match (A.tmp d).look env, lookAll as env with | some d, some ds => some (d :: ds) | _, _ => none) = _
  rw [look_tmp]; cases lookAll as env <;> rfl
@[simp] theorem la_own {i : Nat} {as : List A} {env : Env} : lookAll (.own i :: as) env = ((A.own i).look env).bind fun d => (lookAll as env).map (d :: ·) := by
  show (match (A.own i).look env, lookAll as env with | some d, some ds => some (d :: ds) | _, _ => none) = _
  cases (A.own i).look env <;> cases lookAll as env <;> rfl
/-- calls -/
def kCall (P : Par) (f : Nat) (o : Out (List A)) : Out A := o.bind fun as env => callM P.F f (P.lend f) as env
@[simp] theorem s_call {P : Par} {f : Nat} {es : Es} {env : Env} : evA P (.call f es) env = kCall P f (evAs P es env) := by simp only [evA]; rfl
@[simp] theorem k_call {P : Par} {f : Nat} {as : List A} {env : Env} : kCall P f (.ok as env) = callM P.F f (P.lend f) as env := rfl
/-! statements -/
def kSeq (P : Par) (r : Ss) (o : Out Fl) : Out Fl := match o with
  | .ok .next env => evSs P r env
  | o => o
@[simp] theorem s_snil {P : Par} {env : Env} : evSs P .nil env = .ok .next env := by simp only [evSs]
@[simp] theorem s_scons {P : Par} {s : S} {r : Ss} {env : Env} : evSs P (.cons s r) env = kSeq P r (evS P s env) := by simp only [evSs]; rfl
@[simp] theorem k_seq {P : Par} {r : Ss} {env : Env} : kSeq P r (.ok .next env) = evSs P r env := rfl
@[simp] theorem k_seqr {P : Par} {r : Ss} {a : A} {env : Env} : kSeq P r (.ok (.ret a) env) = .ok (.ret a) env := rfl
@[simp] theorem k_seqb {P : Par} {r : Ss} {env : Env} : kSeq P r (.ok .brk env) = .ok .brk env := rfl
@[simp] theorem k_seqc {P : Par} {r : Ss} {env : Env} : kSeq P r (.ok .cont env) = .ok .cont env := rfl
@[simp] theorem k_seqx {P : Par} {r : Ss} {x : Exn} {env : Env} : kSeq P r (.exn x env) = .exn x env := rfl
def kIff (P : Par) (a b : Ss) (o : Out Bool) : Out Fl := o.bind fun k env => if k then evSs P a env else evSs P b env
@[simp] theorem s_iff {P : Par} {c : E} {a b : Ss} {env : Env} : evS P (.iff c a b) env = kIff P a b (evT P c env) := by simp only [evS]; rfl
@[simp] theorem k_iff1 {P : Par} {a b : Ss} {env : Env} : kIff P a b (.ok true env) = evSs P a env := rfl
@[simp] theorem k_iff0 {P : Par} {a b : Ss} {env : Env} : kIff P a b (.ok false env) = evSs P b env := rfl
def kRet (P : Par) (o : Out A) : Out Fl := o.bind fun a env => match a with
    | .own i => if i < P.np then (a.freeze env).bind fun d env => .ok (.ret (.val d)) env else match env[i]? with
      | some (some (.own d)) => .ok (.ret (.tmp d)) (env.set i none)
      | _ => .stuck
    | a => .ok (.ret a) env
@[simp] theorem s_ret {P : Par} {e : E} {env : Env} : evS P (.ret e) env = kRet P (evA P e env) := by simp only [evS]; rfl
@[simp] theorem k_retv {P : Par} {d : D} {env : Env} : kRet P (.ok (.val d) env) = .ok (.ret (.val d)) env := rfl
@[simp] theorem k_rett {P : Par} {d : D} {env : Env} : kRet P (.ok (.tmp d) env) = .ok (.ret (.tmp d)) env := rfl
@[simp] theorem k_retx {P : Par} {x : Exn} {env : Env} : kRet P (.exn x env) = .exn x env := rfl
@[simp] theorem s_retN {P : Par} {env : Env} : evS P .retN env = .ok (.ret (.val .non)) env := by simp only [evS]
def kExpr (o : Out A) : Out Fl := o.bind fun _ env => .ok .next env
@[simp] theorem s_expr {P : Par} {e : E} {env : Env} : evS P (.expr e) env = kExpr (evA P e env) := by simp only [evS]; rfl
@[simp] theorem k_expr {a : A} {env : Env} : kExpr (.ok a env) = .ok .next env := rfl
/-- stores -/
def kAsg (t : Tg) (o : Out A) : Out Fl := o.bind fun a env => match t, a with
    | .nm i, .tmp d => if i < env.length then .ok .next (env.set i (some (.own d))) else .stuck
    | t, a => (a.freeze env).bind fun d env => match bindT t d env with
      | some env => .ok .next env
      | none => .stuck
@[simp] theorem s_asg {P : Par} {t : Tg} {e : E} {env : Env} : evS P (.asg t e) env = kAsg t (evA P e env) := by simp only [evS]; rfl
@[simp] theorem k_asgt {i : Nat} {d : D} {env : Env} : kAsg (.nm i) (.ok (.tmp d) env) = if i < env.length then .ok .next (env.set i (some (.own d))) else .stuck := rfl
@[simp] theorem k_asgv {i : Nat} {d : D} {env : Env} : kAsg (.nm i) (.ok (.val d) env) = if i < env.length then .ok .next (env.set i (some (.val d))) else .stuck := by
  show (match (if i < env.length then some (env.set i (some (.val d))) else none) with | some env => Out.ok Fl.next env | none => .stuck) = _
  split <;> (rename_i h; split at h <;> simp_all)
@[simp] theorem k_asgx {t : Tg} {x : Exn} {env : Env} : kAsg t (.exn x env) = .exn x env := rfl
@[simp] theorem k_asgp {ts : Tg} {ds : List D} {env : Env} : kAsg (.tp ts) (.ok (.val (.tup ds)) env) = (match bindT.bindTs ts ds env with | some env => .ok .next env | none => .stuck) := rfl
@[simp] theorem s_brk {P : Par} {env : Env} : evS P .brk env = .ok .brk env := by simp only [evS]
@[simp] theorem s_cont {P : Par} {env : Env} : evS P .cont env = .ok .cont env := by simp only [evS]
@[simp] theorem s_pass {P : Par} {env : Env} : evS P .pass env = .ok .next env := by simp only [evS]
/-! ### tests that come together -/
@[simp] theorem i_and {p : Prop} [Decidable p] {d : Bool} {env : Env} : (if p then Out.ok (A.val (.bl d)) env else Out.ok (A.val (.bl false)) env) = Out.ok (A.val (.bl (decide p && d))) env := by
  by_cases h : p <;> simp [h]
@[simp] theorem i_or {p : Prop} [Decidable p] {d : Bool} {env : Env} : (if p then Out.ok (A.val (.bl true)) env else Out.ok (A.val (.bl d)) env) = Out.ok (A.val (.bl (decide p || d))) env := by
  by_cases h : p <;> simp [h]
@[simp] theorem i_andT {p : Prop} [Decidable p] {d : Bool} {env : Env} : (if p then Out.ok d env else Out.ok false env) = Out.ok (decide p && d) env := by
  by_cases h : p <;> simp [h]
@[simp] theorem i_orT {p : Prop} [Decidable p] {d : Bool} {env : Env} : (if p then Out.ok true env else Out.ok d env) = Out.ok (decide p || d) env := by
  by_cases h : p <;> simp [h]
/-! ### x[i] = v on an owned list -/
def kSetI (P : Par) (i : Nat) (ix : E) (o : Out A) : Out Fl := o.bind fun a env => (a.freeze env).bind fun d env => (evA P ix env).bind fun y env => match y.look env, env[i]? with
      | some x, some (some (.own o)) => match setF o x d with
        | some o' => .ok .next (env.set i (some (.own o')))
        | none => .stuck
      | _, _ => .stuck
def kSetI1 (P : Par) (i : Nat) (ix : E) (o : Out D) : Out Fl := o.bind fun d env => (evA P ix env).bind fun y env => match y.look env, env[i]? with
      | some x, some (some (.own o)) => match setF o x d with
        | some o' => .ok .next (env.set i (some (.own o')))
        | none => .stuck
      | _, _ => .stuck
def kSetI2 (i : Nat) (d : D) (o : Out A) : Out Fl := o.bind fun y env => match y.look env, env[i]? with
      | some x, some (some (.own o)) => match setF o x d with
        | some o' => .ok .next (env.set i (some (.own o')))
        | none => .stuck
      | _, _ => .stuck
def kSetI3 (i : Nat) (d x : D) (env : Env) (s : Option (Option Sl)) : Out Fl := match s with
  | some (some (.own o)) => match setF o x d with
    | some o' => .ok .next (env.set i (some (.own o')))
    | none => .stuck
  | _ => .stuck
def sSet (P : Par) (i : Nat) (ix e : E) (env : Env) (s : Option (Option Sl)) : Out Fl := match s with
  | some (some (.own _)) => kSetI P i ix (evA P e env)
  | _ => .stuck
@[simp] theorem s_setI {P : Par} {i : Nat} {ix e : E} {env : Env} : evS P (.setI i ix e) env = sSet P i ix e env env[i]? := by
  simp only [evS]
  unfold sSet
  cases h : env[i]? with
  | none => rfl
  | some s =>
    cases s with
    | none => rfl
    | some sl => cases sl <;> rfl
@[simp] theorem k_set {P : Par} {i : Nat} {ix e : E} {env : Env} {d : D} : sSet P i ix e env (some (some (.own d))) = kSetI P i ix (evA P e env) := rfl
@[simp] theorem k_seti {P : Par} {i : Nat} {ix : E} {a : A} {env : Env} : kSetI P i ix (.ok a env) = kSetI1 P i ix (a.freeze env) := rfl
@[simp] theorem k_seti1 {P : Par} {i : Nat} {ix : E} {d : D} {env : Env} : kSetI1 P i ix (.ok d env) = kSetI2 i d (evA P ix env) := rfl
@[simp] theorem k_seti2 {i : Nat} {d x : D} {env : Env} : kSetI2 i d (.ok (.val x) env) = kSetI3 i d x env env[i]? := by
  unfold kSetI2 kSetI3
  rw [Out.bind_ok, look_val]
  cases h : env[i]? with
  | none => rfl
  | some s =>
    cases s with
    | none => rfl
    | some sl => cases sl <;> rfl
@[simp] theorem k_seti3 {i : Nat} {d x o : D} {env : Env} : kSetI3 i d x env (some (some (.own o))) = (match setF o x d with | some o' => .ok .next (env.set i (some (.own o'))) | none => .stuck) := rfl
theorem look_own {i : Nat} {env : Env} {s : Sl} (h : env[i]? = some (some s)) : (A.own i).look env = some s.d := by
  show (match env[i]? with | some (some s) => some s.d | _ => none) = _
  rw [h]
/-! ### subscripts by literals -/
theorem ixN_lit {n i : Nat} (h : i < n) : L2.ixN n (i : Int) = some i := by
  unfold L2.ixN
  rw [if_pos (by omega), if_pos (by omega), Int.toNat_natCast]
theorem atI_lit {α : Type} {xs : List α} {i : Nat} {x : α} (h : xs[i]? = some x) : L2.atI xs (i : Int) = some x := by
  unfold L2.atI
  rw [ixN_lit (List.getElem?_eq_some_iff.mp h).1]
  exact h
@[simp] theorem at0 {α : Type} {x : α} {xs : List α} : L2.atI (x :: xs) 0 = some x := atI_lit (i := 0) rfl
@[simp] theorem at1 {α : Type} {x y : α} {xs : List α} : L2.atI (x :: y :: xs) 1 = some y := atI_lit (i := 1) rfl
@[simp] theorem at2 {α : Type} {x y z : α} {xs : List α} : L2.atI (x :: y :: z :: xs) 2 = some z := atI_lit (i := 2) rfl
@[simp] theorem at3 {α : Type} {x y z w : α} {xs : List α} : L2.atI (x :: y :: z :: w :: xs) 3 = some w := atI_lit (i := 3) rfl
theorem set_lit {xs : List D} {i : Nat} {v : D} (h : i < xs.length) : setF (.lst xs) (.int (i : Int)) v = some (.lst (xs.set i v)) := by
  show (L2.ixN xs.length (i : Int)).map (fun k => D.lst (xs.set k v)) = _
  rw [ixN_lit h]; rfl
@[simp] theorem set0 {x v : D} {xs : List D} : setF (.lst (x :: xs)) (.int 0) v = some (.lst (v :: xs)) := set_lit (i := 0) (xs := x :: xs) (by simp)
@[simp] theorem set1 {x y v : D} {xs : List D} : setF (.lst (x :: y :: xs)) (.int 1) v = some (.lst (x :: v :: xs)) := set_lit (i := 1) (xs := x :: y :: xs) (by simp)
@[simp] theorem set3 {x y z w v : D} {xs : List D} : setF (.lst (x :: y :: z :: w :: xs)) (.int 3) v = some (.lst (x :: y :: z :: v :: xs)) := set_lit (i := 3) (xs := x :: y :: z :: w :: xs) (by simp)
/-! ### a def's run -/
def exmTab (t : List (List Bool)) (x c : Nat) : Option Bool := (t[x]?).bind (·[c]?)
def mkP (fs : List Fn) (exm : Nat → Nat → Option Bool) (fuel k np : Nat) : Par := ⟨callF fs exm fuel k, fun g => (fs[g]?.map (·.lend)).getD [], fuel, np, exm⟩
def endF (lend : List Bool) (o : Out Fl) : CR := match o with
  | .ok (.ret (.own _)) _ => .stuck
  | .ok (.ret a) env => .ret a (maskO lend env)
  | .ok .next env => .ret (.val .non) (maskO lend env)
  | .ok _ _ => .stuck
  | .exn x env => .exn x (maskO lend env)
  | .stuck => .stuck
@[simp] theorem e_val {ls : List Bool} {d : D} {env : Env} : endF ls (.ok (.ret (.val d)) env) = .ret (.val d) (maskO ls env) := rfl
@[simp] theorem e_tmp {ls : List Bool} {d : D} {env : Env} : endF ls (.ok (.ret (.tmp d)) env) = .ret (.tmp d) (maskO ls env) := rfl
@[simp] theorem e_next {ls : List Bool} {env : Env} : endF ls (.ok .next env) = .ret (.val .non) (maskO ls env) := rfl
@[simp] theorem e_exn {ls : List Bool} {x : Exn} {env : Env} : endF ls (.exn x env) = .exn x (maskO ls env) := rfl
theorem callF_at {fs : List Fn} {exm : Nat → Nat → Option Bool} {fuel k j : Nat} {ps : List Sl} {fn : Fn} (hf : fs[j]? = some fn) (hp : ps.length = fn.np) (he : fn.ext = none) :
    callF fs exm fuel (k + 1) j ps = endF fn.lend (evSs (mkP fs exm fuel k fn.np) fn.body (ps.map some ++ List.replicate (fn.n - fn.np) none)) := by
  show (match fs[j]? with | none => CR.stuck | some fn => _) = _
  rw [hf]
  dsimp only
  rw [he]
  dsimp only
  rw [if_pos hp]
  rfl
@[simp] theorem mk_F {fs : List Fn} {exm : Nat → Nat → Option Bool} {fuel k np : Nat} : (mkP fs exm fuel k np).F = callF fs exm fuel k := rfl
@[simp] theorem mk_np {fs : List Fn} {exm : Nat → Nat → Option Bool} {fuel k np : Nat} : (mkP fs exm fuel k np).np = np := rfl
@[simp] theorem mk_fuel {fs : List Fn} {exm : Nat → Nat → Option Bool} {fuel k np : Nat} : (mkP fs exm fuel k np).fuel = fuel := rfl
@[simp] theorem mk_exm {fs : List Fn} {exm : Nat → Nat → Option Bool} {fuel k np : Nat} : (mkP fs exm fuel k np).exm = exm := rfl
theorem mk_lend {fs : List Fn} {exm : Nat → Nat → Option Bool} {fuel k np g : Nat} {fn : Fn} (h : fs[g]? = some fn) : (mkP fs exm fuel k np).lend g = fn.lend := by
  show ((fs[g]?.map (·.lend)).getD []) = _
  rw [h]; rfl
@[simp] theorem m_nil {env : Env} : maskO [] env = [] := by cases env <;> rfl
@[simp] theorem m_true {ls : List Bool} {s : Option Sl} {env : Env} : maskO (true :: ls) (s :: env) = s :: maskO ls env := rfl
@[simp] theorem m_false {ls : List Bool} {s : Option Sl} {env : Env} : maskO (false :: ls) (s :: env) = none :: maskO ls env := rfl
/-! a call of known values -/
def kFrz (as : List A) (o : Out (List A)) : Out (List A) := o
/-- all that is handed over are values that stay -/
def vals : List A → Option (List Sl)
  | [] => some []
  | .val d :: as => (vals as).map (Sl.val d :: ·)
  | .tmp d :: as => (vals as).map (Sl.val d :: ·)
  | .own _ :: _ => none
def lentV : List A → List Bool → Option (List Sl)
  | [], _ => some []
  | .val d :: as, _ :: ls => (lentV as ls).map (Sl.val d :: ·)
  | .val d :: as, [] => (lentV as []).map (Sl.val d :: ·)
  | .tmp d :: as, true :: ls => (lentV as ls).map (Sl.own d :: ·)
  | .tmp d :: as, _ => (vals as).map (Sl.val d :: ·)
  | .own _ :: _, _ => none
end Ev
end
section
set_option maxRecDepth 100000
/-! the machine, its other half: slices, changes, loops, comprehensions, exceptions -/
namespace Ev
open PySem

/-- a slice -/
def cutA (env : Env) (i j : Option Int) : Option D → Out A
  | some (.lst xs) => .ok (.tmp (.lst (cutD xs i j))) env
  | some (.tup xs) => .ok (.val (.tup (cutD xs i j))) env
  | some (.str s) => if s.length ≤ sizeLine then .ok (.val (.str (L2.cutS s i j))) env else .stuck
  | _ => .stuck
def kSlc (P : Par) (lo hi : Es) (o : Out A) : Out A := o.bind fun x env => (evO P lo env).bind fun i env => (evO P hi env).bind fun j env => cutA env i j (x.look env)
def kSlc2 (P : Par) (hi : Es) (x : A) (o : Out (Option Int)) : Out A := o.bind fun i env => (evO P hi env).bind fun j env => cutA env i j (x.look env)
def kSlc3 (x : A) (i : Option Int) (o : Out (Option Int)) : Out A := o.bind fun j env => cutA env i j (x.look env)
@[simp] theorem s_slc {P : Par} {a : E} {lo hi : Es} {env : Env} : evA P (.slc a lo hi) env = kSlc P lo hi (evA P a env) := by
  unfold kSlc
  simp only [evA]
  congr
@[simp] theorem k_slc {P : Par} {lo hi : Es} {x : A} {env : Env} : kSlc P lo hi (.ok x env) = kSlc2 P hi x (evO P lo env) := rfl
@[simp] theorem k_slc2 {P : Par} {hi : Es} {x : A} {i : Option Int} {env : Env} : kSlc2 P hi x (.ok i env) = kSlc3 x i (evO P hi env) := rfl
@[simp] theorem k_slc3 {x : A} {i j : Option Int} {env : Env} : kSlc3 x i (.ok j env) = cutA env i j (x.look env) := rfl
@[simp] theorem c_lst {env : Env} {i j : Option Int} {xs : List D} : cutA env i j (some (.lst xs)) = .ok (.tmp (.lst (cutD xs i j))) env := rfl
@[simp] theorem c_tup {env : Env} {i j : Option Int} {xs : List D} : cutA env i j (some (.tup xs)) = .ok (.val (.tup (cutD xs i j))) env := rfl
@[simp] theorem c_str {env : Env} {i j : Option Int} {s : Str} : cutA env i j (some (.str s)) = if s.length ≤ sizeLine then .ok (.val (.str (L2.cutS s i j))) env else .stuck := rfl
def kO (o : Out A) : Out (Option Int) := o.bind fun a env => match a with
    | .val (.int i) => .ok (some i) env
    | _ => .stuck
@[simp] theorem s_onil {P : Par} {env : Env} : evO P .nil env = .ok none env := by simp only [evO]
@[simp] theorem s_ocons {P : Par} {e : E} {es : Es} {env : Env} : evO P (.cons e es) env = kO (evA P e env) := by simp only [evO]; rfl
@[simp] theorem k_o {i : Int} {env : Env} : kO (.ok (.val (.int i)) env) = .ok (some i) env := rfl
/-- a change at a name -/
def mutA (m : Mm) (i : Nat) (ds : List D) (env : Env) (s : Option (Option Sl)) : Out A := match s with
  | some (some (.own d)) => match mutF m d ds with
    | some (d', v) => .ok (.val v) (env.set i (some (.own d')))
    | none => .stuck
  | _ => .stuck
def kMut (m : Mm) (i : Nat) (o : Out (List D)) : Out A := o.bind fun ds env => mutA m i ds env env[i]?
def sMut (P : Par) (m : Mm) (i : Nat) (es : Es) (env : Env) (s : Option (Option Sl)) : Out A := match s with
  | some (some (.own (.lst _))) => kMut m i (evVs P es env)
  | _ => .stuck
@[simp] theorem s_mut {P : Par} {m : Mm} {i : Nat} {es : Es} {env : Env} : evA P (.mut m i es) env = sMut P m i es env env[i]? := by
  have key : ∀ ds (env : Env), (match env[i]? with
      | some (some (.own d)) => (match mutF m d ds with
        | some (d', v) => Out.ok (.val v) (env.set i (some (.own d')))
        | none => .stuck)
      | _ => .stuck : Out A) = mutA m i ds env env[i]? := by
    intro ds env
    cases env[i]? with
    | none => rfl
    | some s => cases s with
      | none => rfl
      | some s => cases s <;> rfl
  simp only [evA, key]
  unfold sMut
  cases h : env[i]? with
  | none => rfl
  | some s =>
    cases s with
    | none => rfl
    | some sl => cases sl with
      | val _ => rfl
      | own d => cases d <;> rfl
@[simp] theorem s_mutv {P : Par} {m : Mm} {i : Nat} {es : Es} {env : Env} {xs : List D} : sMut P m i es env (some (some (.own (.lst xs)))) = kMut m i (evVs P es env) := rfl
@[simp] theorem k_mut {m : Mm} {i : Nat} {ds : List D} {env : Env} : kMut m i (.ok ds env) = mutA m i ds env env[i]? := rfl
@[simp] theorem m_app {i : Nat} {v : D} {xs : List D} {env : Env} : mutA .append i [v] env (some (some (.own (.lst xs)))) = if xs.length < sizeLine then .ok (.val .non) (env.set i (some (.own (.lst (xs ++ [v]))))) else .stuck := by
  show (match (if xs.length < sizeLine then some (D.lst (xs ++ [v]), D.non) else none) with | some (d', v) => Out.ok (A.val v) (env.set i (some (.own d'))) | none => .stuck) = _
  by_cases h : xs.length < sizeLine
  · simp only [h, if_true]
  · simp only [h, if_false]
/-- one turn of a loop -/
def kBind (P : Par) (b : Ss) (o : Option Env) : Out Fl := match o with
  | some env => evSs P b env
  | none => .stuck
def turn (P : Par) (t : Tg) (b : Ss) (d : D) (env : Env) : Out Fl := kBind P b (bindT t d env)
@[simp] theorem k_bind {P : Par} {b : Ss} {env : Env} : kBind P b (some env) = evSs P b env := rfl
@[simp] theorem b_nm {i : Nat} {d : D} {env : Env} : bindT (.nm i) d env = if i < env.length then some (env.set i (some (.val d))) else none := by simp only [bindT]
@[simp] theorem b_tp {ts : Tg} {ds : List D} {env : Env} : bindT (.tp ts) (.tup ds) env = bindT.bindTs ts ds env := by simp only [bindT]
@[simp] theorem b_tpl {ts : Tg} {ds : List D} {env : Env} : bindT (.tp ts) (.lst ds) env = bindT.bindTs ts ds env := by simp only [bindT]
def kBs (ts : Tg) (ds : List D) (o : Option Env) : Option Env := match o with
  | some env => bindT.bindTs ts ds env
  | none => none
@[simp] theorem b_nil {env : Env} : bindT.bindTs .nil [] env = some env := by simp only [bindT.bindTs]
@[simp] theorem b_cons {t ts : Tg} {d : D} {ds : List D} {env : Env} : bindT.bindTs (.cons t ts) (d :: ds) env = kBs ts ds (bindT t d env) := by simp only [bindT.bindTs]; rfl
@[simp] theorem k_bs {ts : Tg} {ds : List D} {env : Env} : kBs ts ds (some env) = bindT.bindTs ts ds env := rfl
def kFor (P : Par) (t : Tg) (b : Ss) (o : Out (List D)) : Out Fl := o.bind fun ds env => forL (turn P t b) ds env
@[simp] theorem s_for {P : Par} {t : Tg} {it : It} {b : Ss} {env : Env} : evS P (.forr t it b) env = kFor P t b (evI P it env) := by
  unfold kFor turn
  simp only [evS]
  congr
@[simp] theorem k_for {P : Par} {t : Tg} {b : Ss} {ds : List D} {env : Env} : kFor P t b (.ok ds env) = forL (turn P t b) ds env := rfl
/-! what is walked -/
def kIt (o : Out A) : Out (List D) := o.bind fun a env => (a.freeze env).bind fun d env => match itemsOf d with
    | some ds => .ok ds env
    | none => .stuck
def kIt2 (o : Out D) : Out (List D) := o.bind fun d env => match itemsOf d with
    | some ds => .ok ds env
    | none => .stuck
def kIt3 (env : Env) (o : Option (List D)) : Out (List D) := match o with
    | some ds => .ok ds env
    | none => .stuck
@[simp] theorem i_of {P : Par} {e : E} {env : Env} : evI P (.of e) env = kIt (evA P e env) := by simp only [evI]; rfl
@[simp] theorem k_it {a : A} {env : Env} : kIt (.ok a env) = kIt2 (a.freeze env) := rfl
@[simp] theorem k_it2 {d : D} {env : Env} : kIt2 (.ok d env) = kIt3 env (itemsOf d) := rfl
@[simp] theorem k_it3 {ds : List D} {env : Env} : kIt3 env (some ds) = .ok ds env := rfl
@[simp] theorem it_lst {ds : List D} : itemsOf (.lst ds) = some ds := rfl
@[simp] theorem it_tup {ds : List D} : itemsOf (.tup ds) = some ds := rfl
def kR1 (o : Out A) : Out (List D) := o.bind fun x env => match x with
    | .val (.int j) => if in62 j then .ok (rngD 0 j.toNat) env else .stuck
    | _ => .stuck
@[simp] theorem i_r1 {P : Par} {e : E} {env : Env} : evI P (.rng1 e) env = kR1 (evA P e env) := by simp only [evI]; rfl
theorem k_r1 {j : Int} {env : Env} (h : in62 j = true) : kR1 (.ok (.val (.int j)) env) = .ok (rngD 0 j.toNat) env := by
  show (if in62 j = true then Out.ok (rngD 0 j.toNat) env else .stuck) = _
  rw [if_pos h]
def kR2 (P : Par) (b : E) (o : Out A) : Out (List D) := o.bind fun x env => (evA P b env).bind fun y env => match x, y with
    | .val (.int i), .val (.int j) => if in62 i && in62 j then .ok (rngD i (j - i).toNat) env else .stuck
    | _, _ => .stuck
def kR22 (x : A) (o : Out A) : Out (List D) := o.bind fun y env => match x, y with
    | .val (.int i), .val (.int j) => if in62 i && in62 j then .ok (rngD i (j - i).toNat) env else .stuck
    | _, _ => .stuck
@[simp] theorem i_r2 {P : Par} {a b : E} {env : Env} : evI P (.rng2 a b) env = kR2 P b (evA P a env) := by simp only [evI]; rfl
@[simp] theorem k_r2 {P : Par} {b : E} {x : A} {env : Env} : kR2 P b (.ok x env) = kR22 x (evA P b env) := rfl
theorem k_r22 {i j : Int} {env : Env} (h : in62 i = true) (h' : in62 j = true) : kR22 (.val (.int i)) (.ok (.val (.int j)) env) = .ok (rngD i (j - i).toNat) env := by
  show (if (in62 i && in62 j) = true then Out.ok (rngD i (j - i).toNat) env else .stuck) = _
  rw [h, h']; rfl
def kEnum (o : Out A) : Out (List D) := o.bind fun a env => (a.freeze env).bind fun d env => match d with
    | .lst ds => .ok (enumD 0 ds) env
    | .tup ds => .ok (enumD 0 ds) env
    | _ => .stuck
@[simp] theorem i_enum {P : Par} {e : E} {env : Env} : evI P (.enum e) env = kEnum (evA P e env) := by simp only [evI]; rfl
@[simp] theorem k_enumt {ds : List D} {env : Env} : kEnum (.ok (.val (.tup ds)) env) = .ok (enumD 0 ds) env := rfl
@[simp] theorem k_enuml {ds : List D} {env : Env} : kEnum (.ok (.val (.lst ds)) env) = .ok (enumD 0 ds) env := rfl
/-! comprehensions: one turn, the whole -/
def kC (P : Par) (elt : E) (ws : List Nat) (o : Out Bool) : Out (Option D) := o.bind fun k env => if k then (evA P elt env).bind fun a env => (a.freeze env).bind fun y env => .ok (some y) (wipeE env ws) else .ok none (wipeE env ws)
def kC1 (ws : List Nat) (o : Out A) : Out (Option D) := o.bind fun a env => (a.freeze env).bind fun y env => .ok (some y) (wipeE env ws)
def kC2 (ws : List Nat) (o : Out D) : Out (Option D) := o.bind fun y env => .ok (some y) (wipeE env ws)
def cTurn (P : Par) (elt : E) (t : Tg) (c : Es) (ws : List Nat) (d : D) (env : Env) : Out (Option D) := match bindT t d env with
  | some env => kC P elt ws (evC P c env)
  | none => .stuck
theorem cTurn_some {P : Par} {elt : E} {t : Tg} {c : Es} {ws : List Nat} {d : D} {env env' : Env} (h : bindT t d env = some env') : cTurn P elt t c ws d env = kC P elt ws (evC P c env') := by unfold cTurn; rw [h]
@[simp] theorem k_c1 {P : Par} {elt : E} {ws : List Nat} {env : Env} : kC P elt ws (.ok true env) = kC1 ws (evA P elt env) := rfl
@[simp] theorem k_c0 {P : Par} {elt : E} {ws : List Nat} {env : Env} : kC P elt ws (.ok false env) = .ok none (wipeE env ws) := rfl
@[simp] theorem k_c11 {ws : List Nat} {a : A} {env : Env} : kC1 ws (.ok a env) = kC2 ws (a.freeze env) := rfl
@[simp] theorem k_c2 {ws : List Nat} {d : D} {env : Env} : kC2 ws (.ok d env) = .ok (some d) (wipeE env ws) := rfl
@[simp] theorem c_nil {P : Par} {env : Env} : evC P .nil env = .ok true env := by simp only [evC]
@[simp] theorem c_cons {P : Par} {e : E} {es : Es} {env : Env} : evC P (.cons e es) env = evT P e env := by simp only [evC]
def kLc (P : Par) (elt : E) (t : Tg) (c : Es) (ws : List Nat) (o : Out (List D)) : Out A := o.bind fun ds env => match lcL (cTurn P elt t c ws) ds [] (wipeE env ws) with
      | .ok ys env' => .ok (.tmp (.lst ys)) (backE env env' ws)
      | _ => .stuck
def kLc2 (env : Env) (ws : List Nat) (o : Out (List D)) : Out A := match o with
      | .ok ys env' => .ok (.tmp (.lst ys)) (backE env env' ws)
      | _ => .stuck
@[simp] theorem s_lc {P : Par} {elt : E} {t : Tg} {it : It} {c : Es} {ws : List Nat} {env : Env} : evA P (.lc elt t it c ws) env = kLc P elt t c ws (evI P it env) := by
  unfold kLc cTurn kC
  simp only [evA]
  all_goals congr
@[simp] theorem k_lc {P : Par} {elt : E} {t : Tg} {c : Es} {ws : List Nat} {ds : List D} {env : Env} : kLc P elt t c ws (.ok ds env) = kLc2 env ws (lcL (cTurn P elt t c ws) ds [] (wipeE env ws)) := rfl
@[simp] theorem k_lc2 {env env' : Env} {ws : List Nat} {ys : List D} : kLc2 env ws (.ok ys env') = .ok (.tmp (.lst ys)) (backE env env' ws) := rfl
@[simp] theorem w_nil {env : Env} : wipeE env [] = env := rfl
@[simp] theorem w_cons {env : Env} {i : Nat} {is : List Nat} : wipeE env (i :: is) = (wipeE env is).set i none := rfl
@[simp] theorem bk_nil {old env : Env} : backE old env [] = env := rfl
def kBk (old env : Env) (i : Nat) (is : List Nat) (o : Option (Option Sl)) : Env := match o with
  | some s => (backE old env is).set i s
  | none => backE old env is
@[simp] theorem bk_cons {old env : Env} {i : Nat} {is : List Nat} : backE old env (i :: is) = kBk old env i is old[i]? := rfl
@[simp] theorem k_bk {old env : Env} {i : Nat} {is : List Nat} {s : Option Sl} : kBk old env i is (some s) = (backE old env is).set i s := rfl
/-! all, any of a generator -/
def kG (P : Par) (elt : E) (ws : List Nat) (o : Out Bool) : Out (Option Bool) := o.bind fun k env => if k then (evA P elt env).bind fun a env => match a with
          | .val (.bl b) => .ok (some b) (wipeE env ws)
          | _ => .stuck
          else .ok none (wipeE env ws)
def kG1 (ws : List Nat) (o : Out A) : Out (Option Bool) := o.bind fun a env => match a with
          | .val (.bl b) => .ok (some b) (wipeE env ws)
          | _ => .stuck
def gTurn (P : Par) (elt : E) (t : Tg) (c : Es) (ws : List Nat) (d : D) (env : Env) : Out (Option Bool) := match bindT t d env with
  | some env => kG P elt ws (evC P c env)
  | none => .stuck
theorem gTurn_some {P : Par} {elt : E} {t : Tg} {c : Es} {ws : List Nat} {d : D} {env env' : Env} (h : bindT t d env = some env') : gTurn P elt t c ws d env = kG P elt ws (evC P c env') := by unfold gTurn; rw [h]
@[simp] theorem k_g1 {P : Par} {elt : E} {ws : List Nat} {env : Env} : kG P elt ws (.ok true env) = kG1 ws (evA P elt env) := rfl
@[simp] theorem k_g0 {P : Par} {elt : E} {ws : List Nat} {env : Env} : kG P elt ws (.ok false env) = .ok none (wipeE env ws) := rfl
@[simp] theorem k_g11 {ws : List Nat} {b : Bool} {env : Env} : kG1 ws (.ok (.val (.bl b)) env) = .ok (some b) (wipeE env ws) := rfl
def kGx (P : Par) (q : Bool) (elt : E) (t : Tg) (c : Es) (ws : List Nat) (o : Out (List D)) : Out A := o.bind fun ds env => match gxL q (gTurn P elt t c ws) ds (wipeE env ws) with
      | .ok b env' => .ok (.val (.bl b)) (backE env env' ws)
      | _ => .stuck
def kGx2 (env : Env) (ws : List Nat) (o : Out Bool) : Out A := match o with
      | .ok b env' => .ok (.val (.bl b)) (backE env env' ws)
      | _ => .stuck
@[simp] theorem s_gx {P : Par} {q : Bool} {elt : E} {t : Tg} {it : It} {c : Es} {ws : List Nat} {env : Env} : evA P (.gx q elt t it c ws) env = kGx P q elt t c ws (evI P it env) := by
  unfold kGx gTurn kG
  simp only [evA]
  all_goals congr
@[simp] theorem k_gx {P : Par} {q : Bool} {elt : E} {t : Tg} {c : Es} {ws : List Nat} {ds : List D} {env : Env} : kGx P q elt t c ws (.ok ds env) = kGx2 env ws (gxL q (gTurn P elt t c ws) ds (wipeE env ws)) := rfl
@[simp] theorem k_gx2 {env env' : Env} {ws : List Nat} {b : Bool} : kGx2 env ws (.ok b env') = .ok (.val (.bl b)) (backE env env' ws) := rfl
/-! a, b = x, y -/
def kPar (P : Par) (i j : Nat) (b : E) (o : Out A) : Out Fl := o.bind fun x env => (x.freeze env).bind fun d env => (evA P b env).bind fun y env => (y.freeze env).bind fun e env =>
      if i < env.length ∧ j < env.length then .ok .next ((env.set i (some (.val d))).set j (some (.val e))) else .stuck
def kPar1 (P : Par) (i j : Nat) (b : E) (o : Out D) : Out Fl := o.bind fun d env => (evA P b env).bind fun y env => (y.freeze env).bind fun e env =>
      if i < env.length ∧ j < env.length then .ok .next ((env.set i (some (.val d))).set j (some (.val e))) else .stuck
def kPar2 (i j : Nat) (d : D) (o : Out A) : Out Fl := o.bind fun y env => (y.freeze env).bind fun e env =>
      if i < env.length ∧ j < env.length then .ok .next ((env.set i (some (.val d))).set j (some (.val e))) else .stuck
def kPar3 (i j : Nat) (d : D) (o : Out D) : Out Fl := o.bind fun e env =>
      if i < env.length ∧ j < env.length then .ok .next ((env.set i (some (.val d))).set j (some (.val e))) else .stuck
@[simp] theorem s_par {P : Par} {i j : Nat} {a b : E} {env : Env} : evS P (.par i j a b) env = kPar P i j b (evA P a env) := by simp only [evS]; rfl
@[simp] theorem k_par {P : Par} {i j : Nat} {b : E} {x : A} {env : Env} : kPar P i j b (.ok x env) = kPar1 P i j b (x.freeze env) := rfl
@[simp] theorem k_par1 {P : Par} {i j : Nat} {b : E} {d : D} {env : Env} : kPar1 P i j b (.ok d env) = kPar2 i j d (evA P b env) := rfl
@[simp] theorem k_par2 {i j : Nat} {d : D} {x : A} {env : Env} : kPar2 i j d (.ok x env) = kPar3 i j d (x.freeze env) := rfl
@[simp] theorem k_par3 {i j : Nat} {d e : D} {env : Env} : kPar3 i j d (.ok e env) = if i < env.length ∧ j < env.length then .ok .next ((env.set i (some (.val d))).set j (some (.val e))) else .stuck := rfl
def kTri (P : Par) (i j k : Nat) (b c : E) (o : Out A) : Out Fl := o.bind fun x env => (x.freeze env).bind fun d env => (evA P b env).bind fun y env => (y.freeze env).bind fun e env => (evA P c env).bind fun z env => (z.freeze env).bind fun g env =>
      if i < env.length ∧ j < env.length ∧ k < env.length then .ok .next (((env.set i (some (.val d))).set j (some (.val e))).set k (some (.val g))) else .stuck
def kTri2 (P : Par) (i j k : Nat) (d : D) (c : E) (o : Out A) : Out Fl := o.bind fun y env => (y.freeze env).bind fun e env => (evA P c env).bind fun z env => (z.freeze env).bind fun g env =>
      if i < env.length ∧ j < env.length ∧ k < env.length then .ok .next (((env.set i (some (.val d))).set j (some (.val e))).set k (some (.val g))) else .stuck
def kTri3 (i j k : Nat) (d e : D) (o : Out A) : Out Fl := o.bind fun z env => (z.freeze env).bind fun g env =>
      if i < env.length ∧ j < env.length ∧ k < env.length then .ok .next (((env.set i (some (.val d))).set j (some (.val e))).set k (some (.val g))) else .stuck
@[simp] theorem s_tri {P : Par} {i j k : Nat} {a b c : E} {env : Env} : evS P (.par3 i j k a b c) env = kTri P i j k b c (evA P a env) := by simp only [evS]; rfl
@[simp] theorem k_tri {P : Par} {i j k : Nat} {b c : E} {d : D} {env : Env} : kTri P i j k b c (.ok (.val d) env) = kTri2 P i j k d c (evA P b env) := rfl
@[simp] theorem k_tri2 {P : Par} {i j k : Nat} {c : E} {d e : D} {env : Env} : kTri2 P i j k d c (.ok (.val e) env) = kTri3 i j k d e (evA P c env) := rfl
@[simp] theorem k_tri3 {i j k : Nat} {d e g : D} {env : Env} : kTri3 i j k d e (.ok (.val g) env) = if i < env.length ∧ j < env.length ∧ k < env.length then .ok .next (((env.set i (some (.val d))).set j (some (.val e))).set k (some (.val g))) else .stuck := rfl
/-! x op= e -/
def augA (i : Nat) (env : Env) (o : Option D) : Out Fl := match o with
  | some r => .ok .next (env.set i (some (.val r)))
  | none => .stuck
def kAug (i : Nat) (o : Bo) (d : D) (r : Out A) : Out Fl := r.bind fun y env => match y.look env with
      | some g => augA i env (augF o d g)
      | none => .stuck
def kAug2 (i : Nat) (o : Bo) (d : D) (env : Env) (r : Option D) : Out Fl := match r with
      | some g => augA i env (augF o d g)
      | none => .stuck
def sAug (P : Par) (i : Nat) (o : Bo) (e : E) (env : Env) (s : Option (Option Sl)) : Out Fl := match s with
  | some (some (.val d)) => kAug i o d (evA P e env)
  | _ => .stuck
@[simp] theorem s_aug {P : Par} {i : Nat} {o : Bo} {e : E} {env : Env} : evS P (.aug i o e) env = sAug P i o e env env[i]? := by
  simp only [evS]
  unfold sAug kAug augA
  cases h : env[i]? with
  | none => rfl
  | some s =>
    cases s with
    | none => rfl
    | some sl => cases sl <;> rfl
@[simp] theorem s_augv {P : Par} {i : Nat} {o : Bo} {e : E} {env : Env} {d : D} : sAug P i o e env (some (some (.val d))) = kAug i o d (evA P e env) := rfl
@[simp] theorem k_aug {i : Nat} {o : Bo} {d : D} {y : A} {env : Env} : kAug i o d (.ok y env) = kAug2 i o d env (y.look env) := rfl
@[simp] theorem k_aug2 {i : Nat} {o : Bo} {d g : D} {env : Env} : kAug2 i o d env (some g) = augA i env (augF o d g) := rfl
@[simp] theorem k_aug3 {i : Nat} {r : D} {env : Env} : augA i env (some r) = .ok .next (env.set i (some (.val r))) := rfl
/-! while, raise, try -/
@[simp] theorem s_whl {P : Par} {c : E} {b : Ss} {env : Env} : evS P (.whl c b) env = whlL (evT P c) (evSs P b) P.fuel env := by simp only [evS]
def kRaise (c : Nat) (o : Out (List D)) : Out Fl := o.bind fun ds env => match ds with
    | [] => .exn ⟨c, none⟩ env
    | [d] => .exn ⟨c, some d⟩ env
    | _ => .stuck
@[simp] theorem s_raise {P : Par} {c : Nat} {es : Es} {env : Env} : evS P (.raise c es) env = kRaise c (evVs P es env) := by simp only [evS]; rfl
@[simp] theorem k_raise0 {c : Nat} {env : Env} : kRaise c (.ok [] env) = .exn ⟨c, none⟩ env := rfl
@[simp] theorem k_raise1 {c : Nat} {d : D} {env : Env} : kRaise c (.ok [d] env) = .exn ⟨c, some d⟩ env := rfl
def noX (o : Out Fl) : Out Fl := match o with
  | .exn _ _ => .stuck
  | o => o
def kTry2 (P : Par) (h : Ss) (x : Exn) (env : Env) (nm : Option Nat) (o : Option Bool) : Out Fl := match o, nm with
      | some true, none => noX (evSs P h env)
      | some false, _ => .exn x env
      | _, _ => .stuck
def kTry (P : Par) (c : Nat) (nm : Option Nat) (h : Ss) (o : Out Fl) : Out Fl := match o with
    | .exn x env' => kTry2 P h x env' nm (P.exm x.cls c)
    | o => o
@[simp] theorem s_try {P : Par} {b h : Ss} {c : Nat} {nm : Option Nat} {env : Env} : evS P (.tryE b c nm h) env = kTry P c nm h (evSs P b env) := by
  simp only [evS]
  unfold kTry
  cases evSs P b env with
  | ok a e => rfl
  | stuck => rfl
  | exn x e =>
    dsimp only
    unfold kTry2 noX
    cases P.exm x.cls c with
    | none => cases nm <;> rfl
    | some q => cases q <;> cases nm <;> rfl
@[simp] theorem k_tryok {P : Par} {c : Nat} {nm : Option Nat} {h : Ss} {f : Fl} {env : Env} : kTry P c nm h (.ok f env) = .ok f env := rfl
@[simp] theorem k_tryx {P : Par} {c : Nat} {nm : Option Nat} {h : Ss} {x : Exn} {env : Env} : kTry P c nm h (.exn x env) = kTry2 P h x env nm (P.exm x.cls c) := rfl
@[simp] theorem k_try2 {P : Par} {h : Ss} {x : Exn} {env : Env} : kTry2 P h x env none (some true) = noX (evSs P h env) := rfl
@[simp] theorem k_try20 {P : Par} {h : Ss} {x : Exn} {env : Env} {nm : Option Nat} : kTry2 P h x env nm (some false) = .exn x env := by cases nm <;> rfl
@[simp] theorem k_nox {f : Fl} {env : Env} : noX (.ok f env) = .ok f env := rfl
/-! an owned thing that becomes known -/
def kFz (env : Env) (i : Nat) (o : Option (Option Sl)) : Out D := match o with
  | some (some s) => .ok s.d (env.set i (some (.val s.d)))
  | _ => .stuck
@[simp] theorem frz_own {i : Nat} {env : Env} : (A.own i).freeze env = kFz env i env[i]? := by
  show (match env[i]? with
    | some (some s) => Out.ok s.d (env.set i (some (.val s.d)))
    | _ => .stuck) = _
  unfold kFz
  cases env[i]? with
  | none => rfl
  | some s => cases s <;> rfl
@[simp] theorem k_fz {env : Env} {i : Nat} {s : Sl} : kFz env i (some (some s)) = .ok s.d (env.set i (some (.val s.d))) := rfl
@[simp] theorem sl_val {d : D} : (Sl.val d).d = d := rfl
@[simp] theorem sl_own {d : D} : (Sl.own d).d = d := rfl
/-! a < b < c -/
end Ev
end
section
set_option maxRecDepth 100000
set_option maxHeartbeats 4000000
/-! the draws of a law -/
namespace Ev
open PySem
def drawFn : Fn := ⟨2, 6, [true, true], (.cons (.iff (.cmp .lt (.idx (.var 0) (.cst (.int 0))) (.var 1)) (.cons (.asg (.nm 2) (.idx (.var 0) (.cst (.int 1)))) (.cons (.setI 0 (.cst (.int 1)) (.bin .add (.var 2) (.cst (.int 1)))) (.cons (.asg (.nm 3) (.cst (.int 0))) (.cons (.iff (.cmp .lt (.var 2) (.bi .len (.cons (.idx (.var 0) (.cst (.int 2))) .nil))) (.cons (.asg (.nm 3) (.idx (.idx (.var 0) (.cst (.int 2))) (.var 2))) .nil) .nil) (.cons (.iff (.cmp .ge (.var 3) (.bin .pow (.cst (.int 10)) (.cst (.int 18)))) (.cons (.setI 0 (.cst (.int 0)) (.var 3)) .nil) (.cons (.setI 0 (.cst (.int 3)) (.bin .mod (.bi .int (.cons (.bin .mul (.bin .add (.bin .add (.bin .add (.idx (.var 0) (.cst (.int 3))) (.bin .mod (.bi .int (.cons (.var 3) .nil)) (.cst (.int 2147483629)))) (.var 2)) (.cst (.int 1))) (.cst (.int 48271))) .nil)) (.cst (.int 2147483647)))) (.cons (.asg (.nm 4) (.bin .mod (.bi .int (.cons (.bin .add (.bin .mul (.idx (.var 0) (.cst (.int 3))) (.cst (.int 69621))) (.cst (.int 11))) .nil)) (.cst (.int 2147483629)))) (.cons (.setI 0 (.cst (.int 0)) (.bin .add (.bin .mul (.var 4) (.cst (.int 2147483647))) (.bin .mod (.bi .int (.cons (.bin .add (.bin .mul (.var 4) (.cst (.int 30011))) (.idx (.var 0) (.cst (.int 3)))) .nil)) (.cst (.int 2147483587))))) .nil)))) .nil))))) .nil) (.cons (.asg (.nm 5) (.bin .mod (.bi .int (.cons (.idx (.var 0) (.cst (.int 0))) .nil)) (.var 1))) (.cons (.setI 0 (.cst (.int 0)) (.bin .fdiv (.idx (.var 0) (.cst (.int 0))) (.var 1))) (.cons (.ret (.var 5)) .nil)))), none⟩
/-- a state of the draws -/
def stD (s0 s1 s3 : Int) (scr : List Int) : D := .lst [.int s0, .int s1, .lst (scr.map .int), .int s3]
def IsSt (st : D) : Prop := ∃ s0 s1 s3 scr, 0 ≤ s1 ∧ st = stD s0 s1 s3 scr

theorem log2_small {n : Nat} (h : n < 2 ^ 31) : n.log2 < 9000 := by
  by_cases h0 : n = 0
  · subst h0; decide
  · have := (Nat.log2_lt h0 (k := 31)).mpr h
    omega
theorem fdivOk_of {limit : Int} (hl : 0 < limit) (hl2 : limit < 2 ^ 31) : fdivOk limit = true := by
  unfold fdivOk
  have h1 : limit.natAbs < 2 ^ 31 := by omega
  have h2 : limit ≠ 0 := by omega
  simp [h2, log2_small h1]
theorem atI_map {scr : List Int} {s1 : Int} (h1 : 0 ≤ s1) (h2 : s1 < scr.length) : ∃ c, L2.atI (scr.map D.int) s1 = some (.int c) := by
  unfold L2.atI L2.ixN
  have h3 : s1.toNat < scr.length := by omega
  refine ⟨scr[s1.toNat], ?_⟩
  rw [List.length_map]
  simp [h1, h2, h3]
theorem sp_draw {fs : List Fn} {exm : Nat → Nat → Option Bool} {fuel k j : Nat} (hf : fs[j]? = some drawFn) {s0 s1 s3 limit : Int} {scr : List Int} (h1 : 0 ≤ s1) (hl : 0 < limit) (hl2 : limit < 2 ^ 31) :
    ∃ g st', IsSt st' ∧ 0 ≤ g ∧ g < limit ∧ callF fs exm fuel (k + 1) j [.own (stD s0 s1 s3 scr), .val (.int limit)] = .ret (.val (.int g)) [some (.own st'), some (.val (.int limit))] := by
  rw [callF_at hf rfl rfl]
  have hz : limit ≠ 0 := by omega
  have hfd := fdivOk_of hl hl2
  have fin : ∀ (x y z : Int), 0 ≤ y → ∃ g st', IsSt st' ∧ 0 ≤ g ∧ g < limit ∧ x.fmod limit = g ∧ D.lst [.int (x.fdiv limit), .int y, .lst (scr.map .int), .int z] = st' := fun x y z hy =>
    ⟨_, _, ⟨_, _, _, _, hy, rfl⟩, by rw [Int.fmod_eq_emod_of_nonneg _ (Int.le_of_lt hl)]; exact Int.emod_nonneg _ hz, by rw [Int.fmod_eq_emod_of_nonneg _ (Int.le_of_lt hl)]; exact Int.emod_lt_of_pos _ hl, rfl, rfl⟩
  unfold stD
  have m1 : ∀ x : Int, mulOk x 48271 = true := fun x => by simp [mulOk, s64]
  have m2 : ∀ x : Int, mulOk x 69621 = true := fun x => by simp [mulOk, s64]
  have m3 : ∀ x : Int, mulOk x 2147483647 = true := fun x => by simp [mulOk, s64]
  have m4 : ∀ x : Int, mulOk x 30011 = true := fun x => by simp [mulOk, s64]
  by_cases c1 : s0 < limit
  · by_cases c2 : s1 < (scr.length : Int)
    · obtain ⟨c, hc⟩ := atI_map h1 c2
      by_cases c3 : (1000000000000000000 : Int) ≤ c
      · simp [drawFn, fIdx, idxF, fCmp, cmpF, two_ov, look_own, Sl.d, c1, c2, c3, fBin, binF, biF, BR.a, hz, hfd, hc, powOk]
        exact fin _ _ _ (by omega)
      · simp [drawFn, fIdx, idxF, fCmp, cmpF, two_ov, look_own, Sl.d, c1, c2, c3, fBin, binF, biF, BR.a, hz, hfd, hc, powOk, m1, m2, m3, m4]
        exact fin _ _ _ (by omega)
    · simp [drawFn, fIdx, idxF, fCmp, cmpF, two_ov, look_own, Sl.d, c1, c2, fBin, binF, biF, BR.a, hz, hfd, powOk, m1, m2, m3, m4]
      exact fin _ _ _ (by omega)
  · simp [drawFn, fIdx, idxF, fCmp, cmpF, two_ov, look_own, Sl.d, c1, fBin, binF, biF, BR.a, hz, hfd]
    exact fin _ _ _ h1
/-- a draw: some number below the limit, the state goes on -/
theorem draw {fs : List Fn} {exm : Nat → Nat → Option Bool} {fuel k j : Nat} (hf : fs[j]? = some drawFn) {st : D} {limit : Int} (h : IsSt st) (hl : 0 < limit) (hl2 : limit < 2 ^ 31) :
    ∃ g st', IsSt st' ∧ 0 ≤ g ∧ g < limit ∧ callF fs exm fuel (k + 1) j [.own st, .val (.int limit)] = .ret (.val (.int g)) [some (.own st'), some (.val (.int limit))] := by
  obtain ⟨s0, s1, s3, scr, h1, rfl⟩ := h
  exact sp_draw hf h1 hl hl2
/-- .. as a call within a def -/
theorem draw_call {fs : List Fn} {exm : Nat → Nat → Option Bool} {fuel k j i : Nat} {st st' : D} {limit g : Int} {env : Env} (hst : env[i]? = some (some (.own st)))
    (h : callF fs exm fuel (k + 1) j [.own st, .val (.int limit)] = .ret (.val (.int g)) [some (.own st'), some (.val (.int limit))]) :
    callM (callF fs exm fuel (k + 1)) j [true, true] [.own i, .val (.int limit)] env = .ok (.val (.int g)) (env.set i (some (.own st'))) := by
  unfold callM
  simp only [freezeAll, Out.bind_ok, paramsOf, hst, h, lentOf, backOuts]
  simp
end Ev
end
section
set_option maxRecDepth 100000
/-! plain things that are compared -/
namespace Ev
open PySem

/-- data of depth at most n -/
def Q (n : Nat) (d : D) : Prop := d.py.canLay0 = true ∧ d.py.depth ≤ n
theorem Q.mono {n m : Nat} {d : D} (h : Q n d) (hm : n ≤ m) : Q m d := ⟨h.1, Nat.le_trans h.2 hm⟩
theorem Q.eqOk {n : Nat} {d : D} (h : Q n d) (hn : n ≤ 64) : d.eqOk = true := by
  show (d.py.canLay0 && decide (d.py.depth ≤ 64)) = true
  rw [h.1, decide_eq_true (Nat.le_trans h.2 hn)]; rfl
theorem qd_int (i : Int) : Q 0 (.int i) := ⟨by simp [D.py, PyData.canLay0], by simp [D.py, PyData.depth]⟩
theorem qd_bl (i : Bool) : Q 0 (.bl i) := ⟨by simp [D.py, PyData.canLay0], by simp [D.py, PyData.depth]⟩
theorem qd_non : Q 0 .non := ⟨by simp [D.py, PyData.canLay0], by simp [D.py, PyData.depth]⟩
theorem qd_strOf {s : Str} (h : (PyData.str s).canLay0 = true) : Q 0 (.str s) := ⟨h, by simp [D.py, PyData.depth]⟩
theorem qd_all {n : Nat} : ∀ {xs : List D}, (∀ x ∈ xs, Q n x) → PyData.canLayAll0 (D.pys xs) = true ∧ PyData.depthAll (D.pys xs) ≤ n
  | [], _ => ⟨by simp [D.pys, PyData.canLayAll0], by simp [D.pys, PyData.depthAll]⟩
  | x :: xs, h => by
    obtain ⟨h1, h2⟩ := qd_all fun y hy => h y (.tail _ hy)
    obtain ⟨h3, h4⟩ := h x (.head _)
    refine ⟨by simp [D.pys, PyData.canLayAll0, h1, h3], ?_⟩
    simp only [D.pys, PyData.depthAll]
    omega
theorem qd_tup {n : Nat} {xs : List D} (h : ∀ x ∈ xs, Q n x) : Q (n + 1) (.tup xs) := by
  obtain ⟨h1, h2⟩ := qd_all h
  exact ⟨by simpa [D.py, PyData.canLay0] using h1, by simp only [D.py, PyData.depth]; omega⟩
theorem qd_lst {n : Nat} {xs : List D} (h : ∀ x ∈ xs, Q n x) : Q (n + 1) (.lst xs) := by
  obtain ⟨h1, h2⟩ := qd_all h
  exact ⟨by simpa [D.py, PyData.canLay0] using h1, by simp only [D.py, PyData.depth]; omega⟩
/-- values of a type as data: of depth n, equal only if they are -/
structure Emb {α : Type} [DecidableEq α] (f : α → D) (n : Nat) : Prop where
  q : ∀ a, Q n (f a)
  e : ∀ a b, D.eqv (f a) (f b) = decide (a = b)
theorem Emb.mono {α : Type} [DecidableEq α] {f : α → D} {n m : Nat} (h : Emb f n) (hm : n ≤ m) : Emb f m := ⟨fun a => (h.q a).mono hm, h.e⟩
theorem emb_int : Emb D.int 0 := ⟨qd_int, fun a b => by
  show PyData.eqv (D.int a).py (D.int b).py = _
  simp only [D.py, PyData.eqv]
  by_cases h : a = b <;> simp [h]⟩
theorem emb_bl : Emb D.bl 0 := ⟨qd_bl, fun a b => by
  show PyData.eqv (D.bl a).py (D.bl b).py = _
  simp only [D.py, PyData.eqv]
  by_cases h : a = b <;> simp [h]⟩
theorem eqv_all {α : Type} [DecidableEq α] {f : α → D} {n : Nat} (h : Emb f n) : ∀ xs ys : List α, PyData.eqvAll (D.pys (xs.map f)) (D.pys (ys.map f)) = decide (xs = ys)
  | [], [] => by simp [D.pys, PyData.eqvAll]
  | [], y :: ys => by simp [D.pys, PyData.eqvAll]
  | x :: xs, [] => by simp [D.pys, PyData.eqvAll]
  | x :: xs, y :: ys => by
    have h1 : PyData.eqv (f x).py (f y).py = decide (x = y) := h.e x y
    simp only [List.map_cons, D.pys, PyData.eqvAll, h1, eqv_all h xs ys]
    by_cases h2 : x = y <;> by_cases h3 : xs = ys <;> simp [h2, h3]
theorem emb_lst {α : Type} [DecidableEq α] {f : α → D} {n : Nat} (h : Emb f n) : Emb (fun xs : List α => D.lst (xs.map f)) (n + 1) :=
  ⟨fun xs => qd_lst fun x hx => by obtain ⟨a, _, rfl⟩ := List.mem_map.mp hx; exact h.q a, fun xs ys => by
    show PyData.eqv (D.lst _).py (D.lst _).py = _
    simp only [D.py, PyData.eqv]
    exact eqv_all h xs ys⟩
theorem emb_tup {α : Type} [DecidableEq α] {f : α → D} {n : Nat} (h : Emb f n) : Emb (fun xs : List α => D.tup (xs.map f)) (n + 1) :=
  ⟨fun xs => qd_tup fun x hx => by obtain ⟨a, _, rfl⟩ := List.mem_map.mp hx; exact h.q a, fun xs ys => by
    show PyData.eqv (D.tup _).py (D.tup _).py = _
    simp only [D.py, PyData.eqv]
    exact eqv_all h xs ys⟩
theorem emb_pair {α β : Type} [DecidableEq α] [DecidableEq β] {f : α → D} {g : β → D} {n : Nat} (h : Emb f n) (h' : Emb g n) : Emb (fun p : α × β => D.tup [f p.1, g p.2]) (n + 1) :=
  ⟨fun p => qd_tup fun x hx => by
    rcases List.mem_cons.mp hx with e | hx
    · rw [e]; exact h.q _
    · rw [List.mem_singleton.mp hx]; exact h'.q _, fun p q => by
    have h1 : PyData.eqv (f p.1).py (f q.1).py = decide (p.1 = q.1) := h.e _ _
    have h2 : PyData.eqv (g p.2).py (g q.2).py = decide (p.2 = q.2) := h'.e _ _
    show PyData.eqv (D.tup _).py (D.tup _).py = _
    simp only [D.py, D.pys, PyData.eqv, PyData.eqvAll, h1, h2]
    obtain ⟨a, b⟩ := p
    obtain ⟨c, d⟩ := q
    by_cases h3 : a = c <;> by_cases h4 : b = d <;> simp [h3, h4]⟩
/-- equality of two that are told apart by their values -/
theorem Emb.eq? {α : Type} [DecidableEq α] {f : α → D} {n : Nat} (h : Emb f n) (hn : n ≤ 64) (a b : α) : D.eq? (f a) (f b) = some (decide (a = b)) := by
  unfold D.eq?
  rw [(h.q a).eqOk hn, (h.q b).eqOk hn, h.e]
  rfl
@[simp] theorem eq_int {i j : Int} : D.eq? (.int i) (.int j) = some (decide (i = j)) := emb_int.eq? (by decide) i j
@[simp] theorem eq_bl {i j : Bool} : D.eq? (.bl i) (.bl j) = some (decide (i = j)) := emb_bl.eq? (by decide) i j
theorem inn_lst {d : D} {xs : List D} : cmpF .inn d (.lst xs) = if d.eqOk && (D.lst xs).eqOk then some (xs.any fun x => D.eqv x d) else none := by cases d <;> rfl
theorem nin_lst {d : D} {xs : List D} : cmpF .nin d (.lst xs) = if d.eqOk && (D.lst xs).eqOk then some (!xs.any fun x => D.eqv x d) else none := by cases d <;> rfl
/-- membership in a list -/
theorem Emb.mem {α : Type} [DecidableEq α] {f : α → D} {n : Nat} (h : Emb f n) (hn : n < 64) (a : α) (xs : List α) : cmpF .inn (f a) (.lst (xs.map f)) = some (decide (a ∈ xs)) := by
  have h1 := (h.q a).eqOk (Nat.le_of_lt hn)
  have h2 := (emb_lst h).q xs |>.eqOk hn
  rw [inn_lst, h1, h2]
  simp only [Bool.and_self, if_true, Option.some.injEq]
  rw [List.any_map]
  rw [Bool.eq_iff_iff, List.any_eq_true, decide_eq_true_eq]
  constructor
  · rintro ⟨x, hx, e⟩
    have e : D.eqv (f x) (f a) = true := e
    rw [h.e] at e
    rw [← of_decide_eq_true e]; exact hx
  · intro ha
    exact ⟨a, ha, by show D.eqv (f a) (f a) = true; rw [h.e]; simp⟩
end Ev
end
section
set_option maxRecDepth 100000
/-! loops of the evaluator by what a turn does -/
namespace Ev
open PySem

/-- a loop by an invariant of its turns -/
theorem forL_inv {body : D → Env → Out Fl} {I : Nat → Env → Prop} : ∀ {xs : List D} {i : Nat} {env : Env}, I i env →
    (∀ (j : Nat) (d : D) (env : Env), xs[j]? = some d → I (i + j) env → ∃ env', (body d env = .ok .next env' ∨ body d env = .ok .cont env') ∧ I (i + j + 1) env') → ∃ env', forL body xs env = .ok .next env' ∧ I (i + xs.length) env'
  | [], i, env, h0, _ => ⟨env, by unfold forL; rfl, h0⟩
  | x :: xs, i, env, h0, hs => by
    obtain ⟨env1, h1, h2⟩ := hs 0 x env rfl h0
    obtain ⟨env2, h3, h4⟩ := forL_inv (xs := xs) (i := i + 1) (I := I) h2 fun j d env hj hI => by
      have := hs (j + 1) d env hj (by have e : i + (j + 1) = i + 1 + j := by omega
                                      rw [e]; exact hI)
      have e : i + (j + 1) + 1 = i + 1 + j + 1 := by omega
      rw [e] at this
      exact this
    refine ⟨env2, ?_, by have e : i + (x :: xs).length = i + 1 + xs.length := by simp; omega
                         rw [e]; exact h4⟩
    unfold forL
    rcases h1 with h1 | h1 <;> (rw [h1]; exact h3)
/-- .. of typed things, with a state that is folded: enc s a z: the slots, a what is drawn last -/
theorem forL_fold {α σ : Type} {emb : α → D} {body : D → Env → Out Fl} {f : σ → α → σ} {R : σ → Env → Prop} : ∀ {xs : List α} {s : σ} {env : Env}, R s env →
    (∀ s a env, a ∈ xs → R s env → ∃ env', (body (emb a) env = .ok .next env' ∨ body (emb a) env = .ok .cont env') ∧ R (f s a) env') → ∃ env', forL body (xs.map emb) env = .ok .next env' ∧ R (xs.foldl f s) env'
  | [], s, env, h0, _ => ⟨env, rfl, h0⟩
  | x :: xs, s, env, h0, hs => by
    obtain ⟨env1, h1, h2⟩ := hs s x env (.head _) h0
    obtain ⟨env2, h3, h4⟩ := forL_fold (xs := xs) (f := f) (R := R) h2 fun s a env ha hI => hs s a env (.tail _ ha) hI
    refine ⟨env2, ?_, h4⟩
    show forL body (emb x :: xs.map emb) env = _
    unfold forL
    rcases h1 with h1 | h1 <;> (rw [h1]; exact h3)
/-- a comprehension whose turns leave the slots -/
theorem lcL_pure {α : Type} {emb : α → D} {body : D → Env → Out (Option D)} {f : α → Option D} {env : Env} : ∀ {xs : List α} {acc : List D}, (∀ a ∈ xs, body (emb a) env = .ok (f a) env) → acc.length + xs.length ≤ sizeLine →
    lcL body (xs.map emb) acc env = .ok (acc ++ xs.filterMap f) env
  | [], acc, _, _ => by simp [lcL]
  | x :: xs, acc, h, hz => by
    have h1 := h x (.head _)
    rw [List.length_cons] at hz
    show lcL body (emb x :: xs.map emb) acc env = _
    unfold lcL
    rw [h1]
    cases hf : f x with
    | none =>
      dsimp only
      rw [lcL_pure (fun a ha => h a (.tail _ ha)) (by omega), List.filterMap_cons, hf]
    | some y =>
      dsimp only
      rw [if_pos (by omega), lcL_pure (fun a ha => h a (.tail _ ha)) (by rw [List.length_append]; simp; omega), List.filterMap_cons, hf, List.append_assoc]
      rfl
theorem lcL_map {α : Type} {emb : α → D} {body : D → Env → Out (Option D)} {f : α → D} {env : Env} {xs : List α} (h : ∀ a ∈ xs, body (emb a) env = .ok (some (f a)) env) (hz : xs.length ≤ sizeLine) :
    lcL body (xs.map emb) [] env = .ok (xs.map f) env := by
  rw [lcL_pure (f := fun a => some (f a)) h (by simpa using hz), List.nil_append]
  congr 1
  induction xs with
  | nil => rfl
  | cons x xs ih => rw [List.filterMap_cons, List.map_cons]; dsimp only; rw [ih (fun a ha => h a (.tail _ ha)) (by simp at hz; omega)]
theorem gxL_pure {α : Type} {emb : α → D} {body : D → Env → Out (Option Bool)} {p : α → Bool} {isAll : Bool} {env : Env} : ∀ {xs : List α}, (∀ a ∈ xs, body (emb a) env = .ok (some (p a)) env) →
    gxL isAll body (xs.map emb) env = .ok (if isAll then xs.all p else xs.any p) env
  | [], _ => by cases isAll <;> rfl
  | x :: xs, h => by
    show gxL isAll body (emb x :: xs.map emb) env = _
    unfold gxL
    rw [h x (.head _)]
    dsimp only
    rw [gxL_pure fun a ha => h a (.tail _ ha)]
    cases isAll <;> cases hp : p x <;> simp [hp]
theorem rng_map {n : Nat} : ∀ {lo : Int}, rngD lo n = (List.range n).map fun i : Nat => D.int (lo + (i : Int)) := by
  induction n with
  | zero => intro lo; rfl
  | succ n ih =>
    intro lo
    rw [List.range_succ_eq_map, List.map_cons, List.map_map]
    show D.int lo :: rngD (lo + 1) n = _
    rw [ih]
    congr 1
    · simp
    · apply List.map_congr_left
      intro i _
      show D.int _ = D.int _
      congr 1
      simp
      omega
theorem whl_end {test : Env → Out Bool} {body : Env → Out Fl} {n : Nat} {env env' : Env} (h : test env = .ok false env') : whlL test body (n + 1) env = .ok .next env' := by
  unfold whlL; rw [h]; rfl
theorem whl_go {test : Env → Out Bool} {body : Env → Out Fl} {n : Nat} {env env' env'' : Env} (h : test env = .ok true env') (hb : body env' = .ok .next env'') : whlL test body (n + 1) env = whlL test body n env'' := by
  conv => lhs; unfold whlL
  rw [h, Out.bind_ok, if_pos rfl, hb]
end Ev
end
section
set_option maxRecDepth 100000
/-! calls of values -/
namespace Ev
open PySem
theorem cm1 {F : CF} {f : Nat} {lend : List Bool} {a r : D} {outs env : Env} (h : F f [.val a] = .ret (.val r) outs) : callM F f lend [.val a] env = .ok (.val r) env := by
  unfold callM
  have e : freezeAll [A.val a] lend env = .ok [.val a] env := by
    rcases lend with _ | ⟨_ | _, _⟩ <;> rfl
  rw [e]
  simp only [Out.bind_ok, paramsOf, h, lentOf]
  simp
  rcases outs with _ | ⟨o, os⟩ <;> rfl
theorem fz1 {a : D} {as : List A} {lend : List Bool} {env env' : Env} {r : List A} (h : ∀ lend, freezeAll as lend env = .ok r env') : freezeAll (A.val a :: as) lend env = .ok (.val a :: r) env' := by
  rcases lend with _ | ⟨_ | _, _⟩
  · show (Out.ok a env).bind _ = _
    rw [Out.bind_ok, h]; rfl
  · show (Out.ok a env).bind _ = _
    rw [Out.bind_ok, h]; rfl
  · show (freezeAll as _ env).bind _ = _
    rw [h]; rfl
theorem fz0 {lend : List Bool} {env : Env} : freezeAll [] lend env = .ok [] env := by rcases lend with _ | ⟨_ | _, _⟩ <;> rfl
theorem bk_vals {ds : List D} {env : Env} : ∀ {outs : Env}, backOuts (ds.map A.val) outs env = env := by
  induction ds with
  | nil => intro outs; cases outs <;> rfl
  | cons d ds ih => intro outs; cases outs with
    | nil => rfl
    | cons o os => exact ih
theorem fz_vals {ds : List D} {env : Env} : ∀ {lend : List Bool}, freezeAll (ds.map A.val) lend env = .ok (ds.map A.val) env := by
  induction ds with
  | nil => intro lend; exact fz0
  | cons d ds ih => intro lend; exact fz1 fun l => ih
theorem ps_vals {ds : List D} {env : Env} : paramsOf (ds.map A.val) env = some (ds.map Sl.val) := by
  induction ds with
  | nil => rfl
  | cons d ds ih =>
    show (match some (Sl.val d), paramsOf (ds.map A.val) env with | some s, some r => some (s :: r) | _, _ => none) = _
    rw [ih]; rfl
theorem lt_vals {ds : List D} : lentOf (ds.map A.val) = [] := by
  induction ds with
  | nil => rfl
  | cons d ds ih => exact ih
/-- a call whose things are known values -/
theorem cm_vals {F : CF} {f : Nat} {lend : List Bool} {ds : List D} {r : D} {outs env : Env} (h : F f (ds.map Sl.val) = .ret (.val r) outs) : callM F f lend (ds.map A.val) env = .ok (.val r) env := by
  unfold callM
  rw [fz_vals]
  simp only [Out.bind_ok, ps_vals, h, lt_vals, bk_vals]
  simp
theorem cm_valsx {F : CF} {f : Nat} {lend : List Bool} {ds : List D} {x : Exn} {outs env : Env} (h : F f (ds.map Sl.val) = .exn x outs) : callM F f lend (ds.map A.val) env = .exn x env := by
  unfold callM
  rw [fz_vals]
  simp only [Out.bind_ok, ps_vals, h, lt_vals, bk_vals]
  simp
/-- what a def answers at values -/
def CR.is (r : D) : CR → Prop
  | .ret (.val x) _ => x = r
  | _ => False
@[simp] theorem CR.is_ret {r x : D} {o : Env} : CR.is r (.ret (.val x) o) = (x = r) := rfl
def Ans (F : CF) (f : Nat) (ds : List D) (r : D) : Prop := CR.is r (F f (ds.map Sl.val))
theorem Ans.get {F : CF} {f : Nat} {ds : List D} {r : D} (h : Ans F f ds r) : ∃ outs, F f (ds.map Sl.val) = .ret (.val r) outs := by
  unfold Ans at h
  cases e : F f (ds.map Sl.val) with
  | ret a o =>
    rw [e] at h
    cases a with
    | val x => exact ⟨o, by rw [show x = r from h]⟩
    | own _ => exact h.elim
    | tmp _ => exact h.elim
  | exn _ _ => rw [e] at h; exact h.elim
  | stuck => rw [e] at h; exact h.elim
theorem Ans.c {F : CF} {f : Nat} {ds : List D} {r : D} (h : Ans F f ds r) {lend : List Bool} {env : Env} : callM F f lend (ds.map A.val) env = .ok (.val r) env := by
  obtain ⟨outs, h⟩ := h.get; exact cm_vals h
theorem Ans.c1 {F : CF} {f : Nat} {a r : D} (h : Ans F f [a] r) {lend : List Bool} {env : Env} : callM F f lend [.val a] env = .ok (.val r) env := h.c
theorem Ans.c2 {F : CF} {f : Nat} {a b r : D} (h : Ans F f [a, b] r) {lend : List Bool} {env : Env} : callM F f lend [.val a, .val b] env = .ok (.val r) env := h.c
theorem Ans.c3 {F : CF} {f : Nat} {a b c r : D} (h : Ans F f [a, b, c] r) {lend : List Bool} {env : Env} : callM F f lend [.val a, .val b, .val c] env = .ok (.val r) env := h.c
theorem Ans.c4 {F : CF} {f : Nat} {a b c d r : D} (h : Ans F f [a, b, c, d] r) {lend : List Bool} {env : Env} : callM F f lend [.val a, .val b, .val c, .val d] env = .ok (.val r) env := h.c
theorem Ans.c5 {F : CF} {f : Nat} {a b c d e r : D} (h : Ans F f [a, b, c, d, e] r) {lend : List Bool} {env : Env} : callM F f lend [.val a, .val b, .val c, .val d, .val e] env = .ok (.val r) env := h.c
theorem eqStr {a b : Str} (h : ((PyData.str a).canLay0 && (PyData.str b).canLay0) = true) : D.eq? (.str a) (.str b) = some (PyData.eqv (.str a) (.str b)) := by
  have h1 : (PyData.str a).canLay0 = true := (Bool.and_eq_true _ _ ▸ h).1
  have h2 : (PyData.str b).canLay0 = true := (Bool.and_eq_true _ _ ▸ h).2
  unfold D.eq?
  rw [(qd_strOf h1).eqOk (by decide), (qd_strOf h2).eqOk (by decide)]
  rfl
/-- all over a generator whose turns leave the slots -/
theorem gxL_all {α : Type} {emb : α → D} {body : D → Env → Out (Option Bool)} {f : α → Bool} {env : Env} : ∀ {xs : List α}, (∀ a ∈ xs, body (emb a) env = .ok (some (f a)) env) → gxL true body (xs.map emb) env = .ok (xs.all f) env
  | [], _ => rfl
  | x :: xs, h => by
    show gxL true body (emb x :: xs.map emb) env = _
    unfold gxL
    rw [h x (.head _)]
    cases hf : f x with
    | false => simp [hf]
    | true =>
      dsimp only
      rw [if_pos rfl, gxL_all fun a ha => h a (.tail _ ha)]
      simp [hf]
theorem sl_ge : 1048576 ≤ sizeLine := by decide
theorem sl_le {n : Nat} (h : n ≤ 1000) : n ≤ sizeLine := Nat.le_trans h (Nat.le_trans (by decide) sl_ge)
theorem sl_lt {n : Nat} (h : n < 1000) : n < sizeLine := Nat.lt_of_lt_of_le h (Nat.le_trans (by decide) sl_ge)
theorem sl_le6 {n : Nat} (h : n ≤ 1000000) : n ≤ sizeLine := Nat.le_trans h (Nat.le_trans (by decide) sl_ge)
theorem sl_lt6 {n : Nat} (h : n < 1000000) : n < sizeLine := Nat.lt_of_lt_of_le h (Nat.le_trans (by decide) sl_ge)
theorem in62_of {n : Int} (h : n.natAbs < 2 ^ 62) : in62 n = true := Nat.ble_eq_true_of_le (by omega)
theorem in62_nat {n : Nat} (h : n ≤ 1000) : in62 (n : Int) = true := in62_of (by omega)
theorem filt_eq {α β : Type} {f : α → β} {p : α → Bool} : ∀ {xs : List α}, xs.filterMap (fun x => if p x then some (f x) else none) = (xs.filter p).map f
  | [] => rfl
  | x :: xs => by
    have := filt_eq (f := f) (p := p) (xs := xs)
    cases h : p x <;> simp [List.filterMap_cons, h, this]
@[simp] theorem fb_add {i j : Int} : fBin .add (.int i) (.int j) = some (.val (.int (i + j))) := rfl
@[simp] theorem fb_sub {i j : Int} : fBin .sub (.int i) (.int j) = some (.val (.int (i - j))) := rfl
theorem fb_mul {i j : Int} (h : mulOk i j = true) : fBin .mul (.int i) (.int j) = some (.val (.int (i * j))) := by
  show (if mulOk i j then some (BR.val (.int (i * j))) else none).map BR.a = _
  rw [if_pos h]; rfl
theorem fb_fdiv {i j : Int} (h : fdivOk j = true) : fBin .fdiv (.int i) (.int j) = some (.val (.int (i.fdiv j))) := by
  show (if fdivOk j then some (BR.val (.int (i.fdiv j))) else none).map BR.a = _
  rw [if_pos h]; rfl
theorem fb_mod {i j : Int} (h : j ≠ 0) : fBin .mod (.int i) (.int j) = some (.val (.int (i.fmod j))) := by
  show (if j = 0 then none else some (BR.val (.int (i.fmod j)))).map BR.a = _
  rw [if_neg h]; rfl
end Ev
end
section
set_option maxRecDepth 100000
/-! operators, comparisons, built-in functions at values: for simp -/
namespace Ev
open PySem
@[simp] theorem br_val {d : D} : BR.a (.val d) = .val d := rfl
@[simp] theorem br_new {d : D} : BR.a (.new d) = .tmp d := rfl
@[simp] theorem c_lt {i j : Int} : fCmp .lt (.int i) (.int j) = some (.val (.bl (decide (i < j)))) := rfl
@[simp] theorem c_le {i j : Int} : fCmp .le (.int i) (.int j) = some (.val (.bl (decide (i ≤ j)))) := rfl
@[simp] theorem c_gt {i j : Int} : fCmp .gt (.int i) (.int j) = some (.val (.bl (decide (j < i)))) := rfl
@[simp] theorem c_ge {i j : Int} : fCmp .ge (.int i) (.int j) = some (.val (.bl (decide (j ≤ i)))) := rfl
@[simp] theorem c_eq {a b : D} : fCmp .eq a b = (a.eq? b).map fun c => .val (.bl c) := by cases a <;> cases b <;> rfl
@[simp] theorem c_ne {a b : D} : fCmp .ne a b = (a.eq? b).map fun c => .val (.bl (!c)) := by
  have : cmpF .ne a b = (a.eq? b).map (!·) := by cases a <;> cases b <;> rfl
  unfold fCmp
  rw [this]
  cases a.eq? b <;> rfl
@[simp] theorem c_isN {a : D} : fCmp .is a .non = some (.val (.bl a.isNon)) := by cases a <;> rfl
@[simp] theorem c_isnN {a : D} : fCmp .isn a .non = some (.val (.bl (!a.isNon))) := by cases a <;> rfl
@[simp] theorem c_isB {a b : Bool} : fCmp .is (.bl a) (.bl b) = some (.val (.bl (a == b))) := rfl
@[simp] theorem c_isnB {a b : Bool} : fCmp .isn (.bl a) (.bl b) = some (.val (.bl (a != b))) := rfl
@[simp] theorem n_non : D.isNon .non = true := rfl
@[simp] theorem n_int {i : Int} : D.isNon (.int i) = false := rfl
@[simp] theorem n_bl {i : Bool} : D.isNon (.bl i) = false := rfl
@[simp] theorem n_tup {i : List D} : D.isNon (.tup i) = false := rfl
@[simp] theorem n_lst {i : List D} : D.isNon (.lst i) = false := rfl
@[simp] theorem n_str {i : Str} : D.isNon (.str i) = false := rfl
@[simp] theorem x_tup {xs : List D} {i : Int} : fIdx (.tup xs) (.int i) = (L2.atI xs i).map .val := rfl
@[simp] theorem x_lst {xs : List D} {i : Int} : fIdx (.lst xs) (.int i) = (L2.atI xs i).map .val := rfl
@[simp] theorem b_len {xs : List D} : biF .len [.lst xs] = some (.val (.int xs.length)) := rfl
@[simp] theorem b_lent {xs : List D} : biF .len [.tup xs] = some (.val (.int xs.length)) := rfl
@[simp] theorem b_abs {i : Int} : biF .abs [.int i] = some (.val (.int i.natAbs)) := by
  show some (BR.val (.int (if i < 0 then -i else i))) = _
  have e : (if i < 0 then -i else i) = (i.natAbs : Int) := by split <;> omega
  rw [e]
@[simp] theorem b_int {i : Int} : biF .int [.int i] = some (.val (.int i)) := rfl
@[simp] theorem b_listl {xs : List D} : biF .list [.lst xs] = some (.new (.lst xs)) := rfl
@[simp] theorem b_listt {xs : List D} : biF .list [.tup xs] = some (.new (.lst xs)) := rfl
@[simp] theorem b_tupl {xs : List D} : biF .tuple [.lst xs] = some (.val (.tup xs)) := rfl
@[simp] theorem b_tupt {xs : List D} : biF .tuple [.tup xs] = some (.val (.tup xs)) := rfl
@[simp] theorem b_max2 {i j : Int} : biF .max2 [.int i, .int j] = some (.val (.int (max i j))) := by
  show some (BR.val (.int (if j > i then j else i))) = _
  have e : (if j > i then j else i) = max i j := by split <;> omega
  rw [e]
@[simp] theorem b_min2 {i j : Int} : biF .min2 [.int i, .int j] = some (.val (.int (min i j))) := by
  show some (BR.val (.int (if j < i then j else i))) = _
  have e : (if j < i then j else i) = min i j := by split <;> omega
  rw [e]
@[simp] theorem b_sum {xs : List D} : biF .sum [.lst xs] = (asInts xs).map fun ns => .val (.int ns.sum) := rfl
@[simp] theorem b_all {xs : List D} : biF .all [.lst xs] = (asBools xs).map fun bs => .val (.bl (bs.all id)) := rfl
@[simp] theorem b_any {xs : List D} : biF .any [.lst xs] = (asBools xs).map fun bs => .val (.bl (bs.any id)) := rfl
@[simp] theorem b_isInt {i : Int} : biF .isInt [.int i] = some (.val (.bl true)) := rfl
@[simp] theorem b_isBool {i : Int} : biF .isBool [.int i] = some (.val (.bl false)) := rfl
@[simp] theorem b_isTup {i : List D} : biF .isTuple [.tup i] = some (.val (.bl true)) := rfl
@[simp] theorem b_isTupl {i : List D} : biF .isTuple [.lst i] = some (.val (.bl false)) := rfl
@[simp] theorem b_isTupn : biF .isTuple [.non] = some (.val (.bl false)) := rfl
@[simp] theorem tr_int {i : Int} : D.truth (.int i) = some (i != 0) := rfl
@[simp] theorem tr_bl {i : Bool} : D.truth (.bl i) = some i := rfl
@[simp] theorem tr_tup {i : List D} : D.truth (.tup i) = some (!i.isEmpty) := rfl
@[simp] theorem tr_lst {i : List D} : D.truth (.lst i) = some (!i.isEmpty) := rfl
@[simp] theorem tr_non : D.truth .non = some false := rfl
@[simp] theorem au_add {i j : Int} : augF .add (.int i) (.int j) = some (.int (i + j)) := rfl
@[simp] theorem au_sub {i j : Int} : augF .sub (.int i) (.int j) = some (.int (i - j)) := rfl
/-- what an owned slot holds -/
def lkO (o : Option (Option Sl)) : Option D := match o with
  | some (some s) => some s.d
  | _ => none
@[simp] theorem lk_own {i : Nat} {env : Env} : (A.own i).look env = lkO env[i]? := by
  unfold lkO
  show (match env[i]? with | some (some s) => some s.d | _ => none) = _
  cases env[i]? with
  | none => rfl
  | some s => cases s <;> rfl
@[simp] theorem lk_some {s : Sl} : lkO (some (some s)) = some s.d := rfl
def two2 (env : Env) (f : D → D → Option A) (a b : Option D) : Out A := match a, b with
  | some d, some e => match f d e with
    | some r => .ok r env
    | none => .stuck
  | _, _ => .stuck
theorem two_eq {env : Env} {f : D → D → Option A} {x y : A} : two env f x y = two2 env f (x.look env) (y.look env) := rfl
@[simp] theorem two_ot {env : Env} {f : D → D → Option A} {i : Nat} {d : D} : two env f (.own i) (.tmp d) = two2 env f (lkO env[i]?) (some d) := by rw [two_eq, lk_own]; rfl
@[simp] theorem two_oo {env : Env} {f : D → D → Option A} {i j : Nat} : two env f (.own i) (.own j) = two2 env f (lkO env[i]?) (lkO env[j]?) := by rw [two_eq, lk_own, lk_own]
@[simp] theorem two_vo {env : Env} {f : D → D → Option A} {j : Nat} {d : D} : two env f (.val d) (.own j) = two2 env f (some d) (lkO env[j]?) := by rw [two_eq, lk_own]; rfl
@[simp] theorem two_to {env : Env} {f : D → D → Option A} {j : Nat} {d : D} : two env f (.tmp d) (.own j) = two2 env f (some d) (lkO env[j]?) := by rw [two_eq, lk_own]; rfl
@[simp] theorem two2_ss {env : Env} {f : D → D → Option A} {d e : D} : two2 env f (some d) (some e) = (match f d e with | some r => .ok r env | none => .stuck) := by
  rw [show two2 env f (some d) (some e) = (match f d e with | some r => .ok r env | none => .stuck) from rfl]
def kEnum2 (o : Out D) : Out (List D) := o.bind fun d env => match d with
    | .lst ds => .ok (enumD 0 ds) env
    | .tup ds => .ok (enumD 0 ds) env
    | _ => .stuck
@[simp] theorem k_enumo {i : Nat} {env : Env} : kEnum (.ok (.own i) env) = kEnum2 ((A.own i).freeze env) := rfl
@[simp] theorem k_enumtm {d : D} {env : Env} : kEnum (.ok (.tmp d) env) = kEnum2 (.ok d env) := rfl
@[simp] theorem k_enum2l {ds : List D} {env : Env} : kEnum2 (.ok (.lst ds) env) = .ok (enumD 0 ds) env := rfl
@[simp] theorem k_enum2t {ds : List D} {env : Env} : kEnum2 (.ok (.tup ds) env) = .ok (enumD 0 ds) env := rfl
/-- methods of texts -/
def kSm3 (m : Sm) (s : Str) (env : Env) (o : Option (List D)) : Out A := match o with
  | some ds => kBi3 env (smF m s ds)
  | none => .stuck
def kSm2 (m : Sm) (s : Str) (o : Out (List A)) : Out A := o.bind fun as env => kSm3 m s env (lookAll as env)
def kSm (P : Par) (m : Sm) (es : Es) (o : Out A) : Out A := o.bind fun x env => match x with
  | .val (.str s) => kSm2 m s (evAs P es env)
  | _ => .stuck
@[simp] theorem s_sm {P : Par} {m : Sm} {o : E} {es : Es} {env : Env} : evA P (.sm m o es) env = kSm P m es (evA P o env) := by
  simp only [evA]
  unfold kSm
  congr
@[simp] theorem k_sm {P : Par} {m : Sm} {es : Es} {s : Str} {env : Env} : kSm P m es (.ok (.val (.str s)) env) = kSm2 m s (evAs P es env) := rfl
@[simp] theorem k_sm2 {m : Sm} {s : Str} {as : List A} {env : Env} : kSm2 m s (.ok as env) = kSm3 m s env (lookAll as env) := rfl
@[simp] theorem k_sm3 {m : Sm} {s : Str} {ds : List D} {env : Env} : kSm3 m s env (some ds) = kBi3 env (smF m s ds) := rfl
/-- a < b < c -/
def kCh4 (env : Env) (o : Option Bool) : Out A := match o with
  | some r => .ok (.val (.bl r)) env
  | none => .stuck
@[simp] theorem k_ch4 {env : Env} {r : Bool} : kCh4 env (some r) = .ok (.val (.bl r)) env := rfl
def kCd (p : Co) (y : A) (r : Out A) : Out A := r.bind fun z env => match y.look env, z.look env with
        | some e, some g => kCh4 env (cmpF p e g)
        | _, _ => .stuck
def kCc (P : Par) (p : Co) (c : E) (y : A) (env : Env) (o : Option Bool) : Out A := match o with
  | some b => if b then kCd p y (evA P c env) else .ok (.val (.bl false)) env
  | none => .stuck
def kCb (P : Par) (o p : Co) (c : E) (x : A) (r : Out A) : Out A := r.bind fun y env => match x.look env, y.look env with
    | some d, some e => kCc P p c y env (cmpF o d e)
    | _, _ => .stuck
def kCa (P : Par) (o p : Co) (b c : E) (r : Out A) : Out A := r.bind fun x env => kCb P o p c x (evA P b env)
@[simp] theorem s_chain {P : Par} {o p : Co} {a b c : E} {env : Env} : evA P (.chain o p a b c) env = kCa P o p b c (evA P a env) := by
  simp only [evA]
  unfold kCa
  congr 1
  all_goals first
    | rfl
    | skip
  all_goals (funext x env1; unfold kCb; congr 1)
  all_goals first
    | rfl
    | skip
  all_goals (funext y env2; cases x.look env2 <;> try rfl)
  all_goals (rename_i d; cases y.look env2 <;> try rfl)
  all_goals (rename_i e; dsimp only; unfold kCc; cases cmpF o d e <;> try rfl)
  all_goals (rename_i q; cases q <;> try rfl)
  all_goals (show _ = kCd p y (evA P c env2); unfold kCd; dsimp only; congr 1)
  all_goals first
    | rfl
    | skip
  all_goals (funext z env3; cases y.look env3 <;> cases z.look env3 <;> try rfl)
  all_goals (rename_i e1 g1; dsimp only; cases cmpF p e1 g1 <;> rfl)
@[simp] theorem k_ca {P : Par} {o p : Co} {b c : E} {x : A} {env : Env} : kCa P o p b c (.ok x env) = kCb P o p c x (evA P b env) := rfl
@[simp] theorem k_cb {P : Par} {o p : Co} {c : E} {d e : D} {env : Env} : kCb P o p c (.val d) (.ok (.val e) env) = kCc P p c (.val e) env (cmpF o d e) := rfl
@[simp] theorem k_cc {P : Par} {p : Co} {c : E} {y : A} {env : Env} {b : Bool} : kCc P p c y env (some b) = if b then kCd p y (evA P c env) else .ok (.val (.bl false)) env := rfl
@[simp] theorem k_cd {p : Co} {e g : D} {env : Env} : kCd p (.val e) (.ok (.val g) env) = kCh4 env (cmpF p e g) := rfl
@[simp] theorem f_lt {i j : Int} : cmpF .lt (.int i) (.int j) = some (decide (i < j)) := rfl
@[simp] theorem f_le {i j : Int} : cmpF .le (.int i) (.int j) = some (decide (i ≤ j)) := rfl
/-- dict displays -/
def kDsp (o : Out (List D)) : Out A := o.bind fun ds env => match pairD ds with
    | some ps => if ps.length ≤ 15 then .ok (.tmp (.dic false (dmerge [] ps))) env else .stuck
    | none => .stuck
@[simp] theorem s_dsp {P : Par} {es : Es} {env : Env} : evA P (.dsp es) env = kDsp (evVs P es env) := by simp only [evA]; rfl
theorem k_dsp {ds : List D} {ps : List (D × D)} {env : Env} (h : pairD ds = some ps) (hl : ps.length ≤ 15) : kDsp (.ok ds env) = .ok (.tmp (.dic false (dmerge [] ps))) env := by
  unfold kDsp
  rw [Out.bind_ok, h]
  dsimp only
  rw [if_pos hl]
/-- truth of what is in hand -/
def truD (env : Env) (o : Option Bool) : Out Bool := match o with
  | some b => .ok b env
  | none => .stuck
@[simp] theorem tru_some {env : Env} {b : Bool} : truD env (some b) = .ok b env := rfl
def truO (env : Env) (o : Option D) : Out Bool := match o with
  | some d => truD env d.truth
  | none => .stuck
@[simp] theorem truo_some {env : Env} {d : D} : truO env (some d) = truD env d.truth := rfl
@[simp] theorem t_own {i : Nat} {env : Env} : tru1 (.own i) env = truO env (lkO env[i]?) := by
  unfold tru1
  rw [lk_own]
  cases lkO env[i]? <;> rfl
@[simp] theorem t_tmp {d : D} {env : Env} : tru1 (.tmp d) env = truD env d.truth := rfl
/-- lengths that are small -/
theorem fb_cat {xs ys : List D} (h : xs.length + ys.length ≤ 1000000) : fBin .add (.tup xs) (.tup ys) = some (.val (.tup (xs ++ ys))) := by
  show (if xs.length + ys.length ≤ sizeLine then some (BR.val (.tup (xs ++ ys))) else none).map BR.a = _
  rw [if_pos (sl_le6 h)]; rfl
theorem fb_catl {xs ys : List D} (h : xs.length + ys.length ≤ 1000000) : fBin .add (.lst xs) (.lst ys) = some (.tmp (.lst (xs ++ ys))) := by
  show (if xs.length + ys.length ≤ sizeLine then some (BR.new (.lst (xs ++ ys))) else none).map BR.a = _
  rw [if_pos (sl_le6 h)]; rfl
theorem mA_app {i : Nat} {v : D} {xs : List D} {env : Env} (h : xs.length < 1000000) : mutA .append i [v] env (some (some (.own (.lst xs)))) = .ok (.val .non) (env.set i (some (.own (.lst (xs ++ [v]))))) := by
  rw [m_app, if_pos (sl_lt6 h)]
theorem eq_self {d : D} (h : d.eqOk = true) (hs : D.eqv d d = true) : D.eq? d d = some true := by
  unfold D.eq?; rw [h, hs]; rfl
/-- last of a list -/
theorem atI_m1 {α : Type} {xs : List α} {x : α} : L2.atI (xs ++ [x]) (-1) = some x := by
  unfold L2.atI L2.ixN
  have e : ((-1 : Int) + ((xs.length : Int) + 1)).toNat = xs.length := by omega
  have h : (1 : Int) ≤ (xs.length : Int) + 1 := by omega
  simp [h, e]
theorem mo_r {i j : Int} (h1 : -(2 ^ 64) < j) (h2 : j < 2 ^ 64) : mulOk i j = true := by
  unfold mulOk
  rw [s64_of h1 h2]; simp
theorem mo_l {i j : Int} (h1 : -(2 ^ 64) < i) (h2 : i < 2 ^ 64) : mulOk i j = true := by
  unfold mulOk
  rw [s64_of h1 h2]; simp
theorem fd_ne {j : Int} (h1 : j ≠ 0) (h2 : j.natAbs < 2 ^ 200) : fdivOk j = true := by
  unfold fdivOk
  have h4 : j.natAbs.log2 < 200 := (Nat.log2_lt (by omega)).mpr h2
  have h5 : j.natAbs.log2 < 9000 := Nat.lt_of_lt_of_le h4 (by decide)
  rw [decide_eq_true h1, decide_eq_true h5]; simp
theorem fd_ok {j : Int} (h1 : 0 < j) (h2 : j < 2 ^ 200) : fdivOk j = true := fd_ne (by omega) (by omega)
theorem mo_big {i j : Int} (h1 : i.natAbs < 2 ^ 1000) (h2 : j.natAbs < 2 ^ 1000) : mulOk i j = true := by
  have key : ∀ x : Int, x.natAbs < 2 ^ 1000 → x.natAbs.log2 ≤ 1000 := fun x h => by
    by_cases h0 : x.natAbs = 0
    · rw [h0]; decide
    · exact Nat.le_of_lt ((Nat.log2_lt h0).mpr h)
  have a := key i h1
  have b := key j h2
  unfold mulOk
  rw [decide_eq_true (show i.natAbs.log2 + j.natAbs.log2 < 1000000 from Nat.lt_of_le_of_lt (Nat.add_le_add a b) (by decide))]
  simp
end Ev
end
section
/-! the greatest common divisor, by remainders -/
namespace Ev
open PySem
theorem fmod_abs {a b : Int} (hb : b ≠ 0) : (a.fmod b).natAbs < b.natAbs := by
  rcases Int.lt_or_gt_of_ne hb with h | h
  · have h1 : (a.fmod b) = -((-a).fmod (-b)) := by rw [Int.neg_fmod_neg]; omega
    have h2 := Int.fmod_lt_of_pos (-a) (b := -b) (by omega)
    have h3 := Int.fmod_nonneg_of_pos (-a) (b := -b) (by omega)
    omega
  · have h2 := Int.fmod_lt_of_pos a (b := b) h
    have h3 := Int.fmod_nonneg_of_pos a (b := b) h
    omega
theorem gcd_fmod {a b : Int} : Int.gcd b (a.fmod b) = Int.gcd a b := by
  rw [Int.fmod_def, Int.gcd_comm a b]
  exact Int.gcd_sub_mul_left_right ..
end Ev
end
section
set_option maxRecDepth 100000
/-! the loop that finds a common divisor -/
namespace Ev
open PySem
theorem gcd_loop {test : Env → Out Bool} {body : Env → Out Fl} (ht : ∀ a b : Int, test [some (.val (.int a)), some (.val (.int b))] = .ok (decide (b ≠ 0)) [some (.val (.int a)), some (.val (.int b))])
    (hb : ∀ a b : Int, b ≠ 0 → body [some (.val (.int a)), some (.val (.int b))] = .ok .next [some (.val (.int b)), some (.val (.int (a.fmod b)))]) :
    ∀ {n m : Nat} {a b : Int}, b.natAbs ≤ n → n < m → ∃ g : Int, g.natAbs = Int.gcd a b ∧ whlL test body m [some (.val (.int a)), some (.val (.int b))] = .ok .next [some (.val (.int g)), some (.val (.int 0))]
  | n, 0, a, b, _, hm => absurd hm (Nat.not_lt_zero n)
  | n, m + 1, a, b, hn, hm => by
    by_cases h : b = 0
    · subst h
      exact ⟨a, by simp, whl_end (by rw [ht]; simp)⟩
    · have h1 := fmod_abs (a := a) h
      cases n with
      | zero => omega
      | succ n =>
        obtain ⟨g, hg, w⟩ := gcd_loop ht hb (n := n) (m := m) (a := b) (b := a.fmod b) (by omega) (by omega)
        exact ⟨g, by rw [hg, gcd_fmod], by rw [whl_go (by rw [ht]; simp [h]) (hb a b h)]; exact w⟩
end Ev
end
section
/-! fractions in lowest terms -/
namespace Ev
open PySem
/-- a fraction in lowest terms -/
def frac (a b : Int) : Int × Int := (a.fdiv (Int.gcd a b), b.fdiv (Int.gcd a b))
def prD (p : Int × Int) : D := .tup [.int p.1, .int p.2]
theorem frac_rat {a b : Int} (hb : 0 < b) : frac a b = ((Rat.divInt a b).num, ((Rat.divInt a b).den : Int)) := by
  unfold frac
  have h2 : 0 < Int.gcd a b := Int.gcd_pos_of_ne_zero_right a (by omega)
  have h4 : (0 : Int) ≤ (Int.gcd a b : Nat) := by omega
  rw [Rat.num_divInt, Rat.den_divInt, if_neg (by omega), Int.sign_eq_one_of_pos hb, Int.gcd_comm b a, Int.fdiv_eq_ediv_of_nonneg _ h4, Int.fdiv_eq_ediv_of_nonneg _ h4]
  simp [Int.natAbs_of_nonneg (Int.le_of_lt hb)]
theorem frac_uniq {a b c d : Int} (hb : 0 < b) (hd : 0 < d) (h : a * d = c * b) : frac a b = frac c d := by
  rw [frac_rat hb, frac_rat hd, (Rat.divInt_eq_divInt_iff (by omega) (by omega)).mpr h]
theorem frac_pos {a b : Int} (hb : 0 < b) : 0 < (frac a b).2 := by
  rw [frac_rat hb]
  have := (Rat.divInt a b).den_pos
  simp; omega
theorem frac_cross {a b : Int} (hb : 0 < b) : (frac a b).1 * b = a * (frac a b).2 := by
  have h := frac_rat (a := a) hb
  have h1 : Rat.divInt (frac a b).1 (frac a b).2 = Rat.divInt a b := by rw [h]; exact Rat.num_divInt_den _
  have h2 := frac_pos (a := a) hb
  exact (Rat.divInt_eq_divInt_iff (by omega) (by omega)).mp h1
theorem frac_le {a b : Int} (hb : 0 < b) : (frac a b).2 ≤ b := by
  unfold frac
  have h4 : (0 : Int) ≤ (Int.gcd a b : Nat) := by omega
  show b.fdiv _ ≤ b
  rw [Int.fdiv_eq_ediv_of_nonneg _ h4]
  exact Int.ediv_le_self _ (by omega)
theorem frac_abs {a b : Int} : (frac a b).1.natAbs ≤ a.natAbs := by
  unfold frac
  have h4 : (0 : Int) ≤ (Int.gcd a b : Nat) := by omega
  show (a.fdiv _).natAbs ≤ _
  rw [Int.fdiv_eq_ediv_of_nonneg _ h4]
  exact Int.natAbs_ediv_le_natAbs ..
theorem frac_one {w q : Int} (hq : 0 < q) : frac (w * q) q = (w, 1) := by
  rw [frac_uniq (c := w) (d := 1) hq (by omega) (by grind)]
  simp [frac]
theorem gcd_fits {a b : Int} (hb : 0 < b) (hb2 : b < 2 ^ 62) : fdivOk (Int.gcd a b : Int) = true := by
  have h1 : Int.gcd a b ≤ b.natAbs := Nat.le_of_dvd (by omega) (by have := Int.gcd_dvd_right (a := a) (b := b); exact Int.natAbs_dvd_natAbs.mpr this)
  have h2 : 0 < Int.gcd a b := Int.gcd_pos_of_ne_zero_right a (by omega)
  exact fd_ok (by omega) (by omega)
end Ev
end
section
set_option maxRecDepth 100000
/-! loops, once more -/
namespace Ev
open PySem
/-- a loop that folds, by places -/
theorem forL_foldI {α σ : Type} {emb : α → D} {body : D → Env → Out Fl} {f : σ → α → σ} {R : Nat → σ → Env → Prop} : ∀ {xs : List α} {i : Nat} {s : σ} {env : Env}, R i s env →
    (∀ j s a env, xs[j]? = some a → R (i + j) s env → ∃ env', (body (emb a) env = .ok .next env' ∨ body (emb a) env = .ok .cont env') ∧ R (i + j + 1) (f s a) env') →
    ∃ env', forL body (xs.map emb) env = .ok .next env' ∧ R (i + xs.length) (xs.foldl f s) env'
  | [], i, s, env, h0, _ => ⟨env, rfl, h0⟩
  | x :: xs, i, s, env, h0, hs => by
    obtain ⟨env1, h1, h2⟩ := hs 0 s x env rfl h0
    obtain ⟨env2, h3, h4⟩ := forL_foldI (xs := xs) (i := i + 1) (f := f) (R := R) h2 fun j s a env ha hI => by
      have := hs (j + 1) s a env ha (by rw [show i + (j + 1) = i + 1 + j by omega]; exact hI)
      rw [show i + (j + 1) + 1 = i + 1 + j + 1 by omega] at this
      exact this
    refine ⟨env2, ?_, by rw [List.length_cons, show i + (xs.length + 1) = i + 1 + xs.length by omega]; exact h4⟩
    show forL body (emb x :: xs.map emb) env = _
    unfold forL
    rcases h1 with h1 | h1 <;> (rw [h1]; exact h3)
/-- a loop that appends -/
theorem forL_app {α : Type} {emb : α → D} {body : D → Env → Out Fl} {f : α → List D} {R : List D → Env → Prop} {N : Nat} : ∀ {xs : List α} {acc : List D} {env : Env}, R acc env → acc.length + (xs.flatMap f).length ≤ N →
    (∀ acc a env, a ∈ xs → acc.length + (f a).length ≤ N → R acc env → ∃ env', (body (emb a) env = .ok .next env' ∨ body (emb a) env = .ok .cont env') ∧ R (acc ++ f a) env') →
    ∃ env', forL body (xs.map emb) env = .ok .next env' ∧ R (acc ++ xs.flatMap f) env'
  | [], acc, env, h0, _, _ => ⟨env, rfl, by simpa using h0⟩
  | x :: xs, acc, env, h0, hn, hs => by
    rw [List.flatMap_cons, List.length_append] at hn
    obtain ⟨env1, h1, h2⟩ := hs acc x env (.head _) (by omega) h0
    obtain ⟨env2, h3, h4⟩ := forL_app (xs := xs) (f := f) (R := R) (N := N) h2 (by rw [List.length_append]; omega) fun acc a env ha hl hI => hs acc a env (.tail _ ha) hl hI
    refine ⟨env2, ?_, by rw [List.flatMap_cons, ← List.append_assoc]; exact h4⟩
    show forL body (emb x :: xs.map emb) env = _
    unfold forL
    rcases h1 with h1 | h1 <;> (rw [h1]; exact h3)
/-- a comprehension whose turns change the slots -/
theorem lcL_ex {α β : Type} {emb : α → D} {body : D → Env → Out (Option D)} {g : β → D} {I : Env → Prop} {Q : β → Prop} : ∀ {xs : List α} {acc : List D} {env : Env}, I env →
    (∀ a env, a ∈ xs → I env → ∃ y env', body (emb a) env = .ok (some (g y)) env' ∧ I env' ∧ Q y) → acc.length + xs.length ≤ 1000 →
    ∃ (ys : List β) (env' : Env), lcL body (xs.map emb) acc env = .ok (acc ++ ys.map g) env' ∧ I env' ∧ ys.length = xs.length ∧ ∀ y ∈ ys, Q y
  | [], acc, env, h0, _, _ => ⟨[], env, by simp [lcL], h0, rfl, fun _ h => (List.not_mem_nil h).elim⟩
  | x :: xs, acc, env, h0, hs, hn => by
    rw [List.length_cons] at hn
    obtain ⟨y, env1, h1, h2, h3⟩ := hs x env (.head _) h0
    obtain ⟨ys, env2, h4, h5, h6, h7⟩ := lcL_ex (xs := xs) (acc := acc ++ [g y]) (g := g) (I := I) (Q := Q) h2 (fun a env ha => hs a env (.tail _ ha)) (by rw [List.length_append]; simp; omega)
    refine ⟨y :: ys, env2, ?_, h5, by simp [h6], fun z hz => (List.mem_cons.mp hz).elim (fun e => by rw [e]; exact h3) (h7 z)⟩
    show lcL body (emb x :: xs.map emb) acc env = _
    unfold lcL
    rw [h1]
    dsimp only
    rw [if_pos (sl_lt (by omega)), h4, List.append_assoc]
    rfl
/-- places from f up to e -/
def idxs (f e : Nat) : List Nat := (List.range (e - f)).map (f + ·)
theorem rng_idxs {f e : Nat} : rngD (f : Int) ((e : Int) - (f : Int)).toNat = (idxs f e).map fun i : Nat => D.int i := by
  rw [rng_map, idxs, List.map_map, show ((e : Int) - (f : Int)).toNat = e - f by omega]
  apply List.map_congr_left
  intro i _
  show D.int _ = D.int _
  simp
theorem rng_range {n : Nat} : rngD 0 n = (List.range n).map fun i : Nat => D.int i := by
  rw [rng_map]; simp
theorem mem_idxs {f e i : Nat} : i ∈ idxs f e ↔ f ≤ i ∧ i < e := by
  unfold idxs
  simp only [List.mem_map, List.mem_range]
  constructor
  · rintro ⟨a, h, rfl⟩; omega
  · intro h; exact ⟨i - f, by omega, by omega⟩
theorem len_idxs {f e : Nat} : (idxs f e).length = e - f := by simp [idxs]
theorem get_idxs {f e j i : Nat} (h : (idxs f e)[j]? = some i) : i = f + j ∧ i < e := by
  unfold idxs at h
  rw [List.getElem?_map] at h
  by_cases hj : j < e - f
  · rw [List.getElem?_range hj] at h
    simp at h; omega
  · rw [List.getElem?_eq_none (by simp; omega)] at h; simp at h
theorem k_idxs {f e : Nat} {env : Env} (h : f ≤ 1000000) (h' : e ≤ 1000000) : kR22 (.val (.int (f : Int))) (.ok (.val (.int (e : Int))) env) = .ok ((idxs f e).map fun i : Nat => D.int i) env := by
  rw [k_r22 (in62_of (by omega)) (in62_of (by omega)), rng_idxs]
theorem k_range {n : Nat} {env : Env} (h : n ≤ 1000000) : kR1 (.ok (.val (.int (n : Int))) env) = .ok ((List.range n).map fun i : Nat => D.int i) env := by
  rw [k_r1 (in62_of (by omega)), Int.toNat_natCast, rng_range]
theorem cT {P : Par} {elt : E} {i : Nat} {c : Es} {d y : D} {env : Env} {b : Bool} (hi : env[i]? = some none) (hc : evC P c (env.set i (some (.val d))) = .ok b (env.set i (some (.val d))))
    (he : b = true → evA P elt (env.set i (some (.val d))) = .ok (.val y) (env.set i (some (.val d)))) : cTurn P elt (.nm i) c [i] d env = .ok (if b then some y else none) env := by
  have hl : i < env.length := (List.getElem?_eq_some_iff.mp hi).1
  rw [cTurn_some (env' := env.set i (some (.val d))) (by rw [b_nm, if_pos hl]), hc]
  have hw : (env.set i (some (.val d))).set i none = env := by
    rw [List.set_set]
    apply List.ext_getElem?
    intro j
    by_cases hj : i = j
    · subst hj; rw [List.getElem?_set_self hl, hi]
    · rw [List.getElem?_set_ne hj]
  cases b with
  | true => rw [k_c1, he rfl, k_c11, frz_val, k_c2, w_cons, w_nil, hw]; rfl
  | false => rw [k_c0, w_cons, w_nil, hw]; rfl
theorem set_back {α : Type} {env : List (Option α)} {i : Nat} {s : Option α} {x : Option α} (h : env[i]? = some s) : (env.set i x).set i s = env := by
  have hl : i < env.length := (List.getElem?_eq_some_iff.mp h).1
  rw [List.set_set]
  apply List.ext_getElem?
  intro j
  by_cases hj : i = j
  · subst hj; rw [List.getElem?_set_self hl, h]
  · rw [List.getElem?_set_ne hj]
/-- a comprehension whose turns leave the slots -/
theorem lc_gen {P : Par} {elt : E} {i : Nat} {c : Es} {it : It} {env : Env} {ds ys : List D} (hi : i < env.length) (hit : evI P it env = .ok ds env)
    (hb : lcL (cTurn P elt (.nm i) c [i]) ds [] (env.set i none) = .ok ys (env.set i none)) : evA P (.lc elt (.nm i) it c [i]) env = .ok (.tmp (.lst ys)) env := by
  rw [s_lc, hit, k_lc, w_cons, w_nil, hb, k_lc2]
  have h : env[i]? = some env[i] := List.getElem?_eq_getElem hi
  rw [bk_cons, h, k_bk, bk_nil, set_back h]
theorem flat_one {α β : Type} {f : α → β} : ∀ {xs : List α}, xs.flatMap (fun x => [f x]) = xs.map f
  | [] => rfl
  | x :: xs => by rw [List.flatMap_cons, flat_one]; rfl
theorem set_none {env : Env} {i : Nat} (hi : i < env.length) : (env.set i none)[i]? = some none := List.getElem?_set_self hi
end Ev
end
section
set_option maxRecDepth 100000
/-! texts that are whole -/
namespace Ev
open PySem
abbrev sOk (s : Str) : Prop := PyData.strOk s = true
theorem strOk_iff {s : Str} : sOk s ↔ ∀ c ∈ s.cps.toList, c < 0x110000 := by
  unfold sOk PyData.strOk
  rw [← Array.all_toList, List.all_eq_true]
  simp
theorem strOk_of (s : String) : sOk (Str.ofString s) := by
  rw [strOk_iff, Str.ofString_eq_toList]
  intro c hc
  simp at hc
  obtain ⟨d, _, rfl⟩ := hc
  have := d.valid
  unfold UInt32.isValidChar Nat.isValidChar at this
  show d.val.toNat < _
  omega
theorem strOk_app {a b : Str} (ha : sOk a) (hb : sOk b) : sOk (a ++ b) := by
  rw [strOk_iff] at *
  intro c hc
  have : (a ++ b).cps = a.cps ++ b.cps := rfl
  rw [this, Array.toList_append, List.mem_append] at hc
  exact hc.elim (ha c) (hb c)
theorem strOk_empty : sOk Str.empty := by rw [strOk_iff]; simp [Str.empty]
theorem strOk_join {a : Str} (ha : sOk a) : ∀ {ps : List Str}, (∀ p ∈ ps, sOk p) → sOk (Str.join a ps)
  | [], _ => strOk_empty
  | [x], h => h x (.head _)
  | x :: y :: r, h => by
    show sOk (x ++ a ++ Str.join a (y :: r))
    exact strOk_app (strOk_app (h x (.head _)) ha) (strOk_join ha fun p hp => h p (.tail _ hp))
theorem len_app {a b : Str} : (a ++ b).length = a.length + b.length := by
  show (a.cps ++ b.cps).size = _
  rw [Array.size_append]; rfl
theorem qd_str {s : Str} (h : sOk s) : Q 0 (.str s) := qd_strOf h
theorem eq_str {s : Str} (h : sOk s) : D.eq? (.str s) (.str s) = some true := by
  unfold D.eq?
  rw [(qd_str h).eqOk (by decide)]
  simp [D.eqv, D.py, PyData.eqv]
theorem len_int {i : Int} (h : i.natAbs.log2 < 1920) : (Str.ofString (toString i)).length ≤ 1921 := PyProof.Rows.int_text_len_1921 h
theorem log_small {i : Int} (h : i.natAbs < 2 ^ 62) : i.natAbs.log2 < 1920 := by
  by_cases h0 : i.natAbs = 0
  · rw [h0]; decide
  · have := (Nat.log2_lt h0 (k := 62)).mpr h
    exact Nat.lt_of_lt_of_le this (by decide)
theorem b_str {i : Int} (h : i.natAbs.log2 < 1920) : biF .str [.int i] = some (.val (.str (Str.ofString (toString i)))) := by
  show (if i.natAbs.log2 < 1920 then some (BR.val (.str (Str.ofString (toString i)))) else none) = _
  rw [if_pos h]
theorem fb_str {x y : Str} (h : x.length + y.length ≤ 1000000) : fBin .add (.str x) (.str y) = some (.val (.str (x ++ y))) := by
  show (if x.length + y.length ≤ sizeLine then some (BR.val (.str (x ++ y))) else none).map BR.a = _
  rw [if_pos (Nat.le_trans h (Nat.le_trans (by decide) sl_ge))]; rfl
theorem asStrs_map {α : Type} {f : α → Str} : ∀ {xs : List α}, asStrs (xs.map fun x => D.str (f x)) = some (xs.map f)
  | [] => rfl
  | x :: xs => by
    show (asStrs (xs.map fun x => D.str (f x))).map (f x :: ·) = _
    rw [asStrs_map]; rfl
theorem sm_join {α : Type} {f : α → Str} {a : Str} {xs : List α} (h : ((xs.map f).map (·.length)).sum + xs.length * a.length ≤ 16777216) : smF .join a [.lst (xs.map fun x => D.str (f x))] = some (.val (.str (Str.join a (xs.map f)))) := by
  show ((asStrs (xs.map fun x => D.str (f x))).bind fun ys => if (ys.map (·.length)).sum + ys.length * a.length ≤ 16777216 then some (BR.val (.str (Txt.join a ys))) else none) = _
  rw [asStrs_map, Option.bind_some, if_pos (by rw [List.length_map]; exact h), TL.join_eq]
theorem len_join {a : Str} : ∀ {ps : List Str}, (Str.join a ps).length ≤ (ps.map (·.length)).sum + ps.length * a.length
  | [] => by show 0 ≤ _; omega
  | [x] => by show x.length ≤ _; simp
  | x :: y :: r => by
    show (x ++ a ++ Str.join a (y :: r)).length ≤ _
    have := len_join (a := a) (ps := y :: r)
    rw [len_app, len_app]
    simp only [List.map_cons, List.sum_cons, List.length_cons, Nat.add_mul] at this ⊢
    omega
theorem sum_le {xs : List Nat} {c : Nat} (h : ∀ x ∈ xs, x ≤ c) : xs.sum ≤ xs.length * c := by
  induction xs with
  | nil => simp
  | cons x xs ih =>
    rw [List.sum_cons, List.length_cons, Nat.add_mul]
    have := ih fun y hy => h y (.tail _ hy)
    have := h x (.head _)
    omega
end Ev
end
section
set_option maxRecDepth 100000
/-! equal to itself -/
namespace Ev
open PySem
theorem Q.refl {n : Nat} {d : D} (h : Q n d) (hn : n ≤ 64) : D.eq? d d = some true := eq_self (h.eqOk hn) (SeqAt.eqv_refl _ h.1)
theorem pr_q (s : Int × Int) : Q 1 (prD s) := qd_tup fun y hy => by
  simp only [List.mem_cons, List.not_mem_nil, or_false] at hy
  rcases hy with rfl | rfl <;> exact qd_int _
/-- not a member -/
theorem Emb.nmem {α : Type} [DecidableEq α] {f : α → D} {n : Nat} (h : Emb f n) (hn : n < 64) (a : α) (xs : List α) : cmpF .nin (f a) (.lst (xs.map f)) = some (!decide (a ∈ xs)) := by
  have h1 := h.mem hn a xs
  rw [inn_lst] at h1
  rw [nin_lst]
  split at h1
  · rename_i hc
    rw [if_pos hc]
    simp only [Option.some.injEq] at h1 ⊢
    rw [h1]
  · cases h1
theorem asB_map {α : Type} {f : α → Bool} : ∀ {xs : List α}, asBools (xs.map fun x => D.bl (f x)) = some (xs.map f)
  | [] => rfl
  | x :: xs => by
    show (asBools (xs.map fun x => D.bl (f x))).map (f x :: ·) = _
    rw [asB_map]; rfl
theorem at_mem {α : Type} {xs : List α} {i : Nat} (h : i < xs.length) : ∃ d, L2.atI xs (i : Int) = some d ∧ d ∈ xs :=
  ⟨xs[i], atI_lit (List.getElem?_eq_getElem h), List.getElem_mem h⟩
end Ev
end
section
set_option maxRecDepth 100000
set_option maxHeartbeats 2000000
/-! try .. except X: within a suite: the pins ahead stay among the pins -/
namespace Ev
open PySem PySem.Spec L2
section
variable {X : Cx} {x : Str} {c : Value} {bodyT suiteT : List Stmt} {st0 : Stmt} {q1 q2 q3 : Pos} {tb : WX → TS} {ts : Addr → Value → Option Addr → TS} {Wo : WX}
theorem try_hot (hst : X.stack = X.env :: X.outer) (hfl : X.env.frame = some X.env.locals) (hcn : Names X x c) (htk : Takes X Wo)
    (hbd : ∀ (W : WX) (pn : List (Addr × Obj)) (xe : Value → Shared → Prop), (∀ q ∈ X.pn, q ∈ pn) → Takes (X.tr pn xe) W → PassesOwn (model X.prog X.w) X.A X.env xe → PSs (X.tr pn xe) bodyT (tb W))
    (hsu : ∀ (a : Addr) (oe : Obj) (cls : Value) (d : Option Addr) (pn : List (Addr × Obj)), Zc cls d oe → (∃ vs, oe.data = .fields vs) → PSs (X.suite a ((a, oe) :: pn)) (st0 :: suiteT) (ts a cls d)) :
    PS X (.Try bodyT [.ExceptHandler (some (.Name x q1)) none (st0 :: suiteT) q2] [] [] q3) (fun De σ H => tb (wOnly X.K c ts Wo De) De σ H) := by
  constructor
  intro pins s σ H De Iv hrun
  have okI := Iv.ok
  have frames : X.A.frames = some (X.env :: X.outer) := by rw [okI.frames, hst]
  refine wpAny_Try_except ?_
  refine wpAny_mono ((hbd (wOnly X.K c ts Wo De) (X.pn ++ pins) (fun er sa => wpAny (model X.prog X.w) X.A (noteFrame er X.env) (fun _ sb => wpAny (model X.prog X.w) X.A (setFlight er none) (fun _ sc =>
    wpAny (model X.prog X.w) X.A (handleBy er X.env [.ExceptHandler (some (.Name x q1)) none (st0 :: suiteT) q2]) (SP X pins De) X.xe sc) X.xe sb) X.xe sa) (fun q hq => List.mem_append_left _ hq) (fun u s' air => ?_) PassesOwn.looking).run [] s σ H De (Iv.toTry _) hrun) (fun fl s1 hend => ?_) (fun er s1 he => he)
  · obtain ⟨a, Bg, sI, pinsA, σ', H', cls, d, rfl, JA, nb, up, sky, na, os, ag, b, hexm, hyes, hno⟩ := air
    have J : Inv X pins σ' H' sI := JA.ofTry okI
    have skyA : Sky Bg (X.env :: X.outer) a (Zc cls d) X.env.locals s'.heap := by rw [← hst]; exact sky
    show wpAny (model X.prog X.w) X.A (noteFrame (.ref a) X.env) _ _ _
    refine Sky.land Zc.steady frames hfl skyA fun h3 land3 up3 => ?_
    have J3 : Inv X pins σ' H' { s' with heap := h3 } := J.landed nb land3.1 (up.trans up3) os ag
    obtain ⟨oe3, vs3, he3, hz3, hd3⟩ := land3.there
    have apart : ∀ {h : Heap} {o : Obj} {vs : Array Value}, h.FunFrames Bg (X.env :: X.outer) → h.get? a = some o → o.data = .fields vs → a ∉ frs (X.env :: X.outer) := fun {h o vs} ff eo dd hm => by
      obtain ⟨_, oB, eB, hnf⟩ := ff.mem hm
      rw [eo] at eB; cases eB
      exact hnf _ dd
    have notFrame := apart land3.2.2.1 he3 hd3
    have notLoc : a ≠ X.env.locals := fun z => notFrame (List.mem_filterMap.mpr ⟨X.env, List.mem_cons_self, by rw [hfl, z]⟩)
    have notFs : a ∉ X.fs := fun hm => by
      obtain ⟨en, hen, q⟩ := List.mem_filterMap.mp hm
      exact notFrame (List.mem_filterMap.mpr ⟨en, List.mem_cons_of_mem _ hen, q⟩)
    have S3 := J3.suite he3 hd3 na notLoc notFs
    refine wpAny_handleBy_cons (codeAny_handlers_test ?_) (by intro q; cases q)
    have looks : PySem.W.Looks (model X.prog X.w) h3 (typeOf (.ref a)) cls := fun A Q E s k q => wpAny_typeOf_ref (k _ _ he3) (by rw [hz3.1]; exact q)
    have matched := PySem.W.exm_one (M := model X.prog X.w) (J3.kIn) looks hexm
    have test : ∀ {Q : Value → Shared → Prop} {E : Value → Shared → Prop}, Q c { s' with heap := h3 } → wpAny (model X.prog X.w) (X.A.mark (some (.ref a))) (eval (.Name x q1) X.env) Q E { s' with heap := h3 } := fun {Q E} q => by
      obtain ⟨hgl, hdbg, hmg | ⟨hmg, hval, hnn⟩⟩ := hcn
      · exact ld_glob (X := X.suite a ((a, oe3) :: (X.pn ++ pins))) S3 hgl hmg q hdbg
      · exact ld_blt (X := X.suite a ((a, oe3) :: (X.pn ++ pins))) S3 hgl hmg hval q hnn hdbg
    refine test (matched.here ?_)
    cases b with
    | true =>
      refine codeAny_handlers_suite ?_
      refine HandSPX.lands_againZ land3 fun h4 land4 up4 => ?_
      have J4 : Inv X pins σ' H' { s' with heap := h4 } := J.landed nb land4.1 ((up.trans up3).trans up4) os ag
      obtain ⟨oe4, vs4, he4, hz4, hd4⟩ := land4.there
      have S4 := J4.suite he4 hd4 na notLoc notFs
      refine wpAny_mono ((hsu a oe4 cls d (X.pn ++ pins) hz4 ⟨_, hd4⟩).run [] _ _ H' _ S4 (hyes rfl a na)) (fun fl s6 hend => ?_) (fun _ _ z => False.elim z)
      cases fl with
      | ret u =>
        obtain ⟨v6, σ6, H6, S6, r6, q6⟩ := hend
        exact ⟨_, _, _, S6.unsuite okI, r6, q6⟩
      | _ =>
        obtain ⟨σ6, H6, S6, q6⟩ := hend
        exact ⟨_, _, S6.unsuite okI, q6⟩
    | false =>
      show wpAny _ X.A (handleBy (.ref a) X.env []) _ _ _
      refine wpAny_handleBy_nil ?_
      obtain ⟨k1, k2, k3, oe, vs, Tr, oT, tsT, he, hz, hd, h1, hr⟩ := id land3
      unfold PySem.passOn
      refine wpAny_bind (wpAny_field he hd h1 ?_)
      rw [if_neg (show ¬ ((Value.ref Tr == Value.none) = true) from by simp)]
      have fin : wpAny (model X.prog X.w) X.A (setFlight (.ref a) X.env.frame) (fun _ s4 => wpAny (model X.prog X.w) X.A (throw (.ref a) : Sem Flow) (SP X pins De) X.xe s4) X.xe { s' with heap := h3 } := by
        rw [hfl]
        refine HandSPX.setFlight_upZ land3 fun h4 hh4 up4 => wpAny_throw (htk _ _ ?_)
        exact ⟨a, Bg, sI, pins, σ', H', cls, d, rfl, J, nb, (up.trans up3).trans up4, .inr (.inr (by rw [hst]; exact hh4)), na, os, ag, hno rfl⟩
      first
        | exact wpAny_bind (wpAny_pure (wpAny_bind fin))
        | exact wpAny_bind fin
  · cases fl with
    | ret u =>
      obtain ⟨v, σ', H', JA, r, q⟩ := hend
      exact ⟨v, σ', H', JA.ofTry okI, r, q⟩
    | next =>
      obtain ⟨σ', H', JA, q⟩ := hend
      exact wpAny_execs_nil ⟨σ', H', JA.ofTry okI, q⟩
    | _ =>
      obtain ⟨σ', H', JA, q⟩ := hend
      exact ⟨σ', H', JA.ofTry okI, q⟩
end
end Ev
end
section
set_option maxRecDepth 100000
set_option maxHeartbeats 2000000
/-! a def that raises at once, and one that hands over to it: in the air with no context, and where an exception is handled -/
namespace Ev
open PySem PySem.Spec L2
section
variable {X : Cx} {p1 pos : Pos}
theorem pmkN0 {C : Addr} {bmB : List Value} {B newId initId : String} {n : Str} (F : ExcBaseFacts B newId initId bmB) (q : PySem.W.excIn X.K C bmB newId = true) (gC : X.mg n = some (.ref C)) (kC : PySem.W.keepIn X.K (.ref C) = true) (r : Raises X (.ref C)) (hg : Gl X n)
    (hdb : (n == ("__debug__" : Str)) = false) : L2N.PMk X (.Call (.Name n p1) [] [] pos) (fun _ H Q => Q (.ref C) none H) := by
  intro pins s σ H Q I h
  refine wpAny_Call_Name_kw (ld_glob I hg gC ?_ hdb)
  refine PySem.W.callWith_K0 I.kIn kC ?_
  obtain ⟨bm, N, nm, qn, bs, hdct, sn, sub, ab, col, dd, k0, k1, k2, k3, k5, mN, hC, hN, hni, T⟩ := exc_obj I.kIn q
  exact wpAny_call_exc_subT F T hC hN hni (fun h' e hm => L2N.mk_of I hm r h (I.hok.gone hm.new)) (Nat.zero_le _)
end
/-- if y == 0: raise N() .. -/
def isFrac (y N : Str) : List Stmt → Bool
  | .If (.Compare (.Name a _) [.Eq] [.Constant (.int 0) _ _] _) [.Raise (some (.Call (.Name n _) [] [] _)) none _] [] _ :: _ => a == y && n == N
  | _ => false
theorem frac_shape {y N : Str} {b : List Stmt} (h : isFrac y N b = true) : ∃ p1 k p2 p3 p4 p5 p6 p7 rest, b = .If (.Compare (.Name y p1) [.Eq] [.Constant (.int 0) k p2] p3) [.Raise (some (.Call (.Name N p4) [] [] p5)) none p6] [] p7 :: rest := by
  unfold isFrac at h
  split at h
  · simp only [Bool.and_eq_true, beq_iff_eq] at h
    obtain ⟨rfl, rfl⟩ := h
    exact ⟨_, _, _, _, _, _, _, _, _, rfl⟩
  · cases h
/-- return f(o[0] * t[1], o[1] * t[0]) -/
def isOver (o t f : Str) : List Stmt → Bool
  | [.Return (some (.Call (.Name g _) [.BinOp (.Subscript (.Name a _) (.Constant (.int 0) _ _) _) .Mult (.Subscript (.Name b _) (.Constant (.int 1) _ _) _) _, .BinOp (.Subscript (.Name a2 _) (.Constant (.int 1) _ _) _) .Mult (.Subscript (.Name b2 _) (.Constant (.int 0) _ _) _) _] [] _)) _] =>
    g == f && a == o && b == t && a2 == o && b2 == t
  | _ => false
theorem over_shape {o t f : Str} {b : List Stmt} (h : isOver o t f b = true) : ∃ p1 p2 p3 p4 p5 p6 p7 p8 p9 q1 q2 q3 q4 q5 q6 q7 q8 k1 k2 k3 k4, b =
    [.Return (some (.Call (.Name f p1) [.BinOp (.Subscript (.Name o p2) (.Constant (.int 0) k1 p3) p4) .Mult (.Subscript (.Name t p5) (.Constant (.int 1) k2 p6) p7) p8, .BinOp (.Subscript (.Name o p9) (.Constant (.int 1) k3 q1) q2) .Mult (.Subscript (.Name t q3) (.Constant (.int 0) k4 q4) q5) q6] [] q7)) q8] := by
  unfold isOver at h
  split at h
  · simp only [Bool.and_eq_true, beq_iff_eq] at h
    obtain ⟨⟨⟨⟨rfl, rfl⟩, rfl⟩, rfl⟩, rfl⟩ := h
    exact ⟨_, _, _, _, _, _, _, _, _, _, _, _, _, _, _, _, _, _, _, _, _, rfl⟩
  · cases h
section
variable {Γ : Glob} {fa fb : Addr} {fd fe : FuncData} {T S : Txt} {C : Addr} {c : Nat}
/-- a zero below: the error is there -/
def spZ (C : Addr) : Sp := fun vs H _ E => ∃ i, vs = [V.int i, V.int 0] ∧ E (.ref C) none H
theorem frac_N (hd : DefAt Γ T fa fd) (hok : T.ok = true) (hps : T.ps = ([("over" : Str), "under"] : List Str)) (hN : T.N = ([("over" : Str), "under", "common"] : List Str)) (hl : (defScope T.st).names.lookup ("under" : Str) = some NameKind.local) (hx : ExcOk Γ "NoSuch" c) (hC : Γ.exc c = some C) (hb : isFrac "under" "NoSuch" (defBody T.st) = true)
    (gN : ∀ X : Cx, X.env.scope = defScope T.st → Gl X "NoSuch") :
    FnOk Γ.P Γ.w Γ.K Γ.mg Γ.base (L2N.CX Γ.P Γ.w) 1 fa fd T.ps (spZ C) ∧ L2H.FnH Γ.P Γ.w Γ.K Γ.mg Γ.base (L2.CX Γ.P Γ.w) 1 fa fd T.ps (spZ C) := by
  obtain ⟨oc, od, qual, kV, doc, pm, an, cdv, ct, osl, rfl, lk, hcd, _⟩ := hd.fn
  obtain ⟨C', e1, e2, e3, e4, e5, e6⟩ := hx.ex
  rw [hC] at e1
  cases e1
  obtain ⟨p1, k, p2, p3, p4, p5, p6, p7, rest, eb⟩ := frac_shape hb
  have S0 := Txt.scope_ok hok
  have len : ∀ vs H Q E, spZ C vs H Q E → vs.length = T.ps.length := by
    rintro vs H Q E ⟨i, rfl, _⟩
    rw [hps]; rfl
  have hNi : T.N[1]? = some ("under" : Str) := by rw [hN]; rfl
  refine ⟨fn_of lk hcd S0 len fun A outer s H vs Q E hr hsp => ?_, L2H.fn_ofH lk hcd S0 len fun A outer s H vs Q E p hot hr hsp => ?_⟩
  · obtain ⟨i, rfl, hE⟩ := hsp
    rw [eb]
    refine ⟨_, pss_cons (ps_if (pt_cmpR op_eq (pe_var (i := 1) hNi (.inl hl)) pe_int rfl) (pss_one (L2N.ps_raise (W := fun cls d _ H => E cls d H) rfl (L2N.takes_of rfl rfl rfl rfl) (pmkN0 PySem.F.excBase_ValueError e3 e2 e4 (raises_own e5 e6) (gN _ rfl) (by decide)))) pss_nil) pss_never, ?_⟩
    have hst : L2.start T.N [V.int i, V.int 0] = [some (V.int i), some (V.int 0), none] := by rw [hN]; rfl
    rw [hst]
    refine ⟨V.int 0, rfl, rfl, _, rfl, ?_⟩
    have ed : decide (V.int 0 = V.int 0) = true := decide_eq_true rfl
    rw [ed]
    exact hE
  · obtain ⟨i, rfl, hE⟩ := hsp
    rw [eb]
    have hc : L2H.HotC (L2H.cxH (L2.CX Γ.P Γ.w) Γ.P Γ.w Γ.K Γ.mg Γ.base T.N qual (defScope T.st) fa cdv A outer s H E p) := ⟨p, hot, List.mem_singleton.mpr rfl⟩
    refine ⟨_, pss_cons (ps_if (pt_cmpR op_eq (pe_var (i := 1) hNi (.inl hl)) pe_int rfl) (pss_one (L2H.ps_raiseH (W := fun cls d _ H => E cls d H) hc (takes_of rfl rfl rfl rfl) (pmkN0 PySem.F.excBase_ValueError e3 e2 e4 (raises_own e5 e6) (gN _ rfl) (by decide)))) pss_nil) pss_never, ?_⟩
    have hst : L2.start T.N [V.int i, V.int 0] = [some (V.int i), some (V.int 0), none] := by rw [hN]; rfl
    rw [hst]
    refine ⟨V.int 0, rfl, rfl, _, rfl, ?_⟩
    have ed : decide (V.int 0 = V.int 0) = true := decide_eq_true rfl
    rw [ed]
    exact hE
/-- two pairs, the other one's first a zero -/
def spO (C : Addr) : Sp := fun vs H _ E => ∃ a b i j, vs = [V.ref a, V.ref b] ∧ H a = some (.tup [.int i, .int j]) ∧ H b = some (.tup [.int 0, .int 1]) ∧ E (.ref C) none H
theorem over_H {ga : Addr} {gd : FuncData} {R : Txt} (hd : DefAt Γ R ga gd) (hok : R.ok = true) (hps : R.ps = ([("one" : Str), "two"] : List Str)) (hN : R.N = ([("one" : Str), "two"] : List Str)) (hl1 : (defScope R.st).names.lookup ("one" : Str) = some NameKind.local) (hl2 : (defScope R.st).names.lookup ("two" : Str) = some NameKind.local)
    (hb : isOver "one" "two" "fraction" (defBody R.st) = true) (gF : ∀ X : Cx, X.env.scope = defScope R.st → Gl X "fraction") (hf : DefAt Γ T fa fd) (hTn : T.name = "fraction")
    (F : L2H.FnH Γ.P Γ.w Γ.K Γ.mg Γ.base (L2.CX Γ.P Γ.w) 1 fa fd T.ps (spZ C)) :
    L2H.FnH Γ.P Γ.w Γ.K Γ.mg Γ.base (L2.CX Γ.P Γ.w) 2 ga gd R.ps (spO C) := by
  obtain ⟨oc, od, qual, kV, doc, pm, an, cdv, ct, osl, rfl, lk, hcd, _⟩ := hd.fn
  obtain ⟨p1, p2, p3, p4, p5, p6, p7, p8, p9, q1, q2, q3, q4, q5, q6, q7, q8, k1, k2, k3, k4, eb⟩ := over_shape hb
  have S0 := Txt.scope_ok hok
  have len : ∀ vs H Q E, spO C vs H Q E → vs.length = R.ps.length := by
    rintro vs H Q E ⟨a, b, i, j, rfl, _⟩
    rw [hps]; rfl
  have n0 : R.N[0]? = some ("one" : Str) := by rw [hN]; rfl
  have n1 : R.N[1]? = some ("two" : Str) := by rw [hN]; rfl
  have hm : Γ.mg ("fraction" : Str) = some (.ref fa) := by rw [← hTn]; exact hf.mg
  refine L2H.fn_ofH lk hcd S0 len fun A outer s H vs Q E p hot hr hsp => ?_
  obtain ⟨a, b, i, j, rfl, ha, hb2, hE⟩ := hsp
  rw [eb]
  have hc : L2H.HotC (L2H.cxH (L2.CX Γ.P Γ.w) Γ.P Γ.w Γ.K Γ.mg Γ.base R.N qual (defScope R.st) ga cdv A outer s H E p) := ⟨p, hot, List.mem_singleton.mpr rfl⟩
  have v0 : ∀ {pp : Pos}, PE (L2H.cxH (L2.CX Γ.P Γ.w) Γ.P Γ.w Γ.K Γ.mg Γ.base R.N qual (defScope R.st) ga cdv A outer s H E p) (.Name "one" pp) (tVar 0) := pe_var n0 (.inl hl1)
  have v1 : ∀ {pp : Pos}, PE (L2H.cxH (L2.CX Γ.P Γ.w) Γ.P Γ.w Γ.K Γ.mg Γ.base R.N qual (defScope R.st) ga cdv A outer s H E p) (.Name "two" pp) (tVar 1) := pe_var n1 (.inl hl2)
  refine ⟨_, pss_one (ps_ret (L2H.pe_callH (E := fun _ => fun cls d H => E cls d H) F hr hc (gF _ rfl) hm hf.kp hf.bd (fun σ => passAt (W := fun cls d _ H => E cls d H) (takes_of rfl rfl rfl rfl) σ)
    (pa_cons (pe_op op_mul (pe_ix ix_tup v0 pe_int (fun _ _ => rfl)) (pe_ix ix_tup v1 pe_int (fun _ _ => rfl))) (pa_cons (pe_op op_mul (pe_ix ix_tup v0 pe_int (fun _ _ => rfl)) (pe_ix ix_tup v1 pe_int (fun _ _ => rfl))) pa_nil)))), ?_⟩
  have hst : L2.start R.N [V.ref a, V.ref b] = [some (V.ref a), some (V.ref b)] := by rw [hN]; rfl
  rw [hst]
  refine ⟨.ref a, rfl, a, _, _, _, rfl, rfl, SqT.of ha, rfl, ?_⟩
  refine ⟨.ref b, rfl, b, _, _, _, rfl, rfl, SqT.of hb2, rfl, ?_⟩
  refine ⟨i, 1, rfl, rfl, .inr ⟨by decide, by decide⟩, ?_⟩
  refine ⟨.ref a, rfl, a, _, _, _, rfl, rfl, SqT.of ha, rfl, ?_⟩
  refine ⟨.ref b, rfl, b, _, _, _, rfl, rfl, SqT.of hb2, rfl, ?_⟩
  refine ⟨j, 0, rfl, rfl, .inr ⟨by decide, by decide⟩, ?_⟩
  exact ⟨i * 1, by show [V.int (i * 1), V.int (j * 0)] = _; rw [Int.mul_zero], hE⟩
end
end Ev
end
section
set_option maxRecDepth 100000
set_option maxHeartbeats 4000000
/-! a def that calls another where an exception is handled -/
namespace Ev
open PySem PySem.Spec L2
def isRef01 : List Stmt → Bool
  | [.Try [.Expr (.Call (.Name f _) [.Constant (.int 3) _ _, .Constant (.int 0) _ _] [] _) _] [.ExceptHandler (some (.Name n _)) (some er)
      [.If (.UnaryOp .Not (.Call (.Name isi _) [.Name er2 _, .Name le _] [] _) _) [.Return (some (.Constant (.bool false) _ _)) _] [] _,
       .Try [.Expr (.Call (.Name o _) [.Name one _, .Tuple [.Constant (.int 0) _ _, .Constant (.int 1) _ _] _ _] [] _) _] [.ExceptHandler (some (.Name n2 _)) none [.Return (some (.Constant (.bool true) _ _)) _] _] [] [] _] _] [] [] _,
     .Return (some (.Constant (.bool false) _ _)) _] =>
    f == "fraction" && n == "NoSuch" && er == "error" && isi == "isinstance" && er2 == "error" && le == "LinesfittedError" && o == "over" && one == "one" && n2 == "NoSuch"
  | _ => false
theorem pss_if {X : Cx} {b : List Stmt} {t : TS} {p : Prop} (h : p → PSs X b t) : PSs X b (fun D σ H => p ∧ t D σ H) := ⟨fun pins s σ H D I hw => (h hw.1).run pins s σ H D I hw.2⟩
/-- the frame of such a def -/
abbrev cxR (Γ : Glob) (S : Txt) (qual : Str) (ha : Addr) (cdv : Value) (A : Around) (outer : List PySem.Env) (s : Shared) (H : Hp) (E : XK) : Cx := cxOf (L2.CX Γ.P Γ.w) Γ.P Γ.w Γ.K Γ.mg Γ.base S.N qual (defScope S.st) ha cdv A outer s H E
/-- a pair of ints; the answer is True, a new tuple lies about -/
def spR : Sp := fun vs H Q _ => ∃ a i j, vs = [V.ref a] ∧ H a = some (.tup [.int i, .int j]) ∧ ∀ p, H p = none → Q (.bl true) (upd H p (.tup [.int 0, .int 1]))
section
variable {Γ : Glob} {fa ga ha : Addr} {fd gd hd : FuncData} {T R S : Txt} {C C0 : Addr} {c : Nat}
theorem refused_ok (dS : DefAt Γ S ha hd) (hok : S.ok = true) (hps : S.ps = ([("one" : Str)] : List Str)) (hN : S.N = ([("one" : Str), "error"] : List Str)) (hl1 : (defScope S.st).names.lookup ("one" : Str) = some NameKind.local) (hl2 : (defScope S.st).names.lookup ("error" : Str) = some NameKind.local)
    (hb : isRef01 (defBody S.st) = true) (gl : ∀ X : Cx, X.env.scope = defScope S.st → Gl X "fraction" ∧ Gl X "over" ∧ Gl X "NoSuch" ∧ Gl X "LinesfittedError" ∧ Gl X "isinstance")
    (dT : DefAt Γ T fa fd) (hTn : T.name = "fraction") (dR : DefAt Γ R ga gd) (hRn : R.name = "over") (hRp : R.ps.length = 2) (hTp : T.ps.length = 2)
    (FN : FnOk Γ.P Γ.w Γ.K Γ.mg Γ.base (L2N.CX Γ.P Γ.w) 1 fa fd T.ps (spZ C)) (FO : L2H.FnH Γ.P Γ.w Γ.K Γ.mg Γ.base (L2.CX Γ.P Γ.w) 2 ga gd R.ps (spO C))
    (mC : Γ.mg ("NoSuch" : Str) = some (.ref C)) (m0 : Γ.mg ("LinesfittedError" : Str) = some (.ref C0)) (mi : Γ.mg ("isinstance" : Str) = none)
    (ex : PySem.W.exmOne Γ.K (.ref C) (.ref C) = some true) (ec : ExcC Γ.K C) (kit : PySem.W.kitOne Γ.K (.ref C) (.ref C0) = some true) :
    FnOk Γ.P Γ.w Γ.K Γ.mg Γ.base (L2.CX Γ.P Γ.w) 4 ha hd S.ps spR := by
  obtain ⟨oc, od, qual, kV, doc, pm, an, cdv, ct, osl, rfl, lk, hcd, _⟩ := dS.fn
  have S0 := Txt.scope_ok hok
  have len : ∀ vs H Q E, spR vs H Q E → vs.length = S.ps.length := by
    rintro vs H Q E ⟨a, i, j, rfl, _⟩
    rw [hps]; rfl
  have n0 : S.N[0]? = some ("one" : Str) := by rw [hN]; rfl
  have n1 : S.N[1]? = some ("error" : Str) := by rw [hN]; rfl
  have mF : Γ.mg ("fraction" : Str) = some (.ref fa) := by rw [← hTn]; exact dT.mg
  have mO : Γ.mg ("over" : Str) = some (.ref ga) := by rw [← hRn]; exact dR.mg
  refine fn_of lk hcd S0 len fun A outer s H vs Q E hr hsp => ?_
  obtain ⟨a, i, j, rfl, ha1, hQ⟩ := hsp
  generalize defBody S.st = b at hb ⊢
  unfold isRef01 at hb
  split at hb
  · simp only [Bool.and_eq_true, beq_iff_eq] at hb
    obtain ⟨⟨⟨⟨⟨⟨⟨⟨rfl, rfl⟩, rfl⟩, rfl⟩, rfl⟩, rfl⟩, rfl⟩, rfl⟩, rfl⟩ := hb
    obtain ⟨g1, g2, g3, g4, g5⟩ := gl (cxR Γ S qual ha cdv A outer s H E) rfl
    have vE : ∀ {pn : List (Addr × Obj)} {xa : Addr} {pp : Pos}, PE ((cxR Γ S qual ha cdv A outer s H E).suite xa pn) (.Name "error" pp) (tVar 1) := pe_var n1 (.inl hl2)
    have vO : ∀ {pn pn2 : List (Addr × Obj)} {xa : Addr} {xe : Value → Shared → Prop} {pp : Pos}, PE (((cxR Γ S qual ha cdv A outer s H E).suite xa pn).tr pn2 xe) (.Name "one" pp) (tVar 0) := pe_var n0 (.inl hl1)
    have r4 : Room 1 (cxR Γ S qual ha cdv A outer s H E).A := hr.mono (by decide)
    have r4H : L2H.RoomH 2 (cxR Γ S qual ha cdv A outer s H E).A := L2H.roomH_of (hr.mono (by decide))
    refine ⟨_, pss_cons (L2N.ps_try_as (X := cxR Γ S qual ha cdv A outer s H E) (i := 1) (c := .ref C) (Wout := fun _ _ _ _ => False)
      (tb := fun W => tDrop (tCallS (spZ C) (WE W) (tCons (tC (.int 3)) (tCons (tC (.int 0)) tNil))))
      (ts := fun xa cls d => fun D σ H => (cls = .ref C ∧ d = none) ∧ tSeq (tIfS (tNot (tB (tCB (rIsE Γ.K C xa) (tCons (tVar 1) (tCons (tC (.ref C0)) tNil))))) (tRet (tC (.bl false))) tNext)
        (fun D σ H => tDrop (tCallS (spO C) (WE (wOnly Γ.K (.ref C) (fun _ _ _ => tRet (tC (.bl true))) (fun _ _ _ _ => False) D)) (tCons (tVar 0) (tCons (tTup (tCons (tC (.int 0)) (tCons (tC (.int 1)) tNil))) tNil))) D σ H) D σ H)
      rfl rfl S0.nd n1 hl2 ⟨g3, by decide, .inl mC⟩ (fun u s' ⟨a, B, sI, pins, σ, H, cls, d, e, I, nb, up, sky, na, os, ag, w⟩ => w.elim)
      (fun W pn xe tk po => pss_one (ps_expr (pe_callS (E := WE W) FN r4 g1 mF dT.kp dT.bd (fun σ => L2N.passAt tk σ) (pa_cons pe_int (pa_cons pe_int pa_nil)))))
      (fun xa oe cls d pn hz hfl => pss_if fun ⟨hcls, hd⟩ => ?_)) (pss_one (ps_ret pe_bl)), ?_⟩
    · subst hcls hd
      have hot : L2H.HotC ((cxR Γ S qual ha cdv A outer s H E).suite xa ((xa, oe) :: pn)) := by
        obtain ⟨fv, hfv⟩ := hfl
        exact ⟨(xa, oe), ⟨rfl, fv, hfv, hz.2.2 fv hfv⟩, .head _⟩
      refine pss_cons (ps_if (pt_not (pt_val (pe_callB (call_isE (X := cxR Γ S qual ha cdv A outer s H E) ec hz.zc hfl) g5 mi (by decide +kernel) (pa_cons vE (pa_cons (pe_glob g4 m0 rfl) pa_nil))))) (pss_one (ps_ret pe_bl)) pss_nil) (pss_one ?_)
      refine try_hot (Wo := fun _ _ _ _ => False) (tb := fun W => tDrop (tCallS (spO C) (WE W) (tCons (tVar 0) (tCons (tTup (tCons (tC (.int 0)) (tCons (tC (.int 1)) tNil))) tNil)))) (ts := fun _ _ _ => tRet (tC (.bl true))) rfl rfl ⟨g3, by decide, .inl mC⟩ takes0
        (fun W pn2 xe hpn tk po => pss_one (ps_expr ?_)) (fun _ _ _ _ _ _ _ => pss_one (ps_ret pe_bl))
      have hot2 : L2H.HotC (((cxR Γ S qual ha cdv A outer s H E).suite xa ((xa, oe) :: pn)).tr pn2 xe) := by
        obtain ⟨q, h1, h2⟩ := hot
        exact ⟨q, h1, hpn q h2⟩
      exact L2H.pe_callH (E := WE W) FO ⟨r4H.dp, r4H.un⟩ hot2 g2 mO dR.kp dR.bd (fun σ => passAt tk σ) (pa_cons vO (pa_cons (pe_tup (pa_cons pe_int (pa_cons pe_int pa_nil))) pa_nil))
    · have hst : L2.start S.N [V.ref a] = [some (V.ref a), none] := by rw [hN]; rfl
      rw [hst]
      refine ⟨3, rfl, true, ex, fun _ xa hxa => ⟨⟨rfl, rfl⟩, ?_⟩, fun z => nomatch z⟩
      refine ⟨.ref xa, rfl, .ref C0, .ref C0, true, rfl, fun u hu => hu, kit, true, rfl, ?_⟩
      refine ⟨.ref a, rfl, by show 2 ≤ sizeLine; decide, fun p hp => ?_⟩
      have hne : a ≠ p := fun z => by rw [z, hp] at ha1; cases ha1
      refine ⟨a, p, i, j, rfl, by rw [upd_ne hne]; exact ha1, upd_same, true, ex, fun _ _ _ => ?_, fun z => nomatch z⟩
      exact hQ p hp
  · cases hb
end
end Ev
end
section
set_option maxRecDepth 100000
set_option maxHeartbeats 2000000
namespace Ev
open PySem PySem.Spec L2
def refG : List Sl → CR
  | [.val (.tup [.int i, .int j])] => .ret (.val (.bl true)) [some (.val (.tup [.int i, .int j]))]
  | _ => .stuck
theorem ref_spF {Γ : Glob} {n : Nat} {fa : Addr} {fd : FuncData} {ps : List Str} (F : FnOk Γ.P Γ.w Γ.K Γ.mg Γ.base (L2.CX Γ.P Γ.w) 4 fa fd ps spR) : FnOk Γ.P Γ.w Γ.K Γ.mg Γ.base (L2.CX Γ.P Γ.w) 8 fa fd ps (spF Γ (fun _ => refG) n) := by
  refine FnOk.imp (F.mono (by decide)) fun vs H Q E ⟨qs, U, r, h⟩ => ?_
  dsimp only at h
  unfold refG at h
  split at h
  · rename_i a outs e
    split at e
    · rename_i i j
      cases e
      have hl : 1 = vs.length := by simpa using r.len
      obtain ⟨v, rfl⟩ : ∃ v, vs = [v] := by
        match vs, hl with
        | [v], _ => exact ⟨v, rfl⟩
      obtain ⟨u, e1, e2⟩ := r.val 0 (.tup [.int i, .int j]) rfl
      cases e1
      cases e2 with
      | @tup b ws _ e3 e4 =>
        cases e4 with
        | cons x1 x2 => cases x1; cases x2 with
          | cons y1 y2 => cases y1; cases y2
                          refine ⟨b, i, j, rfl, e3, fun p hp => ?_⟩
                          have q := Post.newTup (ds := [.int 0, .int 1]) r (.cons (.int 0) (.cons (.int 1) .nil)) hp
                          exact h (.bl true) _ ⟨q.re, .bl true, q.st⟩
    · cases e
  · rename_i e
    split at e <;> cases e
  · exact h.elim
end Ev
end
section
set_option maxRecDepth 100000
set_option maxHeartbeats 2000000
namespace Ev
open PySem PySem.Spec L2
abbrev prog : Program := PySem.Challenge.pw_linesfitted_k01_numbers_of_lines
def top (i : Nat) : Stmt := prog.main.body.getD i (.Pass ⟨0, 0, 0, 0⟩)
def G : Prg := ⟨["is_integer", "common_divisor", "power", "fraction", "whole", "is_fraction", "plus", "minus", "times", "over", "negative", "is_less", "floor_of", "rounded_up", "nearest", "sum_of", "least_of", "greatest_of", "_law_draw", "_law_common", "_law_is", "_law_refused", "law"], ["LinesfittedError", "NoSuch"], ["len", "abs", "int", "list", "tuple", "any", "isinstance", "bool", "range"], [], 60⟩
def exmt : List (List Bool) := [[true, false], [true, true]]
def T0 : Txt := ⟨"is_integer", top 4, ["value", "low", "high"], ["value", "low", "high"], [0, 1, 2], false⟩
def F0 : Fn := ⟨3, 3, [true, true, true], (.cons (.iff (.or (.nt (.bi .isInt (.cons (.var 0) .nil))) (.bi .isBool (.cons (.var 0) .nil))) (.cons (.ret (.cst (.bl false))) .nil) .nil) (.cons (.ret (.an (.or (.cmp .is (.var 1) (.cst .non)) (.cmp .ge (.var 0) (.var 1))) (.or (.cmp .is (.var 2) (.cst .non)) (.cmp .le (.var 0) (.var 2))))) .nil)), none⟩
theorem is0 : F0.ext = none → T0.Is G F0 := fun _ => ⟨by decide +kernel, by kernel_rfl, rfl, rfl, rfl⟩
theorem bd0 : bindOk T0 := fun _ _ _ _ _ _ us hl => match us, hl with | [_, _, _], _ => rfl
def T1 : Txt := ⟨"common_divisor", top 5, ["one", "two"], ["one", "two"], [], false⟩
def F1 : Fn := ⟨2, 2, [false, false], (.cons (.whl (.var 1) (.cons (.par 0 1 (.var 1) (.bin .mod (.var 0) (.var 1))) .nil)) (.cons (.ret (.bi .abs (.cons (.var 0) .nil))) .nil)), none⟩
theorem is1 : F1.ext = none → T1.Is G F1 := fun _ => ⟨by decide +kernel, by kernel_rfl, rfl, rfl, rfl⟩
theorem bd1 : bindOk T1 := fun _ _ _ _ _ _ us hl => match us, hl with | [_, _], _ => rfl
def T2 : Txt := ⟨"power", top 6, ["base", "exponent"], ["base", "exponent", "found", "here", "rest"], [0, 1], false⟩
def F2 : Fn := ⟨2, 5, [true, true], (.cons (.par3 2 3 4 (.cst (.int 1)) (.var 0) (.var 1)) (.cons (.whl (.var 4) (.cons (.iff (.bin .mod (.var 4) (.cst (.int 2))) (.cons (.aug 2 .mul (.var 3)) .nil) .nil) (.cons (.aug 4 .fdiv (.cst (.int 2))) (.cons (.iff (.var 4) (.cons (.aug 3 .mul (.var 3)) .nil) .nil) .nil)))) (.cons (.ret (.var 2)) .nil))), none⟩
theorem is2 : F2.ext = none → T2.Is G F2 := fun _ => ⟨by decide +kernel, by kernel_rfl, rfl, rfl, rfl⟩
theorem bd2 : bindOk T2 := fun _ _ _ _ _ _ us hl => match us, hl with | [_, _], _ => rfl
def T3 : Txt := ⟨"fraction", top 7, ["over", "under"], ["over", "under", "common"], [0, 1], false⟩
def F3 : Fn := ⟨2, 3, [true, true], (.cons (.iff (.cmp .eq (.var 1) (.cst (.int 0))) (.cons (.raise 1 .nil) .nil) .nil) (.cons (.asg (.nm 2) (.call 1 (.cons (.var 0) (.cons (.var 1) .nil)))) (.cons (.iff (.cmp .lt (.var 1) (.cst (.int 0))) (.cons (.asg (.nm 2) (.neg (.var 2))) .nil) .nil) (.cons (.ret (.tup (.cons (.bin .fdiv (.var 0) (.var 2)) (.cons (.bin .fdiv (.var 1) (.var 2)) .nil)))) .nil)))), none⟩
theorem is3 : F3.ext = none → T3.Is G F3 := fun _ => ⟨by decide +kernel, by kernel_rfl, rfl, rfl, rfl⟩
theorem bd3 : bindOk T3 := fun _ _ _ _ _ _ us hl => match us, hl with | [_, _], _ => rfl
def T4 : Txt := ⟨"whole", top 8, ["number"], ["number"], [0], false⟩
def F4 : Fn := ⟨1, 1, [true], (.cons (.ret (.tup (.cons (.var 0) (.cons (.cst (.int 1)) .nil)))) .nil), none⟩
theorem is4 : F4.ext = none → T4.Is G F4 := fun _ => ⟨by decide +kernel, by kernel_rfl, rfl, rfl, rfl⟩
theorem bd4 : bindOk T4 := fun _ _ _ _ _ _ us hl => match us, hl with | [_], _ => rfl
def T5 : Txt := ⟨"is_fraction", top 9, ["value"], ["value"], [0], false⟩
def F5 : Fn := ⟨1, 1, [true], (.cons (.iff (.or (.nt (.bi .isTuple (.cons (.var 0) .nil))) (.cmp .ne (.bi .len (.cons (.var 0) .nil)) (.cst (.int 2)))) (.cons (.ret (.cst (.bl false))) .nil) .nil) (.cons (.iff (.or (.nt (.call 0 (.cons (.idx (.var 0) (.cst (.int 0))) (.cons (.cst .non) (.cons (.cst .non) .nil))))) (.nt (.call 0 (.cons (.idx (.var 0) (.cst (.int 1))) (.cons (.cst (.int 1)) (.cons (.cst .non) .nil)))))) (.cons (.ret (.cst (.bl false))) .nil) .nil) (.cons (.ret (.cmp .eq (.call 1 (.cons (.idx (.var 0) (.cst (.int 0))) (.cons (.idx (.var 0) (.cst (.int 1))) .nil))) (.cst (.int 1)))) .nil))), none⟩
theorem is5 : F5.ext = none → T5.Is G F5 := fun _ => ⟨by decide +kernel, by kernel_rfl, rfl, rfl, rfl⟩
theorem bd5 : bindOk T5 := fun _ _ _ _ _ _ us hl => match us, hl with | [_], _ => rfl
def T6 : Txt := ⟨"plus", top 10, ["one", "two"], ["one", "two"], [0, 1], false⟩
def F6 : Fn := ⟨2, 2, [true, true], (.cons (.ret (.call 3 (.cons (.bin .add (.bin .mul (.idx (.var 0) (.cst (.int 0))) (.idx (.var 1) (.cst (.int 1)))) (.bin .mul (.idx (.var 1) (.cst (.int 0))) (.idx (.var 0) (.cst (.int 1))))) (.cons (.bin .mul (.idx (.var 0) (.cst (.int 1))) (.idx (.var 1) (.cst (.int 1)))) .nil)))) .nil), none⟩
theorem is6 : F6.ext = none → T6.Is G F6 := fun _ => ⟨by decide +kernel, by kernel_rfl, rfl, rfl, rfl⟩
theorem bd6 : bindOk T6 := fun _ _ _ _ _ _ us hl => match us, hl with | [_, _], _ => rfl
def T7 : Txt := ⟨"minus", top 11, ["one", "two"], ["one", "two"], [0, 1], false⟩
def F7 : Fn := ⟨2, 2, [true, true], (.cons (.ret (.call 3 (.cons (.bin .sub (.bin .mul (.idx (.var 0) (.cst (.int 0))) (.idx (.var 1) (.cst (.int 1)))) (.bin .mul (.idx (.var 1) (.cst (.int 0))) (.idx (.var 0) (.cst (.int 1))))) (.cons (.bin .mul (.idx (.var 0) (.cst (.int 1))) (.idx (.var 1) (.cst (.int 1)))) .nil)))) .nil), none⟩
theorem is7 : F7.ext = none → T7.Is G F7 := fun _ => ⟨by decide +kernel, by kernel_rfl, rfl, rfl, rfl⟩
theorem bd7 : bindOk T7 := fun _ _ _ _ _ _ us hl => match us, hl with | [_, _], _ => rfl
def T8 : Txt := ⟨"times", top 12, ["one", "two"], ["one", "two"], [0, 1], false⟩
def F8 : Fn := ⟨2, 2, [true, true], (.cons (.ret (.call 3 (.cons (.bin .mul (.idx (.var 0) (.cst (.int 0))) (.idx (.var 1) (.cst (.int 0)))) (.cons (.bin .mul (.idx (.var 0) (.cst (.int 1))) (.idx (.var 1) (.cst (.int 1)))) .nil)))) .nil), none⟩
theorem is8 : F8.ext = none → T8.Is G F8 := fun _ => ⟨by decide +kernel, by kernel_rfl, rfl, rfl, rfl⟩
theorem bd8 : bindOk T8 := fun _ _ _ _ _ _ us hl => match us, hl with | [_, _], _ => rfl
def T9 : Txt := ⟨"over", top 13, ["one", "two"], ["one", "two"], [0, 1], false⟩
def F9 : Fn := ⟨2, 2, [true, true], (.cons (.ret (.call 3 (.cons (.bin .mul (.idx (.var 0) (.cst (.int 0))) (.idx (.var 1) (.cst (.int 1)))) (.cons (.bin .mul (.idx (.var 0) (.cst (.int 1))) (.idx (.var 1) (.cst (.int 0)))) .nil)))) .nil), none⟩
theorem is9 : F9.ext = none → T9.Is G F9 := fun _ => ⟨by decide +kernel, by kernel_rfl, rfl, rfl, rfl⟩
theorem bd9 : bindOk T9 := fun _ _ _ _ _ _ us hl => match us, hl with | [_, _], _ => rfl
def T10 : Txt := ⟨"negative", top 14, ["one"], ["one"], [0], false⟩
def F10 : Fn := ⟨1, 1, [true], (.cons (.ret (.tup (.cons (.neg (.idx (.var 0) (.cst (.int 0)))) (.cons (.idx (.var 0) (.cst (.int 1))) .nil)))) .nil), none⟩
theorem is10 : F10.ext = none → T10.Is G F10 := fun _ => ⟨by decide +kernel, by kernel_rfl, rfl, rfl, rfl⟩
theorem bd10 : bindOk T10 := fun _ _ _ _ _ _ us hl => match us, hl with | [_], _ => rfl
def T11 : Txt := ⟨"is_less", top 15, ["one", "two"], ["one", "two"], [0, 1], false⟩
def F11 : Fn := ⟨2, 2, [true, true], (.cons (.ret (.cmp .lt (.bin .mul (.idx (.var 0) (.cst (.int 0))) (.idx (.var 1) (.cst (.int 1)))) (.bin .mul (.idx (.var 1) (.cst (.int 0))) (.idx (.var 0) (.cst (.int 1)))))) .nil), none⟩
theorem is11 : F11.ext = none → T11.Is G F11 := fun _ => ⟨by decide +kernel, by kernel_rfl, rfl, rfl, rfl⟩
theorem bd11 : bindOk T11 := fun _ _ _ _ _ _ us hl => match us, hl with | [_, _], _ => rfl
def T12 : Txt := ⟨"floor_of", top 16, ["one"], ["one"], [0], false⟩
def F12 : Fn := ⟨1, 1, [true], (.cons (.ret (.bin .fdiv (.idx (.var 0) (.cst (.int 0))) (.idx (.var 0) (.cst (.int 1))))) .nil), none⟩
theorem is12 : F12.ext = none → T12.Is G F12 := fun _ => ⟨by decide +kernel, by kernel_rfl, rfl, rfl, rfl⟩
theorem bd12 : bindOk T12 := fun _ _ _ _ _ _ us hl => match us, hl with | [_], _ => rfl
def T13 : Txt := ⟨"rounded_up", top 17, ["one"], ["one"], [0], false⟩
def F13 : Fn := ⟨1, 1, [true], (.cons (.ret (.neg (.bin .fdiv (.neg (.idx (.var 0) (.cst (.int 0)))) (.idx (.var 0) (.cst (.int 1)))))) .nil), none⟩
theorem is13 : F13.ext = none → T13.Is G F13 := fun _ => ⟨by decide +kernel, by kernel_rfl, rfl, rfl, rfl⟩
theorem bd13 : bindOk T13 := fun _ _ _ _ _ _ us hl => match us, hl with | [_], _ => rfl
def T14 : Txt := ⟨"nearest", top 18, ["one"], ["one"], [0], false⟩
def F14 : Fn := ⟨1, 1, [true], (.cons (.ret (.bin .fdiv (.bin .add (.bin .mul (.cst (.int 2)) (.idx (.var 0) (.cst (.int 0)))) (.idx (.var 0) (.cst (.int 1)))) (.bin .mul (.cst (.int 2)) (.idx (.var 0) (.cst (.int 1)))))) .nil), none⟩
theorem is14 : F14.ext = none → T14.Is G F14 := fun _ => ⟨by decide +kernel, by kernel_rfl, rfl, rfl, rfl⟩
theorem bd14 : bindOk T14 := fun _ _ _ _ _ _ us hl => match us, hl with | [_], _ => rfl
def T15 : Txt := ⟨"sum_of", top 19, ["values"], ["values", "found", "value"], [0], false⟩
def F15 : Fn := ⟨1, 3, [true], (.cons (.asg (.nm 1) (.tup (.cons (.cst (.int 0)) (.cons (.cst (.int 1)) .nil)))) (.cons (.forr (.nm 2) (.of (.var 0)) (.cons (.asg (.nm 1) (.call 6 (.cons (.var 1) (.cons (.var 2) .nil)))) .nil)) (.cons (.ret (.var 1)) .nil))), none⟩
theorem is15 : F15.ext = none → T15.Is G F15 := fun _ => ⟨by decide +kernel, by kernel_rfl, rfl, rfl, rfl⟩
theorem bd15 : bindOk T15 := fun _ _ _ _ _ _ us hl => match us, hl with | [_], _ => rfl
def T16 : Txt := ⟨"least_of", top 20, ["values"], ["values", "best", "value"], [0], false⟩
def F16 : Fn := ⟨1, 3, [true], (.cons (.asg (.nm 1) (.idx (.var 0) (.cst (.int 0)))) (.cons (.forr (.nm 2) (.of (.slc (.var 0) (.cons (.cst (.int 1)) .nil) .nil)) (.cons (.iff (.call 11 (.cons (.var 2) (.cons (.var 1) .nil))) (.cons (.asg (.nm 1) (.var 2)) .nil) .nil) .nil)) (.cons (.ret (.var 1)) .nil))), none⟩
theorem is16 : F16.ext = none → T16.Is G F16 := fun _ => ⟨by decide +kernel, by kernel_rfl, rfl, rfl, rfl⟩
theorem bd16 : bindOk T16 := fun _ _ _ _ _ _ us hl => match us, hl with | [_], _ => rfl
def T17 : Txt := ⟨"greatest_of", top 21, ["values"], ["values", "best", "value"], [0], false⟩
def F17 : Fn := ⟨1, 3, [true], (.cons (.asg (.nm 1) (.idx (.var 0) (.cst (.int 0)))) (.cons (.forr (.nm 2) (.of (.slc (.var 0) (.cons (.cst (.int 1)) .nil) .nil)) (.cons (.iff (.call 11 (.cons (.var 1) (.cons (.var 2) .nil))) (.cons (.asg (.nm 1) (.var 2)) .nil) .nil) .nil)) (.cons (.ret (.var 1)) .nil))), none⟩
theorem is17 : F17.ext = none → T17.Is G F17 := fun _ => ⟨by decide +kernel, by kernel_rfl, rfl, rfl, rfl⟩
theorem bd17 : bindOk T17 := fun _ _ _ _ _ _ us hl => match us, hl with | [_], _ => rfl
def T18 : Txt := ⟨"_law_draw", top 23, ["state", "limit"], ["state", "limit", "position", "cell", "mixed", "digit"], [0, 1], false⟩
def F18 : Fn := ⟨2, 6, [true, true], (.cons (.iff (.cmp .lt (.idx (.var 0) (.cst (.int 0))) (.var 1)) (.cons (.asg (.nm 2) (.idx (.var 0) (.cst (.int 1)))) (.cons (.setI 0 (.cst (.int 1)) (.bin .add (.var 2) (.cst (.int 1)))) (.cons (.asg (.nm 3) (.cst (.int 0))) (.cons (.iff (.cmp .lt (.var 2) (.bi .len (.cons (.idx (.var 0) (.cst (.int 2))) .nil))) (.cons (.asg (.nm 3) (.idx (.idx (.var 0) (.cst (.int 2))) (.var 2))) .nil) .nil) (.cons (.iff (.cmp .ge (.var 3) (.bin .pow (.cst (.int 10)) (.cst (.int 18)))) (.cons (.setI 0 (.cst (.int 0)) (.var 3)) .nil) (.cons (.setI 0 (.cst (.int 3)) (.bin .mod (.bi .int (.cons (.bin .mul (.bin .add (.bin .add (.bin .add (.idx (.var 0) (.cst (.int 3))) (.bin .mod (.bi .int (.cons (.var 3) .nil)) (.cst (.int 2147483629)))) (.var 2)) (.cst (.int 1))) (.cst (.int 48271))) .nil)) (.cst (.int 2147483647)))) (.cons (.asg (.nm 4) (.bin .mod (.bi .int (.cons (.bin .add (.bin .mul (.idx (.var 0) (.cst (.int 3))) (.cst (.int 69621))) (.cst (.int 11))) .nil)) (.cst (.int 2147483629)))) (.cons (.setI 0 (.cst (.int 0)) (.bin .add (.bin .mul (.var 4) (.cst (.int 2147483647))) (.bin .mod (.bi .int (.cons (.bin .add (.bin .mul (.var 4) (.cst (.int 30011))) (.idx (.var 0) (.cst (.int 3)))) .nil)) (.cst (.int 2147483587))))) .nil)))) .nil))))) .nil) (.cons (.asg (.nm 5) (.bin .mod (.bi .int (.cons (.idx (.var 0) (.cst (.int 0))) .nil)) (.var 1))) (.cons (.setI 0 (.cst (.int 0)) (.bin .fdiv (.idx (.var 0) (.cst (.int 0))) (.var 1))) (.cons (.ret (.var 5)) .nil)))), none⟩
theorem is18 : F18.ext = none → T18.Is G F18 := fun _ => ⟨by decide +kernel, by kernel_rfl, rfl, rfl, rfl⟩
theorem bd18 : bindOk T18 := fun _ _ _ _ _ _ us hl => match us, hl with | [_, _], _ => rfl
def T19 : Txt := ⟨"_law_common", top 24, ["one", "two"], ["one", "two"], [], false⟩
def F19 : Fn := ⟨2, 2, [false, false], (.cons (.whl (.cmp .ne (.var 1) (.cst (.int 0))) (.cons (.par 0 1 (.var 1) (.bin .mod (.bi .int (.cons (.var 0) .nil)) (.var 1))) .nil)) (.cons (.ret (.bi .abs (.cons (.var 0) .nil))) .nil)), none⟩
theorem is19 : F19.ext = none → T19.Is G F19 := fun _ => ⟨by decide +kernel, by kernel_rfl, rfl, rfl, rfl⟩
theorem bd19 : bindOk T19 := fun _ _ _ _ _ _ us hl => match us, hl with | [_, _], _ => rfl
def T20 : Txt := ⟨"_law_is", top 25, ["told", "above", "below"], ["told", "above", "below"], [0, 1, 2], false⟩
def F20 : Fn := ⟨3, 3, [true, true, true], (.cons (.iff (.or (.nt (.bi .isTuple (.cons (.var 0) .nil))) (.or (.cmp .ne (.bi .len (.cons (.var 0) .nil)) (.cst (.int 2))) (.or (.cmp .lt (.idx (.var 0) (.cst (.int 1))) (.cst (.int 1))) (.cmp .ne (.call 19 (.cons (.idx (.var 0) (.cst (.int 0))) (.cons (.idx (.var 0) (.cst (.int 1))) .nil))) (.cst (.int 1)))))) (.cons (.ret (.cst (.bl false))) .nil) .nil) (.cons (.ret (.cmp .eq (.bin .mul (.idx (.var 0) (.cst (.int 0))) (.var 2)) (.bin .mul (.var 1) (.idx (.var 0) (.cst (.int 1)))))) .nil)), none⟩
theorem is20 : F20.ext = none → T20.Is G F20 := fun _ => ⟨by decide +kernel, by kernel_rfl, rfl, rfl, rfl⟩
theorem bd20 : bindOk T20 := fun _ _ _ _ _ _ us hl => match us, hl with | [_, _, _], _ => rfl
def T21 : Txt := ⟨"_law_refused", top 26, ["one"], ["one", "error"], [0], false⟩
def F21 : Fn := ⟨1, 2, [true], .nil, some refG⟩
theorem is21 : F21.ext = none → T21.Is G F21 := fun z => by cases z
theorem bd21 : bindOk T21 := fun _ _ _ _ _ _ us hl => match us, hl with | [_], _ => rfl
def T22 : Txt := ⟨"law", top 27, ["script"], ["script", "state", "size", "a", "b", "c", "d", "one", "two", "low", "up", "mid", "rows", "k", "total", "row", "least", "most", "e", "made", "odd"], [0], false⟩
def b22_0 : Ss := (.cons (.expr (.mut .append 12 (.cons (.call 3 (.cons (.bin .sub (.call 18 (.cons (.var 1) (.cons (.cst (.int 41)) .nil))) (.cst (.int 20))) (.cons (.bin .add (.cst (.int 1)) (.call 18 (.cons (.var 1) (.cons (.cst (.int 9)) .nil)))) .nil))) .nil))) .nil)
def b22_1 : Ss := (.cons (.asg (.nm 14) (.tup (.cons (.bin .add (.bin .mul (.idx (.var 14) (.cst (.int 0))) (.idx (.var 15) (.cst (.int 1)))) (.bin .mul (.idx (.var 15) (.cst (.int 0))) (.idx (.var 14) (.cst (.int 1))))) (.cons (.bin .mul (.idx (.var 14) (.cst (.int 1))) (.idx (.var 15) (.cst (.int 1)))) .nil)))) .nil)
def e22_2 : E := (.or (.cmp .lt (.bin .mul (.idx (.var 15) (.cst (.int 0))) (.idx (.var 16) (.cst (.int 1)))) (.bin .mul (.idx (.var 16) (.cst (.int 0))) (.idx (.var 15) (.cst (.int 1))))) (.cmp .gt (.bin .mul (.idx (.var 15) (.cst (.int 0))) (.idx (.var 17) (.cst (.int 1)))) (.bin .mul (.idx (.var 17) (.cst (.int 0))) (.idx (.var 15) (.cst (.int 1))))))
def b22_3 : Ss := (.cons (.asg (.nm 19) (.bin .mul (.var 19) (.var 3))) .nil)
def q22_29 : Ss := .cons (.ret (.an (.cmp .is (.call 0 (.cons (.var 3) (.cons (.var 3) (.cons (.var 3) .nil)))) (.cst (.bl true))) (.an (.cmp .is (.call 0 (.cons (.var 3) (.cons (.bin .add (.var 3) (.cst (.int 1))) (.cons (.cst .non) .nil)))) (.cst (.bl false))) (.an (.cmp .is (.call 0 (.cons (.cst (.bl true)) (.cons (.cst (.int 0)) (.cons (.cst (.int 5)) .nil)))) (.cst (.bl false))) (.cmp .is (.call 0 (.cons (.cst (.str "1")) (.cons (.cst .non) (.cons (.cst .non) .nil)))) (.cst (.bl false))))))) .nil
def q22_28 : Ss := .cons (.iff (.or (.cmp .ne (.call 2 (.cons (.var 3) (.cons (.var 18) .nil))) (.var 19)) (.or (.cmp .ne (.call 1 (.cons (.var 3) (.cons (.var 5) .nil))) (.call 19 (.cons (.var 3) (.cons (.var 5) .nil)))) (.or (.cmp .isn (.call 5 (.cons (.var 7) .nil)) (.cst (.bl true))) (.cmp .isn (.call 5 (.cons (.var 20) .nil)) (.cst (.bl false)))))) (.cons (.ret (.cst (.bl false))) .nil) .nil) q22_29
def q22_27 : Ss := .cons (.asg (.nm 20) (.idx (.lst (.cons (.tup (.cons (.cst (.int 1)) (.cons (.cst (.int 0)) .nil))) (.cons (.tup (.cons (.cst (.int 2)) (.cons (.cst (.int 4)) .nil))) (.cons (.lst (.cons (.cst (.int 1)) (.cons (.cst (.int 2)) .nil))) (.cons (.tup (.cons (.cst (.int 1)) .nil)) (.cons (.tup (.cons (.cst (.int 1)) (.cons (.bin .sub (.cst (.int 0)) (.cst (.int 1))) .nil))) (.cons (.tup (.cons (.cst (.bl true)) (.cons (.cst (.int 1)) .nil))) (.cons (.cst .non) .nil)))))))) (.call 18 (.cons (.var 1) (.cons (.cst (.int 7)) .nil))))) q22_28
def q22_26 : Ss := .cons (.forr (.nm 13) (.rng1 (.var 18)) b22_3) q22_27
def q22_25 : Ss := .cons (.asg (.nm 19) (.cst (.int 1))) q22_26
def q22_24 : Ss := .cons (.asg (.nm 18) (.call 18 (.cons (.var 1) (.cons (.cst (.int 21)) .nil)))) q22_25
def q22_23 : Ss := .cons (.iff (.bi .any (.cons (.lc e22_2 (.nm 15) (.of (.var 12)) .nil [15]) .nil)) (.cons (.ret (.cst (.bl false))) .nil) .nil) q22_24
def q22_22 : Ss := .cons (.iff (.or (.nt (.call 20 (.cons (.call 15 (.cons (.var 12) .nil)) (.cons (.idx (.var 14) (.cst (.int 0))) (.cons (.idx (.var 14) (.cst (.int 1))) .nil))))) (.or (.cmp .nin (.var 16) (.var 12)) (.cmp .nin (.var 17) (.var 12)))) (.cons (.ret (.cst (.bl false))) .nil) .nil) q22_23
def q22_21 : Ss := .cons (.asg (.nm 17) (.call 17 (.cons (.var 12) .nil))) q22_22
def q22_20 : Ss := .cons (.asg (.nm 16) (.call 16 (.cons (.var 12) .nil))) q22_21
def q22_19 : Ss := .cons (.forr (.nm 15) (.of (.var 12)) b22_1) q22_20
def q22_18 : Ss := .cons (.asg (.nm 14) (.tup (.cons (.cst (.int 0)) (.cons (.cst (.int 1)) .nil)))) q22_19
def q22_17 : Ss := .cons (.forr (.nm 13) (.rng1 (.cst (.int 3))) b22_0) q22_18
def q22_16 : Ss := .cons (.asg (.nm 12) (.lst (.cons (.var 7) (.cons (.var 8) .nil)))) q22_17
def q22_15 : Ss := .cons (.iff (.nt (.chain .le .lt (.bin .mul (.bin .sub (.bin .mul (.cst (.int 2)) (.var 11)) (.cst (.int 1))) (.idx (.var 7) (.cst (.int 1)))) (.bin .mul (.cst (.int 2)) (.idx (.var 7) (.cst (.int 0)))) (.bin .mul (.bin .add (.bin .mul (.cst (.int 2)) (.var 11)) (.cst (.int 1))) (.idx (.var 7) (.cst (.int 1)))))) (.cons (.ret (.cst (.bl false))) .nil) .nil) q22_16
def q22_14 : Ss := .cons (.iff (.or (.nt (.chain .le .lt (.bin .mul (.var 9) (.idx (.var 7) (.cst (.int 1)))) (.idx (.var 7) (.cst (.int 0))) (.bin .mul (.bin .add (.var 9) (.cst (.int 1))) (.idx (.var 7) (.cst (.int 1)))))) (.nt (.chain .lt .le (.bin .mul (.bin .sub (.var 10) (.cst (.int 1))) (.idx (.var 7) (.cst (.int 1)))) (.idx (.var 7) (.cst (.int 0))) (.bin .mul (.var 10) (.idx (.var 7) (.cst (.int 1))))))) (.cons (.ret (.cst (.bl false))) .nil) .nil) q22_15
def q22_13 : Ss := .cons (.asg (.nm 11) (.call 14 (.cons (.var 7) .nil))) q22_14
def q22_12 : Ss := .cons (.asg (.nm 10) (.call 13 (.cons (.var 7) .nil))) q22_13
def q22_11 : Ss := .cons (.asg (.nm 9) (.call 12 (.cons (.var 7) .nil))) q22_12
def q22_10 : Ss := .cons (.iff (.or (.an (.cmp .ne (.var 5) (.cst (.int 0))) (.nt (.call 20 (.cons (.call 9 (.cons (.var 7) (.cons (.var 8) .nil))) (.cons (.bin .mul (.var 3) (.var 6)) (.cons (.bin .mul (.var 4) (.var 5)) .nil)))))) (.cmp .ne (.call 11 (.cons (.var 7) (.cons (.var 8) .nil))) (.cmp .lt (.bin .mul (.bin .mul (.var 3) (.var 6)) (.var 4)) (.bin .mul (.bin .mul (.var 5) (.var 4)) (.var 4))))) (.cons (.ret (.cst (.bl false))) .nil) .nil) q22_11
def q22_9 : Ss := .cons (.iff (.or (.nt (.call 20 (.cons (.call 6 (.cons (.var 7) (.cons (.var 8) .nil))) (.cons (.bin .add (.bin .mul (.var 3) (.var 6)) (.bin .mul (.var 5) (.var 4))) (.cons (.bin .mul (.var 4) (.var 6)) .nil))))) (.or (.nt (.call 20 (.cons (.call 7 (.cons (.var 7) (.cons (.var 8) .nil))) (.cons (.bin .sub (.bin .mul (.var 3) (.var 6)) (.bin .mul (.var 5) (.var 4))) (.cons (.bin .mul (.var 4) (.var 6)) .nil))))) (.nt (.call 20 (.cons (.call 8 (.cons (.var 7) (.cons (.var 8) .nil))) (.cons (.bin .mul (.var 3) (.var 5)) (.cons (.bin .mul (.var 4) (.var 6)) .nil))))))) (.cons (.ret (.cst (.bl false))) .nil) .nil) q22_10
def q22_8 : Ss := .cons (.iff (.or (.nt (.call 20 (.cons (.var 7) (.cons (.var 3) (.cons (.var 4) .nil))))) (.or (.nt (.call 20 (.cons (.var 8) (.cons (.var 5) (.cons (.var 6) .nil))))) (.or (.nt (.call 21 (.cons (.var 7) .nil))) (.or (.cmp .ne (.call 4 (.cons (.var 3) .nil)) (.tup (.cons (.var 3) (.cons (.cst (.int 1)) .nil)))) (.nt (.call 20 (.cons (.call 10 (.cons (.var 7) .nil)) (.cons (.bin .sub (.cst (.int 0)) (.var 3)) (.cons (.var 4) .nil))))))))) (.cons (.ret (.cst (.bl false))) .nil) .nil) q22_9
def q22_7 : Ss := .cons (.asg (.nm 8) (.call 3 (.cons (.var 5) (.cons (.var 6) .nil)))) q22_8
def q22_6 : Ss := .cons (.asg (.nm 7) (.call 3 (.cons (.var 3) (.cons (.var 4) .nil)))) q22_7
def q22_5 : Ss := .cons (.asg (.nm 6) (.bin .add (.cst (.int 1)) (.call 18 (.cons (.var 1) (.cons (.var 2) .nil))))) q22_6
def q22_4 : Ss := .cons (.asg (.nm 5) (.bin .sub (.call 18 (.cons (.var 1) (.cons (.bin .add (.bin .mul (.cst (.int 2)) (.var 2)) (.cst (.int 1))) .nil))) (.var 2))) q22_5
def q22_3 : Ss := .cons (.asg (.nm 4) (.bin .mul (.bin .add (.cst (.int 1)) (.call 18 (.cons (.var 1) (.cons (.var 2) .nil)))) (.idx (.lst (.cons (.cst (.int 1)) (.cons (.bin .sub (.cst (.int 0)) (.cst (.int 1))) .nil))) (.call 18 (.cons (.var 1) (.cons (.cst (.int 2)) .nil)))))) q22_4
def q22_2 : Ss := .cons (.asg (.nm 3) (.bin .sub (.call 18 (.cons (.var 1) (.cons (.bin .add (.bin .mul (.cst (.int 2)) (.var 2)) (.cst (.int 1))) .nil))) (.var 2))) q22_3
def q22_1 : Ss := .cons (.asg (.nm 2) (.idx (.lst (.cons (.cst (.int 10)) (.cons (.bin .pow (.cst (.int 10)) (.cst (.int 9))) .nil))) (.call 18 (.cons (.var 1) (.cons (.cst (.int 2)) .nil))))) q22_2
def q22_0 : Ss := .cons (.asg (.nm 1) (.lst (.cons (.cst (.int 0)) (.cons (.cst (.int 0)) (.cons (.bi .list (.cons (.var 0) .nil)) (.cons (.cst (.int 1)) .nil)))))) q22_1
def F22 : Fn := ⟨1, 21, [true], q22_0, none⟩
theorem is22 : F22.ext = none → T22.Is G F22 := fun _ => ⟨by decide +kernel, by kernel_rfl, rfl, rfl, rfl⟩
theorem bd22 : bindOk T22 := fun _ _ _ _ _ _ us hl => match us, hl with | [_], _ => rfl
def Ts : List Txt := [T0, T1, T2, T3, T4, T5, T6, T7, T8, T9, T10, T11, T12, T13, T14, T15, T16, T17, T18, T19, T20, T21, T22]
def fs : List Fn := [F0, F1, F2, F3, F4, F5, F6, F7, F8, F9, F10, F11, F12, F13, F14, F15, F16, F17, F18, F19, F20, F21, F22]
theorem o0 {fuel k : Nat} {p0 p1 p2 : Sl} : callF fs (exmT exmt) fuel (k + 1) 0 [p0, p1, p2] = endF F0.lend (evSs (mkP fs (exmT exmt) fuel k 3) F0.body [some p0, some p1, some p2]) := callF_at (fs := fs) (fn := F0) rfl rfl rfl
@[simp] theorem ln0 {fuel k np : Nat} : (mkP fs (exmT exmt) fuel k np).lend 0 = F0.lend := mk_lend (fn := F0) rfl
theorem o1 {fuel k : Nat} {p0 p1 : Sl} : callF fs (exmT exmt) fuel (k + 1) 1 [p0, p1] = endF F1.lend (evSs (mkP fs (exmT exmt) fuel k 2) F1.body [some p0, some p1]) := callF_at (fs := fs) (fn := F1) rfl rfl rfl
@[simp] theorem ln1 {fuel k np : Nat} : (mkP fs (exmT exmt) fuel k np).lend 1 = F1.lend := mk_lend (fn := F1) rfl
theorem o2 {fuel k : Nat} {p0 p1 : Sl} : callF fs (exmT exmt) fuel (k + 1) 2 [p0, p1] = endF F2.lend (evSs (mkP fs (exmT exmt) fuel k 2) F2.body [some p0, some p1, none, none, none]) := callF_at (fs := fs) (fn := F2) rfl rfl rfl
@[simp] theorem ln2 {fuel k np : Nat} : (mkP fs (exmT exmt) fuel k np).lend 2 = F2.lend := mk_lend (fn := F2) rfl
theorem o3 {fuel k : Nat} {p0 p1 : Sl} : callF fs (exmT exmt) fuel (k + 1) 3 [p0, p1] = endF F3.lend (evSs (mkP fs (exmT exmt) fuel k 2) F3.body [some p0, some p1, none]) := callF_at (fs := fs) (fn := F3) rfl rfl rfl
@[simp] theorem ln3 {fuel k np : Nat} : (mkP fs (exmT exmt) fuel k np).lend 3 = F3.lend := mk_lend (fn := F3) rfl
theorem o4 {fuel k : Nat} {p0 : Sl} : callF fs (exmT exmt) fuel (k + 1) 4 [p0] = endF F4.lend (evSs (mkP fs (exmT exmt) fuel k 1) F4.body [some p0]) := callF_at (fs := fs) (fn := F4) rfl rfl rfl
@[simp] theorem ln4 {fuel k np : Nat} : (mkP fs (exmT exmt) fuel k np).lend 4 = F4.lend := mk_lend (fn := F4) rfl
theorem o5 {fuel k : Nat} {p0 : Sl} : callF fs (exmT exmt) fuel (k + 1) 5 [p0] = endF F5.lend (evSs (mkP fs (exmT exmt) fuel k 1) F5.body [some p0]) := callF_at (fs := fs) (fn := F5) rfl rfl rfl
@[simp] theorem ln5 {fuel k np : Nat} : (mkP fs (exmT exmt) fuel k np).lend 5 = F5.lend := mk_lend (fn := F5) rfl
theorem o6 {fuel k : Nat} {p0 p1 : Sl} : callF fs (exmT exmt) fuel (k + 1) 6 [p0, p1] = endF F6.lend (evSs (mkP fs (exmT exmt) fuel k 2) F6.body [some p0, some p1]) := callF_at (fs := fs) (fn := F6) rfl rfl rfl
@[simp] theorem ln6 {fuel k np : Nat} : (mkP fs (exmT exmt) fuel k np).lend 6 = F6.lend := mk_lend (fn := F6) rfl
theorem o7 {fuel k : Nat} {p0 p1 : Sl} : callF fs (exmT exmt) fuel (k + 1) 7 [p0, p1] = endF F7.lend (evSs (mkP fs (exmT exmt) fuel k 2) F7.body [some p0, some p1]) := callF_at (fs := fs) (fn := F7) rfl rfl rfl
@[simp] theorem ln7 {fuel k np : Nat} : (mkP fs (exmT exmt) fuel k np).lend 7 = F7.lend := mk_lend (fn := F7) rfl
theorem o8 {fuel k : Nat} {p0 p1 : Sl} : callF fs (exmT exmt) fuel (k + 1) 8 [p0, p1] = endF F8.lend (evSs (mkP fs (exmT exmt) fuel k 2) F8.body [some p0, some p1]) := callF_at (fs := fs) (fn := F8) rfl rfl rfl
@[simp] theorem ln8 {fuel k np : Nat} : (mkP fs (exmT exmt) fuel k np).lend 8 = F8.lend := mk_lend (fn := F8) rfl
theorem o9 {fuel k : Nat} {p0 p1 : Sl} : callF fs (exmT exmt) fuel (k + 1) 9 [p0, p1] = endF F9.lend (evSs (mkP fs (exmT exmt) fuel k 2) F9.body [some p0, some p1]) := callF_at (fs := fs) (fn := F9) rfl rfl rfl
@[simp] theorem ln9 {fuel k np : Nat} : (mkP fs (exmT exmt) fuel k np).lend 9 = F9.lend := mk_lend (fn := F9) rfl
theorem o10 {fuel k : Nat} {p0 : Sl} : callF fs (exmT exmt) fuel (k + 1) 10 [p0] = endF F10.lend (evSs (mkP fs (exmT exmt) fuel k 1) F10.body [some p0]) := callF_at (fs := fs) (fn := F10) rfl rfl rfl
@[simp] theorem ln10 {fuel k np : Nat} : (mkP fs (exmT exmt) fuel k np).lend 10 = F10.lend := mk_lend (fn := F10) rfl
theorem o11 {fuel k : Nat} {p0 p1 : Sl} : callF fs (exmT exmt) fuel (k + 1) 11 [p0, p1] = endF F11.lend (evSs (mkP fs (exmT exmt) fuel k 2) F11.body [some p0, some p1]) := callF_at (fs := fs) (fn := F11) rfl rfl rfl
@[simp] theorem ln11 {fuel k np : Nat} : (mkP fs (exmT exmt) fuel k np).lend 11 = F11.lend := mk_lend (fn := F11) rfl
theorem o12 {fuel k : Nat} {p0 : Sl} : callF fs (exmT exmt) fuel (k + 1) 12 [p0] = endF F12.lend (evSs (mkP fs (exmT exmt) fuel k 1) F12.body [some p0]) := callF_at (fs := fs) (fn := F12) rfl rfl rfl
@[simp] theorem ln12 {fuel k np : Nat} : (mkP fs (exmT exmt) fuel k np).lend 12 = F12.lend := mk_lend (fn := F12) rfl
theorem o13 {fuel k : Nat} {p0 : Sl} : callF fs (exmT exmt) fuel (k + 1) 13 [p0] = endF F13.lend (evSs (mkP fs (exmT exmt) fuel k 1) F13.body [some p0]) := callF_at (fs := fs) (fn := F13) rfl rfl rfl
@[simp] theorem ln13 {fuel k np : Nat} : (mkP fs (exmT exmt) fuel k np).lend 13 = F13.lend := mk_lend (fn := F13) rfl
theorem o14 {fuel k : Nat} {p0 : Sl} : callF fs (exmT exmt) fuel (k + 1) 14 [p0] = endF F14.lend (evSs (mkP fs (exmT exmt) fuel k 1) F14.body [some p0]) := callF_at (fs := fs) (fn := F14) rfl rfl rfl
@[simp] theorem ln14 {fuel k np : Nat} : (mkP fs (exmT exmt) fuel k np).lend 14 = F14.lend := mk_lend (fn := F14) rfl
theorem o15 {fuel k : Nat} {p0 : Sl} : callF fs (exmT exmt) fuel (k + 1) 15 [p0] = endF F15.lend (evSs (mkP fs (exmT exmt) fuel k 1) F15.body [some p0, none, none]) := callF_at (fs := fs) (fn := F15) rfl rfl rfl
@[simp] theorem ln15 {fuel k np : Nat} : (mkP fs (exmT exmt) fuel k np).lend 15 = F15.lend := mk_lend (fn := F15) rfl
theorem o16 {fuel k : Nat} {p0 : Sl} : callF fs (exmT exmt) fuel (k + 1) 16 [p0] = endF F16.lend (evSs (mkP fs (exmT exmt) fuel k 1) F16.body [some p0, none, none]) := callF_at (fs := fs) (fn := F16) rfl rfl rfl
@[simp] theorem ln16 {fuel k np : Nat} : (mkP fs (exmT exmt) fuel k np).lend 16 = F16.lend := mk_lend (fn := F16) rfl
theorem o17 {fuel k : Nat} {p0 : Sl} : callF fs (exmT exmt) fuel (k + 1) 17 [p0] = endF F17.lend (evSs (mkP fs (exmT exmt) fuel k 1) F17.body [some p0, none, none]) := callF_at (fs := fs) (fn := F17) rfl rfl rfl
@[simp] theorem ln17 {fuel k np : Nat} : (mkP fs (exmT exmt) fuel k np).lend 17 = F17.lend := mk_lend (fn := F17) rfl
theorem o18 {fuel k : Nat} {p0 p1 : Sl} : callF fs (exmT exmt) fuel (k + 1) 18 [p0, p1] = endF F18.lend (evSs (mkP fs (exmT exmt) fuel k 2) F18.body [some p0, some p1, none, none, none, none]) := callF_at (fs := fs) (fn := F18) rfl rfl rfl
@[simp] theorem ln18 {fuel k np : Nat} : (mkP fs (exmT exmt) fuel k np).lend 18 = F18.lend := mk_lend (fn := F18) rfl
theorem o19 {fuel k : Nat} {p0 p1 : Sl} : callF fs (exmT exmt) fuel (k + 1) 19 [p0, p1] = endF F19.lend (evSs (mkP fs (exmT exmt) fuel k 2) F19.body [some p0, some p1]) := callF_at (fs := fs) (fn := F19) rfl rfl rfl
@[simp] theorem ln19 {fuel k np : Nat} : (mkP fs (exmT exmt) fuel k np).lend 19 = F19.lend := mk_lend (fn := F19) rfl
theorem o20 {fuel k : Nat} {p0 p1 p2 : Sl} : callF fs (exmT exmt) fuel (k + 1) 20 [p0, p1, p2] = endF F20.lend (evSs (mkP fs (exmT exmt) fuel k 3) F20.body [some p0, some p1, some p2]) := callF_at (fs := fs) (fn := F20) rfl rfl rfl
@[simp] theorem ln20 {fuel k np : Nat} : (mkP fs (exmT exmt) fuel k np).lend 20 = F20.lend := mk_lend (fn := F20) rfl
@[simp] theorem ln21 {fuel k np : Nat} : (mkP fs (exmT exmt) fuel k np).lend 21 = F21.lend := mk_lend (fn := F21) rfl
theorem o22 {fuel k : Nat} {p0 : Sl} : callF fs (exmT exmt) fuel (k + 1) 22 [p0] = endF F22.lend (evSs (mkP fs (exmT exmt) fuel k 1) F22.body [some p0, none, none, none, none, none, none, none, none, none, none, none, none, none, none, none, none, none, none, none, none]) := callF_at (fs := fs) (fn := F22) rfl rfl rfl
@[simp] theorem ln22 {fuel k np : Nat} : (mkP fs (exmT exmt) fuel k np).lend 22 = F22.lend := mk_lend (fn := F22) rfl
/-- what is looked at in the head -/
def lookB (K : PySem.W.Frag) : Bool := defB K T0 && defB K T1 && defB K T2 && defB K T3 && defB K T4 && defB K T5 && defB K T6 && defB K T7 && defB K T8 && defB K T9 && defB K T10 && defB K T11 && defB K T12 && defB K T13 && defB K T14 && defB K T15 && defB K T16 && defB K T17 && defB K T18 && defB K T19 && defB K T20 && defB K T21 && defB K T22 && worldB K G exmt
structure Eqs (K : PySem.W.Frag) : Prop where
  e0 : fdEq K T0
  e1 : fdEq K T1
  e2 : fdEq K T2
  e3 : fdEq K T3
  e4 : fdEq K T4
  e5 : fdEq K T5
  e6 : fdEq K T6
  e7 : fdEq K T7
  e8 : fdEq K T8
  e9 : fdEq K T9
  e10 : fdEq K T10
  e11 : fdEq K T11
  e12 : fdEq K T12
  e13 : fdEq K T13
  e14 : fdEq K T14
  e15 : fdEq K T15
  e16 : fdEq K T16
  e17 : fdEq K T17
  e18 : fdEq K T18
  e19 : fdEq K T19
  e20 : fdEq K T20
  e21 : fdEq K T21
  e22 : fdEq K T22
theorem says {K : PySem.W.Frag} (h : lookB K = true) (e : Eqs K) (x : ExtOk K G Ts fs exmt) : Says K G Ts fs exmt := by
  unfold lookB at h
  simp only [Bool.and_eq_true] at h
  obtain ⟨⟨⟨⟨⟨⟨⟨⟨⟨⟨⟨⟨⟨⟨⟨⟨⟨⟨⟨⟨⟨⟨⟨h0, h1⟩, h2⟩, h3⟩, h4⟩, h5⟩, h6⟩, h7⟩, h8⟩, h9⟩, h10⟩, h11⟩, h12⟩, h13⟩, h14⟩, h15⟩, h16⟩, h17⟩, h18⟩, h19⟩, h20⟩, h21⟩, h22⟩, hw⟩ := h
  refine ⟨fun i T f hT hf => ?_, rfl, rfl, hw, x⟩
  match i, hT, hf with
  | 0, hT, hf => cases hT; cases hf; exact ⟨h0, e.e0, bd0, is0⟩
  | 1, hT, hf => cases hT; cases hf; exact ⟨h1, e.e1, bd1, is1⟩
  | 2, hT, hf => cases hT; cases hf; exact ⟨h2, e.e2, bd2, is2⟩
  | 3, hT, hf => cases hT; cases hf; exact ⟨h3, e.e3, bd3, is3⟩
  | 4, hT, hf => cases hT; cases hf; exact ⟨h4, e.e4, bd4, is4⟩
  | 5, hT, hf => cases hT; cases hf; exact ⟨h5, e.e5, bd5, is5⟩
  | 6, hT, hf => cases hT; cases hf; exact ⟨h6, e.e6, bd6, is6⟩
  | 7, hT, hf => cases hT; cases hf; exact ⟨h7, e.e7, bd7, is7⟩
  | 8, hT, hf => cases hT; cases hf; exact ⟨h8, e.e8, bd8, is8⟩
  | 9, hT, hf => cases hT; cases hf; exact ⟨h9, e.e9, bd9, is9⟩
  | 10, hT, hf => cases hT; cases hf; exact ⟨h10, e.e10, bd10, is10⟩
  | 11, hT, hf => cases hT; cases hf; exact ⟨h11, e.e11, bd11, is11⟩
  | 12, hT, hf => cases hT; cases hf; exact ⟨h12, e.e12, bd12, is12⟩
  | 13, hT, hf => cases hT; cases hf; exact ⟨h13, e.e13, bd13, is13⟩
  | 14, hT, hf => cases hT; cases hf; exact ⟨h14, e.e14, bd14, is14⟩
  | 15, hT, hf => cases hT; cases hf; exact ⟨h15, e.e15, bd15, is15⟩
  | 16, hT, hf => cases hT; cases hf; exact ⟨h16, e.e16, bd16, is16⟩
  | 17, hT, hf => cases hT; cases hf; exact ⟨h17, e.e17, bd17, is17⟩
  | 18, hT, hf => cases hT; cases hf; exact ⟨h18, e.e18, bd18, is18⟩
  | 19, hT, hf => cases hT; cases hf; exact ⟨h19, e.e19, bd19, is19⟩
  | 20, hT, hf => cases hT; cases hf; exact ⟨h20, e.e20, bd20, is20⟩
  | 21, hT, hf => cases hT; cases hf; exact ⟨h21, e.e21, bd21, is21⟩
  | 22, hT, hf => cases hT; cases hf; exact ⟨h22, e.e22, bd22, is22⟩
  | i + 23, hT, hf => simp [Ts] at hT
end Ev
end
section
set_option maxRecDepth 100000
set_option maxHeartbeats 4000000
namespace Ev
open PySem PySem.Spec L2
def cN (K : PySem.W.Frag) : Addr := faOf K "NoSuch"
def cL (K : PySem.W.Frag) : Addr := faOf K "LinesfittedError"
def extra01 (K : PySem.W.Frag) : Bool :=
  (PySem.W.findIn K (.ref (cN K)) "__getattribute__" == some (some (.builtin "BaseException.__getattribute__"))) && (PySem.W.findIn K (.ref (cN K)) "__getattr__" == some none) &&
  (PySem.W.subIn K (.ref (cN K)) (.type "BaseException") == some true) && PySem.W.hasDictIn K (cN K) && (PySem.W.findIn K (.ref (cN K)) "__class__" == some (some (.builtin "object.__class__"))) &&
  (PySem.W.specialIn K (.builtin "object.__class__") "__get__" == some (some (.builtin "getset_descriptor.__get__"))) && (PySem.W.takesIn K (.builtin "object.__class__") == some true) && (PySem.W.mroIn K (cN K) (.type "object") == some true) &&
  (PySem.W.kitOne K (.ref (cN K)) (.ref (cL K)) == some true)
theorem ext01 {K : PySem.W.Frag} (hx : extra01 K = true) : ExtOk K G Ts fs exmt := fun Γ hK b i T f g hT hf he fa fd dA => by
  subst hK
  unfold extra01 at hx
  simp only [Bool.and_eq_true, beq_iff_eq] at hx
  obtain ⟨⟨⟨⟨⟨⟨⟨⟨x1, x2⟩, x3⟩, x4⟩, x5⟩, x6⟩, x7⟩, x8⟩, x9⟩ := hx
  obtain ⟨C0, e1, e2, _⟩ := (b.exc 0 "LinesfittedError" rfl).ex
  have oN := b.exc 1 "NoSuch" rfl
  obtain ⟨C, f1, f2, _⟩ := id oN.ex
  have g1 : Γ.exc 1 = some (cN Γ.K) := by rw [b.hexc]; rfl
  have g0 : Γ.exc 0 = some (cL Γ.K) := by rw [b.hexc]; rfl
  rw [g1] at f1; cases f1
  rw [g0] at e1; cases e1
  obtain ⟨Cx, Cc, h1, h2, h3⟩ := b.exm 1 1 true rfl
  rw [g1] at h1 h2; cases h1; cases h2
  obtain ⟨fF, dF, hF⟩ := b.defs 3 T3 rfl
  obtain ⟨fO, dO, hO⟩ := b.defs 9 T9 rfl
  have A := frac_N (c := 1) hF (by decide +kernel) rfl rfl (by decide +kernel) oN g1 (by decide +kernel) (fun X h => by
    show X.env.scope.names.lookup _ = _
    rw [h]; decide +kernel)
  have B := over_H hO (by decide +kernel) rfl rfl (by decide +kernel) (by decide +kernel) (by decide +kernel) (fun X h => by
    show X.env.scope.names.lookup _ = _
    rw [h]; decide +kernel) hF rfl A.2
  match i, hT, hf with
  | 21, hT, hf =>
    cases hT; cases hf; cases he
    refine ref_spF (refused_ok (C := cN Γ.K) (C0 := cL Γ.K) dA (by decide +kernel) rfl rfl (by decide +kernel) (by decide +kernel) (by decide +kernel) (fun X h => ?_) hF rfl hO rfl rfl rfl A.1 B f2 e2 (b.blt "isinstance" (by decide +kernel)) h3 ⟨x1, x2, x3, x4, x5, x6, x7, x8⟩ x9)
    have k : ∀ x, (defScope T21.st).names.lookup x = some .globalImplicit → Gl X x := fun x q => by
      show X.env.scope.names.lookup _ = _
      rw [h]; exact q
    exact ⟨k _ (by decide +kernel), k _ (by decide +kernel), k _ (by decide +kernel), k _ (by decide +kernel), k _ (by decide +kernel)⟩
  | 0, _, hf | 1, _, hf | 2, _, hf | 3, _, hf | 4, _, hf | 5, _, hf | 6, _, hf | 7, _, hf | 8, _, hf | 9, _, hf | 10, _, hf | 11, _, hf | 12, _, hf | 13, _, hf | 14, _, hf | 15, _, hf | 16, _, hf | 17, _, hf | 18, _, hf | 19, _, hf | 20, _, hf | 22, _, hf => cases hf; cases he
  | i + 23, hT, hf => simp [fs] at hf
end Ev
end
section
set_option maxRecDepth 100000
set_option maxHeartbeats 4000000
namespace Ev
open PySem
variable {fuel k : Nat}
abbrev An (fuel k j : Nat) (ds : List D) (r : D) : Prop := Ans (callF fs (exmT exmt) fuel k) j ds r
theorem a1 {a b : Int} (hf : b.natAbs < fuel) : An fuel (k + 1) 1 [.int a, .int b] (.int (Int.gcd a b)) := by
  simp only [An, Ans, List.map]
  rw [o1]
  obtain ⟨g, hg, w⟩ := gcd_loop (test := evT (mkP fs (exmT exmt) fuel k 2) (.var 1)) (body := evSs (mkP fs (exmT exmt) fuel k 2) (.cons (.par 0 1 (.var 1) (.bin .mod (.var 0) (.var 1))) .nil)) (m := fuel) (a := a) (b := b)
    (fun a b => by simp; rfl) (fun a b h => by simp [fb_mod h]) (Nat.le_refl _) hf
  simp [F1, w, hg]
theorem a19 {a b : Int} (hf : b.natAbs < fuel) : An fuel (k + 1) 19 [.int a, .int b] (.int (Int.gcd a b)) := by
  simp only [An, Ans, List.map]
  rw [o19]
  obtain ⟨g, hg, w⟩ := gcd_loop (test := evT (mkP fs (exmT exmt) fuel k 2) (.cmp .ne (.var 1) (.cst (.int 0)))) (body := evSs (mkP fs (exmT exmt) fuel k 2) (.cons (.par 0 1 (.var 1) (.bin .mod (.bi .int (.cons (.var 0) .nil)) (.var 1))) .nil)) (m := fuel) (a := a) (b := b)
    (fun a b => by simp) (fun a b h => by simp [fb_mod h]) (Nat.le_refl _) hf
  simp [F19, w, hg]
/-- a fraction -/
def qD (q : Rat) : D := .tup [.int q.num, .int q.den]
theorem frac_neg {a b : Int} (hb : b < 0) : (a.fdiv (-(Int.gcd a b : Int)), b.fdiv (-(Int.gcd a b : Int))) = ((Rat.divInt a b).num, ((Rat.divInt a b).den : Int)) := by
  have h2 : 0 < Int.gcd a b := Int.gcd_pos_of_ne_zero_right a (by omega)
  have e : Rat.divInt a b = Rat.divInt (-a) (-b) := by
    rw [Rat.divInt_eq_divInt_iff (by omega) (by omega)]; grind
  have h := frac_rat (a := -a) (b := -b) (by omega)
  rw [e, ← h]
  unfold frac
  have eg : Int.gcd (-a) (-b) = Int.gcd a b := by simp
  rw [eg]
  have en : ∀ x : Int, x.fdiv (-(Int.gcd a b : Int)) = (-x).fdiv (Int.gcd a b : Int) := fun x => by
    have := Int.neg_fdiv_neg x (-(Int.gcd a b : Int)) 
    rw [Int.neg_neg] at this
    rw [← this]
  rw [en, en]
theorem gcd_small {a b : Int} (hb : b ≠ 0) (h : b.natAbs < 2 ^ 190) : Int.gcd a b ≠ 0 ∧ Int.gcd a b < 2 ^ 190 := by
  have h1 : Int.gcd a b ≤ b.natAbs := Nat.le_of_dvd (by omega) (by have := Int.gcd_dvd_right (a := a) (b := b); exact Int.natAbs_dvd_natAbs.mpr this)
  have h2 : 0 < Int.gcd a b := Int.gcd_pos_of_ne_zero_right a hb
  omega
theorem a3 {a b : Int} (hb : b ≠ 0) (hbb : b.natAbs < 2 ^ 190) (hf : 2 ^ 200 ≤ fuel) : An fuel (k + 2) 3 [.int a, .int b] (qD (Rat.divInt a b)) := by
  simp only [An, Ans, List.map]
  rw [o3]
  have c := fun env => (a1 (fuel := fuel) (k := k) (a := a) (b := b) (by omega)).c2 (lend := F1.lend) (env := env)
  obtain ⟨g1, g2⟩ := gcd_small (a := a) hb hbb
  by_cases h : b < 0
  · have f1 : fdivOk (-(Int.gcd a b : Int)) = true := fd_ne (by omega) (by omega)
    have e := frac_neg (a := a) h
    simp only [Prod.mk.injEq] at e
    simp [F3, hb, c, h, fb_fdiv, f1, qD, e]
  · have f1 : fdivOk (Int.gcd a b : Int) = true := fd_ne (by omega) (by omega)
    have e := frac_rat (a := a) (b := b) (by omega)
    unfold frac at e
    simp only [Prod.mk.injEq] at e
    simp [F3, hb, c, h, fb_fdiv, f1, qD, e]
end Ev
end
section
set_option maxRecDepth 100000
set_option maxHeartbeats 4000000
namespace Ev
open PySem
variable {fuel k : Nat}
/-- small parts -/
structure Bd (n : Nat) (q : Rat) : Prop where
  a : q.num.natAbs < 2 ^ n
  b : q.den < 2 ^ n
theorem Bd.mono {n m : Nat} {q : Rat} (h : Bd n q) (hm : n ≤ m) : Bd m q := ⟨Nat.lt_of_lt_of_le h.a (Nat.pow_le_pow_right (by decide) hm), Nat.lt_of_lt_of_le h.b (Nat.pow_le_pow_right (by decide) hm)⟩
theorem bd_div {n : Nat} {a b : Int} (hb : b ≠ 0) (h1 : a.natAbs < 2 ^ n) (h2 : b.natAbs < 2 ^ n) : Bd n (Rat.divInt a b) := by
  have hden : (Rat.divInt a b).den ≤ b.natAbs := by
    rw [Rat.den_divInt, if_neg hb]; exact Nat.div_le_self ..
  have hnum : (Rat.divInt a b).num.natAbs ≤ a.natAbs := by
    rw [Rat.num_divInt]
    refine Nat.le_trans (Int.natAbs_ediv_le_natAbs ..) ?_
    rw [Int.natAbs_mul]
    have : b.sign.natAbs ≤ 1 := by rw [Int.natAbs_sign]; split <;> omega
    exact Nat.le_trans (Nat.mul_le_mul_right _ this) (by omega)
  exact ⟨by omega, by omega⟩
theorem mul_lt {i j : Int} {n m : Nat} (h1 : i.natAbs < 2 ^ n) (h2 : j.natAbs < 2 ^ m) : (i * j).natAbs < 2 ^ (n + m) := by
  rw [Int.natAbs_mul, Nat.pow_add]; exact Nat.mul_lt_mul'' h1 h2
theorem add_lt {i j : Int} {n : Nat} (h1 : i.natAbs < 2 ^ n) (h2 : j.natAbs < 2 ^ n) : (i + j).natAbs < 2 ^ (n + 1) := by
  rw [Nat.pow_succ]; omega
theorem sub_lt {i j : Int} {n : Nat} (h1 : i.natAbs < 2 ^ n) (h2 : j.natAbs < 2 ^ n) : (i - j).natAbs < 2 ^ (n + 1) := by
  rw [Nat.pow_succ]; omega
theorem pw {i : Nat} {n : Nat} (m : Nat) (h : i < 2 ^ n) (hm : n ≤ m) : i < 2 ^ m := Nat.lt_of_lt_of_le h (Nat.pow_le_pow_right (by decide) hm)
theorem Bd.mo {n m : Nat} {p q : Rat} (hp : Bd n p) (hq : Bd m q) (hn : n ≤ 1000) (hm : m ≤ 1000) : mulOk p.num q.num = true ∧ mulOk p.num q.den = true ∧ mulOk (p.den : Int) q.num = true ∧ mulOk (p.den : Int) (q.den : Int) = true :=
  ⟨mo_big (pw _ hp.a hn) (pw _ hq.a hm), mo_big (pw _ hp.a hn) (by simpa using pw _ hq.b hm), mo_big (by simpa using pw _ hp.b hn) (pw _ hq.a hm), mo_big (by simpa using pw _ hp.b hn) (by simpa using pw _ hq.b hm)⟩
theorem Bd.add {n : Nat} {p q : Rat} (hp : Bd n p) {m : Nat} (hq : Bd m q) : Bd (n + m + 1) (p + q) := by
  have e : p + q = Rat.divInt (p.num * q.den + q.num * p.den) (p.den * q.den) := by
    have h1 := p.den_nz
    have h2 := q.den_nz
    conv => lhs; rw [← Rat.num_divInt_den p, ← Rat.num_divInt_den q, Rat.divInt_add_divInt _ _ (by omega) (by omega)]
  have h1 := p.den_pos
  have h2 := q.den_pos
  rw [e]
  refine bd_div ?_ ?_ ?_
  · exact Int.mul_ne_zero (by omega) (by omega)
  · refine add_lt (mul_lt hp.a (by simpa using hq.b)) ?_
    rw [Nat.add_comm n m]
    exact mul_lt hq.a (by simpa using hp.b)
  · exact pw _ (mul_lt (i := (p.den : Int)) (j := (q.den : Int)) (by simpa using hp.b) (by simpa using hq.b)) (by omega)
theorem den_mul {p q : Rat} : (p.den : Int) * q.den ≠ 0 := by
  have h1 := p.den_pos
  have h2 := q.den_pos
  exact Int.mul_ne_zero (by omega) (by omega)
theorem a6 {p q : Rat} {n m : Nat} (hp : Bd n p) (hq : Bd m q) (hnm : n + m ≤ 185) (hf : 2 ^ 200 ≤ fuel) : An fuel (k + 3) 6 [qD p, qD q] (qD (p + q)) := by
  simp only [An, Ans, List.map]
  rw [o6]
  have e : p + q = Rat.divInt (p.num * q.den + q.num * p.den) (p.den * q.den) := by
    have h1 := p.den_nz
    have h2 := q.den_nz
    conv => lhs; rw [← Rat.num_divInt_den p, ← Rat.num_divInt_den q, Rat.divInt_add_divInt _ _ (by omega) (by omega)]
  have c := fun env => (a3 (fuel := fuel) (k := k) (a := p.num * q.den + q.num * p.den) den_mul (pw _ (mul_lt (i := (p.den : Int)) (j := (q.den : Int)) (by simpa using hp.b) (by simpa using hq.b)) (by omega)) hf).c2 (lend := F3.lend) (env := env)
  rw [← e] at c
  obtain ⟨m1, m2, m3, m4⟩ := hp.mo hq (by omega) (by omega)
  obtain ⟨n1, n2, n3, n4⟩ := hq.mo hp (by omega) (by omega)
  simp [F6, qD, fb_mul, m2, m4, n2]
  simp [qD] at c
  simp [c]
theorem a7 {p q : Rat} {n m : Nat} (hp : Bd n p) (hq : Bd m q) (hnm : n + m ≤ 185) (hf : 2 ^ 200 ≤ fuel) : An fuel (k + 3) 7 [qD p, qD q] (qD (p - q)) := by
  simp only [An, Ans, List.map]
  rw [o7]
  have e : p - q = Rat.divInt (p.num * q.den - q.num * p.den) (p.den * q.den) := by
    have h1 := p.den_nz
    have h2 := q.den_nz
    conv => lhs; rw [← Rat.num_divInt_den p, ← Rat.num_divInt_den q, Rat.divInt_sub_divInt _ _ (by omega) (by omega)]
  have c := fun env => (a3 (fuel := fuel) (k := k) (a := p.num * q.den - q.num * p.den) den_mul (pw _ (mul_lt (i := (p.den : Int)) (j := (q.den : Int)) (by simpa using hp.b) (by simpa using hq.b)) (by omega)) hf).c2 (lend := F3.lend) (env := env)
  rw [← e] at c
  obtain ⟨m1, m2, m3, m4⟩ := hp.mo hq (by omega) (by omega)
  obtain ⟨n1, n2, n3, n4⟩ := hq.mo hp (by omega) (by omega)
  simp [F7, qD, fb_mul, m2, m4, n2]
  simp [qD] at c
  simp [c]
theorem a8 {p q : Rat} {n m : Nat} (hp : Bd n p) (hq : Bd m q) (hnm : n + m ≤ 185) (hf : 2 ^ 200 ≤ fuel) : An fuel (k + 3) 8 [qD p, qD q] (qD (p * q)) := by
  simp only [An, Ans, List.map]
  rw [o8]
  have e : p * q = Rat.divInt (p.num * q.num) (p.den * q.den) := by
    conv => lhs; rw [← Rat.num_divInt_den p, ← Rat.num_divInt_den q, Rat.divInt_mul_divInt]
  have c := fun env => (a3 (fuel := fuel) (k := k) (a := p.num * q.num) den_mul (pw _ (mul_lt (i := (p.den : Int)) (j := (q.den : Int)) (by simpa using hp.b) (by simpa using hq.b)) (by omega)) hf).c2 (lend := F3.lend) (env := env)
  rw [← e] at c
  obtain ⟨m1, m2, m3, m4⟩ := hp.mo hq (by omega) (by omega)
  simp [F8, qD, fb_mul, m1, m4]
  simp [qD] at c
  simp [c]
theorem a9 {p q : Rat} {n m : Nat} (h0 : q.num ≠ 0) (hp : Bd n p) (hq : Bd m q) (hnm : n + m ≤ 185) (hf : 2 ^ 200 ≤ fuel) : An fuel (k + 3) 9 [qD p, qD q] (qD (p / q)) := by
  simp only [An, Ans, List.map]
  rw [o9]
  have e : p / q = Rat.divInt (p.num * q.den) (p.den * q.num) := by
    conv => lhs; rw [Rat.div_def, ← Rat.num_divInt_den p, ← Rat.num_divInt_den q, Rat.inv_divInt, Rat.divInt_mul_divInt]
  have hd : (p.den : Int) * q.num ≠ 0 := Int.mul_ne_zero (by have := p.den_pos; omega) h0
  have c := fun env => (a3 (fuel := fuel) (k := k) (a := p.num * q.den) hd (pw _ (mul_lt (i := (p.den : Int)) (j := q.num) (by simpa using hp.b) hq.a) (by omega)) hf).c2 (lend := F3.lend) (env := env)
  rw [← e] at c
  obtain ⟨m1, m2, m3, m4⟩ := hp.mo hq (by omega) (by omega)
  simp [F9, qD, fb_mul, m2, m3]
  simp [qD] at c
  simp [c]
/-- the law's word: in lowest terms, and the same by crossing -/
theorem a20 {r : Rat} {x y : Int} (h : r.num * y = x * r.den) (hr : Bd 190 r) (hx : x.natAbs < 2 ^ 400) (hy : y.natAbs < 2 ^ 400) (hf : 2 ^ 200 ≤ fuel) : An fuel (k + 2) 20 [qD r, .int x, .int y] (.bl true) := by
  simp only [An, Ans, List.map]
  rw [o20]
  have hb := hr.b
  have c := fun env => (a19 (fuel := fuel) (k := k) (a := r.num) (b := r.den) (by simp; omega)).c2 (lend := F19.lend) (env := env)
  have g : Int.gcd r.num (r.den : Int) = 1 := r.reduced
  rw [g] at c
  have h1 := r.den_pos
  have h2 : ¬ ((r.den : Int) < 1) := by omega
  have m1 : mulOk r.num y = true := mo_big (pw _ hr.a (by omega)) (pw _ hy (by omega))
  have m2 : mulOk x (r.den : Int) = true := mo_big (pw _ hx (by omega)) (by simpa using pw _ hr.b (by omega))
  simp [F20, qD, c, h2, fb_mul, m1, m2, h]
theorem a11 {p q : Rat} {n m : Nat} (hp : Bd n p) (hq : Bd m q) (hn : n ≤ 1000) (hm : m ≤ 1000) : An fuel (k + 1) 11 [qD p, qD q] (.bl (decide (p < q))) := by
  simp only [An, Ans, List.map]
  rw [o11]
  obtain ⟨m1, m2, m3, m4⟩ := hp.mo hq hn hm
  obtain ⟨n1, n2, n3, n4⟩ := hq.mo hp hm hn
  simp [F11, qD, fb_mul, m2, n2, Rat.lt_iff]
end Ev
end
section
set_option maxRecDepth 100000
set_option maxHeartbeats 4000000
namespace Ev
open PySem
variable {fuel k : Nat}
theorem a4 {a : Int} : An fuel (k + 1) 4 [.int a] (.tup [.int a, .int 1]) := by
  simp only [An, Ans, List.map]
  rw [o4]
  simp [F4]
theorem a10 {q : Rat} : An fuel (k + 1) 10 [qD q] (.tup [.int (-q.num), .int q.den]) := by
  simp only [An, Ans, List.map]
  rw [o10]
  simp [F10, qD]
theorem den_fd {q : Rat} (h : Bd 190 q) : fdivOk (q.den : Int) = true := by
  have h1 := q.den_pos
  have h2 := h.b
  exact fd_ne (by omega) (by simp; omega)
theorem a12 {q : Rat} (h : Bd 190 q) : An fuel (k + 1) 12 [qD q] (.int (q.num.fdiv q.den)) := by
  simp only [An, Ans, List.map]
  rw [o12]
  simp [F12, qD, fb_fdiv, den_fd h]
theorem a13 {q : Rat} (h : Bd 190 q) : An fuel (k + 1) 13 [qD q] (.int (-((-q.num).fdiv q.den))) := by
  simp only [An, Ans, List.map]
  rw [o13]
  simp [F13, qD, fb_fdiv, den_fd h]
theorem u2 (j : Int) : mulOk 2 j = true := mo_l (by omega) (by omega)
theorem a14 {q : Rat} (h : Bd 190 q) : An fuel (k + 1) 14 [qD q] (.int ((2 * q.num + q.den).fdiv (2 * q.den))) := by
  simp only [An, Ans, List.map]
  rw [o14]
  have h1 := q.den_pos
  have h2 := h.b
  have f : fdivOk (2 * (q.den : Int)) = true := fd_ne (by omega) (by omega)
  simp [F14, qD, fb_fdiv, fb_mul, u2, f]
theorem a0 {a lo hi : Int} : An fuel (k + 1) 0 [.int a, .int lo, .int hi] (.bl (decide (lo ≤ a) && decide (a ≤ hi))) := by
  simp only [An, Ans, List.map]
  rw [o0]
  by_cases h : lo ≤ a <;> simp [F0, h]
theorem a0n {a lo : Int} : An fuel (k + 1) 0 [.int a, .int lo, .non] (.bl (decide (lo ≤ a))) := by
  simp only [An, Ans, List.map]
  rw [o0]
  by_cases h : lo ≤ a <;> simp [F0, h]
theorem a0nn {a : Int} : An fuel (k + 1) 0 [.int a, .non, .non] (.bl true) := by
  simp only [An, Ans, List.map]
  rw [o0]
  simp [F0]
theorem a0b {b : Bool} {x y : D} : An fuel (k + 1) 0 [.bl b, x, y] (.bl false) := by
  simp only [An, Ans, List.map]
  rw [o0]
  have h1 : biF .isInt [.bl b] = some (.val (.bl true)) := rfl
  have h2 : biF .isBool [.bl b] = some (.val (.bl true)) := rfl
  simp [F0, h1, h2]
theorem a0s {s : Str} {x y : D} : An fuel (k + 1) 0 [.str s, x, y] (.bl false) := by
  simp only [An, Ans, List.map]
  rw [o0]
  have h1 : biF .isInt [.str s] = some (.val (.bl false)) := rfl
  simp [F0, h1]
theorem a5 {q : Rat} (h : Bd 190 q) (hf : 2 ^ 200 ≤ fuel) : An fuel (k + 2) 5 [qD q] (.bl true) := by
  simp only [An, Ans, List.map]
  rw [o5]
  have h2 := h.b
  have c := fun env => (a1 (fuel := fuel) (k := k) (a := q.num) (b := q.den) (by simp; omega)).c2 (lend := F1.lend) (env := env)
  have g : Int.gcd q.num (q.den : Int) = 1 := q.reduced
  rw [g] at c
  have h1 := q.den_pos
  have h3 : (1 : Int) ≤ (q.den : Int) := by omega
  simp [F5, qD, a0nn.c3, a0n.c3, h3, c]
def odds01 : List D := [.tup [.int 1, .int 0], .tup [.int 2, .int 4], .lst [.int 1, .int 2], .tup [.int 1], .tup [.int 1, .int (-1)], .tup [.bl true, .int 1], .non]
theorem a5o {d : D} (h : d ∈ odds01) (hf : 2 ^ 200 ≤ fuel) : An fuel (k + 2) 5 [d] (.bl false) := by
  simp only [odds01, List.mem_cons, List.not_mem_nil, or_false] at h
  simp only [An, Ans, List.map]
  rw [o5]
  have c := fun env => (a1 (fuel := fuel) (k := k) (a := 2) (b := 4) (by omega)).c2 (lend := F1.lend) (env := env)
  have g : (Int.gcd 2 4 : Int) = 2 := by decide
  rw [g] at c
  rcases h with rfl | rfl | rfl | rfl | rfl | rfl | rfl
  · simp [F5, a0nn.c3, a0n.c3]
  · simp [F5, a0nn.c3, a0n.c3, c]
  · simp [F5]
  · simp [F5]
  · simp [F5, a0nn.c3, a0n.c3]
  · simp [F5, a0b.c3]
  · simp [F5]
/-! sums, least, greatest -/
theorem rows_len {rows : List Rat} : (rows.map qD).length = rows.length := List.length_map ..
theorem a15 {rows : List Rat} {B : Nat → Nat} (h0 : 1 ≤ B 0) (hB : ∀ i q, rows[i]? = some q → ∃ n, Bd n q ∧ B i + n ≤ 185 ∧ B i + n + 1 ≤ B (i + 1)) (hf : 2 ^ 200 ≤ fuel) : An fuel (k + 4) 15 [.lst (rows.map qD)] (qD (rows.foldl (· + ·) 0)) := by
  simp only [An, Ans, List.map]
  rw [o15]
  obtain ⟨env', h, hb, z, rfl⟩ := forL_foldI (emb := qD) (xs := rows) (i := 0) (s := (0 : Rat)) (f := (· + ·)) (body := turn (mkP fs (exmT exmt) fuel (k + 3) 1) (.nm 2) (.cons (.asg (.nm 1) (.call 6 (.cons (.var 1) (.cons (.var 2) .nil)))) .nil))
    (R := fun i s env => Bd (B i) s ∧ ∃ z, env = [some (.val (.lst (rows.map qD))), some (.val (qD s)), z]) ⟨⟨by show (0 : Nat) < _; exact Nat.pow_pos (by decide), Nat.lt_of_lt_of_le (by show 1 < 2 ^ 1; decide) (Nat.pow_le_pow_right (by decide) h0)⟩, none, rfl⟩ (by
      rintro j s q env hq ⟨hb, z, rfl⟩
      rw [Nat.zero_add] at hb ⊢
      obtain ⟨n, h1, h2, h3⟩ := hB j q hq
      have c := fun env => (a6 (fuel := fuel) (k := k) hb h1 h2 hf).c2 (lend := F6.lend) (env := env)
      exact ⟨_, .inl (by simp [turn, c]; rfl), (hb.add h1).mono h3, _, rfl⟩)
  have e0 : qD 0 = .tup [.int 0, .int 1] := rfl
  rw [e0] at h
  simp [F15, h]
theorem a16 {q : Rat} {rows : List Rat} (hl : rows.length ≤ 900) (hB : ∀ r ∈ q :: rows, Bd 190 r) : An fuel (k + 2) 16 [.lst ((q :: rows).map qD)] (qD (rows.foldl (fun b v => if v < b then v else b) q)) := by
  simp only [An, Ans, List.map]
  rw [o16]
  obtain ⟨env', h, hb, z, rfl⟩ := forL_fold (emb := qD) (xs := rows) (s := q) (f := fun b v => if v < b then v else b) (body := turn (mkP fs (exmT exmt) fuel (k + 1) 1) (.nm 2) (.cons (.iff (.call 11 (.cons (.var 2) (.cons (.var 1) .nil))) (.cons (.asg (.nm 1) (.var 2)) .nil) .nil) .nil))
    (R := fun s env => Bd 190 s ∧ ∃ z, env = [some (.val (.lst ((q :: rows).map qD))), some (.val (qD s)), z]) ⟨hB q (.head _), none, rfl⟩ (by
      rintro s r env hr ⟨hb, z, rfl⟩
      have hrb := hB r (.tail _ hr)
      have c := fun env => (a11 (fuel := fuel) (k := k) hrb hb (by decide) (by decide)).c2 (lend := F11.lend) (env := env)
      by_cases hc : r < s
      · exact ⟨[some (.val (.lst ((q :: rows).map qD))), some (.val (qD r)), some (.val (qD r))], .inl (by simp [turn, c, hc]), by rw [if_pos hc]; exact hrb, some (.val (qD r)), by rw [if_pos hc]⟩
      · exact ⟨[some (.val (.lst ((q :: rows).map qD))), some (.val (qD s)), some (.val (qD r))], .inl (by simp [turn, c, hc]), by rw [if_neg hc]; exact hb, some (.val (qD r)), by rw [if_neg hc]⟩)
  have ec : cutD (qD q :: rows.map qD) (some 1) none = rows.map qD := by
    simp [cutD, HT.sIx]
    exact List.take_of_length_le (by simp)
  simp only [List.map_cons] at h
  simp [F16, ec, h]
theorem a17 {q : Rat} {rows : List Rat} (hl : rows.length ≤ 900) (hB : ∀ r ∈ q :: rows, Bd 190 r) : An fuel (k + 2) 17 [.lst ((q :: rows).map qD)] (qD (rows.foldl (fun b v => if b < v then v else b) q)) := by
  simp only [An, Ans, List.map]
  rw [o17]
  obtain ⟨env', h, hb, z, rfl⟩ := forL_fold (emb := qD) (xs := rows) (s := q) (f := fun b v => if b < v then v else b) (body := turn (mkP fs (exmT exmt) fuel (k + 1) 1) (.nm 2) (.cons (.iff (.call 11 (.cons (.var 1) (.cons (.var 2) .nil))) (.cons (.asg (.nm 1) (.var 2)) .nil) .nil) .nil))
    (R := fun s env => Bd 190 s ∧ ∃ z, env = [some (.val (.lst ((q :: rows).map qD))), some (.val (qD s)), z]) ⟨hB q (.head _), none, rfl⟩ (by
      rintro s r env hr ⟨hb, z, rfl⟩
      have hrb := hB r (.tail _ hr)
      have c := fun env => (a11 (fuel := fuel) (k := k) hb hrb (by decide) (by decide)).c2 (lend := F11.lend) (env := env)
      by_cases hc : s < r
      · exact ⟨[some (.val (.lst ((q :: rows).map qD))), some (.val (qD r)), some (.val (qD r))], .inl (by simp [turn, c, hc]), by rw [if_pos hc]; exact hrb, some (.val (qD r)), by rw [if_pos hc]⟩
      · exact ⟨[some (.val (.lst ((q :: rows).map qD))), some (.val (qD s)), some (.val (qD r))], .inl (by simp [turn, c, hc]), by rw [if_neg hc]; exact hb, some (.val (qD r)), by rw [if_neg hc]⟩)
  have ec : cutD (qD q :: rows.map qD) (some 1) none = rows.map qD := by
    simp [cutD, HT.sIx]
    exact List.take_of_length_le (by simp)
  simp only [List.map_cons] at h
  simp [F17, ec, h]
end Ev
end
section
set_option maxRecDepth 100000
set_option maxHeartbeats 4000000
namespace Ev
open PySem
variable {fuel k : Nat}
theorem au_mul {i j : Int} (h : mulOk i j = true) : augF .mul (.int i) (.int j) = some (.int (i * j)) := by
  show (if mulOk i j then some (D.int (i * j)) else none) = _
  rw [if_pos h]
theorem au_fdiv {i j : Int} (h : fdivOk j = true) : augF .fdiv (.int i) (.int j) = some (.int (i.fdiv j)) := by
  show (if fdivOk j then some (D.int (i.fdiv j)) else none) = _
  rw [if_pos h]
def b2 : Ss := (.cons (.iff (.bin .mod (.var 4) (.cst (.int 2))) (.cons (.aug 2 .mul (.var 3)) .nil) .nil) (.cons (.aug 4 .fdiv (.cst (.int 2))) (.cons (.iff (.var 4) (.cons (.aug 3 .mul (.var 3)) .nil) .nil) .nil)))
theorem fd2 : fdivOk 2 = true := fd_ne (by decide) (by decide)
theorem pow_half {x y : Int} {n : Nat} (h : n / 2 ≠ 0) : (if n % 2 = 1 then x * y else x) * (y * y) ^ (n / 2) = x * y ^ n := by
  have e : n = n / 2 + n / 2 + n % 2 := by omega
  have e2 : y ^ n = y ^ (n / 2) * y ^ (n / 2) * y ^ (n % 2) := by
    conv => lhs; rw [e]
    rw [Int.pow_add, Int.pow_add]
  rw [e2, Int.mul_pow]
  have h2 : n % 2 = 0 ∨ n % 2 = 1 := by omega
  rcases h2 with h2 | h2
  · rw [h2, if_neg (by decide), Int.pow_zero, Int.mul_one]
  · rw [h2, if_pos rfl, Int.pow_one]; ac_rfl
theorem turn2 {P : Par} {a b : Option Sl} {x y : Int} {n : Nat} {s t : Nat} (hn : n ≠ 0) (hx : x.natAbs < 2 ^ s) (hy : y.natAbs < 2 ^ t) (hs : s ≤ 900) (ht : t ≤ 900) :
    evSs P b2 [a, b, some (.val (.int x)), some (.val (.int y)), some (.val (.int n))] = .ok .next [a, b, some (.val (.int (if n % 2 = 1 then x * y else x))), some (.val (.int (if n / 2 ≠ 0 then y * y else y))), some (.val (.int ((n / 2 : Nat) : Int)))] := by
  have m1 : mulOk x y = true := mo_big (pw _ hx (by omega)) (pw _ hy (by omega))
  have m2 : mulOk y y = true := mo_big (pw _ hy (by omega)) (pw _ hy (by omega))
  have e1 : ((n : Int)).fmod 2 = ((n % 2 : Nat) : Int) := by rw [Int.fmod_eq_emod_of_nonneg _ (by decide)]; omega
  have e2 : ((n : Int)).fdiv 2 = ((n / 2 : Nat) : Int) := by rw [Int.fdiv_eq_ediv_of_nonneg _ (by decide)]; omega
  have hm : fBin .mod (.int n) (.int 2) = some (.val (.int ((n % 2 : Nat) : Int))) := by rw [fb_mod (by decide), e1]
  have hd : augF .fdiv (.int n) (.int 2) = some (.int ((n / 2 : Nat) : Int)) := by rw [au_fdiv fd2, e2]
  have h2 : n % 2 = 0 ∨ n % 2 = 1 := by omega
  have h3 : n / 2 = 0 ∨ n / 2 ≠ 0 := by omega
  generalize n % 2 = r at *
  generalize n / 2 = q at *
  rcases h2 with rfl | rfl <;> rcases h3 with rfl | h3
  · simp [b2, hm, hd]
  · have : ((q : Int) != 0) = true := by simp; omega
    simp [b2, hm, hd, this, h3, au_mul, m2]
  · simp [b2, hm, hd, au_mul, m1]
  · have : ((q : Int) != 0) = true := by simp; omega
    simp [b2, hm, hd, this, h3, au_mul, m1, m2]
theorem w2 {P : Par} {a b : Option Sl} : ∀ {n m : Nat} {x y : Int} {s t : Nat}, n < m → x.natAbs < 2 ^ s → y.natAbs < 2 ^ t → s + t * n ≤ 900 → t ≤ 900 →
    ∃ y', whlL (evT P (.var 4)) (evSs P b2) m [a, b, some (.val (.int x)), some (.val (.int y)), some (.val (.int n))] = .ok .next [a, b, some (.val (.int (x * y ^ n))), y', some (.val (.int 0))] := by
  intro n
  induction n using Nat.strongRecOn with
  | ind n ih =>
    intro m x y s t hm hx hy hst ht
    obtain ⟨m, rfl⟩ : ∃ q, m = q + 1 := ⟨m - 1, by omega⟩
    by_cases hn : n = 0
    · subst hn
      refine ⟨some (.val (.int y)), ?_⟩
      rw [whl_end (env' := [a, b, some (.val (.int x)), some (.val (.int y)), some (.val (.int (0 : Nat)))]) (by simp)]
      simp
    · have hs : s ≤ 900 := by have := Nat.zero_le (t * n); omega
      have tt := turn2 (P := P) (a := a) (b := b) hn hx hy hs ht
      have ht1 : evT P (.var 4) [a, b, some (.val (.int x)), some (.val (.int y)), some (.val (.int n))] = .ok true [a, b, some (.val (.int x)), some (.val (.int y)), some (.val (.int n))] := by
        have : ((n : Int) != 0) = true := by simp; omega
        simp [this]
      rw [whl_go ht1 tt]
      have hx2 : (if n % 2 = 1 then x * y else x).natAbs < 2 ^ (s + t * (n % 2)) := by
        have h2 : n % 2 = 0 ∨ n % 2 = 1 := by omega
        rcases h2 with h2 | h2
        · rw [h2, if_neg (by decide)]; simpa using hx
        · rw [h2, if_pos rfl, Nat.mul_one]; exact mul_lt hx hy
      by_cases h3 : n / 2 = 0
      · have hn1 : n = 1 := by omega
        subst hn1
        obtain ⟨y', h⟩ := @ih 0 (by omega) m (x * y) y (s + t) t (by omega) (mul_lt hx hy) hy (by omega) ht
        refine ⟨y', ?_⟩
        rw [Int.pow_zero, Int.mul_one] at h
        rw [show (if 1 % 2 = 1 then x * y else x) = x * y from rfl, show (if 1 / 2 ≠ 0 then y * y else y) = y from rfl, Int.pow_one]
        exact h
      · have e : n = n / 2 + n / 2 + n % 2 := by omega
        have e2 : t * n = t * (n / 2) + t * (n / 2) + t * (n % 2) := by conv => lhs; rw [e, Nat.mul_add, Nat.mul_add]
        have h5 : t * 1 ≤ t * (n / 2) := Nat.mul_le_mul_left _ (by omega)
        obtain ⟨y', h⟩ := @ih (n / 2) (by omega) m (if n % 2 = 1 then x * y else x) (y * y) (s + t * (n % 2)) (t + t) (by omega) hx2 (mul_lt hy hy) (by rw [Nat.add_mul]; omega) (by omega)
        refine ⟨y', ?_⟩
        rw [pow_half h3] at h
        rw [if_pos h3]
        exact h
theorem a2 {a : Int} {n : Nat} (ha : a.natAbs < 2 ^ 31) (hn : n ≤ 20) (hf : 2 ^ 200 ≤ fuel) : An fuel (k + 1) 2 [.int a, .int n] (.int (a ^ n)) := by
  simp only [An, Ans, List.map]
  rw [o2]
  have h1 : 31 * n ≤ 31 * 20 := Nat.mul_le_mul_left _ hn
  obtain ⟨y', w⟩ := w2 (P := mkP fs (exmT exmt) fuel k 2) (a := some (.val (.int a))) (b := some (.val (.int n))) (n := n) (m := fuel) (x := 1) (y := a) (s := 1) (t := 31) (by omega) (by decide) ha (by omega) (by decide)
  simp only [b2, Int.one_mul] at w
  simp [F2, w]
end Ev
end
section
set_option maxRecDepth 100000
set_option maxHeartbeats 4000000
namespace Ev
open PySem
variable {fuel k : Nat}
theorem dr {st : D} {L : Int} (h : IsSt st) (hl : 0 < L) (hl2 : L < 2 ^ 31) : ∃ (g : Nat) (st' : D), IsSt st' ∧ (g : Int) < L ∧
    ∀ i env, env[i]? = some (some (.own st)) → callM (callF fs (exmT exmt) fuel (k + 1)) 18 F18.lend [.own i, .val (.int L)] env = .ok (.val (.int g)) (env.set i (some (.own st'))) := by
  obtain ⟨g, st', h1, h2, h3, h4⟩ := draw (fs := fs) (exm := exmT exmt) (fuel := fuel) (k := k) (j := 18) rfl h hl hl2
  refine ⟨g.toNat, st', h1, by omega, fun i env he => ?_⟩
  rw [Int.toNat_of_nonneg h2]
  exact draw_call he h4
abbrev PL (fuel k : Nat) : Par := mkP fs (exmT exmt) fuel (k + 9) 1
@[simp] theorem b_listf {xs : List D} : biF .list [.frz xs] = some (.new (.lst xs)) := rfl
theorem pick2 {x y : Int} {g : Nat} (h : g < 2) : ∃ z, L2.atI [D.int x, D.int y] (g : Int) = some (.int z) ∧ (z = x ∨ z = y) := by
  have : g = 0 ∨ g = 1 := by omega
  rcases this with rfl | rfl
  · exact ⟨x, rfl, .inl rfl⟩
  · exact ⟨y, rfl, .inr rfl⟩
structure Ok4 (a b c d : Int) : Prop where
  ha : a.natAbs < 2 ^ 30
  hb : b.natAbs < 2 ^ 30
  hc : c.natAbs < 2 ^ 30
  hd : d.natAbs < 2 ^ 30
  nb : b ≠ 0
  pd : 0 < d
abbrev e8 (dd st z : D) (a b c d : Int) : Env := [some (.val dd), some (.own st), some (.val z), some (.val (.int a)), some (.val (.int b)), some (.val (.int c)), some (.val (.int d)), some (.val (qD (Rat.divInt a b))), some (.val (qD (Rat.divInt c d))), none, none, none, none, none, none, none, none, none, none, none, none]
theorem sA {d0 : D} {ns : List Int} (hd : d0 = .lst (ns.map D.int) ∨ d0 = .frz (ns.map D.int)) (hf : 2 ^ 200 ≤ fuel) : ∃ st z a b c d, IsSt st ∧ Ok4 a b c d ∧
    evSs (PL fuel k) q22_0 [some (.val d0), none, none, none, none, none, none, none, none, none, none, none, none, none, none, none, none, none, none, none, none] = evSs (PL fuel k) q22_8 (e8 d0 st z a b c d) := by
  have hst : IsSt (stD 0 0 1 ns) := ⟨0, 0, 1, ns, Int.le_refl _, rfl⟩
  obtain ⟨g1, st1, h1, b1, c1⟩ := dr (fuel := fuel) (k := k + 8) hst (L := 2) (by decide) (by decide)
  obtain ⟨z, hz, hz2⟩ := pick2 (x := 10) (y := 1000000000) (g := g1) (by omega)
  have hz3 : 10 ≤ z ∧ z ≤ 1000000000 := by rcases hz2 with rfl | rfl <;> omega
  obtain ⟨g2, st2, h2, b2, c2⟩ := dr (fuel := fuel) (k := k + 8) h1 (L := 2 * z + 1) (by omega) (by omega)
  obtain ⟨g3, st3, h3, b3, c3⟩ := dr (fuel := fuel) (k := k + 8) h2 (L := z) (by omega) (by omega)
  obtain ⟨g4, st4, h4, b4, c4⟩ := dr (fuel := fuel) (k := k + 8) h3 (L := 2) (by decide) (by decide)
  obtain ⟨s, hs, hs2⟩ := pick2 (x := 1) (y := -1) (g := g4) (by omega)
  obtain ⟨g5, st5, h5, b5, c5⟩ := dr (fuel := fuel) (k := k + 8) h4 (L := 2 * z + 1) (by omega) (by omega)
  obtain ⟨g6, st6, h6, b6, c6⟩ := dr (fuel := fuel) (k := k + 8) h5 (L := z) (by omega) (by omega)
  have m1 : mulOk (1 + (g3 : Int)) s = true := mo_r (by rcases hs2 with rfl | rfl <;> omega) (by rcases hs2 with rfl | rfl <;> omega)
  have pwE : fBin .pow (.int 10) (.int 9) = some (.val (.int 1000000000)) := rfl
  obtain ⟨b, hb⟩ : ∃ b, (1 + (g3 : Int)) * s = b := ⟨_, rfl⟩
  have hb2 : b.natAbs < 2 ^ 30 ∧ b ≠ 0 := by
    rcases hs2 with rfl | rfl <;> omega
  have A3 : An fuel (k + 9) 3 [.int ((g2 : Int) - z), .int b] (qD (Rat.divInt ((g2 : Int) - z) b)) := a3 (k := k + 7) hb2.2 (pw _ hb2.1 (by decide)) hf
  have A3b : An fuel (k + 9) 3 [.int ((g5 : Int) - z), .int (1 + (g6 : Int))] (qD (Rat.divInt ((g5 : Int) - z) (1 + (g6 : Int)))) := a3 (k := k + 7) (by omega) (by omega) hf
  refine ⟨st6, .int z, (g2 : Int) - z, b, (g5 : Int) - z, 1 + (g6 : Int), h6, ⟨by omega, hb2.1, by omega, by omega, hb2.2, by omega⟩, ?_⟩
  simp only [stD] at c1
  rcases hd with rfl | rfl <;>
  simp [q22_0, q22_1, q22_2, q22_3, q22_4, q22_5, q22_6, q22_7, c1, c2, c3, c4, c5, c6, hz, hs, fb_mul, u2, m1, pwE, hb, A3.c2, A3b.c2]
end Ev
end
section
set_option maxRecDepth 100000
set_option maxHeartbeats 4000000
namespace Ev
open PySem
variable {fuel k : Nat}
theorem crossE {x y : Int} (h : y ≠ 0) : (Rat.divInt x y).num * y = x * (Rat.divInt x y).den := by
  have e := Rat.num_divInt_den (Rat.divInt x y)
  have hd := (Rat.divInt x y).den_pos
  rw [Rat.divInt_eq_divInt_iff (by omega) h] at e
  exact e
theorem cross_to {r : Rat} {x y : Int} (h : y ≠ 0) (e : r = Rat.divInt x y) : r.num * y = x * r.den := by subst e; exact crossE h
theorem lt_core {pn pd qn qd a b c d : Int} (hb : b ≠ 0) (hd : 0 < d) (hp : 0 < pd) (hq : 0 < qd) (e1 : pn * b = a * pd) (e2 : qn * d = c * qd) : pn * qd < qn * pd ↔ a * d * b < c * b * b := by
  have hbb : 0 < b * b := by
    rcases Int.lt_or_gt_of_ne hb with h | h
    · exact Int.mul_pos_of_neg_of_neg h h
    · exact Int.mul_pos h h
  have hK : 0 < b * b * d := Int.mul_pos hbb hd
  have hD : 0 < pd * qd := Int.mul_pos hp hq
  have s1 : pn * qd * (b * b * d) = a * d * b * (pd * qd) := by grind
  have s2 : qn * pd * (b * b * d) = c * b * b * (pd * qd) := by grind
  rw [← Int.mul_lt_mul_right hK, s1, s2, Int.mul_lt_mul_right hD]
theorem less_iff {a b c d : Int} (hb : b ≠ 0) (hd : 0 < d) : Rat.divInt a b < Rat.divInt c d ↔ a * d * b < c * b * b := by
  rw [Rat.lt_iff]
  have h1 := (Rat.divInt a b).den_pos
  have h2 := (Rat.divInt c d).den_pos
  exact lt_core hb hd (by omega) (by omega) (crossE hb) (crossE (by omega))
theorem a21 {q : Rat} : An fuel (k + 4) 21 [qD q] (.bl true) := by
  simp only [An, Ans, List.map]
  have : callF fs (exmT exmt) fuel (k + 4) 21 [.val (qD q)] = (if 3 ≤ k + 3 then refG [.val (qD q)] else .stuck) := rfl
  rw [this, if_pos (by omega)]
  exact rfl
theorem dv_add {a b c d : Int} (hb : b ≠ 0) (hd : d ≠ 0) : Rat.divInt a b + Rat.divInt c d = Rat.divInt (a * d + c * b) (b * d) := Rat.divInt_add_divInt _ _ hb hd
theorem dv_sub {a b c d : Int} (hb : b ≠ 0) (hd : d ≠ 0) : Rat.divInt a b - Rat.divInt c d = Rat.divInt (a * d - c * b) (b * d) := Rat.divInt_sub_divInt _ _ hb hd
theorem dv_mul {a b c d : Int} : Rat.divInt a b * Rat.divInt c d = Rat.divInt (a * c) (b * d) := Rat.divInt_mul_divInt ..
theorem dv_div {a b c d : Int} : Rat.divInt a b / Rat.divInt c d = Rat.divInt (a * d) (b * c) := by rw [Rat.div_def, Rat.inv_divInt, Rat.divInt_mul_divInt]
theorem dv_num0 {c d : Int} (h : c ≠ 0) (hd : d ≠ 0) : (Rat.divInt c d).num ≠ 0 := fun e => by
  have := crossE (x := c) hd
  rw [e, Int.zero_mul] at this
  have h2 := (Rat.divInt c d).den_pos
  exact Int.mul_ne_zero h (by omega) this.symm
theorem sB {dd st z : D} {a b c d : Int} (h : Ok4 a b c d) (hf : 2 ^ 200 ≤ fuel) :
    evSs (PL fuel k) q22_8 (e8 dd st z a b c d) = evSs (PL fuel k) q22_11 (e8 dd st z a b c d) := by
  obtain ⟨ha, hb, hc, hd, nb, pd⟩ := h
  have nd : d ≠ 0 := by omega
  have nbd : b * d ≠ 0 := Int.mul_ne_zero nb nd
  have bp : Bd 30 (Rat.divInt a b) := bd_div nb ha hb
  have bq : Bd 30 (Rat.divInt c d) := bd_div nd hc hd
  have b60 : Bd 61 (Rat.divInt a b + Rat.divInt c d) := bp.add bq
  have lad := mul_lt ha hd
  have lcb := mul_lt hc hb
  have lbd := mul_lt hb hd
  have lac := mul_lt ha hc
  have lbc := mul_lt hb hc
  have B1 : Bd 61 (Rat.divInt (a * d + c * b) (b * d)) := bd_div nbd (add_lt lad lcb) (pw _ lbd (by decide))
  have B2 : Bd 61 (Rat.divInt (a * d - c * b) (b * d)) := bd_div nbd (sub_lt lad lcb) (pw _ lbd (by decide))
  have B3 : Bd 60 (Rat.divInt (a * c) (b * d)) := bd_div nbd lac lbd
  have c1 := fun env => (a20 (fuel := fuel) (k := k + 7) (crossE (x := a) nb) (bp.mono (by decide)) (pw _ ha (by decide)) (pw _ hb (by decide)) hf).c3 (lend := F20.lend) (env := env)
  have c2 := fun env => (a20 (fuel := fuel) (k := k + 7) (crossE (x := c) nd) (bq.mono (by decide)) (pw _ hc (by decide)) (pw _ hd (by decide)) hf).c3 (lend := F20.lend) (env := env)
  have c3 := fun env => (a21 (fuel := fuel) (k := k + 5) (q := Rat.divInt a b)).c1 (lend := F21.lend) (env := env)
  have c4 := fun env => (a4 (fuel := fuel) (k := k + 8) (a := a)).c1 (lend := F4.lend) (env := env)
  have q1 : D.eq? (.tup [.int a, .int 1]) (.tup [.int a, .int 1]) = some true := Q.refl (pr_q (a, 1)) (by decide)
  have c5 := fun env => (a10 (fuel := fuel) (k := k + 8) (q := Rat.divInt a b)).c1 (lend := F10.lend) (env := env)
  have en : D.tup [.int (-(Rat.divInt a b).num), .int (Rat.divInt a b).den] = qD (Rat.divInt (-a) b) := by rw [← Rat.neg_divInt]; rfl
  rw [en] at c5
  have c6 := fun env => (a20 (fuel := fuel) (k := k + 7) (crossE (x := -a) nb) ((bd_div nb (by simpa using ha) hb : Bd 30 _).mono (by decide)) (pw _ (by simpa using ha : (-a).natAbs < 2 ^ 30) (by decide)) (pw _ hb (by decide)) hf).c3 (lend := F20.lend) (env := env)
  have c7 := fun env => (a6 (fuel := fuel) (k := k + 6) bp bq (by decide) hf).c2 (lend := F6.lend) (env := env)
  have c8 := fun env => (a7 (fuel := fuel) (k := k + 6) bp bq (by decide) hf).c2 (lend := F7.lend) (env := env)
  have c9 := fun env => (a8 (fuel := fuel) (k := k + 6) bp bq (by decide) hf).c2 (lend := F8.lend) (env := env)
  rw [dv_add nb nd] at c7
  rw [dv_sub nb nd] at c8
  rw [dv_mul] at c9
  have c10 := fun env => (a20 (fuel := fuel) (k := k + 7) (crossE (x := a * d + c * b) nbd) (B1.mono (by decide)) (pw _ (add_lt lad lcb) (by decide)) (pw _ lbd (by decide)) hf).c3 (lend := F20.lend) (env := env)
  have c11 := fun env => (a20 (fuel := fuel) (k := k + 7) (crossE (x := a * d - c * b) nbd) (B2.mono (by decide)) (pw _ (sub_lt lad lcb) (by decide)) (pw _ lbd (by decide)) hf).c3 (lend := F20.lend) (env := env)
  have c12 := fun env => (a20 (fuel := fuel) (k := k + 7) (crossE (x := a * c) nbd) (B3.mono (by decide)) (pw _ lac (by decide)) (pw _ lbd (by decide)) hf).c3 (lend := F20.lend) (env := env)
  have c13 := fun env => (a11 (fuel := fuel) (k := k + 8) bp bq (by decide) (by decide)).c2 (lend := F11.lend) (env := env)
  have m1 : mulOk a d = true := mo_big (pw _ ha (by decide)) (pw _ hd (by decide))
  have m2 : mulOk c b = true := mo_big (pw _ hc (by decide)) (pw _ hb (by decide))
  have m3 : mulOk b d = true := mo_big (pw _ hb (by decide)) (pw _ hd (by decide))
  have m4 : mulOk a c = true := mo_big (pw _ ha (by decide)) (pw _ hc (by decide))
  have m5 : mulOk b c = true := mo_big (pw _ hb (by decide)) (pw _ hc (by decide))
  have m6 : mulOk (a * d) b = true := mo_big (pw _ lad (by decide)) (pw _ hb (by decide))
  have m7 : mulOk (c * b) b = true := mo_big (pw _ lcb (by decide)) (pw _ hb (by decide))
  simp only [less_iff nb pd] at c13
  have t1 : evSs (PL fuel k) q22_8 (e8 dd st z a b c d) = evSs (PL fuel k) q22_9 (e8 dd st z a b c d) := by
    simp [q22_8, c1, c2, c3, c4, q1, c5, c6]
  have t2 : evSs (PL fuel k) q22_9 (e8 dd st z a b c d) = evSs (PL fuel k) q22_10 (e8 dd st z a b c d) := by
    simp [q22_9, fb_mul, m1, m2, m3, m4, c7, c8, c9, c10, c11, c12]
  have t3 : evSs (PL fuel k) q22_10 (e8 dd st z a b c d) = evSs (PL fuel k) q22_11 (e8 dd st z a b c d) := by
    by_cases c0 : c = 0
    · subst c0
      simp at c13
      simp [q22_10, fb_mul, m1, m2, m6, m7, c13]
    · have nbc : b * c ≠ 0 := Int.mul_ne_zero nb c0
      have B4 : Bd 60 (Rat.divInt (a * d) (b * c)) := bd_div nbc lad lbc
      have c14 := fun env => (a9 (fuel := fuel) (k := k + 6) (dv_num0 c0 nd) bp bq (by decide) hf).c2 (lend := F9.lend) (env := env)
      rw [dv_div] at c14
      have c15 := fun env => (a20 (fuel := fuel) (k := k + 7) (crossE (x := a * d) nbc) (B4.mono (by decide)) (pw _ lad (by decide)) (pw _ lbc (by decide)) hf).c3 (lend := F20.lend) (env := env)
      simp [q22_10, fb_mul, m1, m2, m5, m6, m7, c13, c0, c14, c15]
  rw [t1, t2, t3]
end Ev
end
section
set_option maxRecDepth 100000
set_option maxHeartbeats 4000000
namespace Ev
open PySem
variable {fuel k : Nat}
abbrev e16 (dd st z : D) (a b c d l u m : Int) : Env := [some (.val dd), some (.own st), some (.val z), some (.val (.int a)), some (.val (.int b)), some (.val (.int c)), some (.val (.int d)), some (.val (qD (Rat.divInt a b))), some (.val (qD (Rat.divInt c d))), some (.val (.int l)), some (.val (.int u)), some (.val (.int m)), none, none, none, none, none, none, none, none, none]
@[simp] theorem q_ix0 {q : Rat} : fIdx (qD q) (.int 0) = some (.val (.int q.num)) := rfl
@[simp] theorem q_ix1 {q : Rat} : fIdx (qD q) (.int 1) = some (.val (.int q.den)) := rfl
theorem fd_law (n D : Int) (h : 0 < D) : n.fdiv D * D ≤ n ∧ n < (n.fdiv D + 1) * D ∧ (n.fdiv D).natAbs ≤ n.natAbs := by
  rw [Int.fdiv_eq_ediv_of_nonneg _ (Int.le_of_lt h)]
  exact ⟨Int.ediv_mul_le _ (by omega), Int.lt_ediv_add_one_mul_self _ h, Int.natAbs_ediv_le_natAbs ..⟩
theorem sC {dd st z : D} {a b c d : Int} (h : Ok4 a b c d) (hf : 2 ^ 200 ≤ fuel) : ∃ l u m,
    evSs (PL fuel k) q22_11 (e8 dd st z a b c d) = evSs (PL fuel k) q22_16 (e16 dd st z a b c d l u m) := by
  obtain ⟨ha, hb, hc, hd, nb, pd⟩ := h
  have bp : Bd 30 (Rat.divInt a b) := bd_div nb ha hb
  have p1 := (Rat.divInt a b).den_pos
  have c1 := fun env => (a12 (fuel := fuel) (k := k + 8) (bp.mono (by decide))).c1 (lend := F12.lend) (env := env)
  have c2 := fun env => (a13 (fuel := fuel) (k := k + 8) (bp.mono (by decide))).c1 (lend := F13.lend) (env := env)
  have c3 := fun env => (a14 (fuel := fuel) (k := k + 8) (bp.mono (by decide))).c1 (lend := F14.lend) (env := env)
  obtain ⟨l1, l2, l3⟩ := fd_law (Rat.divInt a b).num (Rat.divInt a b).den (by omega)
  obtain ⟨w1, w2, w3⟩ := fd_law (-(Rat.divInt a b).num) (Rat.divInt a b).den (by omega)
  obtain ⟨m1, m2, m3⟩ := fd_law (2 * (Rat.divInt a b).num + (Rat.divInt a b).den) (2 * (Rat.divInt a b).den) (by omega)
  have bn := bp.a
  have bd := bp.b
  generalize (Rat.divInt a b).num.fdiv (Rat.divInt a b).den = l at *
  generalize (-(Rat.divInt a b).num).fdiv (Rat.divInt a b).den = u at *
  generalize (2 * (Rat.divInt a b).num + (Rat.divInt a b).den).fdiv (2 * (Rat.divInt a b).den) = m at *
  refine ⟨l, -u, m, ?_⟩
  have X : ∀ x : Int, x.natAbs < 2 ^ 40 → mulOk x ((Rat.divInt a b).den : Int) = true := fun x hx => mo_big (pw _ hx (by decide)) (by simpa using pw _ bd (by decide))
  have x1 := X l (by omega)
  have x2 := X (l + 1) (by omega)
  have x3 := X (-u - 1) (by omega)
  have x4 := X (-u) (by omega)
  have x5 := X (2 * m - 1) (by omega)
  have x6 := X (2 * m + 1) (by omega)
  have y1 : (-u - 1) * ((Rat.divInt a b).den : Int) < (Rat.divInt a b).num := by grind
  have y2 : (Rat.divInt a b).num ≤ -u * ((Rat.divInt a b).den : Int) := by grind
  have y3 : (2 * m - 1) * ((Rat.divInt a b).den : Int) ≤ 2 * (Rat.divInt a b).num := by grind
  have y4 : 2 * (Rat.divInt a b).num < (2 * m + 1) * ((Rat.divInt a b).den : Int) := by grind
  have t1 : evSs (PL fuel k) q22_11 (e8 dd st z a b c d) = evSs (PL fuel k) q22_14 (e16 dd st z a b c d l (-u) m) := by
    simp [q22_11, q22_12, q22_13, c1, c2, c3]
  rw [t1]
  have t2 : evSs (PL fuel k) q22_14 (e16 dd st z a b c d l (-u) m) = evSs (PL fuel k) q22_15 (e16 dd st z a b c d l (-u) m) := by
    simp [q22_14, fb_mul, x1, x2, x3, x4, l1, l2, y1, y2]
  have t3 : evSs (PL fuel k) q22_15 (e16 dd st z a b c d l (-u) m) = evSs (PL fuel k) q22_16 (e16 dd st z a b c d l (-u) m) := by
    simp [q22_15, fb_mul, u2, x5, x6, u2, y3, y4]
  rw [t2, t3]
end Ev
end
section
set_option maxRecDepth 100000
set_option maxHeartbeats 4000000
namespace Ev
open PySem
variable {fuel k : Nat}
/-! the rows -/
abbrev e17 (dd st z : D) (a b c d l u m : Int) (rows : Option Sl) (i : Option Sl) : Env := [some (.val dd), some (.own st), some (.val z), some (.val (.int a)), some (.val (.int b)), some (.val (.int c)), some (.val (.int d)), some (.val (qD (Rat.divInt a b))), some (.val (qD (Rat.divInt c d))), some (.val (.int l)), some (.val (.int u)), some (.val (.int m)), rows, i, none, none, none, none, none, none, none]
theorem grow {dd st z i : D} {a b c d l u m : Int} {x : Option Sl} {rows : List Rat} (h : IsSt st) (hl : rows.length ≤ 10) (hf : 2 ^ 200 ≤ fuel) : ∃ st' r, IsSt st' ∧ Bd 5 r ∧
    turn (PL fuel k) (.nm 13) b22_0 i (e17 dd st z a b c d l u m (some (.own (.lst (rows.map qD)))) x) = .ok .next (e17 dd st' z a b c d l u m (some (.own (.lst ((rows ++ [r]).map qD)))) (some (.val i))) := by
  obtain ⟨g1, st1, h1, b1, c1⟩ := dr (fuel := fuel) (k := k + 8) h (L := 41) (by decide) (by decide)
  obtain ⟨g2, st2, h2, b2, c2⟩ := dr (fuel := fuel) (k := k + 8) h1 (L := 9) (by decide) (by decide)
  have A3 := fun env => (a3 (fuel := fuel) (k := k + 7) (a := (g1 : Int) - 20) (b := 1 + (g2 : Int)) (by omega) (by omega) hf).c2 (lend := F3.lend) (env := env)
  refine ⟨st2, Rat.divInt ((g1 : Int) - 20) (1 + (g2 : Int)), h2, bd_div (by omega) (by omega) (by omega), ?_⟩
  have hs : rows.length < sizeLine := sl_le (by omega)
  simp [turn, b22_0, c1, c2, A3, hs]
theorem sD {dd st z : D} {a b c d l u m : Int} (h : IsSt st) (hf : 2 ^ 200 ≤ fuel) : ∃ st' r1 r2 r3, IsSt st' ∧ Bd 5 r1 ∧ Bd 5 r2 ∧ Bd 5 r3 ∧
    evSs (PL fuel k) q22_16 (e16 dd st z a b c d l u m) = evSs (PL fuel k) q22_18 (e17 dd st' z a b c d l u m (some (.own (.lst ([Rat.divInt a b, Rat.divInt c d, r1, r2, r3].map qD)))) (some (.val (.int 2)))) := by
  obtain ⟨s1, r1, h1, b1, c1⟩ := grow (fuel := fuel) (k := k) (dd := dd) (z := z) (i := .int 0) (a := a) (b := b) (c := c) (d := d) (l := l) (u := u) (m := m) (x := none) (rows := [Rat.divInt a b, Rat.divInt c d]) h (by simp) hf
  obtain ⟨s2, r2, h2, b2, c2⟩ := grow (fuel := fuel) (k := k) (dd := dd) (z := z) (i := .int 1) (a := a) (b := b) (c := c) (d := d) (l := l) (u := u) (m := m) (x := some (.val (.int 0))) (rows := [Rat.divInt a b, Rat.divInt c d, r1]) h1 (by simp) hf
  obtain ⟨s3, r3, h3, b3, c3⟩ := grow (fuel := fuel) (k := k) (dd := dd) (z := z) (i := .int 2) (a := a) (b := b) (c := c) (d := d) (l := l) (u := u) (m := m) (x := some (.val (.int 1))) (rows := [Rat.divInt a b, Rat.divInt c d, r1, r2]) h2 (by simp) hf
  refine ⟨s3, r1, r2, r3, h3, b1, b2, b3, ?_⟩
  simp at c1 c2 c3
  have k3 : ∀ env, kR1 (.ok (.val (.int 3)) env) = .ok [.int 0, .int 1, .int 2] env := fun env => rfl
  have f0 : ∀ (f : D → Env → Out Fl) env, forL f [] env = .ok .next env := fun f env => rfl
  have f1 : ∀ (f : D → Env → Out Fl) d ds env env', f d env = .ok .next env' → forL f (d :: ds) env = forL f ds env' := fun f d ds env env' h => by rw [forL, h]
  simp [q22_16, q22_17, k3]
  rw [f1 _ _ _ _ _ c1, f1 _ _ _ _ _ c2, f1 _ _ _ _ _ c3, f0]
  simp
end Ev
end
section
set_option maxRecDepth 100000
set_option maxHeartbeats 4000000
namespace Ev
open PySem
variable {fuel k : Nat}
def cr (s : Int × Int) (r : Rat) : Int × Int := (s.1 * r.den + r.num * s.2, s.2 * r.den)
theorem cr_sum : ∀ {rows : List Rat} {s : Int × Int}, s.2 ≠ 0 → (rows.foldl cr s).2 ≠ 0 ∧ Rat.divInt (rows.foldl cr s).1 (rows.foldl cr s).2 = rows.foldl (· + ·) (Rat.divInt s.1 s.2)
  | [], s, h => ⟨h, rfl⟩
  | r :: rows, s, h => by
    have h1 := r.den_pos
    have h2 : (cr s r).2 ≠ 0 := Int.mul_ne_zero h (by omega)
    have e : Rat.divInt s.1 s.2 + r = Rat.divInt (cr s r).1 (cr s r).2 := by
      conv => lhs; rw [← Rat.num_divInt_den r]
      exact dv_add h (by omega)
    obtain ⟨i1, i2⟩ := cr_sum (rows := rows) h2
    refine ⟨i1, ?_⟩
    show Rat.divInt (rows.foldl cr (cr s r)).1 (rows.foldl cr (cr s r)).2 = rows.foldl (· + ·) (Rat.divInt s.1 s.2 + r)
    rw [i2, e]
theorem tot {P : Par} {dd st z : D} {a b c d l u m : Int} {i : Option Sl} {rows : List Rat} {B : Nat → Nat} (h0 : 1 ≤ B 0) (hB : ∀ i q, rows[i]? = some q → ∃ n, Bd n q ∧ B i + n + 1 ≤ B (i + 1)) (hl : ∀ j, j ≤ rows.length → B j ≤ 400) : ∃ y,
    forL (turn P (.nm 15) b22_1) (rows.map qD) [some (.val dd), some (.own st), some (.val z), some (.val (.int a)), some (.val (.int b)), some (.val (.int c)), some (.val (.int d)), some (.val (qD (Rat.divInt a b))), some (.val (qD (Rat.divInt c d))), some (.val (.int l)), some (.val (.int u)), some (.val (.int m)), some (.val (.lst (rows.map qD))), i, some (.val (.tup [.int 0, .int 1])), none, none, none, none, none, none]
      = .ok .next [some (.val dd), some (.own st), some (.val z), some (.val (.int a)), some (.val (.int b)), some (.val (.int c)), some (.val (.int d)), some (.val (qD (Rat.divInt a b))), some (.val (qD (Rat.divInt c d))), some (.val (.int l)), some (.val (.int u)), some (.val (.int m)), some (.val (.lst (rows.map qD))), i, some (.val (.tup [.int (rows.foldl cr (0, 1)).1, .int (rows.foldl cr (0, 1)).2])), y, none, none, none, none, none]
    ∧ (rows.foldl cr (0, 1)).1.natAbs < 2 ^ B rows.length ∧ (rows.foldl cr (0, 1)).2.natAbs < 2 ^ B rows.length := by
  obtain ⟨env', h, h1, h2, y, rfl⟩ := forL_foldI (emb := qD) (xs := rows) (i := 0) (s := ((0, 1) : Int × Int)) (f := cr) (body := turn P (.nm 15) b22_1)
    (R := fun j s env => s.1.natAbs < 2 ^ B j ∧ s.2.natAbs < 2 ^ B j ∧ ∃ y, env = [some (.val dd), some (.own st), some (.val z), some (.val (.int a)), some (.val (.int b)), some (.val (.int c)), some (.val (.int d)), some (.val (qD (Rat.divInt a b))), some (.val (qD (Rat.divInt c d))), some (.val (.int l)), some (.val (.int u)), some (.val (.int m)), some (.val (.lst (rows.map qD))), i, some (.val (.tup [.int s.1, .int s.2])), y, none, none, none, none, none])
    ⟨by show (0 : Nat) < _; exact Nat.pow_pos (by decide), Nat.lt_of_lt_of_le (by show 1 < 2 ^ 1; decide) (Nat.pow_le_pow_right (by decide) h0), none, rfl⟩ (by
      rintro j s q env hq ⟨b1, b2, y, rfl⟩
      rw [Nat.zero_add] at b1 b2 ⊢
      obtain ⟨n, n1, n2⟩ := hB j q hq
      have hj := (List.getElem?_eq_some_iff.mp hq).1
      have hz := hl j (by omega)
      have hz2 := hl (j + 1) (by omega)
      have qb : (q.den : Int).natAbs < 2 ^ n := by simpa using n1.b
      have m1 : mulOk s.1 (q.den : Int) = true := mo_big (pw _ b1 (by omega)) (pw _ qb (by omega))
      have m2 : mulOk q.num s.2 = true := mo_big (pw _ n1.a (by omega)) (pw _ b2 (by omega))
      have m3 : mulOk s.2 (q.den : Int) = true := mo_big (pw _ b2 (by omega)) (pw _ qb (by omega))
      have x1 := mul_lt b1 qb
      have x2 := mul_lt n1.a b2
      rw [Nat.add_comm n] at x2
      have x3 := mul_lt b2 qb
      exact ⟨[some (.val dd), some (.own st), some (.val z), some (.val (.int a)), some (.val (.int b)), some (.val (.int c)), some (.val (.int d)), some (.val (qD (Rat.divInt a b))), some (.val (qD (Rat.divInt c d))), some (.val (.int l)), some (.val (.int u)), some (.val (.int m)), some (.val (.lst (rows.map qD))), i, some (.val (.tup [.int (cr s q).1, .int (cr s q).2])), some (.val (qD q)), none, none, none, none, none], .inl (by simp [turn, b22_1, fb_mul, m1, m2, m3, cr]), pw _ (add_lt x1 x2) (by omega), pw _ x3 (by omega), _, rfl⟩)
  rw [Nat.zero_add] at h1 h2
  exact ⟨y, h, h1, h2⟩
/-! least and greatest -/
theorem least_law : ∀ {rows : List Rat} {q : Rat}, rows.foldl (fun b v => if v < b then v else b) q ∈ q :: rows ∧ ∀ r ∈ q :: rows, rows.foldl (fun b v => if v < b then v else b) q ≤ r
  | [], q => ⟨.head _, fun r hr => by rw [List.mem_singleton.mp hr]; exact Rat.le_refl⟩
  | x :: rows, q => by
    rw [List.foldl_cons]
    obtain ⟨h1, h2⟩ := least_law (rows := rows) (q := if x < q then x else q)
    by_cases h : x < q
    · rw [if_pos h] at h1 h2 ⊢
      refine ⟨.tail _ h1, fun r hr => ?_⟩
      rcases List.mem_cons.mp hr with rfl | hr
      · exact Rat.le_trans (h2 x (.head _)) (Rat.le_of_lt h)
      · exact h2 r hr
    · rw [if_neg h] at h1 h2 ⊢
      refine ⟨?_, fun r hr => ?_⟩
      · rcases List.mem_cons.mp h1 with e | h1
        · rw [e]; exact .head _
        · exact .tail _ (.tail _ h1)
      · rcases List.mem_cons.mp hr with rfl | hr
        · exact h2 _ (.head _)
        rcases List.mem_cons.mp hr with rfl | hr
        · exact Rat.le_trans (h2 q (.head _)) (Rat.not_lt.mp h)
        · exact h2 r (.tail _ hr)
theorem most_law : ∀ {rows : List Rat} {q : Rat}, rows.foldl (fun b v => if b < v then v else b) q ∈ q :: rows ∧ ∀ r ∈ q :: rows, r ≤ rows.foldl (fun b v => if b < v then v else b) q
  | [], q => ⟨.head _, fun r hr => by rw [List.mem_singleton.mp hr]; exact Rat.le_refl⟩
  | x :: rows, q => by
    rw [List.foldl_cons]
    obtain ⟨h1, h2⟩ := most_law (rows := rows) (q := if q < x then x else q)
    by_cases h : q < x
    · rw [if_pos h] at h1 h2 ⊢
      refine ⟨.tail _ h1, fun r hr => ?_⟩
      rcases List.mem_cons.mp hr with rfl | hr
      · exact Rat.le_trans (Rat.le_of_lt h) (h2 x (.head _))
      · exact h2 r hr
    · rw [if_neg h] at h1 h2 ⊢
      refine ⟨?_, fun r hr => ?_⟩
      · rcases List.mem_cons.mp h1 with e | h1
        · rw [e]; exact .head _
        · exact .tail _ (.tail _ h1)
      · rcases List.mem_cons.mp hr with rfl | hr
        · exact h2 _ (.head _)
        rcases List.mem_cons.mp hr with rfl | hr
        · exact Rat.le_trans (Rat.not_lt.mp h) (h2 q (.head _))
        · exact h2 r (.tail _ hr)
theorem emb_q : Emb qD 1 := ⟨fun q => pr_q (q.num, q.den), fun p q => by
  have := (emb_pair emb_int emb_int).e (p.num, (p.den : Int)) (q.num, (q.den : Int))
  refine Eq.trans this ?_
  rw [decide_eq_decide, Prod.mk.injEq]
  exact ⟨fun h => Rat.ext h.1 (by omega), fun h => by rw [h]; exact ⟨rfl, rfl⟩⟩⟩
end Ev
end
section
set_option maxRecDepth 100000
set_option maxHeartbeats 4000000
namespace Ev
open PySem
variable {fuel k : Nat}
def Bf (i : Nat) : Nat := [1, 32, 63, 69, 75, 81].getD i 0
abbrev e24 (dd st z : D) (a b c d l u m : Int) (x12 x13 x14 x15 x16 x17 : Option Sl) : Env := [some (.val dd), some (.own st), some (.val z), some (.val (.int a)), some (.val (.int b)), some (.val (.int c)), some (.val (.int d)), some (.val (qD (Rat.divInt a b))), some (.val (qD (Rat.divInt c d))), some (.val (.int l)), some (.val (.int u)), some (.val (.int m)), x12, x13, x14, x15, x16, x17, none, none, none]
theorem sE {dd st z : D} {a b c d l u m : Int} {i : Option Sl} {r1 r2 r3 : Rat} (h : Ok4 a b c d) (b1 : Bd 5 r1) (b2 : Bd 5 r2) (b3 : Bd 5 r3) (hf : 2 ^ 200 ≤ fuel) : ∃ x12 x14 x15 x16 x17,
    evSs (PL fuel k) q22_18 (e17 dd st z a b c d l u m (some (.own (.lst ([Rat.divInt a b, Rat.divInt c d, r1, r2, r3].map qD)))) i) = evSs (PL fuel k) q22_24 (e24 dd st z a b c d l u m x12 i x14 x15 x16 x17) := by
  have bp : Bd 30 (Rat.divInt a b) := bd_div h.nb h.ha h.hb
  have bq : Bd 30 (Rat.divInt c d) := bd_div (by have := h.pd; omega) h.hc h.hd
  obtain ⟨rows, hr⟩ : ∃ rows, rows = [Rat.divInt a b, Rat.divInt c d, r1, r2, r3] := ⟨_, rfl⟩
  have hB0 : ∀ i q, rows[i]? = some q → ∃ n, Bd n q ∧ Bf i + n ≤ 185 ∧ Bf i + n + 1 ≤ Bf (i + 1) := by
    intro i q hq
    rw [hr] at hq
    match i, hq with
    | 0, hq => cases hq; exact ⟨30, bp, by decide, by decide⟩
    | 1, hq => cases hq; exact ⟨30, bq, by decide, by decide⟩
    | 2, hq => cases hq; exact ⟨5, b1, by decide, by decide⟩
    | 3, hq => cases hq; exact ⟨5, b2, by decide, by decide⟩
    | 4, hq => cases hq; exact ⟨5, b3, by decide, by decide⟩
    | i + 5, hq => simp at hq
  have hall : ∀ r ∈ rows, Bd 190 r := by
    intro r hr2
    rw [hr] at hr2
    simp only [List.mem_cons, List.not_mem_nil, or_false] at hr2
    rcases hr2 with rfl | rfl | rfl | rfl | rfl
    · exact bp.mono (by decide)
    · exact bq.mono (by decide)
    · exact b1.mono (by decide)
    · exact b2.mono (by decide)
    · exact b3.mono (by decide)
  have hlen : rows.length = 5 := by rw [hr]; rfl
  obtain ⟨p, tl, htl⟩ : ∃ p tl, rows = p :: tl := ⟨_, _, hr⟩
  obtain ⟨y, w, w1, w2⟩ := tot (P := PL fuel k) (dd := dd) (st := st) (z := z) (a := a) (b := b) (c := c) (d := d) (l := l) (u := u) (m := m) (i := i) (rows := rows) (B := Bf) (by decide) (fun i q hq => let ⟨n, h1, h2, h3⟩ := hB0 i q hq; ⟨n, h1, h3⟩) (fun j hj => by
    rw [hlen] at hj
    match j, hj with
    | 0, _ => decide
    | 1, _ => decide
    | 2, _ => decide
    | 3, _ => decide
    | 4, _ => decide
    | 5, _ => decide
    | j + 6, hj => omega)
  obtain ⟨s1, s2⟩ := cr_sum (rows := rows) (s := (0, 1)) (by decide)
  have e01 : Rat.divInt 0 1 = 0 := rfl
  rw [e01] at s2
  have c15 := fun env => (a15 (fuel := fuel) (k := k + 5) (rows := rows) (B := Bf) (by decide) hB0 hf).c1 (lend := F15.lend) (env := env)
  rw [← s2] at c15
  rw [hlen] at w1 w2
  have bs : Bd 81 (Rat.divInt (rows.foldl cr (0, 1)).1 (rows.foldl cr (0, 1)).2) := bd_div s1 w1 w2
  have c20 := fun env => (a20 (fuel := fuel) (k := k + 7) (crossE s1) (bs.mono (by decide)) (pw 400 w1 (by decide)) (pw 400 w2 (by decide)) hf).c3 (lend := F20.lend) (env := env)
  have c16 := fun env => (a16 (fuel := fuel) (k := k + 7) (q := p) (rows := tl) (by have := congrArg List.length htl; rw [hlen, List.length_cons] at this; omega) (by rw [← htl]; exact hall)).c1 (lend := F16.lend) (env := env)
  have c17 := fun env => (a17 (fuel := fuel) (k := k + 7) (q := p) (rows := tl) (by have := congrArg List.length htl; rw [hlen, List.length_cons] at this; omega) (by rw [← htl]; exact hall)).c1 (lend := F17.lend) (env := env)
  obtain ⟨l1, l2⟩ := least_law (rows := tl) (q := p)
  obtain ⟨g1, g2⟩ := most_law (rows := tl) (q := p)
  rw [← htl] at c16 c17 l1 l2 g1 g2
  generalize tl.foldl (fun b v => if v < b then v else b) p = L at *
  generalize tl.foldl (fun b v => if b < v then v else b) p = M at *
  have n1 := emb_q.nmem (by decide) L rows
  have n2 := emb_q.nmem (by decide) M rows
  rw [decide_eq_true l1] at n1
  rw [decide_eq_true g1] at n2
  have n1 : fCmp .nin (qD L) (.lst (rows.map qD)) = some (.val (.bl false)) := by unfold fCmp; rw [n1]; rfl
  have n2 : fCmp .nin (qD M) (.lst (rows.map qD)) = some (.val (.bl false)) := by unfold fCmp; rw [n2]; rfl
  generalize (rows.foldl cr (0, 1)).1 = N at *
  generalize (rows.foldl cr (0, 1)).2 = K at *
  rw [← hr]
  have t1 : evSs (PL fuel k) q22_18 (e17 dd st z a b c d l u m (some (.own (.lst (rows.map qD)))) i) = evSs (PL fuel k) q22_22 (e24 dd st z a b c d l u m (some (.val (.lst (rows.map qD)))) i (some (.val (.tup [.int N, .int K]))) y (some (.val (qD L))) (some (.val (qD M)))) := by
    simp [q22_18, q22_19, w, q22_20, q22_21, c16, c17]
  have t2 : evSs (PL fuel k) q22_22 (e24 dd st z a b c d l u m (some (.val (.lst (rows.map qD)))) i (some (.val (.tup [.int N, .int K]))) y (some (.val (qD L))) (some (.val (qD M)))) = evSs (PL fuel k) q22_23 (e24 dd st z a b c d l u m (some (.val (.lst (rows.map qD)))) i (some (.val (.tup [.int N, .int K]))) y (some (.val (qD L))) (some (.val (qD M)))) := by
    simp [q22_22, c15, c20, n1, n2]
  have lc : evA (PL fuel k) (.lc e22_2 (.nm 15) (.of (.var 12)) .nil [15]) (e24 dd st z a b c d l u m (some (.val (.lst (rows.map qD)))) i (some (.val (.tup [.int N, .int K]))) y (some (.val (qD L))) (some (.val (qD M)))) = .ok (.tmp (.lst (rows.map fun _ => D.bl false))) (e24 dd st z a b c d l u m (some (.val (.lst (rows.map qD)))) i (some (.val (.tup [.int N, .int K]))) y (some (.val (qD L))) (some (.val (qD M)))) := by
    refine lc_gen (ds := rows.map qD) (by simp) (by simp) ?_
    rw [lcL_pure (emb := qD) (f := fun _ => some (.bl false)) (fun r hr => ?_) (by rw [List.length_nil, Nat.zero_add, hlen]; exact sl_le (by omega)), List.nil_append]
    · rw [show rows.filterMap (fun _ => some (D.bl false)) = rows.map fun _ => D.bl false by rw [hr]; rfl]
    · obtain ⟨m1, m2, m3, m4⟩ := (hall r hr).mo (hall L l1) (by decide) (by decide)
      obtain ⟨m5, m6, m7, m8⟩ := (hall L l1).mo (hall r hr) (by decide) (by decide)
      obtain ⟨m9, m10, m11, m12⟩ := (hall r hr).mo (hall M g1) (by decide) (by decide)
      obtain ⟨m13, m14, m15, m16⟩ := (hall M g1).mo (hall r hr) (by decide) (by decide)
      have x1 : ¬ (r.num * (L.den : Int) < L.num * (r.den : Int)) := by rw [← Rat.lt_iff]; exact Rat.not_lt.mpr (l2 r hr)
      have x2 : ¬ (M.num * (r.den : Int) < r.num * (M.den : Int)) := by rw [← Rat.lt_iff]; exact Rat.not_lt.mpr (g2 r hr)
      have := cT (P := PL fuel k) (elt := e22_2) (c := .nil) (i := 15) (d := qD r) (y := .bl false) (b := true) (env := (e24 dd st z a b c d l u m (some (.val (.lst (rows.map qD)))) i (some (.val (.tup [.int N, .int K]))) y (some (.val (qD L))) (some (.val (qD M)))).set 15 none) (by simp) (by simp) (fun _ => by simp [e22_2, fb_mul, m2, m6, m10, m14, x1, x2])
      simpa using this
  have t3 : evSs (PL fuel k) q22_23 (e24 dd st z a b c d l u m (some (.val (.lst (rows.map qD)))) i (some (.val (.tup [.int N, .int K]))) y (some (.val (qD L))) (some (.val (qD M)))) = evSs (PL fuel k) q22_24 (e24 dd st z a b c d l u m (some (.val (.lst (rows.map qD)))) i (some (.val (.tup [.int N, .int K]))) y (some (.val (qD L))) (some (.val (qD M)))) := by
    have ab : biF .any [.lst (rows.map fun _ => D.bl false)] = some (.val (.bl ((rows.map fun _ => false).any id))) := by rw [b_any, asB_map (f := fun _ : Rat => false)]; rfl
    have ab2 : ((rows.map fun _ => false).any id) = false := by rw [hr]; rfl
    rw [ab2] at ab
    simp [-s_lc, q22_23, lc, ab]
  exact ⟨_, _, _, _, _, by rw [t1, t2, t3]⟩
end Ev
end
section
set_option maxRecDepth 100000
set_option maxHeartbeats 4000000
namespace Ev
open PySem
variable {fuel k : Nat}
abbrev e26 (dd st z : D) (a b c d l u m : Int) (x12 x13 x14 x15 x16 x17 x18 x19 : Option Sl) : Env := [some (.val dd), some (.own st), some (.val z), some (.val (.int a)), some (.val (.int b)), some (.val (.int c)), some (.val (.int d)), some (.val (qD (Rat.divInt a b))), some (.val (qD (Rat.divInt c d))), some (.val (.int l)), some (.val (.int u)), some (.val (.int m)), x12, x13, x14, x15, x16, x17, x18, x19, none]
theorem fold_pow {α : Type} {a : Int} : ∀ {xs : List α} {s : Int}, xs.foldl (fun s _ => s * a) s = s * a ^ xs.length
  | [], s => by simp
  | x :: xs, s => by rw [List.foldl_cons, fold_pow, List.length_cons, Int.pow_succ]; ac_rfl
theorem powl {dd st z : D} {a b c d l u m : Int} {x12 x13 x14 x15 x16 x17 x18 : Option Sl} {e : Nat} (ha : a.natAbs < 2 ^ 30) (he : e ≤ 20) : ∃ y,
    forL (turn (PL fuel k) (.nm 13) b22_3) ((List.range e).map fun i : Nat => D.int i) (e26 dd st z a b c d l u m x12 x13 x14 x15 x16 x17 x18 (some (.val (.int 1)))) = .ok .next (e26 dd st z a b c d l u m x12 y x14 x15 x16 x17 x18 (some (.val (.int (a ^ e))))) := by
  obtain ⟨env', h, h1, y, rfl⟩ := forL_foldI (emb := fun i : Nat => D.int i) (xs := List.range e) (i := 0) (s := (1 : Int)) (f := fun s _ => s * a) (body := turn (PL fuel k) (.nm 13) b22_3)
    (R := fun j s env => s.natAbs < 2 ^ (30 * j + 1) ∧ ∃ y, env = e26 dd st z a b c d l u m x12 y x14 x15 x16 x17 x18 (some (.val (.int s)))) ⟨by decide, x13, rfl⟩ (by
      rintro j s i env hi ⟨h1, y, rfl⟩
      have hj : j < e := by have := (List.getElem?_eq_some_iff.mp hi).1; simpa using this
      rw [Nat.zero_add] at h1 ⊢
      have m1 : mulOk s a = true := mo_big (pw _ h1 (by omega)) (pw _ ha (by omega))
      exact ⟨e26 dd st z a b c d l u m x12 (some (.val (.int i))) x14 x15 x16 x17 x18 (some (.val (.int (s * a)))), .inl (by simp [turn, b22_3, fb_mul, m1]), pw _ (mul_lt h1 ha) (by omega), _, rfl⟩)
  rw [fold_pow, List.length_range, Int.one_mul] at h
  exact ⟨y, h⟩
theorem sF {dd st z : D} {a b c d l u m : Int} {x12 x13 x14 x15 x16 x17 : Option Sl} (hst : IsSt st) (h : Ok4 a b c d) (hf : 2 ^ 200 ≤ fuel) : ∃ env',
    evSs (PL fuel k) q22_24 (e24 dd st z a b c d l u m x12 x13 x14 x15 x16 x17) = .ok (.ret (.val (.bl true))) env' := by
  obtain ⟨g1, st1, h1, b1, c1⟩ := dr (fuel := fuel) (k := k + 8) hst (L := 21) (by decide) (by decide)
  obtain ⟨g2, st2, h2, b2, c2⟩ := dr (fuel := fuel) (k := k + 8) h1 (L := 7) (by decide) (by decide)
  obtain ⟨y, w⟩ := powl (fuel := fuel) (k := k) (dd := dd) (st := st1) (z := z) (a := a) (b := b) (c := c) (d := d) (l := l) (u := u) (m := m) (x12 := x12) (x13 := x13) (x14 := x14) (x15 := x15) (x16 := x16) (x17 := x17) (x18 := some (.val (.int g1))) (e := g1) h.ha (by omega)
  obtain ⟨o, ho, hom⟩ := at_mem (xs := odds01) (i := g2) (by have : odds01.length = 7 := rfl; omega)
  simp only [odds01] at ho
  have bp : Bd 30 (Rat.divInt a b) := bd_div h.nb h.ha h.hb
  have A2 : An fuel (k + 9) 2 [.int a, .int g1] (.int (a ^ g1)) := a2 (pw _ h.ha (by decide)) (by omega) hf
  have hcf : c.natAbs < fuel := by have := h.hc; omega
  have A1 : An fuel (k + 9) 1 [.int a, .int c] (.int (Int.gcd a c)) := a1 hcf
  have A19 : An fuel (k + 9) 19 [.int a, .int c] (.int (Int.gcd a c)) := a19 hcf
  have A5 : An fuel (k + 9) 5 [qD (Rat.divInt a b)] (.bl true) := a5 (k := k + 7) (bp.mono (by decide)) hf
  have A5o : An fuel (k + 9) 5 [o] (.bl false) := a5o (k := k + 7) hom hf
  have z1 : An fuel (k + 9) 0 [.int a, .int a, .int a] (.bl (decide (a ≤ a) && decide (a ≤ a))) := a0
  have z2 : An fuel (k + 9) 0 [.int a, .int (a + 1), .non] (.bl (decide (a + 1 ≤ a))) := a0n
  have z3 : An fuel (k + 9) 0 [.bl true, .int 0, .int 5] (.bl false) := a0b
  have z4 : An fuel (k + 9) 0 [.str "1", .non, .non] (.bl false) := a0s
  have d1 : (decide (a ≤ a) && decide (a ≤ a)) = true := by simp
  have d2 : decide (a + 1 ≤ a) = false := by simp; omega
  rw [d1] at z1
  rw [d2] at z2
  have t1 : ∃ env2, evSs (PL fuel k) q22_24 (e24 dd st z a b c d l u m x12 x13 x14 x15 x16 x17) = evSs (PL fuel k) q22_28 env2 ∧ env2 = [some (.val dd), some (.own st2), some (.val z), some (.val (.int a)), some (.val (.int b)), some (.val (.int c)), some (.val (.int d)), some (.val (qD (Rat.divInt a b))), some (.val (qD (Rat.divInt c d))), some (.val (.int l)), some (.val (.int u)), some (.val (.int m)), x12, y, x14, x15, x16, x17, some (.val (.int g1)), some (.val (.int (a ^ g1))), some (.val o)] := by
    refine ⟨_, ?_, rfl⟩
    simp [q22_24, q22_25, q22_26, q22_27, c1, c2, k_range (show g1 ≤ 1000000 by omega), w, ho]
  obtain ⟨env2, t1, rfl⟩ := t1
  rw [t1]
  simp [q22_28, q22_29, A2.c2, A1.c2, A19.c2, A5.c1, A5o.c1, z1.c3, z2.c3, z3.c3, z4.c3]
theorem run0 (hf : 2 ^ 200 ≤ fuel) : RunOk fs exmt fuel (k + 10) 22 63 := by
  rintro ns hn hz dd hd
  rw [o22]
  obtain ⟨st1, z, a, b, c, d, h1, h4, e1⟩ := sA (fuel := fuel) (k := k) hd hf
  have e2 := sB (fuel := fuel) (k := k) (dd := dd) (st := st1) (z := z) h4 hf
  obtain ⟨l, u, m, e3⟩ := sC (fuel := fuel) (k := k) (dd := dd) (st := st1) (z := z) h4 hf
  obtain ⟨st2, r1, r2, r3, h2, b1, b2, b3, e4⟩ := sD (fuel := fuel) (k := k) (dd := dd) (st := st1) (z := z) (a := a) (b := b) (c := c) (d := d) (l := l) (u := u) (m := m) h1 hf
  obtain ⟨x12, x14, x15, x16, x17, e5⟩ := sE (fuel := fuel) (k := k) (dd := dd) (st := st2) (z := z) (l := l) (u := u) (m := m) (i := some (.val (.int 2))) h4 b1 b2 b3 hf
  obtain ⟨env', e6⟩ := sF (fuel := fuel) (k := k) (dd := dd) (st := st2) (z := z) (l := l) (u := u) (m := m) (x12 := x12) (x13 := some (.val (.int 2))) (x14 := x14) (x15 := x15) (x16 := x16) (x17 := x17) h2 h4 hf
  have eb : F22.body = q22_0 := rfl
  rw [eb, e1, e2, e3, e4, e5, e6]
  exact ⟨_, rfl⟩
end Ev
end
section
set_option maxRecDepth 100000
set_option maxHeartbeats 8000000
namespace Ev
theorem run : RunOk fs exmt 1606938044258990275541962092341162602522202993782792835301376 20 22 63 := run0 (fuel := 1606938044258990275541962092341162602522202993782792835301376) (k := 10) (by decide)
end Ev
open PySem PySem.W PyProof.Rows
theorem PySem.Challenge.cw_linesfitted_k01_numbers_of_lines_holds : PySem.Challenge.rw_linesfitted_k01_numbers_of_lines.Holds := by
  w_on; o_law; k_head; (case hw => w_witness2); k_fill
  refine Ev.walk_ev (kk := 20) (fuel := 1606938044258990275541962092341162602522202993782792835301376) (li := 22) (G := Ev.G) (Ts := Ev.Ts) (fs := Ev.fs) (t := Ev.exmt) (T := Ev.T22) (x := "script") (by decide +kernel) (by decide +kernel) rfl ⟨rfl, by decide, by decide⟩ (fun w h Y => PySem.W.kIn_of Y) ?hrec ?says rfl rfl rfl Ev.run
  case hrec => decide +kernel
  case says => exact fun P => Ev.says (by kernel_rfl) ⟨by unfold Ev.fdEq; kernel_rfl, by unfold Ev.fdEq; kernel_rfl, by unfold Ev.fdEq; kernel_rfl, by unfold Ev.fdEq; kernel_rfl, by unfold Ev.fdEq; kernel_rfl, by unfold Ev.fdEq; kernel_rfl, by unfold Ev.fdEq; kernel_rfl, by unfold Ev.fdEq; kernel_rfl, by unfold Ev.fdEq; kernel_rfl, by unfold Ev.fdEq; kernel_rfl, by unfold Ev.fdEq; kernel_rfl, by unfold Ev.fdEq; kernel_rfl, by unfold Ev.fdEq; kernel_rfl, by unfold Ev.fdEq; kernel_rfl, by unfold Ev.fdEq; kernel_rfl, by unfold Ev.fdEq; kernel_rfl, by unfold Ev.fdEq; kernel_rfl, by unfold Ev.fdEq; kernel_rfl, by unfold Ev.fdEq; kernel_rfl, by unfold Ev.fdEq; kernel_rfl, by unfold Ev.fdEq; kernel_rfl, by unfold Ev.fdEq; kernel_rfl, by unfold Ev.fdEq; kernel_rfl⟩ (Ev.ext01 (by kernel_rfl))
end
