import PyProof.Rows.All
import Wide.All
import OpenK.AllK
import Wide.FinOn
import PySem.Challenge.RW_linesfitted_k07_boxes_glue_and_penalties
import HandS.ForMost
import HandS.ForExc
import HandS.Wide
import HandS.Deep
import HandS.Style
import HandS.Flow
import HandS.IsInst
import HandS.TupAny
import HandS.Dict
import HandS.RaiseMore
import HandS.CallSlots
import HandS.Text
import HandS.Iter
import PyProof.Draws
import PyProof.EnumMake
import PyProof.TupleIter
import HandS.AnyAll
import HandS.GenCall
import HandS.Lambda
import HandS.GenList
import HandS.Words
import HandS.WordsExc
import HandS.EndBits
import HandS.EndTab
import HandS.EndOwn
import PyProof.Rows.RegStrFacts
set_option linter.all false
set_option Elab.async false
section
set_option maxRecDepth 100000
/-! The evaluator: pure values, slots that are owned or known, expressions, statements, their denotation. -/
namespace Ev
open PySem

inductive D where
  | non | bl (b : Bool) | int (i : Int) | str (s : Str)
  | tup (xs : List D) | lst (xs : List D)
  | frz (xs : List D) | dic (t : Bool) (kvs : List (D × D)) | ins (c : Nat) (fs : List (Nat × D)) | fn (f : Nat)
  deriving Inhabited

mutual
def D.py : D → PyData
  | .non => .none | .bl b => .bool b | .int i => .int i | .str s => .str s
  | .tup xs => .tuple (D.pys xs) | .lst xs => .list (D.pys xs)
  | .frz _ => .dict [] | .dic _ _ => .dict [] | .ins _ _ => .dict [] | .fn _ => .dict []
def D.pys : List D → List PyData
  | [] => []
  | x :: xs => D.py x :: D.pys xs
end
/-- what == is served for -/
def D.eqOk (a : D) : Bool := SeqAt.shaped a.py
def D.eqv (a b : D) : Bool := PyData.eqv a.py b.py
def D.eq? (a b : D) : Option Bool := if a.eqOk && b.eqOk then some (D.eqv a b) else none

inductive Sl where
  | val (d : D) | own (d : D)
  deriving Inhabited
abbrev Env := List (Option Sl)
structure Exn where
  cls : Nat
  fld : Option D
inductive A where
  | val (d : D) | own (i : Nat) | tmp (d : D)
  deriving Inhabited
inductive Out (α : Type) where
  | ok (a : α) (env : Env) | exn (x : Exn) (env : Env) | stuck
inductive Fl where
  | next | ret (a : A) | brk | cont
/-- a call's end: the value, what the parameters hold -/
inductive CR where
  | ret (a : A) (outs : Env) | exn (x : Exn) (outs : Env) | stuck
abbrev CF := Nat → List Sl → CR

abbrev M (α : Type) := Env → Out α
def Out.bind {α β : Type} (o : Out α) (k : α → Env → Out β) : Out β :=
  match o with
  | .ok a env => k a env
  | .exn x env => .exn x env
  | .stuck => .stuck
@[simp] theorem Out.bind_ok {α β : Type} (a : α) (env : Env) (k : α → Env → Out β) : (Out.ok a env).bind k = k a env := rfl
@[simp] theorem Out.bind_exn {α β : Type} (x : Exn) (env : Env) (k : α → Env → Out β) : (Out.exn (α := α) x env).bind k = .exn x env := rfl
@[simp] theorem Out.bind_stuck {α β : Type} (k : α → Env → Out β) : (Out.stuck (α := α)).bind k = .stuck := rfl

def Sl.d : Sl → D
  | .val d => d
  | .own d => d
/-- what a thing in hand holds -/
def A.look (a : A) (env : Env) : Option D :=
  match a with
  | .val d => some d
  | .tmp d => some d
  | .own i => match env[i]? with
    | some (some s) => some s.d
    | _ => none
/-- a thing in hand becomes known for good -/
def A.freeze (a : A) (env : Env) : Out D :=
  match a with
  | .val d => .ok d env
  | .tmp d => .ok d env
  | .own i => match env[i]? with
    | some (some s) => .ok s.d (env.set i (some (.val s.d)))
    | _ => .stuck

inductive Bo where | add | sub | mul | fdiv | mod | pow
  deriving DecidableEq
inductive Co where | eq | ne | lt | le | gt | ge | is | isn | inn | nin
  deriving DecidableEq

/-- a value, new (nobody else's) or not -/
inductive BR where
  | val (d : D) | new (d : D)
def BR.a : BR → A
  | .val d => .val d
  | .new d => .tmp d

/-- below 2 ^ 64 in size: by Nat.ble, so that the kernel does not count down a great literal -/
def s64 (i : Int) : Bool := Nat.ble i.natAbs 18446744073709551615
theorem s64_lt {i : Int} (h : s64 i = true) : -(2 ^ 64) < i ∧ i < 2 ^ 64 := by
  have := Nat.le_of_ble_eq_true h
  omega
theorem s64_of {i : Int} (h1 : -(2 ^ 64) < i) (h2 : i < 2 ^ 64) : s64 i = true := Nat.ble_eq_true_of_le (by omega)
def mulOk (i j : Int) : Bool := s64 i || s64 j || decide (i.natAbs.log2 + j.natAbs.log2 < 1000000)
def fdivOk (j : Int) : Bool := (decide (j ≠ 0) && decide (j.natAbs < 1073741824)) || (decide (0 < j) && decide (j.natAbs.log2 < 9000))
def powOk (i j : Int) : Bool := decide (0 ≤ j) && decide (j ≤ 1000000) && decide (i.natAbs < 2 ^ 64)

def binF : Bo → D → D → Option BR
  | .add, .int i, .int j => some (.val (.int (i + j)))
  | .sub, .int i, .int j => some (.val (.int (i - j)))
  | .mul, .int i, .int j => if mulOk i j then some (.val (.int (i * j))) else none
  | .fdiv, .int i, .int j => if fdivOk j then some (.val (.int (i.fdiv j))) else none
  | .mod, .int i, .int j => if j = 0 then none else some (.val (.int (i.fmod j)))
  | .pow, .int i, .int j => if powOk i j then some (.val (.int (i ^ j.toNat))) else none
  | .add, .int i, .bl k => some (.val (.int (i + (if k then 1 else 0))))
  | .add, .str x, .str y => if x.length + y.length ≤ sizeLine then some (.val (.str (x ++ y))) else none
  | .add, .tup xs, .tup ys => if xs.length + ys.length ≤ sizeLine then some (.val (.tup (xs ++ ys))) else none
  | .add, .lst xs, .lst ys => if xs.length + ys.length ≤ sizeLine then some (.new (.lst (xs ++ ys))) else none
  | .mul, .lst xs, .int k => if -(2 ^ 63) ≤ k ∧ k < 2 ^ 63 ∧ xs.length * k.toNat ≤ sizeLine then some (.new (.lst (List.replicate k.toNat xs).flatten)) else none
  | _, _, _ => none

/-- x op= e of values -/
def augF : Bo → D → D → Option D
  | .add, .int i, .int j => some (.int (i + j))
  | .sub, .int i, .int j => some (.int (i - j))
  | .mul, .int i, .int j => if mulOk i j then some (.int (i * j)) else none
  | .fdiv, .int i, .int j => if fdivOk j then some (.int (i.fdiv j)) else none
  | .add, .str x, .str y => if x.length + y.length ≤ sizeLine then some (.str (x ++ y)) else none
  | _, _, _ => none
def D.isNon : D → Bool
  | .non => true
  | _ => false
def strIn (a b : Str) : Bool := !(Builtin.Str.occurrences b a 0 b.length 1).isEmpty
def cmpF : Co → D → D → Option Bool
  | .eq, a, b => a.eq? b
  | .ne, a, b => (a.eq? b).map (!·)
  | .lt, .int i, .int j => some (decide (i < j))
  | .le, .int i, .int j => some (decide (i ≤ j))
  | .gt, .int i, .int j => some (decide (j < i))
  | .ge, .int i, .int j => some (decide (j ≤ i))
  | .is, a, .non => some a.isNon
  | .isn, a, .non => some (!a.isNon)
  | .is, .bl a, .bl b => some (a == b)
  | .isn, .bl a, .bl b => some (a != b)
  | .inn, .str a, .str b => some (strIn a b)
  | .nin, .str a, .str b => some (!strIn a b)
  | .inn, a, .lst xs => if a.eqOk && (D.lst xs).eqOk then some (xs.any fun x => D.eqv x a) else none
  | .nin, a, .lst xs => if a.eqOk && (D.lst xs).eqOk then some (!xs.any fun x => D.eqv x a) else none
  | _, _, _ => none

def D.truth : D → Option Bool
  | .non => some false
  | .bl b => some b
  | .int i => some (i != 0)
  | .str s => if s.length ≤ sizeLine then some (s.length != 0) else none
  | .tup xs => some (!xs.isEmpty)
  | .lst xs => some (!xs.isEmpty)
  | _ => none

/-- equal keys of dicts: ints, texts, tuples of such -/
def kEqs (f : D → D → Bool) : List D → List D → Bool
  | [], [] => true
  | a :: as, b :: bs => f a b && kEqs f as bs
  | _, _ => false
def kEq1 : D → D → Bool
  | .int i, .int j => i == j
  | .str s, .str t => s == t
  | _, _ => false
def kEq : D → D → Bool
  | .tup xs, .tup ys => kEqs kEq1 xs ys
  | a, b => kEq1 a b
def dget (kvs : List (D × D)) (k : D) : Option D := (kvs.find? fun p => kEq p.1 k).map (·.2)
def dput (kvs : List (D × D)) (k v : D) : List (D × D) := if kvs.any fun p => kEq p.1 k then kvs.map (fun p => if kEq p.1 k then (p.1, v) else p) else kvs ++ [(k, v)]
def dmerge (kvs more : List (D × D)) : List (D × D) := more.foldl (fun acc p => dput acc p.1 p.2) kvs
def isKey1 : D → Bool
  | .int _ => true
  | .str _ => true
  | _ => false
def isKeyT : D → Bool
  | .tup ds => ds.all isKey1
  | _ => false
def keyOk (t : Bool) (k : D) : Bool := if t then isKeyT k else isKey1 k
def pairD : List D → Option (List (D × D))
  | [] => some []
  | k :: v :: r => if isKey1 k then (pairD r).map ((k, v) :: ·) else none
  | _ => none
def idxF : D → D → Option D
  | .dic t kvs, k => if keyOk t k then dget kvs k else none
  | .tup xs, .int i => L2.atI xs i
  | .lst xs, .int i => L2.atI xs i
  | .frz xs, .int i => L2.atI xs i
  | .str s, .int i => if s.length ≤ sizeLine then (L2.atI s.cps.toList i).map fun c => .str ⟨#[c]⟩ else none
  | _, _ => none
def setF : D → D → D → Option D
  | .lst xs, .int i, v => (L2.ixN xs.length i).map fun k => .lst (xs.set k v)
  | _, _, _ => none

/-- built-in functions of values -/
inductive Bi where
  | len | abs | int | list | tuple | any | all | isInt | isBool | isTuple | isStr | isList | max2 | min2 | sum | max1 | min1 | str
  deriving DecidableEq
def asBools : List D → Option (List Bool)
  | [] => some []
  | .bl b :: r => (asBools r).map (b :: ·)
  | _ :: _ => none
def asInts : List D → Option (List Int)
  | [] => some []
  | .int b :: r => (asInts r).map (b :: ·)
  | _ :: _ => none
def maxI : List Int → Option Int
  | [] => none
  | n :: ns => some (ns.foldl (fun m y => if m < y then y else m) n)
def minI : List Int → Option Int
  | [] => none
  | n :: ns => some (ns.foldl (fun m y => if y < m then y else m) n)
def asStrs : List D → Option (List Str)
  | [] => some []
  | .str b :: r => (asStrs r).map (b :: ·)
  | _ :: _ => none
/-- methods of a text -/
inductive Sm where | join
  deriving DecidableEq
def smF : Sm → Str → List D → Option BR
  | .join, a, [.lst xs] => (asStrs xs).bind fun ys => if (ys.map (·.length)).sum + ys.length * a.length ≤ 16777216 then some (.val (.str (Txt.join a ys))) else none
  | .join, a, [.tup xs] => (asStrs xs).bind fun ys => if (ys.map (·.length)).sum + ys.length * a.length ≤ 16777216 then some (.val (.str (Txt.join a ys))) else none
  | _, _, _ => none
def biF : Bi → List D → Option BR
  | .max1, [.lst xs] => ((asInts xs).bind maxI).map fun m => .val (.int m)
  | .min1, [.lst xs] => ((asInts xs).bind minI).map fun m => .val (.int m)
  | .str, [.int i] => if i.natAbs.log2 < 1920 then some (.val (.str (toString i))) else none
  | .str, [.str s] => some (.val (.str s))
  | .len, [.lst xs] => some (.val (.int xs.length))
  | .len, [.frz xs] => some (.val (.int xs.length))
  | .len, [.tup xs] => some (.val (.int xs.length))
  | .len, [.str s] => if s.length ≤ sizeLine then some (.val (.int s.length)) else none
  | .abs, [.int i] => some (.val (.int (if i < 0 then -i else i)))
  | .int, [.int i] => some (.val (.int i))
  | .int, [.bl k] => some (.val (.int (if k then 1 else 0)))
  | .list, [.lst xs] => some (.new (.lst xs))
  | .list, [.tup xs] => some (.new (.lst xs))
  | .list, [.frz xs] => some (.new (.lst xs))
  | .tuple, [.lst xs] => some (.val (.tup xs))
  | .tuple, [.tup xs] => some (.val (.tup xs))
  | .any, [.lst xs] => (asBools xs).map fun bs => .val (.bl (bs.any id))
  | .all, [.lst xs] => (asBools xs).map fun bs => .val (.bl (bs.all id))
  | .sum, [.lst xs] => (asInts xs).map fun ns => .val (.int ns.sum)
  | .max2, [.int i, .int j] => some (.val (.int (if j > i then j else i)))
  | .min2, [.int i, .int j] => some (.val (.int (if j < i then j else i)))
  | .isInt, [.int _] => some (.val (.bl true))
  | .isInt, [.bl _] => some (.val (.bl true))
  | .isInt, [.non] => some (.val (.bl false))
  | .isInt, [.str _] => some (.val (.bl false))
  | .isInt, [.tup _] => some (.val (.bl false))
  | .isInt, [.lst _] => some (.val (.bl false))
  | .isBool, [.bl _] => some (.val (.bl true))
  | .isBool, [.int _] => some (.val (.bl false))
  | .isBool, [.non] => some (.val (.bl false))
  | .isBool, [.str _] => some (.val (.bl false))
  | .isBool, [.tup _] => some (.val (.bl false))
  | .isBool, [.lst _] => some (.val (.bl false))
  | .isTuple, [.tup _] => some (.val (.bl true))
  | .isTuple, [.bl _] => some (.val (.bl false))
  | .isTuple, [.int _] => some (.val (.bl false))
  | .isTuple, [.non] => some (.val (.bl false))
  | .isTuple, [.str _] => some (.val (.bl false))
  | .isTuple, [.lst _] => some (.val (.bl false))
  | .isStr, [.str _] => some (.val (.bl true))
  | .isStr, [.bl _] => some (.val (.bl false))
  | .isStr, [.int _] => some (.val (.bl false))
  | .isStr, [.non] => some (.val (.bl false))
  | .isStr, [.tup _] => some (.val (.bl false))
  | .isStr, [.lst _] => some (.val (.bl false))
  | .isList, [.lst _] => some (.val (.bl true))
  | .isList, [.bl _] => some (.val (.bl false))
  | .isList, [.int _] => some (.val (.bl false))
  | .isList, [.non] => some (.val (.bl false))
  | .isList, [.tup _] => some (.val (.bl false))
  | .isList, [.str _] => some (.val (.bl false))
  | _, _ => none

/-- a row's cut -/
def cutD {α : Type} (xs : List α) (lo hi : Option Int) : List α := (xs.drop (HT.sIx xs.length 0 lo)).take (HT.sIx xs.length xs.length hi - HT.sIx xs.length 0 lo)

/-- things that are changed at a name -/
inductive Mm where | append | pop | extend
  deriving DecidableEq
def mutF : Mm → D → List D → Option (D × D)
  | .append, .lst xs, [v] => if xs.length < sizeLine then some (.lst (xs ++ [v]), .non) else none
  | .pop, .lst xs, [] => match xs[xs.length - 1]? with
    | some v => some (.lst xs.dropLast, v)
    | none => none
  | .extend, .lst xs, [.lst ys] => if xs.length + ys.length ≤ sizeLine then some (.lst (xs ++ ys), .non) else none
  | _, _, _ => none

inductive Tg where
  | nm (i : Nat) | tp (ts : Tg) | nil | cons (t ts : Tg)
  deriving DecidableEq

mutual
inductive E where
  | var (i : Nat) | cst (d : D)
  | neg (a : E) | bin (o : Bo) (a b : E) | cmp (o : Co) (a b : E) | chain (o p : Co) (a b c : E)
  | nt (a : E) | an (a b : E) | or (a b : E) | ite (c a b : E)
  | call (f : Nat) (es : Es) | bi (f : Bi) (es : Es)
  | tup (es : Es) | lst (es : Es) | idx (a i : E) | slc (a : E) (lo hi : Es)
  | mut (m : Mm) (i : Nat) (es : Es)
  | lc (elt : E) (t : Tg) (it : It) (c : Es) (ws : List Nat)
  | sm (m : Sm) (o : E) (es : Es) | dsp (es : Es) | dnew (t : Bool)
  | gx (isAll : Bool) (elt : E) (t : Tg) (it : It) (c : Es) (ws : List Nat)
inductive Es where
  | nil | cons (e : E) (es : Es)
inductive It where
  | of (e : E) | rng1 (a : E) | rng2 (a b : E) | rng3 (a b c : E) | enum (e : E) | zip (a b : E)
end

mutual
inductive S where
  | expr (e : E) | asg (t : Tg) (e : E) | par (i j : Nat) (a b : E) | par3 (i j k : Nat) (a b c : E)
  | setI (i : Nat) (ix e : E) | aug (i : Nat) (o : Bo) (e : E)
  | ret (e : E) | retN | iff (c : E) (a b : Ss) | whl (c : E) (b : Ss) | forr (t : Tg) (it : It) (b : Ss)
  | brk | cont | pass
  | raise (cls : Nat) (es : Es)
  | tryE (b : Ss) (cls : Nat) (nm : Option Nat) (h : Ss)
inductive Ss where
  | nil | cons (s : S) (r : Ss)
end
end Ev
end
section
set_option maxRecDepth 100000
namespace Ev
open PySem

def bindT : Tg → D → Env → Option Env
  | .nm i, d, env => if i < env.length then some (env.set i (some (.val d))) else none
  | .tp ts, .tup ds, env => bindTs ts ds env
  | .tp ts, .lst ds, env => bindTs ts ds env
  | _, _, _ => none
where bindTs : Tg → List D → Env → Option Env
  | .nil, [], env => some env
  | .cons t ts, d :: ds, env => match bindT t d env with
    | some env' => bindTs ts ds env'
    | none => none
  | _, _, _ => none

/-- a turn's end in a loop: none: the loop goes on -/
def forL (body : D → Env → Out Fl) : List D → Env → Out Fl
  | [], env => .ok .next env
  | d :: ds, env => match body d env with
    | .ok .next env' => forL body ds env'
    | .ok .cont env' => forL body ds env'
    | .ok .brk env' => .ok .next env'
    | .ok (.ret a) env' => .ok (.ret a) env'
    | .exn x env' => .exn x env'
    | .stuck => .stuck
def whlL (test : Env → Out Bool) (body : Env → Out Fl) : Nat → Env → Out Fl
  | 0, _ => .stuck
  | n + 1, env => (test env).bind fun b env' => if b then
      match body env' with
      | .ok .next e => whlL test body n e
      | .ok .cont e => whlL test body n e
      | .ok .brk e => .ok .next e
      | .ok (.ret a) e => .ok (.ret a) e
      | .exn x e => .exn x e
      | .stuck => .stuck
    else .ok .next env'
def lcL (body : D → Env → Out (Option D)) : List D → List D → Env → Out (List D)
  | [], acc, env => .ok acc env
  | d :: ds, acc, env => match body d env with
    | .ok (some y) env' => if acc.length < sizeLine then lcL body ds (acc ++ [y]) env' else .stuck
    | .ok none env' => lcL body ds acc env'
    | _ => .stuck

/-- all, any by turns: a turn gives none (filtered), or a truth -/
def gxL (isAll : Bool) (body : D → Env → Out (Option Bool)) : List D → Env → Out Bool
  | [], env => .ok isAll env
  | d :: ds, env => match body d env with
    | .ok (some c) env' => if c = isAll then gxL isAll body ds env' else .ok c env'
    | .ok none env' => gxL isAll body ds env'
    | _ => .stuck

def wipeE (env : Env) : List Nat → Env
  | [] => env
  | i :: is => (wipeE env is).set i none
/-- the slots is as they stand in old -/
def backE (old env : Env) : List Nat → Env
  | [] => env
  | i :: is => match old[i]? with
    | some s => (backE old env is).set i s
    | none => backE old env is

def rngD (lo : Int) : Nat → List D
  | 0 => []
  | n + 1 => .int lo :: rngD (lo + 1) n
def rngC (lo c : Int) : Nat → List D
  | 0 => []
  | n + 1 => .int lo :: rngC (lo + c) c n
def in62 (i : Int) : Bool := Nat.ble i.natAbs 4611686018427387903
/-- the turns of a range with a step -/
def turnsC (i j c : Int) : Nat := if 0 < c then ((j - i + c - 1) / c).toNat else ((i - j + (-c) - 1) / (-c)).toNat
def itemsOf : D → Option (List D)
  | .lst xs => some xs
  | .tup xs => some xs
  | .str s => some (s.cps.toList.map fun c => .str ⟨#[c]⟩)
  | _ => none
def enumD : Int → List D → List D
  | _, [] => []
  | i, x :: xs => .tup [.int i, x] :: enumD (i + 1) xs
def zipD : List D → List D → List D
  | x :: xs, y :: ys => .tup [x, y] :: zipD xs ys
  | _, _ => []

def freezeAll : List A → List Bool → Env → Out (List A)
  | a :: as, true :: ls, env => (freezeAll as ls env).bind fun r env' => .ok (a :: r) env'
  | a :: as, _, env => (a.freeze env).bind fun d env' => (freezeAll as [] env').bind fun r env'' => .ok (.val d :: r) env''
  | [], _, env => .ok [] env
def paramsOf : List A → Env → Option (List Sl)
  | [], _ => some []
  | a :: as, env => match (match a with
      | .val d => some (Sl.val d)
      | .tmp d => some (Sl.own d)
      | .own i => match env[i]? with
        | some (some s) => some s
        | _ => none), paramsOf as env with
    | some s, some r => some (s :: r)
    | _, _ => none
def lentOf : List A → List Nat
  | [] => []
  | .own i :: as => i :: lentOf as
  | _ :: as => lentOf as
def backOuts : List A → Env → Env → Env
  | .own i :: as, o :: os, env => backOuts as os (env.set i o)
  | _ :: as, _ :: os, env => backOuts as os env
  | _, _, env => env
def callM (F : CF) (f : Nat) (lend : List Bool) (as : List A) (env : Env) : Out A :=
  (freezeAll as lend env).bind fun as env =>
    match paramsOf as env with
    | none => .stuck
    | some ps => if (lentOf as).Nodup then
        match F f ps with
        | .ret (.own _) _ => .stuck
        | .ret r outs => .ok r (backOuts as outs env)
        | .exn x outs => .exn x (backOuts as outs env)
        | .stuck => .stuck
      else .stuck

def lookAll : List A → Env → Option (List D)
  | [], _ => some []
  | a :: as, env => match a.look env, lookAll as env with
    | some d, some ds => some (d :: ds)
    | _, _ => none

structure Par where
  F : CF
  lend : Nat → List Bool
  fuel : Nat
  np : Nat
  exm : Nat → Nat → Option Bool

mutual
def evA (P : Par) : E → M A
  | .var i => fun env => match env[i]? with
    | some (some (.val d)) => .ok (.val d) env
    | some (some (.own _)) => .ok (.own i) env
    | _ => .stuck
  | .cst d => fun env => .ok (.val d) env
  | .neg a => fun env => (evA P a env).bind fun x env => match x with
    | .val (.int i) => .ok (.val (.int (-i))) env
    | _ => .stuck
  | .bin o a b => fun env => (evA P a env).bind fun x env => (evA P b env).bind fun y env => match x.look env, y.look env with
    | some d, some e => match binF o d e with
      | some r => .ok r.a env
      | none => .stuck
    | _, _ => .stuck
  | .cmp o a b => fun env => (evA P a env).bind fun x env => (evA P b env).bind fun y env => match x.look env, y.look env with
    | some d, some e => match cmpF o d e with
      | some r => .ok (.val (.bl r)) env
      | none => .stuck
    | _, _ => .stuck
  | .chain o p a b c => fun env => (evA P a env).bind fun x env => (evA P b env).bind fun y env => match x.look env, y.look env with
    | some d, some e => match cmpF o d e with
      | some true => (evA P c env).bind fun z env => match y.look env, z.look env with
        | some e, some g => match cmpF p e g with
          | some r => .ok (.val (.bl r)) env
          | none => .stuck
        | _, _ => .stuck
      | some false => .ok (.val (.bl false)) env
      | none => .stuck
    | _, _ => .stuck
  | .nt a => fun env => (evA P a env).bind fun x env => match (x.look env).bind D.truth with
    | some b => .ok (.val (.bl (!b))) env
    | none => .stuck
  | .an a b => fun env => (evA P a env).bind fun x env => match (x.look env).bind D.truth with
    | some true => evA P b env
    | some false => .ok x env
    | none => .stuck
  | .or a b => fun env => (evA P a env).bind fun x env => match (x.look env).bind D.truth with
    | some false => evA P b env
    | some true => .ok x env
    | none => .stuck
  | .ite c a b => fun env => (evT P c env).bind fun k env => if k then evA P a env else evA P b env
  | .call f es => fun env => (evAs P es env).bind fun as env => callM P.F f (P.lend f) as env
  | .bi f es => fun env => (evAs P es env).bind fun as env => match lookAll as env with
    | some ds => match biF f ds with
      | some r => .ok r.a env
      | none => .stuck
    | none => .stuck
  | .tup es => fun env => (evVs P es env).bind fun ds env => if ds.length ≤ sizeLine then .ok (.val (.tup ds)) env else .stuck
  | .lst es => fun env => (evVs P es env).bind fun ds env => if ds.length ≤ sizeLine then .ok (.tmp (.lst ds)) env else .stuck
  | .sm m o es => fun env => (evA P o env).bind fun x env => match x with
    | .val (.str s) => (evAs P es env).bind fun as env => match lookAll as env with
      | some ds => match smF m s ds with
        | some r => .ok r.a env
        | none => .stuck
      | none => .stuck
    | _ => .stuck
  | .dsp es => fun env => (evVs P es env).bind fun ds env => match pairD ds with
    | some ps => if ps.length ≤ 15 then .ok (.tmp (.dic false (dmerge [] ps))) env else .stuck
    | none => .stuck
  | .dnew t => fun env => .ok (.tmp (.dic t [])) env
  | .idx a i => fun env => (evA P a env).bind fun x env => (evA P i env).bind fun y env => match x.look env, y.look env with
    | some d, some e => match idxF d e with
      | some r => .ok (.val r) env
      | none => .stuck
    | _, _ => .stuck
  | .slc a lo hi => fun env => (evA P a env).bind fun x env => (evO P lo env).bind fun i env => (evO P hi env).bind fun j env => match x.look env with
    | some (.lst xs) => .ok (.tmp (.lst (cutD xs i j))) env
    | some (.tup xs) => .ok (.val (.tup (cutD xs i j))) env
    | some (.str s) => if s.length ≤ sizeLine then .ok (.val (.str (L2.cutS s i j))) env else .stuck
    | _ => .stuck
  | .mut m i es => fun env => match env[i]? with
    | some (some (.own (.lst _))) => (evVs P es env).bind fun ds env => match env[i]? with
      | some (some (.own d)) => match mutF m d ds with
        | some (d', v) => .ok (.val v) (env.set i (some (.own d')))
        | none => .stuck
      | _ => .stuck
    | _ => .stuck
  | .lc elt t it c ws => fun env => (evI P it env).bind fun ds env =>
      match lcL (fun d env => match bindT t d env with
        | some env => (evC P c env).bind fun k env => if k then (evA P elt env).bind fun a env => (a.freeze env).bind fun y env => .ok (some y) (wipeE env ws) else .ok none (wipeE env ws)
        | none => .stuck) ds [] (wipeE env ws) with
      | .ok ys env' => .ok (.tmp (.lst ys)) (backE env env' ws)
      | _ => .stuck
  | .gx isAll elt t it c ws => fun env => (evI P it env).bind fun ds env =>
      match gxL isAll (fun d env => match bindT t d env with
        | some env => (evC P c env).bind fun k env => if k then (evA P elt env).bind fun a env => match a with
          | .val (.bl b) => .ok (some b) (wipeE env ws)
          | _ => .stuck
          else .ok none (wipeE env ws)
        | none => .stuck) ds (wipeE env ws) with
      | .ok b env' => .ok (.val (.bl b)) (backE env env' ws)
      | _ => .stuck
def evT (P : Par) : E → M Bool
  | .nt a => fun env => (evT P a env).bind fun k env => .ok (!k) env
  | .an a b => fun env => (evT P a env).bind fun k env => if k then evT P b env else .ok false env
  | .or a b => fun env => (evT P a env).bind fun k env => if k then .ok true env else evT P b env
  | .ite c a b => fun env => (evT P c env).bind fun k env => if k then evT P a env else evT P b env
  | e => fun env => (evA P e env).bind fun x env => match (x.look env).bind D.truth with
    | some b => .ok b env
    | none => .stuck
/-- a part of a slice -/
def evO (P : Par) : Es → M (Option Int)
  | .nil => fun env => .ok none env
  | .cons e _ => fun env => (evA P e env).bind fun a env => match a with
    | .val (.int i) => .ok (some i) env
    | _ => .stuck
/-- a clause's tests -/
def evC (P : Par) : Es → M Bool
  | .nil => fun env => .ok true env
  | .cons e _ => evT P e
def evAs (P : Par) : Es → M (List A)
  | .nil => fun env => .ok [] env
  | .cons e es => fun env => (evA P e env).bind fun a env => (evAs P es env).bind fun as env => .ok (a :: as) env
def evVs (P : Par) : Es → M (List D)
  | .nil => fun env => .ok [] env
  | .cons e es => fun env => (evA P e env).bind fun a env => (a.freeze env).bind fun d env => (evVs P es env).bind fun ds env => .ok (d :: ds) env
def evI (P : Par) : It → M (List D)
  | .of e => fun env => (evA P e env).bind fun a env => (a.freeze env).bind fun d env => match itemsOf d with
    | some ds => .ok ds env
    | none => .stuck
  | .rng1 a => fun env => (evA P a env).bind fun x env => match x with
    | .val (.int j) => if in62 j then .ok (rngD 0 j.toNat) env else .stuck
    | _ => .stuck
  | .rng2 a b => fun env => (evA P a env).bind fun x env => (evA P b env).bind fun y env => match x, y with
    | .val (.int i), .val (.int j) => if in62 i && in62 j then .ok (rngD i (j - i).toNat) env else .stuck
    | _, _ => .stuck
  | .rng3 a b c => fun env => (evA P a env).bind fun x env => (evA P b env).bind fun y env => (evA P c env).bind fun z env => match x, y, z with
    | .val (.int i), .val (.int j), .val (.int k) => if in62 i && in62 j && decide (k ≠ 0) && decide (k.natAbs < 1073741824) then .ok (rngC i k (turnsC i j k)) env else .stuck
    | _, _, _ => .stuck
  | .enum e => fun env => (evA P e env).bind fun a env => (a.freeze env).bind fun d env => match d with
    | .lst ds => .ok (enumD 0 ds) env
    | .tup ds => .ok (enumD 0 ds) env
    | _ => .stuck
  | .zip a b => fun env => (evA P a env).bind fun x env => (x.freeze env).bind fun d env => (evA P b env).bind fun y env => (y.freeze env).bind fun e env => match itemsOf d, itemsOf e with
    | some xs, some ys => .ok (zipD xs ys) env
    | _, _ => .stuck
end

mutual
def evS (P : Par) : S → M Fl
  | .expr e => fun env => (evA P e env).bind fun _ env => .ok .next env
  | .asg t e => fun env => (evA P e env).bind fun a env => match t, a with
    | .nm i, .tmp d => if i < env.length then .ok .next (env.set i (some (.own d))) else .stuck
    | t, a => (a.freeze env).bind fun d env => match bindT t d env with
      | some env => .ok .next env
      | none => .stuck
  | .par i j a b => fun env => (evA P a env).bind fun x env => (x.freeze env).bind fun d env => (evA P b env).bind fun y env => (y.freeze env).bind fun e env =>
      if i < env.length ∧ j < env.length then .ok .next ((env.set i (some (.val d))).set j (some (.val e))) else .stuck
  | .par3 i j k a b c => fun env => (evA P a env).bind fun x env => (x.freeze env).bind fun d env => (evA P b env).bind fun y env => (y.freeze env).bind fun e env => (evA P c env).bind fun z env => (z.freeze env).bind fun g env =>
      if i < env.length ∧ j < env.length ∧ k < env.length then .ok .next (((env.set i (some (.val d))).set j (some (.val e))).set k (some (.val g))) else .stuck
  | .setI i ix e => fun env => match env[i]? with
    | some (some (.own _)) => (evA P e env).bind fun a env => (a.freeze env).bind fun d env => (evA P ix env).bind fun y env => match y.look env, env[i]? with
      | some x, some (some (.own o)) => match setF o x d with
        | some o' => .ok .next (env.set i (some (.own o')))
        | none => .stuck
      | _, _ => .stuck
    | _ => .stuck
  | .aug i o e => fun env => match env[i]? with
    | some (some (.val d)) => (evA P e env).bind fun y env => match y.look env with
      | some g => match augF o d g with
        | some r => .ok .next (env.set i (some (.val r)))
        | none => .stuck
      | none => .stuck
    | _ => .stuck
  | .ret e => fun env => (evA P e env).bind fun a env => match a with
    | .own i => if i < P.np then (a.freeze env).bind fun d env => .ok (.ret (.val d)) env else match env[i]? with
      | some (some (.own d)) => .ok (.ret (.tmp d)) (env.set i none)
      | _ => .stuck
    | a => .ok (.ret a) env
  | .retN => fun env => .ok (.ret (.val .non)) env
  | .iff c a b => fun env => (evT P c env).bind fun k env => if k then evSs P a env else evSs P b env
  | .whl c b => whlL (evT P c) (evSs P b) P.fuel
  | .forr t it b => fun env => (evI P it env).bind fun ds env => forL (fun d env => match bindT t d env with
      | some env => evSs P b env
      | none => .stuck) ds env
  | .brk => fun env => .ok .brk env
  | .cont => fun env => .ok .cont env
  | .pass => fun env => .ok .next env
  | .raise c es => fun env => (evVs P es env).bind fun ds env => match ds with
    | [] => .exn ⟨c, none⟩ env
    | [d] => .exn ⟨c, some d⟩ env
    | _ => .stuck
  | .tryE b c nm h => fun env => match evSs P b env with
    | .exn x env' => match P.exm x.cls c, nm with
      | some true, none => match evSs P h env' with
        | .exn _ _ => .stuck
        | o => o
      | some false, _ => .exn x env'
      | _, _ => .stuck
    | o => o
def evSs (P : Par) : Ss → M Fl
  | .nil => fun env => .ok .next env
  | .cons s r => fun env => match evS P s env with
    | .ok .next env' => evSs P r env'
    | o => o
end
/-- a def: its parameters, its slots, which parameters are never stored, its body -/
structure Fn where
  np : Nat
  n : Nat
  lend : List Bool
  body : Ss
/-- what the parameters that are never stored hold -/
def maskO : List Bool → Env → Env
  | true :: ls, s :: env => s :: maskO ls env
  | _ :: ls, _ :: env => none :: maskO ls env
  | _ :: ls, [] => none :: maskO ls []
  | [], _ => []
/-- the program's calls, by level -/
def callF (fs : List Fn) (exm : Nat → Nat → Option Bool) (fuel : Nat) : Nat → CF
  | 0 => fun _ _ => .stuck
  | k + 1 => fun f ps => match fs[f]? with
    | none => .stuck
    | some fn => if ps.length = fn.np then
        match evSs ⟨callF fs exm fuel k, fun g => (fs[g]?.map (·.lend)).getD [], fuel, fn.np, exm⟩ fn.body (ps.map some ++ List.replicate (fn.n - fn.np) none) with
        | .ok (.ret (.own _)) _ => .stuck
        | .ok (.ret a) env => .ret a (maskO fn.lend env)
        | .ok .next env => .ret (.val .non) (maskO fn.lend env)
        | .ok _ _ => .stuck
        | .exn x env => .exn x (maskO fn.lend env)
        | .stuck => .stuck
      else .stuck
end Ev
end
section
set_option maxRecDepth 100000
namespace Ev
open PySem PySem.Spec L2

/-- the program's own things -/
structure Glob where
  P : Program
  w : World
  K : PySem.W.Frag
  mg : Str → Option Value
  base : Heap
  /-- an exception's class -/
  exc : Nat → Option Addr
  /-- the tables of code -/
  tabs : List Addr

def TblOk (o : HO) : Prop := ∃ ps : Array Value, o = .tbl ps ∧ TriplesOk ps.toList

/-- from H to H' things at W alone are changed, W' are W's or new -/
structure Stp (W : Addr → Prop) (H : Hp) (W' : Addr → Prop) (H' : Hp) : Prop where
  keep : ∀ a o, H a = some o → ¬ W a → H' a = some o ∨ (TblOk o ∧ ∃ o', H' a = some o' ∧ TblOk o')
  tups : ∀ a vs, H a = some (.tup vs) → H' a = some (.tup vs)
  frzs : ∀ a o u, H a = some (.frz o u) → H' a = some (.frz o u)
  sub : ∀ a, W' a → W a ∨ H a = none
  there : ∀ a o, H a = some o → ∃ o', H' a = some o'

/-- a row that nobody may write: the caller's, or one of the program's own -/
def SqF (K : PySem.W.Frag) (H : Hp) (a : Addr) (vs : List V) : Prop :=
  (∃ o, H a = some (.frz o (.lst vs))) ∨ ∃ (o : Obj) (its : Array Value) (n : Nat), K.lookup a = some o ∧ o.cls = .type "list" ∧ o.dict = none ∧ o.data = .seq its n ∧ its.size ≤ sizeLine ∧ Vals vs its.toList
theorem SqF.sql {K : PySem.W.Frag} {H : Hp} {a : Addr} {vs : List V} (h : SqF K H a vs) : SqL K H a vs := by
  rcases h with ⟨o, h⟩ | h
  · exact .inl (.inr ⟨o, h⟩)
  · exact .inr h
/-- a dict's key: an int or a text; a tuple of such -/
def D.key : D → Option Key
  | .int i => some (.inl i)
  | .str s => some (.inr s)
  | _ => none
def keysD : List D → Option (List Key)
  | [] => some []
  | d :: ds => match d.key, keysD ds with
    | some k, some ks => some (k :: ks)
    | _, _ => none
def D.tkey : D → Option (List Key)
  | .tup ds => keysD ds
  | _ => none
/-- a thing that may be written -/
def MutO (o : HO) : Prop := (∃ vs, o = .lst vs) ∨ (∃ l, o = .dK l) ∨ ∃ l, o = .dT l
theorem MutO.ntab {o : HO} (m : MutO o) : ¬ TblOk o := fun ⟨ps, e, _⟩ => by
  rcases m with ⟨_, z⟩ | ⟨_, z⟩ | ⟨_, z⟩ <;> (rw [z] at e; cases e)
theorem MutO.ntup {o : HO} (m : MutO o) (vs : List V) : o ≠ .tup vs := fun e => by
  rcases m with ⟨_, z⟩ | ⟨_, z⟩ | ⟨_, z⟩ <;> (rw [z] at e; cases e)
theorem MutO.nfrz {o : HO} (m : MutO o) (x : Obj) (u : HO) : o ≠ .frz x u := fun e => by
  rcases m with ⟨_, z⟩ | ⟨_, z⟩ | ⟨_, z⟩ <;> (rw [z] at e; cases e)
mutual
inductive Rep (Γ : Glob) (O : Addr → Prop) (H : Hp) : V → D → Prop
  | non : Rep Γ O H .non .non
  | bl (b : Bool) : Rep Γ O H (.bl b) (.bl b)
  | int (i : Int) : Rep Γ O H (.int i) (.int i)
  | str (x : Str) : Rep Γ O H (.str x) (.str x)
  | lst {a : Addr} {vs : List V} {ds : List D} : H a = some (.lst vs) → ¬ O a → Reps Γ O H vs ds → Rep Γ O H (.ref a) (.lst ds)
  | frz {a : Addr} {vs : List V} {ds : List D} : SqF Γ.K H a vs → Reps Γ O H vs ds → Rep Γ O H (.ref a) (.frz ds)
  | tup {a : Addr} {vs : List V} {ds : List D} : H a = some (.tup vs) → Reps Γ O H vs ds → Rep Γ O H (.ref a) (.tup ds)
  | dicK {a : Addr} {l : List (Key × V)} {kvs : List (D × D)} : H a = some (.dK l) → ¬ O a → RepK Γ O H l kvs → Rep Γ O H (.ref a) (.dic false kvs)
  | dicT {a : Addr} {l : List (List Key × V)} {kvs : List (D × D)} : H a = some (.dT l) → ¬ O a → RepT Γ O H l kvs → Rep Γ O H (.ref a) (.dic true kvs)
inductive Reps (Γ : Glob) (O : Addr → Prop) (H : Hp) : List V → List D → Prop
  | nil : Reps Γ O H [] []
  | cons {v : V} {vs : List V} {d : D} {ds : List D} : Rep Γ O H v d → Reps Γ O H vs ds → Reps Γ O H (v :: vs) (d :: ds)
inductive RepK (Γ : Glob) (O : Addr → Prop) (H : Hp) : List (Key × V) → List (D × D) → Prop
  | nil : RepK Γ O H [] []
  | cons {k : Key} {v : V} {l : List (Key × V)} {dk d : D} {kvs : List (D × D)} : D.key dk = some k → Rep Γ O H v d → RepK Γ O H l kvs → RepK Γ O H ((k, v) :: l) ((dk, d) :: kvs)
inductive RepT (Γ : Glob) (O : Addr → Prop) (H : Hp) : List (List Key × V) → List (D × D) → Prop
  | nil : RepT Γ O H [] []
  | cons {k : List Key} {v : V} {l : List (List Key × V)} {dk d : D} {kvs : List (D × D)} : D.tkey dk = some k → Rep Γ O H v d → RepT Γ O H l kvs → RepT Γ O H ((k, v) :: l) ((dk, d) :: kvs)
end

section
variable {Γ : Glob} {O O' W W1 W2 W' V' : Addr → Prop} {H H1 H2 H' : Hp} {v : V} {vs : List V} {d : D} {ds : List D} {a : Addr}

theorem Stp.refl (W : Addr → Prop) (H : Hp) : Stp W H W H :=
  ⟨fun _ _ e _ => .inl e, fun _ _ e => e, fun _ _ _ e => e, fun _ h => .inl h, fun _ o e => ⟨o, e⟩⟩
theorem TblOk.ne_lst {vs : List V} (h : TblOk (.lst vs)) : False := by
  obtain ⟨_, e, _⟩ := h
  cases e
theorem Stp.lst (s : Stp W H W' H') {vs : List V} (h : H a = some (.lst vs)) (n : ¬ W a) : H' a = some (.lst vs) := by
  rcases s.keep a _ h n with e | ⟨t, _⟩
  · exact e
  · exact t.ne_lst.elim
theorem Stp.mu (s : Stp W H W' H') {o : HO} (h : H a = some o) (m : MutO o) (n : ¬ W a) : H' a = some o := by
  rcases s.keep a _ h n with e | ⟨t, _⟩
  · exact e
  · exact (m.ntab t).elim
theorem Stp.comp (s : Stp W H W1 H1) (t : Stp V' H1 W2 H2) (h : ∀ a, V' a → W1 a) : Stp W H W2 H2 where
  keep := fun a o e n => by
    have nv : ¬ V' a := fun z => by
      rcases s.sub a (h a z) with y | y
      · exact n y
      · rw [e] at y; cases y
    rcases s.keep a o e n with e1 | ⟨t1, o1, e1, t2⟩
    · exact t.keep a o e1 nv
    · rcases t.keep a o1 e1 nv with e2 | ⟨t3, o2, e2, t4⟩
      · exact .inr ⟨t1, o1, e2, t2⟩
      · exact .inr ⟨t1, o2, e2, t4⟩
  tups := fun a vs e => t.tups a vs (s.tups a vs e)
  frzs := fun a o u e => t.frzs a o u (s.frzs a o u e)
  sub := fun a h2 => by
    rcases t.sub a h2 with y | y
    · exact s.sub a (h a y)
    · right
      cases e : H a with
      | none => rfl
      | some o =>
        obtain ⟨o', e'⟩ := s.there a o e
        rw [y] at e'; cases e'
  there := fun a o e => by
    obtain ⟨o1, e1⟩ := s.there a o e
    exact t.there a o1 e1
theorem Stp.mono (s : Stp W H W' H') (h : ∀ a, W a → W1 a) (h' : ∀ a, W2 a → W' a ∨ W1 a ∨ H a = none) : Stp W1 H W2 H' :=
  ⟨fun a o e n => s.keep a o e fun z => n (h a z), s.tups, s.frzs, fun a z => by
    rcases h' a z with y | y | y
    · exact (s.sub a y).imp (h a) id
    · exact .inl y
    · exact .inr y, s.there⟩
theorem Stp.shr (s : Stp W H W' H') (h' : ∀ a, W2 a → W' a) : Stp W H W2 H' := s.mono (fun _ z => z) fun a z => .inl (h' a z)
/-- a new object -/
theorem Stp.new {p : Addr} {o : HO} (hp : H p = none) : Stp W H (fun b => W b ∨ b = p) (upd H p o) :=
  ⟨fun a o' e _ => .inl (by rw [upd_ne (ne_of_none e hp)]; exact e), fun a vs e => by rw [upd_ne (ne_of_none e hp)]; exact e, fun a o' u e => by rw [upd_ne (ne_of_none e hp)]; exact e,
    fun a z => z.imp id fun y => by rw [y]; exact hp, fun a o' e => ⟨o', by rw [upd_ne (ne_of_none e hp)]; exact e⟩⟩
/-- an owned list is written -/
theorem Stp.set {p : Addr} {vs ws : List V} (hp : H p = some (.lst vs)) (hW : W p) : Stp W H W (upd H p (.lst ws)) :=
  ⟨fun a o' e n => .inl (by rw [upd_ne (fun z => n (by rw [z]; exact hW))]; exact e),
   fun a us e => by rw [upd_ne (fun z => by rw [z, hp] at e; cases e)]; exact e,
   fun a o u e => by rw [upd_ne (fun z => by rw [z, hp] at e; cases e)]; exact e,
   fun a z => .inl z, fun a o e => by
     by_cases q : a = p
     · rw [q]; exact ⟨_, upd_same⟩
     · exact ⟨o, by rw [upd_ne q]; exact e⟩⟩

/-- a thing that is written -/
theorem Stp.setO {p : Addr} {o o' : HO} (hp : H p = some o) (m : MutO o) (hW : W p) : Stp W H W (upd H p o') :=
  ⟨fun a u e n => .inl (by rw [upd_ne (fun z => n (by rw [z]; exact hW))]; exact e),
   fun a us e => by rw [upd_ne (fun z => by rw [z, hp] at e; exact m.ntup us (Option.some.inj e))]; exact e,
   fun a x u e => by rw [upd_ne (fun z => by rw [z, hp] at e; exact m.nfrz x u (Option.some.inj e))]; exact e,
   fun a z => .inl z, fun a u e => by
     by_cases q : a = p
     · rw [q]; exact ⟨_, upd_same⟩
     · exact ⟨u, by rw [upd_ne q]; exact e⟩⟩
theorem Rd_stp {vs : List V} (s : Stp O H O' H') (n : ¬ O a) (r : Rd H a (.lst vs)) : Rd H' a (.lst vs) := by
  rcases r with r | ⟨o, r⟩
  · exact .inl (s.lst r n)
  · exact .inr ⟨o, s.frzs a o _ r⟩
theorem Rd_some {u : HO} (r : Rd H a u) : ∃ o, H a = some o := by
  rcases r with r | ⟨o, r⟩ <;> exact ⟨_, r⟩
theorem SqT_stp {K : PySem.W.Frag} {vs : List V} (s : Stp O H O' H') (r : SqT K H a vs) : SqT K H' a vs := by
  rcases r with (r | ⟨o, r⟩) | r
  · exact .inl (.inl (s.tups a vs r))
  · exact .inl (.inr ⟨o, s.frzs a o _ r⟩)
  · exact .inr r
theorem SqF_stp {K : PySem.W.Frag} {vs : List V} (s : Stp O H O' H') (r : SqF K H a vs) : SqF K H' a vs := by
  rcases r with ⟨o, r⟩ | r
  · exact .inl ⟨o, s.frzs a o _ r⟩
  · exact .inr r
theorem Stp.nin (s : Stp O H O' H') {o : HO} (e : H a = some o) (n : ¬ O a) : ¬ O' a := fun z => by
  rcases s.sub a z with y | y
  · exact n y
  · rw [e] at y; cases y
mutual
theorem Rep.stp (s : Stp O H O' H') : ∀ {v : V} {d : D}, Rep Γ O H v d → Rep Γ O' H' v d
  | _, _, .non => .non
  | _, _, .bl b => .bl b
  | _, _, .int i => .int i
  | _, _, .str x => .str x
  | _, _, .lst r n rs => .lst (s.lst r n) (s.nin r n) (Reps.stp s rs)
  | _, _, .frz r rs => .frz (SqF_stp s r) (Reps.stp s rs)
  | _, _, .tup r rs => .tup (s.tups _ _ r) (Reps.stp s rs)
  | _, _, .dicK r n rs => .dicK (s.mu r (.inr (.inl ⟨_, rfl⟩)) n) (s.nin r n) (RepK.stp s rs)
  | _, _, .dicT r n rs => .dicT (s.mu r (.inr (.inr ⟨_, rfl⟩)) n) (s.nin r n) (RepT.stp s rs)
theorem Reps.stp (s : Stp O H O' H') : ∀ {vs : List V} {ds : List D}, Reps Γ O H vs ds → Reps Γ O' H' vs ds
  | _, _, .nil => .nil
  | _, _, .cons r rs => .cons (Rep.stp s r) (Reps.stp s rs)
theorem RepK.stp (s : Stp O H O' H') : ∀ {l : List (Key × V)} {kvs : List (D × D)}, RepK Γ O H l kvs → RepK Γ O' H' l kvs
  | _, _, .nil => .nil
  | _, _, .cons e r rs => .cons e (Rep.stp s r) (RepK.stp s rs)
theorem RepT.stp (s : Stp O H O' H') : ∀ {l : List (List Key × V)} {kvs : List (D × D)}, RepT Γ O H l kvs → RepT Γ O' H' l kvs
  | _, _, .nil => .nil
  | _, _, .cons e r rs => .cons e (Rep.stp s r) (RepT.stp s rs)
end
/-- fewer that may change -/
theorem Rep.less (h : ∀ a, O' a → O a) (r : Rep Γ O H v d) : Rep Γ O' H v d := r.stp ((Stp.refl O H).shr h)
theorem Reps.less (h : ∀ a, O' a → O a) (r : Reps Γ O H vs ds) : Reps Γ O' H vs ds := r.stp ((Stp.refl O H).shr h)
theorem Reps.length : ∀ {vs : List V} {ds : List D}, Reps Γ O H vs ds → vs.length = ds.length
  | _, _, .nil => rfl
  | _, _, .cons _ r => by simp [Reps.length r]
theorem Reps.get : ∀ {vs : List V} {ds : List D} {i : Nat} {d : D}, Reps Γ O H vs ds → ds[i]? = some d → ∃ v, vs[i]? = some v ∧ Rep Γ O H v d
  | _, _, _, _, .nil, e => by simp at e
  | _, _, 0, _, .cons r _, e => by simp at e; subst e; exact ⟨_, rfl, r⟩
  | _, _, i + 1, d, .cons _ t, e => by
    obtain ⟨u, h1, h2⟩ := Reps.get (i := i) (d := d) t (by simpa using e)
    exact ⟨u, by simpa using h1, h2⟩
theorem Reps.append : ∀ {vs ws : List V} {ds es : List D}, Reps Γ O H vs ds → Reps Γ O H ws es → Reps Γ O H (vs ++ ws) (ds ++ es)
  | _, _, _, _, .nil, s => s
  | _, _, _, _, .cons r t, s => .cons r (Reps.append t s)
theorem Reps.take : ∀ {vs : List V} {ds : List D} (n : Nat), Reps Γ O H vs ds → Reps Γ O H (vs.take n) (ds.take n)
  | _, _, 0, _ => .nil
  | _, _, _ + 1, .nil => .nil
  | _, _, n + 1, .cons r t => .cons r (Reps.take n t)
theorem Reps.drop : ∀ {vs : List V} {ds : List D} (n : Nat), Reps Γ O H vs ds → Reps Γ O H (vs.drop n) (ds.drop n)
  | _, _, 0, r => r
  | _, _, _ + 1, .nil => .nil
  | _, _, n + 1, .cons _ t => Reps.drop n t
theorem Reps.set {v : V} {d : D} (r : Rep Γ O H v d) : ∀ {vs : List V} {ds : List D} (i : Nat), Reps Γ O H vs ds → Reps Γ O H (vs.set i v) (ds.set i d)
  | _, _, _, .nil => .nil
  | _, _, 0, .cons _ t => .cons r t
  | _, _, i + 1, .cons q t => .cons q (Reps.set r i t)

/-- what an owned thing holds -/
def Body (Γ : Glob) (O : Addr → Prop) (H : Hp) (a : Addr) (d : D) : Prop :=
  match d with
  | .lst ds => ∃ vs, H a = some (.lst vs) ∧ Reps Γ O H vs ds
  | .dic false kvs => ∃ l, H a = some (.dK l) ∧ RepK Γ O H l kvs
  | .dic true kvs => ∃ l, H a = some (.dT l) ∧ RepT Γ O H l kvs
  | _ => False
/-- by its three kinds -/
theorem Body.cs {motive : Prop} (b : Body Γ O H a d) (h1 : ∀ ds vs, d = .lst ds → H a = some (.lst vs) → Reps Γ O H vs ds → motive)
    (h2 : ∀ kvs l, d = .dic false kvs → H a = some (.dK l) → RepK Γ O H l kvs → motive) (h3 : ∀ kvs l, d = .dic true kvs → H a = some (.dT l) → RepT Γ O H l kvs → motive) : motive := by
  unfold Body at b
  split at b
  · obtain ⟨vs, e, r⟩ := b; exact h1 _ vs rfl e r
  · obtain ⟨l, e, r⟩ := b; exact h2 _ l rfl e r
  · obtain ⟨l, e, r⟩ := b; exact h3 _ l rfl e r
  · exact b.elim
theorem Body_mut (b : Body Γ O H a d) : ∃ o, H a = some o ∧ MutO o :=
  b.cs (fun _ vs _ e _ => ⟨_, e, .inl ⟨vs, rfl⟩⟩) (fun _ l _ e _ => ⟨_, e, .inr (.inl ⟨l, rfl⟩)⟩) fun _ l _ e _ => ⟨_, e, .inr (.inr ⟨l, rfl⟩)⟩
theorem Body_some (b : Body Γ O H a d) : ∃ o, H a = some o := let ⟨o, e, _⟩ := Body_mut b; ⟨o, e⟩
theorem Body.stp (b : Body Γ O H a d) (s : Stp O H O' H') (h : ∀ o, MutO o → H a = some o → H' a = some o) : Body Γ O' H' a d :=
  b.cs (fun ds vs e1 e r => by subst e1; exact ⟨vs, h _ (.inl ⟨vs, rfl⟩) e, Reps.stp s r⟩) (fun kvs l e1 e r => by subst e1; exact ⟨l, h _ (.inr (.inl ⟨l, rfl⟩)) e, RepK.stp s r⟩)
    fun kvs l e1 e r => by subst e1; exact ⟨l, h _ (.inr (.inr ⟨l, rfl⟩)) e, RepT.stp s r⟩
theorem Body.less (h : ∀ a, O' a → O a) (b : Body Γ O H a d) : Body Γ O' H a d := b.stp ((Stp.refl O H).shr h) fun _ _ e => e
theorem RepK.less (h : ∀ a, O' a → O a) {l : List (Key × V)} {kvs : List (D × D)} (r : RepK Γ O H l kvs) : RepK Γ O' H l kvs := r.stp ((Stp.refl O H).shr h)
theorem RepT.less (h : ∀ a, O' a → O a) {l : List (List Key × V)} {kvs : List (D × D)} (r : RepT Γ O H l kvs) : RepT Γ O' H l kvs := r.stp ((Stp.refl O H).shr h)
theorem Body.rep (b : Body Γ O H a d) (h : ∀ b, O' b → O b) (n : ¬ O' a) : Rep Γ O' H (.ref a) d :=
  b.cs (fun ds vs e1 e r => by subst e1; exact Rep.lst e n (Reps.less h r)) (fun kvs l e1 e r => by subst e1; exact Rep.dicK e n (RepK.less h r)) fun kvs l e1 e r => by subst e1; exact Rep.dicT e n (RepT.less h r)
end

/-! ### the slots -/
def Own (env : Env) (σ : St) (a : Addr) : Prop := ∃ (i : Nat) (d : D), env[i]? = some (some (Sl.own d)) ∧ σ[i]? = some (some (V.ref a))
def TabsOk (Γ : Glob) (H : Hp) : Prop := ∀ P ∈ Γ.tabs, ∃ o, H P = some o ∧ TblOk o
structure RE (Γ : Glob) (U : Addr → Prop) (env : Env) (σ : St) (H : Hp) : Prop where
  len : env.length = σ.length
  val : ∀ (i : Nat) (d : D), env[i]? = some (some (Sl.val d)) → ∃ v, σ[i]? = some (some v) ∧ Rep Γ (fun b => U b ∨ Own env σ b) H v d
  own : ∀ (i : Nat) (d : D), env[i]? = some (some (Sl.own d)) → ∃ a, σ[i]? = some (some (V.ref a)) ∧ ¬ U a ∧ Body Γ (fun b => U b ∨ Own env σ b) H a d
  sep : ∀ (i j : Nat) (a : Addr) (d e : D), env[i]? = some (some (Sl.own d)) → env[j]? = some (some (Sl.own e)) → σ[i]? = some (some (V.ref a)) → σ[j]? = some (some (V.ref a)) → i = j
  tabs : TabsOk Γ H
  uth : ∀ b, U b → ∃ o, H b = some o
def isTmp (a : A) (v : V) (b : Addr) : Prop :=
  match a, v with
  | .tmp _, .ref p => b = p
  | _, _ => False
def UA (U : Addr → Prop) (a : A) (v : V) (b : Addr) : Prop := U b ∨ isTmp a v b
/-- a thing in hand: O all that may change -/
def RA (Γ : Glob) (U O : Addr → Prop) (σ : St) (H : Hp) (a : A) (v : V) : Prop :=
  match a with
  | .val d => Rep Γ O H v d
  | .own i => σ[i]? = some (some v)
  | .tmp d => ∃ p, v = .ref p ∧ ¬ U p ∧ Body Γ O H p d
/-- behind an expression -/
structure Post (Γ : Glob) (U : Addr → Prop) (env : Env) (σ : St) (H : Hp) (a : A) (env' : Env) (v : V) (H' : Hp) : Prop where
  re : RE Γ (UA U a v) env' σ H'
  ra : RA Γ U (fun b => UA U a v b ∨ Own env' σ b) σ H' a v
  st : Stp (Own env σ) H (fun b => Own env' σ b ∨ isTmp a v b) H'
def XR (Γ : Glob) (x : Exn) (cls : Value) (d : Option Addr) (H : Hp) : Prop := (∃ C, Γ.exc x.cls = some C ∧ cls = .ref C) ∧ x.fld.isNone ∧ d = none
structure XPost (Γ : Glob) (U : Addr → Prop) (env : Env) (σ : St) (H : Hp) (x : Exn) (env' : Env) (cls : Value) (d : Option Addr) (H' : Hp) : Prop where
  re : RE Γ U env' σ H'
  xr : XR Γ x cls d H'
  st : Stp (Own env σ) H (Own env' σ) H'
/-- a wanted end -/
def Wp {α : Type} (o : Out α) (ok : α → Env → Prop) (ex : Exn → Env → Prop) : Prop :=
  match o with
  | .ok a e => ok a e
  | .exn x e => ex x e
  | .stuck => False
theorem Wp.bind {α β : Type} {o : Out α} {k : α → Env → Out β} {ok : β → Env → Prop} {ex : Exn → Env → Prop} : Wp (o.bind k) ok ex ↔ Wp o (fun a e => Wp (k a e) ok ex) ex := by
  cases o <;> exact Iff.rfl
theorem Wp.mono {α : Type} {o : Out α} {ok ok' : α → Env → Prop} {ex ex' : Exn → Env → Prop} (h : Wp o ok ex) (h1 : ∀ a e, ok a e → ok' a e) (h2 : ∀ x e, ex x e → ex' x e) : Wp o ok' ex' := by
  cases o with
  | ok a e => exact h1 _ _ h
  | exn x e => exact h2 _ _ h
  | stuck => exact h
def tE (Γ : Glob) (m : M A) (W : WX) : TE := fun σ H Q => ∃ U env, RE Γ U env σ H ∧
  Wp (m env) (fun a env' => ∀ v H', Post Γ U env σ H a env' v H' → Q v H') fun x env' => ∀ cls d H', XPost Γ U env σ H x env' cls d H' → W cls d σ H'
theorem Wp.eqn {α : Type} {o : Out α} {ok : α → Env → Prop} {ex : Exn → Env → Prop} (h : Wp o ok ex) : Wp o (fun a e => ok a e ∧ o = .ok a e) ex := by
  cases o with
  | ok a e => exact ⟨h, rfl⟩
  | exn x e => exact h
  | stuck => exact h
/-- e does what m says -/
def QE (Γ : Glob) (X : Cx) (e : Expr) (m : M A) : Prop := ∀ (xe : Value → Shared → Prop) (W : WX), Takes (X.wish xe) W → PE (X.wish xe) e (tE Γ m W)
def tT (Γ : Glob) (m : M Bool) (W : WX) : TT := fun σ H Q => ∃ U env, RE Γ U env σ H ∧
  Wp (m env) (fun b env' => ∀ H', Post Γ U env σ H (.val (.bl b)) env' (.bl b) H' → Q b H') fun x env' => ∀ cls d H', XPost Γ U env σ H x env' cls d H' → W cls d σ H'
def QT (Γ : Glob) (X : Cx) (e : Expr) (m : M Bool) : Prop := ∀ (xe : Value → Shared → Prop) (W : WX), Takes (X.wish xe) W → PT (X.wish xe) e (tT Γ m W)

section
variable {Γ : Glob} {U U' : Addr → Prop} {env env' env2 : Env} {σ : St} {H H1 H2 H' : Hp} {a : A} {v : V} {d : D}
theorem RE.less (r : RE Γ U env σ H) (h : ∀ a, U' a → U a) : RE Γ U' env σ H :=
  ⟨r.len, fun i d e => by
    obtain ⟨v, e1, q⟩ := r.val i d e
    exact ⟨v, e1, q.less fun a z => z.imp (h a) id⟩,
   fun i d e => by
    obtain ⟨a, e1, n, q⟩ := r.own i d e
    exact ⟨a, e1, fun z => n (h a z), q.less fun a z => z.imp (h a) id⟩, r.sep, r.tabs, fun b z => r.uth b (h b z)⟩
theorem TabsOk.stp {W W' : Addr → Prop} (t : TabsOk Γ H) (s : Stp W H W' H') (h : ∀ P ∈ Γ.tabs, ¬ W P) : TabsOk Γ H' := fun P hP => by
  obtain ⟨o, e, q⟩ := t P hP
  rcases s.keep P o e (h P hP) with e1 | ⟨_, o1, e1, q1⟩
  · exact ⟨o, e1, q⟩
  · exact ⟨o1, e1, q1⟩
theorem RE.tabN (r : RE Γ U env σ H) : ∀ P ∈ Γ.tabs, ¬ Own env σ P := fun P hP ⟨i, d, e1, e2⟩ => by
  obtain ⟨a, e3, _, b⟩ := r.own i d e1
  rw [e2] at e3
  cases e3
  obtain ⟨o, e, q⟩ := r.tabs P hP
  obtain ⟨o2, z, m⟩ := Body_mut b
  rw [e] at z
  cases z
  exact m.ntab q
/-- the slots stand, other things than theirs change -/
theorem RE.stp (r : RE Γ U env σ H) (s : Stp (fun _ => False) H (fun b => U' b ∧ ¬ U b) H') (hU : ∀ b, U b → U' b) (hT : ∀ b, U' b → ∃ o, H' b = some o) : RE Γ U' env σ H' := by
  have sO : Stp (fun b => U b ∨ Own env σ b) H (fun b => U' b ∨ Own env σ b) H' := s.mono (fun _ z => z.elim) fun b z => by
    rcases z with z | z
    · by_cases u : U b
      · exact .inr (.inl (.inl u))
      · exact .inl ⟨z, u⟩
    · exact .inr (.inl (.inr z))
  refine ⟨r.len, fun i d e => ?_, fun i d e => ?_, r.sep, r.tabs.stp s (fun _ _ z => z), hT⟩
  · obtain ⟨v, e1, q⟩ := r.val i d e
    exact ⟨v, e1, q.stp sO⟩
  · obtain ⟨a, e1, n, q⟩ := r.own i d e
    obtain ⟨o, eo⟩ := Body_some q
    refine ⟨a, e1, fun z => ?_, q.stp sO fun o m z => s.mu z m fun z => z⟩
    rcases s.sub a ⟨z, n⟩ with y | y
    · exact y
    · rw [eo] at y; cases y
end
end Ev
end
section
set_option maxRecDepth 100000
namespace Ev
open PySem PySem.Spec L2

section
variable {Γ : Glob} {U U' U1 O O' : Addr → Prop} {env env' env1 env2 env3 : Env} {σ : St} {H H1 H2 H3 H' : Hp} {a x y z : A} {v w u : V} {d : D} {e : Exn} {cls : Value} {dd : Option Addr} {W : WX}

theorem UA_val {d : D} {v : V} {b : Addr} (h : UA U (.val d) v b) : U b := h.elim id fun z => by cases v <;> exact z.elim
theorem UA_own {i : Nat} {v : V} {b : Addr} (h : UA U (.own i) v b) : U b := h.elim id fun z => by cases v <;> exact z.elim
theorem RA.less (hO : ∀ a, O' a → O a) (hU : ∀ a, U' a → U a) (h : RA Γ U O σ H a v) : RA Γ U' O' σ H a v := by
  cases a with
  | val d => exact Rep.less hO h
  | own i => exact h
  | tmp d =>
    obtain ⟨p, e, n, b⟩ := h
    exact ⟨p, e, fun z => n (hU p z), b.less hO⟩
theorem Post.comp (p1 : Post Γ U env σ H x env1 v H1) (p2 : Post Γ (UA U x v) env1 σ H1 y env2 w H2) : Post Γ U env σ H y env2 w H2 where
  re := p2.re.less fun a z => z.imp .inl id
  ra := p2.ra.less (fun a z => z.imp (fun y => y.imp .inl id) id) fun a z => .inl z
  st := p1.st.comp p2.st fun a z => .inl z
theorem Post.xcomp (p1 : Post Γ U env σ H x env1 v H1) (px : XPost Γ (UA U x v) env1 σ H1 e env2 cls dd H2) : XPost Γ U env σ H e env2 cls dd H2 where
  re := px.re.less fun a z => .inl z
  xr := px.xr
  st := p1.st.comp px.st fun a z => .inl z
/-- the thing in hand, behind more -/
theorem RA.on {W2 O2 : Addr → Prop} (r : RA Γ U (fun b => UA U x v b ∨ Own env1 σ b) σ H1 x v) (re : RE Γ (UA U x v) env1 σ H1) (st : Stp (Own env1 σ) H1 W2 H2)
    (h : ∀ b, O2 b → W2 b ∨ (UA U x v b ∨ Own env1 σ b) ∨ H1 b = none) : RA Γ U O2 σ H2 x v := by
  have s : Stp (fun b => UA U x v b ∨ Own env1 σ b) H1 O2 H2 := st.mono (fun _ z => .inr z) h
  cases x with
  | val d => exact Rep.stp s r
  | own i => exact r
  | tmp d =>
    obtain ⟨p, rfl, n, b⟩ := r
    refine ⟨p, rfl, n, b.stp s fun o m hv => st.mu hv m fun ⟨i, d', e1, e2⟩ => ?_⟩
    obtain ⟨a, e3, n3, _⟩ := re.own i d' e1
    rw [e2] at e3
    cases e3
    exact n3 (.inr rfl)
theorem Post.carry (p1 : Post Γ U env σ H x env1 v H1) (p2 : Post Γ (UA U x v) env1 σ H1 y env2 w H2) : RA Γ U (fun b => UA (UA U x v) y w b ∨ Own env2 σ b) σ H2 x v :=
  p1.ra.on p1.re p2.st fun a z => by
    rcases z with (z | z) | z
    · exact .inr (.inl (.inl z))
    · exact .inl (.inr z)
    · exact .inl (.inl z)
/-- nothing happened -/
theorem Post.pure (r : RE Γ U env σ H) (q : Rep Γ (fun b => U b ∨ Own env σ b) H v d) : Post Γ U env σ H (.val d) env v H where
  re := r.less fun _ z => UA_val z
  ra := Rep.less (fun _ z => z.imp UA_val id) q
  st := (Stp.refl _ _).shr fun _ z => z.elim id fun q => by cases v <;> exact q.elim
theorem Post.slot {i : Nat} (r : RE Γ U env σ H) (q : σ[i]? = some (some v)) : Post Γ U env σ H (.own i) env v H where
  re := r.less fun _ z => UA_own z
  ra := q
  st := (Stp.refl _ _).shr fun _ z => z.elim id fun q => by cases v <;> exact q.elim

theorem tE.mono {m : M A} {Q Q' : VK} (h : tE Γ m W σ H Q) (hQ : ∀ v H', Q v H' → Q' v H') : tE Γ m W σ H Q' := by
  obtain ⟨U, env, r, h⟩ := h
  exact ⟨U, env, r, h.mono (fun a e q v H' p => hQ v H' (q v H' p)) fun _ _ q => q⟩
theorem tT.mono {m : M Bool} {Q Q' : Bool → Hp → Prop} (h : tT Γ m W σ H Q) (hQ : ∀ v H', Q v H' → Q' v H') : tT Γ m W σ H Q' := by
  obtain ⟨U, env, r, h⟩ := h
  exact ⟨U, env, r, h.mono (fun a e q H' p => hQ a H' (q H' p)) fun _ _ q => q⟩
theorem stepE {m : M A} {β : Type} {k : A → Env → Out β} {OK : β → Env → Prop} {EX : Exn → Env → Prop} (r : RE Γ U env σ H)
    (hx : ∀ x e cls d H', XPost Γ U env σ H x e cls d H' → EX x e → W cls d σ H') (h : Wp ((m env).bind k) OK EX) :
    tE Γ m W σ H fun v H1 => ∃ a env1, Post Γ U env σ H a env1 v H1 ∧ Wp (k a env1) OK EX :=
  ⟨U, env, r, (Wp.bind.mp h).mono (fun a e q v H' p => ⟨a, e, p, q⟩) fun x e q cls d H' p => hx x e cls d H' p q⟩
theorem stepT {m : M Bool} {β : Type} {k : Bool → Env → Out β} {OK : β → Env → Prop} {EX : Exn → Env → Prop} (r : RE Γ U env σ H)
    (hx : ∀ x e cls d H', XPost Γ U env σ H x e cls d H' → EX x e → W cls d σ H') (h : Wp ((m env).bind k) OK EX) :
    tT Γ m W σ H fun b H1 => ∃ env1, Post Γ U env σ H (.val (.bl b)) env1 (.bl b) H1 ∧ Wp (k b env1) OK EX :=
  ⟨U, env, r, (Wp.bind.mp h).mono (fun a e q H' p => ⟨e, p, q⟩) fun x e q cls d H' p => hx x e cls d H' p q⟩

/-! ### what a thing in hand holds -/
def Vw (Γ : Glob) (O : Addr → Prop) (H : Hp) (v : V) (d : D) : Prop := Rep Γ O H v d ∨ ∃ a, v = .ref a ∧ Body Γ O H a d
theorem look_vw (r : RE Γ U env σ H) (q : RA Γ U1 O σ H x v) (hO : ∀ b, U b ∨ Own env σ b → O b) (hO' : ∀ b, O b → U b ∨ Own env σ b) (h : x.look env = some d) : Vw Γ (fun b => U b ∨ Own env σ b) H v d := by
  cases x with
  | val e =>
    cases h
    exact .inl (Rep.less hO q)
  | tmp e =>
    cases h
    obtain ⟨p, rfl, _, b⟩ := q
    exact .inr ⟨p, rfl, b.less hO⟩
  | own i =>
    have q : σ[i]? = some (some v) := q
    unfold A.look at h
    dsimp only at h
    split at h
    · rename_i s hs
      cases h
      cases s with
      | val e =>
        obtain ⟨v', e1, e2⟩ := r.val i e hs
        rw [q] at e1
        cases e1
        exact .inl e2
      | own e =>
        obtain ⟨a, e1, _, e2⟩ := r.own i e hs
        rw [q] at e1
        cases e1
        exact .inr ⟨a, rfl, e2⟩
    · cases h
theorem Post.vw (p : Post Γ U env σ H x env1 v H1) (h : x.look env1 = some d) : Vw Γ (fun b => UA U x v b ∨ Own env1 σ b) H1 v d := look_vw p.re p.ra (fun _ z => z) (fun _ z => z) h
theorem Vw.less (h : ∀ a, O' a → O a) (q : Vw Γ O H v d) : Vw Γ O' H v d := q.imp (Rep.less h) fun ⟨a, e, b⟩ => ⟨a, e, b.less h⟩
theorem Vw.int {i : Int} (h : Vw Γ O H v (.int i)) : v = .int i := by
  rcases h with h | ⟨_, _, b⟩
  · cases h; rfl
  · exact b.elim
theorem Vw.str {i : Str} (h : Vw Γ O H v (.str i)) : v = .str i := by
  rcases h with h | ⟨_, _, b⟩
  · cases h; rfl
  · exact b.elim
theorem Vw.bl {i : Bool} (h : Vw Γ O H v (.bl i)) : v = .bl i := by
  rcases h with h | ⟨_, _, b⟩
  · cases h; rfl
  · exact b.elim
theorem Vw.non (h : Vw Γ O H v .non) : v = .non := by
  rcases h with h | ⟨_, _, b⟩
  · cases h; rfl
  · exact b.elim
theorem Vw.lst {ds : List D} (h : Vw Γ O H v (.lst ds)) : ∃ a vs, v = .ref a ∧ H a = some (.lst vs) ∧ Reps Γ O H vs ds := by
  rcases h with h | ⟨a, e, vs, h1, h2⟩
  · cases h with
    | lst r _ rs => exact ⟨_, _, rfl, r, rs⟩
  · exact ⟨a, vs, e, h1, h2⟩
theorem Vw.frz {ds : List D} (h : Vw Γ O H v (.frz ds)) : ∃ a vs, v = .ref a ∧ SqF Γ.K H a vs ∧ Reps Γ O H vs ds := by
  rcases h with h | ⟨_, _, b⟩
  · cases h with
    | frz r rs => exact ⟨_, _, rfl, r, rs⟩
  · exact b.elim
theorem Vw.tup {ds : List D} (h : Vw Γ O H v (.tup ds)) : ∃ a vs, v = .ref a ∧ H a = some (.tup vs) ∧ Reps Γ O H vs ds := by
  rcases h with h | ⟨_, _, b⟩
  · cases h with
    | tup r rs => exact ⟨_, _, rfl, r, rs⟩
  · exact b.elim
theorem Vw.row {ds : List D} (h : Vw Γ O H v (.lst ds) ∨ Vw Γ O H v (.frz ds)) : ∃ a vs, v = .ref a ∧ SqL Γ.K H a vs ∧ Reps Γ O H vs ds := by
  rcases h with h | h
  · obtain ⟨a, vs, e, r, q⟩ := h.lst
    exact ⟨a, vs, e, .of r, q⟩
  · obtain ⟨a, vs, e, r, q⟩ := h.frz
    exact ⟨a, vs, e, r.sql, q⟩
theorem lay_not_dict {kvs : List (PyData × PyData)} (h : SeqAt.shaped (.dict kvs) = true) : False := by
  have q := SeqAt.canLay_of_shaped h
  simp [PyData.canLay0] at q
mutual
theorem Rep.dp : ∀ {v : V} {d : D}, Rep Γ O H v d → d.py.canLay0 = true → Dp Γ.K H v d.py
  | _, _, .non, _ => .non
  | _, _, .bl b, _ => .bl b
  | _, _, .int i, _ => .int i
  | _, _, .str x, _ => .str x
  | _, _, .lst r _ rs, h => .lst (SqL.of r) (Reps.dp rs (by simpa [D.py, PyData.canLay0] using h))
  | _, _, .frz r rs, h => by simp [D.py, PyData.canLay0] at h
  | _, _, .dicK _ _ _, h => by simp [D.py, PyData.canLay0] at h
  | _, _, .dicT _ _ _, h => by simp [D.py, PyData.canLay0] at h
  | _, _, .tup r rs, h => .tup (SqT.of r) (Reps.dp rs (by simpa [D.py, PyData.canLay0] using h))
theorem Reps.dp : ∀ {vs : List V} {ds : List D}, Reps Γ O H vs ds → PyData.canLayAll0 (D.pys ds) = true → DpAll Γ.K H vs (D.pys ds)
  | _, _, .nil, _ => .nil
  | _, _, .cons r rs, h => by
    have h' := h
    simp only [D.pys, PyData.canLayAll0, Bool.and_eq_true] at h'
    exact .cons (Rep.dp r h'.1) (Reps.dp rs h'.2)
end
theorem Vw.dp (h : Vw Γ O H v d) (q : d.eqOk = true) : Dp Γ.K H v d.py := by
  have c := SeqAt.canLay_of_shaped q
  rcases h with h | ⟨a, rfl, b⟩
  · exact h.dp c
  · refine b.cs (fun ds vs e1 e r => ?_) (fun kvs l e1 e r => ?_) fun kvs l e1 e r => ?_
    · subst e1
      exact Dp.lst (SqL.of e) (r.dp (by simpa [D.py, PyData.canLay0] using c))
    · subst e1
      exact (lay_not_dict q).elim
    · subst e1
      exact (lay_not_dict q).elim

/-! ### new things -/
theorem Post.newTup {vs : List V} {ds : List D} {p : Addr} (r : RE Γ U env σ H) (q : Reps Γ (fun b => U b ∨ Own env σ b) H vs ds) (hp : H p = none) :
    Post Γ U env σ H (.val (.tup ds)) env (.ref p) (upd H p (.tup vs)) := by
  have s : Stp (fun _ => False) H (fun b => False ∨ b = p) (upd H p (.tup vs)) := Stp.new hp
  have r' : RE Γ U env σ (upd H p (.tup vs)) := r.stp (s.shr fun b z => (z.2 z.1).elim) (fun _ z => z) fun b z => let ⟨o, e⟩ := r.uth b z; s.there b o e
  have sO : Stp (fun b => U b ∨ Own env σ b) H (fun b => U b ∨ Own env σ b) (upd H p (.tup vs)) := s.mono (fun _ z => z.elim) fun b z => .inr (.inl z)
  exact ⟨r'.less fun _ z => UA_val z, Rep.less (fun _ z => z.imp UA_val id) (.tup upd_same (q.stp sO)), s.mono (fun _ z => z.elim) fun b z => .inr (.inl (z.elim id fun y => y.elim))⟩
theorem Post.newLst {vs : List V} {ds : List D} {p : Addr} (r : RE Γ U env σ H) (q : Reps Γ (fun b => U b ∨ Own env σ b) H vs ds) (hp : H p = none) :
    Post Γ U env σ H (.tmp (.lst ds)) env (.ref p) (upd H p (.lst vs)) := by
  have s : Stp (fun _ => False) H (fun b => False ∨ b = p) (upd H p (.lst vs)) := Stp.new hp
  have r' : RE Γ (UA U (.tmp (.lst ds)) (.ref p)) env σ (upd H p (.lst vs)) := r.stp (s.shr fun b z => z.1.elim (fun y => (z.2 y).elim) .inr) (fun _ z => .inl z) fun b z => z.elim (fun y => let ⟨o, e⟩ := r.uth b y; s.there b o e) fun y => ⟨.lst vs, by rw [show b = p from y]; exact upd_same⟩
  have sO : Stp (fun b => U b ∨ Own env σ b) H (fun b => UA U (.tmp (.lst ds)) (.ref p) b ∨ Own env σ b) (upd H p (.lst vs)) := s.mono (fun _ z => z.elim) fun b z => by
    rcases z with (z | z) | z
    · exact .inr (.inl (.inl z))
    · exact .inl (.inr z)
    · exact .inr (.inl (.inr z))
  exact ⟨r', ⟨p, rfl, (fun z => by have y := r.uth p z; rw [hp] at y; obtain ⟨_, y⟩ := y; cases y), vs, upd_same, q.stp sO⟩, s.mono (fun _ z => z.elim) fun b z => z.elim (fun y => .inr (.inl y)) fun y => .inl (.inr y)⟩
end
end Ev
end
section
set_option maxRecDepth 100000
set_option maxHeartbeats 1000000
namespace Ev
open PySem PySem.Spec L2

def Bo.op : Bo → Operator
  | .add => .Add | .sub => .Sub | .mul => .Mult | .fdiv => .FloorDiv | .mod => .Mod | .pow => .Pow
def Co.op : Co → CmpOp
  | .eq => .Eq | .ne => .NotEq | .lt => .Lt | .le => .LtE | .gt => .Gt | .ge => .GtE | .is => .Is | .isn => .IsNot | .inn => .In | .nin => .NotIn

section
variable {X : Cx}
def rAddIB : R2 := fun x y H Q => ∃ i k, x = .int i ∧ y = .bl k ∧ Q (.int (i + (if k then 1 else 0))) H
theorem op_addIB : OpR X (binaryOp .Add) rAddIB := by
  intro pins s σ H x y v u Q I rx ry h
  obtain ⟨i, k, rfl, rfl, q⟩ := h
  exact op_add_ib pins s σ H _ _ v u Q I rx ry ⟨i, k, rfl, rfl, by cases k <;> exact q⟩
def rAddS : R2 := fun x y H Q => ∃ i j, x = .str i ∧ y = .str j ∧ i.length + j.length ≤ sizeLine ∧ Q (.str (i ++ j)) H
def rMulW : R2 := rI CMulW fun i j => .int (i * j)
def rDivW : R2 := rI (fun _ j => 0 < j ∧ j.natAbs.log2 < 9000) fun i j => .int (i.fdiv j)
theorem op_divW : OpR X (binaryOp .FloorDiv) rDivW := by
  intro pins s σ H x y v u Q I rx ry h
  obtain ⟨i, j, rfl, rfl, hc, q⟩ := h
  refine op_fdivW pins s σ H _ _ v u Q I rx ry ⟨i, j, rfl, rfl, hc, ?_⟩
  have q' : Q (.int (i.fdiv j)) H := q
  rw [Int.fdiv_eq_ediv_of_nonneg i (by omega)] at q'
  exact q'
def rBin (K : PySem.W.Frag) : Bo → R2
  | .add => fun x y H Q => rI0 (fun i j => .int (i + j)) x y H Q ∨ rAddIB x y H Q ∨ rAddS x y H Q ∨ rCatA K x y H Q ∨ rCat x y H Q
  | .sub => rI0 fun i j => .int (i - j)
  | .mul => fun x y H Q => rI CMul (fun i j => .int (i * j)) x y H Q ∨ rMulW x y H Q ∨ rRep x y H Q
  | .fdiv => fun x y H Q => rI CDivN (fun i j => .int (i.fdiv j)) x y H Q ∨ rDivW x y H Q
  | .mod => rI (fun _ j => j ≠ 0) fun i j => .int (i.fmod j)
  | .pow => rI CPow fun i j => .int (i ^ j.toNat)
theorem op_bin (o : Bo) : OpR X (binaryOp o.op) (rBin X.K o) := by
  cases o with
  | add => exact op_add.or (op_addIB.or (op_add_str.or (op_catA.or op_cat)))
  | sub => exact op_sub
  | mul => exact op_mul.or (op_mulW.or op_rep)
  | fdiv => exact op_fdivN.or op_divW
  | mod => exact op_modN
  | pow => exact op_pow
def rCmp (K : PySem.W.Frag) : Co → R2
  | .eq => rEqD K
  | .ne => rNeD K
  | .lt => rI0 fun i j => .bl (decide (i < j))
  | .le => rI0 fun i j => .bl (decide (i ≤ j))
  | .gt => rI0 fun i j => .bl (decide (j < i))
  | .ge => rI0 fun i j => .bl (decide (j ≤ i))
  | .is => fun x y H Q => (y = .non ∧ Q (.bl (decide (x = .non))) H) ∨ rIsB x y H Q
  | .isn => fun x y H Q => (y = .non ∧ Q (.bl (!decide (x = .non))) H) ∨ rNotB x y H Q
  | .inn => fun x y H Q => (∃ i j, x = .str i ∧ y = .str j ∧ Q (.bl (!(Builtin.Str.occurrences j i 0 j.length 1).isEmpty)) H) ∨ rInD K x y H Q
  | .nin => fun x y H Q => (∃ i j, x = .str i ∧ y = .str j ∧ Q (.bl (!(!(Builtin.Str.occurrences j i 0 j.length 1).isEmpty))) H) ∨ rNotInD K x y H Q
theorem op_cmp (o : Co) (hu : X.A.units + 65 < cLine) : OpR X (compareOp o.op) (rCmp X.K o) := by
  cases o with
  | eq => exact op_eqD (by omega)
  | ne => exact op_neD (by omega)
  | lt => exact op_lt
  | le => exact op_le
  | gt => exact op_gt
  | ge => exact op_ge
  | is => exact op_isN.or op_isBl
  | isn => exact op_notN.or op_notBl
  | inn => exact op_in_str.or (op_inD hu)
  | nin => exact op_notin_str.or (op_notInD hu)
end

section
variable {Γ : Glob} {U U' U1 O O' : Addr → Prop} {env env' env1 env2 env3 : Env} {σ : St} {H H1 H2 H3 H' : Hp} {a x y z : A} {v w u : V} {d e g : D} {W : WX}
theorem Reps.nil_iff {vs : List V} {ds : List D} (h : Reps Γ O H vs ds) : vs = [] ↔ ds = [] := by
  cases h <;> simp
theorem Reps.rep {vs : List V} {ds : List D} (h : Reps Γ O H vs ds) : ∀ k, Reps Γ O H (List.replicate k vs).flatten (List.replicate k ds).flatten
  | 0 => .nil
  | k + 1 => by
    rw [List.replicate_succ, List.replicate_succ, List.flatten_cons, List.flatten_cons]
    exact h.append (Reps.rep h k)
theorem binF_ok {o : Bo} {r : BR} {Q : VK} (h : binF o d e = some r) (hv : Vw Γ (fun b => U b ∨ Own env σ b) H v d) (hw : Vw Γ (fun b => U b ∨ Own env σ b) H w e) (re : RE Γ U env σ H)
    (hQ : ∀ u H', Post Γ U env σ H r.a env u H' → Q u H') : rBin Γ.K o v w H Q := by
  unfold binF at h
  split at h
  · cases h; cases hv.int; cases hw.int
    exact .inl ⟨_, _, rfl, rfl, hQ _ _ (.pure re (.int _))⟩
  · cases h; cases hv.int; cases hw.int
    exact ⟨_, _, rfl, rfl, hQ _ _ (.pure re (.int _))⟩
  · split at h
    · rename_i hm
      cases h; cases hv.int; cases hw.int
      unfold mulOk at hm
      simp only [Bool.or_eq_true, decide_eq_true_eq] at hm
      rcases hm with (hm | hm) | hm
      · exact .inl ⟨_, _, rfl, rfl, .inl (s64_lt hm), hQ _ _ (.pure re (.int _))⟩
      · exact .inl ⟨_, _, rfl, rfl, .inr (s64_lt hm), hQ _ _ (.pure re (.int _))⟩
      · exact .inr (.inl ⟨_, _, rfl, rfl, hm, hQ _ _ (.pure re (.int _))⟩)
    · cases h
  · split at h
    · rename_i hm
      cases h; cases hv.int; cases hw.int
      unfold fdivOk at hm
      simp only [Bool.or_eq_true, Bool.and_eq_true, decide_eq_true_eq] at hm
      rcases hm with hm | hm
      · exact .inl ⟨_, _, rfl, rfl, hm, hQ _ _ (.pure re (.int _))⟩
      · exact .inr ⟨_, _, rfl, rfl, hm, hQ _ _ (.pure re (.int _))⟩
    · cases h
  · split at h
    · cases h
    · rename_i hm
      cases h; cases hv.int; cases hw.int
      exact ⟨_, _, rfl, rfl, hm, hQ _ _ (.pure re (.int _))⟩
  · split at h
    · rename_i hm
      cases h; cases hv.int; cases hw.int
      unfold powOk at hm
      simp only [Bool.and_eq_true, decide_eq_true_eq] at hm
      exact ⟨_, _, rfl, rfl, ⟨hm.1.1, hm.1.2, hm.2⟩, hQ _ _ (.pure re (.int _))⟩
    · cases h
  · cases h; cases hv.int; cases hw.bl
    exact .inr (.inl ⟨_, _, rfl, rfl, hQ _ _ (.pure re (.int _))⟩)
  · split at h
    · rename_i hm
      cases h; cases hv.str; cases hw.str
      exact .inr (.inr (.inl ⟨_, _, rfl, rfl, hm, hQ _ _ (.pure re (.str _))⟩))
    · cases h
  · split at h
    · rename_i hm
      cases h
      obtain ⟨a, vs, rfl, r1, r2⟩ := hv.tup
      obtain ⟨b, ws, rfl, q1, q2⟩ := hw.tup
      refine .inr (.inr (.inr (.inl ⟨a, b, vs, ws, rfl, rfl, SqT.of r1, SqT.of q1, by rw [r2.length, q2.length]; exact hm, fun z => ?_, fun _ z => ?_, fun _ _ p hp => ?_⟩)))
      · rw [r2.nil_iff.mp z, List.nil_append] at hQ
        exact hQ _ _ (.pure re (.tup q1 q2))
      · rw [q2.nil_iff.mp z, List.append_nil] at hQ
        exact hQ _ _ (.pure re (.tup r1 r2))
      · exact hQ _ _ (.newTup re (r2.append q2) hp)
    · cases h
  · split at h
    · rename_i hm
      cases h
      obtain ⟨a, vs, rfl, r1, r2⟩ := hv.lst
      obtain ⟨b, ws, rfl, q1, q2⟩ := hw.lst
      exact .inr (.inr (.inr (.inr ⟨a, b, vs, ws, rfl, rfl, r1, q1, by rw [r2.length, q2.length]; exact hm, fun p hp => hQ _ _ (.newLst re (r2.append q2) hp)⟩)))
    · cases h
  · split at h
    · rename_i hm
      cases h; cases hw.int
      obtain ⟨a, vs, rfl, r1, r2⟩ := hv.lst
      exact .inr (.inr ⟨a, _, vs, rfl, rfl, r1, hm.1, hm.2.1, by rw [r2.length]; exact hm.2.2, fun p hp => hQ _ _ (.newLst re (r2.rep _) hp)⟩)
    · cases h
  · cases h
theorem eq_ok {b : Bool} (h : d.eq? e = some b) : d.eqOk = true ∧ e.eqOk = true ∧ b = d.eqv e := by
  unfold D.eq? at h
  split at h
  · rename_i hm
    rw [Bool.and_eq_true] at hm
    cases h
    exact ⟨hm.1, hm.2, rfl⟩
  · cases h
theorem nonV (hv : Vw Γ O H v d) : decide (v = V.non) = d.isNon := by
  rcases hv with hv | ⟨a, rfl, q⟩
  · cases hv <;> rfl
  · exact q.cs (fun _ _ e _ _ => by subst e; rfl) (fun _ _ e _ _ => by subst e; rfl) fun _ _ e _ _ => by subst e; rfl
theorem cmpF_ok {o : Co} {b : Bool} {Q : VK} (h : cmpF o d e = some b) (hv : Vw Γ O H v d) (hw : Vw Γ O H w e) (hQ : Q (.bl b) H) : rCmp Γ.K o v w H Q := by
  unfold cmpF at h
  split at h
  · obtain ⟨h1, h2, rfl⟩ := eq_ok h
    exact ⟨_, _, hv.dp h1, hw.dp h2, h1, h2, hQ⟩
  · cases q : d.eq? e with
    | none => rw [q] at h; cases h
    | some c =>
      rw [q] at h
      cases h
      obtain ⟨h1, h2, rfl⟩ := eq_ok q
      exact ⟨_, _, hv.dp h1, hw.dp h2, h1, h2, hQ⟩
  · cases h; cases hv.int; cases hw.int
    exact ⟨_, _, rfl, rfl, hQ⟩
  · cases h; cases hv.int; cases hw.int
    exact ⟨_, _, rfl, rfl, hQ⟩
  · cases h; cases hv.int; cases hw.int
    exact ⟨_, _, rfl, rfl, hQ⟩
  · cases h; cases hv.int; cases hw.int
    exact ⟨_, _, rfl, rfl, hQ⟩
  · cases h; cases hw.non
    refine .inl ⟨rfl, ?_⟩
    have e1 := nonV hv
    rw [e1]
    exact hQ
  · cases h; cases hw.non
    refine .inl ⟨rfl, ?_⟩
    have e1 := nonV hv
    rw [e1]
    exact hQ
  · cases h; cases hv.bl; cases hw.bl
    exact .inr ⟨_, _, rfl, rfl, by rw [← Bool.beq_eq_decide_eq]; exact hQ⟩
  · cases h; cases hv.bl; cases hw.bl
    exact .inr ⟨_, _, rfl, rfl, by rw [← Bool.beq_eq_decide_eq]; exact hQ⟩
  · cases h; cases hv.str; cases hw.str
    exact .inl ⟨_, _, rfl, rfl, hQ⟩
  · cases h; cases hv.str; cases hw.str
    exact .inl ⟨_, _, rfl, rfl, hQ⟩
  · rename_i xs
    split at h
    · rename_i hm
      rw [Bool.and_eq_true] at hm
      cases h
      refine .inr ⟨_, D.pys xs, hv.dp hm.1, hw.dp hm.2, hm.1, hm.2, ?_⟩
      have e1 : ∀ l : List D, ((D.pys l).any fun z => PyData.eqv z d.py) = l.any fun x => D.eqv x d := fun l => by
        induction l with
        | nil => rfl
        | cons x l ih => show (_ || _) = (_ || _); rw [ih]; rfl
      rw [e1]
      exact hQ
    · cases h
  · rename_i xs
    split at h
    · rename_i hm
      rw [Bool.and_eq_true] at hm
      cases h
      refine .inr ⟨_, D.pys xs, hv.dp hm.1, hw.dp hm.2, hm.1, hm.2, ?_⟩
      have e1 : ∀ l : List D, ((D.pys l).any fun z => PyData.eqv z d.py) = l.any fun x => D.eqv x d := fun l => by
        induction l with
        | nil => rfl
        | cons x l ih => show (_ || _) = (_ || _); rw [ih]; rfl
      rw [e1]
      exact hQ
    · cases h
  · cases h
theorem truth_ok {b : Bool} (h : d.truth = some b) (hv : Vw Γ O H v d) : TruV Γ.K v H b := by
  unfold D.truth at h
  split at h
  · cases h; cases hv.non; rfl
  · cases h; cases hv.bl; rfl
  · cases h; cases hv.int; rfl
  · split at h
    · rename_i hm
      cases h; cases hv.str
      refine ⟨hm, ?_⟩
      rw [Bool.eq_iff_iff]
      simp
    · cases h
  · cases h
    obtain ⟨a, vs, rfl, r1, r2⟩ := hv.tup
    refine .inr (.inl ⟨vs, SqT.of r1, ?_⟩)
    cases r2 <;> rfl
  · cases h
    obtain ⟨a, vs, rfl, r1, r2⟩ := hv.lst
    refine .inl ⟨vs, SqL.of r1, ?_⟩
    cases r2 <;> rfl
  · cases h
/-! ### dicts -/
theorem Vw.dic {t : Bool} {kvs : List (D × D)} (h : Vw Γ O H v (.dic t kvs)) : ∃ a, v = .ref a ∧ ((t = false ∧ ∃ l, H a = some (.dK l) ∧ RepK Γ O H l kvs) ∨ (t = true ∧ ∃ l, H a = some (.dT l) ∧ RepT Γ O H l kvs)) := by
  rcases h with h | ⟨a, e, b⟩
  · cases h with
    | dicK r _ rs => exact ⟨_, rfl, .inl ⟨rfl, _, r, rs⟩⟩
    | dicT r _ rs => exact ⟨_, rfl, .inr ⟨rfl, _, r, rs⟩⟩
  · refine ⟨a, e, ?_⟩
    cases t with
    | false => exact .inl ⟨rfl, b⟩
    | true => exact .inr ⟨rfl, b⟩
theorem key_of1 (hk : isKey1 e = true) : ∃ k, D.key e = some k := by
  cases e <;> first | exact ⟨_, rfl⟩ | cases hk
theorem key_V {k : Key} (h : Vw Γ O H w e) (hk : D.key e = some k) : w = kV k := by
  cases e <;> first | (cases hk; done) | (cases hk; first | (cases h.int; rfl) | (cases h.str; rfl))
theorem kEq1_key {a b : D} {k j : Key} (ha : a.key = some k) (hb : b.key = some j) : kEq1 a b = decide (k = j) := by
  cases a <;> first | (cases ha; done) | (cases ha; cases b <;> first | (cases hb; done) | (cases hb; first | rfl | (simp [kEq1]; done) | (simp only [kEq1, Sum.inl.injEq, Sum.inr.injEq]; exact Bool.eq_iff_iff.mpr (by simp))))
theorem kEq_key {a b : D} {k j : Key} (ha : a.key = some k) (hb : b.key = some j) : kEq a b = decide (k = j) := by
  rw [← kEq1_key ha hb]
  cases a <;> first | (cases ha; done) | rfl
theorem keysD_of : ∀ {ds : List D}, ds.all isKey1 = true → ∃ ks, keysD ds = some ks
  | [], _ => ⟨[], rfl⟩
  | d :: ds, h => by
    rw [List.all_cons, Bool.and_eq_true] at h
    obtain ⟨k, hk⟩ := key_of1 h.1
    obtain ⟨ks, hks⟩ := keysD_of h.2
    exact ⟨k :: ks, by unfold keysD; rw [hk, hks]⟩
theorem keysD_V : ∀ {ds : List D} {ks : List Key} {vs : List V}, Reps Γ O H vs ds → keysD ds = some ks → vs = ks.map kV
  | [], ks, _, .nil, h => by cases h; rfl
  | d :: ds, ks, _, .cons r rs, h => by
    unfold keysD at h
    split at h
    · rename_i k ks' hk hks
      cases h
      rw [key_V (.inl r) hk, keysD_V rs hks]
      rfl
    · cases h
theorem kEqs_key : ∀ {as bs : List D} {ks js : List Key}, keysD as = some ks → keysD bs = some js → kEqs kEq1 as bs = decide (ks = js)
  | [], [], ks, js, h1, h2 => by cases h1; cases h2; rfl
  | [], b :: bs, ks, js, h1, h2 => by
    cases h1
    unfold keysD at h2
    split at h2
    · cases h2; rfl
    · cases h2
  | a :: as, [], ks, js, h1, h2 => by
    cases h2
    unfold keysD at h1
    split at h1
    · cases h1; rfl
    · cases h1
  | a :: as, b :: bs, ks, js, h1, h2 => by
    unfold keysD at h1 h2
    split at h1
    · rename_i k ks' e1 e2
      cases h1
      split at h2
      · rename_i j js' f1 f2
        cases h2
        unfold kEqs
        rw [kEq1_key e1 f1, kEqs_key e2 f2]
        simp
      · cases h2
    · cases h1
theorem tkey_of (hk : isKeyT e = true) : ∃ k, D.tkey e = some k := by
  cases e <;> first | (cases hk; done) | exact keysD_of hk
theorem tkey_V {k : List Key} (h : Vw Γ O H w e) (hk : D.tkey e = some k) : ∃ b, w = .ref b ∧ H b = some (.tup (k.map kV)) := by
  cases e <;> first | (cases hk; done) | skip
  obtain ⟨a, vs, rfl, r1, r2⟩ := h.tup
  exact ⟨a, rfl, by rw [← keysD_V r2 hk]; exact r1⟩
theorem kEq_tkey {a b : D} {k j : List Key} (ha : a.tkey = some k) (hb : b.tkey = some j) : kEq a b = decide (k = j) := by
  cases a <;> first | (cases ha; done) | skip
  cases b <;> first | (cases hb; done) | skip
  exact kEqs_key ha hb
theorem dget_K {k : Key} : ∀ {l : List (Key × V)} {kvs : List (D × D)}, RepK Γ O H l kvs → D.key e = some k → (∀ r, dget kvs e = some r → ∃ u, valV l k = some u ∧ Rep Γ O H u r) ∧ (dget kvs e = none → valV l k = none)
  | _, _, .nil, _ => ⟨fun r h => (by cases h), fun _ => rfl⟩
  | _, _, .cons (k := k1) (dk := dk) (kvs := kvs) e1 r1 rs, he => by
    obtain ⟨i1, i2⟩ := dget_K rs he
    unfold dget
    rw [List.find?_cons]
    dsimp only
    rw [kEq_key e1 he]
    by_cases hkk : k1 = k
    · rw [decide_eq_true hkk, valV_pos hkk]
      exact ⟨fun r h => by cases h; exact ⟨_, rfl, r1⟩, fun h => by cases h⟩
    · rw [decide_eq_false hkk, valV_neg hkk]
      exact ⟨i1, i2⟩
theorem dget_T {k : List Key} : ∀ {l : List (List Key × V)} {kvs : List (D × D)}, RepT Γ O H l kvs → D.tkey e = some k → (∀ r, dget kvs e = some r → ∃ u, valV l k = some u ∧ Rep Γ O H u r) ∧ (dget kvs e = none → valV l k = none)
  | _, _, .nil, _ => ⟨fun r h => (by cases h), fun _ => rfl⟩
  | _, _, .cons (k := k1) (dk := dk) (kvs := kvs) e1 r1 rs, he => by
    obtain ⟨i1, i2⟩ := dget_T rs he
    unfold dget
    rw [List.find?_cons]
    dsimp only
    rw [kEq_tkey e1 he]
    by_cases hkk : k1 = k
    · rw [decide_eq_true hkk, valV_pos hkk]
      exact ⟨fun r h => by cases h; exact ⟨_, rfl, r1⟩, fun h => by cases h⟩
    · rw [decide_eq_false hkk, valV_neg hkk]
      exact ⟨i1, i2⟩
/-- what stands at a key -/
theorem dget_ok {t : Bool} {kvs : List (D × D)} {r : D} (hv : Vw Γ O H v (.dic t kvs)) (hw : Vw Γ O H w e) (hk : keyOk t e = true) (h : dget kvs e = some r) : ∃ a u, v = .ref a ∧ DGet H a w (some u) ∧ Rep Γ O H u r := by
  obtain ⟨a, rfl, ⟨rfl, l, h1, h2⟩ | ⟨rfl, l, h1, h2⟩⟩ := hv.dic
  · obtain ⟨k, hk⟩ := key_of1 (e := e) hk
    obtain ⟨u, g1, g2⟩ := (dget_K h2 hk).1 r h
    exact ⟨a, u, rfl, by rw [key_V hw hk, ← g1]; exact .k h1, g2⟩
  · obtain ⟨k, hk⟩ := tkey_of (e := e) hk
    obtain ⟨u, g1, g2⟩ := (dget_T h2 hk).1 r h
    obtain ⟨b, rfl, hb⟩ := tkey_V hw hk
    exact ⟨a, u, rfl, by rw [← g1]; exact .t h1 hb, g2⟩
theorem dget_no {t : Bool} {kvs : List (D × D)} (hv : Vw Γ O H v (.dic t kvs)) (hw : Vw Γ O H w e) (hk : keyOk t e = true) (h : dget kvs e = none) : ∃ a, v = .ref a ∧ DGet H a w none := by
  obtain ⟨a, rfl, ⟨rfl, l, h1, h2⟩ | ⟨rfl, l, h1, h2⟩⟩ := hv.dic
  · obtain ⟨k, hk⟩ := key_of1 (e := e) hk
    have g1 := (dget_K h2 hk).2 h
    exact ⟨a, rfl, by rw [key_V hw hk, ← g1]; exact .k h1⟩
  · obtain ⟨k, hk⟩ := tkey_of (e := e) hk
    have g1 := (dget_T h2 hk).2 h
    obtain ⟨b, rfl, hb⟩ := tkey_V hw hk
    exact ⟨a, rfl, by rw [← g1]; exact .t h1 hb⟩
theorem idxF_ok {r : D} (h : idxF d e = some r) (hv : Vw Γ O H v d) (hw : Vw Γ O H w e) (nd : ∀ t kvs, d ≠ .dic t kvs) {Q : VK} (hQ : ∀ u, Rep Γ O H u r → Q u H) : rIx Γ.K v w H Q := by
  have at_ : ∀ {vs : List V} {ds : List D} {i : Int}, Reps Γ O H vs ds → atI ds i = some r → ∃ u, atI vs i = some u ∧ Rep Γ O H u r := by
    intro vs ds i q h
    unfold atI at h ⊢
    rw [q.length]
    cases z : ixN ds.length i with
    | none => rw [z] at h; cases h
    | some j =>
      rw [z] at h
      obtain ⟨u, e1, e2⟩ := q.get h
      exact ⟨u, e1, e2⟩
  unfold idxF at h
  split at h
  · exact (nd _ _ rfl).elim
  · obtain ⟨a, vs, rfl, r1, r2⟩ := hv.tup
    cases hw.int
    obtain ⟨u, e1, e2⟩ := at_ r2 h
    exact .inr (.inl ⟨a, vs, _, u, rfl, rfl, SqT.of r1, e1, hQ u e2⟩)
  · obtain ⟨a, vs, rfl, r1, r2⟩ := Vw.row (.inl hv)
    cases hw.int
    obtain ⟨u, e1, e2⟩ := at_ r2 h
    exact .inl ⟨a, vs, _, u, rfl, rfl, r1, e1, hQ u e2⟩
  · obtain ⟨a, vs, rfl, r1, r2⟩ := Vw.row (.inr hv)
    cases hw.int
    obtain ⟨u, e1, e2⟩ := at_ r2 h
    exact .inl ⟨a, vs, _, u, rfl, rfl, r1, e1, hQ u e2⟩
  · cases hv.str; cases hw.int
    split at h
    · rename_i s i hm
      cases z : atI s.cps.toList i with
      | none => rw [z] at h; cases h
      | some c =>
        rw [z] at h
        cases h
        exact .inr (.inr ⟨_, _, c, rfl, rfl, hm, z, hQ _ (.str _)⟩)
    · cases h
  · cases h
end
end Ev
end
section
set_option maxRecDepth 100000
set_option maxHeartbeats 1000000
namespace Ev
open PySem PySem.Spec L2

theorem PE.imp {X : Cx} {e : Expr} {t t' : TE} (h : PE X e t) (hi : ∀ σ H Q, t' σ H Q → t σ H Q) : PE X e t' := ⟨fun pins s σ H Q I hq => h.run pins s σ H Q I (hi σ H Q hq)⟩
theorem PT.imp {X : Cx} {e : Expr} {t t' : TT} (h : PT X e t) (hi : ∀ σ H Q, t' σ H Q → t σ H Q) : PT X e t' := ⟨fun pins s σ H Q I hq => h.run pins s σ H Q I (hi σ H Q hq)⟩
theorem PA.imp {X : Cx} {e : List Expr} {t t' : TA} (h : PA X e t) (hi : ∀ σ H Q, t' σ H Q → t σ H Q) : PA X e t' := ⟨fun pos pins s σ H Q I hq => h.run pos pins s σ H Q I (hi σ H Q hq)⟩

section
variable {Γ : Glob} {X : Cx} {P : Par} {U U' U1 O O' : Addr → Prop} {env env' env1 env2 env3 : Env} {σ : St} {H H1 H2 H3 H' : Hp} {a x y z : A} {v w u : V} {d e : D} {W : WX} {pos : Pos} {ea eb ec : Expr} {ma mb mc : M A} {ta tb : M Bool}

/-! ### freezing -/
theorem RE.frozen {i : Nat} {s : Sl} (r : RE Γ U env σ H) (hs : env[i]? = some (some s)) (hv : σ[i]? = some (some v)) :
    RE Γ U (env.set i (some (.val s.d))) σ H ∧ Rep Γ (fun b => U b ∨ Own (env.set i (some (.val s.d))) σ b) H v s.d ∧ ∀ b, Own (env.set i (some (.val s.d))) σ b → Own env σ b := by
  have hlt : i < env.length := (List.getElem?_eq_some_iff.mp hs).1
  have sub : ∀ b, Own (env.set i (some (.val s.d))) σ b → Own env σ b := fun b ⟨j, d, e1, e2⟩ => by
    by_cases hj : i = j
    · subst hj
      rw [List.getElem?_set_self hlt] at e1
      cases e1
    · rw [List.getElem?_set_ne hj] at e1
      exact ⟨j, d, e1, e2⟩
  have less : ∀ b, U b ∨ Own (env.set i (some (.val s.d))) σ b → U b ∨ Own env σ b := fun b z => z.imp id (sub b)
  have q : Rep Γ (fun b => U b ∨ Own (env.set i (some (.val s.d))) σ b) H v s.d := by
    cases s with
    | val d =>
      obtain ⟨v', e1, e2⟩ := r.val i d hs
      rw [hv] at e1
      cases e1
      exact e2.less less
    | own d =>
      obtain ⟨a, e1, n, e2⟩ := r.own i d hs
      rw [hv] at e1
      cases e1
      refine e2.rep less fun z => z.elim n fun ⟨j, d', z1, z2⟩ => ?_
      by_cases hj : i = j
      · subst hj
        rw [List.getElem?_set_self hlt] at z1
        cases z1
      · rw [List.getElem?_set_ne hj] at z1
        exact hj (r.sep i j a d d' hs z1 hv z2)
  refine ⟨⟨by rw [List.length_set]; exact r.len, fun j d e1 => ?_, fun j d e1 => ?_, fun j k b d d' e1 e2 e3 e4 => ?_, r.tabs, r.uth⟩, q, sub⟩
  · by_cases hj : i = j
    · subst hj
      rw [List.getElem?_set_self hlt] at e1
      cases e1
      exact ⟨v, hv, q⟩
    · rw [List.getElem?_set_ne hj] at e1
      obtain ⟨v', e2, e3⟩ := r.val j d e1
      exact ⟨v', e2, e3.less less⟩
  · by_cases hj : i = j
    · subst hj
      rw [List.getElem?_set_self hlt] at e1
      cases e1
    · rw [List.getElem?_set_ne hj] at e1
      obtain ⟨b, e2, e3, e4⟩ := r.own j d e1
      exact ⟨b, e2, e3, e4.less less⟩
  · have h1 : i ≠ j := fun z => by subst z; rw [List.getElem?_set_self hlt] at e1; cases e1
    have h2 : i ≠ k := fun z => by subst z; rw [List.getElem?_set_self hlt] at e2; cases e2
    rw [List.getElem?_set_ne h1] at e1
    rw [List.getElem?_set_ne h2] at e2
    exact r.sep j k b d d' e1 e2 e3 e4
theorem frozen_core (re : RE Γ (UA U a v) env1 σ H1) (ra : RA Γ U (fun b => UA U a v b ∨ Own env1 σ b) σ H1 a v) (h : a.freeze env1 = .ok d env2) :
    RE Γ U env2 σ H1 ∧ Rep Γ (fun b => U b ∨ Own env2 σ b) H1 v d ∧ ∀ b, Own env2 σ b → Own env1 σ b := by
  cases a with
  | val e =>
    cases h
    exact ⟨re.less fun _ z => .inl z, Rep.less (fun _ z => z.imp .inl id) ra, fun _ z => z⟩
  | tmp e =>
    cases h
    obtain ⟨q, rfl, n, b⟩ := ra
    refine ⟨re.less fun b z => .inl z, ?_, fun _ z => z⟩
    refine b.rep (fun b z => z.imp .inl id) fun z => z.elim n fun ⟨j, d', z1, z2⟩ => ?_
    obtain ⟨a, e1, e2, _⟩ := re.own j d' z1
    rw [z2] at e1
    cases e1
    exact e2 (.inr rfl)
  | own i =>
    have q : σ[i]? = some (some v) := ra
    unfold A.freeze at h
    dsimp only at h
    split at h
    · rename_i s hs
      cases h
      exact (re.less (U' := U) fun _ z => .inl z).frozen hs q
    · cases h
theorem Post.frozen (p : Post Γ U env σ H a env1 v H1) (h : a.freeze env1 = .ok d env2) : Post Γ U env σ H (.val d) env2 v H1 := by
  obtain ⟨r1, r2, r3⟩ := frozen_core p.re p.ra h
  exact ⟨r1.less fun _ z => UA_val z, Rep.less (fun _ z => z.imp UA_val id) r2, p.st.shr fun b z => .inl (r3 b (z.elim id fun y => by cases v <;> exact y.elim))⟩
theorem freeze_step {β : Type} {k : D → Env → Out β} {OK : β → Env → Prop} {EX : Exn → Env → Prop} (p : Post Γ U env σ H a env1 v H1) (h : Wp ((a.freeze env1).bind k) OK EX) :
    ∃ d env2, Post Γ U env σ H (.val d) env2 v H1 ∧ Wp (k d env2) OK EX := by
  cases q : a.freeze env1 with
  | ok d env2 =>
    rw [q] at h
    exact ⟨d, env2, p.frozen q, h⟩
  | exn x env2 =>
    cases a <;> simp only [A.freeze] at q <;> first | cases q | (split at q <;> cases q)
  | stuck =>
    rw [q] at h
    exact h.elim
theorem Post.reU {d : D} (p : Post Γ U env σ H (.val d) env1 v H1) : RE Γ U env1 σ H1 := p.re.less fun _ z => .inl z

/-! ### names, constants, operators -/
theorem q_var {i : Nat} {n : Str} (hN : X.N[i]? = some n) (hv : Vis X.env.scope n) (hd : (n == ("__debug__" : Str)) = false) (hcd : (n == ("__classdict__" : Str)) = false) : QE Γ X (.Name n pos) (evA P (.var i)) := fun xe W tk =>
  PE.imp (pe_var (X := X.wish xe) hN hv hd hcd) fun σ H Q ⟨U, env, r, h⟩ => by
    simp only [evA] at h
    split at h
    · rename_i d hs
      obtain ⟨v, e1, e2⟩ := r.val i d hs
      exact ⟨v, e1, h v H (.pure r e2)⟩
    · rename_i d hs
      obtain ⟨a, e1, e2, e3⟩ := r.own i d hs
      exact ⟨_, e1, h _ H (.slot r e1)⟩
    · exact h.elim
theorem q_cst {v : V} (hp : ∀ xe, PE (X.wish xe) ea (tC v)) (hr : ∀ O H, Rep Γ O H v d) : QE Γ X ea (evA P (.cst d)) := fun xe W tk =>
  PE.imp (hp xe) fun σ H Q ⟨U, env, r, h⟩ => by
    simp only [evA] at h
    exact h v H (.pure r (hr _ _))
theorem q_int {i : Int} {j : Nat} : QE Γ X (.Constant (.int i) j pos) (evA P (.cst (.int i))) := q_cst (fun _ => pe_int) fun _ _ => .int i
theorem q_bl {i : Bool} {j : Nat} : QE Γ X (.Constant (.bool i) j pos) (evA P (.cst (.bl i))) := q_cst (fun _ => pe_bl) fun _ _ => .bl i
theorem q_non {j : Nat} : QE Γ X (.Constant .none j pos) (evA P (.cst .non)) := q_cst (fun _ => pe_non) fun _ _ => .non
theorem q_str {i : Str} {j : Nat} : QE Γ X (.Constant (.str i) j pos) (evA P (.cst (.str i))) := q_cst (fun _ => pe_str) fun _ _ => .str i

/-- a value at the end -/
theorem fin_val {Q : VK} (hq : ∀ v H', Post Γ U env σ H (.val d) env1 v H' → Q v H') (p : Post Γ U env σ H x env1 v H1) (q : Rep Γ (fun b => UA U x v b ∨ Own env1 σ b) H1 w d) : Q w H1 :=
  hq _ _ (p.comp (.pure p.re q))
theorem q_neg {a : E} (ha : QE Γ X ea (evA P a)) : QE Γ X (.UnaryOp .USub ea pos) (evA P (.neg a)) := fun xe W tk =>
  PE.imp (pe_un un_neg (ha xe W tk)) fun σ H Q ⟨U, env, r, h⟩ => by
    simp only [evA] at h
    refine (stepE r (fun x e cls d H' p q => q cls d H' p) h).mono fun v H1 ⟨x, env1, p, h⟩ => ?_
    split at h
    · have q : Rep Γ _ H1 v _ := p.ra
      cases q
      exact ⟨_, rfl, fin_val h p (.int _)⟩
    · exact h.elim
theorem q_bin {o : Bo} {a b : E} (ha : QE Γ X ea (evA P a)) (hb : QE Γ X eb (evA P b)) (hK : X.K = Γ.K) : QE Γ X (.BinOp ea o.op eb pos) (evA P (.bin o a b)) := fun xe W tk =>
  PE.imp (pe_op (op_bin o) (ha xe W tk) (hb xe W tk)) fun σ H Q ⟨U, env, r, h⟩ => by
    simp only [evA] at h
    refine (stepE r (fun x e cls d H' p q => q cls d H' p) h).mono fun v H1 ⟨x, env1, p1, h⟩ => ?_
    refine (stepE p1.re (fun x e cls d H' p q => q cls d H' (p1.xcomp p)) h).mono fun w H2 ⟨y, env2, p2, h⟩ => ?_
    split at h
    · rename_i d e hd he
      split at h
      · rename_i g hg
        show rBin X.K o v w H2 Q
        rw [hK]
        exact binF_ok hg (look_vw p2.re (p1.carry p2) (fun _ z => z) (fun _ z => z) hd) (p2.vw he) p2.re fun u H' p3 => h u H' (p1.comp (p2.comp p3))
      · exact h.elim
    · exact h.elim
theorem cmp_core {o : Co} {a b : E} {Q : VK} (hK : X.K = Γ.K) (h : tE Γ (evA P (.cmp o a b)) W σ H Q) : tOp (rCmp X.K o) (tE Γ (evA P a) W) (tE Γ (evA P b) W) σ H Q := by
    obtain ⟨U, env, r, h⟩ := h
    simp only [evA] at h
    refine (stepE r (fun x e cls d H' p q => q cls d H' p) h).mono fun v H1 ⟨x, env1, p1, h⟩ => ?_
    refine (stepE p1.re (fun x e cls d H' p q => q cls d H' (p1.xcomp p)) h).mono fun w H2 ⟨y, env2, p2, h⟩ => ?_
    split at h
    · rename_i d e hd he
      split at h
      · rename_i g hg
        show rCmp X.K o v w H2 Q
        rw [hK]
        exact cmpF_ok hg (look_vw p2.re (p1.carry p2) (fun _ z => z) (fun _ z => z) hd) (p2.vw he) (fin_val h (p1.comp p2) (.bl _))
      · exact h.elim
    · exact h.elim
theorem q_cmp {o : Co} {a b : E} (ha : QE Γ X ea (evA P a)) (hb : QE Γ X eb (evA P b)) (hK : X.K = Γ.K) (hu : X.A.units + 65 < cLine) (hm : behindInMarks o.op eb = false) : QE Γ X (.Compare ea [o.op] [eb] pos) (evA P (.cmp o a b)) := fun xe W tk =>
  PE.imp (pe_cmpR (op_cmp o hu) (ha xe W tk) (hb xe W tk) hm) fun σ H Q h => by
    exact cmp_core hK h
theorem chain_core {o p : Co} {a b c : E} {Q : VK} (hK : X.K = Γ.K) (h : tE Γ (evA P (.chain o p a b c)) W σ H Q) : tChain (rCmp X.K o) (rCmp X.K p) (tE Γ (evA P a) W) (tE Γ (evA P b) W) (tE Γ (evA P c) W) σ H Q := by
    obtain ⟨U, env, r, h⟩ := h
    simp only [evA] at h
    refine (stepE r (fun x e cls d H' p q => q cls d H' p) h).mono fun v H1 ⟨x, env1, p1, h⟩ => ?_
    refine (stepE p1.re (fun x e cls d H' p q => q cls d H' (p1.xcomp p)) h).mono fun w H2 ⟨y, env2, p2, h⟩ => ?_
    split at h
    · rename_i d e hd he
      show rCmp X.K o v w H2 _
      rw [hK]
      split at h
      · rename_i hg
        refine cmpF_ok hg (look_vw p2.re (p1.carry p2) (fun _ z => z) (fun _ z => z) hd) (p2.vw he) ⟨true, rfl, ?_⟩
        rw [if_pos rfl]
        refine (stepE p2.re (fun x e cls d H' p q => q cls d H' (p1.xcomp (p2.xcomp p))) h).mono fun u H3 ⟨z, env3, p3, h⟩ => ?_
        split at h
        · rename_i e' g' he' hg'
          split at h
          · rename_i hk
            exact cmpF_ok hk (look_vw p3.re (p2.carry p3) (fun _ z => z) (fun _ z => z) he') (p3.vw hg') (fin_val h (p1.comp (p2.comp p3)) (.bl _))
          · exact h.elim
        · exact h.elim
      · rename_i hg
        refine cmpF_ok hg (look_vw p2.re (p1.carry p2) (fun _ z => z) (fun _ z => z) hd) (p2.vw he) ⟨false, rfl, ?_⟩
        rw [if_neg Bool.false_ne_true]
        exact fin_val h (p1.comp p2) (.bl _)
      · exact h.elim
    · exact h.elim
theorem q_chain {o p : Co} {a b c : E} (ha : QE Γ X ea (evA P a)) (hb : QE Γ X eb (evA P b)) (hc : QE Γ X ec (evA P c)) (hK : X.K = Γ.K) (hu : X.A.units + 65 < cLine) (hm : lastMarks [o.op, p.op] [eb, ec] = false) :
    QE Γ X (.Compare ea [o.op, p.op] [eb, ec] pos) (evA P (.chain o p a b c)) := fun xe W tk =>
  PE.imp (pe_chain (op_cmp o hu) (op_cmp p hu) (ha xe W tk) (hb xe W tk) (hc xe W tk) hm) fun σ H Q h => chain_core hK h
theorem pe_or {X : Cx} {e : Expr} {t t' : TE} (h : PE X e t) (h' : PE X e t') : PE X e (fun σ H Q => t σ H Q ∨ t' σ H Q) := ⟨fun pins s σ H Q I hq => hq.elim (h.run pins s σ H Q I) (h'.run pins s σ H Q I)⟩
theorem q_idx {a b : E} (ha : QE Γ X ea (evA P a)) (hb : QE Γ X eb (evA P b)) (hK : X.K = Γ.K) (hu : X.A.units + 65 < cLine) (hs : PlainIx eb) (hns : NoSl eb) : QE Γ X (.Subscript ea eb pos) (evA P (.idx a b)) := fun xe W tk =>
  PE.imp (pe_or (pe_ix ix_seq (ha xe W tk) (hb xe W tk) hs) (pe_dget (X := X.wish xe) (by show X.A.units + 1 < cLine; omega) (ha xe W tk) (hb xe W tk) hns)) fun σ H Q ⟨U, env, r, h⟩ => by
    simp only [evA] at h
    by_cases dd : ∃ x env1 y env2 t kvs, evA P a env = .ok x env1 ∧ evA P b env1 = .ok y env2 ∧ x.look env2 = some (.dic t kvs)
    · obtain ⟨x0, env10, y0, env20, t, kvs, e1, e2, e3⟩ := dd
      rw [e1, Out.bind_ok, e2, Out.bind_ok, e3] at h
      refine .inr ⟨U, env, r, ?_⟩
      rw [e1]
      refine fun v H1 p1 => ⟨_, env10, p1.re, ?_⟩
      rw [e2]
      refine fun w H2 p2 => ?_
      split at h
      · rename_i d e hd he
        cases hd
        split at h
        · rename_i g hg
          have hg : (if keyOk t e = true then dget kvs e else none) = some g := hg
          split at hg
          · rename_i hk
            obtain ⟨a, u, q1, q2, q3⟩ := dget_ok (look_vw p2.re (p1.carry p2) (fun _ z => z) (fun _ z => z) e3) (p2.vw he) hk hg
            exact ⟨a, u, q1, q2, fin_val h (p1.comp p2) (q3.less fun b z => z.imp (fun y => y.elim (fun k => .inl (.inl k)) fun k => by first | exact .inr k | exact .inl (.inr k)) id)⟩
          · cases hg
        · exact h.elim
      · exact h.elim
    · refine .inl ?_
      rw [Wp.bind] at h
      refine ⟨U, env, r, h.eqn.mono (fun x env1 ⟨h, e1⟩ v H1 p1 => ?_) fun x e h cls d H' p => h cls d H' p⟩
      rw [Wp.bind] at h
      refine ⟨_, env1, p1.re, h.eqn.mono (fun y env2 ⟨h, e2⟩ w H2 p2 => ?_) fun x e h cls d H' p => h cls d H' (p1.xcomp p)⟩
      split at h
      · rename_i d e hd he
        split at h
        · rename_i g hg
          show rIx X.K v w H2 Q
          rw [hK]
          exact idxF_ok hg (look_vw p2.re (p1.carry p2) (fun _ z => z) (fun _ z => z) hd) (p2.vw he) (fun t kvs z => dd ⟨x, env1, y, env2, t, kvs, e1, e2, by rw [hd, z]⟩) fun u q => fin_val h (p1.comp p2) (q.less fun b z => z.imp (fun y => y.elim (fun k => .inl (.inl k)) fun k => by first | exact .inr k | exact .inl (.inr k)) id)
        · exact h.elim
      · exact h.elim

/-! ### truth, and, or, not -/
theorem q_nt {a : E} (ha : QE Γ X ea (evA P a)) (hK : X.K = Γ.K) : QE Γ X (.UnaryOp .Not ea pos) (evA P (.nt a)) := fun xe W tk =>
  PE.imp (pe_notT (ha xe W tk)) fun σ H Q ⟨U, env, r, h⟩ => by
    simp only [evA] at h
    refine (stepE r (fun x e cls d H' p q => q cls d H' p) h).mono fun v H1 ⟨x, env1, p, h⟩ => ?_
    split at h
    · rename_i b hb
      obtain ⟨d, hd, hb⟩ := Option.bind_eq_some_iff.mp hb
      refine ⟨b, ?_, fin_val h p (.bl _)⟩
      show TruV X.K v H1 b
      rw [hK]
      exact truth_ok hb (p.vw hd)
    · exact h.elim
theorem q_an {a b : E} {rest : List Expr} (ha : QE Γ X ea (evA P a)) (hb : QE Γ X (.BoolOp .And (eb :: rest) pos) (evA P b)) (hK : X.K = Γ.K) : QE Γ X (.BoolOp .And (ea :: eb :: rest) pos) (evA P (.an a b)) := fun xe W tk =>
  PE.imp (pe_andT (ha xe W tk) (hb xe W tk)) fun σ H Q ⟨U, env, r, h⟩ => by
    simp only [evA] at h
    refine (stepE r (fun x e cls d H' p q => q cls d H' p) h).mono fun v H1 ⟨x, env1, p, h⟩ => ?_
    have tr : ∀ {d b}, x.look env1 = some d → d.truth = some b → TruV (X.wish xe).K v H1 b := fun h1 h2 => by
      show TruV X.K v H1 _
      rw [hK]
      exact truth_ok h2 (p.vw h1)
    split at h
    · rename_i hb'
      obtain ⟨d, hd, hb'⟩ := Option.bind_eq_some_iff.mp hb'
      refine ⟨true, tr hd hb', ?_⟩
      rw [if_pos rfl]
      exact ⟨_, _, p.re, h.mono (fun a e q v H' p' => q v H' (p.comp p')) fun x e q cls d H' p' => q cls d H' (p.xcomp p')⟩
    · rename_i hb'
      obtain ⟨d, hd, hb'⟩ := Option.bind_eq_some_iff.mp hb'
      refine ⟨false, tr hd hb', ?_⟩
      rw [if_neg Bool.false_ne_true]
      exact h _ _ p
    · exact h.elim
theorem q_or {a b : E} {rest : List Expr} (ha : QE Γ X ea (evA P a)) (hb : QE Γ X (.BoolOp .Or (eb :: rest) pos) (evA P b)) (hK : X.K = Γ.K) : QE Γ X (.BoolOp .Or (ea :: eb :: rest) pos) (evA P (.or a b)) := fun xe W tk =>
  PE.imp (pe_orT (ha xe W tk) (hb xe W tk)) fun σ H Q ⟨U, env, r, h⟩ => by
    simp only [evA] at h
    refine (stepE r (fun x e cls d H' p q => q cls d H' p) h).mono fun v H1 ⟨x, env1, p, h⟩ => ?_
    have tr : ∀ {d b}, x.look env1 = some d → d.truth = some b → TruV (X.wish xe).K v H1 b := fun h1 h2 => by
      show TruV X.K v H1 _
      rw [hK]
      exact truth_ok h2 (p.vw h1)
    split at h
    · rename_i hb'
      obtain ⟨d, hd, hb'⟩ := Option.bind_eq_some_iff.mp hb'
      refine ⟨false, tr hd hb', ?_⟩
      rw [if_neg Bool.false_ne_true]
      exact ⟨_, _, p.re, h.mono (fun a e q v H' p' => q v H' (p.comp p')) fun x e q cls d H' p' => q cls d H' (p.xcomp p')⟩
    · rename_i hb'
      obtain ⟨d, hd, hb'⟩ := Option.bind_eq_some_iff.mp hb'
      refine ⟨true, tr hd hb', ?_⟩
      rw [if_pos rfl]
      exact h _ _ p
    · exact h.elim
theorem q_one {op : BoolOp} {a : E} (ha : QE Γ X ea (evA P a)) : QE Γ X (.BoolOp op [ea] pos) (evA P a) := fun xe W tk => pe_one (ha xe W tk)
theorem q_ite {c a b : E} (hc : QT Γ X ec (evT P c)) (ha : QE Γ X ea (evA P a)) (hb : QE Γ X eb (evA P b)) : QE Γ X (.IfExp ec ea eb pos) (evA P (.ite c a b)) := fun xe W tk =>
  PE.imp (pe_ifExp (hc xe W tk) (ha xe W tk) (hb xe W tk)) fun σ H Q ⟨U, env, r, h⟩ => by
    simp only [evA] at h
    refine (stepT r (fun x e cls d H' p q => q cls d H' p) h).mono fun k H1 ⟨env1, p, h⟩ => ?_
    cases k with
    | true =>
      rw [if_pos rfl] at h ⊢
      exact ⟨_, _, p.re, h.mono (fun a e q v H' p' => q v H' (p.comp p')) fun x e q cls d H' p' => q cls d H' (p.xcomp p')⟩
    | false =>
      rw [if_neg Bool.false_ne_true] at h ⊢
      exact ⟨_, _, p.re, h.mono (fun a e q v H' p' => q v H' (p.comp p')) fun x e q cls d H' p' => q cls d H' (p.xcomp p')⟩

/-! ### tests -/
/-- a test of a value, by its truth -/
def tru (m : M A) : M Bool := fun env => (m env).bind fun x env => match (x.look env).bind D.truth with
  | some b => .ok b env
  | none => .stuck
theorem fin_b {Q : Bool → Hp → Prop} {b : Bool} (hq : ∀ H', Post Γ U env σ H (.val (.bl b)) env1 (.bl b) H' → Q b H') (p : Post Γ U env σ H x env1 v H1) : Q b H1 :=
  hq _ (p.comp (.pure p.re (.bl b)))
theorem qt_tru {m : M A} (ha : QE Γ X ea m) (hK : X.K = Γ.K) (he : ∀ whole, isTrue ea X.env whole = (do let v ← whole; standAt ea.pos; holding [v] (truthy v))) : QT Γ X ea (tru m) := fun xe W tk =>
  PT.imp (pt_truth (ha xe W tk) he) fun σ H Q ⟨U, env, r, h⟩ => by
    refine (stepE r (fun x e cls d H' p q => q cls d H' p) h).mono fun v H1 ⟨x, env1, p, h⟩ => ?_
    split at h
    · rename_i b hb
      obtain ⟨d, hd, hb⟩ := Option.bind_eq_some_iff.mp hb
      refine ⟨b, ?_, fin_b h p⟩
      show TruV X.K v H1 b
      rw [hK]
      exact truth_ok hb (p.vw hd)
    · exact h.elim
theorem tru_of {m : M A} {Q : Bool → Hp → Prop} (hb : ∀ env a env', m env = .ok a env' → ∃ b, a = .val (.bl b)) (h : tT Γ (tru m) W σ H Q) : tE Γ m W σ H fun v H' => ∃ k, v = .bl k ∧ Q k H' := by
  obtain ⟨U, env, r, h⟩ := h
  refine ⟨U, env, r, ?_⟩
  unfold tru at h
  rw [Wp.bind] at h
  cases q : m env with
  | ok a env' =>
    obtain ⟨b, rfl⟩ := hb env a env' q
    rw [q] at h
    intro v H' p
    have z : Rep Γ _ H' v (.bl b) := p.ra
    cases z
    exact ⟨b, rfl, h H' p⟩
  | exn x env' =>
    rw [q] at h
    exact h
  | stuck =>
    rw [q] at h
    exact h
theorem cmp_bl {o : Co} {a b : E} (env : Env) (x : A) (env' : Env) (h : evA P (.cmp o a b) env = .ok x env') : ∃ k, x = .val (.bl k) := by
  simp only [evA, Out.bind] at h
  repeat' (first | (split at h) | (cases h; exact ⟨_, rfl⟩) | cases h)
theorem chain_bl {o p : Co} {a b c : E} (env : Env) (x : A) (env' : Env) (h : evA P (.chain o p a b c) env = .ok x env') : ∃ k, x = .val (.bl k) := by
  simp only [evA, Out.bind] at h
  repeat' (first | (split at h) | (cases h; exact ⟨_, rfl⟩) | cases h)
theorem qt_cmp {o : Co} {a b : E} (ha : QE Γ X ea (evA P a)) (hb : QE Γ X eb (evA P b)) (hK : X.K = Γ.K) (hu : X.A.units + 65 < cLine) (hm : behindInMarks o.op eb = false) : QT Γ X (.Compare ea [o.op] [eb] pos) (tru (evA P (.cmp o a b))) := fun xe W tk =>
  PT.imp (pt_cmpR (op_cmp o hu) (ha xe W tk) (hb xe W tk) hm) fun σ H Q h => cmp_core hK (tru_of cmp_bl h)
theorem qt_chain {o p : Co} {a b c : E} (ha : QE Γ X ea (evA P a)) (hb : QE Γ X eb (evA P b)) (hc : QE Γ X ec (evA P c)) (hK : X.K = Γ.K) (hu : X.A.units + 65 < cLine) (hm : lastMarks [o.op, p.op] [eb, ec] = false) :
    QT Γ X (.Compare ea [o.op, p.op] [eb, ec] pos) (tru (evA P (.chain o p a b c))) := fun xe W tk =>
  PT.imp (pt_chain (op_cmp o hu) (op_cmp p hu) (ha xe W tk) (hb xe W tk) (hc xe W tk) hm) fun σ H Q h => chain_core hK (tru_of chain_bl h)
theorem qt_nt {a : E} (ha : QT Γ X ea (evT P a)) : QT Γ X (.UnaryOp .Not ea pos) (evT P (.nt a)) := fun xe W tk =>
  PT.imp (pt_not (ha xe W tk)) fun σ H Q ⟨U, env, r, h⟩ => by
    simp only [evT] at h
    exact (stepT r (fun x e cls d H' p q => q cls d H' p) h).mono fun k H1 ⟨env1, p, h⟩ => fin_b h p
structure QW (Γ : Glob) (X : Cx) (e : Expr) (m : M Bool) : Prop where
  run : ∀ (xe : Value → Shared → Prop) (W : WX), Takes (X.wish xe) W → PW (X.wish xe) e (tT Γ m W)
theorem PW.imp {X : Cx} {e : Expr} {t t' : TT} (h : PW X e t) (hi : ∀ σ H Q, t' σ H Q → t σ H Q) : PW X e t' := ⟨fun wh pins s σ H Q I hq => h.run wh pins s σ H Q I (hi σ H Q hq)⟩
theorem qw_and1 (ha : QT Γ X ea ta) : QW Γ X (.BoolOp .And [ea] pos) ta := ⟨fun xe W tk => pw_and1 (ha xe W tk)⟩
theorem qw_or1 (ha : QT Γ X ea ta) : QW Γ X (.BoolOp .Or [ea] pos) ta := ⟨fun xe W tk => pw_or1 (ha xe W tk)⟩
theorem qw_and {a b : E} {rest : List Expr} (ha : QT Γ X ea (evT P a)) (hb : QW Γ X (.BoolOp .And (eb :: rest) pos) (evT P b)) : QW Γ X (.BoolOp .And (ea :: eb :: rest) pos) (evT P (.an a b)) := ⟨fun xe W tk =>
  PW.imp (pw_and (ha xe W tk) (hb.run xe W tk)) fun σ H Q ⟨U, env, r, h⟩ => by
    simp only [evT] at h
    refine (stepT r (fun x e cls d H' p q => q cls d H' p) h).mono fun k H1 ⟨env1, p, h⟩ => ?_
    cases k with
    | true =>
      rw [if_pos rfl] at h ⊢
      exact ⟨_, _, p.re, h.mono (fun a e q H' p' => q H' (p.comp p')) fun x e q cls d H' p' => q cls d H' (p.xcomp p')⟩
    | false =>
      rw [if_neg Bool.false_ne_true] at h ⊢
      exact fin_b h p⟩
theorem qw_or {a b : E} {rest : List Expr} (ha : QT Γ X ea (evT P a)) (hb : QW Γ X (.BoolOp .Or (eb :: rest) pos) (evT P b)) : QW Γ X (.BoolOp .Or (ea :: eb :: rest) pos) (evT P (.or a b)) := ⟨fun xe W tk =>
  PW.imp (pw_or (ha xe W tk) (hb.run xe W tk)) fun σ H Q ⟨U, env, r, h⟩ => by
    simp only [evT] at h
    refine (stepT r (fun x e cls d H' p q => q cls d H' p) h).mono fun k H1 ⟨env1, p, h⟩ => ?_
    cases k with
    | false =>
      rw [if_neg Bool.false_ne_true] at h ⊢
      exact ⟨_, _, p.re, h.mono (fun a e q H' p' => q H' (p.comp p')) fun x e q cls d H' p' => q cls d H' (p.xcomp p')⟩
    | true =>
      rw [if_pos rfl] at h ⊢
      exact fin_b h p⟩
theorem QW.qt {e : Expr} {m : M Bool} (h : QW Γ X e m) : QT Γ X e m := fun xe W tk => (h.run xe W tk).pt
theorem qt_ite {c a b : E} (hc : QT Γ X ec (evT P c)) (ha : QT Γ X ea (evT P a)) (hb : QT Γ X eb (evT P b)) : QT Γ X (.IfExp ec ea eb pos) (evT P (.ite c a b)) := fun xe W tk => by
  refine ⟨fun pins s σ H Q I ⟨U, env, r, h⟩ => ?_⟩
  simp only [evT] at h
  refine PyProof.Rows.isTrue_IfExp (thn ((hc xe W tk).run pins s σ H _ I (stepT r (fun x e cls d H' p q => q cls d H' p) h)) fun k s1 ⟨H1, I1, env1, p, h⟩ => ?_)
  cases k with
  | true =>
    rw [if_pos rfl] at h ⊢
    exact (ha xe W tk).run pins s1 σ H1 Q I1 ⟨_, _, p.re, h.mono (fun a e q H' p' => q H' (p.comp p')) fun x e q cls d H' p' => q cls d H' (p.xcomp p')⟩
  | false =>
    rw [if_neg Bool.false_ne_true] at h ⊢
    exact (hb xe W tk).run pins s1 σ H1 Q I1 ⟨_, _, p.re, h.mono (fun a e q H' p' => q H' (p.comp p')) fun x e q cls d H' p' => q cls d H' (p.xcomp p')⟩
end
end Ev
end
section
set_option maxRecDepth 100000
set_option maxHeartbeats 1000000
namespace Ev
open PySem PySem.Spec L2

theorem Stp.add {W W' V' : Addr → Prop} {H H' : Hp} (s : Stp W H W' H') (h : ∀ a, V' a → W a ∨ H a = none) : Stp W H (fun a => W' a ∨ V' a) H' :=
  ⟨s.keep, s.tups, s.frzs, fun a z => z.elim (s.sub a) (h a), s.there⟩

/-! ### rows of things in hand -/
def isTmps : List A → List V → Addr → Prop
  | a :: as, v :: vs, b => isTmp a v b ∨ isTmps as vs b
  | _, _, _ => False
def UAs (U : Addr → Prop) (as : List A) (vs : List V) (b : Addr) : Prop := U b ∨ isTmps as vs b
def RAs (Γ : Glob) (U O : Addr → Prop) (σ : St) (H : Hp) : List A → List V → Prop
  | [], [] => True
  | a :: as, v :: vs => RA Γ U O σ H a v ∧ RAs Γ (UA U a v) O σ H as vs
  | _, _ => False
structure PostAs (Γ : Glob) (U : Addr → Prop) (env : Env) (σ : St) (H : Hp) (as : List A) (env' : Env) (vs : List V) (H' : Hp) : Prop where
  re : RE Γ (UAs U as vs) env' σ H'
  ra : RAs Γ U (fun b => UAs U as vs b ∨ Own env' σ b) σ H' as vs
  st : Stp (Own env σ) H (fun b => Own env' σ b ∨ isTmps as vs b) H'
def tAs (Γ : Glob) (m : M (List A)) (W : WX) : TA := fun σ H Q => ∃ U env, RE Γ U env σ H ∧
  Wp (m env) (fun as env' => ∀ vs H', PostAs Γ U env σ H as env' vs H' → Q vs H') fun x env' => ∀ cls d H', XPost Γ U env σ H x env' cls d H' → W cls d σ H'
def QAs (Γ : Glob) (X : Cx) (es : List Expr) (m : M (List A)) : Prop := ∀ (xe : Value → Shared → Prop) (W : WX), Takes (X.wish xe) W → PA (X.wish xe) es (tAs Γ m W)
structure PostVs (Γ : Glob) (U : Addr → Prop) (env : Env) (σ : St) (H : Hp) (ds : List D) (env' : Env) (vs : List V) (H' : Hp) : Prop where
  re : RE Γ U env' σ H'
  rs : Reps Γ (fun b => U b ∨ Own env' σ b) H' vs ds
  st : Stp (Own env σ) H (Own env' σ) H'
def tVs (Γ : Glob) (m : M (List D)) (W : WX) : TA := fun σ H Q => ∃ U env, RE Γ U env σ H ∧
  Wp (m env) (fun ds env' => ∀ vs H', PostVs Γ U env σ H ds env' vs H' → Q vs H') fun x env' => ∀ cls d H', XPost Γ U env σ H x env' cls d H' → W cls d σ H'
def QVs (Γ : Glob) (X : Cx) (es : List Expr) (m : M (List D)) : Prop := ∀ (xe : Value → Shared → Prop) (W : WX), Takes (X.wish xe) W → PA (X.wish xe) es (tVs Γ m W)

def notStar : Expr → Bool
  | .Starred .. => false
  | _ => true
theorem starEach_cons {e : Expr} {es : List Expr} {env : PySem.Env} (h : notStar e = true) : starEach (e :: es) env = (false, eval e env) :: starEach es env := by
  cases e <;> first | rfl | cases h

section
variable {Γ : Glob} {X : Cx} {P : Par} {U U' U1 O O' : Addr → Prop} {env env' env1 env2 env3 : Env} {σ : St} {H H1 H2 H3 H' : Hp} {a x y z : A} {as : List A} {v w u : V} {vs : List V} {d e : D} {ds : List D} {W : WX} {pos : Pos} {ea eb ec : Expr} {es : List Expr}
theorem RAs.less : ∀ {as : List A} {vs : List V} {U U' : Addr → Prop}, (∀ a, O' a → O a) → (∀ a, U' a → U a) → RAs Γ U O σ H as vs → RAs Γ U' O' σ H as vs
  | [], [], _, _, _, _, _ => trivial
  | _ :: _, _ :: _, _, _, h, h', ⟨r, rs⟩ => ⟨r.less h h', RAs.less h (fun a z => z.imp (h' a) id) rs⟩
  | [], _ :: _, _, _, _, _, r => r
  | _ :: _, [], _, _, _, _, r => r
theorem PostAs.nil (r : RE Γ U env σ H) : PostAs Γ U env σ H [] env [] H := ⟨r.less fun _ z => z.elim id fun y => y.elim, trivial, (Stp.refl _ _).shr fun _ z => z.elim id fun y => y.elim⟩
theorem PostAs.cons (p1 : Post Γ U env σ H a env1 v H1) (p2 : PostAs Γ (UA U a v) env1 σ H1 as env2 vs H2) : PostAs Γ U env σ H (a :: as) env2 (v :: vs) H2 := by
  have hO : ∀ b, UAs U (a :: as) (v :: vs) b → UAs (UA U a v) as vs b := fun b z => z.elim (fun y => .inl (.inl y)) fun y => y.elim (fun k => .inl (.inr k)) .inr
  refine ⟨p2.re.less hO, ⟨p1.ra.on p1.re p2.st fun b z => ?_, p2.ra.less (fun b z => z.imp (hO b) id) fun _ z => z⟩, ?_⟩
  · rcases z with (z | z | z) | z
    · exact .inr (.inl (.inl (.inl z)))
    · exact .inr (.inl (.inl (.inr z)))
    · exact .inl (.inr z)
    · exact .inl (.inl z)
  · refine ((p1.st.comp p2.st fun b z => .inl z).add (V' := isTmp a v) fun b z => p1.st.sub b (.inr z)).shr fun b z => ?_
    rcases z with z | z | z
    · exact .inl (.inl z)
    · exact .inr z
    · exact .inl (.inr z)
theorem Post.xcompAs (p1 : PostAs Γ U env σ H as env1 vs H1) {e : Exn} {cls : Value} {dd : Option Addr} (px : XPost Γ (UAs U as vs) env1 σ H1 e env2 cls dd H2) : XPost Γ U env σ H e env2 cls dd H2 where
  re := px.re.less fun a z => .inl z
  xr := px.xr
  st := p1.st.comp px.st fun a z => .inl z
/-- a thing made of a row of things -/
theorem PostAs.comp (p1 : PostAs Γ U env σ H as env1 vs H1) (p2 : Post Γ (UAs U as vs) env1 σ H1 y env2 w H2) : Post Γ U env σ H y env2 w H2 where
  re := p2.re.less fun a z => z.imp .inl id
  ra := p2.ra.less (fun a z => z.imp (fun y => y.imp .inl id) id) fun a z => .inl z
  st := p1.st.comp p2.st fun a z => .inl z
theorem PostVs.comp (p1 : PostVs Γ U env σ H ds env1 vs H1) (p2 : Post Γ U env1 σ H1 y env2 w H2) : Post Γ U env σ H y env2 w H2 := ⟨p2.re, p2.ra, p1.st.comp p2.st fun _ z => z⟩
theorem PostVs.nil (r : RE Γ U env σ H) : PostVs Γ U env σ H [] env [] H := ⟨r, .nil, Stp.refl _ _⟩
theorem PostVs.cons (p1 : Post Γ U env σ H (.val d) env1 v H1) (p2 : PostVs Γ U env1 σ H1 ds env2 vs H2) : PostVs Γ U env σ H (d :: ds) env2 (v :: vs) H2 := by
  have q : Rep Γ _ H1 v d := p1.ra
  refine ⟨p2.re, .cons (q.stp (p2.st.mono (fun b z => .inr z) fun b z => ?_)) p2.rs, p1.st.comp p2.st fun b z => .inl z⟩
  exact z.elim (fun y => .inr (.inl (.inl (.inl y)))) .inl
theorem Post.valU (p : Post Γ U env σ H (.val d) env1 v H1) {m : M A} : RE Γ U env1 σ H1 := p.reU
theorem q_anil : QAs Γ X [] (evAs P .nil) := fun xe W tk => PA.imp pa_nil fun σ H Q ⟨U, env, r, h⟩ => by
  simp only [evAs] at h
  exact h [] H (.nil r)
theorem tAs.mono {m : M (List A)} {Q Q' : List V → Hp → Prop} (h : tAs Γ m W σ H Q) (hQ : ∀ v H', Q v H' → Q' v H') : tAs Γ m W σ H Q' := by
  obtain ⟨U, env, r, h⟩ := h
  exact ⟨U, env, r, h.mono (fun a e q v H' p => hQ v H' (q v H' p)) fun _ _ q => q⟩
theorem tVs.mono {m : M (List D)} {Q Q' : List V → Hp → Prop} (h : tVs Γ m W σ H Q) (hQ : ∀ v H', Q v H' → Q' v H') : tVs Γ m W σ H Q' := by
  obtain ⟨U, env, r, h⟩ := h
  exact ⟨U, env, r, h.mono (fun a e q v H' p => hQ v H' (q v H' p)) fun _ _ q => q⟩
theorem stepAs {m : M (List A)} {β : Type} {k : List A → Env → Out β} {OK : β → Env → Prop} {EX : Exn → Env → Prop} (r : RE Γ U env σ H)
    (hx : ∀ x e cls d H', XPost Γ U env σ H x e cls d H' → EX x e → W cls d σ H') (h : Wp ((m env).bind k) OK EX) :
    tAs Γ m W σ H fun v H1 => ∃ a env1, PostAs Γ U env σ H a env1 v H1 ∧ Wp (k a env1) OK EX :=
  ⟨U, env, r, (Wp.bind.mp h).mono (fun a e q v H' p => ⟨a, e, p, q⟩) fun x e q cls d H' p => hx x e cls d H' p q⟩
theorem stepVs {m : M (List D)} {β : Type} {k : List D → Env → Out β} {OK : β → Env → Prop} {EX : Exn → Env → Prop} (r : RE Γ U env σ H)
    (hx : ∀ x e cls d H', XPost Γ U env σ H x e cls d H' → EX x e → W cls d σ H') (h : Wp ((m env).bind k) OK EX) :
    tVs Γ m W σ H fun v H1 => ∃ a env1, PostVs Γ U env σ H a env1 v H1 ∧ Wp (k a env1) OK EX :=
  ⟨U, env, r, (Wp.bind.mp h).mono (fun a e q v H' p => ⟨a, e, p, q⟩) fun x e q cls d H' p => hx x e cls d H' p q⟩
theorem q_acons {a : E} {as : Es} (ha : QE Γ X ea (evA P a)) (hs : QAs Γ X es (evAs P as)) (hst : notStar ea = true) : QAs Γ X (ea :: es) (evAs P (.cons a as)) := fun xe W tk =>
  PA.imp (pa_cons (ha xe W tk) (hs xe W tk) (starEach_cons hst)) fun σ H Q ⟨U, env, r, h⟩ => by
    simp only [evAs] at h
    refine (stepE r (fun x e cls d H' p q => q cls d H' p) h).mono fun v H1 ⟨x, env1, p1, h⟩ => ?_
    refine (stepAs p1.re (fun x e cls d H' p q => q cls d H' (p1.xcomp p)) h).mono fun vs H2 ⟨as, env2, p2, h⟩ => ?_
    exact h _ _ (.cons p1 p2)
theorem q_vnil : QVs Γ X [] (evVs P .nil) := fun xe W tk => PA.imp pa_nil fun σ H Q ⟨U, env, r, h⟩ => by
  simp only [evVs] at h
  exact h [] H (.nil r)
theorem Post.xcompV {e : Exn} {cls : Value} {dd : Option Addr} (p1 : Post Γ U env σ H (.val d) env1 v H1) (px : XPost Γ U env1 σ H1 e env2 cls dd H2) : XPost Γ U env σ H e env2 cls dd H2 :=
  ⟨px.re, px.xr, p1.st.comp px.st fun b z => .inl z⟩
theorem q_vcons {a : E} {as : Es} (ha : QE Γ X ea (evA P a)) (hs : QVs Γ X es (evVs P as)) (hst : notStar ea = true) : QVs Γ X (ea :: es) (evVs P (.cons a as)) := fun xe W tk =>
  PA.imp (pa_cons (ha xe W tk) (hs xe W tk) (starEach_cons hst)) fun σ H Q ⟨U, env, r, h⟩ => by
    simp only [evVs] at h
    refine (stepE r (fun x e cls d H' p q => q cls d H' p) h).mono fun v H1 ⟨x, env1, p1, h⟩ => ?_
    obtain ⟨d, env2, p2, h⟩ := freeze_step p1 h
    refine (stepVs p2.reU (fun x e cls d H' p q => q cls d H' (p2.xcompV p)) h).mono fun vs H2 ⟨ds, env3, p3, h⟩ => ?_
    exact h _ _ (.cons p2 p3)

/-! ### displays -/
theorem q_tup {as : Es} {k : Nat} (hs : QVs Γ X es (evVs P as)) : QE Γ X (.Tuple es k pos) (evA P (.tup as)) := fun xe W tk =>
  PE.imp (pe_tup (hs xe W tk)) fun σ H Q ⟨U, env, r, h⟩ => by
    simp only [evA] at h
    refine (stepVs r (fun x e cls d H' p q => q cls d H' p) h).mono fun vs H1 ⟨ds, env1, p, h⟩ => ?_
    split at h
    · rename_i hl
      exact ⟨by rw [p.rs.length]; exact hl, fun q hq => h _ _ (p.comp (.newTup p.re p.rs hq))⟩
    · exact h.elim
theorem q_lst {as : Es} (hs : QVs Γ X es (evVs P as)) : QE Γ X (.List es pos) (evA P (.lst as)) := fun xe W tk =>
  PE.imp (pe_lst (hs xe W tk)) fun σ H Q ⟨U, env, r, h⟩ => by
    simp only [evA] at h
    refine (stepVs r (fun x e cls d H' p q => q cls d H' p) h).mono fun vs H1 ⟨ds, env1, p, h⟩ => ?_
    split at h
    · rename_i hl
      exact ⟨by rw [p.rs.length]; exact hl, fun q hq => h _ _ (p.comp (.newLst p.re p.rs hq))⟩
    · exact h.elim

/-! ### built-in functions -/
def Vws (Γ : Glob) (O : Addr → Prop) (H : Hp) : List V → List D → Prop
  | [], [] => True
  | v :: vs, d :: ds => Vw Γ O H v d ∧ Vws Γ O H vs ds
  | _, _ => False
theorem lookAll_vws : ∀ {as : List A} {vs : List V} {ds : List D} {U1 : Addr → Prop}, RE Γ U env σ H → RAs Γ U1 (fun b => U b ∨ Own env σ b) σ H as vs → lookAll as env = some ds → Vws Γ (fun b => U b ∨ Own env σ b) H vs ds
  | [], [], ds, _, _, _, h => by cases h; trivial
  | a :: as, v :: vs, ds, U1, re, ⟨r, rs⟩, h => by
    unfold lookAll at h
    split at h
    · rename_i d ds' h1 h2
      cases h
      exact ⟨look_vw re r (fun _ z => z) (fun _ z => z) h1, lookAll_vws re rs h2⟩
    · cases h
  | [], _ :: _, _, _, _, r, _ => r.elim
  | _ :: _, [], _, _, _, r, _ => r.elim
theorem PostAs.vws (p : PostAs Γ U env σ H as env1 vs H1) (h : lookAll as env1 = some ds) : Vws Γ (fun b => UAs U as vs b ∨ Own env1 σ b) H1 vs ds := lookAll_vws p.re p.ra h
def Bi.nm : Bi → Str
  | .len => "len" | .abs => "abs" | .int => "int" | .list => "list" | .tuple => "tuple" | .any => "any" | .all => "all" | .max2 => "max" | .min2 => "min" | .sum => "sum" | .max1 => "max" | .min1 => "min" | .str => "str"
  | .isInt | .isBool | .isTuple | .isStr | .isList => "isinstance"
def Bi.fv : Bi → Value
  | .len => .builtin "len" | .abs => .builtin "abs" | .int => .type "int" | .list => .type "list" | .tuple => .type "tuple" | .any => .builtin "any" | .all => .builtin "all" | .max2 => .builtin "max" | .min2 => .builtin "min" | .sum => .builtin "sum" | .max1 => .builtin "max" | .min1 => .builtin "min" | .str => .type "str"
  | .isInt | .isBool | .isTuple | .isStr | .isList => .builtin "isinstance"
/-- the class that isinstance asks for -/
def Bi.ty : Bi → List String
  | .isInt => ["int"] | .isBool => ["bool"] | .isTuple => ["tuple"] | .isStr => ["str"] | .isList => ["list"]
  | _ => []
def Bi.hot : Bi → Bool
  | .any | .all | .max2 | .min2 | .sum | .max1 | .min1 => true
  | _ => false
theorem Bi.boot (f : Bi) : bootBuiltins f.nm = some f.fv := by cases f <;> decide +kernel
def rBi (K : PySem.W.Frag) : Bi → List V → Hp → VK → Prop
  | .len => fun xs H Q => ∃ x n, xs = [x] ∧ LenV K x H n ∧ Q (.int n) H
  | .abs => fun xs H Q => ∃ i, xs = [.int i] ∧ Q (.int (if i < 0 then -i else i)) H
  | .int => fun xs H Q => (∃ i, xs = [.int i] ∧ Q (.int i) H) ∨ ∃ k, xs = [.bl k] ∧ Q (.int (if k then 1 else 0)) H
  | .list => fun xs H Q => ∃ p ys, xs = [.ref p] ∧ (SqL K H p ys ∨ SqT K H p ys) ∧ ∀ l, H l = none → Q (.ref l) (upd H l (.lst ys))
  | .tuple => fun xs H Q => ∃ p ys, xs = [.ref p] ∧ ((SqL K H p ys ∧ ∀ l, H l = none → Q (.ref l) (upd H l (.tup ys))) ∨ (SqT K H p ys ∧ Q (.ref p) H))
  | .any => rAny K
  | .all => rAll K
  | .sum => rSum K
  | .max2 => fun xs H Q => ∃ i j, xs = [.int i, .int j] ∧ Q (.int (if j > i then j else i)) H
  | .min2 => fun xs H Q => ∃ i j, xs = [.int i, .int j] ∧ Q (.int (if j < i then j else i)) H
  | .max1 => rMax K
  | .min1 => rMin K
  | .str => fun xs H Q => (∃ i, xs = [.int i] ∧ i.natAbs.log2 < 1920 ∧ Q (.str (toString i)) H) ∨ ∃ a, xs = [.str a] ∧ Q (.str a) H
  | .isInt | .isBool | .isTuple | .isStr | .isList => rIsi K
theorem callR_bi {f : Bi} (hc : f.hot = true → X.calm = true) : CallR X f.fv (rBi X.K f) := by
  cases f with
  | len => exact call_len
  | abs => exact call_abs
  | int => exact call_int1
  | list => exact call_list_of
  | tuple => exact call_tuple_of
  | any => exact cr_any (hc rfl)
  | all => exact cr_all (hc rfl)
  | sum => exact cr_sum (hc rfl)
  | max2 => exact call_max2 (hc rfl)
  | min2 => exact call_min2 (hc rfl)
  | max1 => exact cr_max (hc rfl)
  | min1 => exact cr_min (hc rfl)
  | str => exact fun pins s σ H xs us Q I r h => h.elim (call_str_int pins s σ H xs us Q I r) (SkE.call_str_str pins s σ H xs us Q I r)
  | _ => exact call_isi
theorem bools_of : ∀ {ds : List D} {vs : List V} {bs : List Bool}, Reps Γ O H vs ds → asBools ds = some bs → vs = bs.map V.bl
  | [], _, bs, .nil, h => by cases h; rfl
  | .bl b :: ds, _, bs, .cons r rs, h => by
    unfold asBools at h
    cases q : asBools ds with
    | none => rw [q] at h; cases h
    | some cs =>
      rw [q] at h
      cases h
      cases r
      rw [bools_of rs q]
      rfl
  | .non :: _, _, _, _, h => by cases h
  | .int _ :: _, _, _, _, h => by cases h
  | .str _ :: _, _, _, _, h => by cases h
  | .tup _ :: _, _, _, _, h => by cases h
  | .lst _ :: _, _, _, _, h => by cases h
  | .frz _ :: _, _, _, _, h => by cases h
  | .dic _ _ :: _, _, _, _, h => by cases h
  | .ins _ _ :: _, _, _, _, h => by cases h
  | .fn _ :: _, _, _, _, h => by cases h
theorem ints_of : ∀ {ds : List D} {vs : List V} {bs : List Int}, Reps Γ O H vs ds → asInts ds = some bs → vs = bs.map V.int
  | [], _, bs, .nil, h => by cases h; rfl
  | .int b :: ds, _, bs, .cons r rs, h => by
    unfold asInts at h
    cases q : asInts ds with
    | none => rw [q] at h; cases h
    | some cs =>
      rw [q] at h
      cases h
      cases r
      rw [ints_of rs q]
      rfl
  | .non :: _, _, _, _, h => by cases h
  | .bl _ :: _, _, _, _, h => by cases h
  | .str _ :: _, _, _, _, h => by cases h
  | .tup _ :: _, _, _, _, h => by cases h
  | .lst _ :: _, _, _, _, h => by cases h
  | .frz _ :: _, _, _, _, h => by cases h
  | .dic _ _ :: _, _, _, _, h => by cases h
  | .ins _ _ :: _, _, _, _, h => by cases h
  | .fn _ :: _, _, _, _, h => by cases h
/-- the built-in class of a value -/
def tyOfD : D → String
  | .non => "NoneType" | .bl _ => "bool" | .int _ => "int" | .str _ => "str" | .tup _ => "tuple" | .lst _ => "list" | .frz _ => "list" | _ => "dict"
theorem Vw.ty (h : Vw Γ O H v d) : (∀ t kvs, d ≠ .dic t kvs) → (∀ c fs, d ≠ .ins c fs) → (∀ f, d ≠ .fn f) → TyX Γ.K H v (.type (tyOfD d)) := by
  intro h1 h2 h3
  cases d with
  | non => cases h.non; exact .base .non
  | bl b => cases h.bl; exact .base (.bl b)
  | int i => cases h.int; exact .base (.int i)
  | str s => cases h.str; exact .base (.str s)
  | lst xs =>
    obtain ⟨a, vs, rfl, r, _⟩ := h.lst
    exact .base (.lst r)
  | frz xs =>
    obtain ⟨a, vs, rfl, r, _⟩ := h.frz
    rcases r with ⟨o, r⟩ | ⟨o, its, n, r, c, _⟩
    · exact .base (.frz r)
    · exact .kList r c
  | tup xs =>
    obtain ⟨a, vs, rfl, r, _⟩ := h.tup
    exact .base (.tup r)
  | dic t kvs => exact (h1 _ _ rfl).elim
  | ins c fs => exact (h2 _ _ rfl).elim
  | fn f => exact (h3 _ rfl).elim
theorem Vws.one (h : Vws Γ O H vs [d]) : ∃ v, vs = [v] ∧ Vw Γ O H v d := by
  cases vs with
  | nil => exact h.elim
  | cons v vs =>
    cases vs with
    | nil => exact ⟨v, rfl, h.1⟩
    | cons _ _ => exact h.2.elim
theorem Vws.two (h : Vws Γ O H vs [d, e]) : ∃ v w, vs = [v, w] ∧ Vw Γ O H v d ∧ Vw Γ O H w e := by
  cases vs with
  | nil => exact h.elim
  | cons v vs =>
    obtain ⟨w, rfl, q⟩ := Vws.one h.2
    exact ⟨v, w, rfl, h.1, q⟩
theorem isi_ok {t : String} {b : Bool} {Q : VK} (h : Vw Γ O H v d) (h1 : ∀ t kvs, d ≠ .dic t kvs) (h2 : ∀ c fs, d ≠ .ins c fs) (h3 : ∀ f, d ≠ .fn f) (hk : kitB (tyOfD d) t = some b) (q : Q (.bl b) H) : rIsi Γ.K [v, .ty t] H Q :=
  ⟨v, .ty t, _, _, b, rfl, .ty t, h.ty h1 h2 h3, kit_ty hk, q⟩
theorem foldMax : ∀ {ns : List Int} {m0 : Int}, let m := ns.foldl (fun m y => if m < y then y else m) m0; (m = m0 ∨ m ∈ ns) ∧ m0 ≤ m ∧ ∀ y ∈ ns, y ≤ m
  | [], m0 => ⟨.inl rfl, Int.le_refl _, fun y hy => by cases hy⟩
  | n :: ns, m0 => by
    obtain ⟨h1, h2, h3⟩ := foldMax (ns := ns) (m0 := if m0 < n then n else m0)
    have a1 : m0 ≤ (if m0 < n then n else m0) := by split <;> omega
    have a2 : n ≤ (if m0 < n then n else m0) := by split <;> omega
    refine ⟨?_, Int.le_trans a1 h2, fun y hy => ?_⟩
    · rcases h1 with h1 | h1
      · simp only [List.foldl_cons]
        rw [h1]
        split
        · exact .inr (.head _)
        · exact .inl rfl
      · exact .inr (.tail _ h1)
    · rcases List.mem_cons.mp hy with e | hy
      · rw [e]; exact Int.le_trans a2 h2
      · exact h3 y hy
theorem foldMin : ∀ {ns : List Int} {m0 : Int}, let m := ns.foldl (fun m y => if y < m then y else m) m0; (m = m0 ∨ m ∈ ns) ∧ m ≤ m0 ∧ ∀ y ∈ ns, m ≤ y
  | [], m0 => ⟨.inl rfl, Int.le_refl _, fun y hy => by cases hy⟩
  | n :: ns, m0 => by
    obtain ⟨h1, h2, h3⟩ := foldMin (ns := ns) (m0 := if n < m0 then n else m0)
    have a1 : (if n < m0 then n else m0) ≤ m0 := by split <;> omega
    have a2 : (if n < m0 then n else m0) ≤ n := by split <;> omega
    refine ⟨?_, Int.le_trans h2 a1, fun y hy => ?_⟩
    · rcases h1 with h1 | h1
      · simp only [List.foldl_cons]
        rw [h1]
        split
        · exact .inr (.head _)
        · exact .inl rfl
      · exact .inr (.tail _ h1)
    · rcases List.mem_cons.mp hy with e | hy
      · rw [e]; exact Int.le_trans h2 a2
      · exact h3 y hy
theorem maxI_ok {ns : List Int} {m : Int} (h : maxI ns = some m) : 0 < ns.length ∧ m ∈ ns ∧ ∀ y ∈ ns, y ≤ m := by
  cases ns with
  | nil => cases h
  | cons n ns =>
    cases h
    obtain ⟨h1, h2, h3⟩ := foldMax (ns := ns) (m0 := n)
    refine ⟨Nat.succ_pos _, ?_, fun y hy => ?_⟩
    · rcases h1 with h1 | h1
      · rw [h1]; exact .head _
      · exact .tail _ h1
    · rcases List.mem_cons.mp hy with e | hy
      · rw [e]; exact h2
      · exact h3 y hy
theorem minI_ok {ns : List Int} {m : Int} (h : minI ns = some m) : 0 < ns.length ∧ m ∈ ns ∧ ∀ y ∈ ns, m ≤ y := by
  cases ns with
  | nil => cases h
  | cons n ns =>
    cases h
    obtain ⟨h1, h2, h3⟩ := foldMin (ns := ns) (m0 := n)
    refine ⟨Nat.succ_pos _, ?_, fun y hy => ?_⟩
    · rcases h1 with h1 | h1
      · rw [h1]; exact .head _
      · exact .tail _ h1
    · rcases List.mem_cons.mp hy with e | hy
      · rw [e]; exact h2
      · exact h3 y hy
theorem biF_ok {f : Bi} {r : BR} {Q : VK} (h : biF f ds = some r) (hv : Vws Γ (fun b => U b ∨ Own env σ b) H vs ds) (re : RE Γ U env σ H) (hQ : ∀ u H', Post Γ U env σ H r.a env u H' → Q u H') :
    rBi Γ.K f (vs ++ f.ty.map V.ty) H Q := by
  unfold biF at h
  split at h
  · rename_i xs
    obtain ⟨m, hm, e⟩ := Option.map_eq_some_iff.mp h
    obtain ⟨ns, hn, hm⟩ := Option.bind_eq_some_iff.mp hm
    cases e
    obtain ⟨v, rfl, q⟩ := hv.one; obtain ⟨a, us, rfl, r1, r2⟩ := Vw.row (.inl q)
    obtain ⟨m1, m2, m3⟩ := maxI_ok hm
    refine ⟨a, ns, rfl, by rw [← ints_of r2 hn]; exact r1, m1, fun m' h1 h2 => ?_⟩
    rw [Int.le_antisymm (m3 m' h1) (h2 m m2)]
    exact hQ _ _ (.pure re (.int _))
  · rename_i xs
    obtain ⟨m, hm, e⟩ := Option.map_eq_some_iff.mp h
    obtain ⟨ns, hn, hm⟩ := Option.bind_eq_some_iff.mp hm
    cases e
    obtain ⟨v, rfl, q⟩ := hv.one; obtain ⟨a, us, rfl, r1, r2⟩ := Vw.row (.inl q)
    obtain ⟨m1, m2, m3⟩ := minI_ok hm
    refine ⟨a, ns, rfl, by rw [← ints_of r2 hn]; exact r1, m1, fun m' h1 h2 => ?_⟩
    rw [Int.le_antisymm (h2 m m2) (m3 m' h1)]
    exact hQ _ _ (.pure re (.int _))
  · split at h
    · rename_i hl
      cases h; obtain ⟨v, rfl, q⟩ := hv.one; cases q.int
      exact .inl ⟨_, rfl, hl, hQ _ _ (.pure re (.str _))⟩
    · cases h
  · cases h; obtain ⟨v, rfl, q⟩ := hv.one; cases q.str
    exact .inr ⟨_, rfl, hQ _ _ (.pure re (.str _))⟩
  · cases h; obtain ⟨v, rfl, q⟩ := hv.one; obtain ⟨a, us, rfl, r1, r2⟩ := Vw.row (.inl q)
    exact ⟨_, _, rfl, .inl ⟨us, r1, rfl⟩, by rw [r2.length]; exact hQ _ _ (.pure re (.int _))⟩
  · cases h; obtain ⟨v, rfl, q⟩ := hv.one; obtain ⟨a, us, rfl, r1, r2⟩ := Vw.row (.inr q)
    exact ⟨_, _, rfl, .inl ⟨us, r1, rfl⟩, by rw [r2.length]; exact hQ _ _ (.pure re (.int _))⟩
  · cases h; obtain ⟨v, rfl, q⟩ := hv.one; obtain ⟨a, us, rfl, r1, r2⟩ := q.tup
    exact ⟨_, _, rfl, .inr ⟨us, SqT.of r1, rfl⟩, by rw [r2.length]; exact hQ _ _ (.pure re (.int _))⟩
  · split at h
    · rename_i hl
      cases h; obtain ⟨v, rfl, q⟩ := hv.one; cases q.str
      exact ⟨_, _, rfl, ⟨hl, rfl⟩, hQ _ _ (.pure re (.int _))⟩
    · cases h
  · cases h; obtain ⟨v, rfl, q⟩ := hv.one; cases q.int
    exact ⟨_, rfl, hQ _ _ (.pure re (.int _))⟩
  · cases h; obtain ⟨v, rfl, q⟩ := hv.one; cases q.int
    exact .inl ⟨_, rfl, hQ _ _ (.pure re (.int _))⟩
  · cases h; obtain ⟨v, rfl, q⟩ := hv.one; cases q.bl
    exact .inr ⟨_, rfl, hQ _ _ (.pure re (.int _))⟩
  · cases h; obtain ⟨v, rfl, q⟩ := hv.one; obtain ⟨a, us, rfl, r1, r2⟩ := Vw.row (.inl q)
    exact ⟨a, us, rfl, .inl r1, fun l hl => hQ _ _ (.newLst re r2 hl)⟩
  · cases h; obtain ⟨v, rfl, q⟩ := hv.one; obtain ⟨a, us, rfl, r1, r2⟩ := q.tup
    exact ⟨a, us, rfl, .inr (SqT.of r1), fun l hl => hQ _ _ (.newLst re r2 hl)⟩
  · cases h; obtain ⟨v, rfl, q⟩ := hv.one; obtain ⟨a, us, rfl, r1, r2⟩ := Vw.row (.inr q)
    exact ⟨a, us, rfl, .inl r1, fun l hl => hQ _ _ (.newLst re r2 hl)⟩
  · cases h; obtain ⟨v, rfl, q⟩ := hv.one; obtain ⟨a, us, rfl, r1, r2⟩ := Vw.row (.inl q)
    exact ⟨a, us, rfl, .inl ⟨r1, fun l hl => hQ _ _ (.newTup re r2 hl)⟩⟩
  · cases h; obtain ⟨v, rfl, q⟩ := hv.one; obtain ⟨a, us, rfl, r1, r2⟩ := q.tup
    exact ⟨a, us, rfl, .inr ⟨SqT.of r1, hQ _ _ (.pure re (.tup r1 r2))⟩⟩
  · rename_i xs
    cases z : asBools xs with
    | none => rw [z] at h; cases h
    | some bs =>
      rw [z] at h; cases h
      obtain ⟨v, rfl, q⟩ := hv.one; obtain ⟨a, us, rfl, r1, r2⟩ := Vw.row (.inl q)
      exact ⟨a, bs, rfl, by rw [← bools_of r2 z]; exact r1, hQ _ _ (.pure re (.bl _))⟩
  · rename_i xs
    cases z : asBools xs with
    | none => rw [z] at h; cases h
    | some bs =>
      rw [z] at h; cases h
      obtain ⟨v, rfl, q⟩ := hv.one; obtain ⟨a, us, rfl, r1, r2⟩ := Vw.row (.inl q)
      exact ⟨a, bs, rfl, by rw [← bools_of r2 z]; exact r1, hQ _ _ (.pure re (.bl _))⟩
  · rename_i xs
    cases z : asInts xs with
    | none => rw [z] at h; cases h
    | some bs =>
      rw [z] at h; cases h
      obtain ⟨v, rfl, q⟩ := hv.one; obtain ⟨a, us, rfl, r1, r2⟩ := Vw.row (.inl q)
      exact ⟨a, bs, rfl, by rw [← ints_of r2 z]; exact r1, hQ _ _ (.pure re (.int _))⟩
  · cases h; obtain ⟨v, w, rfl, q1, q2⟩ := hv.two; cases q1.int; cases q2.int
    exact ⟨_, _, rfl, hQ _ _ (.pure re (.int _))⟩
  · cases h; obtain ⟨v, w, rfl, q1, q2⟩ := hv.two; cases q1.int; cases q2.int
    exact ⟨_, _, rfl, hQ _ _ (.pure re (.int _))⟩
  all_goals first
    | (cases h; done)
    | (cases h; obtain ⟨v, rfl, q⟩ := hv.one; exact isi_ok q (by intros; simp) (by intros; simp) (by intros; simp) (by simp only [tyOfD]; decide +kernel) (hQ _ _ (.pure re (.bl _))))
end
end Ev
end
section
set_option maxRecDepth 100000
set_option maxHeartbeats 1000000
namespace Ev
open PySem PySem.Spec L2

section
variable {Γ : Glob} {X : Cx} {P : Par} {U U' U1 O O' : Addr → Prop} {env env' env1 env2 env3 : Env} {σ σ' : St} {H H1 H2 H3 H' H'' : Hp} {a x y z : A} {as : List A} {v w u : V} {vs : List V} {d e : D} {ds : List D} {W : WX} {pos p1 p2 : Pos} {ea eb ec : Expr} {es : List Expr}

/-! ### built-in functions -/
theorem noStars_any : ∀ {es : List Expr} {env : PySem.Env}, (es.all notStar) = true → (starEach es env).any (·.1) = false
  | [], _, _ => rfl
  | e :: es, env, h => by
    rw [List.all_cons, Bool.and_eq_true] at h
    rw [starEach_cons h.1, List.any_cons, noStars_any h.2]
    rfl
theorem backTo_any {l : List (Bool × Sem Value)} : (backTo pos l).any (·.1) = l.any (·.1) := by
  unfold backTo
  induction l with
  | nil => rfl
  | cons a l ih => first | (simp only [List.map_cons, List.any_cons]; rw [ih]) | (rw [List.map_cons, List.any_cons, List.any_cons, ih]) | simp_all
theorem pl_of {es : List Expr} {env : PySem.Env} (h : (es.all notStar) = true) : (backTo pos (starEach es env)).any (·.1) = false := by
  rw [backTo_any]
  exact noStars_any h
theorem q_bi {f : Bi} {as : Es} (hs : QAs Γ X (ea :: es) (evAs P as)) (hK : X.K = Γ.K) (hc : f.hot = true → X.calm = true) (hty : f.ty = []) (hg : Gl X f.nm) (hm : X.mg f.nm = none) (hst : ((ea :: es).all notStar) = true) :
    QE Γ X (.Call (.Name f.nm p1) (ea :: es) [] pos) (evA P (.bi f as)) := fun xe W tk => by
  have hst' := hst
  rw [List.all_cons, Bool.and_eq_true] at hst'
  have hb := f.boot
  have n1 : f.nm ≠ "__name__" := by cases f <;> decide
  have n2 : (f.nm == ("__debug__" : Str)) = false := by cases f <;> decide
  have core : PE (X.wish xe) (.Call (.Name f.nm p1) (ea :: es) [] pos) (tCB (rBi X.K f) (tAs Γ (evAs P as) W)) := by
    cases q : f.fv with
    | builtin id =>
      rw [q] at hb
      exact pe_callB (X := X.wish xe) (by rw [← q]; exact callR_bi (X := X.wish xe) hc) hg hm hb (hs xe W tk) n1 n2 (starEach_cons hst'.1) (pl_of hst'.2)
    | type T =>
      rw [q] at hb
      exact pe_callTy (X := X.wish xe) (by rw [← q]; exact callR_bi (X := X.wish xe) hc) hg hm hb (hs xe W tk) n1 n2 (starEach_cons hst'.1) (pl_of hst'.2)
    | _ => cases f <;> cases q
  refine PE.imp core fun σ H Q ⟨U, env, r, h⟩ => ?_
  simp only [evA] at h
  refine (stepAs r (fun x e cls d H' p q => q cls d H' p) h).mono fun vs H1 ⟨as, env1, p, h⟩ => ?_
  split at h
  · rename_i ds hd
    split at h
    · rename_i r hr
      have z := biF_ok (Q := Q) hr (p.vws hd) p.re fun u H' p2 => h u H' (p.comp p2)
      rw [hty] at z
      rw [hK]
      simpa using z
    · exact h.elim
  · exact h.elim
/-- isinstance(e, T) -/
theorem q_isi {f : Bi} {a : E} {ty : String} {n : Str} (ha : QE Γ X ea (evA P a)) (hK : X.K = Γ.K) (hty : f.ty = [ty]) (hg : Gl X f.nm) (hm : X.mg f.nm = none) (hst : notStar ea = true)
    (hgt : Gl X n) (hmt : X.mg n = none) (hbt : bootBuiltins n = some (.type ty)) (hn : n ≠ "__name__") (hd : (n == ("__debug__" : Str)) = false) :
    QE Γ X (.Call (.Name f.nm p1) [ea, .Name n p2] [] pos) (evA P (.bi f (.cons a .nil))) := fun xe W tk => by
  have hfv : f.fv = .builtin "isinstance" ∧ f.nm = "isinstance" := by cases f <;> first | exact ⟨rfl, rfl⟩ | cases hty
  have core : PE (X.wish xe) (.Call (.Name f.nm p1) [ea, .Name n p2] [] pos) (tCB (rBi X.K f) (tCons (tE Γ (evA P a) W) (tCons (tC (.ty ty)) tNil))) := by
    refine pe_callB (X := X.wish xe) (id := "isinstance") (by rw [← hfv.1]; exact callR_bi (X := X.wish xe) (by cases f <;> first | (intro z; cases z; done) | cases hty)) hg hm (by rw [← hfv.1]; exact f.boot) ?_ (by rw [hfv.2]; decide) (by rw [hfv.2]; decide) (starEach_cons hst) (pl_of rfl)
    exact pa_cons (ha xe W tk) (pa_cons (pe_bltn hgt hmt hbt rfl hn hd) pa_nil) (starEach_cons hst)
  refine PE.imp core fun σ H Q ⟨U, env, r, h⟩ => ?_
  simp only [evA, evAs] at h
  rw [Wp.bind, Wp.bind] at h
  refine (stepE (k := fun a e => .ok a e) r (fun x e cls d H' p q => q cls d H' p) (Wp.bind.mpr h)).mono fun v H1 ⟨x, env1, p, h⟩ => ?_
  have h : Wp (match lookAll [x] env1 with | some ds => (match biF f ds with | some r => Out.ok r.a env1 | none => .stuck) | none => .stuck) _ _ := h
  split at h
  · rename_i ds hds
    split at h
    · rename_i r hr
      unfold lookAll at hds
      split at hds
      · rename_i d ds' h1 h2
        cases h2
        cases hds
        have z := biF_ok (Q := Q) (vs := [v]) hr ⟨p.vw h1, trivial⟩ p.re fun u H' p2 => h u H' (p.comp p2)
        rw [hty] at z
        show rBi X.K f [v, .ty ty] H1 Q
        rw [hK]
        exact z
      · cases hds
    · exact h.elim
  · exact h.elim

/-! ### slices, changes at a name -/
theorem cutV_eq (xs : List V) (lo hi : Option Int) : cutV xs lo hi = cutD xs lo hi := rfl
theorem Reps.cut (h : Reps Γ O H vs ds) (lo hi : Option Int) : Reps Γ O H (cutV vs lo hi) (cutD ds lo hi) := by
  unfold cutV cutD
  rw [h.length]
  exact (h.drop _).take _
theorem cut_whole {α : Type} (xs : List α) (lo hi : Option Int) (h : HT.sIx xs.length 0 lo = 0 ∧ HT.sIx xs.length xs.length hi = xs.length) : cutD xs lo hi = xs := by
  unfold cutD
  rw [h.1, h.2]
  simp
end
end Ev
end
section
set_option maxRecDepth 100000
set_option maxHeartbeats 1000000
namespace Ev
open PySem PySem.Spec L2

/-- a def's promise: what F says of it -/
def spF (Γ : Glob) (F : CF) (f : Nat) : Sp := fun vs H Q E => ∃ (ps : List Sl) (U : Addr → Prop), RE Γ U (ps.map some) (vs.map some) H ∧
  match F f ps with
  | .ret a outs => ∀ v H', Post Γ U (ps.map some) (vs.map some) H a outs v H' → Q v H'
  | .exn x outs => ∀ cls d H', XPost Γ U (ps.map some) (vs.map some) H x outs cls d H' → E cls d H'
  | .stuck => False

section
variable {Γ : Glob} {X : Cx} {P : Par} {U U' U1 O O' : Addr → Prop} {env env' env1 env2 env3 : Env} {σ σ' : St} {H H1 H2 H3 H' H'' : Hp} {a x y z r : A} {as as' : List A} {v w u : V} {vs : List V} {d e : D} {ds : List D} {W : WX} {pos p1 p2 : Pos} {ea eb ec : Expr} {es : List Expr} {ps : List Sl} {outs : Env} {i j k : Nat}

theorem RAs.get : ∀ {as : List A} {vs : List V} {U : Addr → Prop} {j : Nat} {a : A}, RAs Γ U O σ H as vs → as[j]? = some a → ∃ v, vs[j]? = some v ∧ RA Γ U O σ H a v
  | a :: as, v :: vs, U, 0, b, ⟨r, _⟩, e => by
    cases e
    exact ⟨v, rfl, r⟩
  | a :: as, v :: vs, U, j + 1, b, ⟨_, rs⟩, e => by
    obtain ⟨w, e1, q⟩ := RAs.get (j := j) rs (by simpa using e)
    exact ⟨w, by simpa using e1, q.less (fun _ z => z) fun _ z => .inl z⟩
  | [], [], _, _, _, _, e => by simp at e
  | [], _ :: _, _, _, _, r, _ => r.elim
  | _ :: _, [], _, _, _, r, _ => r.elim
theorem RAs.length : ∀ {as : List A} {vs : List V} {U : Addr → Prop}, RAs Γ U O σ H as vs → as.length = vs.length
  | [], [], _, _ => rfl
  | _ :: _, _ :: _, _, ⟨_, rs⟩ => by simp [RAs.length rs]
  | [], _ :: _, _, r => r.elim
  | _ :: _, [], _, r => r.elim
theorem isTmps_iff : ∀ {as : List A} {vs : List V} {b : Addr}, isTmps as vs b ↔ ∃ (j : Nat) (d : D), as[j]? = some (A.tmp d) ∧ vs[j]? = some (V.ref b)
  | [], _, b => ⟨fun z => z.elim, fun ⟨j, d, e, _⟩ => by simp at e⟩
  | _ :: _, [], b => ⟨fun z => z.elim, fun ⟨j, d, _, e⟩ => by simp at e⟩
  | a :: as, v :: vs, b => by
    constructor
    · intro z
      rcases z with z | z
      · cases a with
        | tmp d =>
          cases v with
          | ref p => exact ⟨0, d, rfl, by rw [show b = p from z]; rfl⟩
          | _ => exact z.elim
        | _ => cases v <;> exact z.elim
      · obtain ⟨j, d, e1, e2⟩ := isTmps_iff.mp z
        exact ⟨j + 1, d, by simpa using e1, by simpa using e2⟩
    · rintro ⟨j, d, e1, e2⟩
      cases j with
      | zero =>
        have e1 : some a = some (.tmp d) := by simpa using e1
        have e2 : some v = some (.ref b) := by simpa using e2
        cases e1
        cases e2
        exact .inl rfl
      | succ j => exact .inr (isTmps_iff.mpr ⟨j, d, by simpa using e1, by simpa using e2⟩)
theorem RAs.tmpN : ∀ {as : List A} {vs : List V} {U : Addr → Prop} {b : Addr}, RAs Γ U O σ H as vs → isTmps as vs b → ¬ U b
  | a :: as, v :: vs, U, b, ⟨r, rs⟩, z => by
    rcases z with z | z
    · cases a with
      | tmp d =>
        obtain ⟨p, rfl, n, _⟩ := r
        rw [show b = p from z]
        exact n
      | _ => cases v <;> exact z.elim
    · exact fun y => RAs.tmpN rs z (.inl y)
  | [], _, _, _, _, z => z.elim
  | _ :: _, [], _, _, r, _ => r.elim
theorem RAs.dist : ∀ {as : List A} {vs : List V} {U : Addr → Prop} {j k : Nat} {d e : D} {b : Addr}, RAs Γ U O σ H as vs → as[j]? = some (.tmp d) → as[k]? = some (.tmp e) → vs[j]? = some (.ref b) → vs[k]? = some (.ref b) → j = k
  | a :: as, v :: vs, U, 0, 0, _, _, _, _, _, _, _, _ => rfl
  | a :: as, v :: vs, U, j + 1, k + 1, d, e, b, ⟨_, rs⟩, h1, h2, h3, h4 => congrArg (· + 1) (RAs.dist rs (by simpa using h1) (by simpa using h2) (by simpa using h3) (by simpa using h4))
  | a :: as, v :: vs, U, 0, k + 1, d, e, b, ⟨_, rs⟩, h1, h2, h3, h4 => by
    have h1 : some a = some (.tmp d) := by simpa using h1
    have h3 : some v = some (.ref b) := by simpa using h3
    cases h1
    cases h3
    exact (RAs.tmpN rs (isTmps_iff.mpr ⟨k, e, by simpa using h2, by simpa using h4⟩) (.inr rfl)).elim
  | a :: as, v :: vs, U, j + 1, 0, d, e, b, ⟨_, rs⟩, h1, h2, h3, h4 => by
    have g1 : some a = some (.tmp e) := by simpa using h2
    have g3 : some v = some (.ref b) := by simpa using h4
    cases g1
    cases g3
    exact (RAs.tmpN rs (isTmps_iff.mpr ⟨j, d, by simpa using h1, by simpa using h3⟩) (.inr rfl)).elim
  | [], _, _, _, _, _, _, _, _, h, _, _, _ => by simp at h
  | _ :: _, [], _, _, _, _, _, _, r, _, _, _, _ => r.elim

theorem freezeAll_ok : ∀ {as : List A} {ls : List Bool} {vs : List V} {U : Addr → Prop} {env1 : Env} {as' : List A} {env2 : Env}, RE Γ (UAs U as vs) env1 σ H1 → RAs Γ U (fun b => UAs U as vs b ∨ Own env1 σ b) σ H1 as vs →
    freezeAll as ls env1 = .ok as' env2 → RE Γ (UAs U as' vs) env2 σ H1 ∧ RAs Γ U (fun b => UAs U as' vs b ∨ Own env2 σ b) σ H1 as' vs ∧ (∀ b, Own env2 σ b → Own env1 σ b) ∧ ∀ b, isTmps as' vs b → isTmps as vs b
  | [], ls, [], U, env1, as', env2, re, ra, h => by
    cases ls <;> (unfold freezeAll at h; cases h; exact ⟨re, ra, fun _ z => z, fun _ z => z⟩)
  | [], ls, _ :: _, _, _, _, _, _, ra, _ => ra.elim
  | _ :: _, ls, [], _, _, _, _, _, ra, _ => ra.elim
  | a :: as, ls, v :: vs, U, env1, as', env2, re, ⟨r, rs⟩, h => by
    have go : ∀ {ls : List Bool}, (a.freeze env1).bind (fun d env' => (freezeAll as ls env').bind fun r env'' => .ok (.val d :: r) env'') = .ok as' env2 →
        RE Γ (UAs U as' (v :: vs)) env2 σ H1 ∧ RAs Γ U (fun b => UAs U as' (v :: vs) b ∨ Own env2 σ b) σ H1 as' (v :: vs) ∧ (∀ b, Own env2 σ b → Own env1 σ b) ∧ ∀ b, isTmps as' (v :: vs) b → isTmps (a :: as) (v :: vs) b := by
      intro ls h
      cases q : a.freeze env1 with
      | exn x e => rw [q] at h; cases h
      | stuck => rw [q] at h; cases h
      | ok d env3 =>
        rw [q] at h
        have h : (freezeAll as ls env3).bind (fun r env'' => Out.ok (.val d :: r) env'') = .ok as' env2 := h
        have re2 : RE Γ (UA (UAs U as vs) a v) env1 σ H1 := re.less fun b z => z.elim (fun y => y.elim .inl fun k => .inr (.inr k)) fun y => .inr (.inl y)
        have ra2 : RA Γ (UAs U as vs) (fun b => UA (UAs U as vs) a v b ∨ Own env1 σ b) σ H1 a v := by
          have sub : ∀ b, UA (UAs U as vs) a v b ∨ Own env1 σ b → UAs U (a :: as) (v :: vs) b ∨ Own env1 σ b := fun b z => z.imp (fun y => y.elim (fun k => k.elim .inl fun k => .inr (.inr k)) fun k => .inr (.inl k)) id
          cases a with
          | val d => exact Rep.less sub r
          | own i => exact r
          | tmp d =>
            obtain ⟨p, rfl, n, b⟩ := r
            refine ⟨p, rfl, fun z => z.elim n fun y => RAs.tmpN rs y (.inr rfl), b.less sub⟩
        obtain ⟨f1, f2, f3⟩ := frozen_core re2 ra2 q
        have rs2 : RAs Γ U (fun b => UAs U as vs b ∨ Own env3 σ b) σ H1 as vs := rs.less (fun b z => z.imp (fun y => y.elim .inl fun k => .inr (.inr k)) (f3 b)) fun b z => .inl z
        cases q2 : freezeAll as ls env3 with
        | exn x e => rw [q2] at h; cases h
        | stuck => rw [q2] at h; cases h
        | ok as2 env4 =>
          rw [q2] at h
          cases h
          obtain ⟨g1, g2, g3, g4⟩ := freezeAll_ok f1 rs2 q2
          have eqU : ∀ b, UAs U (.val d :: as2) (v :: vs) b → UAs U as2 vs b := fun b z => z.elim .inl fun y => y.elim (fun k => by cases v <;> exact k.elim) .inr
          have s : ∀ b, (UAs U (.val d :: as2) (v :: vs) b ∨ Own env2 σ b) → UAs U as vs b ∨ Own env3 σ b := fun b z => z.imp (fun y => (eqU b y).imp id (g4 b)) (g3 b)
          exact ⟨g1.less eqU, ⟨Rep.less s f2, g2.less (fun b z => z.imp (eqU b) id) fun b z => UA_val z⟩, fun b z => f3 b (g3 b z), fun b z => z.elim (fun k => by cases v <;> exact k.elim) fun k => .inr (g4 b k)⟩
    cases ls with
    | nil => exact go (ls := []) h
    | cons l ls =>
      cases l with
      | false => exact go (ls := []) h
      | true =>
        unfold freezeAll at h
        have assoc : ∀ {as : List A} b, UAs (UA U a v) as vs b → UAs U (a :: as) (v :: vs) b := fun b z => z.elim (fun y => y.elim .inl fun k => .inr (.inl k)) fun y => .inr (.inr y)
        have assoc2 : ∀ {as : List A} b, UAs U (a :: as) (v :: vs) b → UAs (UA U a v) as vs b := fun b z => z.elim (fun y => .inl (.inl y)) fun y => y.elim (fun k => .inl (.inr k)) .inr
        cases q2 : freezeAll as ls env1 with
        | exn x e => rw [q2] at h; cases h
        | stuck => rw [q2] at h; cases h
        | ok as2 env4 =>
          rw [q2] at h
          cases h
          obtain ⟨g1, g2, g3, g4⟩ := freezeAll_ok (re.less assoc) (rs.less (fun b z => z.imp (assoc b) id) fun _ z => z) q2
          refine ⟨g1.less assoc2, ⟨r.less (fun b z => ?_) fun _ z => z, g2.less (fun b z => z.imp (assoc2 b) id) fun _ z => z⟩, g3, fun b z => z.imp id (g4 b)⟩
          exact z.imp (fun y => y.imp id fun k => k.imp id (g4 b)) (g3 b)

/-! ### parameters -/
/-- the slot that a thing in hand hands on -/
def slotOf (a : A) (env : Env) : Option Sl :=
  match a with
  | .val d => some (.val d)
  | .tmp d => some (.own d)
  | .own i => match env[i]? with
    | some (some s) => some s
    | _ => none
theorem paramsOf_cons {a : A} {as : List A} {env : Env} {ps : List Sl} (h : paramsOf (a :: as) env = some ps) : ∃ s r, ps = s :: r ∧ slotOf a env = some s ∧ paramsOf as env = some r := by
  unfold paramsOf at h
  unfold slotOf
  cases a <;> dsimp only at h ⊢
  all_goals
    split at h
    · rename_i s r h1 h2
      cases h
      exact ⟨s, r, rfl, h1, h2⟩
    · cases h
theorem paramsOf_get : ∀ {as : List A} {ps : List Sl} {j : Nat} {a : A}, paramsOf as env = some ps → as[j]? = some a → ∃ s, ps[j]? = some s ∧ slotOf a env = some s
  | a :: as, ps, 0, b, h, e => by
    cases e
    obtain ⟨s, r, rfl, h1, _⟩ := paramsOf_cons h
    exact ⟨s, rfl, h1⟩
  | a :: as, ps, j + 1, b, h, e => by
    obtain ⟨s, r, rfl, _, h2⟩ := paramsOf_cons h
    obtain ⟨t, e1, e2⟩ := paramsOf_get (j := j) h2 (by simpa using e)
    exact ⟨t, by simpa using e1, e2⟩
  | [], _, _, _, _, e => by simp at e
theorem paramsOf_len : ∀ {as : List A} {ps : List Sl}, paramsOf as env = some ps → ps.length = as.length
  | [], ps, h => by
    unfold paramsOf at h
    cases h
    rfl
  | a :: as, ps, h => by
    obtain ⟨s, r, rfl, _, h2⟩ := paramsOf_cons h
    simp [paramsOf_len h2]
theorem slot_own (h : slotOf a env = some (.own d)) : a = .tmp d ∨ ∃ i, a = .own i ∧ env[i]? = some (some (.own d)) := by
  unfold slotOf at h
  cases a with
  | val e => cases h
  | tmp e => cases h; exact .inl rfl
  | own i =>
    dsimp only at h
    split at h
    · rename_i s hs
      cases h
      exact .inr ⟨i, rfl, hs⟩
    · cases h
theorem slot_val (h : slotOf a env = some (.val d)) : a = .val d ∨ ∃ i, a = .own i ∧ env[i]? = some (some (.val d)) := by
  unfold slotOf at h
  cases a with
  | val e => cases h; exact .inl rfl
  | tmp e => cases h
  | own i =>
    dsimp only at h
    split at h
    · rename_i s hs
      cases h
      exact .inr ⟨i, rfl, hs⟩
    · cases h
theorem lentOf_mem : ∀ {as : List A} {i : Nat}, i ∈ lentOf as ↔ ∃ j : Nat, as[j]? = some (.own i)
  | [], i => by simp [lentOf]
  | a :: as, i => by
    have ih := lentOf_mem (as := as) (i := i)
    constructor
    · intro h
      cases a with
      | own k =>
        unfold lentOf at h
        rcases List.mem_cons.mp h with rfl | h
        · exact ⟨0, rfl⟩
        · obtain ⟨j, e⟩ := ih.mp h
          exact ⟨j + 1, by simpa using e⟩
      | val d => obtain ⟨j, e⟩ := ih.mp h; exact ⟨j + 1, by simpa using e⟩
      | tmp d => obtain ⟨j, e⟩ := ih.mp h; exact ⟨j + 1, by simpa using e⟩
    · rintro ⟨j, e⟩
      cases j with
      | zero =>
        have e : some a = some (A.own i) := by simpa using e
        cases e
        exact List.mem_cons_self
      | succ j =>
        have h := ih.mpr ⟨j, by simpa using e⟩
        cases a with
        | own k => exact List.mem_cons_of_mem _ h
        | val d => exact h
        | tmp d => exact h
theorem lentOf_inj : ∀ {as : List A} {i j k : Nat}, (lentOf as).Nodup → as[j]? = some (.own i) → as[k]? = some (.own i) → j = k
  | a :: as, i, 0, 0, _, _, _ => rfl
  | a :: as, i, j + 1, k + 1, h, h1, h2 => congrArg (· + 1) (lentOf_inj (as := as) (by
      cases a with
      | own l => exact (List.nodup_cons.mp h).2
      | val d => exact h
      | tmp d => exact h) (by simpa using h1) (by simpa using h2))
  | a :: as, i, 0, k + 1, h, h1, h2 => by
    have h1 : some a = some (A.own i) := by simpa using h1
    cases h1
    exact ((List.nodup_cons.mp h).1 (lentOf_mem.mpr ⟨k, by simpa using h2⟩)).elim
  | a :: as, i, j + 1, 0, h, h1, h2 => by
    have h2 : some a = some (A.own i) := by simpa using h2
    cases h2
    exact ((List.nodup_cons.mp h).1 (lentOf_mem.mpr ⟨j, by simpa using h1⟩)).elim
theorem back_len : ∀ {as : List A} {outs env : Env}, (backOuts as outs env).length = env.length
  | [], outs, env => by cases outs <;> rfl
  | a :: as, [], env => by cases a <;> rfl
  | .own i :: as, o :: os, env => by unfold backOuts; rw [back_len, List.length_set]
  | .val d :: as, o :: os, env => by unfold backOuts; exact back_len
  | .tmp d :: as, o :: os, env => by unfold backOuts; exact back_len
theorem back_out : ∀ {as : List A} {outs env : Env} {i : Nat}, (∀ j : Nat, as[j]? ≠ some (.own i)) → (backOuts as outs env)[i]? = env[i]?
  | [], outs, env, i, _ => by cases outs <;> rfl
  | a :: as, [], env, i, _ => by cases a <;> rfl
  | .own k :: as, o :: os, env, i, h => by
    unfold backOuts
    rw [back_out fun j e => h (j + 1) (by simpa using e), List.getElem?_set_ne (fun z => h 0 (by rw [z]; rfl))]
  | .val d :: as, o :: os, env, i, h => by unfold backOuts; exact back_out fun j e => h (j + 1) (by simpa using e)
  | .tmp d :: as, o :: os, env, i, h => by unfold backOuts; exact back_out fun j e => h (j + 1) (by simpa using e)
theorem back_in : ∀ {as : List A} {outs env : Env} {i j : Nat} {o : Option Sl}, (lentOf as).Nodup → as[j]? = some (.own i) → outs[j]? = some o → i < env.length → (backOuts as outs env)[i]? = some o
  | .own k :: as, p :: os, env, i, 0, o, h, h1, h2, h3 => by
    have h1 : some (A.own k) = some (A.own i) := by simpa using h1
    cases h1
    have h2 : some p = some o := by simpa using h2
    cases h2
    unfold backOuts
    rw [back_out fun j e => (List.nodup_cons.mp h).1 (lentOf_mem.mpr ⟨j, e⟩), List.getElem?_set_self h3]
  | .own k :: as, p :: os, env, i, j + 1, o, h, h1, h2, h3 => by
    unfold backOuts
    exact back_in (List.nodup_cons.mp h).2 (by simpa using h1) (by simpa using h2) (by rw [List.length_set]; exact h3)
  | .val d :: as, p :: os, env, i, j + 1, o, h, h1, h2, h3 => by unfold backOuts; exact back_in h (by simpa using h1) (by simpa using h2) h3
  | .tmp d :: as, p :: os, env, i, j + 1, o, h, h1, h2, h3 => by unfold backOuts; exact back_in h (by simpa using h1) (by simpa using h2) h3
  | .val d :: as, p :: os, env, i, 0, o, h, h1, h2, h3 => by simp at h1
  | .tmp d :: as, p :: os, env, i, 0, o, h, h1, h2, h3 => by simp at h1
  | a :: as, [], env, i, j, o, h, h1, h2, h3 => by simp at h2
  | [], _, _, _, _, _, _, h1, _, _ => by simp at h1

theorem mapsome_get {α : Type} {l : List α} {j : Nat} {x : α} : (l.map some)[j]? = some (some x) ↔ l[j]? = some x := by
  rw [List.getElem?_map]
  cases l[j]? <;> simp

/-- what a callee may not touch -/
def UC (U : Addr → Prop) (as : List A) (vs : List V) (env : Env) (σ : St) (ps : List Sl) (b : Addr) : Prop := (UAs U as vs b ∨ Own env σ b) ∧ ¬ Own (ps.map some) (vs.map some) b
/-- whence a parameter's owned thing comes -/
theorem own_from (re : RE Γ (UAs U as vs) env2 σ H1) (ra : RAs Γ U O σ H1 as vs) (hp : paramsOf as env2 = some ps) {b : Addr} (h : Own (ps.map some) (vs.map some) b) :
    (∃ (j : Nat) (d : D), as[j]? = some (.tmp d) ∧ vs[j]? = some (.ref b) ∧ ps[j]? = some (.own d)) ∨
    ∃ (j i : Nat) (d : D), as[j]? = some (.own i) ∧ vs[j]? = some (.ref b) ∧ ps[j]? = some (.own d) ∧ env2[i]? = some (some (.own d)) ∧ σ[i]? = some (some (.ref b)) := by
  obtain ⟨j, d, e1, e2⟩ := h
  have e1 := mapsome_get.mp e1
  have e2 := mapsome_get.mp e2
  have hl := paramsOf_len hp
  obtain ⟨a, ha⟩ : ∃ a, as[j]? = some a := ⟨as[j]'(by rw [← hl]; exact (List.getElem?_eq_some_iff.mp e1).1), by simp⟩
  obtain ⟨s, q1, q2⟩ := paramsOf_get hp ha
  rw [e1] at q1
  cases q1
  rcases slot_own q2 with rfl | ⟨i, rfl, z⟩
  · exact .inl ⟨j, d, ha, e2, e1⟩
  · obtain ⟨w, w1, w2⟩ := ra.get ha
    rw [e2] at w1
    cases w1
    exact .inr ⟨j, i, d, ha, e2, e1, z, w2⟩
theorem own_sub (re : RE Γ (UAs U as vs) env2 σ H1) (ra : RAs Γ U O σ H1 as vs) (hp : paramsOf as env2 = some ps) {b : Addr} (h : Own (ps.map some) (vs.map some) b) : UAs U as vs b ∨ Own env2 σ b := by
  rcases own_from re ra hp h with ⟨j, d, e1, e2, _⟩ | ⟨j, i, d, _, _, _, e3, e4⟩
  · exact .inl (.inr (isTmps_iff.mpr ⟨j, d, e1, e2⟩))
  · exact .inr ⟨i, d, e3, e4⟩
theorem own_nU (re : RE Γ (UAs U as vs) env2 σ H1) (ra : RAs Γ U O σ H1 as vs) (hp : paramsOf as env2 = some ps) {b : Addr} (h : Own (ps.map some) (vs.map some) b) : ¬ U b := by
  rcases own_from re ra hp h with ⟨j, d, e1, e2, _⟩ | ⟨j, i, d, _, _, _, e3, e4⟩
  · exact RAs.tmpN ra (isTmps_iff.mpr ⟨j, d, e1, e2⟩)
  · obtain ⟨a, q1, q2, _⟩ := re.own i d e3
    rw [e4] at q1
    cases q1
    exact fun z => q2 (.inl z)
theorem params_RE (re : RE Γ (UAs U as vs) env2 σ H1) (ra : RAs Γ U (fun b => UAs U as vs b ∨ Own env2 σ b) σ H1 as vs) (hp : paramsOf as env2 = some ps) (nd : (lentOf as).Nodup) :
    RE Γ (UC U as vs env2 σ ps) (ps.map some) (vs.map some) H1 := by
  have hl := paramsOf_len hp
  have hv := ra.length
  have less : ∀ b, UC U as vs env2 σ ps b ∨ Own (ps.map some) (vs.map some) b → UAs U as vs b ∨ Own env2 σ b := fun b z => z.elim (fun y => y.1) (own_sub re ra hp)
  have at_ : ∀ {j : Nat} {s : Sl}, ps[j]? = some s → ∃ a v, as[j]? = some a ∧ vs[j]? = some v ∧ slotOf a env2 = some s ∧ RA Γ U (fun b => UAs U as vs b ∨ Own env2 σ b) σ H1 a v := fun {j s} e => by
    obtain ⟨a, ha⟩ : ∃ a, as[j]? = some a := ⟨as[j]'(by rw [← hl]; exact (List.getElem?_eq_some_iff.mp e).1), by simp⟩
    obtain ⟨s', q1, q2⟩ := paramsOf_get hp ha
    rw [e] at q1
    cases q1
    obtain ⟨v, w1, w2⟩ := ra.get ha
    exact ⟨a, v, ha, w1, q2, w2⟩
  refine ⟨by rw [List.length_map, List.length_map, hl, hv], fun j d e => ?_, fun j d e => ?_, fun j k b d e h1 h2 h3 h4 => ?_, re.tabs, fun b z => ?_⟩
  · obtain ⟨a, v, e1, e2, e3, e4⟩ := at_ (mapsome_get.mp e)
    refine ⟨v, mapsome_get.mpr e2, ?_⟩
    rcases slot_val e3 with rfl | ⟨i, rfl, z⟩
    · exact Rep.less less e4
    · obtain ⟨v', z1, z2⟩ := re.val i d z
      rw [show σ[i]? = some (some v) from e4] at z1
      cases z1
      exact z2.less less
  · obtain ⟨a, v, e1, e2, e3, e4⟩ := at_ (mapsome_get.mp e)
    rcases slot_own e3 with rfl | ⟨i, rfl, z⟩
    · obtain ⟨p, rfl, n, b⟩ := e4
      exact ⟨p, mapsome_get.mpr e2, fun z => z.2 ⟨j, d, e, mapsome_get.mpr e2⟩, b.less less⟩
    · obtain ⟨p, z1, z2, z3⟩ := re.own i d z
      rw [show σ[i]? = some (some v) from e4] at z1
      cases z1
      exact ⟨p, mapsome_get.mpr e2, fun z => z.2 ⟨j, d, e, mapsome_get.mpr e2⟩, z3.less less⟩
  · obtain ⟨a, v, a1, a2, a3, a4⟩ := at_ (mapsome_get.mp h1)
    obtain ⟨c, w, c1, c2, c3, c4⟩ := at_ (mapsome_get.mp h2)
    have h3 := mapsome_get.mp h3
    have h4 := mapsome_get.mp h4
    rw [h3] at a2
    cases a2
    rw [h4] at c2
    cases c2
    have apart : ∀ {j i : Nat} {d e : D}, as[j]? = some (.tmp d) → vs[j]? = some (.ref b) → env2[i]? = some (some (.own e)) → σ[i]? = some (some (.ref b)) → False := fun {j i d e} z1 z2 z3 z4 => by
      obtain ⟨q, q1, q2, _⟩ := re.own i e z3
      rw [z4] at q1
      cases q1
      exact q2 (.inr (isTmps_iff.mpr ⟨j, d, z1, z2⟩))
    rcases slot_own a3 with rfl | ⟨i, rfl, z⟩
    · rcases slot_own c3 with rfl | ⟨i', rfl, z'⟩
      · exact ra.dist a1 c1 h3 h4
      · exact (apart a1 h3 z' c4).elim
    · rcases slot_own c3 with rfl | ⟨i', rfl, z'⟩
      · exact (apart c1 h4 z a4).elim
      · have := re.sep i i' b d e z z' a4 c4
        subst this
        exact lentOf_inj nd a1 c1
  · rcases z.1 with y | ⟨i, d, y1, y2⟩
    · exact re.uth b y
    · obtain ⟨q, q1, _, q3⟩ := re.own i d y1
      rw [y2] at q1
      cases q1
      exact Body_some q3

/-- behind the call: what the slots hold -/
theorem back_RE (re : RE Γ (UAs U as vs) env2 σ H1) (ra : RAs Γ U (fun b => UAs U as vs b ∨ Own env2 σ b) σ H1 as vs) (hp : paramsOf as env2 = some ps) (nd : (lentOf as).Nodup)
    (ro : RE Γ (UA (UC U as vs env2 σ ps) r v) outs (vs.map some) H') (st : Stp (Own (ps.map some) (vs.map some)) H1 (fun b => Own outs (vs.map some) b ∨ isTmp r v b) H') :
    RE Γ (UA U r v) (backOuts as outs env2) σ H' ∧ (∀ b, UA U r v b ∨ Own (backOuts as outs env2) σ b → UA (UC U as vs env2 σ ps) r v b ∨ Own outs (vs.map some) b) ∧
      ∀ b, Own (backOuts as outs env2) σ b → Own outs (vs.map some) b ∨ Own env2 σ b := by
  have hl := paramsOf_len hp
  have hv := ra.length
  have hol : outs.length = as.length := by rw [ro.len, List.length_map, hv]
  have UtoC : ∀ b, U b → UC U as vs env2 σ ps b := fun b z => ⟨.inl (.inl z), fun y => own_nU re ra hp y z⟩
  -- a slot that is lent
  have lent : ∀ {i j : Nat} {s : Option Sl}, as[j]? = some (.own i) → (backOuts as outs env2)[i]? = some s → outs[j]? = some s ∧ ∃ w, vs[j]? = some w ∧ σ[i]? = some (some w) := fun {i j s} e1 e2 => by
    obtain ⟨w, w1, w2⟩ := ra.get e1
    have hj : j < outs.length := by rw [hol]; exact (List.getElem?_eq_some_iff.mp e1).1
    have hi : i < env2.length := by
      have := (List.getElem?_eq_some_iff.mp e2).1
      rwa [back_len] at this
    have := back_in (outs := outs) (env := env2) nd e1 (List.getElem?_eq_getElem hj) hi
    rw [e2] at this
    cases this
    exact ⟨List.getElem?_eq_getElem hj, w, w1, w2⟩
  -- a slot that is not
  have unlent : ∀ {i : Nat} {b : Addr} {d : D}, (∀ j : Nat, as[j]? ≠ some (.own i)) → env2[i]? = some (some (.own d)) → σ[i]? = some (some (.ref b)) → ¬ Own (ps.map some) (vs.map some) b := fun {i b d} h1 h2 h3 h4 => by
    obtain ⟨q, q1, q2, _⟩ := re.own i d h2
    rw [h3] at q1
    cases q1
    rcases own_from re ra hp h4 with ⟨j, d', e1, e2, _⟩ | ⟨j, i', d', e1, _, _, e3, e4⟩
    · exact q2 (.inr (isTmps_iff.mpr ⟨j, d', e1, e2⟩))
    · have := re.sep i i' b d d' h2 e3 h3 e4
      subst this
      exact h1 j e1
  have ownB : ∀ b, Own (backOuts as outs env2) σ b → Own outs (vs.map some) b ∨ (Own env2 σ b ∧ ¬ Own (ps.map some) (vs.map some) b) := fun b ⟨i, d, e1, e2⟩ => by
    by_cases h : ∃ j : Nat, as[j]? = some (.own i)
    · obtain ⟨j, hj⟩ := h
      obtain ⟨h1, w, h2, h3⟩ := lent hj e1
      rw [e2] at h3
      cases h3
      exact .inl ⟨j, d, h1, mapsome_get.mpr h2⟩
    · have h' : ∀ j : Nat, as[j]? ≠ some (.own i) := fun j z => h ⟨j, z⟩
      rw [back_out h'] at e1
      exact .inr ⟨⟨i, d, e1, e2⟩, unlent h' e1 e2⟩
  have sub : ∀ b, UA U r v b ∨ Own (backOuts as outs env2) σ b → UA (UC U as vs env2 σ ps) r v b ∨ Own outs (vs.map some) b := fun b z => by
    rcases z with (z | z) | z
    · exact .inl (.inl (UtoC b z))
    · exact .inl (.inr z)
    · rcases ownB b z with y | ⟨y1, y2⟩
      · exact .inr y
      · exact .inl (.inl ⟨.inr y1, y2⟩)
  have stO : Stp (fun b => UAs U as vs b ∨ Own env2 σ b) H1 (fun b => UA U r v b ∨ Own (backOuts as outs env2) σ b) H' := st.mono (fun b z => own_sub re ra hp z) fun b z => by
    rcases z with (z | z) | z
    · exact .inr (.inl (.inl (.inl z)))
    · exact .inl (.inr z)
    · rcases ownB b z with y | ⟨y1, y2⟩
      · exact .inl (.inl y)
      · exact .inr (.inl (.inr y1))
  refine ⟨⟨by rw [back_len]; exact re.len, fun i d e => ?_, fun i d e => ?_, fun i k b d e h1 h2 h3 h4 => ?_, ro.tabs, fun b z => ?_⟩, sub, fun b z => (ownB b z).imp id fun y => y.1⟩
  · by_cases h : ∃ j : Nat, as[j]? = some (.own i)
    · obtain ⟨j, hj⟩ := h
      obtain ⟨h1, w, h2, h3⟩ := lent hj e
      obtain ⟨w', z1, z2⟩ := ro.val j d h1
      rw [mapsome_get.mpr h2] at z1
      cases z1
      exact ⟨w, h3, z2.less sub⟩
    · have h' : ∀ j : Nat, as[j]? ≠ some (.own i) := fun j z => h ⟨j, z⟩
      rw [back_out h'] at e
      obtain ⟨w, z1, z2⟩ := re.val i d e
      exact ⟨w, z1, z2.stp stO⟩
  · by_cases h : ∃ j : Nat, as[j]? = some (.own i)
    · obtain ⟨j, hj⟩ := h
      obtain ⟨h1, w, h2, h3⟩ := lent hj e
      obtain ⟨p, z1, z2, z3⟩ := ro.own j d h1
      rw [mapsome_get.mpr h2] at z1
      cases z1
      refine ⟨p, h3, fun y => z2 ?_, z3.less sub⟩
      exact y.imp (UtoC p) id
    · have h' : ∀ j : Nat, as[j]? ≠ some (.own i) := fun j z => h ⟨j, z⟩
      rw [back_out h'] at e
      obtain ⟨p, z1, z2, z3⟩ := re.own i d e
      have np := unlent h' e z1
      obtain ⟨o, ho⟩ := Body_some z3
      refine ⟨p, z1, fun y => ?_, z3.stp stO fun o m hv => st.mu hv m np⟩
      rcases y with y | y
      · exact z2 (.inl y)
      · exact st.nin ho np (.inr y)
  · have key : ∀ {i k j : Nat} {b : Addr} {d e : D}, as[j]? = some (.own i) → (∀ j : Nat, as[j]? ≠ some (.own k)) → (backOuts as outs env2)[i]? = some (some (.own d)) → (backOuts as outs env2)[k]? = some (some (.own e)) →
        σ[i]? = some (some (.ref b)) → σ[k]? = some (some (.ref b)) → False := fun {i k j b d e} hj hk g1 g2 g3 g4 => by
      obtain ⟨q1, w, q2, q3⟩ := lent hj g1
      rw [g3] at q3
      cases q3
      rw [back_out hk] at g2
      have np := unlent hk g2 g4
      obtain ⟨p, z1, _, z3⟩ := re.own k e g2
      rw [g4] at z1
      cases z1
      obtain ⟨o, ho⟩ := Body_some z3
      exact st.nin ho np (.inl ⟨j, d, q1, mapsome_get.mpr q2⟩)
    by_cases hi : ∃ j : Nat, as[j]? = some (.own i)
    · obtain ⟨j, hj⟩ := hi
      by_cases hk : ∃ j : Nat, as[j]? = some (.own k)
      · obtain ⟨j', hj'⟩ := hk
        obtain ⟨q1, w, q2, q3⟩ := lent hj h1
        obtain ⟨q1', w', q2', q3'⟩ := lent hj' h2
        rw [h3] at q3
        cases q3
        rw [h4] at q3'
        cases q3'
        have := ro.sep j j' b d e q1 q1' (mapsome_get.mpr q2) (mapsome_get.mpr q2')
        subst this
        rw [hj] at hj'
        cases hj'
        rfl
      · exact (key hj (fun j z => hk ⟨j, z⟩) h1 h2 h3 h4).elim
    · have hi' : ∀ j : Nat, as[j]? ≠ some (.own i) := fun j z => hi ⟨j, z⟩
      by_cases hk : ∃ j : Nat, as[j]? = some (.own k)
      · obtain ⟨j', hj'⟩ := hk
        exact (key hj' hi' h2 h1 h4 h3).elim
      · have hk' : ∀ j : Nat, as[j]? ≠ some (.own k) := fun j z => hk ⟨j, z⟩
        rw [back_out hi'] at h1
        rw [back_out hk'] at h2
        exact re.sep i k b d e h1 h2 h3 h4
  · rcases z with z | z
    · obtain ⟨o, e⟩ := re.uth b (.inl z)
      exact st.there b o e
    · exact ro.uth b (.inr z)
end
end Ev
end
section
set_option maxRecDepth 100000
set_option maxHeartbeats 1000000
namespace Ev
open PySem PySem.Spec L2
section
variable {Γ : Glob} {X : Cx} {P : Par} {U U' U1 O O' : Addr → Prop} {env env' env1 env2 env3 : Env} {σ σ' : St} {H H1 H2 H3 H' H'' : Hp} {a x y z r : A} {as as' : List A} {v w u : V} {vs : List V} {d e : D} {ds : List D} {W : WX} {pos p1 p2 : Pos} {ea eb ec : Expr} {es : List Expr} {ps : List Sl} {outs : Env} {i j k : Nat}

theorem callM_ok {F : CF} {f : Nat} {ls : List Bool} {Q : VK} {E : XK} (p : PostAs Γ U env σ H as env1 vs H1)
    (h : Wp (callM F f ls as env1) (fun a env' => ∀ v H', Post Γ U env σ H a env' v H' → Q v H') fun x env' => ∀ cls d H', XPost Γ U env σ H x env' cls d H' → E cls d H') : spF Γ F f vs H1 Q E := by
  unfold callM at h
  rw [Wp.bind] at h
  cases q : freezeAll as ls env1 with
  | exn x e =>
    have : ∀ (as : List A) (ls : List Bool) (env1 : Env) x e, freezeAll as ls env1 ≠ .exn x e := by
      intro as
      have fz : ∀ (a : A) (env : Env) x e, a.freeze env ≠ .exn x e := by
        intro a env x e h
        cases a <;> simp only [A.freeze] at h <;> first | cases h | (split at h <;> cases h)
      induction as with
      | nil => intro ls env1 x e h; cases ls <;> (unfold freezeAll at h; cases h)
      | cons a as ih =>
        have go : ∀ ls env1 x e, (a.freeze env1).bind (fun d env' => (freezeAll as ls env').bind fun r env'' => .ok (A.val d :: r) env'') ≠ .exn x e := by
          intro ls env1 x e h
          cases q : a.freeze env1 with
          | exn x' e' => exact fz _ _ _ _ q
          | stuck => rw [q] at h; cases h
          | ok d env' =>
            rw [q] at h
            have h : (freezeAll as ls env').bind (fun r env'' => Out.ok (A.val d :: r) env'') = .exn x e := h
            cases q2 : freezeAll as ls env' with
            | exn x' e' => exact ih _ _ _ _ q2
            | stuck => rw [q2] at h; cases h
            | ok r env'' => rw [q2] at h; cases h
        intro ls env1 x e h
        cases ls with
        | nil => exact go [] _ _ _ h
        | cons l ls =>
          cases l with
          | false => exact go [] _ _ _ h
          | true =>
            unfold freezeAll at h
            cases q2 : freezeAll as ls env1 with
            | exn x' e' => exact ih _ _ _ _ q2
            | stuck => rw [q2] at h; cases h
            | ok r env'' => rw [q2] at h; cases h
    exact (this _ _ _ _ _ q).elim
  | stuck => rw [q] at h; exact h.elim
  | ok as' env2 =>
    rw [q] at h
    obtain ⟨re, ra, s1, s2⟩ := freezeAll_ok p.re p.ra q
    have st : Stp (Own env σ) H (fun b => Own env2 σ b ∨ isTmps as' vs b) H1 := p.st.shr fun b z => z.imp (s1 b) (s2 b)
    have h : Wp (match paramsOf as' env2 with | none => Out.stuck | some ps => if (lentOf as').Nodup then (match F f ps with | .ret (.own _) _ => .stuck | .ret r outs => .ok r (backOuts as' outs env2) | .exn x outs => .exn x (backOuts as' outs env2) | .stuck => .stuck) else .stuck) _ _ := h
    split at h
    · exact h.elim
    · rename_i ps hp
      split at h
      · rename_i nd
        refine ⟨ps, _, params_RE re ra hp nd, ?_⟩
        have comp : ∀ {r : A} {v : V} {outs : Env} {H' : Hp}, RE Γ (UA (UC U as' vs env2 σ ps) r v) outs (vs.map some) H' → Stp (Own (ps.map some) (vs.map some)) H1 (fun b => Own outs (vs.map some) b ∨ isTmp r v b) H' →
            Stp (Own env σ) H (fun b => Own (backOuts as' outs env2) σ b ∨ isTmp r v b) H' := fun {r v outs H'} r1 r2 => by
          obtain ⟨_, _, b3⟩ := back_RE re ra hp nd r1 r2
          have c := st.comp r2 fun b z => (own_sub re ra hp z).elim (fun y => y.elim (fun k => (own_nU re ra hp z k).elim) .inr) .inl
          refine (c.add (V' := Own env2 σ) fun b z => st.sub b (.inl z)).shr fun b z => ?_
          rcases z with z | z
          · exact (b3 b z).elim (fun y => .inl (.inl y)) .inr
          · exact .inl (.inr z)
        split at h
        · exact h.elim
        · rename_i r outs hno hF
          rw [hF]
          intro v H' pc
          obtain ⟨b1, b2, _⟩ := back_RE re ra hp nd pc.re pc.st
          refine h v H' ⟨b1, ?_, comp pc.re pc.st⟩
          have q := pc.ra
          cases r with
          | val d => exact Rep.less b2 q
          | own i => exact (hno i rfl).elim
          | tmp d =>
            obtain ⟨a, rfl, n, b⟩ := q
            exact ⟨a, rfl, fun z => n ⟨.inl (.inl z), fun y => own_nU re ra hp y z⟩, b.less b2⟩
        · rename_i x outs hF
          rw [hF]
          intro cls d H' px
          have r1 : RE Γ (UA (UC U as' vs env2 σ ps) (.val .non) .non) outs (vs.map some) H' := px.re.less fun _ z => UA_val z
          have r2 : Stp (Own (ps.map some) (vs.map some)) H1 (fun b => Own outs (vs.map some) b ∨ isTmp (.val .non) .non b) H' := px.st.shr fun _ z => z.elim id fun y => y.elim
          obtain ⟨b1, _, _⟩ := back_RE re ra hp nd r1 r2
          exact h cls d H' ⟨b1.less fun _ z => .inl z, px.xr, (comp r1 r2).shr fun _ z => .inl z⟩
        · exact h.elim
      · exact h.elim

/-- what is known of the program's defs from here -/
structure FnAt (Γ : Glob) (X : Cx) (F : CF) (k f : Nat) (x : Str) : Prop where
  ex : ∃ (fa : Addr) (fd : FuncData) (ps : List Str), FnOk X.prog X.w X.K X.mg X.base (L2.CX X.prog X.w) k fa fd ps (spF Γ F f) ∧ X.mg x = some (.ref fa) ∧ PySem.W.keepIn X.K (.ref fa) = true ∧ Binds X.K fd ps []
theorem q_call {f : Nat} {x : Str} {as : Es} {k : Nat} (hf : FnAt Γ X P.F k f x) (hr : Room k X.A) (hg : Gl X x) (hd : (x == ("__debug__" : Str)) = false) (hs : QAs Γ X (ea :: es) (evAs P as)) (hst : ((ea :: es).all notStar) = true) :
    QE Γ X (.Call (.Name x p1) (ea :: es) [] pos) (evA P (.call f as)) := fun xe W tk => by
  obtain ⟨fa, fd, ps, F, hm, hk, hb⟩ := hf.ex
  have core : PE (X.wish xe) (.Call (.Name x p1) (ea :: es) [] pos) (tCallS (spF Γ P.F f) (WE W) (tAs Γ (evAs P as) W)) := by
    rw [List.all_cons, Bool.and_eq_true] at hst
    exact pe_callS (X := X.wish xe) F hr hg hm hk hb (fun σ => passAt tk σ) (hs xe W tk) hd (starEach_cons hst.1) (pl_of hst.2)
  refine PE.imp core fun σ H Q ⟨U, env, r, h⟩ => ?_
  simp only [evA] at h
  refine (stepAs r (fun x e cls d H' p q => q cls d H' p) h).mono fun vs H1 ⟨as, env1, p, h⟩ => ?_
  exact callM_ok p h
theorem q_call0 {f : Nat} {x : Str} {k : Nat} (hf : FnAt Γ X P.F k f x) (hr : Room k X.A) (hg : Gl X x) (hd : (x == ("__debug__" : Str)) = false) : QE Γ X (.Call (.Name x p1) [] [] pos) (evA P (.call f .nil)) := fun xe W tk => by
  obtain ⟨fa, fd, ps, F, hm, hk, hb⟩ := hf.ex
  have core : PE (X.wish xe) (.Call (.Name x p1) [] [] pos) (tCallS (spF Γ P.F f) (WE W) tNil) := by
    refine ⟨fun pins s σ H Q I h => ?_⟩
    refine wpAny_Call_Name_kw (ld_glob I hg hm ?_ hd)
    exact PySem.W.callWith_K0 I.kIn hk (run_fnS (X := X.wish xe) (us := []) F hr hb (passAt tk σ) I .nil h)
  refine PE.imp core fun σ H Q ⟨U, env, r, h⟩ => ?_
  simp only [evA, evAs, Out.bind_ok] at h
  exact callM_ok (PostAs.nil r) h
end
end Ev
end
section
set_option maxRecDepth 100000
set_option maxHeartbeats 1000000
namespace Ev
open PySem PySem.Spec L2
section
variable {Γ : Glob} {X : Cx} {P : Par} {U U' U1 O O' : Addr → Prop} {env env' env1 env2 env3 : Env} {σ σ' : St} {H H1 H2 H3 H' H'' : Hp} {a x y z r : A} {as as' : List A} {v w u : V} {vs ws : List V} {d e : D} {ds es' : List D} {W : WX} {pos p1 p2 apos cpos : Pos} {ea eb ec : Expr} {es : List Expr} {i j k : Nat}

/-! ### slices -/
def tO (Γ : Glob) (m : M (Option Int)) (W : WX) : TO := fun σ H Q => ∃ U env, RE Γ U env σ H ∧
  Wp (m env) (fun i env' => ∀ H', Post Γ U env σ H (.val .non) env' .non H' → Q i H') fun x env' => ∀ cls d H', XPost Γ U env σ H x env' cls d H' → W cls d σ H'
def QO (Γ : Glob) (X : Cx) (e : Option Expr) (m : M (Option Int)) : Prop := ∀ (xe : Value → Shared → Prop) (W : WX), Takes (X.wish xe) W → PO (X.wish xe) e (tO Γ m W)
theorem PO.imp {X : Cx} {e : Option Expr} {t t' : TO} (h : PO X e t) (hi : ∀ σ H Q, t' σ H Q → t σ H Q) : PO X e t' := ⟨fun pins s σ H Q I hq => h.run pins s σ H Q I (hi σ H Q hq)⟩
theorem tO.mono {m : M (Option Int)} {Q Q' : Option Int → Hp → Prop} (h : tO Γ m W σ H Q) (hQ : ∀ v H', Q v H' → Q' v H') : tO Γ m W σ H Q' := by
  obtain ⟨U, env, r, h⟩ := h
  exact ⟨U, env, r, h.mono (fun a e q H' p => hQ a H' (q H' p)) fun _ _ q => q⟩
theorem stepO {m : M (Option Int)} {β : Type} {k : Option Int → Env → Out β} {OK : β → Env → Prop} {EX : Exn → Env → Prop} (r : RE Γ U env σ H)
    (hx : ∀ x e cls d H', XPost Γ U env σ H x e cls d H' → EX x e → W cls d σ H') (h : Wp ((m env).bind k) OK EX) :
    tO Γ m W σ H fun b H1 => ∃ env1, Post Γ U env σ H (.val .non) env1 .non H1 ∧ Wp (k b env1) OK EX :=
  ⟨U, env, r, (Wp.bind.mp h).mono (fun a e q H' p => ⟨e, p, q⟩) fun x e q cls d H' p => hx x e cls d H' p q⟩
theorem qo_none : QO Γ X none (evO P .nil) := fun xe W tk => PO.imp po_none fun σ H Q ⟨U, env, r, h⟩ => by
  simp only [evO] at h
  exact h H (.pure r .non)
theorem qo_some {a : E} {as : Es} (ha : QE Γ X ea (evA P a)) : QO Γ X (some ea) (evO P (.cons a as)) := fun xe W tk => PO.imp (po_some (ha xe W tk)) fun σ H Q ⟨U, env, r, h⟩ => by
  simp only [evO] at h
  refine (stepE r (fun x e cls d H' p q => q cls d H' p) h).mono fun v H1 ⟨x, env1, p, h⟩ => ?_
  split at h
  · have q : Rep Γ _ H1 v _ := p.ra
    cases q
    exact ⟨_, rfl, h _ (p.comp (.pure p.re .non))⟩
  · exact h.elim
theorem q_slc {a : E} {lo hi : Option Expr} {l h : Es} (ha : QE Γ X ea (evA P a)) (hl : QO Γ X lo (evO P l)) (hh : QO Γ X hi (evO P h)) (hK : X.K = Γ.K) : QE Γ X (.Subscript ea (.Slice lo hi none p2) pos) (evA P (.slc a l h)) := fun xe W tk =>
  PE.imp (pe_slice (SlR.or sl_list (SlR.or sl_tupA sl_str)) (ha xe W tk) (hl xe W tk) (hh xe W tk)) fun σ H Q ⟨U, env, r, h⟩ => by
    simp only [evA] at h
    refine (stepE r (fun x e cls d H' p q => q cls d H' p) h).mono fun v H1 ⟨x, env1, p1, h⟩ => ?_
    refine (stepO p1.re (fun x e cls d H' p q => q cls d H' (p1.xcomp p)) h).mono fun i H2 ⟨env2, p2, h⟩ => ?_
    refine (stepO p2.re (fun x e cls d H' p q => q cls d H' (p1.xcomp (p2.xcomp p))) h).mono fun j H3 ⟨env3, p3, h⟩ => ?_
    have p23 := p2.comp p3
    have vw : ∀ {d : D}, x.look env3 = some d → Vw Γ (fun b => UA (UA U x v) (.val .non) .non b ∨ Own env3 σ b) H3 v d := fun hd => look_vw p23.re (p1.carry p23) (fun _ z => z) (fun _ z => z) hd
    split at h
    · rename_i xs hd
      obtain ⟨a, us, rfl, r1, r2⟩ := (vw hd).lst
      refine .inl ⟨a, us, rfl, SqL.of r1, fun p hp => ?_⟩
      exact h _ _ (p1.comp (p23.comp (.newLst p23.re (r2.cut i j) hp)))
    · rename_i xs hd
      obtain ⟨a, us, rfl, r1, r2⟩ := (vw hd).tup
      refine .inr (.inl ⟨a, us, rfl, ?_, fun z => ?_, fun _ p hp => ?_⟩)
      · show SqT X.K H3 a us
        rw [hK]
        exact SqT.of r1
      · rw [r2.length] at z
        rw [cut_whole xs i j z] at h
        exact h _ _ (p1.comp (p23.comp (.pure p23.re (.tup r1 r2))))
      · exact h _ _ (p1.comp (p23.comp (.newTup p23.re (r2.cut i j) hp)))
    · rename_i z hd
      cases (vw hd).str
      split at h
      · rename_i hz
        exact .inr (.inr ⟨_, rfl, hz, h _ _ (p1.comp (p23.comp (.pure p23.re (.str _))))⟩)
      · exact h.elim
    · exact h.elim

/-! ### a change at a name -/
theorem RE.writeO {b : Addr} {o0 o1 : HO} {d' : D} (r : RE Γ U env σ H) (h1 : env[i]? = some (some (.own d))) (h2 : σ[i]? = some (some (.ref b))) (h3 : H b = some o0) (m0 : MutO o0) (h4 : ∀ O', Stp (fun c => U c ∨ Own env σ c) H O' (upd H b o1) → Body Γ O' (upd H b o1) b d') :
    RE Γ U (env.set i (some (.own d'))) σ (upd H b o1) ∧ (∀ c, Own (env.set i (some (.own d'))) σ c ↔ Own env σ c) ∧ Stp (Own env σ) H (Own env σ) (upd H b o1) := by
  have hlt : i < env.length := (List.getElem?_eq_some_iff.mp h1).1
  have own_ : ∀ c, Own (env.set i (some (.own d'))) σ c ↔ Own env σ c := fun c => by
    constructor
    · rintro ⟨j, e, e1, e2⟩
      by_cases hj : i = j
      · subst hj
        exact ⟨i, d, h1, e2⟩
      · rw [List.getElem?_set_ne hj] at e1
        exact ⟨j, e, e1, e2⟩
    · rintro ⟨j, e, e1, e2⟩
      by_cases hj : i = j
      · subst hj
        exact ⟨i, _, List.getElem?_set_self hlt, e2⟩
      · exact ⟨j, e, by rw [List.getElem?_set_ne hj]; exact e1, e2⟩
  have st : Stp (Own env σ) H (Own env σ) (upd H b o1) := Stp.setO h3 m0 ⟨i, d, h1, h2⟩
  have stO : Stp (fun c => U c ∨ Own env σ c) H (fun c => U c ∨ Own (env.set i (some (.own d'))) σ c) (upd H b o1) := st.mono (fun _ z => .inr z) fun c z => .inr (.inl (z.imp id (own_ c).mp))
  obtain ⟨b', q1, q2, _⟩ := r.own i d h1
  rw [h2] at q1
  cases q1
  refine ⟨⟨by rw [List.length_set]; exact r.len, fun j e e1 => ?_, fun j e e1 => ?_, fun j k c e e' e1 e2 e3 e4 => ?_, r.tabs.stp st fun P hP => r.tabN P hP, fun c z => ?_⟩, own_, st⟩
  · have hj : i ≠ j := fun z => by subst z; rw [List.getElem?_set_self hlt] at e1; cases e1
    rw [List.getElem?_set_ne hj] at e1
    obtain ⟨v, z1, z2⟩ := r.val j e e1
    exact ⟨v, z1, z2.stp stO⟩
  · by_cases hj : i = j
    · subst hj
      rw [List.getElem?_set_self hlt] at e1
      cases e1
      exact ⟨b, h2, q2, h4 _ stO⟩
    · rw [List.getElem?_set_ne hj] at e1
      obtain ⟨c, z1, z2, z3⟩ := r.own j e e1
      have hc : c ≠ b := fun z => by subst z; exact hj (r.sep i j c d e h1 e1 h2 z1)
      exact ⟨c, z1, z2, z3.stp stO fun o m q => by rw [upd_ne hc]; exact q⟩
  · have g : ∀ {j : Nat} {e : D}, (env.set i (some (.own d')))[j]? = some (some (.own e)) → ∃ e', env[j]? = some (some (.own e')) := fun {j e} q => by
      by_cases hj : i = j
      · subst hj; exact ⟨d, h1⟩
      · rw [List.getElem?_set_ne hj] at q; exact ⟨e, q⟩
    obtain ⟨_, f1⟩ := g e1
    obtain ⟨_, f2⟩ := g e2
    exact r.sep j k c _ _ f1 f2 e3 e4
  · obtain ⟨o, e⟩ := r.uth c z
    exact st.there c o e
theorem RE.write {b : Addr} (r : RE Γ U env σ H) (h1 : env[i]? = some (some (.own d))) (h2 : σ[i]? = some (some (.ref b))) (h3 : H b = some (.lst vs)) (h4 : Reps Γ (fun b => U b ∨ Own env σ b) H ws ds) :
    RE Γ U (env.set i (some (.own (.lst ds)))) σ (upd H b (.lst ws)) ∧ (∀ c, Own (env.set i (some (.own (.lst ds)))) σ c ↔ Own env σ c) ∧ Stp (Own env σ) H (Own env σ) (upd H b (.lst ws)) :=
  r.writeO h1 h2 h3 (.inl ⟨_, rfl⟩) fun O' s => ⟨ws, upd_same, h4.stp s⟩
theorem Post.write {b : Addr} (r : RE Γ U env σ H) (h1 : env[i]? = some (some (.own d))) (h2 : σ[i]? = some (some (.ref b))) (h3 : H b = some (.lst vs)) (h4 : Reps Γ (fun b => U b ∨ Own env σ b) H ws ds) (q : Rep Γ (fun b => U b ∨ Own env σ b) H v e) :
    Post Γ U env σ H (.val e) (env.set i (some (.own (.lst ds)))) v (upd H b (.lst ws)) := by
  obtain ⟨r1, r2, r3⟩ := r.write h1 h2 h3 h4
  refine ⟨r1.less fun _ z => UA_val z, ?_, r3.shr fun c z => (z.elim (r2 c).mp fun y => by cases v <;> exact y.elim)⟩
  exact Rep.stp (r3.mono (fun _ z => .inr z) fun c z => .inr (.inl (z.imp UA_val (r2 c).mp))) q
def Mm.nm : Mm → Str
  | .append => "append" | .pop => "pop" | .extend => "extend"
theorem tyL {K : PySem.W.Frag} {b : Addr} (h : H b = some (.lst vs)) : tyV K "list" (.ref b) H := .inl ⟨rfl, vs, SqL.of h⟩
/-- the list at an owned slot -/
theorem RE.at_own (r : RE Γ U env σ H) (h : env[i]? = some (some (.own (.lst ds)))) : ∃ b us, σ[i]? = some (some (.ref b)) ∧ H b = some (.lst us) ∧ Reps Γ (fun b => U b ∨ Own env σ b) H us ds := by
  obtain ⟨b, e1, _, us, e2, e3⟩ := r.own i _ h
  exact ⟨b, us, e1, e2, e3⟩
theorem few1 {e : Expr} {env : PySem.Env} (h : notStar e = true) : ((backTo cpos (starEach [e] env)).all (fun x => !x.1) && (backToKw cpos (keywordEach [] env)).all (fun x => x.1.isSome)
      && decide (([e] : List Expr).length + ([] : List Keyword).length + (if ([] : List Keyword).isEmpty then 0 else 1) < 30)) = true := by
  rw [starEach_cons h]
  rfl
theorem Reps.last (h : Reps Γ O H vs ds) (q : ds[ds.length - 1]? = some d) : ∃ v, vs[vs.length - 1]? = some v ∧ Rep Γ O H v d := by
  rw [h.length]
  exact h.get q
theorem Reps.dropLast : ∀ {vs : List V} {ds : List D}, Reps Γ O H vs ds → Reps Γ O H vs.dropLast ds.dropLast := fun {vs ds} h => by
  rw [List.dropLast_eq_take, List.dropLast_eq_take, h.length]
  exact h.take _
theorem mutF_append {cs gs : List D} {d' e' : D} (h : mutF .append (.lst cs) gs = some (d', e')) : ∃ g, gs = [g] ∧ cs.length < sizeLine ∧ d' = .lst (cs ++ [g]) ∧ e' = .non := by
  cases gs with
  | nil => cases h
  | cons g r =>
    cases r with
    | nil =>
      simp only [mutF] at h
      split at h
      · rename_i hl
        cases h
        exact ⟨g, rfl, hl, rfl, rfl⟩
      · cases h
    | cons _ _ => cases h
theorem mutF_extend {cs gs : List D} {d' e' : D} (h : mutF .extend (.lst cs) gs = some (d', e')) : ∃ ys, gs = [.lst ys] ∧ cs.length + ys.length ≤ sizeLine ∧ d' = .lst (cs ++ ys) ∧ e' = .non := by
  cases gs with
  | nil => cases h
  | cons g r =>
    cases r with
    | nil =>
      cases g with
      | lst ys =>
        simp only [mutF] at h
        split at h
        · rename_i hl
          cases h
          exact ⟨ys, rfl, hl, rfl, rfl⟩
        · cases h
      | _ => cases h
    | cons _ _ => cases g <;> cases h
theorem mut_wp {β : Type} {m : Mm} {as : Es} {k : A → Env → Out β} {OK : β → Env → Prop} {EX : Exn → Env → Prop} (h : Wp ((evA P (.mut m i as) env).bind k) OK EX) : True := trivial
/-- x.append(e), x.extend(e) -/
theorem q_mut1 {m : Mm} {n : Str} {as : Es} (hm : m = .append ∨ m = .extend) (hN : X.N[i]? = some n) (hv : Vis X.env.scope n) (hd : (n == ("__debug__" : Str)) = false) (hcd : (n == ("__classdict__" : Str)) = false) (hs : QVs Γ X [ea] (evVs P as)) (hst : notStar ea = true)
    (hl : (apos.endLine == cpos.line) = true) : QE Γ X (.Call (.Attribute (.Name n p1) m.nm apos) [ea] [] cpos) (evA P (.mut m i as)) := fun xe W tk => by
  have pv : PE (X.wish xe) (.Name n p1) (tVar i) := pe_var (X := X.wish xe) hN hv hd hcd
  have main : ∀ {rr : V → List V → Hp → VK → Prop}, PE (X.wish xe) (.Call (.Attribute (.Name n p1) m.nm apos) [ea] [] cpos) (tBM (X.wish xe).K "list" rr (tVar i) (tVs Γ (evVs P as) W)) →
      (∀ {U env1 σ H1} {b : Addr} {us vs : List V} {cs gs : List D} {d' e' : D} {Q : VK}, RE Γ U env1 σ H1 → env1[i]? = some (some (.own (.lst cs))) → σ[i]? = some (some (.ref b)) → H1 b = some (.lst us) → Reps Γ (fun b => U b ∨ Own env1 σ b) H1 us cs →
        Reps Γ (fun b => U b ∨ Own env1 σ b) H1 vs gs → mutF m (.lst cs) gs = some (d', e') → (∀ v H', Post Γ U env1 σ H1 (.val e') (env1.set i (some (.own d'))) v H' → Q v H') → rr (.ref b) vs H1 Q) →
      PE (X.wish xe) (.Call (.Attribute (.Name n p1) m.nm apos) [ea] [] cpos) (tE Γ (evA P (.mut m i as)) W) := fun {rr} hp hr => PE.imp hp fun σ H Q ⟨U, env, r, h⟩ => by
    simp only [evA] at h
    split at h
    · rename_i ds0 h0
      obtain ⟨b, us, e1, e2, _⟩ := r.at_own h0
      refine ⟨.ref b, e1, tyL e2, ?_⟩
      refine (stepVs r (fun x e cls d H' p q => q cls d H' p) h).mono fun vs H1 ⟨gs, env1, p, h⟩ => ?_
      split at h
      · rename_i d hd
        split at h
        · rename_i d' e' hm
          cases d with
          | lst cs =>
            obtain ⟨b', us', f1, f2, f3⟩ := p.re.at_own hd
            rw [e1] at f1
            cases f1
            exact hr p.re hd e1 f2 f3 p.rs hm fun v H' p2 => h v H' (p.comp p2)
          | _ => cases m <;> cases hm
        · exact h.elim
      · exact h.elim
    · exact h.elim
  rcases hm with rfl | rfl
  · refine main (rr := rAppend) (pe_bm (X := X.wish xe) PySem.F.plainAttrs_list PySem.F.slot_list_append PySem.F.type_list_append mt_append pv (hs xe W tk) rfl (few1 hst) hl (starEach_cons hst) rfl) ?_
    intro U env1 σ H1 b us vs cs gs d' e' Q r h1 h2 h3 h4 h5 hm hQ
    obtain ⟨g, rfl, hl, rfl, rfl⟩ := mutF_append hm
    cases h5 with
    | cons q1 q2 =>
      cases q2
      exact ⟨b, us, _, rfl, rfl, h3, by rw [h4.length]; exact hl, hQ _ _ (.write r h1 h2 h3 (h4.append (.cons q1 .nil)) .non)⟩
  · refine main (rr := rExtend) (pe_bm (X := X.wish xe) PySem.F.plainAttrs_list PySem.F.slot_list_extend PySem.F.type_list_extend mt_extend pv (hs xe W tk) rfl (few1 hst) hl (starEach_cons hst) rfl) ?_
    intro U env1 σ H1 b us vs cs gs d' e' Q r h1 h2 h3 h4 h5 hm hQ
    obtain ⟨ys, rfl, hl, rfl, rfl⟩ := mutF_extend hm
    cases h5 with
    | cons q1 q2 =>
      cases q2
      cases q1 with
      | lst z1 z2 z3 => exact ⟨b, _, us, _, rfl, rfl, h3, z1, by rw [h4.length, z3.length]; exact hl, hQ _ _ (.write r h1 h2 h3 (h4.append z3) .non)⟩
/-- x.pop() -/
theorem q_pop {n : Str} (hN : X.N[i]? = some n) (hv : Vis X.env.scope n) (hd : (n == ("__debug__" : Str)) = false) (hcd : (n == ("__classdict__" : Str)) = false)
    (hl : (apos.endLine == cpos.line) = true) : QE Γ X (.Call (.Attribute (.Name n p1) "pop" apos) [] [] cpos) (evA P (.mut .pop i .nil)) := fun xe W tk => by
  have pv : PE (X.wish xe) (.Name n p1) (tVar i) := pe_var (X := X.wish xe) hN hv hd hcd
  refine PE.imp (pe_bm0 (X := X.wish xe) PySem.F.plainAttrs_list PySem.F.slot_list_pop PySem.F.type_list_pop mt_pop pv rfl hl) fun σ H Q ⟨U, env, r, h⟩ => ?_
  simp only [evA, evVs, Out.bind_ok] at h
  split at h
  · rename_i ds0 h0
    obtain ⟨b, us, e1, e2, e3⟩ := r.at_own h0
    refine ⟨.ref b, e1, tyL e2, ?_⟩
    rw [h0] at h
    have h : Wp (match mutF .pop (.lst ds0) [] with | some (d', v) => Out.ok (A.val v) (env.set i (some (.own d'))) | none => .stuck) _ _ := h
    unfold mutF at h
    dsimp only at h
    cases z : ds0[ds0.length - 1]? with
    | none => rw [z] at h; exact h.elim
    | some g =>
      rw [z] at h
      obtain ⟨y, y1, y2⟩ := e3.last z
      exact ⟨b, us, y, rfl, rfl, e2, y1, h _ _ (.write r h0 e1 e2 e3.dropLast y2)⟩
  · exact h.elim
end
end Ev
end
section
set_option maxRecDepth 100000
set_option maxHeartbeats 1000000
namespace Ev
open PySem PySem.Spec L2

section
variable {Γ : Glob} {X : Cx} {P : Par} {U U' U1 O O' : Addr → Prop} {env env' env1 env2 env3 : Env} {σ σ' : St} {H H1 H2 H3 H' H'' : Hp} {a x y z r : A} {as as' : List A} {v w u : V} {vs : List V} {d e : D} {ds : List D} {W : WX} {pos p1 p2 apos cpos : Pos} {ea eb ec : Expr} {es : List Expr} {i j k : Nat}

/-! ### methods of a text -/
theorem strs_of : ∀ {ds : List D} {vs : List V} {bs : List Str}, Reps Γ O H vs ds → asStrs ds = some bs → vs = bs.map V.str
  | [], _, bs, .nil, h => by cases h; rfl
  | .str b :: ds, _, bs, .cons r rs, h => by
    unfold asStrs at h
    cases q : asStrs ds with
    | none => rw [q] at h; cases h
    | some cs =>
      rw [q] at h
      cases h
      cases r
      rw [strs_of rs q]
      rfl
  | .non :: _, _, _, _, h => by cases h
  | .bl _ :: _, _, _, _, h => by cases h
  | .int _ :: _, _, _, _, h => by cases h
  | .tup _ :: _, _, _, _, h => by cases h
  | .lst _ :: _, _, _, _, h => by cases h
  | .frz _ :: _, _, _, _, h => by cases h
  | .dic _ _ :: _, _, _, _, h => by cases h
  | .ins _ _ :: _, _, _, _, h => by cases h
  | .fn _ :: _, _, _, _, h => by cases h
/-- sep.join(e) -/
theorem q_join {o : E} {b : E} (ho : QE Γ X ea (evA P o)) (hb : QE Γ X eb (evA P b)) (hK : X.K = Γ.K) (hst : notStar eb = true) (hbase : attributeBase ea "join" X.env (eval ea X.env) = eval ea X.env) (hl : (apos.endLine == cpos.line) = true) :
    QE Γ X (.Call (.Attribute ea "join" apos) [eb] [] cpos) (evA P (.sm .join o (.cons b .nil))) := fun xe W tk =>
  PE.imp (pe_join (X := X.wish xe) (ho xe W tk) (hb xe W tk) (starEach_cons hst) hbase hl) fun σ H Q ⟨U, env, r, h⟩ => by
    simp only [evA] at h
    refine (stepE r (fun x e cls d H' p q => q cls d H' p) h).mono fun v H1 ⟨x, env1, p1, h⟩ => ?_
    split at h
    · rename_i s
      have hv : v = .str s := by
        have q : Rep Γ _ H1 v (.str s) := p1.ra
        cases q
        rfl
      subst hv
      refine ⟨⟨s, rfl⟩, ?_⟩
      simp only [evAs, Out.bind_ok] at h
      rw [Wp.bind] at h
      have h : Wp ((evA P b env1).bind fun a env => Out.ok [a] env) _ _ := h
      refine (stepE p1.re (fun x e cls d H' p q => q cls d H' (p1.xcomp p)) h).mono fun w H2 ⟨y, env2, p2, h⟩ => ?_
      have h : Wp (match lookAll [y] env2 with | some ds => (match smF .join s ds with | some r => Out.ok r.a env2 | none => .stuck) | none => .stuck) (fun a env' => ∀ v H', Post Γ U env σ H a env' v H' → Q v H') (fun x env' => ∀ cls d H', XPost Γ U env σ H x env' cls d H' → W cls d σ H') := h
      have hl2 : lookAll [y] env2 = (y.look env2).map fun d => [d] := by
        unfold lookAll lookAll
        cases y.look env2 <;> rfl
      rw [hl2] at h
      cases hy : y.look env2 with
      | none => rw [hy] at h; exact h.elim
      | some d =>
        rw [hy] at h
        have h : Wp (match smF .join s [d] with | some r => Out.ok r.a env2 | none => .stuck) (fun a env' => ∀ v H', Post Γ U env σ H a env' v H' → Q v H') (fun x env' => ∀ cls d H', XPost Γ U env σ H x env' cls d H' → W cls d σ H') := h
        have vw := p2.vw hy
        cases hr : smF .join s [d] with
        | none => rw [hr] at h; exact h.elim
        | some rr =>
          rw [hr] at h
          have core : ∀ {xs : List D}, (asStrs xs).bind (fun ys => if (ys.map (·.length)).sum + ys.length * s.length ≤ 16777216 then some (BR.val (.str (Txt.join s ys))) else none) = some rr →
              ∃ ys, asStrs xs = some ys ∧ (ys.map (·.length)).sum + ys.length * s.length ≤ 16777216 ∧ Q (.str (Txt.join s ys)) H2 := fun {xs} hr => by
            obtain ⟨ys, hys, hr⟩ := Option.bind_eq_some_iff.mp hr
            split at hr
            · rename_i hz
              cases hr
              exact ⟨ys, hys, hz, fin_val h (p1.comp p2) (.str _)⟩
            · cases hr
          cases d with
          | lst xs =>
            obtain ⟨ys, hys, hz, hq⟩ := core (xs := xs) hr
            obtain ⟨a, us, rfl, r1, r2⟩ := Vw.row (.inl vw)
            refine ⟨s, a, ys, rfl, rfl, .inl ?_, hz, hq⟩
            rw [← strs_of r2 hys]
            show SqL X.K _ _ _
            rw [hK]
            exact r1
          | tup xs =>
            obtain ⟨ys, hys, hz, hq⟩ := core (xs := xs) hr
            obtain ⟨a, us, rfl, r1, r2⟩ := vw.tup
            refine ⟨s, a, ys, rfl, rfl, .inr ?_, hz, hq⟩
            rw [← strs_of r2 hys]
            exact SqT.of r1
          | _ => cases hr
    · exact h.elim

/-! ### dicts -/
theorem dput_K {k : Key} {v : V} {e d : D} {l : List (Key × V)} {kvs : List (D × D)} (h : RepK Γ O H l kvs) (he : D.key e = some k) (hv : Rep Γ O H v d) : RepK Γ O H (putK l k v) (dput kvs e d) := by
  have any_ : ∀ {l : List (Key × V)} {kvs : List (D × D)}, RepK Γ O H l kvs → (l.any fun kv => decide (kv.1 = k)) = kvs.any fun p => kEq p.1 e := fun {l kvs} h => by
    have go : ∀ (l : List (Key × V)) (kvs : List (D × D)), RepK Γ O H l kvs → (l.any fun kv => decide (kv.1 = k)) = kvs.any fun p => kEq p.1 e := by
      intro l
      induction l with
      | nil => intro kvs h; cases h; rfl
      | cons p l ih =>
        intro kvs h
        cases h with
        | cons e1 r1 rs =>
          rw [List.any_cons, List.any_cons, ih _ rs, kEq_key e1 he]
    exact go l kvs h
  have map_ : ∀ (l : List (Key × V)) (kvs : List (D × D)), RepK Γ O H l kvs → RepK Γ O H (l.map fun kv => if kv.1 = k then (kv.1, v) else kv) (kvs.map fun p => if kEq p.1 e then (p.1, d) else p) := by
    intro l
    induction l with
    | nil => intro kvs h; cases h; exact .nil
    | cons p l ih =>
      intro kvs h
      cases h with
      | @cons k1 v1 _ dk d1 _ e1 r1 rs =>
        rw [List.map_cons, List.map_cons]
        have hk := kEq_key e1 he
        by_cases hkk : k1 = k
        · rw [decide_eq_true hkk] at hk
          simp only [hk, if_true, hkk]
          rw [hkk] at e1
          exact .cons e1 hv (ih _ rs)
        · rw [decide_eq_false hkk] at hk
          simp only [hk, hkk, if_false, Bool.false_eq_true]
          exact .cons e1 r1 (ih _ rs)
  have app_ : ∀ (l : List (Key × V)) (kvs : List (D × D)), RepK Γ O H l kvs → RepK Γ O H (l ++ [(k, v)]) (kvs ++ [(e, d)]) := by
    intro l
    induction l with
    | nil => intro kvs h; cases h; exact .cons he hv .nil
    | cons p l ih =>
      intro kvs h
      cases h with
      | cons e1 r1 rs => exact .cons e1 r1 (ih _ rs)
  unfold putK dput
  rw [any_ h]
  cases kvs.any fun p => kEq p.1 e with
  | true => exact map_ _ _ h
  | false => exact app_ _ _ h
theorem dput_T {k : List Key} {v : V} {e d : D} {l : List (List Key × V)} {kvs : List (D × D)} (h : RepT Γ O H l kvs) (he : D.tkey e = some k) (hv : Rep Γ O H v d) : RepT Γ O H (putK l k v) (dput kvs e d) := by
  have any_ : ∀ (l : List (List Key × V)) (kvs : List (D × D)), RepT Γ O H l kvs → (l.any fun kv => decide (kv.1 = k)) = kvs.any fun p => kEq p.1 e := by
    intro l
    induction l with
    | nil => intro kvs h; cases h; rfl
    | cons p l ih =>
      intro kvs h
      cases h with
      | cons e1 r1 rs =>
        rw [List.any_cons, List.any_cons, ih _ rs, kEq_tkey e1 he]
  have map_ : ∀ (l : List (List Key × V)) (kvs : List (D × D)), RepT Γ O H l kvs → RepT Γ O H (l.map fun kv => if kv.1 = k then (kv.1, v) else kv) (kvs.map fun p => if kEq p.1 e then (p.1, d) else p) := by
    intro l
    induction l with
    | nil => intro kvs h; cases h; exact .nil
    | cons p l ih =>
      intro kvs h
      cases h with
      | @cons k1 v1 _ dk d1 _ e1 r1 rs =>
        rw [List.map_cons, List.map_cons]
        have hk := kEq_tkey e1 he
        by_cases hkk : k1 = k
        · rw [decide_eq_true hkk] at hk
          simp only [hk, if_true, hkk]
          rw [hkk] at e1
          exact .cons e1 hv (ih _ rs)
        · rw [decide_eq_false hkk] at hk
          simp only [hk, hkk, if_false, Bool.false_eq_true]
          exact .cons e1 r1 (ih _ rs)
  have app_ : ∀ (l : List (List Key × V)) (kvs : List (D × D)), RepT Γ O H l kvs → RepT Γ O H (l ++ [(k, v)]) (kvs ++ [(e, d)]) := by
    intro l
    induction l with
    | nil => intro kvs h; cases h; exact .cons he hv .nil
    | cons p l ih =>
      intro kvs h
      cases h with
      | cons e1 r1 rs => exact .cons e1 r1 (ih _ rs)
  unfold putK dput
  rw [any_ _ _ h]
  cases kvs.any fun p => kEq p.1 e with
  | true => exact map_ _ _ h
  | false => exact app_ _ _ h
theorem RepK.length : ∀ {l : List (Key × V)} {kvs : List (D × D)}, RepK Γ O H l kvs → l.length = kvs.length
  | _, _, .nil => rfl
  | _, _, .cons _ _ rs => by simp [RepK.length rs]
theorem RepT.length : ∀ {l : List (List Key × V)} {kvs : List (D × D)}, RepT Γ O H l kvs → l.length = kvs.length
  | _, _, .nil => rfl
  | _, _, .cons _ _ rs => by simp [RepT.length rs]
theorem merge_K : ∀ {more : List (Key × V)} {prs : List (D × D)} {l : List (Key × V)} {kvs : List (D × D)}, RepK Γ O H more prs → RepK Γ O H l kvs → RepK Γ O H (mergeK l more) (dmerge kvs prs)
  | _, _, _, _, .nil, h => h
  | (k, v) :: more, (dk, d) :: prs, l, kvs, .cons e r rs, h => by
    show RepK Γ O H (mergeK (putK l k v) more) (dmerge (dput kvs dk d) prs)
    exact merge_K rs (dput_K h e r)
/-- a thing that is nobody's here is written -/
theorem RE.setUO {b : Addr} {o o1 : HO} (r : RE Γ U env σ H) (hU : U b) (hb : H b = some o) (m : MutO o) : RE Γ U env σ (upd H b o1) := by
  have st : Stp (fun c => c = b) H (fun c => c = b) (upd H b o1) := Stp.setO hb m rfl
  have stO : Stp (fun c => U c ∨ Own env σ c) H (fun c => U c ∨ Own env σ c) (upd H b o1) := st.mono (fun c z => .inl (by rw [z]; exact hU)) fun c z => .inr (.inl z)
  have nt : ∀ P ∈ Γ.tabs, ¬ P = b := fun P hP z => by
    subst z
    obtain ⟨o, e, q⟩ := r.tabs P hP
    rw [hb] at e
    cases e
    exact m.ntab q
  refine ⟨r.len, fun i d e => ?_, fun i d e => ?_, r.sep, r.tabs.stp st nt, fun c z => ?_⟩
  · obtain ⟨v, e1, e2⟩ := r.val i d e
    exact ⟨v, e1, e2.stp stO⟩
  · obtain ⟨c, e1, e2, e3⟩ := r.own i d e
    have hc : c ≠ b := fun z => by subst z; exact e2 hU
    exact ⟨c, e1, e2, e3.stp stO fun o m q => by rw [upd_ne hc]; exact q⟩
  · obtain ⟨o, e⟩ := r.uth c z
    exact st.there c o e
def flatP : List (V × V) → List V
  | [] => []
  | (x, y) :: r => x :: y :: flatP r
/-- a display's keys and values in the order of their making -/
def ilv : List (Option Expr) → List Expr → Option (List Expr)
  | [], [] => some []
  | some k :: ks, v :: vs => (ilv ks vs).map fun r => k :: v :: r
  | _, _ => none
def QPs (Γ : Glob) (X : Cx) (pos : Pos) (keys : List (Option Expr)) (values : List Expr) (m : M (List D)) : Prop := ∀ (xe : Value → Shared → Prop) (W : WX), Takes (X.wish xe) W →
  ∃ trs, PPs (X.wish xe) pos keys values trs ∧ ∀ σ H Q, tVs Γ m W σ H (fun vs H' => ∀ ps, flatP ps = vs → Q ps H') → tPairs trs σ H Q
theorem qps_nil : QPs Γ X pos [] [] (evVs P .nil) := fun xe W tk => ⟨[], pps_nil, fun σ H Q ⟨U, env, r, h⟩ => by
  simp only [evVs] at h
  exact h [] H (.nil r) [] rfl⟩
theorem qps_cons {a b : E} {as : Es} {k v : Expr} {ks : List (Option Expr)} {vs : List Expr} (hk : QE Γ X k (evA P a)) (hv : QE Γ X v (evA P b)) (hr : QPs Γ X pos ks vs (evVs P as)) : QPs Γ X pos (some k :: ks) (v :: vs) (evVs P (.cons a (.cons b as))) := fun xe W tk => by
  obtain ⟨trs, h1, h2⟩ := hr xe W tk
  refine ⟨_, pps_cons (hk xe W tk) (hv xe W tk) h1, fun σ H Q ⟨U, env, r, h⟩ => ?_⟩
  simp only [evVs] at h
  refine (stepE r (fun x e cls d H' p q => q cls d H' p) h).mono fun x H1 ⟨xa, env1, p1, h⟩ => ?_
  obtain ⟨d1, env2, p2, h⟩ := freeze_step p1 h
  rw [Wp.bind] at h
  have h : Wp ((evA P b env2).bind fun a env => (a.freeze env).bind fun d env => (evVs P as env).bind fun ds env => Out.ok (d :: ds) env) (fun ds e => Wp (Out.ok (d1 :: ds) e) (fun ds env' => ∀ vs H', PostVs Γ U env σ H ds env' vs H' → ∀ ps, flatP ps = vs → Q ps H') fun x env' => ∀ cls d H', XPost Γ U env σ H x env' cls d H' → W cls d σ H') (fun x env' => ∀ cls d H', XPost Γ U env σ H x env' cls d H' → W cls d σ H') := h
  refine (stepE p2.reU (fun x e cls d H' p q => q cls d H' (p2.xcompV p)) h).mono fun y H2 ⟨ya, env3, p3, h⟩ => ?_
  obtain ⟨d2, env4, p4, h⟩ := freeze_step p3 h
  rw [Wp.bind] at h
  refine h2 σ H2 _ ⟨U, env4, p4.reU, h.mono (fun ds env5 h vs H3 p5 ps hps => ?_) fun x e q cls d H' p => q cls d H' (p2.xcompV (p4.xcompV p))⟩
  subst hps
  exact h _ H3 (.cons p2 (.cons p4 p5)) ((x, y) :: ps) rfl
theorem pairs_of : ∀ {ps : List (V × V)} {ds : List D} {prs : List (D × D)}, Reps Γ O H (flatP ps) ds → pairD ds = some prs → ∃ kvs : List (Key × V), ps = kvs.map (fun kv => (kV kv.1, kv.2)) ∧ RepK Γ O H kvs prs
  | [], _, prs, .nil, h => by cases h; exact ⟨[], rfl, .nil⟩
  | (x, y) :: ps, _, prs, .cons (d := dk) r1 (.cons (d := dv) (ds := ds) r2 rs), h => by
    unfold pairD at h
    split at h
    · rename_i hk
      cases q : pairD ds with
      | none => rw [q] at h; cases h
      | some prs' =>
        rw [q] at h
        cases h
        obtain ⟨kvs, e, rk⟩ := pairs_of rs q
        obtain ⟨k, hk⟩ := key_of1 hk
        refine ⟨(k, y) :: kvs, ?_, .cons hk r2 rk⟩
        rw [List.map_cons, ← e, key_V (.inl r1) hk]
    · cases h
/-- {k: v, ..} -/
theorem q_dsp {as : Es} {keys : List (Option Expr)} {values : List Expr} (hs : QPs Γ X pos keys values (evVs P as)) (hall : keys.all (·.isSome) = true) (hl : keys.length = values.length) (h0 : keys ≠ []) (h15 : keys.length ≤ 15) :
    QE Γ X (.Dict keys values pos) (evA P (.dsp as)) := fun xe W tk => by
  obtain ⟨trs, g1, g2⟩ := hs xe W tk
  refine PE.imp (pe_disp g1 hall hl h0 h15) fun σ H Q ⟨U, env, r, h⟩ p hp => ?_
  simp only [evA] at h
  rw [Wp.bind] at h
  have s0 : Stp (fun _ => False) H (fun b => False ∨ b = p) (upd H p (.dK [])) := Stp.new hp
  have r0 : RE Γ (fun b => U b ∨ b = p) env σ (upd H p (.dK [])) := r.stp (s0.shr fun b z => z.1.elim (fun y => (z.2 y).elim) .inr) (fun _ z => .inl z) fun b z => z.elim (fun y => let ⟨o, e⟩ := r.uth b y; s0.there b o e) fun y => ⟨.dK [], by rw [y]; exact upd_same⟩
  have sN : Stp (Own env σ) H (fun b => Own env σ b ∨ b = p) (upd H p (.dK [])) := Stp.new hp
  have nU : ¬ U p := fun z => by
    obtain ⟨o, e⟩ := r.uth p z
    rw [hp] at e
    cases e
  have np : ¬ Own env σ p := fun ⟨i, d, e1, e2⟩ => by
    obtain ⟨b, q1, q2, _⟩ := r0.own i d e1
    rw [e2] at q1
    cases q1
    exact q2 (.inr rfl)
  refine g2 σ _ _ ⟨_, env, r0, h.mono (fun ds env1 h vs H2 pv ps hps => ?_) fun x e h cls d H' px => ?_⟩
  · subst hps
    have hp2 : H2 p = some (.dK []) := pv.st.mu upd_same (.inr (.inl ⟨[], rfl⟩)) np
    refine ⟨hp2, ?_⟩
    cases q : pairD ds with
    | none => rw [q] at h; exact h.elim
    | some prs =>
      rw [q] at h
      have h : Wp (if prs.length ≤ 15 then Out.ok (A.tmp (.dic false (dmerge [] prs))) env1 else .stuck) (fun a env' => ∀ v H', Post Γ U env σ H a env' v H' → Q v H') (fun x env' => ∀ cls d H', XPost Γ U env σ H x env' cls d H' → W cls d σ H') := h
      obtain ⟨kvs, e, rk⟩ := pairs_of pv.rs q
      split at h
      · rename_i hz
        refine ⟨kvs, e, by rw [rk.length]; exact hz, ?_⟩
        have r2 : RE Γ (fun b => U b ∨ b = p) env1 σ (upd H2 p (.dK (mergeK [] kvs))) := pv.re.setUO (.inr rfl) hp2 (.inr (.inl ⟨[], rfl⟩))
        have s2 : Stp (fun c => c = p) H2 (fun c => c = p) (upd H2 p (.dK (mergeK [] kvs))) := Stp.setO hp2 (.inr (.inl ⟨[], rfl⟩)) rfl
        have eqU : ∀ b, UA U (.tmp (.dic false (dmerge [] prs))) (.ref p) b ↔ (U b ∨ b = p) := fun b => Iff.rfl
        refine h _ _ ⟨r2, ⟨p, rfl, nU, _, upd_same, ?_⟩, ?_⟩
        · exact merge_K (rk.stp (s2.mono (W1 := fun b => (U b ∨ b = p) ∨ Own env1 σ b) (W2 := fun b => UA U (.tmp (.dic false (dmerge [] prs))) (.ref p) b ∨ Own env1 σ b) (fun c z => .inl (.inr z)) fun c z => .inr (.inl z))) .nil
        · refine (sN.comp (pv.st.mono (W1 := fun b => Own env σ b ∨ b = p) (W2 := fun b => Own env1 σ b ∨ b = p) (fun b z => .inl z) fun b z => z.elim .inl fun y => .inr (.inl (.inr y))) fun _ z => z).comp (s2.mono (W1 := fun b => Own env1 σ b ∨ b = p) (W2 := fun b => Own env1 σ b ∨ b = p) (fun b z => .inr z) fun b z => .inr (.inl z)) fun _ z => z
      · exact h.elim
  · refine h cls d H' ⟨px.re.less fun _ z => .inl z, px.xr, (sN.comp (px.st.mono (W1 := fun b => Own env σ b ∨ b = p) (W2 := fun b => Own e σ b ∨ b = p) (fun b z => .inl z) fun b z => z.elim .inl fun y => .inr (.inl (.inr y))) fun _ z => z).shr fun _ z => .inl z⟩
/-- {} -/
theorem Post.newDic {t : Bool} {o : HO} {p : Addr} (r : RE Γ U env σ H) (hp : H p = none) (ho : o = if t then .dT [] else .dK []) : Post Γ U env σ H (.tmp (.dic t [])) env (.ref p) (upd H p o) := by
  have s : Stp (fun _ => False) H (fun b => False ∨ b = p) (upd H p o) := Stp.new hp
  have r' : RE Γ (UA U (.tmp (.dic t [])) (.ref p)) env σ (upd H p o) := r.stp (s.shr fun b z => z.1.elim (fun y => (z.2 y).elim) .inr) (fun _ z => .inl z) fun b z => z.elim (fun y => let ⟨o, e⟩ := r.uth b y; s.there b o e) fun y => ⟨o, by rw [show b = p from y]; exact upd_same⟩
  refine ⟨r', ⟨p, rfl, fun z => ?_, ?_⟩, s.mono (fun _ z => z.elim) fun b z => ?_⟩
  · obtain ⟨o, e⟩ := r.uth p z
    rw [hp] at e
    cases e
  · subst ho
    cases t with
    | false => exact ⟨[], upd_same, .nil⟩
    | true => exact ⟨[], upd_same, .nil⟩
  · rcases z with z | z
    · exact .inr (.inl z)
    · exact .inl (.inr z)
theorem q_dnew {t : Bool} : QE Γ X (.Dict [] [] pos) (evA P (.dnew t)) := fun xe W tk => by
  cases t with
  | false =>
    refine PE.imp pe_dnewK fun σ H Q ⟨U, env, r, h⟩ p hp => ?_
    simp only [evA] at h
    exact h _ _ (.newDic r hp rfl)
  | true =>
    refine PE.imp pe_dnewT fun σ H Q ⟨U, env, r, h⟩ p hp => ?_
    simp only [evA] at h
    exact h _ _ (.newDic r hp rfl)
end
end Ev
end
section
set_option maxRecDepth 100000
/-! enumerate of a tuple. -/
namespace PySem
open Sem (wp)
open AutoSeq1 (wpAny_loadPart')

set_option maxHeartbeats 1000000 in
theorem ev_enumNewT (l : Addr) (items : Array Value) (n : Nat) (dct : Option Addr) (sl : Array (Option Value)) :
    Meets (Builtin.«enumerate.__new__» ⟨[.type "enumerate", .ref l], []⟩) (fun _ R s => s.heap.get? l = some { cls := .type "tuple", dict := dct, data := .seq items n, slots := sl } ∧
      R (.ok (.ret (.ref (s.heap.push { cls := .type "tuple_iterator", data := .fields #[.ref l, .int 0 0] }).objs.size)))
        { s with heap := (s.heap.push { cls := .type "tuple_iterator", data := .fields #[.ref l, .int 0 0] }).push { cls := .type "enumerate", data := .fields #[.none, .bool false, .ref s.heap.objs.size, rawInt 0, .none, .none] } }) :=
  .of_wp fun prog w A R s h => by
    obtain ⟨hp, g, d, tk, os⟩ := s; obtain ⟨hl, h⟩ := h
    have hsub := sub_enumerate
    have hT : Heap.IsTuple (Shared.heap ⟨hp, g, d, tk, os⟩) l items := ⟨_, hl, rfl, n, rfl⟩
    wp_walk using wpAny_loadPart' hl
    refine wpAny_stack_any fun st => wpAny_pure ?_
    split
    · rename_i c _ _ _ _ _
      cases (c == Value.type "enumerate")
      · wp_walk using wpAny_loadPart' hl, wpAny_pyIter_tuple hT
        exact ⟨_, rfl, h⟩
      · wp_walk using wpAny_loadPart' hl, wpAny_pyIter_tuple hT
        exact ⟨_, rfl, h⟩
    · wp_walk using wpAny_loadPart' hl, wpAny_pyIter_tuple hT
      exact ⟨_, rfl, h⟩
section
variable {prog : Program} {w : World} {A : Around} {E : Value → Shared → Prop} {s : Shared}
theorem ev_callEnumT {l : Addr} {items : Array Value} {Q : Value → Shared → Prop} (hL : s.heap.IsTuple l items)
    (h : ∀ h', IsEnum h' (s.heap.objs.size + 1) s.heap.objs.size 0 .none → h'.IsTupleIter s.heap.objs.size l 0 → h'.objs.size = s.heap.objs.size + 2 →
      (∀ b o, s.heap.get? b = some o → h'.get? b = some o) → Q (.ref (s.heap.objs.size + 1)) { s with heap := h' }) :
    wpAny (model prog w) A (call (.type "enumerate") [.ref l]) Q E s := by
  obtain ⟨⟨c, dct, dt, sl⟩, hl, hc, n, hd⟩ := hL
  replace hc : c = .type "tuple" := hc
  replace hd : dt = .seq items n := hd
  subst hc hd
  refine callType_new F.called_enumerate (by decide) (F.typeCall_enumerate_1 _) (F.newCall_enumerate_1 _) (fun obj => F.args_object_init_2 obj _) F.entry_enumerate_new
    (ev_enumNewT l items n dct sl) ⟨hl, ?_⟩
  have hz : (s.heap.push { cls := .type "tuple_iterator", data := .fields #[.ref l, .int 0 0] }).objs.size = s.heap.objs.size + 1 := Heap.size_push ..
  show _ ∧ _
  rw [hz]
  have he : IsEnum ((s.heap.push { cls := .type "tuple_iterator", data := .fields #[.ref l, .int 0 0] }).push
      { cls := .type "enumerate", data := .fields #[.none, .bool false, .ref s.heap.objs.size, rawInt 0, .none, .none] }) (s.heap.objs.size + 1) s.heap.objs.size 0 .none := by
    have := Heap.get?_push_size (s.heap.push { cls := .type "tuple_iterator", data := .fields #[.ref l, .int 0 0] })
      (o := { cls := .type "enumerate", data := .fields #[.none, .bool false, .ref s.heap.objs.size, rawInt 0, .none, .none] }) rfl
    rw [hz] at this; exact this
  refine ⟨⟨_, he, rfl⟩, h _ he ⟨_, Heap.get?_push_of_some _ (Heap.get?_push_size _ rfl), rfl, rfl⟩ (by rw [Heap.size_push, hz]) fun b o x => Heap.get?_push_of_some _ (Heap.get?_push_of_some _ x)⟩
theorem ev_nextOfT_item {it t : Addr} {i : Nat} {items} {x : Value} {Q : Value → Shared → Prop} (hit : s.heap.IsTupleIter it t i) (ht : s.heap.IsTuple t items) (hx : items[i]? = some x)
    (hQ : ∀ h', h'.IsTupleIter it t (i + 1) → Heap.SameBut it s.heap h' → Q x { s with heap := h' }) : wpAny (model prog w) A (Builtin.SmallTypes.nextOf (.ref it)) Q E s := by
  obtain ⟨o, ho, hc, hd⟩ := id hit
  obtain ⟨ol, hol, _, nl, hdl⟩ := ht
  unfold Builtin.SmallTypes.nextOf
  refine wpAny_bind (wpAny_callSpecial?_slot (name := Str.ofString "__next__") hit.typeIs F.slot_tuple_iterator_next
    (wpAny_call_entry F.slot_tuple_iterator_next hit.typeIs F.entry_tuple_iterator_next ?_ (F.args_tuple_iterator_next_1 _)))
  show wpAny _ _ (field (.ref it) 0 >>= _) _ _ s
  refine wpAny_bind (wpAny_field ho hd (x := .ref t) rfl ?_)
  show wpAny _ _ (if (Value.ref t == Value.none) = true then _ else _) _ _ s
  rw [if_neg (show ¬ ((Value.ref t == Value.none) = true) from Bool.false_ne_true)]
  show wpAny _ _ (field (.ref it) 1 >>= _) _ _ s
  refine wpAny_bind (wpAny_field ho hd (x := .int i 0) rfl ?_)
  show wpAny _ _ (seqItems? (.ref t) >>= _) _ _ s
  refine wpAny_bind (wpAny_seqItems hol hdl ?_)
  simp only [Int.toNat_natCast, hx]
  refine wpAny_bind (wpAny_setField ho hd (by simp) (wpAny_pure ⟨x, rfl, wpAny_pure (hQ _ ?_ (Heap.SameBut.update ..))⟩))
  exact ⟨_, Heap.get?_update_self _ ho (Obj.isFreed_of_fields (Obj.data_mapFields hd _)), (Obj.cls_mapFields ..).trans hc, by
    rw [Obj.data_mapFields hd]; simp [rawInt]⟩
theorem ev_nextOfT_end {it t : Addr} {i : Nat} {items} {Q : Value → Shared → Prop} (hh : A.handled = none) (hit : s.heap.IsTupleIter it t i) (ht : s.heap.IsTuple t items) (hx : items[i]? = none)
    (hE : ∀ h' e, Heap.ExtBut it s.heap h' → (∃ o, h'.get? e = some o ∧ o.cls = .type "StopIteration") → E (.ref e) { s with heap := h' }) : wpAny (model prog w) A (Builtin.SmallTypes.nextOf (.ref it)) Q E s := by
  obtain ⟨o, ho, hc, hd⟩ := id hit
  obtain ⟨ol, hol, _, nl, hdl⟩ := ht
  unfold Builtin.SmallTypes.nextOf
  refine wpAny_bind (wpAny_callSpecial?_slot (name := Str.ofString "__next__") hit.typeIs F.slot_tuple_iterator_next
    (wpAny_call_entry F.slot_tuple_iterator_next hit.typeIs F.entry_tuple_iterator_next ?_ (F.args_tuple_iterator_next_1 _)))
  show wpAny _ _ (field (.ref it) 0 >>= _) _ _ s
  refine wpAny_bind (wpAny_field ho hd (x := .ref t) rfl ?_)
  show wpAny _ _ (if (Value.ref t == Value.none) = true then _ else _) _ _ s
  rw [if_neg (show ¬ ((Value.ref t == Value.none) = true) from Bool.false_ne_true)]
  show wpAny _ _ (field (.ref it) 1 >>= _) _ _ s
  refine wpAny_bind (wpAny_field ho hd (x := .int i 0) rfl ?_)
  show wpAny _ _ (seqItems? (.ref t) >>= _) _ _ s
  refine wpAny_bind (wpAny_seqItems hol hdl ?_)
  simp only [Int.toNat_natCast, hx]
  refine wpAny_bind (wpAny_rule (wpAny_bind (wpAny_setField ho hd (by simp) ?_)))
  show wpAny _ _ (newExc (.type "StopIteration") [] >>= _) _ _ _
  refine wpAny_bind ?_
  simp only [newExc, newTuple]
  refine wpAny_bind (wpAny_newObj_type ?_ (by size_fits))
  refine wpAny_bind (m := firstArgMember _ _) (wpAny_of_eq (a := Value.none) (by first | rfl | (simp only [firstArgMember]; rfl)) ?_)
  refine wpAny_newObj_type ?_ (by size_fits)
  simp only [raiseNew]
  refine wpAny_bind (wpAny_handled ?_)
  first | rw [show A.in1.handled = none from hh] | rw [hh]
  refine wpAny_bind (wpAny_pure (wpAny_throw ?_))
  exact hE _ _ (((Heap.SameBut.update ..).extBut.push _).push _) ⟨_, Heap.get?_push_size _ rfl, rfl⟩
end
theorem Draws.evTuple {prog : Program} {w : World} {A : Around} (hh : A.handled = none) (it l : Addr) (hne : l ≠ it) (items : Array Value) :
    Draws prog w A it [it, l] items.size (fun i v => items[i]? = some v) (fun i h => h.IsTupleIter it l i ∧ h.IsTuple l items) where
  live := fun _ _ st => let ⟨o, ho, _⟩ := st.1; ⟨o, ho⟩
  frame := fun _ _ _ st hk => ⟨st.1.at fun o e => hk it (by simp) o e, let ⟨o, e, r⟩ := st.2; ⟨o, hk l (by simp) o e, r⟩⟩
  item := fun i s Q E hi st hQ => by
    refine ev_nextOfT_item st.1 st.2 (x := items[i]) (by simp [hi]) fun h' hit' hs' => ?_
    exact hQ _ h' s.toks (by simp [hi]) ⟨hit', st.2.extBut hs'.extBut hne⟩ hs'
  done := fun s Q E st hE => ev_nextOfT_end hh st.1 st.2 (by simp) hE
end PySem
namespace L2
open PySem PySem.Spec PyProof.Rows
/-- the tuple at a, the items in new pairs with their numbers -/
def IteT (K : PySem.W.Frag) (a : Addr) : It :=
  ⟨fun i H => ∃ xs x, SqT K H a xs ∧ xs[i]? = some x, fun i H v H' => ∃ T x, v = .ref T ∧ H T = none ∧ H' = upd H T (.tup [.int (i : Nat), x]) ∧ ∀ xs, SqT K H a xs → xs[i]? = some x, fun i H => ∃ xs, SqT K H a xs ∧ xs.length ≤ i⟩
theorem turn_enumT {P : Program} {w : World} {K : PySem.W.Frag} {elts : List Expr} {kk : Nat} {tpos : Pos} (a e it : Addr) (hai : a ≠ it) (hae : a ≠ e) :
    Turn P w K (.Tuple elts kk tpos) (IteT K a) [e, it] e (fun i h => (∃ old, IsEnum h e it ((i : Nat) : Int) old) ∧ h.IsTupleIter it a i ∧ e ≠ it) where
  mem := by simp
  obj := fun i h st b hb => by
    obtain ⟨⟨old, he⟩, ⟨o, ho, hc, hd⟩, _⟩ := st
    have e' : b = e ∨ b = it := by simpa using hb
    rcases e' with z | z
    · rw [z]; exact ⟨_, he, fun v q => nomatch q⟩
    · rw [z]; exact ⟨o, ho, fun v q => by rw [hd] at q; cases q⟩
  keep := fun i h h' st k => let ⟨⟨old, he⟩, hi, hne⟩ := st; ⟨⟨old, k e (by simp) _ he⟩, hi.at fun o q => k it (by simp) o q, hne⟩
  item := by
    intro X hP hw hK hc i pins s σ H E I hf st hg
    subst hP hw hK
    obtain ⟨⟨old, he⟩, hit, hne⟩ := st
    obtain ⟨xs, x, hq, hx⟩ := hg
    obtain ⟨its, rv, p, hz⟩ := I.tuple hq
    obtain ⟨u, hu, ru⟩ := rv.get hx
    have hel : e < s.heap.objs.size := Heap.lt_size he
    have hil : it < s.heap.objs.size := by obtain ⟨_, q, _⟩ := hit; exact Heap.lt_size q
    have hlt : i < its.toArray.size := by
      have := (List.getElem?_eq_some_iff.mp hu).1
      simpa using this
    refine wpAny_pyNext_enum_itemD (Draws.evTuple (A := X.A.in1) (I.ok.hd hc) it a hai its.toArray) he ⟨hit, (show Heap.IsTuple s.heap a its.toArray from p)⟩ hlt hne (fun z => (List.mem_cons.mp z).elim hne fun z => hae (List.mem_singleton.mp z).symm) fun u' h' tk hPu ho hst' hT hsz hk => ?_
    have eu : u' = u := by
      have h1 : its.toArray[i]? = some u' := hPu
      have h2 : its.toArray[i]? = some u := by simpa using hu
      rw [h1] at h2
      exact Option.some.inj h2
    subst eu
    refine ⟨_, rfl, wpAny_letOwnedTupleGo_enum (s := { s with heap := h', toks := tk + 1 }) ho fun h'' he' sb => ?_⟩
    have hT2 : h''.get? s.heap.objs.size = some { cls := .type "tuple", data := .seq #[.int i tk, u'] } := (sb.2 _ (Nat.ne_of_gt hel)).trans hT
    have new : ObjOk X.prog X.w (upd H s.heap.objs.size (.tup [.int (i : Nat), x])) h'' s.heap.objs.size (.tup [.int (i : Nat), x]) :=
      ⟨by show 2 ≤ sizeLine; decide, [.int i tk, u'], .cons ⟨_, rfl⟩ (.cons ru .nil), ⟨_, hT2, rfl, _, rfl⟩⟩
    have I1 : Inv X pins σ (upd H s.heap.objs.size (.tup [.int (i : Nat), x])) { s with heap := h'', toks := tk + 1 } :=
      I.turnedNew (ch := [e, it]) (fun b ob hb q => (sb.2 b (fun z => hb (by simp [z]))).trans (hk b ob (fun z => hb (by simp [z])) (fun z => hb (by simp [z])) q)) hf (Nat.le_refl _) new
    refine ⟨.ref s.heap.objs.size, _, I1, rfl, ⟨_, x, rfl, I.hok.fresh (Nat.le_refl _), rfl, fun ys hy => by rw [I.tuple_inj hy hq]; exact hx⟩, ⟨⟨u', ?_⟩, hst'.1.at fun o q => (sb.2 it (Ne.symm hne)).trans q, hne⟩, fun b hb => ?_⟩
    · have e1 : ((i + 1 : Nat) : Int) = (i : Int) + 1 := by omega
      rw [e1]; exact he'
    · have hb' : b < s.heap.objs.size := by
        have e' : b = e ∨ b = it := by simpa using hb
        rcases e' with z | z
        · rw [z]; exact hel
        · rw [z]; exact hil
      rw [upd_ne (Nat.ne_of_lt hb')]
      exact (hf b hb).1
  done := by
    intro X hP hw hK hc i pins s σ H E I hf st hg
    subst hP hw hK
    obtain ⟨⟨old, he⟩, hit, hne⟩ := st
    obtain ⟨xs, hq, hx⟩ := hg
    obtain ⟨its, rv, p, hz⟩ := I.tuple hq
    obtain ⟨f0, f1, f2, f3, f4, f5⟩ := hf it (by simp)
    have hl := rv.length
    have hT : Heap.IsTuple s.heap a its.toArray := p
    unfold pyNext
    refine wpAny_bind (wpAny_attempt (wpAny_callSpecial?_slot (name := Str.ofString "__next__") (⟨_, he, rfl⟩ : s.TypeIs (.ref e) "enumerate") F.slot_enumerate_next
      (wpAny_call_entry F.slot_enumerate_next ⟨_, he, rfl⟩ F.entry_enumerate_next ?_ (F.args_enumerate_next_1 _))))
    show wpAny _ _ (field (.ref e) 2 >>= _) _ _ _
    refine wpAny_bind (wpAny_field he rfl (x := .ref it) rfl ?_)
    refine wpAny_bind (ev_nextOfT_end (I.ok.hd hc) hit hT (by simp; omega) fun h' x he' hx' => ?_)
    obtain ⟨o, ho, hcc⟩ := hx'
    refine wpAny_bind (wpAny_isInstance (T := "StopIteration") (b := true) ⟨o, ho, hcc⟩ isSubtype_stop ?_)
    exact wpAny_pure ⟨rfl, I.turned (t' := s.toks) (fun b o hb q => he' b o hb q) f0 f1 f3 f4 f5⟩
  self := fun A i s Q E st h => let ⟨⟨_, he⟩, _⟩ := st; wpAny_pyIter_enum he h
def iEnumT (K : PySem.W.Frag) (ta : TA) : TI := fun σ H R => ta σ H fun vs H1 => ∃ a xs, vs = [.ref a] ∧ SqT K H1 a xs ∧ R (IteT K a) H1
theorem pi_enumT {X : Cx} {e : Expr} {ta : TA} {p pos tpos : Pos} {elts : List Expr} {kk : Nat} (hg : Gl X "enumerate") (hm : X.mg "enumerate" = none) (ha : PA X [e] ta) (hs : starEach [e] X.env = [(false, eval e X.env)] := by rfl) :
    PI X (.Tuple elts kk tpos) (.Call (.Name "enumerate" p) [e] [] pos) (iEnumT X.K ta) := by
  refine ⟨fun pins s σ H R I h => ?_⟩
  refine Call_ (ld_blt I hg hm boot_enumerate (PyProof.Rows.callWith_type1 (thn (ha.run pos pins s σ H _ I h) fun us s1 ⟨vs, H1, I1, r1, q1⟩ => ?_) hs rfl))
  obtain ⟨a, xs, ex, hq, q⟩ := q1
  subst ex
  cases r1 with
  | cons r rr =>
    cases rr
    cases r
    obtain ⟨its, rv, p', hz⟩ := I1.tuple hq
    have hT : Heap.IsTuple s1.heap a its.toArray := p'
    have hal : a < s1.heap.objs.size := let ⟨_, e, _⟩ := hT; Heap.lt_size e
    refine ev_callEnumT hT fun h' he hit hsz hk => wpAny_pyIter_enum he ?_
    have I2 : Inv X pins σ H1 { s1 with heap := h' } := I1.kept (t' := s1.toks) hk
    refine ⟨s1.heap.objs.size + 1, [s1.heap.objs.size + 1, s1.heap.objs.size], _, _, H1, rfl, I2, turn_enumT a (s1.heap.objs.size + 1) s1.heap.objs.size (Nat.ne_of_lt hal) (Nat.ne_of_lt (Nat.lt_succ_of_lt hal)), ⟨⟨.none, he⟩, hit, Nat.succ_ne_self _⟩, fun b hb => ?_, q⟩
    have e' : b = s1.heap.objs.size + 1 ∨ b = s1.heap.objs.size := by simpa using hb
    have hle : s1.heap.objs.size ≤ b := by
      rcases e' with z | z
      · rw [z]; exact Nat.le_add_right _ _
      · rw [z]; exact Nat.le_refl _
    exact I1.fpOk hle (I1.hok.fresh hle)
end L2
end
section
set_option maxRecDepth 100000
set_option maxHeartbeats 1000000
namespace Ev
open PySem PySem.Spec L2

def Tg.slots : Tg → List Nat
  | .nm i => [i]
  | .tp ts => ts.slots
  | .nil => []
  | .cons t ts => t.slots ++ ts.slots
def Tg.len : Tg → Nat
  | .cons _ ts => ts.len + 1
  | _ => 0

section
variable {Γ : Glob} {X : Cx} {P : Par} {U U' U1 O O' : Addr → Prop} {env env' env1 env2 env3 : Env} {σ σ' : St} {H H1 H2 H3 H' H'' : Hp} {a x y z r : A} {as as' : List A} {v w u : V} {vs ws : List V} {d e : D} {ds es' : List D} {W : WX} {pos p1 p2 apos cpos : Pos} {ea eb ec tg : Expr} {es : List Expr} {i j k : Nat} {t ts : Tg}

/-! ### targets -/
structure PostG (Γ : Glob) (U : Addr → Prop) (env : Env) (σ : St) (H : Hp) (sl : List Nat) (env' : Env) (σ' : St) : Prop where
  re : RE Γ U env' σ' H
  sub : ∀ b, Own env' σ' b → Own env σ b
  off : ∀ i, i ∉ sl → σ'[i]? = σ[i]?
  len : σ'.length = σ.length
def tG (Γ : Glob) (t : Tg) : TG := fun v σ H Q => ∃ U env d env', RE Γ U env σ H ∧ Rep Γ (fun b => U b ∨ Own env σ b) H v d ∧ bindT t d env = some env' ∧ ∀ σ', PostG Γ U env σ H t.slots env' σ' → Q σ' H
def tGs (Γ : Glob) (t : Tg) : TGs := fun vs σ H Q => ∃ U env ds env', RE Γ U env σ H ∧ Reps Γ (fun b => U b ∨ Own env σ b) H vs ds ∧ bindT.bindTs t ds env = some env' ∧ ∀ σ', PostG Γ U env σ H t.slots env' σ' → Q σ' H
def QG (Γ : Glob) (X : Cx) (e : Expr) (t : Tg) : Prop := ∀ xe, PG (X.wish xe) e (tG Γ t)
structure QGs (Γ : Glob) (X : Cx) (es : List Expr) (t : Tg) : Prop where
  run : ∀ xe, PGs (X.wish xe) es (tGs Γ t)
  len : es.length = t.len
theorem PG.imp {X : Cx} {e : Expr} {t t' : TG} (h : PG X e t) (hi : ∀ v σ H Q, t' v σ H Q → t v σ H Q) : PG X e t' := ⟨fun pins s σ H v u Q I r hq => h.run pins s σ H v u Q I r (hi v σ H Q hq)⟩
theorem PGs.imp {X : Cx} {e : List Expr} {t t' : TGs} (h : PGs X e t) (hi : ∀ v σ H Q, t' v σ H Q → t v σ H Q) : PGs X e t' := ⟨fun pins s σ H v u Q I r hq => h.run pins s σ H v u Q I r (hi v σ H Q hq)⟩
theorem PG.or {X : Cx} {e : Expr} {t t' : TG} (h : PG X e t) (h' : PG X e t') : PG X e (fun v σ H Q => t v σ H Q ∨ t' v σ H Q) := ⟨fun pins s σ H v u Q I r hq => hq.elim (h.run pins s σ H v u Q I r) (h'.run pins s σ H v u Q I r)⟩
theorem RE.bind (r : RE Γ U env σ H) (q : Rep Γ (fun b => U b ∨ Own env σ b) H v d) (hi : i < env.length) : PostG Γ U env σ H [i] (env.set i (some (.val d))) (σ.set i (some v)) := by
  have hσ : i < σ.length := by rw [← r.len]; exact hi
  have sub : ∀ b, Own (env.set i (some (.val d))) (σ.set i (some v)) b → Own env σ b := fun b ⟨j, e, e1, e2⟩ => by
    by_cases hj : i = j
    · subst hj
      rw [List.getElem?_set_self hi] at e1
      cases e1
    · rw [List.getElem?_set_ne hj] at e1 e2
      exact ⟨j, e, e1, e2⟩
  have less : ∀ b, U b ∨ Own (env.set i (some (.val d))) (σ.set i (some v)) b → U b ∨ Own env σ b := fun b z => z.imp id (sub b)
  refine ⟨⟨by rw [List.length_set, List.length_set]; exact r.len, fun j e e1 => ?_, fun j e e1 => ?_, fun j k b e e' e1 e2 e3 e4 => ?_, r.tabs, r.uth⟩, sub, fun j hj => ?_, by rw [List.length_set]⟩
  · by_cases hj : i = j
    · subst hj
      rw [List.getElem?_set_self hi] at e1
      cases e1
      exact ⟨v, List.getElem?_set_self hσ, q.less less⟩
    · rw [List.getElem?_set_ne hj] at e1
      obtain ⟨w, z1, z2⟩ := r.val j e e1
      exact ⟨w, by rw [List.getElem?_set_ne hj]; exact z1, z2.less less⟩
  · by_cases hj : i = j
    · subst hj
      rw [List.getElem?_set_self hi] at e1
      cases e1
    · rw [List.getElem?_set_ne hj] at e1
      obtain ⟨b, z1, z2, z3⟩ := r.own j e e1
      exact ⟨b, by rw [List.getElem?_set_ne hj]; exact z1, z2, z3.less less⟩
  · have h1 : i ≠ j := fun z => by subst z; rw [List.getElem?_set_self hi] at e1; cases e1
    have h2 : i ≠ k := fun z => by subst z; rw [List.getElem?_set_self hi] at e2; cases e2
    rw [List.getElem?_set_ne h1] at e1 e3
    rw [List.getElem?_set_ne h2] at e2 e4
    exact r.sep j k b e e' e1 e2 e3 e4
  · rw [List.getElem?_set_ne (fun z => hj (by simp [z]))]
theorem qg_nm {n : Str} (hN : X.N.Nodup) (hi : X.N[i]? = some n) (hx : Loc X.env.scope n) (hf : X.fn n = true ∨ X.env.scope.names.lookup n = some .local) : QG Γ X (.Name n pos) (.nm i) := fun xe =>
  PG.imp (pg_name (X := X.wish xe) hN hi hx hf) fun v σ H Q ⟨U, env, d, env', r, q, hb, h⟩ => by
    unfold bindT at hb
    split at hb
    · rename_i hlt
      cases hb
      exact h _ (r.bind q hlt)
    · cases hb
theorem assignEach_cons {e : Expr} {es : List Expr} {env : PySem.Env} (h : notStar e = true) : assignEach (e :: es) env = (false, assign e env) :: assignEach es env := by
  cases e <;> first | rfl | cases h
theorem assignEach_facts : ∀ {es : List Expr} {env : PySem.Env}, es.all notStar = true → (assignEach es env).length = es.length ∧ (assignEach es env).findIdx? (·.1) = none
  | [], _, _ => ⟨rfl, rfl⟩
  | e :: es, env, h => by
    rw [List.all_cons, Bool.and_eq_true] at h
    obtain ⟨h1, h2⟩ := assignEach_facts (es := es) (env := env) h.2
    rw [assignEach_cons h.1]
    exact ⟨by rw [List.length_cons, List.length_cons, h1], by rw [List.findIdx?_cons, h2]; rfl⟩
theorem PostG.comp {s1 s2 : List Nat} (p1 : PostG Γ U env σ H s1 env1 σ') (p2 : PostG Γ U env1 σ' H s2 env2 σ'') : PostG Γ U env σ H (s1 ++ s2) env2 σ'' :=
  ⟨p2.re, fun b z => p1.sub b (p2.sub b z), fun i hi => by
    rw [List.mem_append, not_or] at hi
    rw [p2.off i hi.2, p1.off i hi.1], p2.len.trans p1.len⟩
theorem qgs_nil : QGs Γ X [] .nil where
  len := rfl
  run := fun xe => PGs.imp pgs_nil fun vs σ H Q ⟨U, env, ds, env', r, q, hb, h⟩ => by
    cases q with
    | nil =>
      unfold bindT.bindTs at hb
      cases hb
      exact ⟨rfl, h σ ⟨r, fun _ z => z, fun _ _ => rfl, rfl⟩⟩
    | cons _ _ =>
      unfold bindT.bindTs at hb
      cases hb
theorem qgs_cons (h1 : QG Γ X ea t) (h2 : QGs Γ X es ts) (hst : notStar ea = true) : QGs Γ X (ea :: es) (.cons t ts) where
  len := by rw [List.length_cons, h2.len]; rfl
  run := fun xe => PGs.imp (pgs_cons (h1 xe) (h2.run xe) (by rw [assignEach_cons hst]; rfl)) fun vs0 σ H Q ⟨U, env, ds0, env', r, q, hb, h⟩ => by
    cases q with
    | nil => unfold bindT.bindTs at hb; cases hb
    | cons q qs =>
      rename_i v vs d ds
      unfold bindT.bindTs at hb
      split at hb
      · rename_i env1 hb1
        refine ⟨_, _, rfl, U, env, _, env1, r, q, hb1, fun σ1 p1 => ?_⟩
        exact ⟨U, env1, _, env', p1.re, qs.less fun b z => z.imp id (p1.sub b), hb, fun σ2 p2 => h σ2 (p1.comp p2)⟩
      · cases hb
theorem bindTs_len : ∀ {t : Tg} {ds : List D} {env env' : Env}, bindT.bindTs t ds env = some env' → ds.length = t.len
  | .nil, [], _, _, _ => rfl
  | .cons t ts, d :: ds, env, env', h => by
    unfold bindT.bindTs at h
    split at h
    · rw [List.length_cons, bindTs_len h]; rfl
    · cases h
  | .nil, _ :: _, _, _, h => by unfold bindT.bindTs at h; cases h
  | .cons _ _, [], _, _, h => by unfold bindT.bindTs at h; cases h
  | .nm _, _, _, _, h => by unfold bindT.bindTs at h; cases h
  | .tp _, _, _, _, h => by unfold bindT.bindTs at h; cases h
theorem qg_tp {k : Nat} (hs : QGs Γ X es ts) (hc : X.calm = true) (hst : es.all notStar = true) (hK : X.K = Γ.K) : QG Γ X (.Tuple es k pos) (.tp ts) := fun xe => by
  obtain ⟨f1, f2⟩ := assignEach_facts (env := X.env) hst
  refine PG.imp (PG.or (pg_tup (X := X.wish xe) hc (hs.run xe) f1 f2) (pg_lst (X := X.wish xe) hc (hs.run xe) f1 f2)) fun v σ H Q ⟨U, env, d, env', r, q, hb, h⟩ => ?_
  cases q with
  | tup q1 q2 =>
    unfold bindT at hb
    refine .inl ⟨_, _, rfl, ?_, ?_, U, env, _, env', r, q2, hb, h⟩
    · show SqT X.K H _ _
      rw [hK]
      exact SqT.of q1
    · rw [q2.length, bindTs_len hb, hs.len]
  | lst q1 _ q2 =>
    unfold bindT at hb
    exact .inr ⟨_, _, rfl, SqL.of q1, by rw [q2.length, bindTs_len hb, hs.len], U, env, _, env', r, q2, hb, h⟩
  | _ => unfold bindT at hb; cases hb

/-! ### what is walked -/
def YOk (Γ : Glob) (O : Addr → Prop) (H : Hp) (x : V) (H' : Hp) (d : D) : Prop :=
  (H' = H ∧ Rep Γ O H x d) ∨ ∃ p vs ds, H p = none ∧ H' = upd H p (.tup vs) ∧ x = .ref p ∧ d = .tup ds ∧ Reps Γ O H vs ds
theorem YOk.post (r : RE Γ U env σ H) (y : YOk Γ (fun b => U b ∨ Own env σ b) H v H' d) : Post Γ U env σ H (.val d) env v H' := by
  rcases y with ⟨rfl, q⟩ | ⟨p, vs, ds, hp, rfl, rfl, rfl, q⟩
  · exact .pure r q
  · exact .newTup r q hp
structure JOk (Γ : Glob) (O : Addr → Prop) (H : Hp) (J : L2.It) (ds : List D) : Prop where
  go : ∀ (i : Nat) (O' : Addr → Prop) (H' : Hp), Stp O H O' H' → i < ds.length → J.go i H'
  stop : ∀ (i : Nat) (O' : Addr → Prop) (H' : Hp), Stp O H O' H' → ds.length ≤ i → J.stop i H'
  yld : ∀ (i : Nat) (O' : Addr → Prop) (H' : Hp) (x : V) (H'' : Hp) (d : D), Stp O H O' H' → ds[i]? = some d → J.yld i H' x H'' → YOk Γ O' H' x H'' d
theorem get_lt {α : Type} {l : List α} {i : Nat} (h : i < l.length) : ∃ x, l[i]? = some x := ⟨l[i], by simp⟩
theorem jok_list (h : H b = some (.lst vs)) (n : ¬ O b) (r : Reps Γ O H vs ds) : JOk Γ O H (Itl Γ.K b) ds where
  go := fun i O' H' s hi => by
    obtain ⟨x, e⟩ := get_lt (l := vs) (i := i) (by rw [r.length]; exact hi)
    exact ⟨vs, x, SqL.of (s.lst h n), e⟩
  stop := fun i O' H' s hi => ⟨vs, SqL.of (s.lst h n), by rw [r.length]; exact hi⟩
  yld := fun i O' H' x H'' d s hd y => by
    obtain ⟨rfl, y⟩ := y
    have e := y vs (SqL.of (s.lst h n))
    obtain ⟨x', e1, e2⟩ := r.get hd
    rw [e] at e1
    cases e1
    exact .inl ⟨rfl, e2.stp s⟩
theorem jok_frz {o : Obj} (h : H b = some (.frz o (.lst vs))) (r : Reps Γ O H vs ds) : JOk Γ O H (Itl Γ.K b) ds where
  go := fun i O' H' s hi => by
    obtain ⟨x, e⟩ := get_lt (l := vs) (i := i) (by rw [r.length]; exact hi)
    exact ⟨vs, x, .inl (.inr ⟨o, s.frzs _ _ _ h⟩), e⟩
  stop := fun i O' H' s hi => ⟨vs, .inl (.inr ⟨o, s.frzs _ _ _ h⟩), by rw [r.length]; exact hi⟩
  yld := fun i O' H' x H'' d s hd y => by
    obtain ⟨rfl, y⟩ := y
    have e := y vs (.inl (.inr ⟨o, s.frzs _ _ _ h⟩))
    obtain ⟨x', e1, e2⟩ := r.get hd
    rw [e] at e1
    cases e1
    exact .inl ⟨rfl, e2.stp s⟩
theorem jok_tup (h : SqT Γ.K H b vs) (r : Reps Γ O H vs ds) : JOk Γ O H (Itt Γ.K b) ds where
  go := fun i O' H' s hi => by
    obtain ⟨x, e⟩ := get_lt (l := vs) (i := i) (by rw [r.length]; exact hi)
    exact ⟨vs, x, SqT_stp s h, e⟩
  stop := fun i O' H' s hi => ⟨vs, SqT_stp s h, by rw [r.length]; exact hi⟩
  yld := fun i O' H' x H'' d s hd y => by
    obtain ⟨rfl, y⟩ := y
    have e := y vs (SqT_stp s h)
    obtain ⟨x', e1, e2⟩ := r.get hd
    rw [e] at e1
    cases e1
    exact .inl ⟨rfl, e2.stp s⟩
theorem rngD_len : ∀ {lo : Int} {n : Nat}, (rngD lo n).length = n
  | _, 0 => rfl
  | lo, n + 1 => by unfold rngD; rw [List.length_cons, rngD_len]
theorem rngD_get : ∀ {lo : Int} {n i : Nat} {d : D}, (rngD lo n)[i]? = some d → d = .int (lo + i)
  | lo, n + 1, 0, d, h => by
    unfold rngD at h
    have h : some (D.int lo) = some d := by simpa using h
    cases h
    simp
  | lo, n + 1, i + 1, d, h => by
    unfold rngD at h
    have := rngD_get (lo := lo + 1) (n := n) (i := i) (d := d) (by simpa using h)
    rw [this]
    congr 1
    push_cast
    omega
  | _, 0, _, _, h => by unfold rngD at h; simp at h
theorem jok_rng {lo : Int} {n : Nat} : JOk Γ O H (Itr lo n) (rngD lo n) where
  go := fun i O' H' s hi => by rw [rngD_len] at hi; exact hi
  stop := fun i O' H' s hi => by rw [rngD_len] at hi; exact hi
  yld := fun i O' H' x H'' d s hd y => by
    obtain ⟨rfl, rfl⟩ := y
    rw [rngD_get hd]
    exact .inl ⟨rfl, .int _⟩
theorem rngC_len : ∀ {lo c : Int} {n : Nat}, (rngC lo c n).length = n
  | _, _, 0 => rfl
  | lo, c, n + 1 => by unfold rngC; rw [List.length_cons, rngC_len]
theorem rngC_get : ∀ {lo c : Int} {n i : Nat} {d : D}, (rngC lo c n)[i]? = some d → d = .int (lo + (i : Nat) * c)
  | lo, c, n + 1, 0, d, h => by
    unfold rngC at h
    have h : some (D.int lo) = some d := by simpa using h
    cases h
    simp
  | lo, c, n + 1, i + 1, d, h => by
    unfold rngC at h
    have := rngC_get (lo := lo + c) (n := n) (i := i) (d := d) (by simpa using h)
    rw [this]
    congr 1
    push_cast
    rw [Int.add_mul]
    omega
  | _, _, 0, _, _, h => by unfold rngC at h; simp at h
theorem jok_rngC {lo c : Int} {n : Nat} : JOk Γ O H (Itc lo c n) (rngC lo c n) where
  go := fun i O' H' s hi => by rw [rngC_len] at hi; exact hi
  stop := fun i O' H' s hi => by rw [rngC_len] at hi; exact hi
  yld := fun i O' H' x H'' d s hd y => by
    obtain ⟨rfl, rfl⟩ := y
    rw [rngC_get hd]
    exact .inl ⟨rfl, .int _⟩
theorem jok_str {z : Str} : JOk Γ O H (Its z) (z.cps.toList.map fun c => .str ⟨#[c]⟩) where
  go := fun i O' H' s hi => by
    show i < z.cps.size
    simpa using hi
  stop := fun i O' H' s hi => by
    show z.cps.size ≤ i
    simpa using hi
  yld := fun i O' H' x H'' d s hd y => by
    obtain ⟨rfl, c, e, rfl⟩ := y
    rw [List.getElem?_map, Array.getElem?_toList, e] at hd
    cases hd
    exact .inl ⟨rfl, .str _⟩
theorem enumD_len : ∀ {ds : List D} {i : Int}, (enumD i ds).length = ds.length
  | [], _ => rfl
  | d :: ds, i => by unfold enumD; rw [List.length_cons, enumD_len, List.length_cons]
theorem enumD_get : ∀ {ds : List D} {k : Int} {i : Nat} {d : D}, (enumD k ds)[i]? = some d → ∃ e, ds[i]? = some e ∧ d = .tup [.int (k + i), e]
  | x :: ds, k, 0, d, h => by
    unfold enumD at h
    have h : some (D.tup [.int k, x]) = some d := by simpa using h
    cases h
    exact ⟨x, rfl, by simp⟩
  | x :: ds, k, i + 1, d, h => by
    unfold enumD at h
    obtain ⟨e, e1, e2⟩ := enumD_get (ds := ds) (k := k + 1) (i := i) (d := d) (by simpa using h)
    refine ⟨e, by simpa using e1, ?_⟩
    rw [e2]
    congr 3
    push_cast
    omega
  | [], _, _, _, h => by unfold enumD at h; simp at h
theorem jok_enum (h : H b = some (.lst vs)) (n : ¬ O b) (r : Reps Γ O H vs ds) : JOk Γ O H (Ite Γ.K b) (enumD 0 ds) where
  go := fun i O' H' s hi => by
    rw [enumD_len] at hi
    obtain ⟨x, e⟩ := get_lt (l := vs) (i := i) (by rw [r.length]; exact hi)
    exact ⟨vs, x, SqL.of (s.lst h n), e⟩
  stop := fun i O' H' s hi => by
    rw [enumD_len] at hi
    exact ⟨vs, SqL.of (s.lst h n), by rw [r.length]; exact hi⟩
  yld := fun i O' H' x H'' d s hd y => by
    obtain ⟨T, x', rfl, hT, rfl, y⟩ := y
    obtain ⟨e, e1, rfl⟩ := enumD_get hd
    have q := y vs (SqL.of (s.lst h n))
    obtain ⟨x'', q1, q2⟩ := r.get e1
    rw [q] at q1
    cases q1
    refine .inr ⟨T, _, _, hT, rfl, rfl, rfl, .cons ?_ (.cons (q2.stp s) .nil)⟩
    rw [Int.zero_add]
    exact .int _

structure PostI (Γ : Glob) (U : Addr → Prop) (env : Env) (σ : St) (H : Hp) (ds : List D) (env' : Env) (J : L2.It) (H' : Hp) : Prop where
  re : RE Γ U env' σ H'
  st : Stp (Own env σ) H (Own env' σ) H'
  jok : JOk Γ (fun b => U b ∨ Own env' σ b) H' J ds
def tI (Γ : Glob) (m : M (List D)) (W : WX) : TI := fun σ H R => ∃ U env, RE Γ U env σ H ∧
  Wp (m env) (fun ds env' => ∀ J H', PostI Γ U env σ H ds env' J H' → R J H') fun x env' => ∀ cls d H', XPost Γ U env σ H x env' cls d H' → W cls d σ H'
def QI (Γ : Glob) (X : Cx) (tg it : Expr) (m : M (List D)) : Prop := ∀ (xe : Value → Shared → Prop) (W : WX), Takes (X.wish xe) W → PI (X.wish xe) tg it (tI Γ m W)
theorem PI.imp {X : Cx} {tg it : Expr} {t t' : TI} (h : PI X tg it t) (hi : ∀ σ H R, t' σ H R → t σ H R) : PI X tg it t' := ⟨fun pins s σ H R I hq => h.run pins s σ H R I (hi σ H R hq)⟩
theorem PI.or {X : Cx} {tg it : Expr} {t t' : TI} (h : PI X tg it t) (h' : PI X tg it t') : PI X tg it (fun σ H R => t σ H R ∨ t' σ H R) := ⟨fun pins s σ H R I hq => hq.elim (h.run pins s σ H R I) (h'.run pins s σ H R I)⟩
/-- the walked thing by its kind -/
theorem q_of {a : E} (ha : QE Γ X ea (evA P a)) (hK : X.K = Γ.K) : QI Γ X tg ea (evI P (.of a)) := fun xe W tk =>
  PI.imp (PI.or (pi_list (ha xe W tk)) (PI.or (pi_tup (ha xe W tk)) (pi_str (ha xe W tk)))) fun σ H R ⟨U, env, r, h⟩ => by
    simp only [evI] at h
    rw [Wp.bind] at h
    have exn : ∀ x e, evA P a env = .exn x e → iList X.K (tE Γ (evA P a) W) σ H R := fun x e q => by
      rw [q] at h
      exact ⟨U, env, r, by rw [q]; exact h⟩
    cases q : evA P a env with
    | exn x e => exact .inl (exn x e q)
    | stuck => rw [q] at h; exact h.elim
    | ok x env1 =>
      rw [q] at h
      have h : Wp ((x.freeze env1).bind fun d env => match itemsOf d with | some ds => Out.ok ds env | none => .stuck) _ _ := h
      have fz : ∀ {d : D} {env2 : Env} {v : V} {H1 : Hp}, x.freeze env1 = .ok d env2 → Post Γ U env σ H x env1 v H1 → Post Γ U env σ H (.val d) env2 v H1 := fun q2 p => p.frozen q2
      cases q2 : x.freeze env1 with
      | exn x' e => rw [q2] at h; cases x <;> simp only [A.freeze] at q2 <;> first | cases q2 | (split at q2 <;> cases q2)
      | stuck => rw [q2] at h; exact h.elim
      | ok d env2 =>
        rw [q2] at h
        have h : Wp (match itemsOf d with | some ds => Out.ok ds env2 | none => .stuck) _ _ := h
        have tE_ : ∀ {Q : VK}, (∀ v H1, Post Γ U env σ H (.val d) env2 v H1 → Q v H1) → tE Γ (evA P a) W σ H Q := fun hQ => ⟨U, env, r, by rw [q]; exact fun v H1 p => hQ v H1 (fz q2 p)⟩
        cases d with
        | lst ds =>
          refine .inl (tE_ fun v H1 p => ?_)
          have z : Rep Γ _ H1 v (.lst ds) := p.ra
          cases z with
          | lst z1 z2 z3 =>
            refine ⟨_, rfl, ⟨_, SqL.of z1⟩, ?_⟩
            have := h (Itl Γ.K _) H1 ⟨p.reU, p.st.shr fun b z => .inl z, jok_list z1 (fun z => z2 (z.imp .inl id)) (z3.less fun b z => z.imp .inl id)⟩
            rw [show (X.wish xe).K = Γ.K from hK]
            exact this
        | frz ds => exact h.elim
        | tup ds =>
          refine .inr (.inl (tE_ fun v H1 p => ?_))
          have z : Rep Γ _ H1 v (.tup ds) := p.ra
          cases z with
          | tup z1 z3 =>
            have := h (Itt Γ.K _) H1 ⟨p.reU, p.st.shr fun b z => .inl z, jok_tup (SqT.of z1) (z3.less fun b z => z.imp .inl id)⟩
            rw [show (X.wish xe).K = Γ.K from hK]
            exact ⟨_, rfl, ⟨_, SqT.of z1⟩, this⟩
        | str s =>
          refine .inr (.inr (tE_ fun v H1 p => ?_))
          have z : Rep Γ _ H1 v (.str s) := p.ra
          cases z
          exact ⟨_, rfl, h (Its s) H1 ⟨p.reU, p.st.shr fun b z => .inl z, jok_str⟩⟩
        | _ => exact h.elim
theorem in62_ok {i : Int} (h : in62 i = true) : -(2 ^ 62) ≤ i ∧ i < 2 ^ 62 := by
  have := Nat.le_of_ble_eq_true h
  omega
theorem q_rng1 {a : E} (ha : QE Γ X ea (evA P a)) (hg : Gl X "range") (hm : X.mg "range" = none) (hst : notStar ea = true) : QI Γ X tg (.Call (.Name "range" p1) [ea] [] pos) (evI P (.rng1 a)) := fun xe W tk =>
  PI.imp (pi_range1 (X := X.wish xe) hg hm (pa_cons (ha xe W tk) pa_nil (starEach_cons hst)) (starEach_cons hst)) fun σ H R ⟨U, env, r, h⟩ => by
    simp only [evI] at h
    refine (stepE r (fun x e cls d H' p q => q cls d H' p) h).mono fun v H1 ⟨x, env1, p, h⟩ => ?_
    split at h
    · rename_i j
      split at h
      · rename_i hj
        have z : Rep Γ _ H1 v (.int j) := p.ra
        cases z
        obtain ⟨h1, h2⟩ := in62_ok hj
        exact ⟨j, rfl, h1, h2, h _ _ ⟨p.reU, p.st.shr fun b z => .inl z, jok_rng⟩⟩
      · exact h.elim
    · exact h.elim
theorem q_rng2 {a b : E} (ha : QE Γ X ea (evA P a)) (hb : QE Γ X eb (evA P b)) (hg : Gl X "range") (hm : X.mg "range" = none) (hst : notStar ea = true) (hst2 : notStar eb = true) : QI Γ X tg (.Call (.Name "range" p1) [ea, eb] [] pos) (evI P (.rng2 a b)) := fun xe W tk =>
  PI.imp (pi_range2 (X := X.wish xe) hg hm (pa_cons (ha xe W tk) (pa_cons (hb xe W tk) pa_nil (starEach_cons hst2)) (starEach_cons hst)) (by rw [starEach_cons hst, starEach_cons hst2]; rfl) (starEach_cons hst2)) fun σ H R ⟨U, env, r, h⟩ => by
    simp only [evI] at h
    refine (stepE r (fun x e cls d H' p q => q cls d H' p) h).mono fun v H1 ⟨x, env1, p1, h⟩ => ?_
    refine (stepE p1.re (fun x e cls d H' p q => q cls d H' (p1.xcomp p)) h).mono fun w H2 ⟨y, env2, p2, h⟩ => ?_
    split at h
    · split at h
      · rename_i hij
        rw [Bool.and_eq_true] at hij
        have z1 : Rep Γ _ H1 v (.int _) := p1.ra
        have z2 : Rep Γ _ H2 w (.int _) := p2.ra
        cases z1
        cases z2
        obtain ⟨h1, h2⟩ := in62_ok hij.1
        obtain ⟨h3, h4⟩ := in62_ok hij.2
        have p12 := p1.comp p2
        exact ⟨_, _, rfl, ⟨h1, h2, h3, h4⟩, h _ _ ⟨p12.reU, p12.st.shr fun b z => .inl z, jok_rng⟩⟩
      · exact h.elim
    · exact h.elim
theorem jok_enumT (h : H b = some (.tup vs)) (r : Reps Γ O H vs ds) : JOk Γ O H (IteT Γ.K b) (enumD 0 ds) where
  go := fun i O' H' s hi => by
    rw [enumD_len] at hi
    obtain ⟨x, e⟩ := get_lt (l := vs) (i := i) (by rw [r.length]; exact hi)
    exact ⟨vs, x, SqT.of (s.tups _ _ h), e⟩
  stop := fun i O' H' s hi => by
    rw [enumD_len] at hi
    exact ⟨vs, SqT.of (s.tups _ _ h), by rw [r.length]; exact hi⟩
  yld := fun i O' H' x H2 d s hd y => by
    obtain ⟨T, x', rfl, hT, rfl, hx⟩ := y
    obtain ⟨e, he, rfl⟩ := enumD_get hd
    have q := hx vs (SqT.of (s.tups _ _ h))
    obtain ⟨v, hv, rv⟩ := (r.stp s).get he
    rw [q] at hv
    cases hv
    refine .inr ⟨T, [.int (i : Nat), x'], _, hT, rfl, rfl, rfl, .cons ?_ (.cons rv .nil)⟩
    have : (0 : Int) + (i : Nat) = ((i : Nat) : Int) := by omega
    rw [this]
    exact .int _
/-- enumerate(e) of a list or a tuple -/
theorem q_enum {elts : List Expr} {kk : Nat} {a : E} (ha : QE Γ X ea (evA P a)) (hg : Gl X "enumerate") (hm : X.mg "enumerate" = none) (hst : notStar ea = true) (hK : X.K = Γ.K) :
    QI Γ X (.Tuple elts kk p2) (.Call (.Name "enumerate" p1) [ea] [] pos) (evI P (.enum a)) := fun xe W tk =>
  PI.imp (PI.or (pi_enum (X := X.wish xe) hg hm (pa_cons (ha xe W tk) pa_nil (starEach_cons hst)) (starEach_cons hst)) (pi_enumT (X := X.wish xe) hg hm (pa_cons (ha xe W tk) pa_nil (starEach_cons hst)) (starEach_cons hst))) fun σ H R ⟨U, env, r, h⟩ => by
    simp only [evI] at h
    rw [Wp.bind] at h
    cases q : evA P a env with
    | exn x e =>
      rw [q] at h
      exact .inl ⟨U, env, r, by rw [q]; exact fun cls d H' p => h cls d H' p⟩
    | stuck => rw [q] at h; exact h.elim
    | ok x env1 =>
      rw [q] at h
      have h : Wp ((x.freeze env1).bind fun d env => match d with | .lst ds => Out.ok (enumD 0 ds) env | .tup ds => .ok (enumD 0 ds) env | _ => .stuck) (fun ds env' => ∀ J H', PostI Γ U env σ H ds env' J H' → R J H') (fun x env' => ∀ cls d H', XPost Γ U env σ H x env' cls d H' → W cls d σ H') := h
      have fz : ∀ {d : D} {env2 : Env} {v : V} {H1 : Hp}, x.freeze env1 = .ok d env2 → Post Γ U env σ H x env1 v H1 → Post Γ U env σ H (.val d) env2 v H1 := fun q2 p => p.frozen q2
      cases q2 : x.freeze env1 with
      | exn x' e => rw [q2] at h; cases x <;> simp only [A.freeze] at q2 <;> first | cases q2 | (split at q2 <;> cases q2)
      | stuck => rw [q2] at h; exact h.elim
      | ok d env2 =>
        rw [q2] at h
        have h : Wp (match d with | .lst ds => Out.ok (enumD 0 ds) env2 | .tup ds => .ok (enumD 0 ds) env2 | _ => .stuck) (fun ds env' => ∀ J H', PostI Γ U env σ H ds env' J H' → R J H') (fun x env' => ∀ cls d H', XPost Γ U env σ H x env' cls d H' → W cls d σ H') := h
        have tE_ : ∀ {Q : List V → Hp → Prop}, (∀ v H1, Post Γ U env σ H (.val d) env2 v H1 → Q [v] H1) → tCons (tE Γ (evA P a) W) tNil σ H Q := fun hQ => ⟨U, env, r, by rw [q]; exact fun v H1 p => hQ v H1 (fz q2 p)⟩
        cases d with
        | lst ds =>
          refine .inl (tE_ fun v H1 p => ?_)
          have z : Rep Γ _ H1 v (.lst ds) := p.ra
          cases z with
          | lst z1 z2 z3 =>
            have := h (Ite Γ.K _) H1 ⟨p.reU, p.st.shr fun b z => .inl z, jok_enum z1 (fun z => z2 (z.imp .inl id)) (z3.less fun b z => z.imp .inl id)⟩
            rw [show (X.wish xe).K = Γ.K from hK]
            exact ⟨_, _, rfl, SqL.of z1, this⟩
        | tup ds =>
          refine .inr (tE_ fun v H1 p => ?_)
          have z : Rep Γ _ H1 v (.tup ds) := p.ra
          cases z with
          | tup z1 z3 =>
            have := h (IteT Γ.K _) H1 ⟨p.reU, p.st.shr fun b z => .inl z, jok_enumT z1 (z3.less fun b z => z.imp .inl id)⟩
            rw [show (X.wish xe).K = Γ.K from hK]
            exact ⟨_, _, rfl, SqT.of z1, this⟩
        | _ => exact h.elim
end
end Ev
end
section
set_option maxRecDepth 100000
set_option maxHeartbeats 1000000
namespace Ev
open PySem PySem.Spec L2

theorem wipe_len {σ : St} : ∀ {ws : List Nat}, (wipe σ ws).length = σ.length := fun {ws} => wipe_length σ ws
theorem wipe_in {σ : St} {i : Nat} : ∀ {ws : List Nat}, i ∈ ws → i < σ.length → (wipe σ ws)[i]? = some none
  | w :: ws, h, hl => by
    unfold wipe
    by_cases e : w = i
    · subst e
      rw [List.getElem?_set_self (by rw [wipe_len]; exact hl)]
    · rw [List.getElem?_set_ne e]
      exact wipe_in ((List.mem_cons.mp h).resolve_left fun z => e z.symm) hl
theorem wipe_off {σ : St} {i : Nat} : ∀ {ws : List Nat}, i ∉ ws → (wipe σ ws)[i]? = σ[i]?
  | [], _ => rfl
  | w :: ws, h => by
    unfold wipe
    rw [List.getElem?_set_ne (fun z => h (by rw [z]; exact List.mem_cons_self))]
    exact wipe_off fun z => h (List.mem_cons_of_mem _ z)
theorem wipeE_len {env : Env} : ∀ {ws : List Nat}, (wipeE env ws).length = env.length
  | [] => rfl
  | w :: ws => by unfold wipeE; rw [List.length_set, wipeE_len]
theorem wipeE_in {env : Env} {i : Nat} : ∀ {ws : List Nat} {s : Sl}, i ∈ ws → (wipeE env ws)[i]? ≠ some (some s)
  | w :: ws, s, h, z => by
    unfold wipeE at z
    by_cases e : w = i
    · subst e
      by_cases hl : w < (wipeE env ws).length
      · rw [List.getElem?_set_self hl] at z; cases z
      · rw [List.getElem?_eq_none (by rw [List.length_set]; omega)] at z; cases z
    · rw [List.getElem?_set_ne e] at z
      exact wipeE_in ((List.mem_cons.mp h).resolve_left fun z => e z.symm) z
theorem wipeE_off {env : Env} {i : Nat} : ∀ {ws : List Nat}, i ∉ ws → (wipeE env ws)[i]? = env[i]?
  | [], _ => rfl
  | w :: ws, h => by
    unfold wipeE
    rw [List.getElem?_set_ne (fun z => h (by rw [z]; exact List.mem_cons_self))]
    exact wipeE_off fun z => h (List.mem_cons_of_mem _ z)
theorem backE_len {old env : Env} : ∀ {ws : List Nat}, (backE old env ws).length = env.length
  | [] => rfl
  | w :: ws => by
    unfold backE
    split
    · rw [List.length_set, backE_len]
    · exact backE_len
theorem backE_in {old env : Env} {i : Nat} (hl : i < old.length) (he : i < env.length) : ∀ {ws : List Nat}, i ∈ ws → (backE old env ws)[i]? = old[i]?
  | w :: ws, h => by
    unfold backE
    by_cases e : w = i
    · subst e
      obtain ⟨s, hs⟩ := get_lt hl
      rw [hs]
      dsimp only
      rw [List.getElem?_set_self (by rw [backE_len]; exact he)]
    · have ih := backE_in hl he ((List.mem_cons.mp h).resolve_left fun z => e z.symm)
      split
      · rw [List.getElem?_set_ne e]; exact ih
      · exact ih
theorem backE_off {old env : Env} {i : Nat} : ∀ {ws : List Nat}, i ∉ ws → (backE old env ws)[i]? = env[i]?
  | [], _ => rfl
  | w :: ws, h => by
    unfold backE
    have ih := backE_off (old := old) (env := env) (ws := ws) fun z => h (List.mem_cons_of_mem _ z)
    split
    · rw [List.getElem?_set_ne (fun z => h (by rw [z]; exact List.mem_cons_self))]; exact ih
    · exact ih
theorem wipe_ext {σ σ' : St} {ws : List Nat} (hl : σ'.length = σ.length) (h : ∀ i, i ∉ ws → σ'[i]? = σ[i]?) : wipe σ' ws = wipe σ ws := by
  apply List.ext_getElem?
  intro i
  by_cases hi : i ∈ ws
  · by_cases hlt : i < σ.length
    · rw [wipe_in hi hlt, wipe_in hi (by rw [hl]; exact hlt)]
    · rw [List.getElem?_eq_none (by rw [wipe_len]; omega), List.getElem?_eq_none (by rw [wipe_len]; omega)]
  · rw [wipe_off hi, wipe_off hi, h i hi]

section
variable {Γ : Glob} {X : Cx} {P : Par} {U U' U1 O O' : Addr → Prop} {env env' env1 env2 env3 : Env} {σ σ' : St} {H H1 H2 H3 H' H'' : Hp} {a x y z r : A} {as as' : List A} {v w u : V} {vs : List V} {ws : List Nat} {d e : D} {ds es' : List D} {W : WX} {pos p1 p2 apos cpos : Pos} {ea eb ec tg : Expr} {es : List Expr} {i j k : Nat} {t ts : Tg} {D0 : Addr} {acc : List V}

/-- what is out of reach in a block -/
def UW (U : Addr → Prop) (env : Env) (σ : St) (ws : List Nat) (b : Addr) : Prop := U b ∨ (Own env σ b ∧ ¬ Own (wipeE env ws) (wipe σ ws) b)
theorem own_wipe (b : Addr) (h : Own (wipeE env ws) (wipe σ ws) b) : Own env σ b := by
  obtain ⟨i, d, e1, e2⟩ := h
  by_cases hi : i ∈ ws
  · exact (wipeE_in hi e1).elim
  · rw [wipeE_off hi] at e1
    rw [wipe_off hi] at e2
    exact ⟨i, d, e1, e2⟩
theorem RE.wiped (r : RE Γ U env σ H) : RE Γ (UW U env σ ws) (wipeE env ws) (wipe σ ws) H := by
  have less : ∀ b, UW U env σ ws b ∨ Own (wipeE env ws) (wipe σ ws) b → U b ∨ Own env σ b := fun b z => z.elim (fun y => y.imp id fun k => k.1) fun y => .inr (own_wipe b y)
  have off : ∀ {i : Nat} {s : Sl}, (wipeE env ws)[i]? = some (some s) → i ∉ ws := fun e hi => wipeE_in hi e
  refine ⟨by rw [wipeE_len, wipe_len]; exact r.len, fun i d e => ?_, fun i d e => ?_, fun i j b d e h1 h2 h3 h4 => ?_, r.tabs, fun b z => ?_⟩
  · have hi := off e
    rw [wipeE_off hi] at e
    obtain ⟨v, e1, e2⟩ := r.val i d e
    exact ⟨v, by rw [wipe_off hi]; exact e1, e2.less less⟩
  · have hi := off e
    have e' := e
    rw [wipeE_off hi] at e
    obtain ⟨b, e1, e2, e3⟩ := r.own i d e
    have e1' : (wipe σ ws)[i]? = some (some (.ref b)) := by rw [wipe_off hi]; exact e1
    exact ⟨b, e1', fun z => z.elim e2 fun y => y.2 ⟨i, d, e', e1'⟩, e3.less less⟩
  · have hi := off h1
    have hj := off h2
    rw [wipeE_off hi] at h1
    rw [wipe_off hi] at h3
    rw [wipeE_off hj] at h2
    rw [wipe_off hj] at h4
    exact r.sep i j b d e h1 h2 h3 h4
  · rcases z with z | ⟨⟨i, d, e1, e2⟩, _⟩
    · exact r.uth b z
    · obtain ⟨c, q1, _, q3⟩ := r.own i d e1
      rw [e2] at q1
      cases q1
      exact Body_some q3
/-- a list that is nobody's here is written -/
theorem RE.setU {b : Addr} {us : List V} (r : RE Γ U env σ H) (hU : U b) (hb : H b = some (.lst acc)) : RE Γ U env σ (upd H b (.lst us)) := by
  have st : Stp (fun c => c = b) H (fun c => c = b) (upd H b (.lst us)) := Stp.set hb rfl
  have stO : Stp (fun c => U c ∨ Own env σ c) H (fun c => U c ∨ Own env σ c) (upd H b (.lst us)) := st.mono (fun c z => .inl (by rw [z]; exact hU)) fun c z => .inr (.inl z)
  have nt : ∀ P ∈ Γ.tabs, ¬ P = b := fun P hP z => by
    subst z
    obtain ⟨o, e, q⟩ := r.tabs P hP
    rw [hb] at e
    cases e
    exact q.ne_lst
  refine ⟨r.len, fun i d e => ?_, fun i d e => ?_, r.sep, r.tabs.stp st nt, fun c z => ?_⟩
  · obtain ⟨v, e1, e2⟩ := r.val i d e
    exact ⟨v, e1, e2.stp stO⟩
  · obtain ⟨c, e1, e2, e3⟩ := r.own i d e
    have hc : c ≠ b := fun z => by subst z; exact e2 hU
    exact ⟨c, e1, e2, e3.stp stO fun o m q => by rw [upd_ne hc]; exact q⟩
  · obtain ⟨o, e⟩ := r.uth c z
    exact st.there c o e
theorem JOk.stp {J : L2.It} (j : JOk Γ O H J ds) (s : Stp O H O' H') : JOk Γ O' H' J ds :=
  ⟨fun i O2 H2 t hi => j.go i O2 H2 (s.comp t fun _ z => z) hi, fun i O2 H2 t hi => j.stop i O2 H2 (s.comp t fun _ z => z) hi, fun i O2 H2 x H3 d t hd y => j.yld i O2 H2 x H3 d (s.comp t fun _ z => z) hd y⟩

/-- the loop's state behind some turns: env1, H1 ahead of it; D0 the new list -/
structure LcI (Γ : Glob) (U : Addr → Prop) (env1 : Env) (σ : St) (H1 : Hp) (ws : List Nat) (D0 : Addr) (ys : List D) (env : Env) (H : Hp) : Prop where
  ex : ∃ (U' : Addr → Prop) (acc : List V), RE Γ U' env (wipe σ ws) H ∧ (∀ b, UW U env1 σ ws b ∨ b = D0 → U' b) ∧
    (∀ b, U' b → (UW U env1 σ ws b ∨ b = D0) ∨ Own (wipeE env1 ws) (wipe σ ws) b ∨ upd H1 D0 (.lst []) b = none) ∧
    H D0 = some (.lst acc) ∧ Reps Γ (fun b => U' b ∨ Own env (wipe σ ws) b) H acc ys
  st : Stp (fun b => Own (wipeE env1 ws) (wipe σ ws) b ∨ b = D0) (upd H1 D0 (.lst [])) (fun b => Own env (wipe σ ws) b ∨ b = D0) H
theorem LcI.start (r : RE Γ U env1 σ H1) (hD : H1 D0 = none) : LcI Γ U env1 σ H1 ws D0 [] (wipeE env1 ws) (upd H1 D0 (.lst [])) := by
  have s : Stp (fun _ => False) H1 (fun b => False ∨ b = D0) (upd H1 D0 (.lst [])) := Stp.new hD
  refine ⟨⟨fun b => UW U env1 σ ws b ∨ b = D0, [], ?_, fun _ z => z, fun _ z => .inl z, upd_same, .nil⟩, Stp.refl _ _⟩
  refine r.wiped.stp (s.shr fun b z => z.1.elim (fun y => (z.2 y).elim) .inr) (fun _ z => .inl z) fun b z => z.elim (fun y => let ⟨o, e⟩ := r.wiped.uth b y; s.there b o e) fun y => ⟨.lst [], by rw [y]; exact upd_same⟩
/-- a turn has an end: b an item or none -/
theorem LcI.turn {y : Option D} {env4 : Env} {σ2 : St} {H4 : Hp} {U' : Addr → Prop} {ys : List D} {vy : V} (r : RE Γ U' env (wipe σ ws) H) (h1 : ∀ b, UW U env1 σ ws b ∨ b = D0 → U' b)
    (h2 : ∀ b, U' b → (UW U env1 σ ws b ∨ b = D0) ∨ Own (wipeE env1 ws) (wipe σ ws) b ∨ upd H1 D0 (.lst []) b = none) (hD : H D0 = some (.lst acc)) (hys : Reps Γ (fun b => U' b ∨ Own env (wipe σ ws) b) H acc ys)
    (st : Stp (fun b => Own (wipeE env1 ws) (wipe σ ws) b ∨ b = D0) (upd H1 D0 (.lst [])) (fun b => Own env (wipe σ ws) b ∨ b = D0) H)
    (r4 : RE Γ U' env4 σ2 H4) (s4 : Stp (Own env (wipe σ ws)) H (Own env4 σ2) H4) (hw : wipe σ2 ws = wipe σ ws) :
    H4 D0 = some (.lst acc) ∧ (LcI Γ U env1 σ H1 ws D0 ys (wipeE env4 ws) H4) ∧
      (∀ d, Rep Γ (fun b => U' b ∨ Own env4 σ2 b) H4 vy d → LcI Γ U env1 σ H1 ws D0 (ys ++ [d]) (wipeE env4 ws) (upd H4 D0 (.lst (acc ++ [vy])))) := by
  have UD : U' D0 := h1 D0 (.inr rfl)
  have nD : ¬ Own env (wipe σ ws) D0 := fun ⟨i, d, e1, e2⟩ => by
    obtain ⟨b, q1, q2, _⟩ := r.own i d e1
    rw [e2] at q1
    cases q1
    exact q2 UD
  have hD4 : H4 D0 = some (.lst acc) := s4.lst hD nD
  have st4 : Stp (fun b => Own (wipeE env1 ws) (wipe σ ws) b ∨ b = D0) (upd H1 D0 (.lst [])) (fun b => Own env4 σ2 b ∨ b = D0) H4 :=
    (st.comp s4 fun b z => .inl z).mono (fun _ z => z) fun b z => z.imp id fun y => .inl (.inr y)
  have rw4 := r4.wiped (ws := ws)
  rw [hw] at rw4
  have ow : ∀ b, Own (wipeE env4 ws) (wipe σ ws) b → Own env4 σ2 b := fun b z => own_wipe (σ := σ2) b (by rw [hw]; exact z)
  have less : ∀ b, UW U' env4 σ2 ws b ∨ Own (wipeE env4 ws) (wipe σ ws) b → U' b ∨ Own env4 σ2 b := fun b z => z.elim (fun y => y.imp id fun k => k.1) fun y => .inr (ow b y)
  have c1 : ∀ b, UW U env1 σ ws b ∨ b = D0 → UW U' env4 σ2 ws b := fun b z => .inl (h1 b z)
  have c2 : ∀ b, UW U' env4 σ2 ws b → (UW U env1 σ ws b ∨ b = D0) ∨ Own (wipeE env1 ws) (wipe σ ws) b ∨ upd H1 D0 (.lst []) b = none := fun b z => by
    rcases z with z | ⟨z, _⟩
    · exact h2 b z
    · rcases st4.sub b (.inl z) with (y | y) | y
      · exact .inr (.inl y)
      · exact .inl (.inr y)
      · exact .inr (.inr y)
  have s4O : Stp (fun b => U' b ∨ Own env (wipe σ ws) b) H (fun b => U' b ∨ Own env4 σ2 b) H4 := s4.mono (fun _ z => .inr z) fun b z => z.elim (fun y => .inr (.inl (.inl y))) .inl
  have stw : Stp (fun b => Own (wipeE env1 ws) (wipe σ ws) b ∨ b = D0) (upd H1 D0 (.lst [])) (fun b => Own (wipeE env4 ws) (wipe σ ws) b ∨ b = D0) H4 := st4.shr fun b z => z.imp (ow b) id
  refine ⟨hD4, ⟨⟨_, acc, rw4, c1, c2, hD4, (hys.stp s4O).less less⟩, stw⟩, fun d q => ?_⟩
  have sD : Stp (fun c => c = D0) H4 (fun c => c = D0) (upd H4 D0 (.lst (acc ++ [vy]))) := Stp.set hD4 rfl
  have sDO : Stp (fun b => U' b ∨ Own env4 σ2 b) H4 (fun b => UW U' env4 σ2 ws b ∨ Own (wipeE env4 ws) (wipe σ ws) b) (upd H4 D0 (.lst (acc ++ [vy]))) :=
    sD.mono (fun c z => .inl (by rw [z]; exact UD)) fun c z => .inr (.inl (less c z))
  refine ⟨⟨_, acc ++ [vy], rw4.setU (.inl UD) hD4, c1, c2, upd_same, ((hys.stp s4O).stp sDO).append (.cons (q.stp sDO) .nil)⟩, ?_⟩
  exact (stw.comp (sD.mono (W1 := fun b => Own (wipeE env4 ws) (wipe σ ws) b ∨ b = D0) (fun c z => .inr z) fun b z => .inr (.inl z)) fun _ z => z)
/-- behind the loop -/
theorem LcI.fin {ys : List D} (p0 : PostI Γ U env σ H ds env1 J H1) (hD : H1 D0 = none) (l : LcI Γ U env1 σ H1 ws D0 ys env' H') : Post Γ U env σ H (.tmp (.lst ys)) (backE env1 env' ws) (.ref D0) H' := by
  obtain ⟨⟨U', acc, r, h1, h2, hD', hys⟩, st⟩ := l
  have r1 := p0.re
  have hlen : env'.length = env1.length := by rw [r.len, wipe_len, ← r1.len]
  have sT : Stp (Own (wipeE env1 ws) (wipe σ ws)) H1 (fun b => Own env' (wipe σ ws) b ∨ b = D0) H' := (Stp.new (W := Own (wipeE env1 ws) (wipe σ ws)) hD).comp st fun _ z => z
  have in_ : ∀ {i : Nat} {s : Sl}, i ∈ ws → (backE env1 env' ws)[i]? = some (some s) → env1[i]? = some (some s) := fun {i s} hi e => by
    have hl : i < env'.length := by
      have := (List.getElem?_eq_some_iff.mp e).1
      rwa [backE_len] at this
    rw [backE_in (by rw [← hlen]; exact hl) hl hi] at e
    exact e
  -- the things of the block's own names
  have inU : ∀ {i : Nat} {d : D} {b : Addr}, i ∈ ws → env1[i]? = some (some (.own d)) → σ[i]? = some (some (.ref b)) → UW U env1 σ ws b := fun {i d b} hi e1 e2 => by
    refine .inr ⟨⟨i, d, e1, e2⟩, fun ⟨j, d', q1, q2⟩ => ?_⟩
    have hj : j ∉ ws := fun z => wipeE_in z q1
    rw [wipeE_off hj] at q1
    rw [wipe_off hj] at q2
    have := r1.sep i j b d d' e1 q1 e2 q2
    subst this
    exact hj hi
  have ownB : ∀ b, Own (backE env1 env' ws) σ b → (UW U env1 σ ws b ∧ Own env1 σ b) ∨ Own env' (wipe σ ws) b := fun b ⟨i, d, e1, e2⟩ => by
    by_cases hi : i ∈ ws
    · have e1' := in_ hi e1
      exact .inl ⟨inU hi e1' e2, i, d, e1', e2⟩
    · rw [backE_off hi] at e1
      exact .inr ⟨i, d, e1, by rw [wipe_off hi]; exact e2⟩
  have sub : ∀ b, UA U (.tmp (.lst ys)) (.ref D0) b ∨ Own (backE env1 env' ws) σ b → U' b ∨ Own env' (wipe σ ws) b := fun b z => by
    rcases z with (z | z) | z
    · exact .inl (h1 b (.inl (.inl z)))
    · exact .inl (h1 b (.inr z))
    · rcases ownB b z with ⟨y, _⟩ | y
      · exact .inl (h1 b (.inl y))
      · exact .inr y
  have sTO : Stp (fun b => U b ∨ Own env1 σ b) H1 (fun b => UA U (.tmp (.lst ys)) (.ref D0) b ∨ Own (backE env1 env' ws) σ b) H' := sT.mono (fun b z => .inr (own_wipe b z)) fun b z => by
    rcases z with (z | z) | z
    · exact .inr (.inl (.inl z))
    · exact .inl (.inr z)
    · rcases ownB b z with ⟨_, y⟩ | y
      · exact .inr (.inl (.inr y))
      · exact .inl (.inl y)
  refine ⟨⟨by rw [backE_len, r.len, wipe_len], fun i d e => ?_, fun i d e => ?_, fun i k b d e e1 e2 e3 e4 => ?_, r.tabs, fun b z => ?_⟩, ?_, ?_⟩
  · by_cases hi : i ∈ ws
    · obtain ⟨v, q1, q2⟩ := r1.val i d (in_ hi e)
      exact ⟨v, q1, q2.stp sTO⟩
    · rw [backE_off hi] at e
      obtain ⟨v, q1, q2⟩ := r.val i d e
      rw [wipe_off hi] at q1
      exact ⟨v, q1, q2.less sub⟩
  · by_cases hi : i ∈ ws
    · have e' := in_ hi e
      obtain ⟨b, q1, q2, q3⟩ := r1.own i d e'
      have nw : ¬ Own (wipeE env1 ws) (wipe σ ws) b := (inU hi e' q1).elim (fun z => (q2 z).elim) fun z => z.2
      obtain ⟨o, ho⟩ := Body_some q3
      refine ⟨b, q1, fun z => z.elim q2 fun y => ?_, q3.stp sTO fun o m hv => sT.mu hv m nw⟩
      rw [show b = D0 from y, hD] at ho
      cases ho
    · rw [backE_off hi] at e
      obtain ⟨b, q1, q2, q3⟩ := r.own i d e
      rw [wipe_off hi] at q1
      exact ⟨b, q1, fun z => q2 (z.elim (fun y => h1 b (.inl (.inl y))) fun y => h1 b (.inr y)), q3.less sub⟩
  · have mixed : ∀ {i k : Nat} {d e : D}, i ∈ ws → k ∉ ws → (backE env1 env' ws)[i]? = some (some (.own d)) → (backE env1 env' ws)[k]? = some (some (.own e)) → σ[i]? = some (some (.ref b)) → σ[k]? = some (some (.ref b)) → False := fun {i k d e} hi hk g1 g2 g3 g4 => by
      rw [backE_off hk] at g2
      obtain ⟨c, q1, q2, _⟩ := r.own k e g2
      rw [wipe_off hk, g4] at q1
      cases q1
      exact q2 (h1 b (.inl (inU hi (in_ hi g1) g3)))
    by_cases hi : i ∈ ws
    · by_cases hk : k ∈ ws
      · exact r1.sep i k b d e (in_ hi e1) (in_ hk e2) e3 e4
      · exact (mixed hi hk e1 e2 e3 e4).elim
    · by_cases hk : k ∈ ws
      · exact (mixed hk hi e2 e1 e4 e3).elim
      · rw [backE_off hi] at e1
        rw [backE_off hk] at e2
        exact r.sep i k b d e e1 e2 (by rw [wipe_off hi]; exact e3) (by rw [wipe_off hk]; exact e4)
  · rcases z with z | z
    · obtain ⟨o, e⟩ := r1.uth b z
      exact sT.there b o e
    · exact ⟨.lst acc, by rw [show b = D0 from z]; exact hD'⟩
  · refine ⟨D0, rfl, fun z => ?_, acc, hD', hys.less sub⟩
    obtain ⟨o, e⟩ := r1.uth D0 z
    rw [hD] at e
    cases e
  · refine ((p0.st.comp sT fun b z => own_wipe b z).add (V' := Own env1 σ) fun b z => p0.st.sub b z).shr fun b z => ?_
    rcases z with z | z
    · rcases ownB b z with ⟨_, y⟩ | y
      · exact .inr y
      · exact .inl (.inl y)
    · exact .inl (.inr z)

/-! ### a comprehension -/
/-- the tests of a clause -/
def QC (Γ : Glob) (X : Cx) (ifs : List Expr) (m : M Bool) : Prop := ∀ (xe : Value → Shared → Prop) (W : WX), Takes (X.wish xe) W → PTs (X.wish xe) ifs (tT Γ m W)
theorem qc_nil : QC Γ X [] (evC P .nil) := fun xe W tk => ⟨fun pins s σ H Q I ⟨U, env, r, h⟩ => by
  simp only [evC] at h
  exact (pts_nil (X := X.wish xe)).run pins s σ H Q I (h H (.pure r (.bl true)))⟩
theorem qc_one {a : E} {as : Es} (ha : QT Γ X ea (evT P a)) : QC Γ X [ea] (evC P (.cons a as)) := fun xe W tk => by
  have := pts_one (ha xe W tk)
  simp only [evC]
  exact this
def lcB (P : Par) (t : Tg) (c : Es) (elt : E) (ws : List Nat) (d : D) (env : Env) : Out (Option D) := match bindT t d env with
  | some env => (evC P c env).bind fun k env => if k then (evA P elt env).bind fun a env => (a.freeze env).bind fun y env => .ok (some y) (wipeE env ws) else .ok none (wipeE env ws)
  | none => .stuck
/-- what the evaluator says of a comprehension gives what its rule asks -/
theorem lc_imp {el : E} {it : It} {c : Es} {ws : List Nat} {W : WX} {Q : VK} (hsl : ∀ i ∈ t.slots, i ∈ ws) (h : tE Γ (evA P (.lc el t it c ws)) W σ H Q) :
    tLc (tI Γ (evI P it) W) (tG Γ t) (tT Γ (evC P c) fun _ _ _ _ => False) (tE Γ (evA P el) fun _ _ _ _ => False) ws σ H Q := by
  obtain ⟨U, env, r, h⟩ := h
  simp only [evA] at h
  rw [Wp.bind] at h
  refine ⟨U, env, r, h.mono (fun ds env1 h J H1 p0 => ?_) fun _ _ q => q⟩
  intro D0 hD
  refine ⟨fun i m Hi => ∃ envi ys, m = ds.length - i ∧ i ≤ ds.length ∧ LcI Γ U env1 σ H1 ws D0 ys envi Hi ∧
    Wp (lcL (lcB P t c el ws) (ds.drop i) ys envi) (fun ys env' => ∀ v H', Post Γ U env σ H (.tmp (.lst ys)) (backE env1 env' ws) v H' → Q v H') (fun _ _ => False), ⟨ds.length, _, [], by simp, Nat.zero_le _, .start p0.re hD, ?_⟩, ?_⟩
  · show Wp (lcL (lcB P t c el ws) ds [] (wipeE env1 ws)) _ _
    have h' : Wp (match lcL (lcB P t c el ws) ds [] (wipeE env1 ws) with | .ok ys env' => Out.ok (A.tmp (.lst ys)) (backE env1 env' ws) | _ => .stuck) _ _ := h
    cases q : lcL (lcB P t c el ws) ds [] (wipeE env1 ws) with
    | ok ys env' => rw [q] at h'; exact h'
    | exn x e => rw [q] at h'; exact h'
    | stuck => rw [q] at h'; exact h'
  · rintro i m Hi ⟨envi, ys, rfl, hil, l, h⟩
    obtain ⟨⟨U', acc, r1, h1, h2, hD1, hys⟩, st⟩ := id l
    have jst : Stp (fun b => U b ∨ Own env1 σ b) H1 (fun b => U' b ∨ Own envi (wipe σ ws) b) Hi :=
      (Stp.new (W := fun b => U b ∨ Own env1 σ b) hD).comp (st.mono (W1 := fun b => (U b ∨ Own env1 σ b) ∨ b = D0) (W2 := fun b => U' b ∨ Own envi (wipe σ ws) b) (fun b z => z.imp (fun y => .inr (own_wipe b y)) id) fun b z => by
        rcases z with z | z
        · rcases h2 b z with (y | y) | y | y
          · exact .inr (.inl (.inl (y.imp id fun k => k.1)))
          · exact .inr (.inl (.inr y))
          · exact .inr (.inl (.inl (.inr (own_wipe b y))))
          · exact .inr (.inr y)
        · exact .inl (.inl z)) fun _ z => z
    by_cases hlt : i < ds.length
    · refine .inr ⟨p0.jok.go i _ _ jst hlt, fun H' => ∃ envi ys, LcI Γ U env1 σ H1 ws D0 ys envi H' ∧
        Wp (lcL (lcB P t c el ws) (ds.drop (i + 1)) ys envi) (fun ys env' => ∀ v H', Post Γ U env σ H (.tmp (.lst ys)) (backE env1 env' ws) v H' → Q v H') (fun _ _ => False),
        fun H' ⟨envi, ys, l, h⟩ => ⟨ds.length - (i + 1), by omega, envi, ys, rfl, hlt, l, h⟩, fun x H' hy => ?_⟩
      obtain ⟨d, hd⟩ := get_lt hlt
      have hdrop : ds.drop i = d :: ds.drop (i + 1) := by
        rw [List.drop_eq_getElem_cons hlt]
        congr 1
        rw [List.getElem?_eq_getElem hlt] at hd
        exact Option.some.inj hd
      rw [hdrop] at h
      have py := YOk.post r1 (p0.jok.yld i _ _ x H' d jst hd hy)
      unfold lcL at h
      have hb : Wp (lcB P t c el ws d envi) (fun o e => match o with
          | some y => ys.length < sizeLine ∧ Wp (lcL (lcB P t c el ws) (ds.drop (i + 1)) (ys ++ [y]) e) (fun ys env' => ∀ v H', Post Γ U env σ H (.tmp (.lst ys)) (backE env1 env' ws) v H' → Q v H') (fun _ _ => False)
          | none => Wp (lcL (lcB P t c el ws) (ds.drop (i + 1)) ys e) (fun ys env' => ∀ v H', Post Γ U env σ H (.tmp (.lst ys)) (backE env1 env' ws) v H' → Q v H') (fun _ _ => False)) (fun _ _ => False) := by
        cases q : lcB P t c el ws d envi with
        | ok o e =>
          rw [q] at h
          cases o with
          | none => exact h
          | some y =>
            dsimp only at h
            split at h
            · rename_i hz; exact ⟨hz, h⟩
            · exact h.elim
        | exn x e => rw [q] at h; exact h
        | stuck => rw [q] at h; exact h
      unfold lcB at hb
      split at hb
      · rename_i envb hbind
        have rb := py.reU
        have qx : Rep Γ (fun b => U' b ∨ Own envi (wipe σ ws) b) H' x d := Rep.less (fun b z => z.imp .inl id) (show Rep Γ (fun b => UA U' (.val d) x b ∨ Own envi (wipe σ ws) b) H' x d from py.ra)
        refine ⟨U', envi, d, envb, rb, qx, hbind, fun σ2 pg => ?_⟩
        have hw : wipe σ2 ws = wipe σ ws := by
          rw [wipe_ext (σ := wipe σ ws) pg.len fun i hi => pg.off i fun z => hi (hsl i z)]
          exact wipe_ext (wipe_len) fun i hi => wipe_off hi
        refine ⟨hw, ?_⟩
        have sg : Stp (Own envi (wipe σ ws)) Hi (Own envb σ2) H' := py.st.shr fun b z => .inl (pg.sub b z)
        refine (stepT pg.re (fun _ _ _ _ _ _ q => q.elim) hb).mono fun k H3 ⟨env3, p3, hb⟩ => ?_
        cases k with
        | false =>
          rw [if_neg Bool.false_ne_true] at hb ⊢
          have r3 : RE Γ U' env3 σ2 H3 := p3.reU
          obtain ⟨_, l2, _⟩ := LcI.turn (y := none) (vy := .non) r1 h1 h2 hD1 hys st r3 (sg.comp (p3.st.shr fun b z => .inl z) fun _ z => z) hw
          exact ⟨_, ys, l2, hb⟩
        | true =>
          rw [if_pos rfl] at hb ⊢
          refine (stepE p3.reU (fun _ _ _ _ _ _ q => q.elim) hb).mono fun vy H4 ⟨a, env4, p4, hb⟩ => ?_
          obtain ⟨y, env5, p5, hb⟩ := freeze_step p4 hb
          have s5 : Stp (Own envi (wipe σ ws)) Hi (Own env5 σ2) H4 := (sg.comp (p3.st.shr fun b z => .inl z) fun _ z => z).comp (p5.st.shr fun b z => .inl z) fun _ z => z
          obtain ⟨g1, _, g3⟩ := LcI.turn (y := none) (vy := vy) r1 h1 h2 hD1 hys st p5.reU s5 hw
          obtain ⟨hz, hb⟩ : ys.length < sizeLine ∧ _ := hb
          exact ⟨acc, g1, by rw [hys.length]; exact hz, _, _, g3 y (Rep.less (fun b z => z.imp .inl id) p5.ra), hb⟩
      · exact hb.elim
    · have e : i = ds.length := by omega
      subst e
      rw [List.drop_length] at h
      refine .inl ⟨p0.jok.stop _ _ _ jst (Nat.le_refl _), ?_⟩
      unfold lcL at h
      exact h _ _ (l.fin p0 hD)
theorem q_lc {elt iter : Expr} {ifs : List Expr} {scope : Scope} {own : List (Str × Nat)} {el : E} {it : It} {c : Es} (hc : X.calm = true) (hN : X.N.Nodup) (hi : QI Γ X tg iter (evI P it)) (ok : BlkOk X.N X.env.scope scope own)
    (hg : ∀ (s : Shared) (H : Hp) (C : Addr) (cl : List (Str × Addr)) (fp : List Addr), QG Γ (X.blk s H scope (compEnvC scope cl C X.env) fp) tg t)
    (ht : ∀ (s : Shared) (H : Hp) (C : Addr) (cl : List (Str × Addr)) (fp : List Addr), QC Γ (X.blk s H scope (compEnvC scope cl C X.env) fp) ifs (evC P c))
    (he : ∀ (s : Shared) (H : Hp) (C : Addr) (cl : List (Str × Addr)) (fp : List Addr), QE Γ (X.blk s H scope (compEnvC scope cl C X.env) fp) elt (evA P el))
    (hs : ∀ x, foldedSetIterable iter X.env x = pure x) (hsl : ∀ i ∈ t.slots, i ∈ own.map (·.2)) :
    QE Γ X (.ListComp elt [⟨tg, iter, ifs, 0⟩] scope pos) (evA P (.lc el t it c (own.map (·.2)))) := fun xe W tk => by
  exact PE.imp (pe_lc (X := X.wish xe) hc hN (hi xe W tk) ok (fun s H C cl fp => hg s H C cl fp _) (fun s H C cl fp => ht s H C cl fp _ (fun _ _ _ _ => False) takes0) (fun s H C cl fp => he s H C cl fp _ (fun _ _ _ _ => False) takes0) hs) fun σ H Q h => lc_imp hsl h
end
end Ev
end
section
set_option maxRecDepth 100000
set_option maxHeartbeats 2000000
/-! all(..), any(..) of a generator expression of any element: by its turns. -/
namespace Gx
open PySem PySem.Spec PyProof.Rows L2 GxR GenW

structure GxS (N : List Str) (sc scope : Scope) (own : List (Str × Nat)) : Prop where
  kind : scope.kind = .function
  co : scope.isCoroutine = false
  nocell : ∀ y ∈ scope.names, y.2 ≠ .cell
  dot : scope.names.lookup (".0" : Str) = some NameKind.local
  onn : ∀ y ∈ scope.names, y.2 = .local → y.1 ∈ own.map (·.1) ∨ y.1 ∉ N
  ix : ∀ p ∈ own, N[p.2]? = some p.1
  free : ∀ y ∈ scope.names, y.2 = .free → sc.names.lookup y.1 = some .cell ∨ sc.names.lookup y.1 = some .free
def gxB (N : List Str) (sc scope : Scope) (own : List (Str × Nat)) : Bool :=
  decide (scope.kind = .function) && !scope.isCoroutine && (scope.names.all fun y => y.2 != .cell) && (scope.names.lookup (".0" : Str) == some NameKind.local) &&
  (scope.names.all fun y => y.2 != .local || (own.map (·.1)).contains y.1 || !N.contains y.1) && (own.all fun p => N[p.2]? == some p.1) &&
  (scope.names.all fun y => y.2 != .free || sc.names.lookup y.1 == some .cell || sc.names.lookup y.1 == some .free)
theorem gxS_by {N : List Str} {sc scope : Scope} {own : List (Str × Nat)} (h : gxB N sc scope own = true) : GxS N sc scope own := by
  unfold gxB at h
  simp only [Bool.and_eq_true, decide_eq_true_eq, Bool.not_eq_true', List.all_eq_true, bne_iff_ne, beq_iff_eq, Bool.or_eq_true, List.contains_eq_mem, decide_eq_false_iff_not] at h
  obtain ⟨⟨⟨⟨⟨⟨h1, h2⟩, h3⟩, h4⟩, h5⟩, h6⟩, h7⟩ := h
  refine ⟨h1, h2, h3, h4, fun y hy e => ?_, h6, fun y hy e => ?_⟩
  · rcases h5 y hy with (z | z) | z
    · exact (z e).elim
    · exact .inl z
    · exact .inr z
  · rcases h7 y hy with (z | z) | z
    · exact (z e).elim
    · exact .inl z
    · exact .inr z

abbrev gxEnv (X : Cx) (scope : Scope) (C : Addr) (code : Value) : Env := genEnv scope (cloFrom X.env.cells scope.names []) C code builtinsNs X.env
/-- the context within the generator's frame -/
abbrev gxCx (X : Cx) (A : Around) (s : Shared) (H : Hp) (scope : Scope) (C : Addr) (code : Value) (fp : List Addr) : Cx :=
  { X with A := A.deeper (gxEnv X scope C code), s_0 := s, H_0 := H, env := gxEnv X scope C code, outer := X.stack, stack := gxEnv X scope C code :: X.stack, ex := fp, fn := fun _ => false, calm := true, pn := [], xe := fun _ _ => False }
section
variable {X : Cx} {pins : List (Addr × Obj)} {σ : L2.St} {H : Hp} {s s' : Shared}
theorem gx_start {A : Around} {scope : Scope} {own : List (Str × Nat)} {fp : List Addr} {C : Addr} {code : Value} {m : Str → Option Value} (I : Inv X pins σ H s) (S : GxS X.N X.env.scope scope own) (hN : X.N.Nodup)
    (hfp : ∀ b ∈ fp, FpOk X pins H b ∧ b < s.heap.objs.size) (hA : A.frames = some X.stack) (hd : A.handled = none) (hC : C = s.heap.objs.size) (ho : s'.os = s.os) (hb : AllBare s'.gens)
    (kp : ∀ b o, s.heap.get? b = some o → s'.heap.get? b = some o) (hns : s'.heap.Ns C m) : Inv (gxCx X A s H scope C code fp) [] (wipe σ (own.map (·.2))) H s' := by
  subst hC
  have hfree : ∀ y ∈ scope.names, y.2 = .free → ∃ c, X.env.cells.lookup y.1 = some c := fun y hy e => by
    rcases S.free y hy e with k | k
    · exact I.ok.has _ (.inl k)
    · exact I.ok.has _ (.inr k)
  have cm : ∀ {y c}, (cloFrom X.env.cells scope.names []).lookup y = some c → X.env.cells.lookup y = some c := fun {y c} e => by
    rcases cloFrom_mem (PySem.mem_of_lookup e) with hm | ⟨h1, h2⟩
    · cases hm
    · obtain ⟨c1, hc⟩ := hfree _ h1 rfl
      have hc : X.env.cells.lookup y = some c1 := hc
      have e2 : c = c1 := by
        rw [h2, hc] <;> rfl
      rw [e2]
      exact hc
  have look : ∀ {y}, scope.names.lookup y = some .free → ∃ c, (cloFrom X.env.cells scope.names []).lookup y = some c := fun {y} hl => by
    have hy : (y, NameKind.free) ∈ scope.names := PySem.mem_of_lookup hl
    exact mem_lookup (cloFrom_has (cells := X.env.cells) (acc := []) hy)
  have cellK : ∀ {c : Addr} {v : Option Value}, s.heap.IsCell c v → s'.heap.IsCell c v := fun {c v} ⟨o, ho, hd⟩ => ⟨o, kp _ _ ho, hd⟩
  refine ⟨⟨I.ok.mod, S.kind, I.ok.glob, rfl, Nat.le_refl _, fun y z c e1 e2 => I.ok.inj y z c (cm e1) (cm e2), fun y hy => ?_, fun y c z _ => ?_, fun _ => hd, Around.frames_deeper hA, .inr ⟨rfl, rfl⟩, fun b hb => ⟨?_, fun y c e z => ?_⟩, I.bs, Nat.le_trans I.ok.bsz I.sz, fun b o e hb => ?_, fun b hb z => ?_, I.stack, I.stkFree⟩,
    ho, hb, Un.kept kp, ⟨m, hns, fun i y v e1 e2 e3 => ?_⟩, fun y c e => ?_, I.hok.fresh (Nat.le_refl _), fun y c e => ?_, fun q hq => absurd (show q ∈ ([] : List (Addr × Obj)) ++ [] from hq) (by simp), I.hok.kept kp, by rw [wipe_length]; exact I.len⟩
  · have hy : scope.names.lookup y = some .cell ∨ scope.names.lookup y = some .free := hy
    rcases hy with hy | hy
    · exact absurd rfl (S.nocell _ (PySem.mem_of_lookup hy))
    · exact look hy
  · have z : false = true := z
    cases z
  · exact Nat.ne_of_lt (hfp b hb).2
  · exact (hfp b hb).1.2.2.2.2.1 y c (cm e) z
  · rcases (hfp b hb).1.2.2.2.1 with z | z
    · exact I.ok.noex b o e z
    · exact absurd (Nat.lt_of_lt_of_le (Heap.lt_size e) (Nat.le_trans I.ok.bsz z)) (Nat.lt_irrefl _)
  · rcases List.mem_cons.mp (I.stkSub b z) with z | z
    · exact (hfp b hb).1.2.1 z
    · exact (hfp b hb).1.2.2.1 z
  · obtain ⟨e2, hne⟩ := wipe_some e2
    have e3 : Vis scope y := e3
    rcases e3 with k | k | k
    · rcases S.onn _ (PySem.mem_of_lookup k) rfl with e' | e'
      · obtain ⟨p, hp, hpy⟩ := List.mem_map.mp e'
        have e3 := S.ix p hp
        have : p.1 = y := hpy
        rw [this] at e3
        exact (hne (List.mem_map.mpr ⟨p, hp, nodup_ix hN e3 e1⟩)).elim
      · exact (e' (List.mem_of_getElem? e1)).elim
    · exact absurd rfl (S.nocell _ (PySem.mem_of_lookup k))
    · obtain ⟨m, hn, hl⟩ := I.loc
      have hvis : Vis X.env.scope y := (S.free _ (PySem.mem_of_lookup k) rfl).elim (fun k => .inr (.inl k)) (fun k => .inr (.inr k))
      obtain ⟨w', r, q⟩ := hl i y v e1 e2 hvis
      obtain ⟨c2, h2⟩ := look k
      refine ⟨w', r, .inr ⟨.inr k, c2, h2, ?_⟩⟩
      have c1 := cm h2
      rcases q with ⟨k', _⟩ | ⟨_, c3, e', z⟩
      · have k' : X.env.scope.names.lookup y = some .local := k'
        rcases S.free _ (PySem.mem_of_lookup k) rfl with k2 | k2 <;> rw [show X.env.scope.names.lookup y = _ from k2] at k' <;> cases k'
      · rw [c1] at e'
        cases e'
        exact cellK z
  · obtain ⟨w', z⟩ := I.cell y c (cm e)
    exact ⟨w', cellK z⟩
  · exact I.freeC y c (cm e)
end

theorem over_gl {A : Around} {elt : Expr} {gs : List Comprehension} {scope : Scope} {pos : Pos} {it acc : Value} {env : Env} : A.over (.compLoop (.GeneratorExp elt gs scope pos) 0 it acc env) [] = A.deeper env := by
  obtain ⟨hd, d, fr, gs, u⟩ := A
  simp [Around.over, Around.deeper, marksOver, frameCount, unitsOf, envsOf, guardsOf, pushEnvs, pushGuards, Code.envs, Code.env?, Code.isFrame, Code.guards, Code.isGuard, Code.weight, Code.frames, Code.isCreation, Code.isCaller, Code.cUnits]
theorem over_gs {A : Around} {elt : Expr} {gs : List Comprehension} {scope : Scope} {pos : Pos} {it acc : Value} {env : Env} : A.over (.compStart (.GeneratorExp elt gs scope pos) 0 it acc env) [] = A.deeper env := by
  obtain ⟨hd, d, fr, gs, u⟩ := A
  simp [Around.over, Around.deeper, marksOver, frameCount, unitsOf, envsOf, guardsOf, pushEnvs, pushGuards, Code.envs, Code.env?, Code.isFrame, Code.guards, Code.isGuard, Code.weight, Code.frames, Code.isCreation, Code.isCaller, Code.cUnits]

/-- while it sleeps all stands -/
structure Sl (s s' : Shared) : Prop where
  os : s'.os = s.os
  bare : AllBare s'.gens
  keep : ∀ b o, s.heap.get? b = some o → s'.heap.get? b = some o
theorem Inv.sl {X : Cx} {pins : List (Addr × Obj)} {σ : L2.St} {H : Hp} {s s' : Shared} (I : Inv X pins σ H s) (z : Sl s s') : Inv X pins σ H s' :=
  I.call' (ch := []) z.os (Un.kept z.keep) (I.hok.kept z.keep) z.bare fun b z => by simp at z
/-- what a turn of the block gives -/
def Step (isAll : Bool) (J : L2.It) (g : TG) (tt : TT) (te : TE) (ws : List Nat) (σ : L2.St) (Q : VK) (W : Nat → Nat → Hp → Prop) : Prop := ∀ i m H, W i m H →
  (J.stop i H ∧ Q (.bl isAll) H) ∨ (J.go i H ∧ ∃ Nx : Hp → Prop, (∀ H', Nx H' → ∃ m', m' < m ∧ W (i + 1) m' H') ∧ ∀ x H', J.yld i H x H' → g x (wipe σ ws) H' fun σ2 H2 => wipe σ2 ws = wipe σ ws ∧ tt σ2 H2 fun b H3 =>
    if b = true then te σ2 H3 fun y H4 => ∃ c : Bool, y = .bl c ∧ (if c = isAll then Nx H4 else Q (.bl c) H4) else Nx H3)
def Rg (Xg : Cx) (P0 : List (Addr × Obj)) (isAll : Bool) (Q : VK) : GenEnd := fun _ _ r s₁ => r = .ok .next ∧ ∃ σ H, Inv Xg P0 σ H s₁ ∧ Q (.bl isAll) H
def Yg (Xg : Cx) (P0 : List (Addr × Obj)) (isAll : Bool) (Q : VK) : Protocol := fun _ _ v s kap => ∃ (c : Bool) (σ : L2.St) (H : Hp), v = .bool c ∧ Inv Xg P0 σ H s ∧ (if c = isAll then ∀ s', Sl s s' → kap (.send .none) s' else Q (.bl c) H)

section
variable {X : Cx} {σ : L2.St}
theorem seg_gx {A : Around} {s4 : Shared} {H4 : Hp} {scope : Scope} {C it : Addr} {code : Value} {fp : List Addr} {tn : Nat → Heap → Prop} {J : L2.It} {tg elt iter : Expr} {ifs : List Expr} {pos : Pos} {g : TG} {tt : TT} {te : TE} {ws : List Nat} {Q : VK} {isAll : Bool} {W : Nat → Nat → Hp → Prop}
    {P0 : List (Addr × Obj)} (T : Turn X.prog X.w X.K tg J fp it tn) (hP : ∀ p ∈ P0, p.1 ∉ fp) (hco : scope.isCoroutine = false)
    (hg : PG (gxCx X A s4 H4 scope C code fp) tg g) (ht : PTs (gxCx X A s4 H4 scope C code fp) ifs tt) (he : PE (gxCx X A s4 H4 scope C code fp) elt te) (st : Step isAll J g tt te ws σ Q W) :
    ∀ (m n i : Nat) (s₀ s : Shared) (H : Hp), m < n → W i m H → Inv (gxCx X A s4 H4 scope C code fp) P0 (wipe σ ws) H s → tn i s.heap → (∀ b ∈ fp, H b = none) →
      Seg (model X.prog X.w) A (Rg (gxCx X A s4 H4 scope C code fp) P0 isAll Q) (Yg (gxCx X A s4 H4 scope C code fp) P0 isAll Q) n s₀ (.compLoop (.GeneratorExp elt [⟨tg, iter, ifs, 0⟩] scope pos) 0 (.ref it) .none (gxEnv X scope C code))
        ((model X.prog X.w).den (.compLoop (.GeneratorExp elt [⟨tg, iter, ifs, 0⟩] scope pos) 0 (.ref it) .none (gxEnv X scope C code))) [] s := by
  have hov : A.over (.compLoop (.GeneratorExp elt [⟨tg, iter, ifs, 0⟩] scope pos) 0 (.ref it) .none (gxEnv X scope C code)) [] = (gxCx X A s4 H4 scope C code fp).A := over_gl
  intro m
  induction m using Nat.strongRecOn with
  | ind m ih =>
    intro n i s₀ s H hmn w I tnI nfp
    have stat : ∀ {σ' : L2.St} {H' : Hp} {s' : Shared}, Inv (gxCx X A s4 H4 scope C code fp) P0 σ' H' s' → (∀ b ∈ fp, H' b = none) → ∀ b ∈ fp, FpOk (gxCx X A s4 H4 scope C code fp) P0 H' b := fun {σ' H' s'} I' hn b hb =>
      ⟨hn b hb, (I'.ok.exf b hb).1, I'.ok.exfs b hb, .inl hb, fun x c e => (I'.ok.exf b hb).2 x c e, fun p hp z => hP p (by simpa using hp) (by rw [z]; exact hb)⟩
    show Seg _ A _ _ _ s₀ _ ((compTurn (.GeneratorExp elt [⟨tg, iter, ifs, 0⟩] scope pos) 0 (.ref it) .none (gxEnv X scope C code)).onRaise (leaving (gxEnv X scope C code))) [] s
    rw [compTurn_gen, Sem.onRaise_eq_wrap]
    refine seg_bind_wrap (wpAny_standAt ?_)
    refine seg_bind_wrap ?_
    rw [hov]
    rcases st i m H w with ⟨stop, qq⟩ | ⟨go, Nx, hNx, step⟩
    · refine thnF (T.done (gxCx X A s4 H4 scope C code fp) rfl rfl rfl rfl i P0 s _ H (fun _ _ => False) I (stat I nfp) tnI stop) fun r s6 ⟨hr, I6⟩ => ?_
      subst hr
      exact seg_end (.ok .next) ⟨rfl, _, H, I6, qq⟩
    · refine thnF (T.item (gxCx X A s4 H4 scope C code fp) rfl rfl rfl rfl i P0 s _ H (fun _ _ => False) I (stat I nfp) tnI go) fun r s6 ⟨u, hr, h6⟩ => ?_
      subst hr
      refine seg_bind_wrap ?_
      rw [hov]
      refine thnF h6 fun _ s7 ⟨x, H7, I7, r7, y7, st7, n7⟩ => ?_
      have I7' := I7.pinned (stat I7 n7) (T.obj _ _ st7)
      refine seg_bind_wrap ?_
      rw [hov]
      refine thnF (hg.run _ s7 _ H7 x u _ I7' r7 (step x H7 y7)) fun _ s8 ⟨σ8, H8, I8, hw8, q8⟩ => ?_
      refine seg_bind_wrap ?_
      rw [hov]
      refine thnF (ht.run _ s8 σ8 H8 _ I8 q8) fun b s9 ⟨H9, I9, q9⟩ => ?_
      have fin : ∀ {s' : Shared} {H' : Hp}, Inv (gxCx X A s4 H4 scope C code fp) (P0 ++ pinsAt fp s7.heap) σ8 H' s' → Inv (gxCx X A s4 H4 scope C code fp) P0 (wipe σ ws) H' s' ∧ tn (i + 1) s'.heap ∧ (∀ b ∈ fp, H' b = none) := fun {s' H'} I' => by
        have pin' : ∀ b ∈ fp, ∀ o, s7.heap.get? b = some o → s'.heap.get? b = some o ∧ H' b = none := fun b hb o e =>
          let z := I'.pin (b, o) (List.mem_append_right _ (List.mem_append_right _ (mem_pinsAt hb e)))
          ⟨z.1, z.2.1⟩
        have hl : (wipe σ ws).length = σ8.length := by rw [← hw8, wipe_length]
        refine ⟨(I'.unpinned (pins := P0)).weak hl (fun j v e => ?_), T.keep _ _ _ st7 fun b hb o e => (pin' b hb o e).1, fun b hb => ?_⟩
        · rw [← hw8] at e
          exact (wipe_some e).1
        · obtain ⟨o, e, _⟩ := T.obj _ _ st7 b hb
          exact (pin' b hb o e).2
      cases b with
      | false =>
        simp only [Bool.false_eq_true, if_false] at q9 ⊢
        obtain ⟨f1, f2, f3⟩ := fin I9
        obtain ⟨m', hm, w'⟩ := hNx H9 q9
        exact seg_again rfl (ih m' hm n (i + 1) s₀ s9 H9 (by omega) w' f1 f2 f3)
      | true =>
        simp only [if_true] at q9 ⊢
        have hy : ∀ v, yieldOut (gxEnv X scope C code) v = yieldValue v := fun v => by
          have : (gxEnv X scope C code).scope.isCoroutine = false := hco
          simp only [yieldOut, this, Bool.false_eq_true, if_false]
        simp only [hy]
        rw [Sem.bind_eq_wrap', Sem.bind_eq_wrap', Sem.wrap_wrap, Sem.wrap_wrap]
        refine seg_wrap ?_
        rw [hov]
        refine thnF (he.run _ s9 σ8 H9 _ I9 q9) fun z s10 ⟨yv, H10, I10, r10, c, hyc, q10⟩ => ?_
        subst hyc
        have hz : z = Value.bool c := r10
        subst hz
        obtain ⟨n', rfl⟩ : ∃ n', n = n' + 1 := ⟨n - 1, by omega⟩
        obtain ⟨f1, f2, f3⟩ := fin I10
        refine seg_at (seg_yield rfl rfl rfl ⟨c, _, H10, rfl, f1, ?_⟩)
        by_cases hc : c = isAll
        · rw [if_pos hc] at q10 ⊢
          obtain ⟨m', hm, w'⟩ := hNx H10 q10
          intro s' zz
          exact seg_again rfl (ih m' hm n' (i + 1) s' s' H10 (by omega) w' (Inv.sl f1 zz) (T.keep _ _ _ f2 fun b _ o e => zz.keep b o e) f3)
        · rw [if_neg hc] at q10 ⊢
          exact q10
theorem seg_gxs {A : Around} {s4 : Shared} {H4 : Hp} {scope : Scope} {C it : Addr} {code : Value} {fp : List Addr} {tn : Nat → Heap → Prop} {J : L2.It} {tg elt iter : Expr} {ifs : List Expr} {pos : Pos} {g : TG} {tt : TT} {te : TE} {ws : List Nat} {Q : VK} {isAll : Bool} {W : Nat → Nat → Hp → Prop}
    {P0 : List (Addr × Obj)} (T : Turn X.prog X.w X.K tg J fp it tn) (hP : ∀ p ∈ P0, p.1 ∉ fp) (hco : scope.isCoroutine = false)
    (hg : PG (gxCx X A s4 H4 scope C code fp) tg g) (ht : PTs (gxCx X A s4 H4 scope C code fp) ifs tt) (he : PE (gxCx X A s4 H4 scope C code fp) elt te) (st : Step isAll J g tt te ws σ Q W)
    {m n : Nat} {s₀ s : Shared} {H : Hp} (hmn : m < n) (w : W 0 m H) (I : Inv (gxCx X A s4 H4 scope C code fp) P0 (wipe σ ws) H s) (tnI : tn 0 s.heap) (nfp : ∀ b ∈ fp, H b = none) :
      Seg (model X.prog X.w) A (Rg (gxCx X A s4 H4 scope C code fp) P0 isAll Q) (Yg (gxCx X A s4 H4 scope C code fp) P0 isAll Q) n s₀ (.compStart (.GeneratorExp elt [⟨tg, iter, ifs, 0⟩] scope pos) 0 (.ref it) .none (gxEnv X scope C code))
        ((model X.prog X.w).den (.compStart (.GeneratorExp elt [⟨tg, iter, ifs, 0⟩] scope pos) 0 (.ref it) .none (gxEnv X scope C code))) [] s := by
  have loop := seg_gx (iter := iter) (pos := pos) T hP hco hg ht he st m n 0 s₀ s H hmn w I tnI nfp
  show Seg _ A _ _ _ s₀ _ ((compStart (.GeneratorExp elt [⟨tg, iter, ifs, 0⟩] scope pos) 0 (.ref it) .none (gxEnv X scope C code)).onRaise (leaving (gxEnv X scope C code))) [] s
  unfold compStart
  rw [Sem.onRaise_eq_wrap]
  show Seg _ A _ _ _ s₀ _ ((ask >>= _).wrap _ _ _ _) [] s
  refine seg_bind_wrap (wpAny_askSetting ?_)
  split
  · exact seg_again rfl loop
  · first
      | exact seg_bind_wrap (wpAny_rule (seg_bind_wrap (wpAny_standAt (seg_bind_wrap (T.self _ 0 s _ _ tnI (seg_again rfl loop))))))
      | (refine seg_bind_wrap (wpAny_rule ?_); show Seg _ A _ _ _ s₀ _ ((standAt iter.pos >>= _).wrap _ _ _ _) [] s; exact seg_bind_wrap (wpAny_standAt (seg_bind_wrap (T.self _ 0 s _ _ tnI (seg_again rfl loop)))))
end
end Gx
end
section
set_option maxRecDepth 100000
set_option maxHeartbeats 2000000
namespace Gx
open PySem PySem.Spec PyProof.Rows L2 GxR GenW

section
variable {X Xg : Cx} {A : Around} {R : Result → Shared → Prop} {a : Addr} {g : Nat} {go : Obj} {Q : VK}
/-- where the generator stands, asleep -/
def Asleep (Xg : Cx) (A : Around) (a : Addr) (go : Obj) (g : Nat) (isAll : Bool) (Q : VK) (n : Nat) (s : Shared) : Prop :=
  s.heap.IsGen a g ∧ s.heap.NoLimit ∧ AllBare s.gens ∧ s.heap.get? a = some go ∧
  ∃ gs, s.gens[g]? = some gs ∧ ∀ s', Sl s s' → gs.Goes (model Xg.prog Xg.w) A (Rg Xg [(a, go)] isAll Q) (Yg Xg [(a, go)] isAll Q) n (.send .none) s'
theorem sl_setGen {s : Shared} {x : GenState} (hb : AllBare s.gens) (hx : x.bare = true) : Sl s (s.setGen g x) := ⟨rfl, allBare_setGen hb hx, fun _ _ e => e⟩
theorem next_gx {isAll : Bool} {n : Nat} {s : Shared} {Q' : Option Value → Shared → Prop} {E : Value → Shared → Prop} (hh : A.handled = none) (hd : A.depth < recursionLimit) (h : Asleep Xg A.in1 a go g isAll Q n s)
    (hY : ∀ (c : Bool) (σ : L2.St) (H : Hp) (s' : Shared), Inv Xg [(a, go)] σ H s' → (if c = isAll then ∃ m, n = m + 1 ∧ Asleep Xg A.in1 a go g isAll Q m s' else Q (.bl c) H) → Q' (some (.bool c)) s')
    (hP : ∀ (σ : L2.St) (H : Hp) (s' : Shared), Inv Xg [(a, go)] σ H s' → Q (.bl isAll) H → Q' none s') :
    wpAny (model Xg.prog Xg.w) A (pyNext (.ref a)) Q' E s := by
  obtain ⟨hg, hl, hb, hgo, gs, hgs, goes⟩ := h
  have hgl : g < s.gens.size := (Array.getElem?_eq_some_iff.mp hgs).1
  refine wpAny_gsz (n := g + 1) hgl (wpAny_pyNext_genexpQ (P := fun _ _ s₁ => ∃ σ H, Inv Xg [(a, go)] σ H s₁ ∧ Q (.bl isAll) H) (Y := Yg Xg [(a, go)] isAll Q) (n := n) hh hl hd hg hgs (goes _ (sl_setGen hb rfl)) (fun v s₁ gs' hbare hv => ?_) fun s₁ hp h' hk => ?_)
  · intro hsz
    obtain ⟨c, σ, H, rfl, I, q⟩ := hv
    have hsz1 : g < s₁.gens.size := by
      have q : (s₁.setGen g gs').gens.size = s₁.gens.size := setGen_size _ _ _
      have hsz' : g + 1 ≤ (s₁.setGen g gs').gens.size := hsz
      omega
    have I' : Inv Xg [(a, go)] σ H (s₁.setGen g gs') := Inv.sl I (sl_setGen I.bare hbare)
    have pa := (I'.pin (a, go) (List.mem_append_right _ (List.mem_singleton.mpr rfl))).1
    refine hY c σ H _ I' ?_
    by_cases hc : c = isAll
    · rw [if_pos hc] at q ⊢
      cases n with
      | zero => exact (q s₁ ⟨rfl, I.bare, fun _ _ e => e⟩).elim
      | succ m =>
        refine ⟨m, rfl, ?_, I'.nolimit, I'.bare, pa, gs', setGen_at hsz1, fun s' z => q s' ⟨z.os, z.bare, z.keep⟩⟩
        obtain ⟨o, nm, qn, ho, r⟩ := hg
        rw [hgo] at ho
        cases ho
        exact ⟨_, nm, qn, pa, r⟩
    · rw [if_neg hc] at q ⊢
      exact q
  · intro _
    obtain ⟨σ, H, I, q⟩ := hp
    refine hP σ H _ (Inv.sl I ⟨rfl, ?_, fun b o e => hk b o e⟩) q
    exact allBare_setGen I.bare rfl
theorem all_loop (hh : A.handled = none) (hd : A.depth < recursionLimit) (hR : ∀ (c : Bool) (σ : L2.St) (H : Hp) (s' : Shared), Inv Xg [(a, go)] σ H s' → Q (.bl c) H → R (.ok (.ret (.bool c))) s') :
    ∀ (n : Nat) (s : Shared), Asleep Xg A.in1.in1 a go g true Q n s → codeAny (model Xg.prog Xg.w) A (.builtin "all.loop" ⟨[.ref a], []⟩) R s := by
  intro n
  induction n with
  | zero =>
    intro s h
    refine codeAny_builtin F.entry_all_loop ?_
    rw [Around.under_plainId F.plain_all_loop _]
    show wpAny _ A.in1 (pyNext (.ref a) >>= _) _ _ s
    refine wpAny_bind (next_gx (A := A.in1) hh hd h (fun c σ H s' I q => ?_) fun σ H s' I q => ?_)
    · refine wpAny_bind (wpAny_holding (wpAny_truthy_bool ?_))
      refine wpAny_bind (wpAny_letGo ?_)
      cases c with
      | true => obtain ⟨m, e, _⟩ := q; cases e
      | false =>
        simp only [Bool.false_eq_true, if_false] at q ⊢
        exact wpAny_bind (wpAny_rule (wpAny_pure (hR false σ H s' I q)))
    · exact wpAny_bind (wpAny_rule (wpAny_pure (hR true σ H s' I q)))
  | succ n ih =>
    intro s h
    refine codeAny_builtin F.entry_all_loop ?_
    rw [Around.under_plainId F.plain_all_loop _]
    show wpAny _ A.in1 (pyNext (.ref a) >>= _) _ _ s
    refine wpAny_bind (next_gx (A := A.in1) hh hd h (fun c σ H s' I q => ?_) fun σ H s' I q => ?_)
    · refine wpAny_bind (wpAny_holding (wpAny_truthy_bool ?_))
      refine wpAny_bind (wpAny_letGo ?_)
      cases c with
      | true =>
        simp only [if_true] at q ⊢
        obtain ⟨m, e, q⟩ := q
        cases e
        exact wpAny_pure ⟨plainId_quiet F.plain_all_loop _, ih _ q⟩
      | false =>
        simp only [Bool.false_eq_true, if_false] at q ⊢
        exact wpAny_bind (wpAny_rule (wpAny_pure (hR false σ H s' I q)))
    · exact wpAny_bind (wpAny_rule (wpAny_pure (hR true σ H s' I q)))
theorem any_loop (hh : A.handled = none) (hd : A.depth < recursionLimit) (hR : ∀ (c : Bool) (σ : L2.St) (H : Hp) (s' : Shared), Inv Xg [(a, go)] σ H s' → Q (.bl c) H → R (.ok (.ret (.bool c))) s') :
    ∀ (n : Nat) (s : Shared), Asleep Xg A.in1.in1 a go g false Q n s → codeAny (model Xg.prog Xg.w) A (.builtin "any.loop" ⟨[.ref a], []⟩) R s := by
  intro n
  induction n with
  | zero =>
    intro s h
    refine codeAny_builtin F.entry_any_loop ?_
    rw [Around.under_plainId F.plain_any_loop _]
    show wpAny _ A.in1 (pyNext (.ref a) >>= _) _ _ s
    refine wpAny_bind (next_gx (A := A.in1) hh hd h (fun c σ H s' I q => ?_) fun σ H s' I q => ?_)
    · refine wpAny_bind (wpAny_holding (wpAny_truthy_bool ?_))
      refine wpAny_bind (wpAny_letGo ?_)
      cases c with
      | false => obtain ⟨m, e, _⟩ := q; cases e
      | true =>
        simp only [Bool.true_eq_false, if_false, if_true] at q ⊢
        exact wpAny_bind (wpAny_rule (wpAny_pure (hR true σ H s' I q)))
    · exact wpAny_bind (wpAny_rule (wpAny_pure (hR false σ H s' I q)))
  | succ n ih =>
    intro s h
    refine codeAny_builtin F.entry_any_loop ?_
    rw [Around.under_plainId F.plain_any_loop _]
    show wpAny _ A.in1 (pyNext (.ref a) >>= _) _ _ s
    refine wpAny_bind (next_gx (A := A.in1) hh hd h (fun c σ H s' I q => ?_) fun σ H s' I q => ?_)
    · refine wpAny_bind (wpAny_holding (wpAny_truthy_bool ?_))
      refine wpAny_bind (wpAny_letGo ?_)
      cases c with
      | false =>
        simp only [if_true, Bool.false_eq_true, if_false] at q ⊢
        obtain ⟨m, e, q⟩ := q
        cases e
        exact wpAny_pure ⟨plainId_quiet F.plain_any_loop _, ih _ q⟩
      | true =>
        simp only [Bool.true_eq_false, if_false, if_true] at q ⊢
        exact wpAny_bind (wpAny_rule (wpAny_pure (hR true σ H s' I q)))
    · exact wpAny_bind (wpAny_rule (wpAny_pure (hR false σ H s' I q)))
end

def gxNm (isAll : Bool) : Str := if isAll then "all" else "any"
/-- any, all of the generator, asleep at a -/
theorem call_gx {Xg : Cx} {A : Around} {a : Addr} {g : Nat} {go : Obj} {Q : VK} {n : Nat} {s : Shared} {isAll : Bool} {Q' : Value → Shared → Prop} {E : Value → Shared → Prop} (hh : A.handled = none) (hd : A.depth < recursionLimit)
    (h : Asleep Xg A.in1.in1 a go g isAll Q n s) (hR : ∀ (c : Bool) (σ : L2.St) (H : Hp) (s' : Shared), Inv Xg [(a, go)] σ H s' → Q (.bl c) H → Q' (.bool c) s') :
    wpAny (model Xg.prog Xg.w) A (call (.builtin (if isAll then "all" else "any")) [.ref a]) Q' E s := by
  cases isAll with
  | true =>
    refine call_function_tree F.kind_all F.plain_all F.entry_all (F.args_all1 _) ?_
    show wpAny _ _ (Builtin.«all» _) _ _ _
    unfold Builtin.«all»
    refine wpAny_bind (m := oneArg "all" _) (wpAny_pure ?_)
    refine wpAny_bind (wpAny_pyIter_gen h.1 ?_)
    exact wpAny_pure ⟨plainId_quiet F.plain_all_loop _, all_loop hh hd hR n s h⟩
  | false =>
    refine call_function_tree F.kind_any F.plain_any F.entry_any (F.args_any1 _) ?_
    show wpAny _ _ (Builtin.«any» _) _ _ _
    unfold Builtin.«any»
    refine wpAny_bind (m := oneArg "any" _) (wpAny_pure ?_)
    refine wpAny_bind (wpAny_pyIter_gen h.1 ?_)
    exact wpAny_pure ⟨plainId_quiet F.plain_any_loop _, any_loop hh hd hR n s h⟩
end Gx
end
section
set_option maxRecDepth 100000
set_option maxHeartbeats 2000000
namespace Gx
open PySem PySem.Spec PyProof.Rows L2 GxR GenW

/-- all(elt for tg in iter if ..), any(..): W by the turn and a measure, Nx what a turn is to reach; P the def's table -/
def tGx (P : Addr) (isAll : Bool) (wi : TI) (g : TG) (tt : TT) (te : TE) (ws : List Nat) : TE := fun σ H Q => wi σ H fun J H1 => TabG H1 P ∧ ∀ H2, Tabbed P H1 H2 → ∃ W : Nat → Nat → Hp → Prop, (∃ m, W 0 m H2) ∧ Step isAll J g tt te ws σ Q W
section
variable {X : Cx}
theorem pe_gx {isAll : Bool} {c P : Addr} {elt iter tg : Expr} {ifs : List Expr} {p pos gpos : Pos} {scope : Scope} {own : List (Str × Nat)} {wi : TI} {g : TG} {tt : TT} {te : TE} {k : Nat}
    (hr : Room k X.A) (hcalm : X.calm = true) (hN : X.N.Nodup) (hg : Gl X (gxNm isAll)) (hm : X.mg (gxNm isAll) = none) (TB : TabB X.base X.mg c P) (hcode : X.env.code = .ref c) (S : GxS X.N X.env.scope scope own) (hi : PI X tg iter wi)
    (hgg : ∀ (A : Around) (s : Shared) (H : Hp) (C : Addr) (code : Value) (fp : List Addr), A.handled = none → A.depth = X.A.depth → A.units ≤ X.A.units + 8 → PG (gxCx X A s H scope C code fp) tg g)
    (htt : ∀ (A : Around) (s : Shared) (H : Hp) (C : Addr) (code : Value) (fp : List Addr), A.handled = none → A.depth = X.A.depth → A.units ≤ X.A.units + 8 → PTs (gxCx X A s H scope C code fp) ifs tt)
    (hee : ∀ (A : Around) (s : Shared) (H : Hp) (C : Addr) (code : Value) (fp : List Addr), A.handled = none → A.depth = X.A.depth → A.units ≤ X.A.units + 8 → PE (gxCx X A s H scope C code fp) elt te)
    (hs : ∀ v, genFold iter X.env v = pure v) :
    PE X (.Call (.Name (gxNm isAll) p) [.GeneratorExp elt [⟨tg, iter, ifs, 0⟩] scope gpos] [] pos) (tGx P isAll wi g tt te (own.map (·.2))) := by
  refine ⟨fun pins s σ H Q I h => ?_⟩
  have he : starEach [.GeneratorExp elt [⟨tg, iter, ifs, 0⟩] scope gpos] X.env = (false, eval (.GeneratorExp elt [⟨tg, iter, ifs, 0⟩] scope gpos) X.env) :: starEach [] X.env := by rfl
  have hfree : ∀ y ∈ scope.names, y.2 = .free → ∃ c, X.env.cells.lookup y.1 = some c := fun y hy e => by
    rcases S.free y hy e with k | k
    · exact I.ok.has _ (.inl k)
    · exact I.ok.has _ (.inr k)
  have hfn : bootBuiltins (gxNm isAll) = some (.builtin (if isAll then "all" else "any")) := by cases isAll <;> decide +kernel
  have hnm : gxNm isAll ≠ "__name__" := by cases isAll <;> decide
  have hdb : (gxNm isAll == ("__debug__" : Str)) = false := by cases isAll <;> decide
  refine wpAny_Call_Name_kw (ld_blt I hg hm hfn ?_ hnm hdb)
  refine PyProof.Rows.callWith_builtin1 ?_ he (by rfl)
  rw [he]
  show wpAny _ _ (spliced ((false, eval (.GeneratorExp elt [⟨tg, iter, ifs, 0⟩] scope gpos) X.env) :: backTo pos (starEach [] X.env))) _ _ s
  refine Calls.spliced_cons ?_
  refine wpAny_GeneratorExp_make S.co (closure_ok hfree) S.nocell S.dot S.kind (by have := hr.dp; omega) ?_ hs
  refine thn (hi.run pins s σ H _ I h) fun xv s1 hx => thn hx fun itv s2 h2 => ?_
  obtain ⟨it, fp, tn, J, H1, e, I2, T, st2, f2, ⟨ps, hP, htr⟩, q⟩ := h2
  subst e
  refine ⟨I2.nolimit, ?_⟩
  have hPs : s2.heap.get? P = some { cls := .none, data := .fields ps } := I2.hok P _ hP
  have hPlt : P < s2.heap.objs.size := Heap.lt_size hPs
  have cd : PySem.W.CodeHd s2.heap c P := TB.code.keeps fun b u e => I2.bk b u e
  have cont : ∀ (code : Value) (h3 : Heap) (tk : Nat) (ps' : Array Value), Heap.ExtBut P s2.heap h3 → s2.heap.objs.size ≤ h3.objs.size → h3.get? P = some { cls := .none, data := .fields ps' } → (∃ more, ps' = ps ++ more) → TriplesOk ps'.toList →
      wpAny (model X.prog X.w) X.A (builtinsFor X.env.globals X.env.builtins) (fun bi s₄ => ∀ h', h'.Ns s₄.heap.objs.size (fun y => if y = ".0" then some (.ref it) else none) → Heap.SameBut s₄.heap.objs.size (s₄.heap.push { cls := .type "frame", data := .dict #[] }) h' →
          wpAny (model X.prog X.w) X.A (spliced (backTo pos (starEach [] X.env))) (fun vs s' => wpAny (model X.prog X.w) X.A (call (.builtin (if isAll then "all" else "any")) (.ref h'.objs.size :: vs)) (EP X pins σ Q) X.xe s') X.xe { s₄ with
            gens := s₄.gens.push (.fresh (.compStart (.GeneratorExp elt [⟨tg, iter, ifs, 0⟩] scope gpos) 0 (.ref it) .none (genEnv scope (cloFrom X.env.cells scope.names []) s₄.heap.objs.size code bi X.env))),
            toks := s₄.toks + 1 + 1 + 1,
            heap := h'.push { cls := .type "generator", data := .fields #[.int s₄.gens.size 0, .str "<genexpr>" (s₄.toks + 1), .str (X.env.qual ++ "<genexpr>") (s₄.toks + 1 + 1)] } }) X.xe { s2 with heap := h3, toks := tk } := by
    intro code h3 tk ps' hx hsz hP3 hmore ht3
    obtain ⟨more, em⟩ := hmore
    subst em
    obtain ⟨bm, ob, e1, e2, e3, e4, e5, e6, e7, e8⟩ := TB.bm
    have I3 : Inv X pins σ (upd H1 P (.tbl (ps ++ more))) { s2 with heap := h3, toks := tk } := inv_tab (h' := h3) (g' := s2.gens) (d' := s2.drawn) (t' := tk) I2 hP (fun b u hb e => hx b u hb e) hP3 I2.bare
    have keep3 : ∀ b u, b ≠ P → s2.heap.get? b = some u → h3.get? b = some u := fun b u hb e => hx b u hb e
    refine wpAny_builtinsFor (m := X.mg) (by rw [I2.ok.glob]; exact (I2.mod.glob.keeps I2.bk).extBut hx TB.gP) e1 e2 (keep3 _ _ e4 (I2.bk _ _ e5)) e6 e7 e8 ?_
    generalize hs3 : ({ s2 with heap := h3, toks := tk } : Shared) = s3 at I3 ⊢
    have h3e : s3.heap = h3 := by rw [← hs3]
    have nfpP : ∀ b ∈ fp, b ≠ P := fun b hb z => by
      have := (f2 b hb).1
      rw [z, hP] at this
      cases this
    have st3 : tn 0 s3.heap := T.keep _ _ _ st2 fun b hb o e => by rw [h3e]; exact keep3 b o (nfpP b hb) e
    have szfp : ∀ b ∈ fp, b < s3.heap.objs.size := fun b hb => by
      obtain ⟨o, e, _⟩ := T.obj _ _ st3 b hb
      exact Heap.lt_size e
    have f3 : ∀ b ∈ fp, FpOk X pins (upd H1 P (.tbl (ps ++ more))) b ∧ b < s3.heap.objs.size := fun b hb => ⟨⟨by rw [upd_ne (nfpP b hb)]; exact (f2 b hb).1, (f2 b hb).2⟩, szfp b hb⟩
    have hT2 : Tabbed P H1 (upd H1 P (.tbl (ps ++ more))) := ⟨⟨_, upd_same, ht3⟩, fun b hb => upd_ne hb⟩
    obtain ⟨W, ⟨m0, w0⟩, step⟩ := q _ hT2
    generalize hH3 : upd H1 P (.tbl (ps ++ more)) = H3 at I3 f3 w0
    intro h' hn' hsb
    -- the generator's frame and object
    have hsz' : h'.objs.size = s3.heap.objs.size + 1 := by rw [hsb.1, Heap.size_push]
    have keep' : ∀ b o, s3.heap.get? b = some o → h'.get? b = some o := fun b o e => hsb.extBut b o (Nat.ne_of_lt (Heap.lt_size e)) (Heap.get?_push_of_some _ e)
    generalize hgo : ({ cls := .type "generator", data := .fields #[.int s3.gens.size 0, .str "<genexpr>" (s3.toks + 1), .str (X.env.qual ++ "<genexpr>") (s3.toks + 1 + 1)] } : Obj) = go
    have hgoc : go.cls = .type "generator" := by rw [← hgo]
    have hgod : go.data = .fields #[.int s3.gens.size 0, .str "<genexpr>" (s3.toks + 1), .str (X.env.qual ++ "<genexpr>") (s3.toks + 1 + 1)] := by rw [← hgo]
    have hgos : go.slots = #[] := by rw [← hgo]
    have hpush : (h'.push go).get? h'.objs.size = some go := by rw [← hgo]; exact Heap.get?_push_size _ rfl
    have keep5 : ∀ b o, s3.heap.get? b = some o → (h'.push go).get? b = some o := fun b o e => Heap.get?_push_of_some _ (keep' b o e)
    generalize hs5 : ({ s3 with gens := s3.gens.push (.fresh (.compStart (.GeneratorExp elt [⟨tg, iter, ifs, 0⟩] scope gpos) 0 (.ref it) .none (genEnv scope (cloFrom X.env.cells scope.names []) s3.heap.objs.size code builtinsNs X.env))), toks := s3.toks + 1 + 1 + 1, heap := h'.push go } : Shared) = s5
    have h5h : s5.heap = h'.push go := by rw [← hs5]
    have h5g : s5.gens = s3.gens.push (.fresh (.compStart (.GeneratorExp elt [⟨tg, iter, ifs, 0⟩] scope gpos) 0 (.ref it) .none (genEnv scope (cloFrom X.env.cells scope.names []) s3.heap.objs.size code builtinsNs X.env))) := by rw [← hs5]
    have h5o : s5.os = s3.os := by rw [← hs5]
    have b5 : AllBare s5.gens := by rw [h5g]; exact I3.bare.push rfl
    have hd0 : X.A.in1.in1.handled = none := hr.hd
    have J5 : Inv (gxCx X X.A.in1.in1 s3 H3 scope s3.heap.objs.size code fp) [] (wipe σ (own.map (·.2))) H3 s5 :=
      gx_start I3 S hN f3 I3.ok.frames hd0 rfl h5o b5 (fun b o e => by rw [h5h]; exact keep5 b o e) (m := fun y => if y = ".0" then some (.ref it) else none) (by rw [h5h]; exact hn'.push _)
    have na : ∀ b o, s3.heap.get? b = some o → b ≠ h'.objs.size := fun b o e z => by
      have h9 : (h'.objs.size : Nat) < s3.heap.objs.size := by rw [← z]; exact Heap.lt_size e
      omega
    have nofa : h'.objs.size ∉ frs X.stack := fun z => by
      rcases List.mem_cons.mp (I3.stkSub _ z) with y | y
      · have h9 : (h'.objs.size : Nat) < s3.heap.objs.size := by rw [y]; exact I3.lt
        omega
      · exact I3.nofs (by rw [hsz']; omega) y
    have J5' : Inv (gxCx X X.A.in1.in1 s3 H3 scope s3.heap.objs.size code fp) [(h'.objs.size, go)] (wipe σ (own.map (·.2))) H3 s5 := J5.pins_of fun p hp => by
      rw [List.mem_singleton.mp hp]
      refine ⟨by rw [h5h]; exact hpush, I3.hok.fresh (by rw [hsz']; omega), by show h'.objs.size ≠ s3.heap.objs.size; rw [hsz']; omega, nofa, fun v z => ?_⟩
      have z : go.data = .cell v := z
      rw [hgod] at z
      cases z
    have st5 : tn 0 s5.heap := T.keep _ _ _ st3 fun b hb o e => by rw [h5h]; exact keep5 b o e
    have asleep : Asleep (gxCx X X.A.in1.in1 s3 H3 scope s3.heap.objs.size code fp) X.A.in1.in1 h'.objs.size go s3.gens.size isAll Q (m0 + 1) s5 := by
      refine ⟨⟨go, _, _, by rw [h5h]; exact hpush, hgoc, hgod, hgos⟩, J5.nolimit, b5, by rw [h5h]; exact hpush, .fresh (.compStart (.GeneratorExp elt [⟨tg, iter, ifs, 0⟩] scope gpos) 0 (.ref it) .none (genEnv scope (cloFrom X.env.cells scope.names []) s3.heap.objs.size code builtinsNs X.env)), by rw [h5g]; exact Array.getElem?_push_size .., fun s' z => ⟨rfl, ?_⟩⟩
      refine seg_gxs (X := X) (σ := σ) (A := X.A.in1.in1) T (fun p hp z => ?_) S.co (hgg _ _ _ _ _ _ hd0 rfl (by show X.A.units + 1 + 1 ≤ _; omega)) (htt _ _ _ _ _ _ hd0 rfl (by show X.A.units + 1 + 1 ≤ _; omega)) (hee _ _ _ _ _ _ hd0 rfl (by show X.A.units + 1 + 1 ≤ _; omega)) step (Nat.lt_succ_self m0) w0 (Inv.sl J5' z) (T.keep _ _ _ st5 fun b _ o e => z.keep b o e) fun b hb => (f3 b hb).1.1
      rw [List.mem_singleton.mp hp] at z
      have e : (h'.objs.size : Nat) < s3.heap.objs.size := szfp _ z
      omega
    refine Calls.spliced_nil ?_
    refine call_gx (Xg := gxCx X X.A.in1.in1 s3 H3 scope s3.heap.objs.size code fp) (A := X.A) hr.hd (by have := hr.dp; omega) asleep fun cc σ' H' s' I6 qq => ?_
    have I7 : Inv X pins σ H' s' := I3.call' (ch := fp) I6.os I6.base I6.hok I6.bare fun b hb => ⟨(f3 b hb).1.2.2.2.1, (f3 b hb).1.2.1, (f3 b hb).1.2.2.2.2.1, (f3 b hb).1.2.2.2.2.2⟩
    exact ⟨.bl cc, H', I7, rfl, qq⟩
  cases hf : codeAmong gpos ps.toList with
  | none =>
    refine wpAny_genexprCodeX hcode (cd.code hPs htr) (cd.tab hPs) hf fun c' h' tk hx hge hlt hco' _ htab' _ => ?_
    obtain ⟨o1, vs, f1, tf, fl, tg, inF, tx, tt, op, _, _, _, _, _, _, _, _, _, htr', _⟩ := hco'
    exact cont _ h' tk _ hx (Nat.le_trans hge (Nat.le_of_lt hlt)) htab'.2 ⟨_, rfl⟩ htr'
  | some cv =>
    refine wpAny_genexprCode_hit hcode (cd.code hPs htr) hf ?_
    exact cont cv s2.heap s2.toks ps (Heap.ExtBut.refl _ _) (Nat.le_refl _) hPs ⟨#[], by simp⟩ htr
end
end Gx
end
section
set_option maxRecDepth 100000
set_option maxHeartbeats 1000000
namespace Ev
open PySem PySem.Spec L2

section
variable {Γ : Glob} {X : Cx} {P : Par} {U U' U1 O O' : Addr → Prop} {env env' env1 env2 env3 : Env} {σ σ' σ1 σ2 : St} {H H1 H2 H3 H' H'' : Hp} {a x y z r : A} {v w u : V} {vs : List V} {ws : List Nat} {d e : D} {ds es' : List D} {W : WX} {pos p1 p2 p3 gpos : Pos} {ea eb ec tg : Expr} {es : List Expr} {i j k : Nat} {t ts : Tg} {J : L2.It}

/-- behind some turns -/
structure GxI (Γ : Glob) (U : Addr → Prop) (env1 : Env) (σ : St) (H1 : Hp) (ws : List Nat) (env : Env) (H : Hp) : Prop where
  ex : ∃ (U' : Addr → Prop), RE Γ U' env (wipe σ ws) H ∧ (∀ b, UW U env1 σ ws b → U' b) ∧ (∀ b, U' b → UW U env1 σ ws b ∨ Own (wipeE env1 ws) (wipe σ ws) b ∨ H1 b = none)
  st : Stp (Own (wipeE env1 ws) (wipe σ ws)) H1 (Own env (wipe σ ws)) H
theorem GxI.start (r : RE Γ U env1 σ H1) : GxI Γ U env1 σ H1 ws (wipeE env1 ws) H1 := ⟨⟨_, r.wiped, fun _ z => z, fun _ z => .inl z⟩, Stp.refl _ _⟩
theorem GxI.turn {env4 : Env} {σ2 : St} {H4 : Hp} {U' : Addr → Prop} (r : RE Γ U' env (wipe σ ws) H) (h1 : ∀ b, UW U env1 σ ws b → U' b)
    (h2 : ∀ b, U' b → UW U env1 σ ws b ∨ Own (wipeE env1 ws) (wipe σ ws) b ∨ H1 b = none)
    (st : Stp (Own (wipeE env1 ws) (wipe σ ws)) H1 (Own env (wipe σ ws)) H)
    (r4 : RE Γ U' env4 σ2 H4) (s4 : Stp (Own env (wipe σ ws)) H (Own env4 σ2) H4) (hw : wipe σ2 ws = wipe σ ws) : GxI Γ U env1 σ H1 ws (wipeE env4 ws) H4 := by
  have rw4 := r4.wiped (ws := ws)
  rw [hw] at rw4
  have ow : ∀ b, Own (wipeE env4 ws) (wipe σ ws) b → Own env4 σ2 b := fun b z => own_wipe (σ := σ2) b (by rw [hw]; exact z)
  have st4 := st.comp s4 fun b z => z
  refine ⟨⟨_, rw4, fun b z => .inl (h1 b z), fun b z => ?_⟩, st4.shr ow⟩
  rcases z with z | ⟨z, _⟩
  · exact h2 b z
  · rcases st4.sub b z with y | y
    · exact .inr (.inl y)
    · exact .inr (.inr y)
theorem GxI.fin {c : Bool} (p0 : PostI Γ U env σ H ds env1 J H1) (l : GxI Γ U env1 σ H1 ws env' H') : Post Γ U env σ H (.val (.bl c)) (backE env1 env' ws) (.bl c) H' := by
  obtain ⟨⟨U', r, h1, h2⟩, sT⟩ := l
  have r1 := p0.re
  have hlen : env'.length = env1.length := by rw [r.len, wipe_len, ← r1.len]
  have in_ : ∀ {i : Nat} {s : Sl}, i ∈ ws → (backE env1 env' ws)[i]? = some (some s) → env1[i]? = some (some s) := fun {i s} hi e => by
    have hl : i < env'.length := by
      have := (List.getElem?_eq_some_iff.mp e).1
      rwa [backE_len] at this
    rw [backE_in (by rw [← hlen]; exact hl) hl hi] at e
    exact e
  have inU : ∀ {i : Nat} {d : D} {b : Addr}, i ∈ ws → env1[i]? = some (some (.own d)) → σ[i]? = some (some (.ref b)) → UW U env1 σ ws b := fun {i d b} hi e1 e2 => by
    refine .inr ⟨⟨i, d, e1, e2⟩, fun ⟨j, d', q1, q2⟩ => ?_⟩
    have hj : j ∉ ws := fun z => wipeE_in z q1
    rw [wipeE_off hj] at q1
    rw [wipe_off hj] at q2
    have := r1.sep i j b d d' e1 q1 e2 q2
    subst this
    exact hj hi
  have ownB : ∀ b, Own (backE env1 env' ws) σ b → (UW U env1 σ ws b ∧ Own env1 σ b) ∨ Own env' (wipe σ ws) b := fun b ⟨i, d, e1, e2⟩ => by
    by_cases hi : i ∈ ws
    · have e1' := in_ hi e1
      exact .inl ⟨inU hi e1' e2, i, d, e1', e2⟩
    · rw [backE_off hi] at e1
      exact .inr ⟨i, d, e1, by rw [wipe_off hi]; exact e2⟩
  have sub : ∀ b, UA U (.val (.bl c)) (.bl c) b ∨ Own (backE env1 env' ws) σ b → U' b ∨ Own env' (wipe σ ws) b := fun b z => by
    rcases z with (z | z) | z
    · exact .inl (h1 b (.inl z))
    · exact z.elim
    · rcases ownB b z with ⟨y, _⟩ | y
      · exact .inl (h1 b y)
      · exact .inr y
  have sTO : Stp (fun b => U b ∨ Own env1 σ b) H1 (fun b => UA U (.val (.bl c)) (.bl c) b ∨ Own (backE env1 env' ws) σ b) H' := sT.mono (fun b z => .inr (own_wipe b z)) fun b z => by
    rcases z with (z | z) | z
    · exact .inr (.inl (.inl z))
    · exact z.elim
    · rcases ownB b z with ⟨_, y⟩ | y
      · exact .inr (.inl (.inr y))
      · exact .inl y
  refine ⟨⟨by rw [backE_len, r.len, wipe_len], fun i d e => ?_, fun i d e => ?_, fun i k b d e e1 e2 e3 e4 => ?_, r.tabs, fun b z => ?_⟩, .bl c, ?_⟩
  · by_cases hi : i ∈ ws
    · obtain ⟨v, q1, q2⟩ := r1.val i d (in_ hi e)
      exact ⟨v, q1, q2.stp sTO⟩
    · rw [backE_off hi] at e
      obtain ⟨v, q1, q2⟩ := r.val i d e
      rw [wipe_off hi] at q1
      exact ⟨v, q1, q2.less sub⟩
  · by_cases hi : i ∈ ws
    · have e' := in_ hi e
      obtain ⟨b, q1, q2, q3⟩ := r1.own i d e'
      have nw : ¬ Own (wipeE env1 ws) (wipe σ ws) b := (inU hi e' q1).elim (fun z => (q2 z).elim) fun z => z.2
      exact ⟨b, q1, fun z => z.elim q2 fun y => y.elim, q3.stp sTO fun o m hv => sT.mu hv m nw⟩
    · rw [backE_off hi] at e
      obtain ⟨b, q1, q2, q3⟩ := r.own i d e
      rw [wipe_off hi] at q1
      exact ⟨b, q1, fun z => q2 (z.elim (fun y => h1 b (.inl y)) fun y => y.elim), q3.less sub⟩
  · have mixed : ∀ {i k : Nat} {d e : D}, i ∈ ws → k ∉ ws → (backE env1 env' ws)[i]? = some (some (.own d)) → (backE env1 env' ws)[k]? = some (some (.own e)) → σ[i]? = some (some (.ref b)) → σ[k]? = some (some (.ref b)) → False := fun {i k d e} hi hk g1 g2 g3 g4 => by
      rw [backE_off hk] at g2
      obtain ⟨c, q1, q2, _⟩ := r.own k e g2
      rw [wipe_off hk, g4] at q1
      cases q1
      exact q2 (h1 b (inU hi (in_ hi g1) g3))
    by_cases hi : i ∈ ws
    · by_cases hk : k ∈ ws
      · exact r1.sep i k b d e (in_ hi e1) (in_ hk e2) e3 e4
      · exact (mixed hi hk e1 e2 e3 e4).elim
    · by_cases hk : k ∈ ws
      · exact (mixed hk hi e2 e1 e4 e3).elim
      · rw [backE_off hi] at e1
        rw [backE_off hk] at e2
        exact r.sep i k b d e e1 e2 (by rw [wipe_off hi]; exact e3) (by rw [wipe_off hk]; exact e4)
  · rcases z with z | z
    · obtain ⟨o, e⟩ := r1.uth b z
      exact sT.there b o e
    · exact z.elim
  · refine ((p0.st.comp sT fun b z => own_wipe b z).add (V' := Own env1 σ) fun b z => p0.st.sub b z).shr fun b z => ?_
    rcases z with z | z
    · rcases ownB b z with ⟨_, y⟩ | y
      · exact .inr y
      · exact .inl y
    · exact z.elim
/-- a table has grown -/
theorem stp_tab {Pt : Addr} (hT : GxR.TabG H1 Pt) (h : GxR.Tabbed Pt H1 H2) (W : Addr → Prop) (hW : ¬ W Pt) : Stp W H1 W H2 := by
  obtain ⟨ps, e1, q1⟩ := hT
  obtain ⟨⟨ps', e2, q2⟩, hb⟩ := h
  refine ⟨fun a o e n => ?_, fun a vs e => ?_, fun a o u e => ?_, fun a z => .inl z, fun a o e => ?_⟩
  · by_cases hp : a = Pt
    · subst hp
      rw [e1] at e
      cases e
      exact .inr ⟨⟨_, rfl, q1⟩, _, e2, _, rfl, q2⟩
    · exact .inl (by rw [hb a hp]; exact e)
  · rw [hb a fun z => by rw [z, e1] at e; cases e]
    exact e
  · rw [hb a fun z => by rw [z, e1] at e; cases e]
    exact e
  · by_cases hp : a = Pt
    · subst hp
      exact ⟨_, e2⟩
    · exact ⟨o, by rw [hb a hp]; exact e⟩
def gxB (P : Par) (t : Tg) (c : Es) (elt : E) (ws : List Nat) (d : D) (env : Env) : Out (Option Bool) := match bindT t d env with
        | some env => (evC P c env).bind fun k env => if k then (evA P elt env).bind fun a env => match a with
          | .val (.bl b) => .ok (some b) (wipeE env ws)
          | _ => .stuck
          else .ok none (wipeE env ws)
        | none => .stuck
theorem gx_imp {isAll : Bool} {el : E} {it : It} {c : Es} {ws : List Nat} {W : WX} {Q : VK} {Pt : Addr} (hPt : Pt ∈ Γ.tabs) (hsl : ∀ i ∈ t.slots, i ∈ ws) (h : tE Γ (evA P (.gx isAll el t it c ws)) W σ H Q) :
    Gx.tGx Pt isAll (tI Γ (evI P it) W) (tG Γ t) (tT Γ (evC P c) fun _ _ _ _ => False) (tE Γ (evA P el) fun _ _ _ _ => False) ws σ H Q := by
  obtain ⟨U, env, r, h⟩ := h
  simp only [evA] at h
  rw [Wp.bind] at h
  refine ⟨U, env, r, h.mono (fun ds env1 h J H1 p0 => ?_) fun _ _ q => q⟩
  have hT : GxR.TabG H1 Pt := by
    obtain ⟨o, e, ps, q1, q2⟩ := p0.re.tabs Pt hPt
    subst q1
    exact ⟨ps, e, q2⟩
  refine ⟨hT, fun H2 hH2 => ?_⟩
  -- the table has grown
  have p1 : PostI Γ U env σ H ds env1 J H2 := by
    have hno : ¬ (fun b => U b ∨ Own env1 σ b) Pt ∨ True := .inr trivial
    have s2 : Stp (fun _ => False) H1 (fun b => U b ∧ ¬ U b) H2 := (stp_tab hT hH2 (fun _ => False) (fun z => z)).shr fun b z => z.2 z.1
    have uth2 : ∀ b, U b → ∃ o, H2 b = some o := fun b z => let ⟨o, e⟩ := p0.re.uth b z; s2.there b o e
    have sW : Stp (Own env1 σ) H1 (Own env1 σ) H2 := stp_tab hT hH2 _ (p0.re.tabN Pt hPt)
    refine ⟨p0.re.stp s2 (fun _ z => z) uth2, p0.st.comp sW fun _ z => z, p0.jok.stp (sW.mono (fun b z => .inr z) fun b z => z.elim (fun y => .inr (.inl (.inl y))) .inl)⟩
  refine ⟨fun i m Hi => ∃ envi, m = ds.length - i ∧ i ≤ ds.length ∧ GxI Γ U env1 σ H2 ws envi Hi ∧
    Wp (gxL isAll (gxB P t c el ws) (ds.drop i) envi) (fun b env' => ∀ H', Post Γ U env σ H (.val (.bl b)) (backE env1 env' ws) (.bl b) H' → Q (.bl b) H') (fun _ _ => False), ⟨ds.length, _, by simp, Nat.zero_le _, .start p1.re, ?_⟩, ?_⟩
  · show Wp (gxL isAll (gxB P t c el ws) ds (wipeE env1 ws)) _ _
    have h' : Wp (match gxL isAll (gxB P t c el ws) ds (wipeE env1 ws) with | .ok b env' => Out.ok (A.val (.bl b)) (backE env1 env' ws) | _ => .stuck) (fun a env' => ∀ v H', Post Γ U env σ H a env' v H' → Q v H') _ := h
    cases q : gxL isAll (gxB P t c el ws) ds (wipeE env1 ws) with
    | ok b env' => rw [q] at h'; exact fun H' p => h' _ H' p
    | exn x e => rw [q] at h'; exact h'
    | stuck => rw [q] at h'; exact h'
  · rintro i m Hi ⟨envi, rfl, hil, l, h⟩
    obtain ⟨⟨U', r1, h1, h2⟩, st⟩ := id l
    have jst : Stp (fun b => U b ∨ Own env1 σ b) H2 (fun b => U' b ∨ Own envi (wipe σ ws) b) Hi := st.mono (fun b z => .inr (own_wipe b z)) fun b z => by
        rcases z with z | z
        · rcases h2 b z with y | y | y
          · exact .inr (.inl (y.imp id fun k => k.1))
          · exact .inr (.inl (.inr (own_wipe b y)))
          · exact .inr (.inr y)
        · exact .inl z
    by_cases hlt : i < ds.length
    · refine .inr ⟨p1.jok.go i _ _ jst hlt, fun H' => ∃ envi, GxI Γ U env1 σ H2 ws envi H' ∧
        Wp (gxL isAll (gxB P t c el ws) (ds.drop (i + 1)) envi) (fun b env' => ∀ H', Post Γ U env σ H (.val (.bl b)) (backE env1 env' ws) (.bl b) H' → Q (.bl b) H') (fun _ _ => False),
        fun H' ⟨envi, l, h⟩ => ⟨ds.length - (i + 1), by omega, envi, rfl, hlt, l, h⟩, fun x H' hy => ?_⟩
      obtain ⟨d, hd⟩ := get_lt hlt
      have hdrop : ds.drop i = d :: ds.drop (i + 1) := by
        rw [List.drop_eq_getElem_cons hlt]
        congr 1
        rw [List.getElem?_eq_getElem hlt] at hd
        exact Option.some.inj hd
      rw [hdrop] at h
      have py := YOk.post r1 (p1.jok.yld i _ _ x H' d jst hd hy)
      unfold gxL at h
      have hb : Wp (gxB P t c el ws d envi) (fun o e => match o with
          | some k => if k = isAll then Wp (gxL isAll (gxB P t c el ws) (ds.drop (i + 1)) e) (fun b env' => ∀ H', Post Γ U env σ H (.val (.bl b)) (backE env1 env' ws) (.bl b) H' → Q (.bl b) H') (fun _ _ => False)
              else ∀ H', Post Γ U env σ H (.val (.bl k)) (backE env1 e ws) (.bl k) H' → Q (.bl k) H'
          | none => Wp (gxL isAll (gxB P t c el ws) (ds.drop (i + 1)) e) (fun b env' => ∀ H', Post Γ U env σ H (.val (.bl b)) (backE env1 env' ws) (.bl b) H' → Q (.bl b) H') (fun _ _ => False)) (fun _ _ => False) := by
        cases q : gxB P t c el ws d envi with
        | ok o e =>
          rw [q] at h
          cases o with
          | none => exact h
          | some y =>
            dsimp only at h
            show if y = isAll then _ else _
            split at h
            · rename_i hz; rw [if_pos hz]; exact h
            · rename_i hz; rw [if_neg hz]; exact h
        | exn x e => rw [q] at h; exact h
        | stuck => rw [q] at h; exact h
      unfold gxB at hb
      split at hb
      · rename_i envb hbind
        have rb := py.reU
        have qx : Rep Γ (fun b => U' b ∨ Own envi (wipe σ ws) b) H' x d := Rep.less (fun b z => z.imp .inl id) (show Rep Γ (fun b => UA U' (.val d) x b ∨ Own envi (wipe σ ws) b) H' x d from py.ra)
        refine ⟨U', envi, d, envb, rb, qx, hbind, fun σ2 pg => ?_⟩
        have hw : wipe σ2 ws = wipe σ ws := by
          rw [wipe_ext (σ := wipe σ ws) pg.len fun i hi => pg.off i fun z => hi (hsl i z)]
          exact wipe_ext (wipe_len) fun i hi => wipe_off hi
        refine ⟨hw, ?_⟩
        have sg : Stp (Own envi (wipe σ ws)) Hi (Own envb σ2) H' := py.st.shr fun b z => .inl (pg.sub b z)
        refine (stepT pg.re (fun _ _ _ _ _ _ q => q.elim) hb).mono fun k H3 ⟨env3, p3, hb⟩ => ?_
        cases k with
        | false =>
          rw [if_neg Bool.false_ne_true] at hb ⊢
          exact ⟨_, GxI.turn r1 h1 h2 st p3.reU (sg.comp (p3.st.shr fun b z => .inl z) fun _ z => z) hw, hb⟩
        | true =>
          rw [if_pos rfl] at hb ⊢
          refine (stepE p3.reU (fun _ _ _ _ _ _ q => q.elim) hb).mono fun vy H4 ⟨a, env4, p4, hb⟩ => ?_
          split at hb
          · rename_i bb
            have hv : vy = .bl bb := by
              have q := p4.ra
              have q : Rep Γ _ H4 vy (.bl bb) := q
              cases q
              rfl
            refine ⟨bb, hv, ?_⟩
            have s5 : Stp (Own envi (wipe σ ws)) Hi (Own env4 σ2) H4 := (sg.comp (p3.st.shr fun b z => .inl z) fun _ z => z).comp (p4.st.shr fun b z => .inl z) fun _ z => z
            have l4 := GxI.turn r1 h1 h2 st p4.reU s5 hw
            have hb : if bb = isAll then _ else _ := hb
            by_cases hc : bb = isAll
            · rw [if_pos hc] at hb ⊢
              exact ⟨_, l4, hb⟩
            · rw [if_neg hc] at hb ⊢
              exact hb H4 (l4.fin p1)
          · exact hb.elim
      · exact hb.elim
    · have e : i = ds.length := by omega
      subst e
      rw [List.drop_length] at h
      refine .inl ⟨p1.jok.stop _ _ _ jst (Nat.le_refl _), ?_⟩
      unfold gxL at h
      exact h _ (l.fin p1)
theorem q_gx {isAll : Bool} {elt iter : Expr} {ifs : List Expr} {scope : Scope} {own : List (Str × Nat)} {el : E} {it : It} {c : Es} {Pt : Addr} {cA : Addr} (hr : Room k X.A) (hc : X.calm = true) (hN : X.N.Nodup) (hg : Gl X (Gx.gxNm isAll)) (hm : X.mg (Gx.gxNm isAll) = none)
    (hPt : Pt ∈ Γ.tabs) (TB : GxR.TabB X.base X.mg cA Pt) (hcode : X.env.code = .ref cA) (S : Gx.GxS X.N X.env.scope scope own) (hi : QI Γ X tg iter (evI P it))
    (hgg : ∀ (A : Around) (s : Shared) (H : Hp) (C : Addr) (code : Value) (fp : List Addr), A.handled = none → A.depth = X.A.depth → A.units ≤ X.A.units + 8 → QG Γ (Gx.gxCx X A s H scope C code fp) tg t)
    (htt : ∀ (A : Around) (s : Shared) (H : Hp) (C : Addr) (code : Value) (fp : List Addr), A.handled = none → A.depth = X.A.depth → A.units ≤ X.A.units + 8 → QC Γ (Gx.gxCx X A s H scope C code fp) ifs (evC P c))
    (hee : ∀ (A : Around) (s : Shared) (H : Hp) (C : Addr) (code : Value) (fp : List Addr), A.handled = none → A.depth = X.A.depth → A.units ≤ X.A.units + 8 → QE Γ (Gx.gxCx X A s H scope C code fp) elt (evA P el))
    (hs : ∀ v, genFold iter X.env v = pure v) (hsl : ∀ i ∈ t.slots, i ∈ own.map (·.2)) :
    QE Γ X (.Call (.Name (Gx.gxNm isAll) p1) [.GeneratorExp elt [⟨tg, iter, ifs, 0⟩] scope gpos] [] pos) (evA P (.gx isAll el t it c (own.map (·.2)))) := fun xe W tk => by
  exact PE.imp (Gx.pe_gx (X := X.wish xe) hr hc hN hg hm TB hcode S (hi xe W tk)
    (fun A s H C code fp h1 h2 h3 => hgg A s H C code fp h1 h2 h3 _) (fun A s H C code fp h1 h2 h3 => htt A s H C code fp h1 h2 h3 _ (fun _ _ _ _ => False) takes0)
    (fun A s H C code fp h1 h2 h3 => hee A s H C code fp h1 h2 h3 _ (fun _ _ _ _ => False) takes0) hs) fun σ H Q h => gx_imp hPt hsl h
end
end Ev
end
section
set_option maxRecDepth 100000
set_option maxHeartbeats 1000000
namespace Ev
open PySem PySem.Spec L2

section
variable {Γ : Glob} {X : Cx} {P : Par} {fx : List Nat} {U U' U1 O O' : Addr → Prop} {env env' env1 env2 env3 : Env} {σ σ' σ1 σ2 : St} {H H1 H2 H3 H' H'' : Hp} {a x y z r : A} {as as' : List A} {v w u : V} {vs : List V} {ws : List Nat} {d e : D} {ds es' : List D} {W : WX} {pos p1 p2 p3 apos cpos : Pos} {ea eb ec tg : Expr} {es : List Expr} {i j k : Nat} {t ts : Tg} {st : Stmt} {sts : List Stmt}

structure PostS (Γ : Glob) (fx : List Nat) (U : Addr → Prop) (env : Env) (σ : St) (H : Hp) (env' : Env) (σ' : St) (H' : Hp) : Prop where
  re : RE Γ U env' σ' H'
  st : Stp (Own env σ) H (Own env' σ') H'
  fx : ∀ i ∈ fx, σ'[i]? = σ[i]?
structure PostR (Γ : Glob) (fx : List Nat) (U : Addr → Prop) (env : Env) (σ : St) (H : Hp) (a : A) (env' : Env) (σ' : St) (v : V) (H' : Hp) : Prop where
  re : RE Γ (UA U a v) env' σ' H'
  ra : RA Γ U (fun b => UA U a v b ∨ Own env' σ' b) σ' H' a v
  st : Stp (Own env σ) H (fun b => Own env' σ' b ∨ isTmp a v b) H'
  fx : ∀ i ∈ fx, σ'[i]? = σ[i]?
structure XPostS (Γ : Glob) (fx : List Nat) (U : Addr → Prop) (env : Env) (σ : St) (H : Hp) (x : Exn) (env' : Env) (cls : Value) (d : Option Addr) (σ' : St) (H' : Hp) : Prop where
  re : RE Γ U env' σ' H'
  xr : XR Γ x cls d H'
  st : Stp (Own env σ) H (Own env' σ') H'
  fx : ∀ i ∈ fx, σ'[i]? = σ[i]?
def okS (Γ : Glob) (fx : List Nat) (U : Addr → Prop) (env : Env) (σ : St) (H : Hp) (D : Ends) (fl : Fl) (env' : Env) : Prop :=
  match fl with
  | .next => ∀ σ' H', PostS Γ fx U env σ H env' σ' H' → D.nx σ' H'
  | .brk => ∀ σ' H', PostS Γ fx U env σ H env' σ' H' → D.bk σ' H'
  | .cont => ∀ σ' H', PostS Γ fx U env σ H env' σ' H' → D.ct σ' H'
  | .ret a => ∀ v σ' H', PostR Γ fx U env σ H a env' σ' v H' → D.rt v H'
def exS (Γ : Glob) (fx : List Nat) (U : Addr → Prop) (env : Env) (σ : St) (H : Hp) (W : WX) (x : Exn) (env' : Env) : Prop := ∀ cls d σ' H', XPostS Γ fx U env σ H x env' cls d σ' H' → W cls d σ' H'
def tS (Γ : Glob) (fx : List Nat) (m : M Fl) (W : WX) : TS := fun D σ H => ∃ U env, RE Γ U env σ H ∧ Wp (m env) (okS Γ fx U env σ H D) (exS Γ fx U env σ H W)
def QS (Γ : Glob) (fx : List Nat) (X : Cx) (s : Stmt) (m : M Fl) : Prop := ∀ (xe : Value → Shared → Prop) (W : WX), Takes (X.wish xe) W → PassesOwn (model X.prog X.w) X.A X.env xe → PS (X.wish xe) s (tS Γ fx m W)
def QSs (Γ : Glob) (fx : List Nat) (X : Cx) (s : List Stmt) (m : M Fl) : Prop := ∀ (xe : Value → Shared → Prop) (W : WX), Takes (X.wish xe) W → PassesOwn (model X.prog X.w) X.A X.env xe → PSs (X.wish xe) s (tS Γ fx m W)
theorem PS.imp {X : Cx} {s : Stmt} {t t' : TS} (h : PS X s t) (hi : ∀ D σ H, t' D σ H → t D σ H) : PS X s t' := ⟨fun pins s σ H D I hq => h.run pins s σ H D I (hi D σ H hq)⟩
theorem PSs.imp {X : Cx} {s : List Stmt} {t t' : TS} (h : PSs X s t) (hi : ∀ D σ H, t' D σ H → t D σ H) : PSs X s t' := ⟨fun pins s σ H D I hq => h.run pins s σ H D I (hi D σ H hq)⟩
theorem PostS.refl (r : RE Γ U env σ H) : PostS Γ fx U env σ H env σ H := ⟨r, Stp.refl _ _, fun _ _ => rfl⟩
theorem PostS.comp (p1 : PostS Γ fx U env σ H env1 σ1 H1) (p2 : PostS Γ fx U env1 σ1 H1 env2 σ2 H2) : PostS Γ fx U env σ H env2 σ2 H2 := ⟨p2.re, p1.st.comp p2.st fun _ z => z, fun i hi => (p2.fx i hi).trans (p1.fx i hi)⟩
theorem PostS.compR (p1 : PostS Γ fx U env σ H env1 σ1 H1) (p2 : PostR Γ fx U env1 σ1 H1 a env2 σ2 v H2) : PostR Γ fx U env σ H a env2 σ2 v H2 := ⟨p2.re, p2.ra, p1.st.comp p2.st fun _ z => z, fun i hi => (p2.fx i hi).trans (p1.fx i hi)⟩
theorem PostS.compX {x : Exn} {cls : Value} {dd : Option Addr} (p1 : PostS Γ fx U env σ H env1 σ1 H1) (p2 : XPostS Γ fx U env1 σ1 H1 x env2 cls dd σ2 H2) : XPostS Γ fx U env σ H x env2 cls dd σ2 H2 := ⟨p2.re, p2.xr, p1.st.comp p2.st fun _ z => z, fun i hi => (p2.fx i hi).trans (p1.fx i hi)⟩
theorem okS.comp {D : Ends} {fl : Fl} {env2 : Env} (p1 : PostS Γ fx U env σ H env1 σ1 H1) (h : okS Γ fx U env σ H D fl env2) : okS Γ fx U env1 σ1 H1 D fl env2 := by
  cases fl with
  | next => exact fun σ' H' p => h σ' H' (p1.comp p)
  | brk => exact fun σ' H' p => h σ' H' (p1.comp p)
  | cont => exact fun σ' H' p => h σ' H' (p1.comp p)
  | ret a => exact fun v σ' H' p => h v σ' H' (p1.compR p)
theorem exS.comp {x : Exn} {env2 : Env} (p1 : PostS Γ fx U env σ H env1 σ1 H1) (h : exS Γ fx U env σ H W x env2) : exS Γ fx U env1 σ1 H1 W x env2 := fun cls d σ' H' p => h cls d σ' H' (p1.compX p)
/-- behind an expression -/
theorem Post.s {d : D} (p : Post Γ U env σ H (.val d) env1 v H1) : PostS Γ fx U env σ H env1 σ H1 := ⟨p.reU, p.st.shr fun _ z => .inl z, fun _ _ => rfl⟩
theorem Post.sA (p : Post Γ U env σ H a env1 v H1) : PostS Γ fx U env σ H env1 σ H1 := ⟨p.re.less fun _ z => .inl z, p.st.shr fun _ z => .inl z, fun _ _ => rfl⟩
theorem exS.at {x : Exn} {cls : Value} {dd : Option Addr} {env2 : Env} (h : exS Γ fx U env σ H W x env2) (p : XPost Γ U env σ H x env2 cls dd H2) : W cls dd σ H2 := h cls dd σ H2 ⟨p.re, p.xr, p.st, fun _ _ => rfl⟩

/-! ### rows of statements -/
theorem qs_nil : QSs Γ fx X [] (evSs P .nil) := fun xe W tk po => PSs.imp pss_nil fun D σ H ⟨U, env, r, h⟩ => by
  simp only [evSs] at h
  exact h σ H (.refl r)
theorem seq_wp {s : S} {r : Ss} {D : Ends} (h : Wp (evSs P (.cons s r) env) (okS Γ fx U env σ H D) (exS Γ fx U env σ H W)) :
    Wp (evS P s env) (fun fl env1 => match fl with | .next => Wp (evSs P r env1) (okS Γ fx U env σ H D) (exS Γ fx U env σ H W) | fl => okS Γ fx U env σ H D fl env1) (exS Γ fx U env σ H W) := by
  simp only [evSs] at h
  cases q : evS P s env with
  | ok fl e =>
    rw [q] at h
    cases fl <;> exact h
  | exn x e => rw [q] at h; exact h
  | stuck => rw [q] at h; exact h
theorem qs_cons {s : S} {r : Ss} (h1 : QS Γ fx X st (evS P s)) (h2 : QSs Γ fx X sts (evSs P r)) : QSs Γ fx X (st :: sts) (evSs P (.cons s r)) := fun xe W tk po =>
  PSs.imp (pss_cons (h1 xe W tk po) (h2 xe W tk po)) fun D σ H ⟨U, env, r, h⟩ => ⟨U, env, r, (seq_wp h).mono (fun fl env1 h => by
    cases fl with
    | next => exact fun σ1 H1 p1 => ⟨U, env1, p1.re, h.mono (fun _ _ q => okS.comp p1 q) fun _ _ q => exS.comp p1 q⟩
    | brk => exact h
    | cont => exact h
    | ret a => exact h) fun _ _ q => q⟩

/-! ### small statements -/
theorem qs_pass : QS Γ fx X (.Pass pos) (evS P .pass) := fun xe W tk po => PS.imp ps_pass fun D σ H ⟨U, env, r, h⟩ => by
  simp only [evS] at h
  exact h σ H (.refl r)
theorem qs_brk : QS Γ fx X (.Break pos) (evS P .brk) := fun xe W tk po => PS.imp ps_break fun D σ H ⟨U, env, r, h⟩ => by
  simp only [evS] at h
  exact h σ H (.refl r)
theorem qs_cont : QS Γ fx X (.Continue pos) (evS P .cont) := fun xe W tk po => PS.imp ps_continue fun D σ H ⟨U, env, r, h⟩ => by
  simp only [evS] at h
  exact h σ H (.refl r)
theorem qs_doc {z : Str} {j : Nat} : QS Γ fx X (.Expr (.Constant (.str z) j p1) pos) (evS P .pass) := fun xe W tk po => PS.imp ps_doc fun D σ H ⟨U, env, r, h⟩ => by
  simp only [evS] at h
  exact h σ H (.refl r)
def isComp : Expr → Bool
  | .ListComp .. | .SetComp .. | .DictComp .. => true
  | _ => false
theorem swaps_no {e : Expr} {t : Option Expr} {l : Nat} {env : PySem.Env} (h : isComp e = false) : swapsWith e t l env = pure false := by
  cases e <;> first | rfl | cases h
theorem qs_expr {e : E} (he : QE Γ X ea (evA P e)) (hc : isComp ea = false) : QS Γ fx X (.Expr ea pos) (evS P (.expr e)) := fun xe W tk po => PS.imp (ps_expr (he xe W tk) (swaps_no hc)) fun D σ H ⟨U, env, r, h⟩ => by
  simp only [evS] at h
  exact (stepE r (fun x e cls d H' p q => exS.at q p) h).mono fun v H1 ⟨x, env1, p, h⟩ => h σ H1 p.sA
theorem qs_retN : QS Γ fx X (.Return none pos) (evS P .retN) := fun xe W tk po => PS.imp ps_retN fun D σ H ⟨U, env, r, h⟩ => by
  simp only [evS] at h
  have p : Post Γ U env σ H (.val .non) env .non H := .pure r .non
  exact h .non σ H ⟨p.re, p.ra, p.st, fun _ _ => rfl⟩
/-- an owned slot hands over -/
theorem RE.handed (r : RE Γ U env σ H) (h : env[i]? = some (some (.own d))) (hv : σ[i]? = some (some v)) :
    RE Γ (UA U (.tmp d) v) (env.set i none) σ H ∧ RA Γ U (fun b => UA U (.tmp d) v b ∨ Own (env.set i none) σ b) σ H (.tmp d) v ∧ ∀ b, Own (env.set i none) σ b ∨ isTmp (.tmp d) v b → Own env σ b := by
  have hlt : i < env.length := (List.getElem?_eq_some_iff.mp h).1
  obtain ⟨b0, q1, q2, q3⟩ := r.own i d h
  rw [hv] at q1
  cases q1
  have off : ∀ {j : Nat} {s : Sl}, (env.set i none)[j]? = some (some s) → i ≠ j ∧ env[j]? = some (some s) := fun {j s} e => by
    have hj : i ≠ j := fun z => by subst z; rw [List.getElem?_set_self hlt] at e; cases e
    rw [List.getElem?_set_ne hj] at e
    exact ⟨hj, e⟩
  have sub : ∀ b, Own (env.set i none) σ b ∨ isTmp (.tmp d) (.ref b0) b → Own env σ b := fun b z => by
    rcases z with ⟨j, e, e1, e2⟩ | z
    · exact ⟨j, e, (off e1).2, e2⟩
    · rw [show b = b0 from z]
      exact ⟨i, d, h, hv⟩
  have less : ∀ b, UA U (.tmp d) (.ref b0) b ∨ Own (env.set i none) σ b → U b ∨ Own env σ b := fun b z => by
    rcases z with (z | z) | z
    · exact .inl z
    · exact .inr (sub b (.inr z))
    · exact .inr (sub b (.inl z))
  refine ⟨⟨by rw [List.length_set]; exact r.len, fun j e e1 => ?_, fun j e e1 => ?_, fun j k b d' e' e1 e2 e3 e4 => r.sep j k b d' e' (off e1).2 (off e2).2 e3 e4, r.tabs, fun b z => ?_⟩, ⟨b0, rfl, q2, q3.less less⟩, sub⟩
  · obtain ⟨v, z1, z2⟩ := r.val j e (off e1).2
    exact ⟨v, z1, z2.less less⟩
  · obtain ⟨b, z1, z2, z3⟩ := r.own j e (off e1).2
    refine ⟨b, z1, fun z => z.elim z2 fun y => (off e1).1 ?_, z3.less less⟩
    have y : b = b0 := y
    subst y
    exact r.sep i j b d e h (off e1).2 hv z1
  · rcases z with z | z
    · exact r.uth b z
    · rw [show b = b0 from z]
      exact Body_some q3
theorem qs_ret {e : E} (he : QE Γ X ea (evA P e)) : QS Γ fx X (.Return (some ea) pos) (evS P (.ret e)) := fun xe W tk po => PS.imp (ps_ret (he xe W tk)) fun D σ H ⟨U, env, r, h⟩ => by
  simp only [evS] at h
  refine (stepE r (fun x e cls d H' p q => exS.at q p) h).mono fun v H1 ⟨x, env1, p, h⟩ => ?_
  have fin : ∀ {x : A} {env2 : Env}, Wp (Out.ok (Fl.ret x) env2) (okS Γ fx U env σ H D) (exS Γ fx U env σ H W) → Post Γ U env σ H x env2 v H1 → D.rt v H1 := fun h p => h v σ H1 ⟨p.re, p.ra, p.st, fun _ _ => rfl⟩
  cases x with
  | own i =>
    dsimp only at h
    split at h
    · obtain ⟨d, env2, p2, h⟩ := freeze_step p h
      exact fin h p2
    · split at h
      · rename_i d hd
        have hv : σ[i]? = some (some v) := p.ra
        have re : RE Γ U env1 σ H1 := p.re.less fun _ z => .inl z
        obtain ⟨r1, r2, r3⟩ := re.handed hd hv
        exact h v σ H1 ⟨r1, r2, p.st.shr fun b z => .inl (r3 b z), fun _ _ => rfl⟩
      · exact h.elim
  | val d => exact fin h p
  | tmp d => exact fin h p

/-! ### stores -/
theorem RE.bindO (r : RE Γ (UA U (.tmp d) v) env σ H) (q : RA Γ U (fun b => UA U (.tmp d) v b ∨ Own env σ b) σ H (.tmp d) v) (hi : i < env.length) :
    RE Γ U (env.set i (some (.own d))) (σ.set i (some v)) H ∧ ∀ b, Own (env.set i (some (.own d))) (σ.set i (some v)) b → Own env σ b ∨ isTmp (.tmp d) v b := by
  obtain ⟨p, rfl, nU, body⟩ := q
  have hσ : i < σ.length := by rw [← r.len]; exact hi
  have sub : ∀ b, Own (env.set i (some (.own d))) (σ.set i (some (.ref p))) b → Own env σ b ∨ isTmp (.tmp d) (.ref p) b := fun b ⟨j, e, e1, e2⟩ => by
    by_cases hj : i = j
    · subst hj
      rw [List.getElem?_set_self hσ] at e2
      cases e2
      exact .inr rfl
    · rw [List.getElem?_set_ne hj] at e1 e2
      exact .inl ⟨j, e, e1, e2⟩
  have less : ∀ b, U b ∨ Own (env.set i (some (.own d))) (σ.set i (some (.ref p))) b → UA U (.tmp d) (.ref p) b ∨ Own env σ b := fun b z => by
    rcases z with z | z
    · exact .inl (.inl z)
    · exact (sub b z).elim .inr fun y => .inl (.inr y)
  have apart : ∀ {j : Nat} {e : D}, env[j]? = some (some (.own e)) → σ[j]? = some (some (.ref p)) → False := fun {j e} e1 e2 => by
    obtain ⟨b, z1, z2, _⟩ := r.own j e e1
    rw [e2] at z1
    cases z1
    exact z2 (.inr rfl)
  refine ⟨⟨by rw [List.length_set, List.length_set]; exact r.len, fun j e e1 => ?_, fun j e e1 => ?_, fun j k b e e' e1 e2 e3 e4 => ?_, r.tabs, fun b z => r.uth b (.inl z)⟩, sub⟩
  · have hj : i ≠ j := fun z => by subst z; rw [List.getElem?_set_self hi] at e1; cases e1
    rw [List.getElem?_set_ne hj] at e1
    obtain ⟨w, z1, z2⟩ := r.val j e e1
    exact ⟨w, by rw [List.getElem?_set_ne hj]; exact z1, z2.less less⟩
  · by_cases hj : i = j
    · subst hj
      rw [List.getElem?_set_self hi] at e1
      cases e1
      exact ⟨p, List.getElem?_set_self hσ, nU, body.less less⟩
    · rw [List.getElem?_set_ne hj] at e1
      obtain ⟨b, z1, z2, z3⟩ := r.own j e e1
      exact ⟨b, by rw [List.getElem?_set_ne hj]; exact z1, fun z => z2 (.inl z), z3.less less⟩
  · by_cases hj : i = j
    · subst hj
      rw [List.getElem?_set_self hσ] at e3
      cases e3
      by_cases hk : i = k
      · exact hk
      · rw [List.getElem?_set_ne hk] at e2 e4
        exact (apart e2 e4).elim
    · rw [List.getElem?_set_ne hj] at e1 e3
      by_cases hk : i = k
      · subst hk
        rw [List.getElem?_set_self hσ] at e4
        cases e4
        exact (apart e1 e3).elim
      · rw [List.getElem?_set_ne hk] at e2 e4
        exact r.sep j k b e e' e1 e2 e3 e4
/-- a name's store: what follows -/
theorem asg_nm {De : Ends} (hfx : i ∉ fx) (p : Post Γ U env σ H a env1 v H1)
    (h : Wp (match Tg.nm i, a with | .nm i, .tmp d => if i < env1.length then Out.ok Fl.next (env1.set i (some (.own d))) else .stuck | t, a => (a.freeze env1).bind fun d env => match bindT t d env with | some env => .ok .next env | none => .stuck)
      (okS Γ fx U env σ H De) (exS Γ fx U env σ H W)) : De.nx (σ.set i (some v)) H1 := by
  have fin : ∀ {d : D} {env2 : Env}, Post Γ U env σ H (.val d) env2 v H1 → Wp (match bindT (.nm i) d env2 with | some env => Out.ok Fl.next env | none => .stuck) (okS Γ fx U env σ H De) (exS Γ fx U env σ H W) → De.nx (σ.set i (some v)) H1 := fun {d env2} p2 h => by
    unfold bindT at h
    split at h
    · rename_i env3 hb
      split at hb
      · rename_i hlt
        cases hb
        have b := p2.reU.bind (Rep.less (fun b z => z.imp .inl id) (show Rep Γ (fun b => UA U (.val d) v b ∨ Own env2 σ b) H1 v d from p2.ra)) hlt
        exact h _ _ ⟨b.re, p2.st.shr fun b' z => .inl (b.sub b' z), fun k hk => by rw [List.getElem?_set_ne (fun z => hfx (by rw [z]; exact hk))]⟩
      · cases hb
    · exact h.elim
  cases a with
  | tmp d =>
    dsimp only at h
    split at h
    · rename_i hlt
      obtain ⟨r1, r2⟩ := p.re.bindO p.ra hlt
      exact h _ _ ⟨r1, p.st.shr r2, fun k hk => by rw [List.getElem?_set_ne (fun z => hfx (by rw [z]; exact hk))]⟩
    · exact h.elim
  | val d =>
    obtain ⟨d, env2, p2, h⟩ := freeze_step p h
    exact fin p2 h
  | own j =>
    obtain ⟨d, env2, p2, h⟩ := freeze_step p h
    exact fin p2 h
theorem qs_set {n : Str} {e : E} (hN : X.N.Nodup) (hi : X.N[i]? = some n) (hx : Loc X.env.scope n) (hf : X.fn n = true ∨ X.env.scope.names.lookup n = some .local) (he : QE Γ X ea (evA P e)) (hsw : swapsWith ea (some (.Name n p1)) pos.line X.env = pure false) (hfx : i ∉ fx) :
    QS Γ fx X (.Assign [.Name n p1] ea pos) (evS P (.asg (.nm i) e)) := fun xe W tk po => PS.imp (ps_set (X := X.wish xe) hN hi hx (he xe W tk) hsw hf) fun D σ H ⟨U, env, r, h⟩ => by
  simp only [evS] at h
  exact (stepE r (fun x e cls d H' p q => exS.at q p) h).mono fun v H1 ⟨a, env1, p, h⟩ => asg_nm hfx p h
/-- a store to any target -/
theorem qs_asg {e : E} (hg : QG Γ X tg t) (he : QE Γ X ea (evA P e)) (hs : swapsWithSole [tg] ea pos.line X.env = pure false) (hw : swappedStores [tg] ea X.env = pure none) (hst : notStar tg = true) (ht : ∀ i, t ≠ .nm i) (hfx : ∀ i ∈ fx, i ∉ t.slots) :
    QS Γ fx X (.Assign [tg] ea pos) (evS P (.asg t e)) := fun xe W tk po => PS.imp (ps_asg (X := X.wish xe) (he xe W tk) (hg xe) hs hw (by rw [assignEach_cons hst]; rfl)) fun D σ H ⟨U, env, r, h⟩ => by
  simp only [evS] at h
  refine (stepE r (fun x e cls d H' p q => exS.at q p) h).mono fun v H1 ⟨a, env1, p, h⟩ => ?_
  have h : Wp ((a.freeze env1).bind fun d env => match bindT t d env with | some env => Out.ok Fl.next env | none => .stuck) (okS Γ fx U env σ H D) (exS Γ fx U env σ H W) := by
    cases t with
    | nm i => exact (ht i rfl).elim
    | _ => exact h
  obtain ⟨d, env2, p2, h⟩ := freeze_step p h
  split at h
  · rename_i env3 hb
    refine ⟨U, env2, d, env3, p2.reU, Rep.less (fun b z => z.imp .inl id) (show Rep Γ (fun b => UA U (.val d) v b ∨ Own env2 σ b) H1 v d from p2.ra), hb, fun σ' pg => ?_⟩
    exact h _ _ ⟨pg.re, p2.st.shr fun b z => .inl (pg.sub b z), fun k hk => pg.off k (hfx k hk)⟩
  · exact h.elim
end
end Ev
end
section
set_option maxRecDepth 100000
set_option maxHeartbeats 1000000
namespace Ev
open PySem PySem.Spec L2

section
variable {Γ : Glob} {X : Cx} {P : Par} {fx : List Nat} {U U' U1 O O' : Addr → Prop} {env env' env1 env2 env3 : Env} {σ σ' σ1 σ2 : St} {H H1 H2 H3 H' H'' : Hp} {a x y z r : A} {as as' : List A} {v w u : V} {vs : List V} {ws : List Nat} {d e : D} {ds es' : List D} {W : WX} {pos p1 p2 p3 apos cpos : Pos} {ea eb ec tg : Expr} {es : List Expr} {i j k : Nat} {t ts : Tg} {st : Stmt} {sts : List Stmt} {sa sb : List Stmt}

theorem qs_iff {c : E} {a b : Ss} (hc : QT Γ X ec (evT P c)) (ha : QSs Γ fx X sa (evSs P a)) (hb : QSs Γ fx X sb (evSs P b)) : QS Γ fx X (.If ec sa sb pos) (evS P (.iff c a b)) := fun xe W tk po =>
  PS.imp (ps_if (hc xe W tk) (ha xe W tk po) (hb xe W tk po)) fun D σ H ⟨U, env, r, h⟩ => by
    simp only [evS] at h
    refine (stepT r (fun x e cls d H' p q => exS.at q p) h).mono fun k H1 ⟨env1, p, h⟩ => ?_
    cases k with
    | true =>
      rw [if_pos rfl] at h ⊢
      exact ⟨U, env1, p.reU, h.mono (fun _ _ q => okS.comp p.s q) fun _ _ q => exS.comp p.s q⟩
    | false =>
      rw [if_neg Bool.false_ne_true] at h ⊢
      exact ⟨U, env1, p.reU, h.mono (fun _ _ q => okS.comp p.s q) fun _ _ q => exS.comp p.s q⟩

/-! ### loops -/
/-- a body's end within a loop: again, or out -/
theorem loop_body {m : M Fl} {D : Ends} {again : Env → Out Fl} (p : PostS Γ fx U env σ H env1 σ1 H1)
    (h : Wp (match m env1 with | .ok .next e => again e | .ok .cont e => again e | .ok .brk e => .ok .next e | .ok (.ret a) e => .ok (.ret a) e | .exn x e => .exn x e | .stuck => .stuck) (okS Γ fx U env σ H D) (exS Γ fx U env σ H W))
    (N : St → Hp → Prop) (hN : ∀ e σ' H', PostS Γ fx U env σ H e σ' H' → Wp (again e) (okS Γ fx U env σ H D) (exS Γ fx U env σ H W) → N σ' H') :
    Wp (m env1) (okS Γ fx U env1 σ1 H1 { D with nx := N, ct := N, bk := D.nx }) (exS Γ fx U env1 σ1 H1 W) := by
  cases q : m env1 with
  | ok fl e =>
    rw [q] at h
    cases fl with
    | next => exact fun σ' H' p2 => hN e σ' H' (p.comp p2) h
    | cont => exact fun σ' H' p2 => hN e σ' H' (p.comp p2) h
    | brk => exact fun σ' H' p2 => h σ' H' (p.comp p2)
    | ret a => exact fun v σ' H' p2 => h v σ' H' (p.compR p2)
  | exn x e => rw [q] at h; exact exS.comp p h
  | stuck => rw [q] at h; exact h
theorem qs_whl {c : E} {b : Ss} (hc : QT Γ X ec (evT P c)) (hb : QSs Γ fx X sb (evSs P b)) : QS Γ fx X (.While ec sb [] pos) (evS P (.whl c b)) := fun xe W tk po =>
  PS.imp (ps_while (X := X.wish xe) po (hc xe W tk) (hb xe W tk po)) fun D σ H ⟨U, env, r, h⟩ => by
    simp only [evS] at h
    refine ⟨fun n σi Hi => ∃ envi, PostS Γ fx U env σ H envi σi Hi ∧ Wp (whlL (evT P c) (evSs P b) n envi) (okS Γ fx U env σ H D) (exS Γ fx U env σ H W), ⟨P.fuel, env, .refl r, h⟩, ?_⟩
    rintro n σi Hi ⟨envi, pi, h⟩
    cases n with
    | zero => unfold whlL at h; exact h.elim
    | succ n =>
      unfold whlL at h
      refine (stepT pi.re (fun x e cls d H' p q => exS.at (exS.comp pi q) p) h).mono fun k H1 ⟨env1, p, h⟩ => ?_
      have p1 := pi.comp (p.s (fx := fx))
      cases k with
      | true =>
        rw [if_pos rfl] at h ⊢
        refine ⟨fun σ' H' => ∃ envi, PostS Γ fx U env σ H envi σ' H' ∧ Wp (whlL (evT P c) (evSs P b) n envi) (okS Γ fx U env σ H D) (exS Γ fx U env σ H W), fun σ' H' q => ⟨n, Nat.lt_succ_self _, q⟩, ?_⟩
        exact ⟨U, env1, p1.re, loop_body p1 h _ fun e σ' H' pe q => ⟨e, pe, q⟩⟩
      | false =>
        rw [if_neg Bool.false_ne_true] at h ⊢
        exact h _ _ p1
theorem qs_forr {it : It} {b : Ss} {iter : Expr} (hc : X.calm = true) (hg : QG Γ X tg t) (hi : QI Γ X tg iter (evI P it)) (hb : QSs Γ fx X sb (evSs P b)) (hs : ∀ x, foldedSetIterable iter X.env x = pure x) (hfx : ∀ i ∈ fx, i ∉ t.slots) :
    QS Γ fx X (.For tg iter sb [] pos) (evS P (.forr t it b)) := fun xe W tk po =>
  PS.imp (ps_for (X := X.wish xe) po hc (hi xe W tk) (hg xe) (hb xe W tk po) hs) fun De σ H ⟨U, env, r, h⟩ => by
    simp only [evS] at h
    rw [Wp.bind] at h
    refine ⟨U, env, r, h.mono (fun ds env1 h J H1 p0 => ?_) fun x e q cls d H' p => exS.at q p⟩
    have ps0 : PostS Γ fx U env σ H env1 σ H1 := ⟨p0.re, p0.st, fun _ _ => rfl⟩
    let body : D → Env → Out Fl := fun d env => match bindT t d env with | some env => evSs P b env | none => .stuck
    refine ⟨fun i m σi Hi => ∃ envi, m = ds.length - i ∧ i ≤ ds.length ∧ PostS Γ fx U env1 σ H1 envi σi Hi ∧ Wp (forL body (ds.drop i) envi) (okS Γ fx U env σ H De) (exS Γ fx U env σ H W),
      ⟨ds.length, env1, by simp, Nat.zero_le _, .refl p0.re, h⟩, ?_⟩
    rintro i m σi Hi ⟨envi, rfl, hil, pi, h⟩
    have jst : Stp (fun b => U b ∨ Own env1 σ b) H1 (fun b => U b ∨ Own envi σi b) Hi := pi.st.mono (fun _ z => .inr z) fun b z => z.elim (fun y => .inr (.inl (.inl y))) .inl
    have pt : PostS Γ fx U env σ H envi σi Hi := ps0.comp pi
    by_cases hlt : i < ds.length
    · refine .inr ⟨p0.jok.go i _ _ jst hlt, fun σ' H' => ∃ envi, PostS Γ fx U env1 σ H1 envi σ' H' ∧ Wp (forL body (ds.drop (i + 1)) envi) (okS Γ fx U env σ H De) (exS Γ fx U env σ H W),
        fun σ' H' ⟨e, pe, q⟩ => ⟨ds.length - (i + 1), by omega, e, rfl, hlt, pe, q⟩, fun x H' hy => ?_⟩
      obtain ⟨d, hd⟩ := get_lt hlt
      have hdrop : ds.drop i = d :: ds.drop (i + 1) := by
        rw [List.drop_eq_getElem_cons hlt]
        congr 1
        rw [List.getElem?_eq_getElem hlt] at hd
        exact Option.some.inj hd
      rw [hdrop] at h
      have py := YOk.post pi.re (p0.jok.yld i _ _ x H' d jst hd hy)
      unfold forL at h
      have hb : Wp (match bindT t d envi with | some e => (match evSs P b e with | .ok .next e => forL body (ds.drop (i + 1)) e | .ok .cont e => forL body (ds.drop (i + 1)) e | .ok .brk e => .ok .next e | .ok (.ret a) e => .ok (.ret a) e | .exn x e => .exn x e | .stuck => .stuck) | none => Out.stuck)
          (okS Γ fx U env σ H De) (exS Γ fx U env σ H W) := by
        have h' := h
        simp only [body] at h'
        cases q : bindT t d envi with
        | none => rw [q] at h'; exact h'
        | some e => rw [q] at h'; exact h'
      split at hb
      · rename_i envb hbind
        have qx : Rep Γ (fun b => U b ∨ Own envi σi b) H' x d := Rep.less (fun b z => z.imp .inl id) (show Rep Γ (fun b => UA U (.val d) x b ∨ Own envi σi b) H' x d from py.ra)
        refine ⟨U, envi, d, envb, py.reU, qx, hbind, fun σ2 pg => ?_⟩
        have pb : PostS Γ fx U envi σi Hi envb σ2 H' := ⟨pg.re, py.st.shr fun b z => .inl (pg.sub b z), fun k hk => pg.off k (hfx k hk)⟩
        have pb1 := pi.comp pb
        have ptb := ps0.comp pb1
        refine ⟨U, envb, pg.re, ?_⟩
        have lb := loop_body (again := forL body (ds.drop (i + 1))) ptb hb (fun σ' H' => ∃ envi, PostS Γ fx U env σ H envi σ' H' ∧ Wp (forL body (ds.drop (i + 1)) envi) (okS Γ fx U env σ H De) (exS Γ fx U env σ H W)) fun e σ' H' pe q => ⟨e, pe, q⟩
        cases q : evSs P b envb with
        | ok fl e =>
          rw [q] at hb
          cases fl with
          | next => exact fun σ' H' p2 => ⟨e, pb1.comp p2, hb⟩
          | cont => exact fun σ' H' p2 => ⟨e, pb1.comp p2, hb⟩
          | brk => exact fun σ' H' p2 => hb σ' H' (ptb.comp p2)
          | ret a => exact fun v σ' H' p2 => hb v σ' H' (ptb.compR p2)
        | exn x e => rw [q] at hb; exact exS.comp ptb hb
        | stuck => rw [q] at hb; exact hb
      · exact hb.elim
    · have e : i = ds.length := by omega
      subst e
      rw [List.drop_length] at h
      refine .inl ⟨p0.jok.stop _ _ _ jst (Nat.le_refl _), ?_⟩
      unfold forL at h
      exact h _ _ pt

/-! ### two and three names at once -/
theorem qs_par {n m : Str} {a b : E} {kt k2 : Nat} {pt pt2 : Pos} (hc : X.calm = true) (hN : X.N.Nodup) (hi : X.N[i]? = some n) (hj : X.N[j]? = some m) (hij : i ≠ j) (hx : X.env.scope.names.lookup n = some .local) (hy : X.env.scope.names.lookup m = some .local)
    (ha : QE Γ X ea (evA P a)) (hb : QE Γ X eb (evA P b)) (hst : ([ea, eb] : List Expr).all notStar = true)
    (hw : swappedStores [.Tuple [.Name n p1, .Name m p2] kt pt] (.Tuple [ea, eb] k2 pt2) X.env = pure (some [n, m])) (hfi : i ∉ fx) (hfj : j ∉ fx) :
    QS Γ fx X (.Assign [.Tuple [.Name n p1, .Name m p2] kt pt] (.Tuple [ea, eb] k2 pt2) pos) (evS P (.par i j a b)) := fun xe W tk po => by
  have hst := hst
  simp only [List.all_cons, List.all_nil, Bool.and_true, Bool.and_eq_true] at hst
  refine PS.imp (ps_par (X := X.wish xe) hc hN hi hj hij hx hy (pa_cons (ha xe W tk) (pa_cons (hb xe W tk) pa_nil (starEach_cons hst.2)) (starEach_cons hst.1)) hw) fun D σ H ⟨U, env, r, h⟩ => ?_
  simp only [evS] at h
  refine (stepE r (fun x e cls d H' p q => exS.at q p) h).mono fun v H1 ⟨x, env1, p1, h⟩ => ?_
  obtain ⟨d, env2, p2, h⟩ := freeze_step p1 h
  refine (stepE p2.re (fun x e cls d H' p q => exS.at q (p2.xcomp p)) h).mono fun w H2 ⟨y, env3, p3, h⟩ => ?_
  obtain ⟨e, env4, p4, h⟩ := freeze_step p3 h
  split at h
  · rename_i hl
    have p24 := p2.comp p4
    have qv : Rep Γ (fun b => U b ∨ Own env4 σ b) H2 v d := Rep.less (fun b z => z.imp (fun y => .inl (.inl y)) id) (show Rep Γ _ H2 v d from p2.carry p4)
    have qw : Rep Γ (fun b => U b ∨ Own env4 σ b) H2 w e := Rep.less (fun b z => z.imp .inl id) (show Rep Γ (fun b => UA U (.val e) w b ∨ Own env4 σ b) H2 w e from p24.ra)
    have b1 := p24.reU.bind qv hl.1
    have b2 := b1.re.bind (qw.less fun b z => z.imp id (b1.sub b)) (by rw [List.length_set]; exact hl.2)
    refine ⟨v, w, rfl, h _ _ ⟨b2.re, p24.st.shr fun b z => .inl (b1.sub b (b2.sub b z)), fun k hk => ?_⟩⟩
    rw [List.getElem?_set_ne (fun z => hfj (by rw [z]; exact hk)), List.getElem?_set_ne (fun z => hfi (by rw [z]; exact hk))]
  · exact h.elim

/-! ### x op= e -/
theorem iop_mulW : OpR X (inplaceOp .Mult) rMulW := opI fun _ _ _ _ _ _ _ hc q => PyProof.Rows.imul_int q hc.ok
theorem iop_divN : OpR X (inplaceOp .FloorDiv) (rI CDivN fun i j => .int (i.fdiv j)) := opI fun _ _ _ _ _ _ _ hc q => PyProof.Rows.ifloordiv_int hc.1 q (.inl (PyProof.noPylong_small hc.2))
theorem iop_divW : OpR X (inplaceOp .FloorDiv) rDivW := opI fun i j _ _ _ _ _ hc q => PyProof.Rows.ifloordiv_int (by omega) q (.inl (PyProof.noPylong_of_log2 hc.2))
def rAug : Bo → R2
  | .add => fun x y H Q => rI0 (fun i j => .int (i + j)) x y H Q ∨ rAddS x y H Q
  | .sub => rI0 fun i j => .int (i - j)
  | .mul => fun x y H Q => rI CMul (fun i j => .int (i * j)) x y H Q ∨ rMulW x y H Q
  | .fdiv => fun x y H Q => rI CDivN (fun i j => .int (i.fdiv j)) x y H Q ∨ rDivW x y H Q
  | _ => fun _ _ _ _ => False
theorem op_aug (o : Bo) : OpR X (inplaceOp o.op) (rAug o) := by
  cases o with
  | add => exact iop_add.or iop_add_str
  | sub => exact iop_sub
  | mul => exact iop_mul.or iop_mulW
  | fdiv => exact iop_divN.or iop_divW
  | mod => exact fun _ _ _ _ _ _ _ _ _ _ _ _ h => h.elim
  | pow => exact fun _ _ _ _ _ _ _ _ _ _ _ _ h => h.elim
theorem augF_ok {o : Bo} {r : D} {Q : VK} (h : augF o d e = some r) (hv : Vw Γ O H v d) (hw : Vw Γ O H w e) (hQ : ∀ u, (∀ O' : Addr → Prop, Rep Γ O' H u r) → Q u H) : rAug o v w H Q := by
  unfold augF at h
  split at h
  · cases h; cases hv.int; cases hw.int
    exact .inl ⟨_, _, rfl, rfl, hQ _ fun _ => .int _⟩
  · cases h; cases hv.int; cases hw.int
    exact ⟨_, _, rfl, rfl, hQ _ fun _ => .int _⟩
  · split at h
    · rename_i hm
      cases h; cases hv.int; cases hw.int
      unfold mulOk at hm
      simp only [Bool.or_eq_true, decide_eq_true_eq] at hm
      rcases hm with (hm | hm) | hm
      · exact .inl ⟨_, _, rfl, rfl, .inl (s64_lt hm), hQ _ fun _ => .int _⟩
      · exact .inl ⟨_, _, rfl, rfl, .inr (s64_lt hm), hQ _ fun _ => .int _⟩
      · exact .inr ⟨_, _, rfl, rfl, hm, hQ _ fun _ => .int _⟩
    · cases h
  · split at h
    · rename_i hm
      cases h; cases hv.int; cases hw.int
      unfold fdivOk at hm
      simp only [Bool.or_eq_true, Bool.and_eq_true, decide_eq_true_eq] at hm
      rcases hm with hm | hm
      · exact .inl ⟨_, _, rfl, rfl, hm, hQ _ fun _ => .int _⟩
      · exact .inr ⟨_, _, rfl, rfl, hm, hQ _ fun _ => .int _⟩
    · cases h
  · split at h
    · rename_i hm
      cases h; cases hv.str; cases hw.str
      exact .inr ⟨_, _, rfl, rfl, hm, hQ _ fun _ => .str _⟩
    · cases h
  · cases h
theorem qs_aug {n : Str} {e : E} {o : Bo} (hN : X.N.Nodup) (hi : X.N[i]? = some n) (hx : Loc X.env.scope n) (hf : X.fn n = true ∨ X.env.scope.names.lookup n = some .local) (he : QE Γ X ea (evA P e)) (hfx : i ∉ fx) :
    QS Γ fx X (.AugAssign (.Name n p1) o.op ea pos) (evS P (.aug i o e)) := fun xe W tk po => PS.imp (ps_aug (X := X.wish xe) (ti := rAug o) hN hi hx (he xe W tk) (op_aug o) hf) fun D σ H ⟨U, env, r, h⟩ => by
  simp only [evS] at h
  split at h
  · rename_i d hd
    obtain ⟨v, e1, e2⟩ := r.val i d hd
    refine ⟨v, e1, ?_⟩
    refine (stepE r (fun x e cls d H' p q => exS.at q p) h).mono fun w H1 ⟨y, env1, p, h⟩ => ?_
    split at h
    · rename_i g hg
      split at h
      · rename_i rr hr
        have qv : Rep Γ (fun b => UA U y w b ∨ Own env1 σ b) H1 v d := e2.stp (p.st.mono (fun _ z => .inr z) fun b z => by
          rcases z with (z | z) | z
          · exact .inr (.inl (.inl z))
          · exact .inl (.inr z)
          · exact .inl (.inl z))
        refine augF_ok hr (.inl qv) (p.vw hg) fun u qu => ?_
        have hlt : i < env1.length := by
          rw [p.re.len, ← r.len]
          exact (List.getElem?_eq_some_iff.mp hd).1
        have b := (p.re.less (U' := U) fun _ z => .inl z).bind (qu _) hlt
        exact h _ _ ⟨b.re, p.st.shr fun b' z => .inl (b.sub b' z), fun k hk => by rw [List.getElem?_set_ne (fun z => hfx (by rw [z]; exact hk))]⟩
      · exact h.elim
    · exact h.elim
  · exact h.elim

/-! ### x[i] = e -/
def isSlice : Expr → Bool
  | .Slice .. => true
  | _ => false
theorem assign_sub {o i : Expr} {env : PySem.Env} {v : Value} (h : isSlice i = false) : assign (.Subscript o i pos) env v = (do
      let ov ← holding [v] (eval o env)
      let iv ← holding [v, ov] (eval i env)
      standAt pos
      holding [v, ov, iv] (setItem ov iv v)
      release [v, ov, iv] []) := by
  cases i <;> first | rfl | cases h
theorem plainIx_of {i : Expr} (h : isSlice i = false) : PlainIx i := by
  intro o k
  cases i <;> first | rfl | cases h
theorem setF_lst {o x d o' : D} (h : setF o x d = some o') : ∃ xs k j, o = .lst xs ∧ x = .int k ∧ ixN xs.length k = some j ∧ o' = .lst (xs.set j d) := by
  unfold setF at h
  split at h
  · rename_i xs k
    cases q : ixN xs.length k with
    | none => rw [q] at h; cases h
    | some j => rw [q] at h; cases h; exact ⟨xs, k, j, rfl, rfl, q, rfl⟩
  · cases h
theorem qs_setI {n : Str} {e ix : E} (hN : X.N[i]? = some n) (hv : Vis X.env.scope n) (hd : (n == ("__debug__" : Str)) = false) (hcd : (n == ("__classdict__" : Str)) = false) (he : QE Γ X ea (evA P e)) (hx : QE Γ X eb (evA P ix)) (hsl : isSlice eb = false) :
    QS Γ fx X (.Assign [.Subscript (.Name n p1) eb p2] ea pos) (evS P (.setI i ix e)) := fun xe W tk po => by
  have hs : swapsWithSole [.Subscript (.Name n p1) eb p2] ea pos.line X.env = pure false := by cases ea <;> rfl
  refine PS.imp (ps_asg (X := X.wish xe) (he xe W tk) (pg_sub (X := X.wish xe) (pe_var (X := X.wish xe) hN hv hd hcd) (hx xe W tk) set_list (fun _ => assign_sub hsl)) hs (by cases ea <;> rfl)) fun D σ H ⟨U, env, r, h⟩ => ?_
  simp only [evS] at h
  split at h
  · rename_i o0 h0
    obtain ⟨b, e1, _, _⟩ := r.own i o0 h0
    refine (stepE r (fun x e cls d H' p q => exS.at q p) h).mono fun v H1 ⟨x, env1, p1, h⟩ => ?_
    obtain ⟨d, env2, p2, h⟩ := freeze_step p1 h
    refine ⟨.ref b, e1, ?_⟩
    refine (stepE p2.re (fun x e cls d H' p q => exS.at q (p2.xcomp p)) h).mono fun w H2 ⟨y, env3, p3, h⟩ => ?_
    split at h
    · rename_i x' o hx' ho
      split at h
      · rename_i o' hset
        obtain ⟨xs, k, j, rfl, rfl, hj, rfl⟩ := setF_lst hset
        cases (p3.vw hx').int
        have p23 := p2.comp p3
        have r3 : RE Γ U env3 σ H2 := p23.re.less fun _ z => .inl z
        obtain ⟨b', us, f1, f2, f3⟩ := r3.at_own ho
        rw [e1] at f1
        cases f1
        have qv : Rep Γ (fun b => U b ∨ Own env3 σ b) H2 v d := Rep.less (fun b z => z.imp (fun y => .inl (.inl y)) id) (show Rep Γ _ H2 v d from p2.carry p3)
        obtain ⟨w1, w2, w3⟩ := r3.write ho e1 f2 (Reps.set qv j f3)
        refine ⟨b, us, k, j, rfl, rfl, f2, by rw [f3.length]; exact hj, ?_⟩
        exact h _ _ ⟨w1, (p23.st.shr fun b z => .inl z).comp (w3.shr fun b z => (w2 b).mp z) fun _ z => z, fun _ _ => rfl⟩
      · exact h.elim
    · exact h.elim
  · exact h.elim

/-! ### raise, try -/
/-- an exception's class of the program, made without an argument -/
structure ExcAt (Γ : Glob) (X : Cx) (n : Str) (c : Nat) : Prop where
  ex : ∃ C : Addr, Γ.exc c = some C ∧ X.mg n = some (.ref C) ∧ PySem.W.excIn X.K C [.type "ValueError", .type "Exception", .type "BaseException", .type "object"] "ValueError.__new__" = true ∧ PySem.W.keepIn X.K (.ref C) = true ∧
    PySem.W.subIn X.K (.ref C) (.type "BaseException") = some true ∧ PySem.W.typeIn X.K (.ref C) = some (.type "type")
theorem pmk_own0 {C : Addr} {bmB : List Value} {B newId initId : String} {n : Str} (F : ExcBaseFacts B newId initId bmB) (q : PySem.W.excIn X.K C bmB newId = true) (gC : X.mg n = some (.ref C)) (kC : PySem.W.keepIn X.K (.ref C) = true) (r : Raises X (.ref C)) (hg : Gl X n)
    (hdb : (n == ("__debug__" : Str)) = false) : PMk X (.Call (.Name n p1) [] [] pos) (fun _ H Q => Q (.ref C) none H) := by
  intro pins s σ H Q I h
  refine wpAny_Call_Name_kw (ld_glob I hg gC ?_ hdb)
  refine PySem.W.callWith_K0 I.kIn kC ?_
  obtain ⟨bm, N, nm, qn, bs, hdct, sn, sub, ab, col, dd, k0, k1, k2, k3, k5, mN, hC, hN, hni, T⟩ := exc_obj I.kIn q
  exact wpAny_call_exc_subT F T hC hN hni (fun h' e hm => mk_of I hm r h (I.hok.gone hm.new)) (Nat.zero_le _)
theorem qs_raise0 {n : Str} {c : Nat} (hc : X.calm = true) (hx : ExcAt Γ X n c) (hg : Gl X n) (hdb : (n == ("__debug__" : Str)) = false) : QS Γ fx X (.Raise (some (.Call (.Name n p1) [] [] p2)) none pos) (evS P (.raise c .nil)) := fun xe W tk po => by
  obtain ⟨C, e1, e2, e3, e4, e5, e6⟩ := hx.ex
  refine PS.imp (ps_raise (X := X.wish xe) hc tk (pmk_own0 (X := X.wish xe) PySem.F.excBase_ValueError e3 e2 e4 (raises_own e5 e6) hg hdb)) fun D σ H ⟨U, env, r, h⟩ => ?_
  simp only [evS, evVs, Out.bind_ok] at h
  exact h (.ref C) none σ H ⟨r, ⟨⟨C, e1, rfl⟩, rfl, rfl⟩, Stp.refl _ _, fun _ _ => rfl⟩
/-- which clause takes which exception -/
def ExmOk (Γ : Glob) (K : PySem.W.Frag) (exm : Nat → Nat → Option Bool) : Prop := ∀ x c b, exm x c = some b → ∃ Cx Cc, Γ.exc x = some Cx ∧ Γ.exc c = some Cc ∧ PySem.W.exmOne K (.ref Cx) (.ref Cc) = some b
theorem qs_try {n : Str} {c : Nat} {b h' : Ss} {b0 : Stmt} {np : Pos} (hs : X.stack = X.env :: X.outer) (hf : X.env.frame = some X.env.locals) (hx : ExcAt Γ X n c) (hg : Gl X n) (hdb : (n == ("__debug__" : Str)) = false) (he : ExmOk Γ X.K P.exm)
    (hb : ∀ pn, QSs Γ fx { X with pn := pn } sb (evSs P b)) (hh : ∀ a pn, QSs Γ fx (X.suite a pn) (b0 :: sa) (evSs P h')) :
    QS Γ fx X (.Try sb [.ExceptHandler (some (.Name n np)) none (b0 :: sa) p1] [] [] pos) (evS P (.tryE b c none h')) := fun xe W tk po => by
  obtain ⟨C, e1, e2, _⟩ := hx.ex
  refine PS.imp (ps_try_only (X := X.wish xe) (tb := fun W => tS Γ fx (evSs P b) W) (ts := fun _ _ _ => tS Γ fx (evSs P h') (fun _ _ _ _ => False)) (Wout := W) hs hf ⟨hg, hdb, .inl e2⟩ tk (fun W pn xe' tk' po' => hb pn xe' W tk' po') (fun a oe cls d pn _ _ => hh a _ (fun _ _ => False) (fun _ _ _ _ => False) takes0 PassesOwn.never)) fun D σ H ⟨U, env, r, h⟩ => ?_
  simp only [evS] at h
  refine ⟨U, env, r, ?_⟩
  cases q : evSs P b env with
  | ok fl e => rw [q] at h; exact h
  | stuck => rw [q] at h; exact h
  | exn x e =>
    rw [q] at h
    intro cls d σ1 H1 p1
    obtain ⟨⟨Cx, g1, rfl⟩, _, _⟩ := p1.xr
    have h : Wp (match P.exm x.cls c, (none : Option Nat) with | some true, none => (match evSs P h' e with | .exn _ _ => .stuck | o => o) | some false, _ => .exn x e | _, _ => .stuck) (okS Γ fx U env σ H D) (exS Γ fx U env σ H W) := h
    have ps : PostS Γ fx U env σ H e σ1 H1 := ⟨p1.re, p1.st, p1.fx⟩
    cases z : P.exm x.cls c with
    | none => rw [z] at h; exact h.elim
    | some bb =>
      obtain ⟨Cx', Cc, k1, k2, k3⟩ := he _ _ _ z
      rw [g1] at k1
      cases k1
      rw [e1] at k2
      cases k2
      refine ⟨bb, k3, fun t a na => ?_, fun f => ?_⟩
      · subst t
        rw [z] at h
        have h : Wp (match evSs P h' e with | .exn _ _ => Out.stuck | o => o) (okS Γ fx U env σ H D) (exS Γ fx U env σ H W) := h
        refine ⟨U, e, p1.re, ?_⟩
        cases q2 : evSs P h' e with
        | ok fl e2 => rw [q2] at h; exact okS.comp ps h
        | exn x2 e2 => rw [q2] at h; exact h.elim
        | stuck => rw [q2] at h; exact h.elim
      · subst f
        rw [z] at h
        exact h _ _ _ _ ⟨p1.re, p1.xr, p1.st, p1.fx⟩
end
end Ev
end
section
set_option maxRecDepth 100000
set_option maxHeartbeats 1000000
namespace Ev
open PySem PySem.Spec L2

section
variable {Γ : Glob} {X : Cx} {P : Par} {fx : List Nat} {U U' U1 O O' : Addr → Prop} {env env' env1 env2 env3 : Env} {σ σ' σ1 σ2 : St} {H H1 H2 H3 H' H'' : Hp} {a x y z r : A} {as as' : List A} {v w u : V} {vs : List V} {ws : List Nat} {d e : D} {ds es' : List D} {W : WX} {pos spos p1 p2 p3 apos cpos : Pos} {ea eb ec tg : Expr} {es : List Expr} {i j k : Nat} {t ts : Tg} {st : Stmt} {sts : List Stmt} {sa sb : List Stmt}

/-- a comprehension stored at a local name on its line -/
theorem qs_setLc {y : Str} {elt iter : Expr} {ifs : List Expr} {scope : Scope} {own : List (Str × Nat)} {el : E} {it : It} {c : Es} (hc : X.calm = true) (hN : X.N.Nodup) (hy : X.N[i]? = some y) (hyl : X.env.scope.names.lookup y = some .local)
    (hsw : swapsWith (.ListComp elt [⟨tg, iter, ifs, 0⟩] scope pos) (some (.Name y p1)) spos.line X.env = pure true) (hi : QI Γ X tg iter (evI P it)) (ok : BlkOk X.N X.env.scope scope own)
    (hg : ∀ (s : Shared) (H : Hp) (C : Addr) (cl : List (Str × Addr)) (fp : List Addr), QG Γ (X.blk s H scope (compEnvC scope cl C X.env) fp) tg t)
    (ht : ∀ (s : Shared) (H : Hp) (C : Addr) (cl : List (Str × Addr)) (fp : List Addr), QC Γ (X.blk s H scope (compEnvC scope cl C X.env) fp) ifs (evC P c))
    (he : ∀ (s : Shared) (H : Hp) (C : Addr) (cl : List (Str × Addr)) (fp : List Addr), QE Γ (X.blk s H scope (compEnvC scope cl C X.env) fp) elt (evA P el))
    (hs : ∀ x, foldedSetIterable iter X.env x = pure x) (hsl : ∀ i ∈ t.slots, i ∈ own.map (·.2)) (hfx : i ∉ fx) :
    QS Γ fx X (.Assign [.Name y p1] (.ListComp elt [⟨tg, iter, ifs, 0⟩] scope pos) spos) (evS P (.asg (.nm i) (.lc el t it c (own.map (·.2))))) := fun xe W tk po =>
  PS.imp (ps_setLc (X := X.wish xe) hc hN hy hyl hsw (hi xe W tk) ok (fun s H C cl fp => hg s H C cl fp _) (fun s H C cl fp => ht s H C cl fp _ (fun _ _ _ _ => False) takes0) (fun s H C cl fp => he s H C cl fp _ (fun _ _ _ _ => False) takes0) hs) fun D σ H ⟨U, env, r, h⟩ => by
  simp only [evS] at h
  refine lc_imp hsl ?_
  exact (stepE r (fun x e cls d H' p q => exS.at q p) h).mono fun v H1 ⟨a, env1, p, h⟩ => asg_nm hfx p h

theorem qs_par3 {n m l : Str} {a b c : E} {kt k2 : Nat} {pt pt2 : Pos} (hc : X.calm = true) (hN : X.N.Nodup) (hi : X.N[i]? = some n) (hj : X.N[j]? = some m) (hk : X.N[k]? = some l) (hij : i ≠ j) (hik : i ≠ k) (hjk : j ≠ k) (hx : X.env.scope.names.lookup n = some .local) (hy : X.env.scope.names.lookup m = some .local) (hz : X.env.scope.names.lookup l = some .local)
    (ha : QE Γ X ea (evA P a)) (hb : QE Γ X eb (evA P b)) (hc' : QE Γ X ec (evA P c)) (hst : ([ea, eb, ec] : List Expr).all notStar = true)
    (hw : swappedStores [.Tuple [.Name n p1, .Name m p2, .Name l p3] kt pt] (.Tuple [ea, eb, ec] k2 pt2) X.env = pure (some [n, m, l])) (hfi : i ∉ fx) (hfj : j ∉ fx) (hfk : k ∉ fx) :
    QS Γ fx X (.Assign [.Tuple [.Name n p1, .Name m p2, .Name l p3] kt pt] (.Tuple [ea, eb, ec] k2 pt2) pos) (evS P (.par3 i j k a b c)) := fun xe W tk po => by
  have hst := hst
  simp only [List.all_cons, List.all_nil, Bool.and_true, Bool.and_eq_true] at hst
  refine PS.imp (ps_par3 (X := X.wish xe) hc hN hi hj hk hij hik hjk hx hy hz (pa_cons (ha xe W tk) (pa_cons (hb xe W tk) (pa_cons (hc' xe W tk) pa_nil (starEach_cons hst.2.2)) (starEach_cons hst.2.1)) (starEach_cons hst.1)) hw) fun D σ H ⟨U, env, r, h⟩ => ?_
  simp only [evS] at h
  refine (stepE r (fun x e cls d H' p q => exS.at q p) h).mono fun v H1 ⟨x, env1, p1, h⟩ => ?_
  obtain ⟨d, env2, p2, h⟩ := freeze_step p1 h
  refine (stepE p2.re (fun x e cls d H' p q => exS.at q (p2.xcomp p)) h).mono fun w H2 ⟨y, env3, p3, h⟩ => ?_
  obtain ⟨e, env4, p4, h⟩ := freeze_step p3 h
  have p24 := p2.comp p4
  refine (stepE p24.re (fun x e cls d H' p q => exS.at q (p24.xcomp p)) h).mono fun u H3 ⟨z, env5, p5, h⟩ => ?_
  obtain ⟨g, env6, p6, h⟩ := freeze_step p5 h
  split at h
  · rename_i hl
    have p26 := p24.comp p6
    have qv0 : Rep Γ (fun b => UA U (.val d) v b ∨ Own env4 σ b) H2 v d := Rep.less (fun b z => z.imp (fun y => .inl y) id) (show Rep Γ _ H2 v d from p2.carry p4)
    have sU : Stp (fun b => U b ∨ Own env4 σ b) H2 (fun b => U b ∨ Own env6 σ b) H3 := p6.st.mono (fun _ z => .inr z) fun b z => by
      rcases z with z | z
      · exact .inr (.inl (.inl z))
      · exact .inl (.inl z)
    have qv : Rep Γ (fun b => U b ∨ Own env6 σ b) H3 v d := Rep.stp sU (Rep.less (fun b z => z.imp .inl id) qv0)
    have qw : Rep Γ (fun b => U b ∨ Own env6 σ b) H3 w e := Rep.stp sU (Rep.less (fun b z => z.imp .inl id) (show Rep Γ (fun b => UA U (.val e) w b ∨ Own env4 σ b) H2 w e from p24.ra))
    have qu : Rep Γ (fun b => U b ∨ Own env6 σ b) H3 u g := Rep.less (fun b z => z.imp .inl id) (show Rep Γ (fun b => UA U (.val g) u b ∨ Own env6 σ b) H3 u g from p26.ra)
    have b1 := p26.reU.bind qv hl.1
    have b2 := b1.re.bind (qw.less fun b z => z.imp id (b1.sub b)) (by rw [List.length_set]; exact hl.2.1)
    have b3 := b2.re.bind (qu.less fun b z => z.imp id fun k => b1.sub b (b2.sub b k)) (by rw [List.length_set, List.length_set]; exact hl.2.2)
    refine ⟨v, w, u, rfl, h _ _ ⟨b3.re, p26.st.shr fun b z => .inl (b1.sub b (b2.sub b (b3.sub b z))), fun q hq => ?_⟩⟩
    rw [List.getElem?_set_ne (fun z => hfk (by rw [z]; exact hq)), List.getElem?_set_ne (fun z => hfj (by rw [z]; exact hq)), List.getElem?_set_ne (fun z => hfi (by rw [z]; exact hq))]
  · exact h.elim
end
end Ev
end
section
set_option maxRecDepth 100000
set_option maxHeartbeats 1000000
namespace Ev
open PySem PySem.Spec L2

/-- where a body stands: its scope, its names by slot, the block's own scope (within a comprehension), slots that are never stored, whether nothing is being handled; the program's defs, its exceptions, the built-in names that it leaves alone -/
structure Cc where
  sc : Scope
  N : List Str
  blk : Option Scope
  fx : List Nat
  calm : Bool
  fns : List Str
  excs : List Str
  blt : List Str
  tab : Bool
  gl : List (Str × D)

def posOf : List Str → Str → Option Nat
  | [], _ => none
  | y :: ys, x => if y = x then some 0 else (posOf ys x).map (· + 1)
theorem posOf_get : ∀ {N : List Str} {x : Str} {i : Nat}, posOf N x = some i → N[i]? = some x
  | y :: ys, x, i, h => by
    unfold posOf at h
    split at h
    · rename_i e
      cases h
      rw [e]
      rfl
    · cases q : posOf ys x with
      | none => rw [q] at h; cases h
      | some j =>
        rw [q] at h
        cases h
        have := posOf_get q
        simpa using this
  | [], _, _, h => by cases h
def Cc.vis (C : Cc) (x : Str) : Bool := match C.sc.names.lookup x with
  | some .local => true
  | some .cell => true
  | some .free => true
  | _ => false
def Cc.loc (C : Cc) (x : Str) : Bool := match C.sc.names.lookup x with
  | some .local => true
  | some .cell => true
  | _ => false
def Cc.islocal (C : Cc) (x : Str) : Bool := match C.sc.names.lookup x with
  | some .local => true
  | _ => false
def Cc.glob (C : Cc) (x : Str) : Bool := match C.sc.names.lookup x with
  | some .globalImplicit => true
  | _ => false
def plainName (x : Str) : Bool := !(x == ("__debug__" : Str)) && !(x == ("__classdict__" : Str)) && !(x == ("__name__" : Str))
/-- a name that is read: its slot -/
def Cc.slot (C : Cc) (x : Str) : Option Nat := if C.vis x && plainName x then posOf C.N x else none
def Cc.may (C : Cc) (x : Str) : Bool := match C.blk with
  | none => true
  | some s => s.names.lookup x == some .cell || C.sc.names.lookup x == some .local
/-- a name that is stored -/
def Cc.dest (C : Cc) (x : Str) : Option Nat :=
  if C.loc x && plainName x && C.may x then
    match posOf C.N x with
    | some i => if C.fx.contains i then none else some i
    | none => none
  else none

def cBo : Operator → Option Bo
  | .Add => some .add | .Sub => some .sub | .Mult => some .mul | .FloorDiv => some .fdiv | .Mod => some .mod | .Pow => some .pow | _ => none
theorem cBo_op {o : Operator} {b : Bo} (h : cBo o = some b) : o = b.op := by cases o <;> cases h <;> rfl
def cCo : CmpOp → Option Co
  | .Eq => some .eq | .NotEq => some .ne | .Lt => some .lt | .LtE => some .le | .Gt => some .gt | .GtE => some .ge | .Is => some .is | .IsNot => some .isn | .In => some .inn | .NotIn => some .nin
theorem cCo_op {o : CmpOp} {b : Co} (h : cCo o = some b) : o = b.op := by cases o <;> cases h <;> rfl
def isSet : Expr → Bool
  | .Set .. => true
  | _ => false
theorem nomarks {b : Expr} {op : CmpOp} (h : isSet b = false) : behindInMarks op b = false := by cases b <;> first | rfl | cases h
theorem nofold {e : Expr} {env : PySem.Env} (h : isSet e = false) : ∀ x, foldedSetIterable e env x = pure x := by
  intro x
  cases e <;> first | rfl | cases h
def cConst : Const → Option D
  | .none => some .non
  | .bool b => some (.bl b)
  | .int i => some (.int i)
  | .str s => some (.str s)
  | _ => none
def tyIs (x : Str) : Option Bi :=
  if x = "int" then some .isInt else if x = "bool" then some .isBool else if x = "tuple" then some .isTuple else if x = "str" then some .isStr else if x = "list" then some .isList else none
/-- the built-in functions by name; 0: any number of arguments -/
def biTab : List (Str × Nat × Bi) := [("len", 0, .len), ("abs", 0, .abs), ("int", 0, .int), ("list", 0, .list), ("tuple", 0, .tuple), ("any", 0, .any), ("all", 0, .all), ("sum", 0, .sum), ("max", 2, .max2), ("min", 2, .min2), ("max", 1, .max1), ("min", 1, .min1), ("str", 0, .str)]
def cBi (x : Str) (n : Nat) : Option Bi := (biTab.find? fun p => p.1 == x && (p.2.1 == 0 || p.2.1 == n)).map (·.2.2)
/-- enumerate's argument, its pairs parted at once -/
def enumArg : Expr → List Expr → Option Expr
  | .Tuple _ _ _, [a] => some a
  | _, _ => none
theorem enumArg_ok {tg : Expr} {es : List Expr} {a : Expr} (h : enumArg tg es = some a) : (∃ elts k p, tg = .Tuple elts k p) ∧ es = [a] := by
  unfold enumArg at h
  split at h
  · cases h; exact ⟨⟨_, _, _, rfl⟩, rfl⟩
  · cases h
def cMm (m : Str) : Option Mm := if m = "append" then some .append else if m = "extend" then some .extend else if m = "pop" then some .pop else none
/-- a comprehension's own names with their slots -/
def ownOf (N : List Str) : List (Str × NameKind) → List (Str × Nat)
  | [] => []
  | (n, k) :: r => match k, posOf N n with
    | .local, some i => (n, i) :: ownOf N r
    | .cell, some i => (n, i) :: ownOf N r
    | _, _ => ownOf N r
def Cc.inner (C : Cc) (s : Scope) : Cc := { C with sc := relS s C.sc, blk := some s }
/-- within a generator expression -/
def Cc.gxin (C : Cc) (s : Scope) : Cc := { C with sc := s, blk := some s, tab := false }
def isLst : Expr → Bool
  | .List .. => true
  | _ => false
theorem nogenfold {e : Expr} {env : PySem.Env} (h : isSet e = false) (h2 : isLst e = false) : ∀ x, genFold e env x = pure x := by
  intro x
  cases e <;> first | rfl | (cases h; done) | cases h2

def cTgs (cT : Expr → Option Tg) : List Expr → Option Tg
  | [] => some .nil
  | e :: es => if notStar e then match cT e, cTgs cT es with
    | some t, some ts => some (.cons t ts)
    | _, _ => none
    else none
/-- a target -/
def cTg : Nat → Cc → Expr → Option Tg
  | 0, _, _ => none
  | n + 1, C, e => match e with
    | .Name x _ => (C.dest x).map .nm
    | .Tuple es _ _ => if C.calm && es.all notStar then (cTgs (cTg n C) es).map .tp else none
    | _ => none
def cEs (cE : Expr → Option E) : List Expr → Option Es
  | [] => some .nil
  | e :: es => if notStar e then match cE e, cEs cE es with
    | some a, some as => some (.cons a as)
    | _, _ => none
    else none
def cPs (cE : Expr → Option E) : List (Option Expr) → List Expr → Option Es
  | [], [] => some .nil
  | some k :: ks, v :: vs => match cE k, cE v, cPs cE ks vs with
    | some a, some b, some r => some (.cons a (.cons b r))
    | _, _, _ => none
  | _, _ => none
def cOpt (cE : Expr → Option E) : Option Expr → Option Es
  | none => some .nil
  | some e => (cE e).map fun a => .cons a .nil
def cBools (f : Expr → Option E) (op : BoolOp) : List Expr → Option E
  | [] => none
  | [a] => f a
  | a :: b :: r => match f a, cBools f op (b :: r) with
    | some a, some b => some (match op with | .And => .an a b | .Or => .or a b)
    | _, _ => none
def isGen : List Expr → Bool
  | [.GeneratorExp ..] => true
  | _ => false
mutual
def cE : Nat → Cc → Expr → Option E
  | 0, _, _ => none
  | n + 1, C, e => match e with
    | .Name x _ => match C.slot x with
      | some i => some (.var i)
      | none => if C.glob x && plainName x then (C.gl.lookup x).map .cst else none
    | .Constant c _ _ => (cConst c).map .cst
    | .BinOp a o b _ => match cBo o, cE n C a, cE n C b with
      | some o, some a, some b => some (.bin o a b)
      | _, _, _ => none
    | .UnaryOp .USub a _ => (cE n C a).map .neg
    | .UnaryOp .Not a _ => (cE n C a).map .nt
    | .BoolOp op vs _ => cBools (cE n C) op vs
    | .Compare a [o] [b] _ => if isSet b then none else match cCo o, cE n C a, cE n C b with
      | some o, some a, some b => some (.cmp o a b)
      | _, _, _ => none
    | .Compare a [o, p] [b, c] _ => if isSet b || isSet c then none else match cCo o, cCo p, cE n C a, cE n C b, cE n C c with
      | some o, some p, some a, some b, some c => some (.chain o p a b c)
      | _, _, _, _, _ => none
    | .IfExp c a b _ => match cE n C c, cE n C a, cE n C b with
      | some c, some a, some b => some (.ite c a b)
      | _, _, _ => none
    | .Tuple es _ _ => (cEs (cE n C) es).map .tup
    | .List es _ => (cEs (cE n C) es).map .lst
    | .Subscript a (.Slice lo hi none _) _ => match cE n C a, cOpt (cE n C) lo, cOpt (cE n C) hi with
      | some a, some l, some h => some (.slc a l h)
      | _, _, _ => none
    | .Subscript a i _ => if isSlice i then none else match cE n C a, cE n C i with
      | some a, some i => some (.idx a i)
      | _, _ => none
    | .Call (.Name f _) es [] _ => if C.glob f && plainName f then cCall n C f es else none
    | .Call (.Attribute (.Name x _) m p) es [] q => match C.slot x, cMm m, cEs (cE n C) es with
      | some i, some mm, some as => if p.endLine == q.line then (match mm, es with
        | .append, [_] => some (.mut .append i as)
        | .extend, [_] => some (.mut .extend i as)
        | .pop, [] => some (.mut .pop i .nil)
        | _, _ => none) else none
      | _, _, _ => none
    | .Call (.Attribute (.Constant c k p0) m p) [e] [] q => if m == ("join" : Str) && notStar e && p.endLine == q.line then match cE n C (.Constant c k p0), cE n C e with
      | some o, some a => some (.sm .join o (.cons a .nil))
      | _, _ => none
      else none
    | .Dict keys values _ => if keys.isEmpty then none else if keys.all (·.isSome) && keys.length == values.length && decide (keys.length ≤ 15) then (cPs (cE n C) keys values).map .dsp else none
    | .ListComp elt [⟨tg, iter, ifs, 0⟩] s _ =>
      let own := ownOf C.N s.names
      if C.calm && blkC C.N C.sc s own && !isSet iter then
        match cTg n (C.inner s) tg, cIt n C tg iter, cE n (C.inner s) elt, (match ifs with | [] => some Es.nil | [c] => (cE n (C.inner s) c).map fun c => Es.cons c .nil | _ => none) with
        | some t, some it, some el, some c => if t.slots.all fun i => (own.map (·.2)).contains i then some (.lc el t it c (own.map (·.2))) else none
        | _, _, _, _ => none
      else none
    | _ => none
def cCall : Nat → Cc → Str → List Expr → Option E
  | 0, _, _, _ => none
  | n + 1, C, f, es => match posOf C.fns f with
    | some i => if C.calm then (cEs (cE n C) es).map (.call i) else none
    | none => if C.blt.contains f then (if f = "isinstance" then (match es with
        | [e, .Name t _] => if C.glob t && plainName t && C.blt.contains t && notStar e then (match cE n C e, tyIs t with
          | some a, some b => some (.bi b (.cons a .nil))
          | _, _ => none) else none
        | _ => none)
      else if isGen es then (match es with
        | [.GeneratorExp elt [⟨tg, iter, ifs, 0⟩] s _] =>
          let own := ownOf C.N s.names
          if C.tab && C.calm && (f == Gx.gxNm true || f == Gx.gxNm false) && Gx.gxB C.N C.sc s own && !isSet iter && !isLst iter then
            match cTg n (C.gxin s) tg, cIt n C tg iter, cE n (C.gxin s) elt, (match ifs with | [] => some Es.nil | [c] => (cE n (C.gxin s) c).map fun c => Es.cons c .nil | _ => none) with
            | some t, some it, some el, some c => if t.slots.all fun i => (own.map (·.2)).contains i then some (.gx (f == Gx.gxNm true) el t it c (own.map (·.2))) else none
            | _, _, _, _ => none
          else none
        | _ => none)
      else match cBi f es.length, cEs (cE n C) es with
        | some b, some as => if (b.hot && !C.calm) || es.isEmpty then none else some (.bi b as)
        | _, _ => none) else none
def cIt : Nat → Cc → Expr → Expr → Option It
  | 0, _, _, _ => none
  | n + 1, C, tg, e => match e with
    | .Call (.Name f _) es [] _ => if C.glob f && plainName f && C.blt.contains f && (posOf C.fns f).isNone then
        (if f = "range" then (match es with
          | [a] => if notStar a then (cE n C a).map .rng1 else none
          | [a, b] => if notStar a && notStar b then (match cE n C a, cE n C b with
            | some a, some b => some (.rng2 a b)
            | _, _ => none) else none
          | _ => none)
        else if f = "enumerate" then (match enumArg tg es with
          | some a => if notStar a then (cE n C a).map .enum else none
          | none => none)
        else (cE n C e).map .of)
      else (cE n C e).map .of
    | _ => (cE n C e).map .of
end

def starry : Expr → Bool
  | .Starred .. => true
  | _ => false
def swN (sc : Scope) (line : Nat) : Expr → Option Str
  | .Name id pos => if (sc.names.lookup id == some .local && pos.line == line) = true then some id else none
  | _ => none
/-- the names that a store swaps; none: not served -/
def swapT (ts vs : List Expr) (sc : Scope) : Option (Option (List Str)) :=
  if (!(ts.length == 2 || ts.length == 3) || vs.length != ts.length || ScopeKind.function != ScopeKind.function) = true then some none
  else if vs.any starry = true then some none
  else if ((ts.filterMap (swN sc ((ts.head?.map (·.pos.line)).getD 0))).length != ts.length || (ts.filterMap (swN sc ((ts.head?.map (·.pos.line)).getD 0))).eraseDups.length != (ts.filterMap (swN sc ((ts.head?.map (·.pos.line)).getD 0))).length) = true then some none
  else if vs.all (foldedForSure 8) = true then some none
  else if vs.all (constantsAlone 8) = true then none
  else some (some (ts.filterMap (swN sc ((ts.head?.map (·.pos.line)).getD 0))))
theorem swapT_ok {ts vs : List Expr} {env : PySem.Env} {a c : Nat} {b d : Pos} {r : Option (List Str)} (hk : env.scope.kind = .function) (h : swapT ts vs env.scope = some r) : swappedStores [.Tuple ts a b] (.Tuple vs c d) env = pure r := by
  have hb : env.blockKind = .function := by unfold Env.blockKind; rw [hk]; rfl
  have e : swappedStores [.Tuple ts a b] (.Tuple vs c d) env = (if (!(ts.length == 2 || ts.length == 3) || vs.length != ts.length || env.blockKind != ScopeKind.function) = true then pure none
      else if vs.any starry = true then pure none
      else if ((ts.filterMap (swN env.scope ((ts.head?.map (·.pos.line)).getD 0))).length != ts.length || (ts.filterMap (swN env.scope ((ts.head?.map (·.pos.line)).getD 0))).eraseDups.length != (ts.filterMap (swN env.scope ((ts.head?.map (·.pos.line)).getD 0))).length) = true then pure none
      else if vs.all (foldedForSure 8) = true then pure none
      else if vs.all (constantsAlone 8) = true then (do unsupported "assign.tuple-of-constant-expressions:order-of-the-stores"; pure (some (ts.filterMap (swN env.scope ((ts.head?.map (·.pos.line)).getD 0)))))
      else pure (some (ts.filterMap (swN env.scope ((ts.head?.map (·.pos.line)).getD 0))))) := by
    unfold swappedStores
    rfl
  rw [e, hb]
  unfold swapT at h
  split at h
  · rename_i c; cases h; exact if_pos c
  · rename_i c
    rw [if_neg c]
    split at h
    · rename_i c; cases h; exact if_pos c
    · rename_i c
      rw [if_neg c]
      split at h
      · rename_i c; cases h; exact if_pos c
      · rename_i c
        rw [if_neg c]
        split at h
        · rename_i c; cases h; exact if_pos c
        · rename_i c
          rw [if_neg c]
          split at h
          · cases h
          · rename_i c; cases h; exact if_neg c
def isTuple : Expr → Bool
  | .Tuple .. => true
  | _ => false
theorem noswap {t v : Expr} {env : PySem.Env} (h : isTuple v = false) : swappedStores [t] v env = pure none := by
  cases v <;> first | (cases h; done) | (cases t <;> rfl)
end Ev
end
section
set_option maxRecDepth 100000
set_option maxHeartbeats 2000000
namespace Ev
open PySem PySem.Spec L2

structure XOk (Γ : Glob) (P : Par) (C : Cc) (X : Cx) : Prop where
  K : X.K = Γ.K
  sc : X.env.scope = C.sc
  N : X.N = C.N
  nd : X.N.Nodup
  fn : ∀ x, (match C.blk with | none => true | some s => s.names.lookup x == some .cell) = true → X.fn x = true
  calm : C.calm = true → X.calm = true
  un : X.A.units + 65 + 11 * C.tab.toNat < cLine
  fns : C.calm = true → ∀ (i : Nat) (x : Str), C.fns[i]? = some x → ∃ k, FnAt Γ X P.F k i x ∧ Room (k + C.tab.toNat) X.A
  tab : C.tab = true → C.calm = true → Room 1 X.A ∧ ∃ c Pt, X.env.code = .ref c ∧ GxR.TabB X.base X.mg c Pt ∧ Pt ∈ Γ.tabs
  gl : ∀ (x : Str) (d : D), C.gl.lookup x = some d → ∃ v u, X.mg x = some u ∧ RelV v u ∧ ∀ O H, Rep Γ O H v d
  blt : ∀ x, C.blt.contains x = true → X.mg x = none
  exc : ∀ (i : Nat) (x : Str), C.excs[i]? = some x → ExcAt Γ X x i
  exm : ExmOk Γ X.K P.exm
  stk : C.blk = none → X.stack = X.env :: X.outer ∧ X.env.frame = some X.env.locals ∧ X.env.scope.kind = .function

section
variable {Γ : Glob} {P : Par} {C : Cc} {X : Cx} {i : Nat} {x : Str}
theorem plain_ok (h : plainName x = true) : (x == ("__debug__" : Str)) = false ∧ (x == ("__classdict__" : Str)) = false ∧ x ≠ "__name__" := by
  unfold plainName at h
  simp only [Bool.and_eq_true, Bool.not_eq_true'] at h
  exact ⟨h.1.1, h.1.2, fun z => by have := h.2; rw [z] at this; simp at this⟩
theorem glob_ok (hX : XOk Γ P C X) (h : C.glob x = true) : Gl X x := by
  unfold Cc.glob at h
  show X.env.scope.names.lookup x = _
  rw [hX.sc]
  split at h
  · assumption
  · cases h
theorem slot_ok (hX : XOk Γ P C X) (h : C.slot x = some i) : X.N[i]? = some x ∧ Vis X.env.scope x ∧ plainName x = true := by
  unfold Cc.slot at h
  split at h
  · rename_i c
    rw [Bool.and_eq_true] at c
    refine ⟨by rw [hX.N]; exact posOf_get h, ?_, c.2⟩
    have v := c.1
    unfold Cc.vis at v
    unfold Vis
    rw [hX.sc]
    split at v
    · exact .inl (by assumption)
    · exact .inr (.inl (by assumption))
    · exact .inr (.inr (by assumption))
    · cases v
  · cases h
theorem dest_ok (hX : XOk Γ P C X) (h : C.dest x = some i) : X.N[i]? = some x ∧ L2.Loc X.env.scope x ∧ plainName x = true ∧ (X.fn x = true ∨ X.env.scope.names.lookup x = some .local) ∧ i ∉ C.fx := by
  unfold Cc.dest at h
  split at h
  · rename_i c
    rw [Bool.and_eq_true, Bool.and_eq_true] at c
    obtain ⟨⟨c1, c2⟩, c3⟩ := c
    split at h
    · rename_i j hj
      split at h
      · cases h
      · rename_i nf
        cases h
        refine ⟨by rw [hX.N]; exact posOf_get hj, ?_, c2, ?_, fun z => nf (by simpa using z)⟩
        · unfold Cc.loc at c1
          unfold L2.Loc
          rw [hX.sc]
          split at c1
          · exact .inl (by assumption)
          · exact .inr (by assumption)
          · cases c1
        · rw [hX.sc]
          unfold Cc.may at c3
          have hfn := hX.fn x
          split at c3
          · rename_i hb
            rw [hb] at hfn
            exact .inl (hfn rfl)
          · rename_i s hb
            rw [hb] at hfn
            rw [Bool.or_eq_true] at c3
            rcases c3 with c3 | c3
            · exact .inl (hfn c3)
            · exact .inr (by simpa using c3)
    · cases h
  · cases h
theorem inner_ok (hX : XOk Γ P C X) (s : Scope) (sh : Shared) (H : Hp) (Ca : Addr) (cl : List (Str × Addr)) (fp : List Addr) : XOk Γ P (C.inner s) (X.blk sh H s (compEnvC s cl Ca X.env) fp) where
  K := hX.K
  sc := by show relS s X.env.scope = relS s C.sc; rw [hX.sc]
  N := hX.N
  nd := hX.nd
  fn := fun x h => h
  calm := hX.calm
  un := hX.un
  fns := fun h i x e => let ⟨k, f, r⟩ := hX.fns h i x e; ⟨k, ⟨f.ex⟩, r⟩
  blt := hX.blt
  tab := hX.tab
  gl := hX.gl
  exc := fun i x e => ⟨(hX.exc i x e).ex⟩
  exm := hX.exm
  stk := fun h => by cases h
theorem un_ok (hX : XOk Γ P C X) : X.A.units + 65 < cLine := by have := hX.un; omega
theorem gx_ok (hX : XOk Γ P C X) (ht : C.tab = true) (hc : C.calm = true) (s : Scope) (hnc : ∀ y ∈ s.names, y.2 ≠ .cell) {A : Around} (h1 : A.handled = none) (h2 : A.depth = X.A.depth) (h3 : A.units ≤ X.A.units + 8) (sh : Shared) (H : Hp) (Ca : Addr) (code : Value) (fp : List Addr) :
    XOk Γ P (C.gxin s) (Gx.gxCx X A sh H s Ca code fp) where
  K := hX.K
  sc := rfl
  N := hX.N
  nd := hX.nd
  fn := fun x h => by
    have h : (s.names.lookup x == some NameKind.cell) = true := h
    have h : s.names.lookup x = some .cell := by simpa using h
    exact (hnc _ (PySem.mem_of_lookup h) rfl).elim
  calm := fun _ => rfl
  un := by
    have := hX.un
    rw [ht] at this
    have e : (C.gxin s).tab.toNat = 0 := rfl
    have e1 : true.toNat = 1 := rfl
    rw [e1] at this
    show A.units + 3 + 65 + 11 * (C.gxin s).tab.toNat < cLine
    rw [e]
    omega
  fns := fun h i x e => by
    obtain ⟨k, f, r⟩ := hX.fns hc i x e
    refine ⟨k, ⟨f.ex⟩, ?_⟩
    rw [ht] at r
    have e0 : (C.gxin s).tab.toNat = 0 := rfl
    rw [e0]
    have r : Room (k + 1) X.A := r
    refine ⟨h1, ?_, ?_⟩
    · have := r.dp
      show A.depth + 1 + 3 * (k + 0) + 5 < _
      omega
    · have := r.un
      show A.units + 3 + 16 * (k + 0) + 200 < _
      omega
  blt := hX.blt
  tab := fun h => by cases h
  gl := hX.gl
  exc := fun i x e => ⟨(hX.exc i x e).ex⟩
  exm := hX.exm
  stk := fun h => by cases h

/-! ### targets -/
theorem sound_Tgs {n : Nat} (ih : ∀ e t, cTg n C e = some t → QG Γ X e t) : ∀ {es : List Expr} {t : Tg}, cTgs (cTg n C) es = some t → QGs Γ X es t
  | [], t, h => by cases h; exact qgs_nil
  | e :: es, t, h => by
    unfold cTgs at h
    split at h
    · rename_i hst
      split at h
      · rename_i t1 ts h1 h2
        cases h
        exact qgs_cons (ih e t1 h1) (sound_Tgs ih h2) hst
      · cases h
    · cases h
theorem sound_Tg (hX : XOk Γ P C X) : ∀ (n : Nat) (e : Expr) (t : Tg), cTg n C e = some t → QG Γ X e t
  | 0, _, _, h => by cases h
  | n + 1, e, t, h => by
    unfold cTg at h
    split at h
    · rename_i x p
      cases q : C.dest x with
      | none => rw [q] at h; cases h
      | some i =>
        rw [q] at h
        cases h
        obtain ⟨h1, h2, _, h3, _⟩ := dest_ok hX q
        exact qg_nm hX.nd h1 h2 h3
    · rename_i es k p
      split at h
      · rename_i c
        rw [Bool.and_eq_true] at c
        cases q : cTgs (cTg n C) es with
        | none => rw [q] at h; cases h
        | some ts =>
          rw [q] at h
          cases h
          exact qg_tp (sound_Tgs (fun e t => sound_Tg hX n e t) q) (hX.calm c.1) c.2 hX.K
      · cases h
    · cases h
theorem slots_fx (hX : XOk Γ P C X) : ∀ (n : Nat) (e : Expr) (t : Tg), cTg n C e = some t → ∀ i ∈ t.slots, i ∉ C.fx
  | 0, _, _, h => by cases h
  | n + 1, e, t, h => by
    unfold cTg at h
    split at h
    · rename_i x p
      cases q : C.dest x with
      | none => rw [q] at h; cases h
      | some i =>
        rw [q] at h
        cases h
        obtain ⟨_, _, _, _, h3⟩ := dest_ok hX q
        intro j hj
        have : j = i := by simpa [Tg.slots] using hj
        rw [this]
        exact h3
    · rename_i es k p
      split at h
      · cases q : cTgs (cTg n C) es with
        | none => rw [q] at h; cases h
        | some ts =>
          rw [q] at h
          cases h
          have aux : ∀ {es : List Expr} {ts : Tg}, cTgs (cTg n C) es = some ts → ∀ i ∈ ts.slots, i ∉ C.fx := by
            intro es
            induction es with
            | nil => intro ts h i hi; cases h; cases hi
            | cons e es ih =>
              intro ts h i hi
              unfold cTgs at h
              split at h
              · split at h
                · rename_i t1 ts1 h1 h2
                  cases h
                  rcases List.mem_append.mp hi with z | z
                  · exact slots_fx hX n e t1 h1 i z
                  · exact ih h2 i z
                · cases h
              · cases h
          exact fun i hi => aux q i hi
      · cases h
    · cases h

/-! ### expressions -/
theorem map_some {α β : Type} {f : α → β} {o : Option α} {b : β} (h : o.map f = some b) : ∃ a, o = some a ∧ f a = b := by
  cases o with
  | none => cases h
  | some a => cases h; exact ⟨a, rfl, rfl⟩
theorem es_ok {f : Expr → Option E} (ih : ∀ e e', f e = some e' → QE Γ X e (evA P e')) : ∀ {es : List Expr} {as : Es}, cEs f es = some as → QAs Γ X es (evAs P as) ∧ QVs Γ X es (evVs P as) ∧ es.all notStar = true
  | [], _, h => by cases h; exact ⟨q_anil, q_vnil, rfl⟩
  | e :: es, as, h => by
    unfold cEs at h
    split at h
    · rename_i hst
      split at h
      · rename_i a as1 h1 h2
        cases h
        obtain ⟨g1, g2, g3⟩ := es_ok ih h2
        exact ⟨q_acons (ih e a h1) g1 hst, q_vcons (ih e a h1) g2 hst, by rw [List.all_cons, hst, g3]; rfl⟩
      · cases h
    · cases h
theorem opt_ok {f : Expr → Option E} (ih : ∀ e e', f e = some e' → QE Γ X e (evA P e')) {o : Option Expr} {as : Es} (h : cOpt f o = some as) : QO Γ X o (evO P as) := by
  cases o with
  | none => cases h; exact qo_none
  | some e =>
    obtain ⟨a, ha, rfl⟩ := map_some (show (f e).map (fun a => Es.cons a .nil) = some as from h)
    exact qo_some (ih e a ha)
theorem ps_ok {f : Expr → Option E} {pos : Pos} (ih : ∀ e e', f e = some e' → QE Γ X e (evA P e')) : ∀ {ks : List (Option Expr)} {vs : List Expr} {as : Es}, cPs f ks vs = some as → QPs Γ X pos ks vs (evVs P as)
  | [], [], _, h => by cases h; exact qps_nil
  | some k :: ks, v :: vs, as, h => by
    unfold cPs at h
    split at h
    · rename_i a b r h1 h2 h3
      cases h
      exact qps_cons (ih _ _ h1) (ih _ _ h2) (ps_ok ih h3)
    · cases h
  | none :: _, _, _, h => by cases h
  | some _ :: _, [], _, h => by cases h
  | [], _ :: _, _, h => by cases h
structure ESound (Γ : Glob) (P : Par) (n : Nat) : Prop where
  e : ∀ {C : Cc} {X : Cx}, XOk Γ P C X → ∀ e e', cE n C e = some e' → QE Γ X e (evA P e') ∧ QT Γ X e (evT P e')
  c : ∀ {C : Cc} {X : Cx}, XOk Γ P C X → ∀ f es e', cCall n C f es = some e' → C.glob f = true → plainName f = true → (∀ p pos, QE Γ X (.Call (.Name f p) es [] pos) (evA P e')) ∧ evT P e' = tru (evA P e')
  i : ∀ {C : Cc} {X : Cx}, XOk Γ P C X → ∀ tg e it, cIt n C tg e = some it → QI Γ X tg e (evI P it)
theorem nosl_of {i : Expr} (h : isSlice i = false) : NoSl i := by
  intro o k
  cases i <;> first | rfl | cases h
theorem tyIs_ok {t : Str} {b : Bi} (h : tyIs t = some b) : ∃ s, b.ty = [s] ∧ bootBuiltins t = some (.type s) ∧ b.nm = "isinstance" := by
  unfold tyIs at h
  split at h
  · rename_i e; cases h; subst e; exact ⟨"int", rfl, by decide +kernel, rfl⟩
  · split at h
    · rename_i e; cases h; subst e; exact ⟨"bool", rfl, by decide +kernel, rfl⟩
    · split at h
      · rename_i e; cases h; subst e; exact ⟨"tuple", rfl, by decide +kernel, rfl⟩
      · split at h
        · rename_i e; cases h; subst e; exact ⟨"str", rfl, by decide +kernel, rfl⟩
        · split at h
          · rename_i e; cases h; subst e; exact ⟨"list", rfl, by decide +kernel, rfl⟩
          · cases h
theorem biTab_ok : ∀ p ∈ biTab, p.2.2.nm = p.1 ∧ p.2.2.ty = [] := by decide +kernel
theorem cBi_ok {x : Str} {n : Nat} {b : Bi} (h : cBi x n = some b) : b.nm = x ∧ b.ty = [] := by
  obtain ⟨p, hp, rfl⟩ := map_some h
  obtain ⟨h1, h2⟩ := biTab_ok p (List.mem_of_find?_eq_some hp)
  have h3 := List.find?_some hp
  rw [Bool.and_eq_true] at h3
  exact ⟨h1.trans (beq_iff_eq.mp h3.1), h2⟩
theorem cMm_ok {m : Str} {mm : Mm} (h : cMm m = some mm) : m = mm.nm := by
  unfold cMm at h
  repeat' (split at h)
  all_goals first
    | (rename_i e; cases h; subst e; rfl)
    | cases h
theorem bools_ok {f : Expr → Option E} (hK : X.K = Γ.K) (ihe : ∀ e e', f e = some e' → QE Γ X e (evA P e')) (iht : ∀ e e', f e = some e' → QT Γ X e (evT P e')) {op : BoolOp} {p : Pos} : ∀ {vs : List Expr} {e' : E}, cBools f op vs = some e' →
    QE Γ X (.BoolOp op vs p) (evA P e') ∧ QW Γ X (.BoolOp op vs p) (evT P e')
  | [], e', h => by cases h
  | [a], e', h => by
    unfold cBools at h
    cases op with
    | And => exact ⟨q_one (ihe _ _ h), qw_and1 (iht _ _ h)⟩
    | Or => exact ⟨q_one (ihe _ _ h), qw_or1 (iht _ _ h)⟩
  | a :: b :: r, e', h => by
    unfold cBools at h
    split at h
    · rename_i a' b' ha hb
      cases h
      obtain ⟨g1, g2⟩ := bools_ok hK ihe iht (vs := b :: r) (p := p) hb
      cases op with
      | And => exact ⟨q_an (ihe _ _ ha) g1 hK, qw_and (iht _ _ ha) g2⟩
      | Or => exact ⟨q_or (ihe _ _ ha) g1 hK, qw_or (iht _ _ ha) g2⟩
    · cases h
def isPlain : E → Bool
  | .nt _ | .an _ _ | .or _ _ | .ite _ _ _ => false
  | _ => true
theorem evT_plain {e : E} (h : isPlain e = true) : evT P e = tru (evA P e) := by
  cases e <;> first
    | (cases h; done)
    | (funext env; simp only [evT, tru]; all_goals rfl)
theorem qt_plain {ea : Expr} {e : E} (h : isPlain e = true) (q : QE Γ X ea (evA P e)) (hK : X.K = Γ.K) (he : ∀ whole, isTrue ea X.env whole = (do let v ← whole; standAt ea.pos; holding [v] (truthy v))) : QT Γ X ea (evT P e) := by
  rw [evT_plain h]
  exact qt_tru q hK he
theorem both {ea : Expr} {e : E} (q : QE Γ X ea (evA P e)) (h : isPlain e = true) (hK : X.K = Γ.K) (he : ∀ whole, isTrue ea X.env whole = (do let v ← whole; standAt ea.pos; holding [v] (truthy v))) : QE Γ X ea (evA P e) ∧ QT Γ X ea (evT P e) := ⟨q, qt_plain h q hK he⟩
theorem soundE (Γ : Glob) (P : Par) : ∀ n, ESound Γ P n
  | 0 => ⟨fun _ _ _ h => by simp [cE] at h, fun _ _ _ _ h => by simp [cCall] at h, fun _ _ _ _ h => by simp [cIt] at h⟩
  | n + 1 => by
    have ih := soundE Γ P n
    refine ⟨fun {C X} hX e e' h => ?_, fun {C X} hX f es e' h hg hp => ?_, fun {C X} hX tg e it h => ?_⟩
    · have ihe : ∀ e e', cE n C e = some e' → QE Γ X e (evA P e') := fun e e' h => (ih.e hX e e' h).1
      have iht : ∀ e e', cE n C e = some e' → QT Γ X e (evT P e') := fun e e' h => (ih.e hX e e' h).2
      unfold cE at h
      try dsimp only at h
      split at h
      · -- Name
        split at h
        · rename_i i hi
          cases h
          obtain ⟨h1, h2, h3⟩ := slot_ok hX hi
          obtain ⟨d1, d2, _⟩ := plain_ok h3
          exact both (q_var (P := P) h1 h2 d1 d2) rfl hX.K fun _ => rfl
        · split at h
          · rename_i c
            rw [Bool.and_eq_true] at c
            obtain ⟨d, hd, rfl⟩ := map_some h
            obtain ⟨v, u, g1, g2, g3⟩ := hX.gl _ _ hd
            refine both (fun xe W tk => PE.imp (pe_glob (X := X.wish xe) (show Gl X _ from glob_ok hX c.1) g1 g2 (plain_ok c.2).1) fun σ H Q ⟨U, env, r, h⟩ => ?_) rfl hX.K fun _ => rfl
            simp only [evA] at h
            exact h v H (.pure r (g3 _ _))
          · cases h
      · -- Constant
        obtain ⟨d, hd, rfl⟩ := map_some h
        rename_i c k p
        have q : QE Γ X (.Constant c k p) (evA P (.cst d)) := by
          unfold cConst at hd
          split at hd <;> cases hd
          · exact q_non
          · exact q_bl
          · exact q_int
          · exact q_str
        exact ⟨q, qt_plain rfl q hX.K fun _ => rfl⟩
      · -- BinOp
        split at h
        · rename_i o a b ho ha hb
          cases h
          rw [cBo_op ho]
          exact both (q_bin (ihe _ _ ha) (ihe _ _ hb) hX.K) rfl hX.K fun _ => rfl
        · cases h
      · -- USub
        obtain ⟨a, ha, rfl⟩ := map_some h
        exact both (q_neg (ihe _ _ ha)) rfl hX.K fun _ => rfl
      · -- Not
        obtain ⟨a, ha, rfl⟩ := map_some h
        exact ⟨q_nt (ihe _ _ ha) hX.K, qt_nt (iht _ _ ha)⟩
      · -- BoolOp
        obtain ⟨g1, g2⟩ := bools_ok hX.K ihe iht h
        exact ⟨g1, g2.qt⟩
      · -- Compare
        split at h
        · cases h
        · rename_i hs
          split at h
          · rename_i o a b ho ha hb
            cases h
            rw [cCo_op ho]
            have hm := nomarks (op := o.op) (Bool.eq_false_iff.mpr hs)
            exact ⟨q_cmp (ihe _ _ ha) (ihe _ _ hb) hX.K (un_ok hX) hm, by rw [evT_plain rfl]; exact qt_cmp (ihe _ _ ha) (ihe _ _ hb) hX.K (un_ok hX) hm⟩
          · cases h
      · -- chain
        split at h
        · cases h
        · rename_i hs
          split at h
          · rename_i o p a b c ho hp ha hb hc
            cases h
            rw [cCo_op ho, cCo_op hp]
            have hs' := Bool.eq_false_iff.mpr hs
            rw [Bool.or_eq_false_iff] at hs'
            exact ⟨q_chain (ihe _ _ ha) (ihe _ _ hb) (ihe _ _ hc) hX.K (un_ok hX) (nomarks (op := p.op) hs'.2), by rw [evT_plain rfl]; exact qt_chain (ihe _ _ ha) (ihe _ _ hb) (ihe _ _ hc) hX.K (un_ok hX) (nomarks (op := p.op) hs'.2)⟩
          · cases h
      · -- IfExp
        split at h
        · rename_i c a b hc ha hb
          cases h
          exact ⟨q_ite (iht _ _ hc) (ihe _ _ ha) (ihe _ _ hb), qt_ite (iht _ _ hc) (iht _ _ ha) (iht _ _ hb)⟩
        · cases h
      · -- Tuple
        obtain ⟨as, ha, rfl⟩ := map_some h
        exact both (q_tup (es_ok ihe ha).2.1) rfl hX.K fun _ => rfl
      · -- List
        obtain ⟨as, ha, rfl⟩ := map_some h
        exact both (q_lst (es_ok ihe ha).2.1) rfl hX.K fun _ => rfl
      · -- slice
        split at h
        · rename_i a l hh ha hl hhi
          cases h
          exact both (q_slc (ihe _ _ ha) (opt_ok ihe hl) (opt_ok ihe hhi) hX.K) rfl hX.K fun _ => rfl
        · cases h
      · -- index
        split at h
        · cases h
        · rename_i hs
          split at h
          · rename_i a i ha hi
            cases h
            exact both (q_idx (ihe _ _ ha) (ihe _ _ hi) hX.K (un_ok hX) (plainIx_of (Bool.eq_false_iff.mpr hs)) (nosl_of (Bool.eq_false_iff.mpr hs))) rfl hX.K fun _ => rfl
          · cases h
      · -- call
        split at h
        · rename_i c
          rw [Bool.and_eq_true] at c
          obtain ⟨g1, g2⟩ := ih.c hX _ _ _ h c.1 c.2
          refine ⟨g1 _ _, ?_⟩
          rw [g2]
          exact qt_tru (g1 _ _) hX.K fun _ => rfl
        · cases h
      · -- a change at a name
        split at h
        · rename_i i mm as hi hmm has
          split at h
          · rename_i hl
            obtain ⟨h1, h2, h3⟩ := slot_ok hX hi
            obtain ⟨d1, d2, _⟩ := plain_ok h3
            obtain ⟨_, v2, v3⟩ := es_ok ihe has
            rw [cMm_ok hmm]
            split at h
            · cases h
              simp only [List.all_cons, List.all_nil, Bool.and_true] at v3
              exact both (q_mut1 (m := .append) (.inl rfl) h1 h2 d1 d2 v2 v3 hl) rfl hX.K fun _ => rfl
            · cases h
              simp only [List.all_cons, List.all_nil, Bool.and_true] at v3
              exact both (q_mut1 (m := .extend) (.inr rfl) h1 h2 d1 d2 v2 v3 hl) rfl hX.K fun _ => rfl
            · cases h
              exact both (q_pop h1 h2 d1 d2 hl) rfl hX.K fun _ => rfl
            · cases h
          · cases h
        · cases h
      · -- a method of a text
        split at h
        · rename_i c
          rw [Bool.and_eq_true, Bool.and_eq_true] at c
          obtain ⟨⟨c1, c2⟩, c3⟩ := c
          split at h
          · rename_i o a ho ha
            cases h
            have e1 := beq_iff_eq.mp c1
            subst e1
            exact both (q_join (ihe _ _ ho) (ihe _ _ ha) hX.K c2 rfl c3) rfl hX.K fun _ => rfl
          · cases h
        · cases h
      · -- a dict
        split at h
        · cases h
        · rename_i hne
          split at h
          · rename_i c
            simp only [Bool.and_eq_true, decide_eq_true_eq, beq_iff_eq] at c
            obtain ⟨as, ha, rfl⟩ := map_some h
            exact both (q_dsp (ps_ok ihe ha) c.1.1 c.1.2 (fun z => hne (by rw [z]; rfl)) c.2) rfl hX.K fun _ => rfl
          · cases h
      · -- a comprehension
        rename_i elt tg iter ifs s p
        try dsimp only at h
        split at h
        · rename_i c
          rw [Bool.and_eq_true, Bool.and_eq_true] at c
          obtain ⟨⟨c1, c2⟩, c3⟩ := c
          split at h
          · rename_i t it el cc ht hit hel hcc
            split at h
            · rename_i hsl
              cases h
              have bok : BlkOk X.N X.env.scope s (ownOf C.N s.names) := by
                rw [hX.N, hX.sc]
                exact blkOk_by c2
              have q : QE Γ X (.ListComp elt [⟨tg, iter, ifs, 0⟩] s p) _ := q_lc (P := P) (c := cc) (hX.calm c1) hX.nd (ih.i hX _ _ _ hit) bok
                (fun sh H Ca cl fp => sound_Tg (inner_ok hX s sh H Ca cl fp) n _ _ ht)
                (fun sh H Ca cl fp => by
                  split at hcc
                  · cases hcc; exact qc_nil
                  · obtain ⟨a, ha, rfl⟩ := map_some hcc
                    exact qc_one (ih.e (inner_ok hX s sh H Ca cl fp) _ _ ha).2
                  · cases hcc)
                (fun sh H Ca cl fp => (ih.e (inner_ok hX s sh H Ca cl fp) _ _ hel).1) (nofold (by simpa using c3)) (fun i hi => by
                  rw [List.all_eq_true] at hsl
                  simpa using hsl i hi)
              exact ⟨q, qt_plain rfl q hX.K fun _ => rfl⟩
            · cases h
          · cases h
        · cases h
      · cases h
    · have ihe : ∀ e e', cE n C e = some e' → QE Γ X e (evA P e') := fun e e' h => (ih.e hX e e' h).1
      have hgl := glob_ok hX hg
      obtain ⟨d1, d2, d3⟩ := plain_ok hp
      unfold cCall at h
      try dsimp only at h
      split at h
      · rename_i i hi
        split at h
        · rename_i hc
          obtain ⟨as, has, rfl⟩ := map_some h
          obtain ⟨k, hf, hr⟩ := hX.fns hc i f (posOf_get hi)
          have hr := hr.mono (Nat.le_add_right k _)
          obtain ⟨a1, _, a3⟩ := es_ok ihe has
          refine ⟨fun p pos => ?_, evT_plain rfl⟩
          cases es with
          | nil => cases has; exact q_call0 hf hr hgl d1
          | cons e es => exact q_call hf hr hgl d1 a1 a3
        · cases h
      · split at h
        · rename_i hb
          have hm := hX.blt f hb
          split at h
          · rename_i hf
            subst hf
            split at h
            · rename_i e t pt
              split at h
              · rename_i c
                simp only [Bool.and_eq_true] at c
                obtain ⟨⟨⟨c1, c2⟩, c3⟩, c4⟩ := c
                split at h
                · rename_i a b ha hb'
                  cases h
                  obtain ⟨ty, t1, t2, t3⟩ := tyIs_ok hb'
                  obtain ⟨e1, _, e3⟩ := plain_ok c2
                  refine ⟨fun p pos => ?_, evT_plain rfl⟩
                  have q := q_isi (P := P) (p1 := p) (p2 := pt) (pos := pos) (ihe _ _ ha) hX.K t1 (by rw [t3]; exact hgl) (by rw [t3]; exact hm) c4 (glob_ok hX c1) (hX.blt t c3) t2 e3 e1
                  rw [t3] at q
                  exact q
                · cases h
              · cases h
            · cases h
          · split at h
            · -- a generator expression
              split at h
              · rename_i elt tg iter ifs s pg hh
                try dsimp only at h
                split at h
                · rename_i c
                  simp only [Bool.and_eq_true, Bool.not_eq_true'] at c
                  obtain ⟨⟨⟨⟨⟨c1, c2⟩, c3⟩, c4⟩, c5⟩, c6⟩ := c
                  split at h
                  · rename_i t it el cc ht hit hel hcc
                    split at h
                    · rename_i hsl
                      cases h
                      have S : Gx.GxS X.N X.env.scope s (ownOf C.N s.names) := by
                        rw [hX.N, hX.sc]
                        exact Gx.gxS_by c4
                      obtain ⟨hr, cA, Pt, t1, t2, t3⟩ := hX.tab c1 c2
                      have hnm : f = Gx.gxNm (f == Gx.gxNm true) := by
                        cases q : (f == Gx.gxNm true) with
                        | true => simpa using q
                        | false =>
                          rw [q] at c3
                          simpa using c3
                      generalize (f == Gx.gxNm true) = isAll at hnm ⊢
                      subst hnm
                      refine ⟨fun p pos => ?_, evT_plain rfl⟩
                      exact q_gx (P := P) (c := cc) hr (hX.calm c2) hX.nd hgl hm t3 t2 t1 S (ih.i hX _ _ _ hit)
                        (fun A sh H Ca code fp a1 a2 a3 => sound_Tg (gx_ok hX c1 c2 s S.nocell a1 a2 a3 sh H Ca code fp) n _ _ ht)
                        (fun A sh H Ca code fp a1 a2 a3 => by
                          split at hcc
                          · cases hcc; exact qc_nil
                          · obtain ⟨a, ha, rfl⟩ := map_some hcc
                            exact qc_one (ih.e (gx_ok hX c1 c2 s S.nocell a1 a2 a3 sh H Ca code fp) _ _ ha).2
                          · cases hcc)
                        (fun A sh H Ca code fp a1 a2 a3 => (ih.e (gx_ok hX c1 c2 s S.nocell a1 a2 a3 sh H Ca code fp) _ _ hel).1) (nogenfold c5 c6) (fun i hi => by
                          rw [List.all_eq_true] at hsl
                          simpa using hsl i hi)
                    · cases h
                  · cases h
                · cases h
              · cases h
            · split at h
              · rename_i b as hcb has
                split at h
                · cases h
                · rename_i hne
                  cases h
                  simp only [Bool.or_eq_true, Bool.and_eq_true, Bool.not_eq_true', not_or, not_and] at hne
                  obtain ⟨b1, b2⟩ := cBi_ok hcb
                  obtain ⟨a1, _, a3⟩ := es_ok ihe has
                  refine ⟨fun p pos => ?_, evT_plain rfl⟩
                  cases es with
                  | nil => exact (hne.2 rfl).elim
                  | cons e es =>
                    have q := q_bi (P := P) (p1 := p) (pos := pos) (f := b) a1 hX.K (fun hot => hX.calm (by have := hne.1 hot; simpa using this)) b2 (by rw [b1]; exact hgl) (by rw [b1]; exact hm) a3
                    rw [b1] at q
                    exact q
              · cases h
        · cases h
    · have ihe : ∀ e e', cE n C e = some e' → QE Γ X e (evA P e') := fun e e' h => (ih.e hX e e' h).1
      have dflt : ∀ {e : Expr} {it : It}, (cE n C e).map It.of = some it → QI Γ X tg e (evI P it) := fun {e it} h => by
        obtain ⟨a, ha, rfl⟩ := map_some h
        exact q_of (ihe _ _ ha) hX.K
      unfold cIt at h
      try dsimp only at h
      split at h
      · rename_i f pf es pos
        split at h
        · rename_i c
          simp only [Bool.and_eq_true] at c
          obtain ⟨⟨⟨c1, c2⟩, c3⟩, c4⟩ := c
          split at h
          · rename_i hf
            subst hf
            have hgl := glob_ok hX c1
            have hm := hX.blt _ c3
            split at h
            · split at h
              · rename_i hst
                obtain ⟨a, ha, rfl⟩ := map_some h
                exact q_rng1 (ihe _ _ ha) hgl hm hst
              · cases h
            · split at h
              · rename_i hst
                rw [Bool.and_eq_true] at hst
                split at h
                · rename_i a b ha hb
                  cases h
                  exact q_rng2 (ihe _ _ ha) (ihe _ _ hb) hgl hm hst.1 hst.2
                · cases h
              · cases h
            · cases h
          · split at h
            · rename_i hf
              subst hf
              split at h
              · rename_i a0 hea
                obtain ⟨⟨elts, k, p, rfl⟩, rfl⟩ := enumArg_ok hea
                split at h
                · rename_i hst
                  obtain ⟨a, ha, rfl⟩ := map_some h
                  exact q_enum (ihe _ _ ha) (glob_ok hX c1) (hX.blt _ c3) hst hX.K
                · cases h
              · cases h
            · exact dflt h
        · exact dflt h
      · exact dflt h
end
end Ev
end
section
set_option maxRecDepth 100000
set_option maxHeartbeats 2000000
namespace Ev
open PySem PySem.Spec L2

def swLc (C : Cc) (x : Str) (p : Pos) (s : Scope) (q : Pos) : Bool := C.islocal x && p.line == q.line && !(s.names.any fun (n, k) => n == x && (k == .local || k == .cell))
def isLcOf (e : Expr) : Option (Scope × Pos) := match e with
  | .ListComp _ _ s q => some (s, q)
  | _ => none
/-- a store -/
def cAsg (n : Nat) (C : Cc) (t e : Expr) : Option S :=
  match t with
  | .Name x p => match C.dest x with
    | none => none
    | some i => match e with
      | .ListComp elt gs s q => if swLc C x p s q then (match gs with
          | [⟨tg, iter, ifs, 0⟩] =>
            let own := ownOf C.N s.names
            if C.calm && blkC C.N C.sc s own && !isSet iter then
              match cTg n (C.inner s) tg, cIt n C tg iter, cE n (C.inner s) elt, (match ifs with | [] => some Es.nil | [c] => (cE n (C.inner s) c).map fun c => Es.cons c .nil | _ => none) with
              | some t, some it, some el, some c => if t.slots.all fun i => (own.map (·.2)).contains i then some (.asg (.nm i) (.lc el t it c (own.map (·.2)))) else none
              | _, _, _, _ => none
            else none
          | _ => none) else (cE n C e).map fun a => .asg (.nm i) a
      | _ => if isComp e then none else (cE n C e).map fun a => .asg (.nm i) a
  | .Tuple ts _ _ => match e with
    | .Tuple vs _ _ => match swapT ts vs C.sc with
      | some none => match cTg n C t, cE n C e with
        | some t, some a => some (.asg t a)
        | _, _ => none
      | some (some ns) => if C.calm then (match ts, vs with
        | [.Name x _, .Name y _], [a, b] => if notStar a && notStar b && ns == [x, y] && C.islocal x && C.islocal y then (match C.dest x, C.dest y, cE n C a, cE n C b with
          | some i, some j, some a, some b => if i == j then none else some (.par i j a b)
          | _, _, _, _ => none) else none
        | [.Name x _, .Name y _, .Name z _], [a, b, c] => if notStar a && notStar b && notStar c && ns == [x, y, z] && C.islocal x && C.islocal y && C.islocal z then (match C.dest x, C.dest y, C.dest z, cE n C a, cE n C b, cE n C c with
          | some i, some j, some k, some a, some b, some c => if i == j || i == k || j == k then none else some (.par3 i j k a b c)
          | _, _, _, _, _, _ => none) else none
        | _, _ => none) else none
      | none => none
    | _ => match cTg n C t, cE n C e with
      | some t, some a => some (.asg t a)
      | _, _ => none
  | .Subscript (.Name x _) ix _ => if isSlice ix then none else match C.slot x, cE n C e, cE n C ix with
    | some i, some a, some b => some (.setI i b a)
    | _, _, _ => none
  | _ => none
def cSsOf (f : Stmt → Option S) : List Stmt → Option Ss
  | [] => some .nil
  | s :: r => match f s, cSsOf f r with
    | some a, some b => some (.cons a b)
    | _, _ => none
def isDoc : Expr → Bool
  | .Constant (.str _) _ _ => true
  | _ => false
def cS : Nat → Cc → Stmt → Option S
  | 0, _, _ => none
  | n + 1, C, s => match s with
    | .Pass _ => some .pass
    | .Break _ => some .brk
    | .Continue _ => some .cont
    | .Expr e _ => if isDoc e then some .pass else if isComp e then none else (cE n C e).map .expr
    | .Return none _ => some .retN
    | .Return (some e) _ => (cE n C e).map .ret
    | .If c a b _ => match cE n C c, cSsOf (cS n C) a, cSsOf (cS n C) b with
      | some c, some a, some b => some (.iff c a b)
      | _, _, _ => none
    | .While c b [] _ => match cE n C c, cSsOf (cS n C) b with
      | some c, some b => some (.whl c b)
      | _, _ => none
    | .For tg it b [] _ => if C.calm && !isSet it then (match cTg n C tg, cIt n C tg it, cSsOf (cS n C) b with
      | some t, some i, some b => some (.forr t i b)
      | _, _, _ => none) else none
    | .Assign [t] e _ => cAsg n C t e
    | .AugAssign (.Name x _) o e _ => match C.dest x, cBo o, cE n C e with
      | some i, some o, some a => some (.aug i o a)
      | _, _, _ => none
    | .Raise (some (.Call (.Name x _) [] [] _)) none _ => if C.calm && C.glob x && plainName x then (posOf C.excs x).map fun i => .raise i .nil else none
    | .Try b [.ExceptHandler (some (.Name x _)) none (h0 :: h) _] [] [] _ => if C.glob x && plainName x then (match posOf C.excs x, cSsOf (cS n C) b, cSsOf (cS n { C with calm := false }) (h0 :: h) with
      | some c, some b, some h => some (.tryE b c none h)
      | _, _, _ => none) else none
    | _ => none

section
variable {Γ : Glob} {P : Par} {C : Cc} {X : Cx} {i : Nat} {x : Str}
theorem pn_ok (hX : XOk Γ P C X) (pn : List (Addr × Obj)) : XOk Γ P C { X with pn := pn } where
  K := hX.K
  sc := hX.sc
  N := hX.N
  nd := hX.nd
  fn := hX.fn
  calm := hX.calm
  un := hX.un
  fns := fun h i x e => let ⟨k, f, r⟩ := hX.fns h i x e; ⟨k, ⟨f.ex⟩, r⟩
  blt := hX.blt
  tab := hX.tab
  gl := hX.gl
  exc := fun i x e => ⟨(hX.exc i x e).ex⟩
  exm := hX.exm
  stk := hX.stk
theorem suite_ok (hX : XOk Γ P C X) (a : Addr) (pn : List (Addr × Obj)) : XOk Γ P { C with calm := false } (X.suite a pn) where
  K := hX.K
  sc := hX.sc
  N := hX.N
  nd := hX.nd
  fn := hX.fn
  calm := fun h => by cases h
  un := hX.un
  fns := fun h => by cases h
  blt := hX.blt
  tab := fun _ h => by cases h
  gl := hX.gl
  exc := fun i x e => ⟨(hX.exc i x e).ex⟩
  exm := hX.exm
  stk := hX.stk
theorem islocal_ok (hX : XOk Γ P C X) (h : C.islocal x = true) : X.env.scope.names.lookup x = some .local := by
  unfold Cc.islocal at h
  rw [hX.sc]
  split at h
  · assumption
  · cases h
theorem not_fx (hX : XOk Γ P C X) (h : C.dest x = some i) : i ∉ C.fx := (dest_ok hX h).2.2.2.2
theorem sw_lc {elt : Expr} {gs : List Comprehension} {s : Scope} {p q : Pos} {l : Nat} (hX : XOk Γ P C X) (hb : C.blk = none) : swapsWith (.ListComp elt gs s q) (some (.Name x p)) l X.env = pure (swLc C x p s q) := by
  have hk := (hX.stk hb).2.2
  have hbk : X.env.blockKind = .function := by unfold Env.blockKind; rw [hk]; rfl
  have e1 : (X.env.kindOf x == some NameKind.local) = C.islocal x := by
    show (X.env.scope.names.lookup x == some NameKind.local) = C.islocal x
    unfold Cc.islocal
    rw [hX.sc]
    split
    · rename_i e; rw [e]; rfl
    · rename_i e
      cases q : C.sc.names.lookup x with
      | none => rfl
      | some k => cases k <;> first | rfl | (exact (e q).elim)
  unfold swapsWith swLc
  simp only [hbk, e1, Expr.pos]
  rfl
theorem sound_asg (hX : XOk Γ P C X) (hb : C.blk = none) {n : Nat} {t e : Expr} {pos : Pos} {s : S} (h : cAsg n C t e = some s) : QS Γ C.fx X (.Assign [t] e pos) (evS P s) := by
  have ih := soundE Γ P n
  have ihe : ∀ e e', cE n C e = some e' → QE Γ X e (evA P e') := fun e e' h => (ih.e hX e e' h).1
  obtain ⟨hs1, hs2, hk⟩ := hX.stk hb
  unfold cAsg at h
  split at h
  · rename_i x p
    split at h
    · cases h
    · rename_i i hi
      obtain ⟨d1, d2, _, d3, d4⟩ := dest_ok hX hi
      split at h
      · rename_i elt gs s q
        split at h
        · rename_i hsw
          have hlocal : C.islocal x = true := by
            unfold swLc at hsw
            simp only [Bool.and_eq_true] at hsw
            exact hsw.1.1
          split at h
          · rename_i tg iter ifs
            try dsimp only at h
            split at h
            · rename_i c
              rw [Bool.and_eq_true, Bool.and_eq_true] at c
              obtain ⟨⟨c1, c2⟩, c3⟩ := c
              split at h
              · rename_i t it el cc ht hit hel hcc
                split at h
                · rename_i hsl
                  cases h
                  have bok : BlkOk X.N X.env.scope s (ownOf C.N s.names) := by
                    rw [hX.N, hX.sc]
                    exact blkOk_by c2
                  exact qs_setLc (P := P) (c := cc) (hX.calm c1) hX.nd d1 (islocal_ok hX hlocal) (by rw [sw_lc hX hb, hsw]) (ih.i hX _ _ _ hit) bok
                    (fun sh H Ca cl fp => sound_Tg (inner_ok hX s sh H Ca cl fp) n _ _ ht)
                    (fun sh H Ca cl fp => by
                      split at hcc
                      · cases hcc; exact qc_nil
                      · obtain ⟨a, ha, rfl⟩ := map_some hcc
                        exact qc_one (ih.e (inner_ok hX s sh H Ca cl fp) _ _ ha).2
                      · cases hcc)
                    (fun sh H Ca cl fp => (ih.e (inner_ok hX s sh H Ca cl fp) _ _ hel).1) (nofold (by simpa using c3)) (fun i hi => by
                      rw [List.all_eq_true] at hsl
                      simpa using hsl i hi) d4
                · cases h
              · cases h
            · cases h
          · cases h
        · rename_i hsw
          obtain ⟨a, ha, rfl⟩ := map_some h
          exact qs_set hX.nd d1 d2 d3 (ihe _ _ ha) (by rw [sw_lc hX hb, Bool.eq_false_iff.mpr hsw]) d4
      · split at h
        · cases h
        · rename_i hcomp
          obtain ⟨a, ha, rfl⟩ := map_some h
          exact qs_set hX.nd d1 d2 d3 (ihe _ _ ha) (swaps_no (Bool.eq_false_iff.mpr hcomp)) d4
  · rename_i ts kt pt
    have fxd : ∀ {t : Tg}, cTg n C (.Tuple ts kt pt) = some t → (∀ i ∈ C.fx, i ∉ t.slots) := fun {t} ht i hi hs => slots_fx hX n _ _ ht i hs hi
    have nnm : ∀ {t : Tg}, cTg n C (.Tuple ts kt pt) = some t → ∀ i, t ≠ .nm i := fun {t} ht i e => by
      cases n with
      | zero => cases ht
      | succ n =>
        unfold cTg at ht
        dsimp only at ht
        split at ht
        · obtain ⟨a, _, rfl⟩ := map_some ht
          cases e
        · cases ht
    split at h
    · rename_i vs kv pv
      split at h
      · rename_i hsw
        split at h
        · rename_i t a ht ha
          cases h
          exact qs_asg (sound_Tg hX n _ _ ht) (ihe _ _ ha) rfl (swapT_ok hk (by rw [hX.sc]; exact hsw)) rfl (nnm ht) (fxd ht)
        · cases h
      · rename_i ns hsw
        have hsw' : ∀ {a c : Nat} {b d : Pos}, swappedStores [.Tuple ts a b] (.Tuple vs c d) X.env = pure (some ns) := fun {a c b d} => swapT_ok hk (by rw [hX.sc]; exact hsw)
        split at h
        · rename_i hcalm
          split at h
          · rename_i x p1 y p2 a b
            split at h
            · rename_i c
              simp only [Bool.and_eq_true] at c
              obtain ⟨⟨⟨⟨c1, c2⟩, c3⟩, c4⟩, c5⟩ := c
              split at h
              · rename_i i j a' b' hi hj ha hb'
                split at h
                · cases h
                · rename_i hij
                  cases h
                  have hns : ns = [x, y] := by simpa using c3
                  subst hns
                  exact qs_par (hX.calm hcalm) hX.nd (dest_ok hX hi).1 (dest_ok hX hj).1 (by simpa using hij) (islocal_ok hX c4) (islocal_ok hX c5) (ihe _ _ ha) (ihe _ _ hb') (by simp [c1, c2]) hsw' (not_fx hX hi) (not_fx hX hj)
              · cases h
            · cases h
          · rename_i x p1 y p2 z p3 a b c
            split at h
            · rename_i c
              simp only [Bool.and_eq_true] at c
              obtain ⟨⟨⟨⟨⟨⟨c1, c2⟩, c2'⟩, c3⟩, c4⟩, c5⟩, c6⟩ := c
              split at h
              · rename_i i j k a' b' c' hi hj hk' ha hb' hc'
                split at h
                · cases h
                · rename_i hij
                  cases h
                  have hns : ns = [x, y, z] := by simpa using c3
                  subst hns
                  simp only [Bool.or_eq_true, beq_iff_eq, not_or] at hij
                  exact qs_par3 (hX.calm hcalm) hX.nd (dest_ok hX hi).1 (dest_ok hX hj).1 (dest_ok hX hk').1 hij.1.1 hij.1.2 hij.2 (islocal_ok hX c4) (islocal_ok hX c5) (islocal_ok hX c6) (ihe _ _ ha) (ihe _ _ hb') (ihe _ _ hc') (by simp [c1, c2, c2']) hsw' (not_fx hX hi) (not_fx hX hj) (not_fx hX hk')
              · cases h
            · cases h
          · cases h
        · cases h
      · cases h
    · rename_i hnt
      split at h
      · rename_i t a ht ha
        cases h
        have hne : isTuple e = false := by
          cases e <;> first | rfl | (exact (hnt _ _ _ rfl).elim)
        exact qs_asg (sound_Tg hX n _ _ ht) (ihe _ _ ha) (by cases e <;> rfl) (noswap hne) rfl (nnm ht) (fxd ht)
      · cases h
  · rename_i x p1 ix p2
    split at h
    · cases h
    · rename_i hsl
      split at h
      · rename_i i a b hi ha hb'
        cases h
        obtain ⟨h1, h2, h3⟩ := slot_ok hX hi
        obtain ⟨d1, d2, _⟩ := plain_ok h3
        exact qs_setI h1 h2 d1 d2 (ihe _ _ ha) (ihe _ _ hb') (Bool.eq_false_iff.mpr hsl)
      · cases h
  · cases h
theorem rows_ok {f : Stmt → Option S} (ih : ∀ s s', f s = some s' → QS Γ C.fx X s (evS P s')) : ∀ {ss : List Stmt} {r : Ss}, cSsOf f ss = some r → QSs Γ C.fx X ss (evSs P r)
  | [], r, h => by cases h; exact qs_nil
  | s :: ss, r, h => by
    unfold cSsOf at h
    split at h
    · rename_i a b ha hb
      cases h
      exact qs_cons (ih s a ha) (rows_ok ih hb)
    · cases h
theorem soundS (Γ : Glob) (P : Par) : ∀ (n : Nat) {C : Cc} {X : Cx}, XOk Γ P C X → C.blk = none → ∀ s s', cS n C s = some s' → QS Γ C.fx X s (evS P s')
  | 0, C, X, hX, hb, s, s', h => by cases h
  | n + 1, C, X, hX, hb, s, s', h => by
    have ih := soundE Γ P n
    have ihe : ∀ e e', cE n C e = some e' → QE Γ X e (evA P e') := fun e e' h => (ih.e hX e e' h).1
    have iht : ∀ e e', cE n C e = some e' → QT Γ X e (evT P e') := fun e e' h => (ih.e hX e e' h).2
    have ihs : ∀ {ss r}, cSsOf (cS n C) ss = some r → QSs Γ C.fx X ss (evSs P r) := fun h => rows_ok (fun s s' h => soundS Γ P n hX hb s s' h) h
    unfold cS at h
    try dsimp only at h
    split at h
    · cases h; exact qs_pass
    · cases h; exact qs_brk
    · cases h; exact qs_cont
    · rename_i e p
      split at h
      · rename_i hd
        cases h
        unfold isDoc at hd
        split at hd
        · exact qs_doc
        · cases hd
      · split at h
        · cases h
        · rename_i hc
          obtain ⟨a, ha, rfl⟩ := map_some h
          exact qs_expr (ihe _ _ ha) (Bool.eq_false_iff.mpr hc)
    · cases h; exact qs_retN
    · obtain ⟨a, ha, rfl⟩ := map_some h
      exact qs_ret (ihe _ _ ha)
    · split at h
      · rename_i c a b hc ha hb'
        cases h
        exact qs_iff (iht _ _ hc) (ihs ha) (ihs hb')
      · cases h
    · split at h
      · rename_i c b hc hb'
        cases h
        exact qs_whl (iht _ _ hc) (ihs hb')
      · cases h
    · split at h
      · rename_i c
        rw [Bool.and_eq_true] at c
        split at h
        · rename_i t i b ht hi hb'
          cases h
          exact qs_forr (hX.calm c.1) (sound_Tg hX n _ _ ht) (ih.i hX _ _ _ hi) (ihs hb') (nofold (by simpa using c.2)) fun i hi hs => slots_fx hX n _ _ ht i hs hi
        · cases h
      · cases h
    · exact sound_asg hX hb h
    · split at h
      · rename_i i o a hi ho ha
        cases h
        obtain ⟨d1, d2, _, d3, d4⟩ := dest_ok hX hi
        rw [cBo_op ho]
        exact qs_aug hX.nd d1 d2 d3 (ihe _ _ ha) d4
      · cases h
    · split at h
      · rename_i c
        simp only [Bool.and_eq_true] at c
        obtain ⟨i, hi, rfl⟩ := map_some h
        exact qs_raise0 (hX.calm c.1.1) (hX.exc _ _ (posOf_get hi)) (glob_ok hX c.1.2) (plain_ok c.2).1
      · cases h
    · split at h
      · rename_i c
        simp only [Bool.and_eq_true] at c
        split at h
        · rename_i c' b h' hc hb' hh
          cases h
          obtain ⟨hs1, hs2, _⟩ := hX.stk hb
          exact qs_try hs1 hs2 (hX.exc _ _ (posOf_get hc)) (glob_ok hX c.1) (plain_ok c.2).1 hX.exm
            (fun pn => rows_ok (fun s s' h => soundS Γ P n (pn_ok hX pn) hb s s' h) hb')
            (fun a pn => rows_ok (C := { C with calm := false }) (fun s s' h => soundS Γ P n (suite_ok hX a pn) hb s s' h) hh)
        · cases h
      · cases h
    · cases h
end
end Ev
end
section
set_option maxRecDepth 100000
set_option maxHeartbeats 2000000
namespace Ev
open PySem PySem.Spec L2

/-- a def's text: its name, its statement, its parameters, its slots, the slots that are never stored -/
structure Txt where
  name : Str
  st : Stmt
  ps : List Str
  N : List Str
  fx : List Nat
  tab : Bool
/-- a whole program: the names of its defs, of its exceptions, of the built-in things it leaves alone -/
structure Prg where
  fns : List Str
  excs : List Str
  blt : List Str
  gl : List (Str × D)
  n : Nat
def Txt.cc (G : Prg) (T : Txt) : Cc := ⟨defScope T.st, T.N, none, T.fx, true, G.fns, G.excs, G.blt, T.tab, G.gl⟩
def nodupB : List Str → Bool
  | [] => true
  | x :: xs => !(xs.contains x) && nodupB xs
theorem nodupB_ok : ∀ {xs : List Str}, nodupB xs = true → xs.Nodup
  | [], _ => List.nodup_nil
  | x :: xs, h => by
    unfold nodupB at h
    rw [Bool.and_eq_true] at h
    refine List.nodup_cons.mpr ⟨?_, nodupB_ok h.2⟩
    have := h.1
    simpa using this
/-- its scope is a plain def's -/
def Txt.ok (T : Txt) : Bool :=
  decide ((defScope T.st).kind = .function) && !(defScope T.st).isCoroutine && !(defScope T.st).isGenerator && nodupB T.N && decide (T.N.take T.ps.length = T.ps) &&
  (T.ps.all fun x => (defScope T.st).names.lookup x == some .local || (defScope T.st).names.lookup x == some .cell) && ((defScope T.st).names.all fun y => y.2 != .free)
theorem Txt.scope_ok {T : Txt} (h : T.ok = true) : FnScope T.N T.ps (defScope T.st) := by
  unfold Txt.ok at h
  simp only [Bool.and_eq_true, decide_eq_true_eq, Bool.not_eq_true'] at h
  obtain ⟨⟨⟨⟨⟨⟨h1, h2⟩, h3⟩, h4⟩, h5⟩, h6⟩, h7⟩ := h
  refine ⟨h1, h2, h3, nodupB_ok h4, h5, fun x hx => ?_, fun y hy => ?_⟩
  · have := List.all_eq_true.mp h6 x hx
    simpa using this
  · have := List.all_eq_true.mp h7 y hy
    simpa using this
/-- f is what T's text says -/
structure Txt.Is (G : Prg) (T : Txt) (f : Fn) : Prop where
  ok : T.ok = true
  body : cSsOf (cS G.n (T.cc G)) (defBody T.st) = some f.body
  np : f.np = T.ps.length
  n : f.n = T.N.length
  lend : f.lend = (List.range T.ps.length).map fun i => T.fx.contains i

/-! ### what holds of the outs -/
theorem maskO_get : ∀ {ls : List Bool} {env : Env} {i : Nat} {s : Sl}, (maskO ls env)[i]? = some (some s) → ls[i]? = some true ∧ env[i]? = some (some s)
  | [], env, i, s, h => by cases env <;> (unfold maskO at h; simp at h)
  | true :: ls, [], i, s, h => by
    unfold maskO at h
    cases i with
    | zero => simp at h
    | succ i =>
      have := maskO_get (ls := ls) (env := []) (i := i) (s := s) (by simpa using h)
      simpa using this
  | false :: ls, [], i, s, h => by
    unfold maskO at h
    cases i with
    | zero => simp at h
    | succ i =>
      have := maskO_get (ls := ls) (env := []) (i := i) (s := s) (by simpa using h)
      simpa using this
  | true :: ls, e :: env, i, s, h => by
    unfold maskO at h
    cases i with
    | zero => simpa using h
    | succ i =>
      have := maskO_get (ls := ls) (env := env) (i := i) (s := s) (by simpa using h)
      simpa using this
  | false :: ls, e :: env, i, s, h => by
    unfold maskO at h
    cases i with
    | zero => simp at h
    | succ i =>
      have := maskO_get (ls := ls) (env := env) (i := i) (s := s) (by simpa using h)
      simpa using this
theorem maskO_len : ∀ {ls : List Bool} {env : Env}, (maskO ls env).length = ls.length
  | [], env => by cases env <;> rfl
  | true :: ls, [] => by unfold maskO; simp [maskO_len (ls := ls) (env := [])]
  | false :: ls, [] => by unfold maskO; simp [maskO_len (ls := ls) (env := [])]
  | true :: ls, e :: env => by unfold maskO; simp [maskO_len (ls := ls) (env := env)]
  | false :: ls, e :: env => by unfold maskO; simp [maskO_len (ls := ls) (env := env)]
section
variable {Γ : Glob} {U : Addr → Prop} {env env' outs : Env} {σ σ' ρ : St} {H H' : Hp} {a : A} {v : V}
theorem Own.mask (h : ∀ (i : Nat) (s : Sl), outs[i]? = some (some s) → env'[i]? = some (some s) ∧ σ'[i]? = ρ[i]?) (b : Addr) (o : Own outs ρ b) : Own env' σ' b := by
  obtain ⟨i, d, e1, e2⟩ := o
  obtain ⟨h1, h2⟩ := h i _ e1
  exact ⟨i, d, h1, h2.trans e2⟩
theorem RE.mask (r : RE Γ U env' σ' H') (hl : outs.length = ρ.length) (h : ∀ (i : Nat) (s : Sl), outs[i]? = some (some s) → env'[i]? = some (some s) ∧ σ'[i]? = ρ[i]?) : RE Γ U outs ρ H' := by
  refine ⟨hl, fun i d e => ?_, fun i d e => ?_, fun i j a d e e1 e2 e3 e4 => ?_, r.tabs, r.uth⟩
  · obtain ⟨h1, h2⟩ := h i _ e
    obtain ⟨v, e1, q⟩ := r.val i d h1
    exact ⟨v, h2 ▸ e1, q.less fun b z => z.imp id (Own.mask h b)⟩
  · obtain ⟨h1, h2⟩ := h i _ e
    obtain ⟨a, e1, n, q⟩ := r.own i d h1
    exact ⟨a, h2 ▸ e1, n, q.less fun b z => z.imp id (Own.mask h b)⟩
  · obtain ⟨h1, h2⟩ := h i _ e1
    obtain ⟨h3, h4⟩ := h j _ e2
    exact r.sep i j a d e h1 h3 (h2.trans e3) (h4.trans e4)
theorem Own.start {ps : List Sl} {vs : List V} {n m : Nat} (hl : ps.length = vs.length) (b : Addr) : Own (ps.map some ++ List.replicate n none) (vs.map some ++ List.replicate m none) b ↔ Own (ps.map some) (vs.map some) b := by
  constructor
  · rintro ⟨i, d, e1, e2⟩
    have hi : i < ps.length := by
      rcases Nat.lt_or_ge i ps.length with z | z
      · exact z
      · rw [List.getElem?_append_right (by simpa using z)] at e1
        rw [List.getElem?_replicate] at e1
        split at e1 <;> cases e1
    rw [List.getElem?_append_left (by simpa using hi)] at e1
    rw [List.getElem?_append_left (by simpa [← hl] using hi)] at e2
    exact ⟨i, d, e1, e2⟩
  · rintro ⟨i, d, e1, e2⟩
    have hi : i < ps.length := by
      have := (List.getElem?_eq_some_iff.mp e1).1
      simpa using this
    refine ⟨i, d, ?_, ?_⟩
    · rw [List.getElem?_append_left (by simpa using hi)]; exact e1
    · rw [List.getElem?_append_left (by simpa [← hl] using hi)]; exact e2
theorem RE.start {ps : List Sl} {vs : List V} {n m : Nat} (r : RE Γ U (ps.map some) (vs.map some) H) (hnm : ps.length + n = vs.length + m) : RE Γ U (ps.map some ++ List.replicate n none) (vs.map some ++ List.replicate m none) H := by
  have hl : ps.length = vs.length := by simpa using r.len
  have low : ∀ {i : Nat} {s : Sl}, (ps.map some ++ List.replicate n none)[i]? = some (some s) → i < ps.length ∧ (ps.map some)[i]? = some (some s) := fun {i s} e => by
    rcases Nat.lt_or_ge i ps.length with z | z
    · rw [List.getElem?_append_left (by simpa using z)] at e
      exact ⟨z, e⟩
    · rw [List.getElem?_append_right (by simpa using z), List.getElem?_replicate] at e
      split at e <;> cases e
  have up : ∀ {i : Nat}, i < ps.length → (vs.map some ++ List.replicate m none)[i]? = (vs.map some)[i]? := fun {i} z => List.getElem?_append_left (by simpa [← hl] using z)
  refine ⟨by simp [hnm], fun i d e => ?_, fun i d e => ?_, fun i j a d e e1 e2 e3 e4 => ?_, r.tabs, r.uth⟩
  · obtain ⟨z, e'⟩ := low e
    obtain ⟨v, e1, q⟩ := r.val i d e'
    exact ⟨v, by rw [up z]; exact e1, q.less fun b y => y.imp id (Own.start hl b).mp⟩
  · obtain ⟨z, e'⟩ := low e
    obtain ⟨a, e1, n, q⟩ := r.own i d e'
    exact ⟨a, by rw [up z]; exact e1, n, q.less fun b y => y.imp id (Own.start hl b).mp⟩
  · obtain ⟨z, e1'⟩ := low e1
    obtain ⟨z2, e2'⟩ := low e2
    rw [up z] at e3
    rw [up z2] at e4
    exact r.sep i j a d e e1' e2' e3 e4
end

/-! ### a program's defs -/
section
variable {Γ : Glob} {G : Prg} {fs : List Fn} {exm : Nat → Nat → Option Bool} {fuel k : Nat}
/-- what is known of a def's object -/
structure DefAt (Γ : Glob) (T : Txt) (fa : Addr) (fd : FuncData) : Prop where
  fn : ∃ (oc : Value) (od : Option Addr) (qual : Str) (kV doc pm : Value) (an : Option Addr) (cdv ct : Value) (osl : Array (Option Value)),
    fd = PySem.W.fnOf T.name qual (defArgs T.st) (defBody T.st) (defScope T.st) .none kV doc pm an cdv ct ∧ Γ.K.lookup fa = some ⟨oc, od, .func fd, osl⟩ ∧ PySem.W.codeIn Γ.K cdv qual = true ∧
    (T.tab = true → ∃ c Pt, cdv = .ref c ∧ GxR.TabB Γ.base Γ.mg c Pt ∧ Pt ∈ Γ.tabs)
  mg : Γ.mg T.name = some (.ref fa)
  kp : PySem.W.keepIn Γ.K (.ref fa) = true
  bd : Binds Γ.K fd T.ps []
/-- an exception's class, wherever one stands -/
structure ExcOk (Γ : Glob) (n : Str) (c : Nat) : Prop where
  ex : ∃ C : Addr, Γ.exc c = some C ∧ Γ.mg n = some (.ref C) ∧ PySem.W.excIn Γ.K C [.type "ValueError", .type "Exception", .type "BaseException", .type "object"] "ValueError.__new__" = true ∧ PySem.W.keepIn Γ.K (.ref C) = true ∧
    PySem.W.subIn Γ.K (.ref C) (.type "BaseException") = some true ∧ PySem.W.typeIn Γ.K (.ref C) = some (.type "type")
/-- all that is known of the program -/
structure World0 (Γ : Glob) (G : Prg) (fs : List Fn) (exm : Nat → Nat → Option Bool) (Ts : List Txt) : Prop where
  names : ∀ (i : Nat) (x : Str), G.fns[i]? = some x → ∃ T f, Ts[i]? = some T ∧ fs[i]? = some f ∧ T.name = x ∧ T.Is G f ∧ ∃ fa fd, DefAt Γ T fa fd
  blt : ∀ x, G.blt.contains x = true → Γ.mg x = none
  gl : ∀ (x : Str) (d : D), G.gl.lookup x = some d → ∃ v u, Γ.mg x = some u ∧ RelV v u ∧ ∀ O H, Rep Γ O H v d
  exc : ∀ (i : Nat) (x : Str), G.excs[i]? = some x → ExcOk Γ x i
  exm : ExmOk Γ Γ.K exm
def FnsOk (Γ : Glob) (G : Prg) (F : CF) (Ts : List Txt) (k : Nat) : Prop := ∀ (i : Nat) (x : Str) (T : Txt), G.fns[i]? = some x → Ts[i]? = some T → ∀ fa fd, DefAt Γ T fa fd → FnOk Γ.P Γ.w Γ.K Γ.mg Γ.base (L2.CX Γ.P Γ.w) (2 * k) fa fd T.ps (spF Γ F i)
theorem spF_len {F : CF} {i : Nat} {vs : List V} {H : Hp} {Q : VK} {E : XK} {np : Nat} (hF : ∀ ps, F i ps ≠ .stuck → ps.length = np) (h : spF Γ F i vs H Q E) : vs.length = np := by
  obtain ⟨ps, U, r, h⟩ := h
  have hl : ps.length = vs.length := by simpa using r.len
  rw [← hl]
  refine hF ps fun z => ?_
  rw [z] at h
  exact h
theorem fns_step {Ts : List Txt} (w0 : World0 Γ G fs exm Ts) (ih : FnsOk Γ G (callF fs exm fuel k) Ts k) : FnsOk Γ G (callF fs exm fuel (k + 1)) Ts (k + 1) := by
  intro i x T hi hT fa fd hd
  obtain ⟨T', f, hT', hf, hx, hIs, _⟩ := w0.names i x hi
  rw [hT] at hT'
  cases hT'
  obtain ⟨oc, od, qual, kV, doc, pm, an, cdv, ct, osl, rfl, lk, hcd, htab⟩ := hd.fn
  have hcall : ∀ ps, callF fs exm fuel (k + 1) i ps = if ps.length = f.np then
        match evSs ⟨callF fs exm fuel k, fun g => (fs[g]?.map (·.lend)).getD [], fuel, f.np, exm⟩ f.body (ps.map some ++ List.replicate (f.n - f.np) none) with
        | .ok (.ret (.own _)) _ => .stuck
        | .ok (.ret a) env => .ret a (maskO f.lend env)
        | .ok .next env => .ret (.val .non) (maskO f.lend env)
        | .ok _ _ => .stuck
        | .exn x env => .exn x (maskO f.lend env)
        | .stuck => .stuck
      else .stuck := fun ps => by
    show (match fs[i]? with | none => CR.stuck | some fn => _) = _
    rw [hf]
    all_goals rfl
  show FnOk _ _ _ _ _ _ (2 * k + 1 + 1) _ _ _ _
  refine fn_of lk hcd (Txt.scope_ok hIs.ok) (fun vs H Q E h => ?_) fun A outer s H vs Q E hr hsp => ?_
  · refine spF_len (np := T.ps.length) (fun ps hps => ?_) h
    rw [hcall] at hps
    split at hps
    · rename_i e; rw [e, hIs.np]
    · exact (hps rfl).elim
  · obtain ⟨ps, U, r, hsp⟩ := hsp
    rw [hcall] at hsp
    have hl : ps.length = vs.length := by simpa using r.len
    by_cases hnp : ps.length = f.np
    · rw [if_pos hnp] at hsp
      have S := Txt.scope_ok hIs.ok
      have npN : f.np ≤ T.N.length := by
        rw [hIs.np]
        have := congrArg List.length S.pre
        rw [List.length_take] at this
        omega
      have hX : XOk Γ ⟨callF fs exm fuel k, fun g => (fs[g]?.map (·.lend)).getD [], fuel, f.np, exm⟩ (T.cc G) (cxOf (L2.CX Γ.P Γ.w) Γ.P Γ.w Γ.K Γ.mg Γ.base T.N qual (defScope T.st) fa cdv A outer s H E) := {
        K := rfl, sc := rfl, N := rfl, nd := S.nd, fn := fun _ _ => rfl, calm := fun _ => rfl
        un := by
          have := hr.un
          have h2 : (T.cc G).tab.toNat ≤ 1 := Bool.toNat_le _
          show (A.deeper _).units + 65 + 11 * (T.cc G).tab.toNat < _
          omega
        tab := fun h _ => by
          obtain ⟨c, Pt, e1, e2, e3⟩ := htab h
          exact ⟨hr.mono (by omega), c, Pt, e1, e2, e3⟩
        gl := w0.gl
        fns := fun _ j y hj => by
          obtain ⟨T2, f2, g1, g2, g3, g4, fa2, fd2, g5⟩ := w0.names j y hj
          exact ⟨2 * k, ⟨⟨fa2, fd2, T2.ps, ih j y T2 hj g1 fa2 fd2 g5, by rw [← g3]; exact g5.mg, g5.kp, g5.bd⟩⟩, hr.mono (Nat.add_le_add_left (Bool.toNat_le _) _)⟩
        blt := w0.blt
        exc := fun j y hj => ⟨(w0.exc j y hj).ex⟩
        exm := w0.exm
        stk := fun _ => ⟨rfl, rfl, S.kind⟩ }
      have q : QSs Γ T.fx _ (defBody T.st) (evSs ⟨callF fs exm fuel k, fun g => (fs[g]?.map (·.lend)).getD [], fuel, f.np, exm⟩ f.body) := rows_ok (fun s s' h => soundS Γ _ G.n hX rfl s s' h) hIs.body
      refine ⟨_, q _ (fun cls d _ H => E cls d H) (takes_of rfl rfl rfl rfl) (passes_of rfl), U, ps.map some ++ List.replicate (f.n - f.np) none, ?_, ?_⟩
      · have : L2.start T.N vs = vs.map some ++ List.replicate (T.N.length - vs.length) none := rfl
        rw [this]
        exact r.start (by rw [hIs.n]; omega)
      · have h0 : L2.start T.N vs = vs.map some ++ List.replicate (T.N.length - vs.length) none := rfl
        rw [h0]
        have st0 : ∀ {W' : Addr → Prop} {H' : Hp}, Stp (Own (ps.map some ++ List.replicate (f.n - f.np) none) (vs.map some ++ List.replicate (T.N.length - vs.length) none)) H W' H' → Stp (Own (ps.map some) (vs.map some)) H W' H' := fun {W' H'} s =>
          s.mono (fun b z => (Own.start hl b).mp z) fun b z => .inl z
        have mk : ∀ {env' : Env} {σ' : St}, (∀ i ∈ T.fx, σ'[i]? = (vs.map some ++ List.replicate (T.N.length - vs.length) none)[i]?) → ∀ (i : Nat) (s : Sl), (maskO f.lend env')[i]? = some (some s) → env'[i]? = some (some s) ∧ σ'[i]? = (vs.map some)[i]? := fun {env' σ'} hfx i s e => by
          obtain ⟨e1, e2⟩ := maskO_get e
          refine ⟨e2, ?_⟩
          rw [hIs.lend, List.getElem?_map] at e1
          cases q : (List.range T.ps.length)[i]? with
          | none => rw [q] at e1; cases e1
          | some j =>
            rw [q] at e1
            have hij := List.getElem?_eq_some_iff.mp q
            obtain ⟨hlt, hj⟩ := hij
            have hij : j = i := by simpa using hj.symm
            subst hij
            have hm : T.fx.contains j = true := by simpa using e1
            rw [hfx j (by simpa using hm)]
            exact List.getElem?_append_left (by
              have : j < T.ps.length := by simpa using hlt
              rw [List.length_map, ← hl, hnp, hIs.np]
              exact this)
        have ml : (maskO f.lend (ps.map some)).length = f.lend.length := maskO_len
        have mlen : ∀ {env' : Env}, (maskO f.lend env').length = (vs.map some).length := fun {env'} => by
          rw [maskO_len, hIs.lend, List.length_map, List.length_range, List.length_map, ← hl, hnp, hIs.np]
        cases hev : evSs ⟨callF fs exm fuel k, fun g => (fs[g]?.map (·.lend)).getD [], fuel, f.np, exm⟩ f.body (ps.map some ++ List.replicate (f.n - f.np) none) with
        | stuck => rw [hev] at hsp; exact hsp.elim
        | exn x env' =>
          rw [hev] at hsp
          intro cls d σ' H' p
          refine hsp cls d H' ⟨p.re.mask mlen (mk p.fx), p.xr, (st0 p.st).shr fun b z => Own.mask (mk p.fx) b z⟩
        | ok fl env' =>
          rw [hev] at hsp
          cases fl with
          | next =>
            intro σ' H' p
            refine hsp .non H' ⟨(p.re.mask mlen (mk p.fx)).less fun b z => z.elim id fun y => y.elim, .non, (st0 p.st).shr fun b z => z.elim (fun y => Own.mask (mk p.fx) b y) fun y => y.elim⟩
          | brk => exact hsp.elim
          | cont => exact hsp.elim
          | ret a =>
            cases a with
            | own j => exact hsp.elim
            | val d =>
              intro v σ' H' p
              exact hsp v H' ⟨p.re.mask mlen (mk p.fx), Rep.less (fun b z => z.imp id (Own.mask (mk p.fx) b)) p.ra, (st0 p.st).shr fun b z => z.imp (Own.mask (mk p.fx) b) id⟩
            | tmp d =>
              intro v σ' H' p
              obtain ⟨b, e1, e2, e3⟩ := p.ra
              exact hsp v H' ⟨p.re.mask mlen (mk p.fx), ⟨b, e1, e2, Body.less (fun b z => z.imp id (Own.mask (mk p.fx) b)) e3⟩, (st0 p.st).shr fun b z => z.imp (Own.mask (mk p.fx) b) id⟩
    · rw [if_neg hnp] at hsp
      exact hsp.elim
theorem fns_ok {Ts : List Txt} (w0 : World0 Γ G fs exm Ts) : ∀ k, FnsOk Γ G (callF fs exm fuel k) Ts k
  | 0 => fun i x T hi hT fa fd hd => by
    have no : ∀ vs H Q E, ¬ spF Γ (callF fs exm fuel 0) i vs H Q E := fun vs H Q E ⟨ps, U, r, h⟩ => h
    exact ⟨fun vs H Q E h => (no vs H Q E h).elim, fun A outer s H args us vs Q E _ _ _ _ h => (no vs H Q E h).elim⟩
  | k + 1 => fns_step w0 (fns_ok w0 k)
end
end Ev
end
section
set_option maxRecDepth 100000
set_option maxHeartbeats 2000000
namespace Ev
open PySem PySem.Spec L2

def fdOf (K : PySem.W.Frag) (a : Addr) : FuncData := match K.lookup a with
  | some ⟨_, _, .func fd, _⟩ => fd
  | _ => default
def faOf (K : PySem.W.Frag) (x : Str) : Addr := match PySem.W.nsIn K mainGlobals x with
  | some (some (.ref a)) => a
  | _ => 0
def isRef : Option (Option Value) → Bool
  | some (some (.ref _)) => true
  | _ => false
def isFunc (K : PySem.W.Frag) (a : Addr) : Bool := match K.lookup a with
  | some ⟨_, _, .func _, _⟩ => true
  | _ => false
def tabOk (K : PySem.W.Frag) (x : Str) : Bool := match PySem.W.tabIn K x with
  | some (_, P) => (K.lookup P).isNone
  | none => false
theorem tabB_of {base : Heap} {mg : Str → Option Value} {c P : Addr} (h : LamX.TabB base mg c P) : GxR.TabB base mg c P := ⟨h.code, h.bm, h.gP⟩
/-- what is to be looked at of a def -/
def defB (K : PySem.W.Frag) (T : Txt) : Bool :=
  isRef (PySem.W.nsIn K mainGlobals T.name) && isFunc K (faOf K T.name) && PySem.W.codeIn K (fdOf K (faOf K T.name)).code T.name && PySem.W.keepIn K (.ref (faOf K T.name)) && (!T.tab || tabOk K T.name)
def fdEq (K : PySem.W.Frag) (T : Txt) : Prop :=
  fdOf K (faOf K T.name) = PySem.W.fnOf T.name T.name (defArgs T.st) (defBody T.st) (defScope T.st) .none (fdOf K (faOf K T.name)).kwdefaults (fdOf K (faOf K T.name)).doc (fdOf K (faOf K T.name)).pyModule (fdOf K (faOf K T.name)).annotations (fdOf K (faOf K T.name)).code (fdOf K (faOf K T.name)).closureTuple
def bindOk (T : Txt) : Prop := ∀ (kV doc pm : Value) (an : Option Addr) (cdv ct : Value) (us : List Value), us.length = T.ps.length →
  bindArgs (PySem.W.fnOf T.name T.name (defArgs T.st) (defBody T.st) (defScope T.st) .none kV doc pm an cdv ct) ⟨us, []⟩ = pure (T.ps.zip us)
structure PerDef (K : PySem.W.Frag) (G : Prg) (T : Txt) (f : Fn) : Prop where
  b : defB K T = true
  e : fdEq K T
  bind : bindOk T
  is : T.Is G f
def excB (K : PySem.W.Frag) (n : Str) : Bool :=
  isRef (PySem.W.nsIn K mainGlobals n) && PySem.W.excIn K (faOf K n) [.type "ValueError", .type "Exception", .type "BaseException", .type "object"] "ValueError.__new__" && PySem.W.keepIn K (.ref (faOf K n)) &&
  (PySem.W.subIn K (.ref (faOf K n)) (.type "BaseException") == some true) && (PySem.W.typeIn K (.ref (faOf K n)) == some (.type "type"))
def glB (K : PySem.W.Frag) (p : Str × D) : Bool := match p.2, PySem.W.nsIn K mainGlobals p.1 with
  | .int i, some (some (.int j _)) => i == j
  | .str s, some (some (.str t _)) => s == t
  | _, _ => false
def exmT (t : List (List Bool)) (x c : Nat) : Option Bool := (t[x]?).bind (·[c]?)
def exmB (K : PySem.W.Frag) (G : Prg) (t : List (List Bool)) : Bool := (List.range t.length).all fun x => match t[x]? with
  | some r => (List.range r.length).all fun c => match r[c]?, G.excs[x]?, G.excs[c]? with
    | some b, some n, some m => PySem.W.exmOne K (.ref (faOf K n)) (.ref (faOf K m)) == some b
    | _, _, _ => false
  | none => false
def worldB (K : PySem.W.Frag) (G : Prg) (t : List (List Bool)) : Bool :=
  (G.blt.all fun x => PySem.W.nsIn K mainGlobals x == some none) && (G.excs.all fun x => excB K x) && (G.gl.all fun p => glB K p) && exmB K G t

section
variable {K : PySem.W.Frag} {h : Heap} {mg : Str → Option Value}
theorem fa_ns {x : Str} (e : isRef (PySem.W.nsIn K mainGlobals x) = true) : PySem.W.nsIn K mainGlobals x = some (some (.ref (faOf K x))) := by
  unfold isRef at e
  unfold faOf
  split at e
  · rename_i q
    rw [q]
  · cases e
theorem fd_look {a : Addr} (e : isFunc K a = true) : ∃ oc od osl, K.lookup a = some ⟨oc, od, .func (fdOf K a), osl⟩ := by
  unfold isFunc at e
  unfold fdOf
  split at e
  · rename_i q
    rw [q]
    exact ⟨_, _, _, rfl⟩
  · cases e
theorem tab_some {x : Str} (e : tabOk K x = true) : ∃ c P, PySem.W.tabIn K x = some (c, P) ∧ K.lookup P = none := by
  unfold tabOk at e
  split at e
  · rename_i c P q
    exact ⟨c, P, q, by simpa using e⟩
  · cases e
theorem tab_code {x : Str} {c P : Addr} (e : PySem.W.tabIn K x = some (c, P)) : (fdOf K (faOf K x)).code = .ref c := by
  unfold PySem.W.tabIn at e
  unfold faOf
  split at e
  · rename_i f hf
    rw [hf]
    dsimp only
    split at e
    · rename_i hl
      unfold fdOf
      rw [hl]
      dsimp only
      split at e
      · rename_i c2 hc
        rw [hc]
        split at e
        · split at e
          · cases e; rfl
          · cases e
        · cases e
      · cases e
    · cases e
  · cases e
theorem defAt_mk {Γ : Glob} {G : Prg} {T : Txt} {f : Fn} (hK : Γ.K.In h) (hG : h.Ns mainGlobals Γ.mg) (p : PerDef Γ.K G T f) (ht : T.tab = true → ∀ c P, PySem.W.tabIn Γ.K T.name = some (c, P) → GxR.TabB Γ.base Γ.mg c P ∧ P ∈ Γ.tabs) :
    DefAt Γ T (faOf Γ.K T.name) (fdOf Γ.K (faOf Γ.K T.name)) := by
  have hb := p.b
  unfold defB at hb
  simp only [Bool.and_eq_true] at hb
  obtain ⟨⟨⟨⟨h1, h2⟩, h3⟩, h4⟩, h5⟩ := hb
  obtain ⟨oc, od, osl, hl⟩ := fd_look h2
  refine ⟨⟨oc, od, T.name, _, _, _, _, _, _, osl, p.e, hl, h3, fun tb => ?_⟩, PySem.W.mg_of hK hG (fa_ns h1), h4, ?_⟩
  · rw [tb] at h5
    obtain ⟨c, P, e1, e2⟩ := tab_some (x := T.name) (by simpa using h5)
    obtain ⟨t1, t2⟩ := ht tb c P e1
    exact ⟨c, P, tab_code e1, t1, t2⟩
  · rw [p.e]
    exact .all (p.bind _ _ _ _ _ _)

/-- all that a program's proof gives -/
structure Says (K : PySem.W.Frag) (G : Prg) (Ts : List Txt) (fs : List Fn) (t : List (List Bool)) : Prop where
  per : ∀ (i : Nat) (T : Txt) (f : Fn), Ts[i]? = some T → fs[i]? = some f → PerDef K G T f
  len : Ts.length = fs.length
  names : G.fns = Ts.map (·.name)
  wb : worldB K G t = true
theorem world0_mk {Γ : Glob} {G : Prg} {Ts : List Txt} {fs : List Fn} {t : List (List Bool)} (hK : Γ.K.In h) (hG : h.Ns mainGlobals Γ.mg) (s : Says Γ.K G Ts fs t) (hexc : Γ.exc = fun i => (G.excs[i]?).map (faOf Γ.K ·))
    (ht : ∀ T ∈ Ts, T.tab = true → ∀ c P, PySem.W.tabIn Γ.K T.name = some (c, P) → GxR.TabB Γ.base Γ.mg c P ∧ P ∈ Γ.tabs) : World0 Γ G fs (exmT t) Ts := by
  have wb := s.wb
  unfold worldB at wb
  simp only [Bool.and_eq_true] at wb
  obtain ⟨⟨⟨w1, w2⟩, w3⟩, w4⟩ := wb
  have exOk : ∀ (i : Nat) (x : Str), G.excs[i]? = some x → excB Γ.K x = true := fun i x e => List.all_eq_true.mp w2 x (List.mem_of_getElem? e)
  refine ⟨fun i x e => ?_, fun x e => ?_, fun x d e => ?_, fun i x e => ?_, fun x c b e => ?_⟩
  · rw [s.names, List.getElem?_map] at e
    cases q : Ts[i]? with
    | none => rw [q] at e; cases e
    | some T =>
      rw [q] at e
      cases e
      have hlt : i < fs.length := by rw [← s.len]; exact (List.getElem?_eq_some_iff.mp q).1
      obtain ⟨f, hf⟩ := get_lt hlt
      have p := s.per i T f q hf
      exact ⟨T, f, rfl, hf, rfl, p.is, _, _, defAt_mk hK hG p (ht T (List.mem_of_getElem? q))⟩
  · have hm : x ∈ G.blt := by simpa using e
    have := List.all_eq_true.mp w1 x hm
    exact PySem.W.mg_none_of hK hG (by simpa using this)
  · have hm : (x, d) ∈ G.gl := PySem.mem_of_lookup e
    have q := List.all_eq_true.mp w3 _ hm
    unfold glB at q
    dsimp only at q
    split at q
    · rename_i i j t1 z
      have hij : i = j := by simpa using q
      subst hij
      exact ⟨.int i, _, PySem.W.mg_of hK hG z, ⟨_, rfl⟩, fun O H => .int i⟩
    · rename_i s1 t1 tk z
      have hst : s1 = t1 := by simpa using q
      subst hst
      exact ⟨.str s1, _, PySem.W.mg_of hK hG z, ⟨_, rfl⟩, fun O H => .str s1⟩
    · cases q
  · have q := exOk i x e
    unfold excB at q
    simp only [Bool.and_eq_true, beq_iff_eq] at q
    obtain ⟨⟨⟨⟨q1, q2⟩, q3⟩, q4⟩, q5⟩ := q
    exact ⟨faOf Γ.K x, by rw [hexc]; show (G.excs[i]?).map _ = _; rw [e]; rfl, PySem.W.mg_of hK hG (fa_ns q1), q2, q3, q4, q5⟩
  · unfold exmT at e
    cases q : t[x]? with
    | none => rw [q] at e; cases e
    | some r =>
      rw [q] at e
      have e : r[c]? = some b := e
      have hx := List.all_eq_true.mp w4 x (List.mem_range.mpr (List.getElem?_eq_some_iff.mp q).1)
      rw [q] at hx
      have hc := List.all_eq_true.mp hx c (List.mem_range.mpr (List.getElem?_eq_some_iff.mp e).1)
      rw [e] at hc
      split at hc
      · rename_i b' n m e1 e2 e3
        cases e1
        refine ⟨faOf Γ.K n, faOf Γ.K m, by rw [hexc]; show (G.excs[x]?).map _ = _; rw [e2]; rfl, by rw [hexc]; show (G.excs[c]?).map _ = _; rw [e3]; rfl, by simpa using hc⟩
      · cases hc
/-- the tables of code of a program's defs -/
def csOf (K : PySem.W.Frag) (Ts : List Txt) : List (Addr × Addr) := Ts.filterMap fun T => if T.tab then PySem.W.tabIn K T.name else none
theorem csOf_mem {Ts : List Txt} {p : Addr × Addr} (h : p ∈ csOf K Ts) : ∃ T ∈ Ts, T.tab = true ∧ PySem.W.tabIn K T.name = some p := by
  obtain ⟨T, hT, e⟩ := List.mem_filterMap.mp h
  split at e
  · rename_i z; exact ⟨T, hT, z, e⟩
  · cases e
theorem mem_csOf {Ts : List Txt} {p : Addr × Addr} {T : Txt} (hT : T ∈ Ts) (ht : T.tab = true) (e : PySem.W.tabIn K T.name = some p) : p ∈ csOf K Ts :=
  List.mem_filterMap.mpr ⟨T, hT, by rw [if_pos ht]; exact e⟩
/-- the evaluator's word on the law -/
def RunOk (fs : List Fn) (t : List (List Bool)) (fuel kk li n : Nat) : Prop := ∀ (ns : List Int), ns.length ≤ n → (∀ z ∈ ns, Builtin.Int.intBits z ≤ 1048576) → ∀ d, (d = D.lst (ns.map D.int) ∨ d = D.frz (ns.map D.int)) →
  ∃ outs, callF fs (exmT t) fuel kk li [.val d] = .ret (.val (.bl true)) outs
theorem reps_ints {Γ : Glob} {O : Addr → Prop} {H : Hp} : ∀ (ns : List Int), Reps Γ O H (ns.map V.int) (ns.map D.int)
  | [] => .nil
  | n :: ns => .cons (.int n) (reps_ints ns)
theorem lawAt {l : PySem.W.OpenLaw} {w : World} {n kk fuel li : Nat} {fa : Addr} {x : Str} {G : Prg} {Ts : List Txt} {fs : List Fn} {t : List (List Bool)} {T : Txt} (hK : K.In h) (hG : h.Ns mainGlobals mg)
    (htab : ∀ T ∈ Ts, T.tab = true → ∀ c P, PySem.W.tabIn K T.name = some (c, P) → PySem.W.CodeHd h c P ∧ h.get? P = some { cls := .none, data := .fields #[] }) (s : Says K G Ts fs t)
    (hli : Ts[li]? = some T) (hps : T.ps = [x]) (hfa : mg T.name = some (.ref fa)) (run : RunOk fs t fuel kk li n) : LamX.LawAtS l w K (L2.CX l.prog w) (2 * kk) n x mg fa h := by
  have hlt : li < fs.length := by rw [← s.len]; exact (List.getElem?_eq_some_iff.mp hli).1
  obtain ⟨f, hf⟩ := get_lt hlt
  have p := s.per li T f hli hf
  have hb := p.b
  unfold defB at hb
  simp only [Bool.and_eq_true] at hb
  obtain ⟨⟨⟨⟨h1, h2⟩, h3⟩, h4⟩, h5⟩ := hb
  have efa : fa = faOf K T.name := by
    have := PySem.W.mg_of hK hG (fa_ns h1)
    rw [hfa] at this
    cases this
    rfl
  subst efa
  refine ⟨fdOf K (faOf K T.name), csOf K Ts, fun vs H Q E => ∃ (a : Addr) (ns : List Int), vs = [.ref a] ∧ ns.length ≤ n ∧ (∀ z ∈ ns, Builtin.Int.intBits z ≤ 1048576) ∧ (∀ p ∈ csOf K Ts, H p.2 = some (.tbl #[])) ∧ SqL K H a (ns.map V.int) ∧ ∀ H', Q (.bl true) H', fun p hp => ?_, fun p hp => ?_, fun p hp => ?_, fun s' u => ?_, fun H a ns q1 q2 q3 q4 => ?_, fun base hB hN hT => ?_⟩
  · obtain ⟨T, hT, ht, e⟩ := csOf_mem hp
    exact (htab T hT ht p.1 p.2 e).2
  · obtain ⟨T, hT, ht, e⟩ := csOf_mem hp
    obtain ⟨i, hi⟩ := List.mem_iff_getElem?.mp hT
    have hlt : i < fs.length := by rw [← s.len]; exact (List.getElem?_eq_some_iff.mp hi).1
    obtain ⟨f, hf⟩ := get_lt hlt
    have hb := (s.per i T f hi hf).b
    unfold defB at hb
    simp only [Bool.and_eq_true] at hb
    have h5 := hb.2
    rw [ht] at h5
    obtain ⟨c, P, e1, e2⟩ := tab_some (x := T.name) (by simpa using h5)
    rw [e] at e1
    cases e1
    exact e2
  · obtain ⟨T, hT, ht, e⟩ := csOf_mem hp
    exact (htab T hT ht p.1 p.2 e).1
  · have q : Binds K (fdOf K (faOf K T.name)) T.ps [] := by
      rw [p.e]
      exact .all (p.bind _ _ _ _ _ _)
    rw [p.e]
    refine .of_eq ?_
    have := p.bind (fdOf K (faOf K T.name)).kwdefaults (fdOf K (faOf K T.name)).doc (fdOf K (faOf K T.name)).pyModule (fdOf K (faOf K T.name)).annotations (fdOf K (faOf K T.name)).code (fdOf K (faOf K T.name)).closureTuple [u] (by rw [hps]; rfl)
    rw [hps] at this
    exact this
  · exact ⟨a, ns, rfl, q1, q2, q3, q4, fun _ => rfl⟩
  · let Γ : Glob := ⟨l.prog, w, K, mg, base, fun i => (G.excs[i]?).map (faOf K ·), (csOf K Ts).map (·.2)⟩
    have w0 : World0 Γ G fs (exmT t) Ts := world0_mk (Γ := Γ) hB hN s rfl fun T' hT' ht c P e => ⟨tabB_of (hT (c, P) (mem_csOf hT' ht e)), List.mem_map.mpr ⟨(c, P), mem_csOf hT' ht e, rfl⟩⟩
    have hfn : G.fns[li]? = some T.name := by rw [s.names, List.getElem?_map, hli]; rfl
    obtain ⟨T', f', g1, g2, g3, g4, fa2, fd2, g5⟩ := w0.names li T.name hfn
    have da : DefAt Γ T (faOf K T.name) (fdOf K (faOf K T.name)) := defAt_mk (Γ := Γ) hB hN p fun ht c P e => ⟨tabB_of (hT (c, P) (mem_csOf (List.mem_of_getElem? hli) ht e)), List.mem_map.mpr ⟨(c, P), mem_csOf (List.mem_of_getElem? hli) ht e, rfl⟩⟩
    have F := fns_ok (fuel := fuel) w0 kk li T.name T hfn hli _ _ da
    rw [hps] at F
    refine FnOk.imp F fun vs H Q E ⟨a, ns, e1, e2, e3, e4, e5, e6⟩ => ?_
    subst e1
    have mk : ∀ d, (d = D.lst (ns.map D.int) ∨ d = D.frz (ns.map D.int)) → Rep Γ (fun _ => False) H (.ref a) d → spF Γ (callF fs (exmT t) fuel kk) li [.ref a] H Q E := fun d hd r => by
      obtain ⟨outs, hrun⟩ := run ns e2 e3 d hd
      have no : ∀ b, Own ([Sl.val d].map some) ([V.ref a].map some) b → False := fun b ⟨i, d', z1, z2⟩ => by
        cases i with
        | zero => simp at z1
        | succ i => simp at z1
      refine ⟨[.val d], fun _ => False, ⟨rfl, fun i d' z => ?_, fun i d' z => ?_, fun i j b d1 d2 z1 _ _ _ => ?_, fun P hP => ?_, fun b z => z.elim⟩, ?_⟩
      · cases i with
        | zero =>
          simp at z
          subst z
          exact ⟨.ref a, rfl, r.less fun b y => y.elim id fun k => no b k⟩
        | succ i => simp at z
      · cases i with
        | zero => simp at z
        | succ i => simp at z
      · cases i with
        | zero => simp at z1
        | succ i => simp at z1
      · obtain ⟨p, hp, rfl⟩ := List.mem_map.mp hP
        exact ⟨_, e4 p hp, _, rfl, trivial⟩
      · rw [hrun]
        intro v H' pp
        have q := pp.ra
        have q : Rep Γ _ H' v (.bl true) := q
        cases q
        exact e6 H'
    rcases e5 with (e5 | ⟨o, e5⟩) | e5
    · exact mk _ (.inl rfl) (.lst e5 (fun z => z) (reps_ints ns))
    · exact mk _ (.inr rfl) (.frz (.inl ⟨o, e5⟩) (reps_ints ns))
    · exact mk _ (.inr rfl) (.frz (.inr e5) (reps_ints ns))
end

/-- the end of a law -/
theorem walk_ev {l : PySem.W.OpenLaw} {n kk fuel li : Nat} {q : Program} {loose : List Str} {XP : (Str → Option Value) → Heap → Prop} {YP : World → Heap → Prop} {d : DefRec} {K : Params → PySem.W.Frag} {G : Prg} {Ts : List Txt} {fs : List Fn} {t : List (List Bool)} {T : Txt} {x : Str}
    (hn : l.most = some n) (hn2 : n ≤ sizeLine) (hdf : d.params.defaults = []) (hr : Room (2 * kk) callerA) (hY : ∀ (w : World) (h : Heap), YP w h → (K w.params).In h)
    (hrec : (Ts.all fun T => !T.tab || ((PyProof.Rows.recsOf q).find? (fun e => e.name == T.name)).isSome) = true)
    (s : ∀ P, Says (K P) G Ts fs t) (hli : Ts[li]? = some T) (hps : T.ps = [x]) (hnm : d.name = T.name) (run : RunOk fs t fuel kk li n) :
    PySem.W.WalkO q loose XP YP l.row.toRowW d [] (fun f vs => PySem.call f vs) := by
  refine Att.attach_callB hn hdf fun w s₀ s₁ mg mb fa o pm cd doc a vs ns Gr Y ho hd hcd hmg hobj hints hlen hbits hg => ?_
  have KX := hY w _ Y
  rw [hnm] at hmg
  obtain ⟨fd, cs, sp, hT, nT, C, hb, hsp, hF⟩ := lawAt (l := l) (w := w) (fuel := fuel) KX Gr.T.g (fun T hT ht c P e => by
    have h1 := List.all_eq_true.mp hrec T hT
    rw [ht] at h1
    have h1 : ((PyProof.Rows.recsOf q).find? (fun e => e.name == T.name)).isSome = true := by simpa using h1
    obtain ⟨dd, hdd⟩ := Option.isSome_iff_exists.mp h1
    exact PySem.W.tab_of Gr.T KX hdd e) (s w.params) hli hps hmg run
  exact LamX.law_callTs KX Gr.T.g Gr.T.b Gr.T.builtins Gr.T.nolimit hg hT nT C Gr.T.bmain hobj hints (Nat.le_trans hlen hn2) hr hF hb (fun H hH hS => hsp H a ns hlen hbits hH hS) fun H e s' hc => by
    obtain ⟨_, _, _, _, _, _, _, _, _, _, _, _, z⟩ := hc
    exact z.elim
end Ev
end
section
set_option maxRecDepth 100000
/-! The evaluator as a machine whose continuations are data: for simp (no rewriting under binders). -/
namespace Ev
open PySem

/-- a value of two things in hand -/
def two (env : Env) (f : D → D → Option A) (x y : A) : Out A := match x.look env, y.look env with
  | some d, some e => match f d e with
    | some r => .ok r env
    | none => .stuck
  | _, _ => .stuck
def fBin (o : Bo) (d e : D) : Option A := (binF o d e).map BR.a
def fCmp (o : Co) (d e : D) : Option A := (cmpF o d e).map fun b => .val (.bl b)
def fIdx (d e : D) : Option A := (idxF d e).map .val
def kTwo (P : Par) (f : D → D → Option A) (b : E) (o : Out A) : Out A := o.bind fun x env => (evA P b env).bind fun y env => two env f x y
def kTwo2 (f : D → D → Option A) (x : A) (o : Out A) : Out A := o.bind fun y env => two env f x y
@[simp] theorem s_bin {P : Par} {o : Bo} {a b : E} {env : Env} : evA P (.bin o a b) env = kTwo P (fBin o) b (evA P a env) := by
  unfold kTwo
  simp only [evA]
  congr; funext x env1; congr; funext y env2
  unfold two fBin
  cases x.look env2 <;> cases y.look env2 <;> try rfl
  rename_i d e
  dsimp only
  cases binF o d e <;> rfl
@[simp] theorem s_cmp {P : Par} {o : Co} {a b : E} {env : Env} : evA P (.cmp o a b) env = kTwo P (fCmp o) b (evA P a env) := by
  unfold kTwo
  simp only [evA]
  congr; funext x env1; congr; funext y env2
  unfold two fCmp
  cases x.look env2 <;> cases y.look env2 <;> try rfl
  rename_i d e
  dsimp only
  cases cmpF o d e <;> rfl
@[simp] theorem s_idx {P : Par} {a b : E} {env : Env} : evA P (.idx a b) env = kTwo P fIdx b (evA P a env) := by
  unfold kTwo
  simp only [evA]
  congr; funext x env1; congr; funext y env2
  unfold two fIdx
  cases x.look env2 <;> cases y.look env2 <;> try rfl
  rename_i d e
  dsimp only
  cases idxF d e <;> rfl
@[simp] theorem k_two {P : Par} {f : D → D → Option A} {b : E} {x : A} {env : Env} : kTwo P f b (.ok x env) = kTwo2 f x (evA P b env) := rfl
@[simp] theorem k_two2 {f : D → D → Option A} {x y : A} {env : Env} : kTwo2 f x (.ok y env) = two env f x y := rfl
@[simp] theorem k_twox {P : Par} {f : D → D → Option A} {b : E} {x : Exn} {env : Env} : kTwo P f b (.exn x env) = .exn x env := rfl
@[simp] theorem k_two2x {f : D → D → Option A} {x : A} {y : Exn} {env : Env} : kTwo2 f x (.exn y env) = .exn y env := rfl
@[simp] theorem two_vv {f : D → D → Option A} {d e : D} {env : Env} : two env f (.val d) (.val e) = (match f d e with | some r => .ok r env | none => .stuck) := by
  rw [show two env f (.val d) (.val e) = (match f d e with | some r => .ok r env | none => .stuck) from rfl]
@[simp] theorem two_tv {f : D → D → Option A} {d e : D} {env : Env} : two env f (.tmp d) (.val e) = (match f d e with | some r => .ok r env | none => .stuck) := by
  rw [show two env f (.tmp d) (.val e) = (match f d e with | some r => .ok r env | none => .stuck) from rfl]
@[simp] theorem two_vt {f : D → D → Option A} {d e : D} {env : Env} : two env f (.val d) (.tmp e) = (match f d e with | some r => .ok r env | none => .stuck) := by
  rw [show two env f (.val d) (.tmp e) = (match f d e with | some r => .ok r env | none => .stuck) from rfl]
@[simp] theorem two_tt {f : D → D → Option A} {d e : D} {env : Env} : two env f (.tmp d) (.tmp e) = (match f d e with | some r => .ok r env | none => .stuck) := by
  rw [show two env f (.tmp d) (.tmp e) = (match f d e with | some r => .ok r env | none => .stuck) from rfl]
@[simp] theorem look_val {d : D} {env : Env} : (A.val d).look env = some d := rfl
@[simp] theorem look_tmp {d : D} {env : Env} : (A.tmp d).look env = some d := rfl
@[simp] theorem frz_val {d : D} {env : Env} : (A.val d).freeze env = .ok d env := rfl
@[simp] theorem frz_tmp {d : D} {env : Env} : (A.tmp d).freeze env = .ok d env := rfl
@[simp] theorem two_ov {f : D → D → Option A} {i : Nat} {e : D} {env : Env} : two env f (.own i) (.val e) = (match (A.own i).look env with | some d => (match f d e with | some r => .ok r env | none => .stuck) | none => .stuck) := by
  unfold two; rw [look_val]; cases (A.own i).look env <;> rfl
/-- a name -/
def sVar (i : Nat) (o : Option (Option Sl)) (env : Env) : Out A := match o with
  | some (some (.val d)) => .ok (.val d) env
  | some (some (.own _)) => .ok (.own i) env
  | _ => .stuck
@[simp] theorem s_var {P : Par} {i : Nat} {env : Env} : evA P (.var i) env = sVar i env[i]? env := by
  simp only [evA]; rfl
@[simp] theorem s_cst {P : Par} {d : D} {env : Env} : evA P (.cst d) env = .ok (.val d) env := by simp only [evA]
@[simp] theorem v_val {i : Nat} {d : D} {env : Env} : sVar i (some (some (.val d))) env = .ok (.val d) env := rfl
@[simp] theorem v_own {i : Nat} {d : D} {env : Env} : sVar i (some (some (.own d))) env = .ok (.own i) env := rfl
/-- neg -/
def kNeg (o : Out A) : Out A := o.bind fun x env => match x with
  | .val (.int i) => .ok (.val (.int (-i))) env
  | _ => .stuck
@[simp] theorem s_neg {P : Par} {a : E} {env : Env} : evA P (.neg a) env = kNeg (evA P a env) := by simp only [evA]; rfl
@[simp] theorem k_neg {i : Int} {env : Env} : kNeg (.ok (.val (.int i)) env) = .ok (.val (.int (-i))) env := rfl
/-- a truth of what is in hand -/
def tru1 (x : A) (env : Env) : Out Bool := match (x.look env).bind D.truth with
  | some b => .ok b env
  | none => .stuck
@[simp] theorem t_bl {b : Bool} {env : Env} : tru1 (.val (.bl b)) env = .ok b env := rfl
@[simp] theorem t_int {i : Int} {env : Env} : tru1 (.val (.int i)) env = .ok (i != 0) env := rfl
@[simp] theorem t_non {env : Env} : tru1 (.val .non) env = .ok false env := rfl
@[simp] theorem t_tup {xs : List D} {env : Env} : tru1 (.val (.tup xs)) env = .ok (!xs.isEmpty) env := rfl
@[simp] theorem t_lst {xs : List D} {env : Env} : tru1 (.val (.lst xs)) env = .ok (!xs.isEmpty) env := rfl
def kTru (o : Out A) : Out Bool := o.bind tru1
@[simp] theorem k_tru {x : A} {env : Env} : kTru (.ok x env) = tru1 x env := rfl
@[simp] theorem k_trux {x : Exn} {env : Env} : kTru (.exn x env) = .exn x env := rfl
@[simp] def isT : E → Bool
  | .nt _ | .an _ _ | .or _ _ | .ite _ _ _ => false
  | _ => true
theorem s_tru {P : Par} {e : E} {env : Env} (h : isT e = true) : evT P e env = kTru (evA P e env) := by
  cases e <;> first | (cases h; done) | (simp only [evT, kTru]; rfl)
@[simp] theorem t_var {P : Par} {env : Env} {i : Nat} : evT P (.var i) env = kTru (evA P (.var i) env) := s_tru rfl
@[simp] theorem t_cst {P : Par} {env : Env} {d : D} : evT P (.cst d) env = kTru (evA P (.cst d) env) := s_tru rfl
@[simp] theorem t_neg {P : Par} {env : Env} {a : E} : evT P (.neg a) env = kTru (evA P (.neg a) env) := s_tru rfl
@[simp] theorem t_bin {P : Par} {env : Env} {o : Bo} {a b : E} : evT P (.bin o a b) env = kTru (evA P (.bin o a b) env) := s_tru rfl
@[simp] theorem t_cmp {P : Par} {env : Env} {o : Co} {a b : E} : evT P (.cmp o a b) env = kTru (evA P (.cmp o a b) env) := s_tru rfl
@[simp] theorem t_chain {P : Par} {env : Env} {o p : Co} {a b c : E} : evT P (.chain o p a b c) env = kTru (evA P (.chain o p a b c) env) := s_tru rfl
@[simp] theorem t_call {P : Par} {env : Env} {f : Nat} {es : Es} : evT P (.call f es) env = kTru (evA P (.call f es) env) := s_tru rfl
@[simp] theorem t_bi {P : Par} {env : Env} {f : Bi} {es : Es} : evT P (.bi f es) env = kTru (evA P (.bi f es) env) := s_tru rfl
@[simp] theorem t_idx {P : Par} {env : Env} {a b : E} : evT P (.idx a b) env = kTru (evA P (.idx a b) env) := s_tru rfl
@[simp] theorem t_slc {P : Par} {env : Env} {a : E} {l h : Es} : evT P (.slc a l h) env = kTru (evA P (.slc a l h) env) := s_tru rfl
@[simp] theorem t_gx {P : Par} {env : Env} {q : Bool} {el : E} {t : Tg} {it : It} {c : Es} {ws : List Nat} : evT P (.gx q el t it c ws) env = kTru (evA P (.gx q el t it c ws) env) := s_tru rfl
@[simp] theorem t_lc {P : Par} {env : Env} {el : E} {t : Tg} {it : It} {c : Es} {ws : List Nat} : evT P (.lc el t it c ws) env = kTru (evA P (.lc el t it c ws) env) := s_tru rfl
@[simp] theorem t_mut {P : Par} {env : Env} {m : Mm} {i : Nat} {es : Es} : evT P (.mut m i es) env = kTru (evA P (.mut m i es) env) := s_tru rfl
@[simp] theorem te_tup {P : Par} {env : Env} {es : Es} : evT P (.tup es) env = kTru (evA P (.tup es) env) := s_tru rfl
@[simp] theorem te_lst {P : Par} {env : Env} {es : Es} : evT P (.lst es) env = kTru (evA P (.lst es) env) := s_tru rfl
@[simp] theorem t_sm {P : Par} {env : Env} {m : Sm} {a : E} {es : Es} : evT P (.sm m a es) env = kTru (evA P (.sm m a es) env) := s_tru rfl
/-- not -/
def kNt (o : Out Bool) : Out A := o.bind fun b env => .ok (.val (.bl (!b))) env
@[simp] theorem s_nt {P : Par} {a : E} {env : Env} : evA P (.nt a) env = kNt (kTru (evA P a env)) := by
  simp only [evA]
  unfold kNt kTru
  cases evA P a env with
  | ok x e =>
    simp only [Out.bind_ok]
    unfold tru1
    cases (x.look e).bind D.truth <;> rfl
  | exn x e => rfl
  | stuck => rfl
@[simp] theorem k_nt {b : Bool} {env : Env} : kNt (.ok b env) = .ok (.val (.bl (!b))) env := rfl
def kNtT (o : Out Bool) : Out Bool := o.bind fun b env => .ok (!b) env
@[simp] theorem t_nt {P : Par} {a : E} {env : Env} : evT P (.nt a) env = kNtT (evT P a env) := by simp only [evT]; rfl
@[simp] theorem k_ntt {b : Bool} {env : Env} : kNtT (.ok b env) = .ok (!b) env := rfl
@[simp] theorem k_nttx {x : Exn} {env : Env} : kNtT (.exn x env) = .exn x env := rfl
/-- and, or as tests -/
def kAnT (P : Par) (b : E) (o : Out Bool) : Out Bool := o.bind fun k env => if k then evT P b env else .ok false env
def kOrT (P : Par) (b : E) (o : Out Bool) : Out Bool := o.bind fun k env => if k then .ok true env else evT P b env
@[simp] theorem t_an {P : Par} {a b : E} {env : Env} : evT P (.an a b) env = kAnT P b (evT P a env) := by simp only [evT]; rfl
@[simp] theorem t_or {P : Par} {a b : E} {env : Env} : evT P (.or a b) env = kOrT P b (evT P a env) := by simp only [evT]; rfl
@[simp] theorem k_ant1 {P : Par} {b : E} {env : Env} : kAnT P b (.ok true env) = evT P b env := rfl
@[simp] theorem k_ant0 {P : Par} {b : E} {env : Env} : kAnT P b (.ok false env) = .ok false env := rfl
@[simp] theorem k_ort1 {P : Par} {b : E} {env : Env} : kOrT P b (.ok true env) = .ok true env := rfl
@[simp] theorem k_ort0 {P : Par} {b : E} {env : Env} : kOrT P b (.ok false env) = evT P b env := rfl
@[simp] theorem k_antc {P : Par} {b : E} {env : Env} {c : Bool} : kAnT P b (.ok c env) = if c then evT P b env else .ok false env := rfl
@[simp] theorem k_ortc {P : Par} {b : E} {env : Env} {c : Bool} : kOrT P b (.ok c env) = if c then .ok true env else evT P b env := rfl
/-- and, or as values -/
def kAn (P : Par) (b : E) (o : Out A) : Out A := o.bind fun x env => (tru1 x env).bind fun k env => if k then evA P b env else .ok x env
def kOr (P : Par) (b : E) (o : Out A) : Out A := o.bind fun x env => (tru1 x env).bind fun k env => if k then .ok x env else evA P b env
@[simp] theorem s_an {P : Par} {a b : E} {env : Env} : evA P (.an a b) env = kAn P b (evA P a env) := by
  simp only [evA]; unfold kAn
  congr; funext x e
  unfold tru1
  cases (x.look e).bind D.truth with
  | none => rfl
  | some c => cases c <;> rfl
@[simp] theorem s_or {P : Par} {a b : E} {env : Env} : evA P (.or a b) env = kOr P b (evA P a env) := by
  simp only [evA]; unfold kOr
  congr; funext x e
  unfold tru1
  cases (x.look e).bind D.truth with
  | none => rfl
  | some c => cases c <;> rfl
@[simp] theorem k_anb {P : Par} {b : E} {env : Env} {c : Bool} : kAn P b (.ok (.val (.bl c)) env) = if c then evA P b env else .ok (.val (.bl false)) env := by cases c <;> rfl
@[simp] theorem k_orb {P : Par} {b : E} {env : Env} {c : Bool} : kOr P b (.ok (.val (.bl c)) env) = if c then .ok (.val (.bl true)) env else evA P b env := by cases c <;> rfl
/-- if-else -/
def kIte (P : Par) (a b : E) (o : Out Bool) : Out A := o.bind fun k env => if k then evA P a env else evA P b env
@[simp] theorem s_ite {P : Par} {c a b : E} {env : Env} : evA P (.ite c a b) env = kIte P a b (evT P c env) := by simp only [evA]; rfl
@[simp] theorem k_ite {P : Par} {a b : E} {k : Bool} {env : Env} : kIte P a b (.ok k env) = if k then evA P a env else evA P b env := rfl
/-- rows of expressions -/
def kCons (P : Par) (es : Es) (o : Out A) : Out (List A) := o.bind fun a env => (evAs P es env).bind fun as env => .ok (a :: as) env
def kCons2 (a : A) (o : Out (List A)) : Out (List A) := o.bind fun as env => .ok (a :: as) env
@[simp] theorem s_nil {P : Par} {env : Env} : evAs P .nil env = .ok [] env := by simp only [evAs]
@[simp] theorem s_cons {P : Par} {e : E} {es : Es} {env : Env} : evAs P (.cons e es) env = kCons P es (evA P e env) := by simp only [evAs]; rfl
@[simp] theorem k_cons {P : Par} {es : Es} {a : A} {env : Env} : kCons P es (.ok a env) = kCons2 a (evAs P es env) := rfl
@[simp] theorem k_cons2 {a : A} {as : List A} {env : Env} : kCons2 a (.ok as env) = .ok (a :: as) env := rfl
def kV (P : Par) (es : Es) (o : Out A) : Out (List D) := o.bind fun a env => (a.freeze env).bind fun d env => (evVs P es env).bind fun ds env => .ok (d :: ds) env
def kV1 (P : Par) (es : Es) (o : Out D) : Out (List D) := o.bind fun d env => (evVs P es env).bind fun ds env => .ok (d :: ds) env
def kV2 (d : D) (o : Out (List D)) : Out (List D) := o.bind fun ds env => .ok (d :: ds) env
@[simp] theorem s_vnil {P : Par} {env : Env} : evVs P .nil env = .ok [] env := by simp only [evVs]
@[simp] theorem s_vcons {P : Par} {e : E} {es : Es} {env : Env} : evVs P (.cons e es) env = kV P es (evA P e env) := by simp only [evVs]; rfl
@[simp] theorem k_v {P : Par} {es : Es} {a : A} {env : Env} : kV P es (.ok a env) = kV1 P es (a.freeze env) := rfl
@[simp] theorem k_v1 {P : Par} {es : Es} {d : D} {env : Env} : kV1 P es (.ok d env) = kV2 d (evVs P es env) := rfl
@[simp] theorem k_v2 {d : D} {ds : List D} {env : Env} : kV2 d (.ok ds env) = .ok (d :: ds) env := rfl
def kTup (o : Out (List D)) : Out A := o.bind fun ds env => if ds.length ≤ sizeLine then .ok (.val (.tup ds)) env else .stuck
def kLst (o : Out (List D)) : Out A := o.bind fun ds env => if ds.length ≤ sizeLine then .ok (.tmp (.lst ds)) env else .stuck
@[simp] theorem s_tup {P : Par} {es : Es} {env : Env} : evA P (.tup es) env = kTup (evVs P es env) := by simp only [evA]; rfl
@[simp] theorem s_lst {P : Par} {es : Es} {env : Env} : evA P (.lst es) env = kLst (evVs P es env) := by simp only [evA]; rfl
theorem sz0 {α : Type} : ([] : List α).length ≤ sizeLine := Nat.zero_le _
@[simp] theorem k_tup0 {env : Env} : kTup (.ok [] env) = .ok (.val (.tup [])) env := rfl
@[simp] theorem k_lst0 {env : Env} : kLst (.ok [] env) = .ok (.tmp (.lst [])) env := rfl
@[simp] theorem k_tup {ds : List D} {env : Env} (h : ds.length ≤ 100) : kTup (.ok ds env) = .ok (.val (.tup ds)) env := by
  unfold kTup
  rw [Out.bind_ok, if_pos (Nat.le_trans h (by decide))]
@[simp] theorem k_lst {ds : List D} {env : Env} (h : ds.length ≤ 100) : kLst (.ok ds env) = .ok (.tmp (.lst ds)) env := by
  unfold kLst
  rw [Out.bind_ok, if_pos (Nat.le_trans h (by decide))]
/-- built-in functions -/
def kBi (f : Bi) (o : Out (List A)) : Out A := o.bind fun as env => match lookAll as env with
  | some ds => match biF f ds with
    | some r => .ok r.a env
    | none => .stuck
  | none => .stuck
@[simp] theorem s_bi {P : Par} {f : Bi} {es : Es} {env : Env} : evA P (.bi f es) env = kBi f (evAs P es env) := by simp only [evA]; rfl
def kBi2 (f : Bi) (env : Env) (o : Option (List D)) : Out A := match o with
  | some ds => match biF f ds with
    | some r => .ok r.a env
    | none => .stuck
  | none => .stuck
def kBi3 (env : Env) (o : Option BR) : Out A := match o with
  | some r => .ok r.a env
  | none => .stuck
@[simp] theorem k_bi {f : Bi} {as : List A} {env : Env} : kBi f (.ok as env) = kBi2 f env (lookAll as env) := rfl
@[simp] theorem k_bi2 {f : Bi} {ds : List D} {env : Env} : kBi2 f env (some ds) = kBi3 env (biF f ds) := rfl
@[simp] theorem k_bi3 {r : BR} {env : Env} : kBi3 env (some r) = .ok r.a env := rfl
@[simp] theorem la_nil {env : Env} : lookAll [] env = some [] := rfl
@[simp] theorem la_val {d : D} {as : List A} {env : Env} : lookAll (.val d :: as) env = (lookAll as env).map (d :: ·) := by
  show (match (A.val d).look env, lookAll as env with | some d, some ds => some (d :: ds) | _, _ => none) = _
  rw [look_val]; cases lookAll as env <;> rfl
@[simp] theorem la_tmp {d : D} {as : List A} {env : Env} : lookAll (.tmp d :: as) env = (lookAll as env).map (d :: ·) := by
  show (match (A.tmp d).look env, lookAll as env with | some d, some ds => some (d :: ds) | _, _ => none) = _
  rw [look_tmp]; cases lookAll as env <;> rfl
@[simp] theorem la_own {i : Nat} {as : List A} {env : Env} : lookAll (.own i :: as) env = ((A.own i).look env).bind fun d => (lookAll as env).map (d :: ·) := by
  show (match (A.own i).look env, lookAll as env with | some d, some ds => some (d :: ds) | _, _ => none) = _
  cases (A.own i).look env <;> cases lookAll as env <;> rfl
/-- calls -/
def kCall (P : Par) (f : Nat) (o : Out (List A)) : Out A := o.bind fun as env => callM P.F f (P.lend f) as env
@[simp] theorem s_call {P : Par} {f : Nat} {es : Es} {env : Env} : evA P (.call f es) env = kCall P f (evAs P es env) := by simp only [evA]; rfl
@[simp] theorem k_call {P : Par} {f : Nat} {as : List A} {env : Env} : kCall P f (.ok as env) = callM P.F f (P.lend f) as env := rfl
/-! statements -/
def kSeq (P : Par) (r : Ss) (o : Out Fl) : Out Fl := match o with
  | .ok .next env => evSs P r env
  | o => o
@[simp] theorem s_snil {P : Par} {env : Env} : evSs P .nil env = .ok .next env := by simp only [evSs]
@[simp] theorem s_scons {P : Par} {s : S} {r : Ss} {env : Env} : evSs P (.cons s r) env = kSeq P r (evS P s env) := by simp only [evSs]; rfl
@[simp] theorem k_seq {P : Par} {r : Ss} {env : Env} : kSeq P r (.ok .next env) = evSs P r env := rfl
@[simp] theorem k_seqr {P : Par} {r : Ss} {a : A} {env : Env} : kSeq P r (.ok (.ret a) env) = .ok (.ret a) env := rfl
@[simp] theorem k_seqb {P : Par} {r : Ss} {env : Env} : kSeq P r (.ok .brk env) = .ok .brk env := rfl
@[simp] theorem k_seqc {P : Par} {r : Ss} {env : Env} : kSeq P r (.ok .cont env) = .ok .cont env := rfl
@[simp] theorem k_seqx {P : Par} {r : Ss} {x : Exn} {env : Env} : kSeq P r (.exn x env) = .exn x env := rfl
def kIff (P : Par) (a b : Ss) (o : Out Bool) : Out Fl := o.bind fun k env => if k then evSs P a env else evSs P b env
@[simp] theorem s_iff {P : Par} {c : E} {a b : Ss} {env : Env} : evS P (.iff c a b) env = kIff P a b (evT P c env) := by simp only [evS]; rfl
@[simp] theorem k_iff1 {P : Par} {a b : Ss} {env : Env} : kIff P a b (.ok true env) = evSs P a env := rfl
@[simp] theorem k_iff0 {P : Par} {a b : Ss} {env : Env} : kIff P a b (.ok false env) = evSs P b env := rfl
def kRet (P : Par) (o : Out A) : Out Fl := o.bind fun a env => match a with
    | .own i => if i < P.np then (a.freeze env).bind fun d env => .ok (.ret (.val d)) env else match env[i]? with
      | some (some (.own d)) => .ok (.ret (.tmp d)) (env.set i none)
      | _ => .stuck
    | a => .ok (.ret a) env
@[simp] theorem s_ret {P : Par} {e : E} {env : Env} : evS P (.ret e) env = kRet P (evA P e env) := by simp only [evS]; rfl
@[simp] theorem k_retv {P : Par} {d : D} {env : Env} : kRet P (.ok (.val d) env) = .ok (.ret (.val d)) env := rfl
@[simp] theorem k_rett {P : Par} {d : D} {env : Env} : kRet P (.ok (.tmp d) env) = .ok (.ret (.tmp d)) env := rfl
@[simp] theorem k_retx {P : Par} {x : Exn} {env : Env} : kRet P (.exn x env) = .exn x env := rfl
@[simp] theorem s_retN {P : Par} {env : Env} : evS P .retN env = .ok (.ret (.val .non)) env := by simp only [evS]
def kExpr (o : Out A) : Out Fl := o.bind fun _ env => .ok .next env
@[simp] theorem s_expr {P : Par} {e : E} {env : Env} : evS P (.expr e) env = kExpr (evA P e env) := by simp only [evS]; rfl
@[simp] theorem k_expr {a : A} {env : Env} : kExpr (.ok a env) = .ok .next env := rfl
/-- stores -/
def kAsg (t : Tg) (o : Out A) : Out Fl := o.bind fun a env => match t, a with
    | .nm i, .tmp d => if i < env.length then .ok .next (env.set i (some (.own d))) else .stuck
    | t, a => (a.freeze env).bind fun d env => match bindT t d env with
      | some env => .ok .next env
      | none => .stuck
@[simp] theorem s_asg {P : Par} {t : Tg} {e : E} {env : Env} : evS P (.asg t e) env = kAsg t (evA P e env) := by simp only [evS]; rfl
@[simp] theorem k_asgt {i : Nat} {d : D} {env : Env} : kAsg (.nm i) (.ok (.tmp d) env) = if i < env.length then .ok .next (env.set i (some (.own d))) else .stuck := rfl
@[simp] theorem k_asgv {i : Nat} {d : D} {env : Env} : kAsg (.nm i) (.ok (.val d) env) = if i < env.length then .ok .next (env.set i (some (.val d))) else .stuck := by
  show (match (if i < env.length then some (env.set i (some (.val d))) else none) with | some env => Out.ok Fl.next env | none => .stuck) = _
  split <;> (rename_i h; split at h <;> simp_all)
@[simp] theorem k_asgx {t : Tg} {x : Exn} {env : Env} : kAsg t (.exn x env) = .exn x env := rfl
@[simp] theorem k_asgp {ts : Tg} {ds : List D} {env : Env} : kAsg (.tp ts) (.ok (.val (.tup ds)) env) = (match bindT.bindTs ts ds env with | some env => .ok .next env | none => .stuck) := rfl
@[simp] theorem s_brk {P : Par} {env : Env} : evS P .brk env = .ok .brk env := by simp only [evS]
@[simp] theorem s_cont {P : Par} {env : Env} : evS P .cont env = .ok .cont env := by simp only [evS]
@[simp] theorem s_pass {P : Par} {env : Env} : evS P .pass env = .ok .next env := by simp only [evS]
/-! ### tests that come together -/
@[simp] theorem i_and {p : Prop} [Decidable p] {d : Bool} {env : Env} : (if p then Out.ok (A.val (.bl d)) env else Out.ok (A.val (.bl false)) env) = Out.ok (A.val (.bl (decide p && d))) env := by
  by_cases h : p <;> simp [h]
@[simp] theorem i_or {p : Prop} [Decidable p] {d : Bool} {env : Env} : (if p then Out.ok (A.val (.bl true)) env else Out.ok (A.val (.bl d)) env) = Out.ok (A.val (.bl (decide p || d))) env := by
  by_cases h : p <;> simp [h]
@[simp] theorem i_andT {p : Prop} [Decidable p] {d : Bool} {env : Env} : (if p then Out.ok d env else Out.ok false env) = Out.ok (decide p && d) env := by
  by_cases h : p <;> simp [h]
@[simp] theorem i_orT {p : Prop} [Decidable p] {d : Bool} {env : Env} : (if p then Out.ok true env else Out.ok d env) = Out.ok (decide p || d) env := by
  by_cases h : p <;> simp [h]
/-! ### x[i] = v on an owned list -/
def kSetI (P : Par) (i : Nat) (ix : E) (o : Out A) : Out Fl := o.bind fun a env => (a.freeze env).bind fun d env => (evA P ix env).bind fun y env => match y.look env, env[i]? with
      | some x, some (some (.own o)) => match setF o x d with
        | some o' => .ok .next (env.set i (some (.own o')))
        | none => .stuck
      | _, _ => .stuck
def kSetI1 (P : Par) (i : Nat) (ix : E) (o : Out D) : Out Fl := o.bind fun d env => (evA P ix env).bind fun y env => match y.look env, env[i]? with
      | some x, some (some (.own o)) => match setF o x d with
        | some o' => .ok .next (env.set i (some (.own o')))
        | none => .stuck
      | _, _ => .stuck
def kSetI2 (i : Nat) (d : D) (o : Out A) : Out Fl := o.bind fun y env => match y.look env, env[i]? with
      | some x, some (some (.own o)) => match setF o x d with
        | some o' => .ok .next (env.set i (some (.own o')))
        | none => .stuck
      | _, _ => .stuck
def kSetI3 (i : Nat) (d x : D) (env : Env) (s : Option (Option Sl)) : Out Fl := match s with
  | some (some (.own o)) => match setF o x d with
    | some o' => .ok .next (env.set i (some (.own o')))
    | none => .stuck
  | _ => .stuck
def sSet (P : Par) (i : Nat) (ix e : E) (env : Env) (s : Option (Option Sl)) : Out Fl := match s with
  | some (some (.own _)) => kSetI P i ix (evA P e env)
  | _ => .stuck
@[simp] theorem s_setI {P : Par} {i : Nat} {ix e : E} {env : Env} : evS P (.setI i ix e) env = sSet P i ix e env env[i]? := by
  simp only [evS]
  unfold sSet
  cases h : env[i]? with
  | none => rfl
  | some s =>
    cases s with
    | none => rfl
    | some sl => cases sl <;> rfl
@[simp] theorem k_set {P : Par} {i : Nat} {ix e : E} {env : Env} {d : D} : sSet P i ix e env (some (some (.own d))) = kSetI P i ix (evA P e env) := rfl
@[simp] theorem k_seti {P : Par} {i : Nat} {ix : E} {a : A} {env : Env} : kSetI P i ix (.ok a env) = kSetI1 P i ix (a.freeze env) := rfl
@[simp] theorem k_seti1 {P : Par} {i : Nat} {ix : E} {d : D} {env : Env} : kSetI1 P i ix (.ok d env) = kSetI2 i d (evA P ix env) := rfl
@[simp] theorem k_seti2 {i : Nat} {d x : D} {env : Env} : kSetI2 i d (.ok (.val x) env) = kSetI3 i d x env env[i]? := by
  unfold kSetI2 kSetI3
  rw [Out.bind_ok, look_val]
  cases h : env[i]? with
  | none => rfl
  | some s =>
    cases s with
    | none => rfl
    | some sl => cases sl <;> rfl
@[simp] theorem k_seti3 {i : Nat} {d x o : D} {env : Env} : kSetI3 i d x env (some (some (.own o))) = (match setF o x d with | some o' => .ok .next (env.set i (some (.own o'))) | none => .stuck) := rfl
theorem look_own {i : Nat} {env : Env} {s : Sl} (h : env[i]? = some (some s)) : (A.own i).look env = some s.d := by
  show (match env[i]? with | some (some s) => some s.d | _ => none) = _
  rw [h]
/-! ### subscripts by literals -/
theorem ixN_lit {n i : Nat} (h : i < n) : L2.ixN n (i : Int) = some i := by
  unfold L2.ixN
  rw [if_pos (by omega), if_pos (by omega), Int.toNat_natCast]
theorem atI_lit {α : Type} {xs : List α} {i : Nat} {x : α} (h : xs[i]? = some x) : L2.atI xs (i : Int) = some x := by
  unfold L2.atI
  rw [ixN_lit (List.getElem?_eq_some_iff.mp h).1]
  exact h
@[simp] theorem at0 {α : Type} {x : α} {xs : List α} : L2.atI (x :: xs) 0 = some x := atI_lit (i := 0) rfl
@[simp] theorem at1 {α : Type} {x y : α} {xs : List α} : L2.atI (x :: y :: xs) 1 = some y := atI_lit (i := 1) rfl
@[simp] theorem at2 {α : Type} {x y z : α} {xs : List α} : L2.atI (x :: y :: z :: xs) 2 = some z := atI_lit (i := 2) rfl
@[simp] theorem at3 {α : Type} {x y z w : α} {xs : List α} : L2.atI (x :: y :: z :: w :: xs) 3 = some w := atI_lit (i := 3) rfl
theorem set_lit {xs : List D} {i : Nat} {v : D} (h : i < xs.length) : setF (.lst xs) (.int (i : Int)) v = some (.lst (xs.set i v)) := by
  show (L2.ixN xs.length (i : Int)).map (fun k => D.lst (xs.set k v)) = _
  rw [ixN_lit h]; rfl
@[simp] theorem set0 {x v : D} {xs : List D} : setF (.lst (x :: xs)) (.int 0) v = some (.lst (v :: xs)) := set_lit (i := 0) (xs := x :: xs) (by simp)
@[simp] theorem set1 {x y v : D} {xs : List D} : setF (.lst (x :: y :: xs)) (.int 1) v = some (.lst (x :: v :: xs)) := set_lit (i := 1) (xs := x :: y :: xs) (by simp)
@[simp] theorem set3 {x y z w v : D} {xs : List D} : setF (.lst (x :: y :: z :: w :: xs)) (.int 3) v = some (.lst (x :: y :: z :: v :: xs)) := set_lit (i := 3) (xs := x :: y :: z :: w :: xs) (by simp)
/-! ### a def's run -/
def exmTab (t : List (List Bool)) (x c : Nat) : Option Bool := (t[x]?).bind (·[c]?)
def mkP (fs : List Fn) (exm : Nat → Nat → Option Bool) (fuel k np : Nat) : Par := ⟨callF fs exm fuel k, fun g => (fs[g]?.map (·.lend)).getD [], fuel, np, exm⟩
def endF (lend : List Bool) (o : Out Fl) : CR := match o with
  | .ok (.ret (.own _)) _ => .stuck
  | .ok (.ret a) env => .ret a (maskO lend env)
  | .ok .next env => .ret (.val .non) (maskO lend env)
  | .ok _ _ => .stuck
  | .exn x env => .exn x (maskO lend env)
  | .stuck => .stuck
@[simp] theorem e_val {ls : List Bool} {d : D} {env : Env} : endF ls (.ok (.ret (.val d)) env) = .ret (.val d) (maskO ls env) := rfl
@[simp] theorem e_tmp {ls : List Bool} {d : D} {env : Env} : endF ls (.ok (.ret (.tmp d)) env) = .ret (.tmp d) (maskO ls env) := rfl
@[simp] theorem e_next {ls : List Bool} {env : Env} : endF ls (.ok .next env) = .ret (.val .non) (maskO ls env) := rfl
@[simp] theorem e_exn {ls : List Bool} {x : Exn} {env : Env} : endF ls (.exn x env) = .exn x (maskO ls env) := rfl
theorem callF_at {fs : List Fn} {exm : Nat → Nat → Option Bool} {fuel k j : Nat} {ps : List Sl} {fn : Fn} (hf : fs[j]? = some fn) (hp : ps.length = fn.np) :
    callF fs exm fuel (k + 1) j ps = endF fn.lend (evSs (mkP fs exm fuel k fn.np) fn.body (ps.map some ++ List.replicate (fn.n - fn.np) none)) := by
  show (match fs[j]? with | none => CR.stuck | some fn => _) = _
  rw [hf]
  dsimp only
  rw [if_pos hp]
  rfl
@[simp] theorem mk_F {fs : List Fn} {exm : Nat → Nat → Option Bool} {fuel k np : Nat} : (mkP fs exm fuel k np).F = callF fs exm fuel k := rfl
@[simp] theorem mk_np {fs : List Fn} {exm : Nat → Nat → Option Bool} {fuel k np : Nat} : (mkP fs exm fuel k np).np = np := rfl
@[simp] theorem mk_fuel {fs : List Fn} {exm : Nat → Nat → Option Bool} {fuel k np : Nat} : (mkP fs exm fuel k np).fuel = fuel := rfl
@[simp] theorem mk_exm {fs : List Fn} {exm : Nat → Nat → Option Bool} {fuel k np : Nat} : (mkP fs exm fuel k np).exm = exm := rfl
theorem mk_lend {fs : List Fn} {exm : Nat → Nat → Option Bool} {fuel k np g : Nat} {fn : Fn} (h : fs[g]? = some fn) : (mkP fs exm fuel k np).lend g = fn.lend := by
  show ((fs[g]?.map (·.lend)).getD []) = _
  rw [h]; rfl
@[simp] theorem m_nil {env : Env} : maskO [] env = [] := by cases env <;> rfl
@[simp] theorem m_true {ls : List Bool} {s : Option Sl} {env : Env} : maskO (true :: ls) (s :: env) = s :: maskO ls env := rfl
@[simp] theorem m_false {ls : List Bool} {s : Option Sl} {env : Env} : maskO (false :: ls) (s :: env) = none :: maskO ls env := rfl
/-! a call of known values -/
def kFrz (as : List A) (o : Out (List A)) : Out (List A) := o
/-- all that is handed over are values that stay -/
def vals : List A → Option (List Sl)
  | [] => some []
  | .val d :: as => (vals as).map (Sl.val d :: ·)
  | .tmp d :: as => (vals as).map (Sl.val d :: ·)
  | .own _ :: _ => none
def lentV : List A → List Bool → Option (List Sl)
  | [], _ => some []
  | .val d :: as, _ :: ls => (lentV as ls).map (Sl.val d :: ·)
  | .val d :: as, [] => (lentV as []).map (Sl.val d :: ·)
  | .tmp d :: as, true :: ls => (lentV as ls).map (Sl.own d :: ·)
  | .tmp d :: as, _ => (vals as).map (Sl.val d :: ·)
  | .own _ :: _, _ => none
end Ev
end
section
set_option maxRecDepth 100000
/-! the machine, its other half: slices, changes, loops, comprehensions, exceptions -/
namespace Ev
open PySem

/-- a slice -/
def cutA (env : Env) (i j : Option Int) : Option D → Out A
  | some (.lst xs) => .ok (.tmp (.lst (cutD xs i j))) env
  | some (.tup xs) => .ok (.val (.tup (cutD xs i j))) env
  | some (.str s) => if s.length ≤ sizeLine then .ok (.val (.str (L2.cutS s i j))) env else .stuck
  | _ => .stuck
def kSlc (P : Par) (lo hi : Es) (o : Out A) : Out A := o.bind fun x env => (evO P lo env).bind fun i env => (evO P hi env).bind fun j env => cutA env i j (x.look env)
def kSlc2 (P : Par) (hi : Es) (x : A) (o : Out (Option Int)) : Out A := o.bind fun i env => (evO P hi env).bind fun j env => cutA env i j (x.look env)
def kSlc3 (x : A) (i : Option Int) (o : Out (Option Int)) : Out A := o.bind fun j env => cutA env i j (x.look env)
@[simp] theorem s_slc {P : Par} {a : E} {lo hi : Es} {env : Env} : evA P (.slc a lo hi) env = kSlc P lo hi (evA P a env) := by
  unfold kSlc
  simp only [evA]
  congr
@[simp] theorem k_slc {P : Par} {lo hi : Es} {x : A} {env : Env} : kSlc P lo hi (.ok x env) = kSlc2 P hi x (evO P lo env) := rfl
@[simp] theorem k_slc2 {P : Par} {hi : Es} {x : A} {i : Option Int} {env : Env} : kSlc2 P hi x (.ok i env) = kSlc3 x i (evO P hi env) := rfl
@[simp] theorem k_slc3 {x : A} {i j : Option Int} {env : Env} : kSlc3 x i (.ok j env) = cutA env i j (x.look env) := rfl
@[simp] theorem c_lst {env : Env} {i j : Option Int} {xs : List D} : cutA env i j (some (.lst xs)) = .ok (.tmp (.lst (cutD xs i j))) env := rfl
@[simp] theorem c_tup {env : Env} {i j : Option Int} {xs : List D} : cutA env i j (some (.tup xs)) = .ok (.val (.tup (cutD xs i j))) env := rfl
@[simp] theorem c_str {env : Env} {i j : Option Int} {s : Str} : cutA env i j (some (.str s)) = if s.length ≤ sizeLine then .ok (.val (.str (L2.cutS s i j))) env else .stuck := rfl
def kO (o : Out A) : Out (Option Int) := o.bind fun a env => match a with
    | .val (.int i) => .ok (some i) env
    | _ => .stuck
@[simp] theorem s_onil {P : Par} {env : Env} : evO P .nil env = .ok none env := by simp only [evO]
@[simp] theorem s_ocons {P : Par} {e : E} {es : Es} {env : Env} : evO P (.cons e es) env = kO (evA P e env) := by simp only [evO]; rfl
@[simp] theorem k_o {i : Int} {env : Env} : kO (.ok (.val (.int i)) env) = .ok (some i) env := rfl
/-- a change at a name -/
def mutA (m : Mm) (i : Nat) (ds : List D) (env : Env) (s : Option (Option Sl)) : Out A := match s with
  | some (some (.own d)) => match mutF m d ds with
    | some (d', v) => .ok (.val v) (env.set i (some (.own d')))
    | none => .stuck
  | _ => .stuck
def kMut (m : Mm) (i : Nat) (o : Out (List D)) : Out A := o.bind fun ds env => mutA m i ds env env[i]?
def sMut (P : Par) (m : Mm) (i : Nat) (es : Es) (env : Env) (s : Option (Option Sl)) : Out A := match s with
  | some (some (.own (.lst _))) => kMut m i (evVs P es env)
  | _ => .stuck
@[simp] theorem s_mut {P : Par} {m : Mm} {i : Nat} {es : Es} {env : Env} : evA P (.mut m i es) env = sMut P m i es env env[i]? := by
  have key : ∀ ds (env : Env), (match env[i]? with
      | some (some (.own d)) => (match mutF m d ds with
        | some (d', v) => Out.ok (.val v) (env.set i (some (.own d')))
        | none => .stuck)
      | _ => .stuck : Out A) = mutA m i ds env env[i]? := by
    intro ds env
    cases env[i]? with
    | none => rfl
    | some s => cases s with
      | none => rfl
      | some s => cases s <;> rfl
  simp only [evA, key]
  unfold sMut
  cases h : env[i]? with
  | none => rfl
  | some s =>
    cases s with
    | none => rfl
    | some sl => cases sl with
      | val _ => rfl
      | own d => cases d <;> rfl
@[simp] theorem s_mutv {P : Par} {m : Mm} {i : Nat} {es : Es} {env : Env} {xs : List D} : sMut P m i es env (some (some (.own (.lst xs)))) = kMut m i (evVs P es env) := rfl
@[simp] theorem k_mut {m : Mm} {i : Nat} {ds : List D} {env : Env} : kMut m i (.ok ds env) = mutA m i ds env env[i]? := rfl
@[simp] theorem m_app {i : Nat} {v : D} {xs : List D} {env : Env} : mutA .append i [v] env (some (some (.own (.lst xs)))) = if xs.length < sizeLine then .ok (.val .non) (env.set i (some (.own (.lst (xs ++ [v]))))) else .stuck := by
  show (match (if xs.length < sizeLine then some (D.lst (xs ++ [v]), D.non) else none) with | some (d', v) => Out.ok (A.val v) (env.set i (some (.own d'))) | none => .stuck) = _
  by_cases h : xs.length < sizeLine
  · simp only [h, if_true]
  · simp only [h, if_false]
/-- one turn of a loop -/
def kBind (P : Par) (b : Ss) (o : Option Env) : Out Fl := match o with
  | some env => evSs P b env
  | none => .stuck
def turn (P : Par) (t : Tg) (b : Ss) (d : D) (env : Env) : Out Fl := kBind P b (bindT t d env)
@[simp] theorem k_bind {P : Par} {b : Ss} {env : Env} : kBind P b (some env) = evSs P b env := rfl
@[simp] theorem b_nm {i : Nat} {d : D} {env : Env} : bindT (.nm i) d env = if i < env.length then some (env.set i (some (.val d))) else none := by simp only [bindT]
@[simp] theorem b_tp {ts : Tg} {ds : List D} {env : Env} : bindT (.tp ts) (.tup ds) env = bindT.bindTs ts ds env := by simp only [bindT]
@[simp] theorem b_tpl {ts : Tg} {ds : List D} {env : Env} : bindT (.tp ts) (.lst ds) env = bindT.bindTs ts ds env := by simp only [bindT]
def kBs (ts : Tg) (ds : List D) (o : Option Env) : Option Env := match o with
  | some env => bindT.bindTs ts ds env
  | none => none
@[simp] theorem b_nil {env : Env} : bindT.bindTs .nil [] env = some env := by simp only [bindT.bindTs]
@[simp] theorem b_cons {t ts : Tg} {d : D} {ds : List D} {env : Env} : bindT.bindTs (.cons t ts) (d :: ds) env = kBs ts ds (bindT t d env) := by simp only [bindT.bindTs]; rfl
@[simp] theorem k_bs {ts : Tg} {ds : List D} {env : Env} : kBs ts ds (some env) = bindT.bindTs ts ds env := rfl
def kFor (P : Par) (t : Tg) (b : Ss) (o : Out (List D)) : Out Fl := o.bind fun ds env => forL (turn P t b) ds env
@[simp] theorem s_for {P : Par} {t : Tg} {it : It} {b : Ss} {env : Env} : evS P (.forr t it b) env = kFor P t b (evI P it env) := by
  unfold kFor turn
  simp only [evS]
  congr
@[simp] theorem k_for {P : Par} {t : Tg} {b : Ss} {ds : List D} {env : Env} : kFor P t b (.ok ds env) = forL (turn P t b) ds env := rfl
/-! what is walked -/
def kIt (o : Out A) : Out (List D) := o.bind fun a env => (a.freeze env).bind fun d env => match itemsOf d with
    | some ds => .ok ds env
    | none => .stuck
def kIt2 (o : Out D) : Out (List D) := o.bind fun d env => match itemsOf d with
    | some ds => .ok ds env
    | none => .stuck
def kIt3 (env : Env) (o : Option (List D)) : Out (List D) := match o with
    | some ds => .ok ds env
    | none => .stuck
@[simp] theorem i_of {P : Par} {e : E} {env : Env} : evI P (.of e) env = kIt (evA P e env) := by simp only [evI]; rfl
@[simp] theorem k_it {a : A} {env : Env} : kIt (.ok a env) = kIt2 (a.freeze env) := rfl
@[simp] theorem k_it2 {d : D} {env : Env} : kIt2 (.ok d env) = kIt3 env (itemsOf d) := rfl
@[simp] theorem k_it3 {ds : List D} {env : Env} : kIt3 env (some ds) = .ok ds env := rfl
@[simp] theorem it_lst {ds : List D} : itemsOf (.lst ds) = some ds := rfl
@[simp] theorem it_tup {ds : List D} : itemsOf (.tup ds) = some ds := rfl
def kR1 (o : Out A) : Out (List D) := o.bind fun x env => match x with
    | .val (.int j) => if in62 j then .ok (rngD 0 j.toNat) env else .stuck
    | _ => .stuck
@[simp] theorem i_r1 {P : Par} {e : E} {env : Env} : evI P (.rng1 e) env = kR1 (evA P e env) := by simp only [evI]; rfl
theorem k_r1 {j : Int} {env : Env} (h : in62 j = true) : kR1 (.ok (.val (.int j)) env) = .ok (rngD 0 j.toNat) env := by
  show (if in62 j = true then Out.ok (rngD 0 j.toNat) env else .stuck) = _
  rw [if_pos h]
def kR2 (P : Par) (b : E) (o : Out A) : Out (List D) := o.bind fun x env => (evA P b env).bind fun y env => match x, y with
    | .val (.int i), .val (.int j) => if in62 i && in62 j then .ok (rngD i (j - i).toNat) env else .stuck
    | _, _ => .stuck
def kR22 (x : A) (o : Out A) : Out (List D) := o.bind fun y env => match x, y with
    | .val (.int i), .val (.int j) => if in62 i && in62 j then .ok (rngD i (j - i).toNat) env else .stuck
    | _, _ => .stuck
@[simp] theorem i_r2 {P : Par} {a b : E} {env : Env} : evI P (.rng2 a b) env = kR2 P b (evA P a env) := by simp only [evI]; rfl
@[simp] theorem k_r2 {P : Par} {b : E} {x : A} {env : Env} : kR2 P b (.ok x env) = kR22 x (evA P b env) := rfl
theorem k_r22 {i j : Int} {env : Env} (h : in62 i = true) (h' : in62 j = true) : kR22 (.val (.int i)) (.ok (.val (.int j)) env) = .ok (rngD i (j - i).toNat) env := by
  show (if (in62 i && in62 j) = true then Out.ok (rngD i (j - i).toNat) env else .stuck) = _
  rw [h, h']; rfl
def kEnum (o : Out A) : Out (List D) := o.bind fun a env => (a.freeze env).bind fun d env => match d with
    | .lst ds => .ok (enumD 0 ds) env
    | .tup ds => .ok (enumD 0 ds) env
    | _ => .stuck
@[simp] theorem i_enum {P : Par} {e : E} {env : Env} : evI P (.enum e) env = kEnum (evA P e env) := by simp only [evI]; rfl
@[simp] theorem k_enumt {ds : List D} {env : Env} : kEnum (.ok (.val (.tup ds)) env) = .ok (enumD 0 ds) env := rfl
@[simp] theorem k_enuml {ds : List D} {env : Env} : kEnum (.ok (.val (.lst ds)) env) = .ok (enumD 0 ds) env := rfl
/-! comprehensions: one turn, the whole -/
def kC (P : Par) (elt : E) (ws : List Nat) (o : Out Bool) : Out (Option D) := o.bind fun k env => if k then (evA P elt env).bind fun a env => (a.freeze env).bind fun y env => .ok (some y) (wipeE env ws) else .ok none (wipeE env ws)
def kC1 (ws : List Nat) (o : Out A) : Out (Option D) := o.bind fun a env => (a.freeze env).bind fun y env => .ok (some y) (wipeE env ws)
def kC2 (ws : List Nat) (o : Out D) : Out (Option D) := o.bind fun y env => .ok (some y) (wipeE env ws)
def cTurn (P : Par) (elt : E) (t : Tg) (c : Es) (ws : List Nat) (d : D) (env : Env) : Out (Option D) := match bindT t d env with
  | some env => kC P elt ws (evC P c env)
  | none => .stuck
theorem cTurn_some {P : Par} {elt : E} {t : Tg} {c : Es} {ws : List Nat} {d : D} {env env' : Env} (h : bindT t d env = some env') : cTurn P elt t c ws d env = kC P elt ws (evC P c env') := by unfold cTurn; rw [h]
@[simp] theorem k_c1 {P : Par} {elt : E} {ws : List Nat} {env : Env} : kC P elt ws (.ok true env) = kC1 ws (evA P elt env) := rfl
@[simp] theorem k_c0 {P : Par} {elt : E} {ws : List Nat} {env : Env} : kC P elt ws (.ok false env) = .ok none (wipeE env ws) := rfl
@[simp] theorem k_c11 {ws : List Nat} {a : A} {env : Env} : kC1 ws (.ok a env) = kC2 ws (a.freeze env) := rfl
@[simp] theorem k_c2 {ws : List Nat} {d : D} {env : Env} : kC2 ws (.ok d env) = .ok (some d) (wipeE env ws) := rfl
@[simp] theorem c_nil {P : Par} {env : Env} : evC P .nil env = .ok true env := by simp only [evC]
@[simp] theorem c_cons {P : Par} {e : E} {es : Es} {env : Env} : evC P (.cons e es) env = evT P e env := by simp only [evC]
def kLc (P : Par) (elt : E) (t : Tg) (c : Es) (ws : List Nat) (o : Out (List D)) : Out A := o.bind fun ds env => match lcL (cTurn P elt t c ws) ds [] (wipeE env ws) with
      | .ok ys env' => .ok (.tmp (.lst ys)) (backE env env' ws)
      | _ => .stuck
def kLc2 (env : Env) (ws : List Nat) (o : Out (List D)) : Out A := match o with
      | .ok ys env' => .ok (.tmp (.lst ys)) (backE env env' ws)
      | _ => .stuck
@[simp] theorem s_lc {P : Par} {elt : E} {t : Tg} {it : It} {c : Es} {ws : List Nat} {env : Env} : evA P (.lc elt t it c ws) env = kLc P elt t c ws (evI P it env) := by
  unfold kLc cTurn kC
  simp only [evA]
  all_goals congr
@[simp] theorem k_lc {P : Par} {elt : E} {t : Tg} {c : Es} {ws : List Nat} {ds : List D} {env : Env} : kLc P elt t c ws (.ok ds env) = kLc2 env ws (lcL (cTurn P elt t c ws) ds [] (wipeE env ws)) := rfl
@[simp] theorem k_lc2 {env env' : Env} {ws : List Nat} {ys : List D} : kLc2 env ws (.ok ys env') = .ok (.tmp (.lst ys)) (backE env env' ws) := rfl
@[simp] theorem w_nil {env : Env} : wipeE env [] = env := rfl
@[simp] theorem w_cons {env : Env} {i : Nat} {is : List Nat} : wipeE env (i :: is) = (wipeE env is).set i none := rfl
@[simp] theorem bk_nil {old env : Env} : backE old env [] = env := rfl
def kBk (old env : Env) (i : Nat) (is : List Nat) (o : Option (Option Sl)) : Env := match o with
  | some s => (backE old env is).set i s
  | none => backE old env is
@[simp] theorem bk_cons {old env : Env} {i : Nat} {is : List Nat} : backE old env (i :: is) = kBk old env i is old[i]? := rfl
@[simp] theorem k_bk {old env : Env} {i : Nat} {is : List Nat} {s : Option Sl} : kBk old env i is (some s) = (backE old env is).set i s := rfl
/-! all, any of a generator -/
def kG (P : Par) (elt : E) (ws : List Nat) (o : Out Bool) : Out (Option Bool) := o.bind fun k env => if k then (evA P elt env).bind fun a env => match a with
          | .val (.bl b) => .ok (some b) (wipeE env ws)
          | _ => .stuck
          else .ok none (wipeE env ws)
def kG1 (ws : List Nat) (o : Out A) : Out (Option Bool) := o.bind fun a env => match a with
          | .val (.bl b) => .ok (some b) (wipeE env ws)
          | _ => .stuck
def gTurn (P : Par) (elt : E) (t : Tg) (c : Es) (ws : List Nat) (d : D) (env : Env) : Out (Option Bool) := match bindT t d env with
  | some env => kG P elt ws (evC P c env)
  | none => .stuck
theorem gTurn_some {P : Par} {elt : E} {t : Tg} {c : Es} {ws : List Nat} {d : D} {env env' : Env} (h : bindT t d env = some env') : gTurn P elt t c ws d env = kG P elt ws (evC P c env') := by unfold gTurn; rw [h]
@[simp] theorem k_g1 {P : Par} {elt : E} {ws : List Nat} {env : Env} : kG P elt ws (.ok true env) = kG1 ws (evA P elt env) := rfl
@[simp] theorem k_g0 {P : Par} {elt : E} {ws : List Nat} {env : Env} : kG P elt ws (.ok false env) = .ok none (wipeE env ws) := rfl
@[simp] theorem k_g11 {ws : List Nat} {b : Bool} {env : Env} : kG1 ws (.ok (.val (.bl b)) env) = .ok (some b) (wipeE env ws) := rfl
def kGx (P : Par) (q : Bool) (elt : E) (t : Tg) (c : Es) (ws : List Nat) (o : Out (List D)) : Out A := o.bind fun ds env => match gxL q (gTurn P elt t c ws) ds (wipeE env ws) with
      | .ok b env' => .ok (.val (.bl b)) (backE env env' ws)
      | _ => .stuck
def kGx2 (env : Env) (ws : List Nat) (o : Out Bool) : Out A := match o with
      | .ok b env' => .ok (.val (.bl b)) (backE env env' ws)
      | _ => .stuck
@[simp] theorem s_gx {P : Par} {q : Bool} {elt : E} {t : Tg} {it : It} {c : Es} {ws : List Nat} {env : Env} : evA P (.gx q elt t it c ws) env = kGx P q elt t c ws (evI P it env) := by
  unfold kGx gTurn kG
  simp only [evA]
  all_goals congr
@[simp] theorem k_gx {P : Par} {q : Bool} {elt : E} {t : Tg} {c : Es} {ws : List Nat} {ds : List D} {env : Env} : kGx P q elt t c ws (.ok ds env) = kGx2 env ws (gxL q (gTurn P elt t c ws) ds (wipeE env ws)) := rfl
@[simp] theorem k_gx2 {env env' : Env} {ws : List Nat} {b : Bool} : kGx2 env ws (.ok b env') = .ok (.val (.bl b)) (backE env env' ws) := rfl
/-! a, b = x, y -/
def kPar (P : Par) (i j : Nat) (b : E) (o : Out A) : Out Fl := o.bind fun x env => (x.freeze env).bind fun d env => (evA P b env).bind fun y env => (y.freeze env).bind fun e env =>
      if i < env.length ∧ j < env.length then .ok .next ((env.set i (some (.val d))).set j (some (.val e))) else .stuck
def kPar1 (P : Par) (i j : Nat) (b : E) (o : Out D) : Out Fl := o.bind fun d env => (evA P b env).bind fun y env => (y.freeze env).bind fun e env =>
      if i < env.length ∧ j < env.length then .ok .next ((env.set i (some (.val d))).set j (some (.val e))) else .stuck
def kPar2 (i j : Nat) (d : D) (o : Out A) : Out Fl := o.bind fun y env => (y.freeze env).bind fun e env =>
      if i < env.length ∧ j < env.length then .ok .next ((env.set i (some (.val d))).set j (some (.val e))) else .stuck
def kPar3 (i j : Nat) (d : D) (o : Out D) : Out Fl := o.bind fun e env =>
      if i < env.length ∧ j < env.length then .ok .next ((env.set i (some (.val d))).set j (some (.val e))) else .stuck
@[simp] theorem s_par {P : Par} {i j : Nat} {a b : E} {env : Env} : evS P (.par i j a b) env = kPar P i j b (evA P a env) := by simp only [evS]; rfl
@[simp] theorem k_par {P : Par} {i j : Nat} {b : E} {x : A} {env : Env} : kPar P i j b (.ok x env) = kPar1 P i j b (x.freeze env) := rfl
@[simp] theorem k_par1 {P : Par} {i j : Nat} {b : E} {d : D} {env : Env} : kPar1 P i j b (.ok d env) = kPar2 i j d (evA P b env) := rfl
@[simp] theorem k_par2 {i j : Nat} {d : D} {x : A} {env : Env} : kPar2 i j d (.ok x env) = kPar3 i j d (x.freeze env) := rfl
@[simp] theorem k_par3 {i j : Nat} {d e : D} {env : Env} : kPar3 i j d (.ok e env) = if i < env.length ∧ j < env.length then .ok .next ((env.set i (some (.val d))).set j (some (.val e))) else .stuck := rfl
def kTri (P : Par) (i j k : Nat) (b c : E) (o : Out A) : Out Fl := o.bind fun x env => (x.freeze env).bind fun d env => (evA P b env).bind fun y env => (y.freeze env).bind fun e env => (evA P c env).bind fun z env => (z.freeze env).bind fun g env =>
      if i < env.length ∧ j < env.length ∧ k < env.length then .ok .next (((env.set i (some (.val d))).set j (some (.val e))).set k (some (.val g))) else .stuck
def kTri2 (P : Par) (i j k : Nat) (d : D) (c : E) (o : Out A) : Out Fl := o.bind fun y env => (y.freeze env).bind fun e env => (evA P c env).bind fun z env => (z.freeze env).bind fun g env =>
      if i < env.length ∧ j < env.length ∧ k < env.length then .ok .next (((env.set i (some (.val d))).set j (some (.val e))).set k (some (.val g))) else .stuck
def kTri3 (i j k : Nat) (d e : D) (o : Out A) : Out Fl := o.bind fun z env => (z.freeze env).bind fun g env =>
      if i < env.length ∧ j < env.length ∧ k < env.length then .ok .next (((env.set i (some (.val d))).set j (some (.val e))).set k (some (.val g))) else .stuck
@[simp] theorem s_tri {P : Par} {i j k : Nat} {a b c : E} {env : Env} : evS P (.par3 i j k a b c) env = kTri P i j k b c (evA P a env) := by simp only [evS]; rfl
@[simp] theorem k_tri {P : Par} {i j k : Nat} {b c : E} {d : D} {env : Env} : kTri P i j k b c (.ok (.val d) env) = kTri2 P i j k d c (evA P b env) := rfl
@[simp] theorem k_tri2 {P : Par} {i j k : Nat} {c : E} {d e : D} {env : Env} : kTri2 P i j k d c (.ok (.val e) env) = kTri3 i j k d e (evA P c env) := rfl
@[simp] theorem k_tri3 {i j k : Nat} {d e g : D} {env : Env} : kTri3 i j k d e (.ok (.val g) env) = if i < env.length ∧ j < env.length ∧ k < env.length then .ok .next (((env.set i (some (.val d))).set j (some (.val e))).set k (some (.val g))) else .stuck := rfl
/-! x op= e -/
def augA (i : Nat) (env : Env) (o : Option D) : Out Fl := match o with
  | some r => .ok .next (env.set i (some (.val r)))
  | none => .stuck
def kAug (i : Nat) (o : Bo) (d : D) (r : Out A) : Out Fl := r.bind fun y env => match y.look env with
      | some g => augA i env (augF o d g)
      | none => .stuck
def kAug2 (i : Nat) (o : Bo) (d : D) (env : Env) (r : Option D) : Out Fl := match r with
      | some g => augA i env (augF o d g)
      | none => .stuck
def sAug (P : Par) (i : Nat) (o : Bo) (e : E) (env : Env) (s : Option (Option Sl)) : Out Fl := match s with
  | some (some (.val d)) => kAug i o d (evA P e env)
  | _ => .stuck
@[simp] theorem s_aug {P : Par} {i : Nat} {o : Bo} {e : E} {env : Env} : evS P (.aug i o e) env = sAug P i o e env env[i]? := by
  simp only [evS]
  unfold sAug kAug augA
  cases h : env[i]? with
  | none => rfl
  | some s =>
    cases s with
    | none => rfl
    | some sl => cases sl <;> rfl
@[simp] theorem s_augv {P : Par} {i : Nat} {o : Bo} {e : E} {env : Env} {d : D} : sAug P i o e env (some (some (.val d))) = kAug i o d (evA P e env) := rfl
@[simp] theorem k_aug {i : Nat} {o : Bo} {d : D} {y : A} {env : Env} : kAug i o d (.ok y env) = kAug2 i o d env (y.look env) := rfl
@[simp] theorem k_aug2 {i : Nat} {o : Bo} {d g : D} {env : Env} : kAug2 i o d env (some g) = augA i env (augF o d g) := rfl
@[simp] theorem k_aug3 {i : Nat} {r : D} {env : Env} : augA i env (some r) = .ok .next (env.set i (some (.val r))) := rfl
/-! while, raise, try -/
@[simp] theorem s_whl {P : Par} {c : E} {b : Ss} {env : Env} : evS P (.whl c b) env = whlL (evT P c) (evSs P b) P.fuel env := by simp only [evS]
def kRaise (c : Nat) (o : Out (List D)) : Out Fl := o.bind fun ds env => match ds with
    | [] => .exn ⟨c, none⟩ env
    | [d] => .exn ⟨c, some d⟩ env
    | _ => .stuck
@[simp] theorem s_raise {P : Par} {c : Nat} {es : Es} {env : Env} : evS P (.raise c es) env = kRaise c (evVs P es env) := by simp only [evS]; rfl
@[simp] theorem k_raise0 {c : Nat} {env : Env} : kRaise c (.ok [] env) = .exn ⟨c, none⟩ env := rfl
@[simp] theorem k_raise1 {c : Nat} {d : D} {env : Env} : kRaise c (.ok [d] env) = .exn ⟨c, some d⟩ env := rfl
def noX (o : Out Fl) : Out Fl := match o with
  | .exn _ _ => .stuck
  | o => o
def kTry2 (P : Par) (h : Ss) (x : Exn) (env : Env) (nm : Option Nat) (o : Option Bool) : Out Fl := match o, nm with
      | some true, none => noX (evSs P h env)
      | some false, _ => .exn x env
      | _, _ => .stuck
def kTry (P : Par) (c : Nat) (nm : Option Nat) (h : Ss) (o : Out Fl) : Out Fl := match o with
    | .exn x env' => kTry2 P h x env' nm (P.exm x.cls c)
    | o => o
@[simp] theorem s_try {P : Par} {b h : Ss} {c : Nat} {nm : Option Nat} {env : Env} : evS P (.tryE b c nm h) env = kTry P c nm h (evSs P b env) := by
  simp only [evS]
  unfold kTry
  cases evSs P b env with
  | ok a e => rfl
  | stuck => rfl
  | exn x e =>
    dsimp only
    unfold kTry2 noX
    cases P.exm x.cls c with
    | none => cases nm <;> rfl
    | some q => cases q <;> cases nm <;> rfl
@[simp] theorem k_tryok {P : Par} {c : Nat} {nm : Option Nat} {h : Ss} {f : Fl} {env : Env} : kTry P c nm h (.ok f env) = .ok f env := rfl
@[simp] theorem k_tryx {P : Par} {c : Nat} {nm : Option Nat} {h : Ss} {x : Exn} {env : Env} : kTry P c nm h (.exn x env) = kTry2 P h x env nm (P.exm x.cls c) := rfl
@[simp] theorem k_try2 {P : Par} {h : Ss} {x : Exn} {env : Env} : kTry2 P h x env none (some true) = noX (evSs P h env) := rfl
@[simp] theorem k_try20 {P : Par} {h : Ss} {x : Exn} {env : Env} {nm : Option Nat} : kTry2 P h x env nm (some false) = .exn x env := by cases nm <;> rfl
@[simp] theorem k_nox {f : Fl} {env : Env} : noX (.ok f env) = .ok f env := rfl
/-! an owned thing that becomes known -/
def kFz (env : Env) (i : Nat) (o : Option (Option Sl)) : Out D := match o with
  | some (some s) => .ok s.d (env.set i (some (.val s.d)))
  | _ => .stuck
@[simp] theorem frz_own {i : Nat} {env : Env} : (A.own i).freeze env = kFz env i env[i]? := by
  show (match env[i]? with
    | some (some s) => Out.ok s.d (env.set i (some (.val s.d)))
    | _ => .stuck) = _
  unfold kFz
  cases env[i]? with
  | none => rfl
  | some s => cases s <;> rfl
@[simp] theorem k_fz {env : Env} {i : Nat} {s : Sl} : kFz env i (some (some s)) = .ok s.d (env.set i (some (.val s.d))) := rfl
@[simp] theorem sl_val {d : D} : (Sl.val d).d = d := rfl
@[simp] theorem sl_own {d : D} : (Sl.own d).d = d := rfl
/-! a < b < c -/
end Ev
end
section
set_option maxRecDepth 100000
set_option maxHeartbeats 4000000
/-! the draws of a law -/
namespace Ev
open PySem
def drawFn : Fn := ⟨2, 6, [true, true], (.cons (.iff (.cmp .lt (.idx (.var 0) (.cst (.int 0))) (.var 1)) (.cons (.asg (.nm 2) (.idx (.var 0) (.cst (.int 1)))) (.cons (.setI 0 (.cst (.int 1)) (.bin .add (.var 2) (.cst (.int 1)))) (.cons (.asg (.nm 3) (.cst (.int 0))) (.cons (.iff (.cmp .lt (.var 2) (.bi .len (.cons (.idx (.var 0) (.cst (.int 2))) .nil))) (.cons (.asg (.nm 3) (.idx (.idx (.var 0) (.cst (.int 2))) (.var 2))) .nil) .nil) (.cons (.iff (.cmp .ge (.var 3) (.bin .pow (.cst (.int 10)) (.cst (.int 18)))) (.cons (.setI 0 (.cst (.int 0)) (.var 3)) .nil) (.cons (.setI 0 (.cst (.int 3)) (.bin .mod (.bi .int (.cons (.bin .mul (.bin .add (.bin .add (.bin .add (.idx (.var 0) (.cst (.int 3))) (.bin .mod (.bi .int (.cons (.var 3) .nil)) (.cst (.int 2147483629)))) (.var 2)) (.cst (.int 1))) (.cst (.int 48271))) .nil)) (.cst (.int 2147483647)))) (.cons (.asg (.nm 4) (.bin .mod (.bi .int (.cons (.bin .add (.bin .mul (.idx (.var 0) (.cst (.int 3))) (.cst (.int 69621))) (.cst (.int 11))) .nil)) (.cst (.int 2147483629)))) (.cons (.setI 0 (.cst (.int 0)) (.bin .add (.bin .mul (.var 4) (.cst (.int 2147483647))) (.bin .mod (.bi .int (.cons (.bin .add (.bin .mul (.var 4) (.cst (.int 30011))) (.idx (.var 0) (.cst (.int 3)))) .nil)) (.cst (.int 2147483587))))) .nil)))) .nil))))) .nil) (.cons (.asg (.nm 5) (.bin .mod (.bi .int (.cons (.idx (.var 0) (.cst (.int 0))) .nil)) (.var 1))) (.cons (.setI 0 (.cst (.int 0)) (.bin .fdiv (.idx (.var 0) (.cst (.int 0))) (.var 1))) (.cons (.ret (.var 5)) .nil))))⟩
/-- a state of the draws -/
def stD (s0 s1 s3 : Int) (scr : List Int) : D := .lst [.int s0, .int s1, .lst (scr.map .int), .int s3]
def IsSt (st : D) : Prop := ∃ s0 s1 s3 scr, 0 ≤ s1 ∧ st = stD s0 s1 s3 scr

theorem log2_small {n : Nat} (h : n < 2 ^ 31) : n.log2 < 9000 := by
  by_cases h0 : n = 0
  · subst h0; decide
  · have := (Nat.log2_lt h0 (k := 31)).mpr h
    omega
theorem fdivOk_of {limit : Int} (hl : 0 < limit) (hl2 : limit < 2 ^ 31) : fdivOk limit = true := by
  unfold fdivOk
  have h1 : limit.natAbs < 2 ^ 31 := by omega
  simp [hl, log2_small h1]
theorem atI_map {scr : List Int} {s1 : Int} (h1 : 0 ≤ s1) (h2 : s1 < scr.length) : ∃ c, L2.atI (scr.map D.int) s1 = some (.int c) := by
  unfold L2.atI L2.ixN
  have h3 : s1.toNat < scr.length := by omega
  refine ⟨scr[s1.toNat], ?_⟩
  rw [List.length_map]
  simp [h1, h2, h3]
theorem sp_draw {fs : List Fn} {exm : Nat → Nat → Option Bool} {fuel k j : Nat} (hf : fs[j]? = some drawFn) {s0 s1 s3 limit : Int} {scr : List Int} (h1 : 0 ≤ s1) (hl : 0 < limit) (hl2 : limit < 2 ^ 31) :
    ∃ g st', IsSt st' ∧ 0 ≤ g ∧ g < limit ∧ callF fs exm fuel (k + 1) j [.own (stD s0 s1 s3 scr), .val (.int limit)] = .ret (.val (.int g)) [some (.own st'), some (.val (.int limit))] := by
  rw [callF_at hf rfl]
  have hz : limit ≠ 0 := by omega
  have hfd := fdivOk_of hl hl2
  have fin : ∀ (x y z : Int), 0 ≤ y → ∃ g st', IsSt st' ∧ 0 ≤ g ∧ g < limit ∧ x.fmod limit = g ∧ D.lst [.int (x.fdiv limit), .int y, .lst (scr.map .int), .int z] = st' := fun x y z hy =>
    ⟨_, _, ⟨_, _, _, _, hy, rfl⟩, by rw [Int.fmod_eq_emod_of_nonneg _ (Int.le_of_lt hl)]; exact Int.emod_nonneg _ hz, by rw [Int.fmod_eq_emod_of_nonneg _ (Int.le_of_lt hl)]; exact Int.emod_lt_of_pos _ hl, rfl, rfl⟩
  unfold stD
  have m1 : ∀ x : Int, mulOk x 48271 = true := fun x => by simp [mulOk, s64]
  have m2 : ∀ x : Int, mulOk x 69621 = true := fun x => by simp [mulOk, s64]
  have m3 : ∀ x : Int, mulOk x 2147483647 = true := fun x => by simp [mulOk, s64]
  have m4 : ∀ x : Int, mulOk x 30011 = true := fun x => by simp [mulOk, s64]
  by_cases c1 : s0 < limit
  · by_cases c2 : s1 < (scr.length : Int)
    · obtain ⟨c, hc⟩ := atI_map h1 c2
      by_cases c3 : (1000000000000000000 : Int) ≤ c
      · simp [drawFn, fIdx, idxF, fCmp, cmpF, two_ov, look_own, Sl.d, c1, c2, c3, fBin, binF, biF, BR.a, hz, hfd, hc, powOk]
        exact fin _ _ _ (by omega)
      · simp [drawFn, fIdx, idxF, fCmp, cmpF, two_ov, look_own, Sl.d, c1, c2, c3, fBin, binF, biF, BR.a, hz, hfd, hc, powOk, m1, m2, m3, m4]
        exact fin _ _ _ (by omega)
    · simp [drawFn, fIdx, idxF, fCmp, cmpF, two_ov, look_own, Sl.d, c1, c2, fBin, binF, biF, BR.a, hz, hfd, powOk, m1, m2, m3, m4]
      exact fin _ _ _ (by omega)
  · simp [drawFn, fIdx, idxF, fCmp, cmpF, two_ov, look_own, Sl.d, c1, fBin, binF, biF, BR.a, hz, hfd]
    exact fin _ _ _ h1
/-- a draw: some number below the limit, the state goes on -/
theorem draw {fs : List Fn} {exm : Nat → Nat → Option Bool} {fuel k j : Nat} (hf : fs[j]? = some drawFn) {st : D} {limit : Int} (h : IsSt st) (hl : 0 < limit) (hl2 : limit < 2 ^ 31) :
    ∃ g st', IsSt st' ∧ 0 ≤ g ∧ g < limit ∧ callF fs exm fuel (k + 1) j [.own st, .val (.int limit)] = .ret (.val (.int g)) [some (.own st'), some (.val (.int limit))] := by
  obtain ⟨s0, s1, s3, scr, h1, rfl⟩ := h
  exact sp_draw hf h1 hl hl2
/-- .. as a call within a def -/
theorem draw_call {fs : List Fn} {exm : Nat → Nat → Option Bool} {fuel k j i : Nat} {st st' : D} {limit g : Int} {env : Env} (hst : env[i]? = some (some (.own st)))
    (h : callF fs exm fuel (k + 1) j [.own st, .val (.int limit)] = .ret (.val (.int g)) [some (.own st'), some (.val (.int limit))]) :
    callM (callF fs exm fuel (k + 1)) j [true, true] [.own i, .val (.int limit)] env = .ok (.val (.int g)) (env.set i (some (.own st'))) := by
  unfold callM
  simp only [freezeAll, Out.bind_ok, paramsOf, hst, h, lentOf, backOuts]
  simp
end Ev
end
section
set_option maxRecDepth 100000
/-! plain things that are compared -/
namespace Ev
open PySem

/-- data of depth at most n -/
def Q (n : Nat) (d : D) : Prop := d.py.canLay0 = true ∧ d.py.depth ≤ n
theorem Q.mono {n m : Nat} {d : D} (h : Q n d) (hm : n ≤ m) : Q m d := ⟨h.1, Nat.le_trans h.2 hm⟩
theorem Q.eqOk {n : Nat} {d : D} (h : Q n d) (hn : n ≤ 64) : d.eqOk = true := by
  show (d.py.canLay0 && decide (d.py.depth ≤ 64)) = true
  rw [h.1, decide_eq_true (Nat.le_trans h.2 hn)]; rfl
theorem qd_int (i : Int) : Q 0 (.int i) := ⟨by simp [D.py, PyData.canLay0], by simp [D.py, PyData.depth]⟩
theorem qd_bl (i : Bool) : Q 0 (.bl i) := ⟨by simp [D.py, PyData.canLay0], by simp [D.py, PyData.depth]⟩
theorem qd_non : Q 0 .non := ⟨by simp [D.py, PyData.canLay0], by simp [D.py, PyData.depth]⟩
theorem qd_strOf {s : Str} (h : (PyData.str s).canLay0 = true) : Q 0 (.str s) := ⟨h, by simp [D.py, PyData.depth]⟩
theorem qd_all {n : Nat} : ∀ {xs : List D}, (∀ x ∈ xs, Q n x) → PyData.canLayAll0 (D.pys xs) = true ∧ PyData.depthAll (D.pys xs) ≤ n
  | [], _ => ⟨by simp [D.pys, PyData.canLayAll0], by simp [D.pys, PyData.depthAll]⟩
  | x :: xs, h => by
    obtain ⟨h1, h2⟩ := qd_all fun y hy => h y (.tail _ hy)
    obtain ⟨h3, h4⟩ := h x (.head _)
    refine ⟨by simp [D.pys, PyData.canLayAll0, h1, h3], ?_⟩
    simp only [D.pys, PyData.depthAll]
    omega
theorem qd_tup {n : Nat} {xs : List D} (h : ∀ x ∈ xs, Q n x) : Q (n + 1) (.tup xs) := by
  obtain ⟨h1, h2⟩ := qd_all h
  exact ⟨by simpa [D.py, PyData.canLay0] using h1, by simp only [D.py, PyData.depth]; omega⟩
theorem qd_lst {n : Nat} {xs : List D} (h : ∀ x ∈ xs, Q n x) : Q (n + 1) (.lst xs) := by
  obtain ⟨h1, h2⟩ := qd_all h
  exact ⟨by simpa [D.py, PyData.canLay0] using h1, by simp only [D.py, PyData.depth]; omega⟩
/-- values of a type as data: of depth n, equal only if they are -/
structure Emb {α : Type} [DecidableEq α] (f : α → D) (n : Nat) : Prop where
  q : ∀ a, Q n (f a)
  e : ∀ a b, D.eqv (f a) (f b) = decide (a = b)
theorem Emb.mono {α : Type} [DecidableEq α] {f : α → D} {n m : Nat} (h : Emb f n) (hm : n ≤ m) : Emb f m := ⟨fun a => (h.q a).mono hm, h.e⟩
theorem emb_int : Emb D.int 0 := ⟨qd_int, fun a b => by
  show PyData.eqv (D.int a).py (D.int b).py = _
  simp only [D.py, PyData.eqv]
  by_cases h : a = b <;> simp [h]⟩
theorem emb_bl : Emb D.bl 0 := ⟨qd_bl, fun a b => by
  show PyData.eqv (D.bl a).py (D.bl b).py = _
  simp only [D.py, PyData.eqv]
  by_cases h : a = b <;> simp [h]⟩
theorem eqv_all {α : Type} [DecidableEq α] {f : α → D} {n : Nat} (h : Emb f n) : ∀ xs ys : List α, PyData.eqvAll (D.pys (xs.map f)) (D.pys (ys.map f)) = decide (xs = ys)
  | [], [] => by simp [D.pys, PyData.eqvAll]
  | [], y :: ys => by simp [D.pys, PyData.eqvAll]
  | x :: xs, [] => by simp [D.pys, PyData.eqvAll]
  | x :: xs, y :: ys => by
    have h1 : PyData.eqv (f x).py (f y).py = decide (x = y) := h.e x y
    simp only [List.map_cons, D.pys, PyData.eqvAll, h1, eqv_all h xs ys]
    by_cases h2 : x = y <;> by_cases h3 : xs = ys <;> simp [h2, h3]
theorem emb_lst {α : Type} [DecidableEq α] {f : α → D} {n : Nat} (h : Emb f n) : Emb (fun xs : List α => D.lst (xs.map f)) (n + 1) :=
  ⟨fun xs => qd_lst fun x hx => by obtain ⟨a, _, rfl⟩ := List.mem_map.mp hx; exact h.q a, fun xs ys => by
    show PyData.eqv (D.lst _).py (D.lst _).py = _
    simp only [D.py, PyData.eqv]
    exact eqv_all h xs ys⟩
theorem emb_tup {α : Type} [DecidableEq α] {f : α → D} {n : Nat} (h : Emb f n) : Emb (fun xs : List α => D.tup (xs.map f)) (n + 1) :=
  ⟨fun xs => qd_tup fun x hx => by obtain ⟨a, _, rfl⟩ := List.mem_map.mp hx; exact h.q a, fun xs ys => by
    show PyData.eqv (D.tup _).py (D.tup _).py = _
    simp only [D.py, PyData.eqv]
    exact eqv_all h xs ys⟩
theorem emb_pair {α β : Type} [DecidableEq α] [DecidableEq β] {f : α → D} {g : β → D} {n : Nat} (h : Emb f n) (h' : Emb g n) : Emb (fun p : α × β => D.tup [f p.1, g p.2]) (n + 1) :=
  ⟨fun p => qd_tup fun x hx => by
    rcases List.mem_cons.mp hx with e | hx
    · rw [e]; exact h.q _
    · rw [List.mem_singleton.mp hx]; exact h'.q _, fun p q => by
    have h1 : PyData.eqv (f p.1).py (f q.1).py = decide (p.1 = q.1) := h.e _ _
    have h2 : PyData.eqv (g p.2).py (g q.2).py = decide (p.2 = q.2) := h'.e _ _
    show PyData.eqv (D.tup _).py (D.tup _).py = _
    simp only [D.py, D.pys, PyData.eqv, PyData.eqvAll, h1, h2]
    obtain ⟨a, b⟩ := p
    obtain ⟨c, d⟩ := q
    by_cases h3 : a = c <;> by_cases h4 : b = d <;> simp [h3, h4]⟩
/-- equality of two that are told apart by their values -/
theorem Emb.eq? {α : Type} [DecidableEq α] {f : α → D} {n : Nat} (h : Emb f n) (hn : n ≤ 64) (a b : α) : D.eq? (f a) (f b) = some (decide (a = b)) := by
  unfold D.eq?
  rw [(h.q a).eqOk hn, (h.q b).eqOk hn, h.e]
  rfl
@[simp] theorem eq_int {i j : Int} : D.eq? (.int i) (.int j) = some (decide (i = j)) := emb_int.eq? (by decide) i j
@[simp] theorem eq_bl {i j : Bool} : D.eq? (.bl i) (.bl j) = some (decide (i = j)) := emb_bl.eq? (by decide) i j
theorem inn_lst {d : D} {xs : List D} : cmpF .inn d (.lst xs) = if d.eqOk && (D.lst xs).eqOk then some (xs.any fun x => D.eqv x d) else none := by cases d <;> rfl
theorem nin_lst {d : D} {xs : List D} : cmpF .nin d (.lst xs) = if d.eqOk && (D.lst xs).eqOk then some (!xs.any fun x => D.eqv x d) else none := by cases d <;> rfl
/-- membership in a list -/
theorem Emb.mem {α : Type} [DecidableEq α] {f : α → D} {n : Nat} (h : Emb f n) (hn : n < 64) (a : α) (xs : List α) : cmpF .inn (f a) (.lst (xs.map f)) = some (decide (a ∈ xs)) := by
  have h1 := (h.q a).eqOk (Nat.le_of_lt hn)
  have h2 := (emb_lst h).q xs |>.eqOk hn
  rw [inn_lst, h1, h2]
  simp only [Bool.and_self, if_true, Option.some.injEq]
  rw [List.any_map]
  rw [Bool.eq_iff_iff, List.any_eq_true, decide_eq_true_eq]
  constructor
  · rintro ⟨x, hx, e⟩
    have e : D.eqv (f x) (f a) = true := e
    rw [h.e] at e
    rw [← of_decide_eq_true e]; exact hx
  · intro ha
    exact ⟨a, ha, by show D.eqv (f a) (f a) = true; rw [h.e]; simp⟩
end Ev
end
section
set_option maxRecDepth 100000
/-! loops of the evaluator by what a turn does -/
namespace Ev
open PySem

/-- a loop by an invariant of its turns -/
theorem forL_inv {body : D → Env → Out Fl} {I : Nat → Env → Prop} : ∀ {xs : List D} {i : Nat} {env : Env}, I i env →
    (∀ (j : Nat) (d : D) (env : Env), xs[j]? = some d → I (i + j) env → ∃ env', (body d env = .ok .next env' ∨ body d env = .ok .cont env') ∧ I (i + j + 1) env') → ∃ env', forL body xs env = .ok .next env' ∧ I (i + xs.length) env'
  | [], i, env, h0, _ => ⟨env, by unfold forL; rfl, h0⟩
  | x :: xs, i, env, h0, hs => by
    obtain ⟨env1, h1, h2⟩ := hs 0 x env rfl h0
    obtain ⟨env2, h3, h4⟩ := forL_inv (xs := xs) (i := i + 1) (I := I) h2 fun j d env hj hI => by
      have := hs (j + 1) d env hj (by have e : i + (j + 1) = i + 1 + j := by omega
                                      rw [e]; exact hI)
      have e : i + (j + 1) + 1 = i + 1 + j + 1 := by omega
      rw [e] at this
      exact this
    refine ⟨env2, ?_, by have e : i + (x :: xs).length = i + 1 + xs.length := by simp; omega
                         rw [e]; exact h4⟩
    unfold forL
    rcases h1 with h1 | h1 <;> (rw [h1]; exact h3)
/-- .. of typed things, with a state that is folded: enc s a z: the slots, a what is drawn last -/
theorem forL_fold {α σ : Type} {emb : α → D} {body : D → Env → Out Fl} {f : σ → α → σ} {R : σ → Env → Prop} : ∀ {xs : List α} {s : σ} {env : Env}, R s env →
    (∀ s a env, a ∈ xs → R s env → ∃ env', (body (emb a) env = .ok .next env' ∨ body (emb a) env = .ok .cont env') ∧ R (f s a) env') → ∃ env', forL body (xs.map emb) env = .ok .next env' ∧ R (xs.foldl f s) env'
  | [], s, env, h0, _ => ⟨env, rfl, h0⟩
  | x :: xs, s, env, h0, hs => by
    obtain ⟨env1, h1, h2⟩ := hs s x env (.head _) h0
    obtain ⟨env2, h3, h4⟩ := forL_fold (xs := xs) (f := f) (R := R) h2 fun s a env ha hI => hs s a env (.tail _ ha) hI
    refine ⟨env2, ?_, h4⟩
    show forL body (emb x :: xs.map emb) env = _
    unfold forL
    rcases h1 with h1 | h1 <;> (rw [h1]; exact h3)
/-- a comprehension whose turns leave the slots -/
theorem lcL_pure {α : Type} {emb : α → D} {body : D → Env → Out (Option D)} {f : α → Option D} {env : Env} : ∀ {xs : List α} {acc : List D}, (∀ a ∈ xs, body (emb a) env = .ok (f a) env) → acc.length + xs.length ≤ sizeLine →
    lcL body (xs.map emb) acc env = .ok (acc ++ xs.filterMap f) env
  | [], acc, _, _ => by simp [lcL]
  | x :: xs, acc, h, hz => by
    have h1 := h x (.head _)
    rw [List.length_cons] at hz
    show lcL body (emb x :: xs.map emb) acc env = _
    unfold lcL
    rw [h1]
    cases hf : f x with
    | none =>
      dsimp only
      rw [lcL_pure (fun a ha => h a (.tail _ ha)) (by omega), List.filterMap_cons, hf]
    | some y =>
      dsimp only
      rw [if_pos (by omega), lcL_pure (fun a ha => h a (.tail _ ha)) (by rw [List.length_append]; simp; omega), List.filterMap_cons, hf, List.append_assoc]
      rfl
theorem lcL_map {α : Type} {emb : α → D} {body : D → Env → Out (Option D)} {f : α → D} {env : Env} {xs : List α} (h : ∀ a ∈ xs, body (emb a) env = .ok (some (f a)) env) (hz : xs.length ≤ sizeLine) :
    lcL body (xs.map emb) [] env = .ok (xs.map f) env := by
  rw [lcL_pure (f := fun a => some (f a)) h (by simpa using hz), List.nil_append]
  congr 1
  induction xs with
  | nil => rfl
  | cons x xs ih => rw [List.filterMap_cons, List.map_cons]; dsimp only; rw [ih (fun a ha => h a (.tail _ ha)) (by simp at hz; omega)]
theorem gxL_pure {α : Type} {emb : α → D} {body : D → Env → Out (Option Bool)} {p : α → Bool} {isAll : Bool} {env : Env} : ∀ {xs : List α}, (∀ a ∈ xs, body (emb a) env = .ok (some (p a)) env) →
    gxL isAll body (xs.map emb) env = .ok (if isAll then xs.all p else xs.any p) env
  | [], _ => by cases isAll <;> rfl
  | x :: xs, h => by
    show gxL isAll body (emb x :: xs.map emb) env = _
    unfold gxL
    rw [h x (.head _)]
    dsimp only
    rw [gxL_pure fun a ha => h a (.tail _ ha)]
    cases isAll <;> cases hp : p x <;> simp [hp]
theorem rng_map {n : Nat} : ∀ {lo : Int}, rngD lo n = (List.range n).map fun i : Nat => D.int (lo + (i : Int)) := by
  induction n with
  | zero => intro lo; rfl
  | succ n ih =>
    intro lo
    rw [List.range_succ_eq_map, List.map_cons, List.map_map]
    show D.int lo :: rngD (lo + 1) n = _
    rw [ih]
    congr 1
    · simp
    · apply List.map_congr_left
      intro i _
      show D.int _ = D.int _
      congr 1
      simp
      omega
theorem whl_end {test : Env → Out Bool} {body : Env → Out Fl} {n : Nat} {env env' : Env} (h : test env = .ok false env') : whlL test body (n + 1) env = .ok .next env' := by
  unfold whlL; rw [h]; rfl
theorem whl_go {test : Env → Out Bool} {body : Env → Out Fl} {n : Nat} {env env' env'' : Env} (h : test env = .ok true env') (hb : body env' = .ok .next env'') : whlL test body (n + 1) env = whlL test body n env'' := by
  conv => lhs; unfold whlL
  rw [h, Out.bind_ok, if_pos rfl, hb]
end Ev
end
section
set_option maxRecDepth 100000
/-! calls of values -/
namespace Ev
open PySem
theorem cm1 {F : CF} {f : Nat} {lend : List Bool} {a r : D} {outs env : Env} (h : F f [.val a] = .ret (.val r) outs) : callM F f lend [.val a] env = .ok (.val r) env := by
  unfold callM
  have e : freezeAll [A.val a] lend env = .ok [.val a] env := by
    rcases lend with _ | ⟨_ | _, _⟩ <;> rfl
  rw [e]
  simp only [Out.bind_ok, paramsOf, h, lentOf]
  simp
  rcases outs with _ | ⟨o, os⟩ <;> rfl
theorem fz1 {a : D} {as : List A} {lend : List Bool} {env env' : Env} {r : List A} (h : ∀ lend, freezeAll as lend env = .ok r env') : freezeAll (A.val a :: as) lend env = .ok (.val a :: r) env' := by
  rcases lend with _ | ⟨_ | _, _⟩
  · show (Out.ok a env).bind _ = _
    rw [Out.bind_ok, h]; rfl
  · show (Out.ok a env).bind _ = _
    rw [Out.bind_ok, h]; rfl
  · show (freezeAll as _ env).bind _ = _
    rw [h]; rfl
theorem fz0 {lend : List Bool} {env : Env} : freezeAll [] lend env = .ok [] env := by rcases lend with _ | ⟨_ | _, _⟩ <;> rfl
theorem bk_vals {ds : List D} {env : Env} : ∀ {outs : Env}, backOuts (ds.map A.val) outs env = env := by
  induction ds with
  | nil => intro outs; cases outs <;> rfl
  | cons d ds ih => intro outs; cases outs with
    | nil => rfl
    | cons o os => exact ih
theorem fz_vals {ds : List D} {env : Env} : ∀ {lend : List Bool}, freezeAll (ds.map A.val) lend env = .ok (ds.map A.val) env := by
  induction ds with
  | nil => intro lend; exact fz0
  | cons d ds ih => intro lend; exact fz1 fun l => ih
theorem ps_vals {ds : List D} {env : Env} : paramsOf (ds.map A.val) env = some (ds.map Sl.val) := by
  induction ds with
  | nil => rfl
  | cons d ds ih =>
    show (match some (Sl.val d), paramsOf (ds.map A.val) env with | some s, some r => some (s :: r) | _, _ => none) = _
    rw [ih]; rfl
theorem lt_vals {ds : List D} : lentOf (ds.map A.val) = [] := by
  induction ds with
  | nil => rfl
  | cons d ds ih => exact ih
/-- a call whose things are known values -/
theorem cm_vals {F : CF} {f : Nat} {lend : List Bool} {ds : List D} {r : D} {outs env : Env} (h : F f (ds.map Sl.val) = .ret (.val r) outs) : callM F f lend (ds.map A.val) env = .ok (.val r) env := by
  unfold callM
  rw [fz_vals]
  simp only [Out.bind_ok, ps_vals, h, lt_vals, bk_vals]
  simp
theorem cm_valsx {F : CF} {f : Nat} {lend : List Bool} {ds : List D} {x : Exn} {outs env : Env} (h : F f (ds.map Sl.val) = .exn x outs) : callM F f lend (ds.map A.val) env = .exn x env := by
  unfold callM
  rw [fz_vals]
  simp only [Out.bind_ok, ps_vals, h, lt_vals, bk_vals]
  simp
/-- what a def answers at values -/
def CR.is (r : D) : CR → Prop
  | .ret (.val x) _ => x = r
  | _ => False
@[simp] theorem CR.is_ret {r x : D} {o : Env} : CR.is r (.ret (.val x) o) = (x = r) := rfl
def Ans (F : CF) (f : Nat) (ds : List D) (r : D) : Prop := CR.is r (F f (ds.map Sl.val))
theorem Ans.get {F : CF} {f : Nat} {ds : List D} {r : D} (h : Ans F f ds r) : ∃ outs, F f (ds.map Sl.val) = .ret (.val r) outs := by
  unfold Ans at h
  cases e : F f (ds.map Sl.val) with
  | ret a o =>
    rw [e] at h
    cases a with
    | val x => exact ⟨o, by rw [show x = r from h]⟩
    | own _ => exact h.elim
    | tmp _ => exact h.elim
  | exn _ _ => rw [e] at h; exact h.elim
  | stuck => rw [e] at h; exact h.elim
theorem Ans.c {F : CF} {f : Nat} {ds : List D} {r : D} (h : Ans F f ds r) {lend : List Bool} {env : Env} : callM F f lend (ds.map A.val) env = .ok (.val r) env := by
  obtain ⟨outs, h⟩ := h.get; exact cm_vals h
theorem Ans.c1 {F : CF} {f : Nat} {a r : D} (h : Ans F f [a] r) {lend : List Bool} {env : Env} : callM F f lend [.val a] env = .ok (.val r) env := h.c
theorem Ans.c2 {F : CF} {f : Nat} {a b r : D} (h : Ans F f [a, b] r) {lend : List Bool} {env : Env} : callM F f lend [.val a, .val b] env = .ok (.val r) env := h.c
theorem Ans.c3 {F : CF} {f : Nat} {a b c r : D} (h : Ans F f [a, b, c] r) {lend : List Bool} {env : Env} : callM F f lend [.val a, .val b, .val c] env = .ok (.val r) env := h.c
theorem Ans.c4 {F : CF} {f : Nat} {a b c d r : D} (h : Ans F f [a, b, c, d] r) {lend : List Bool} {env : Env} : callM F f lend [.val a, .val b, .val c, .val d] env = .ok (.val r) env := h.c
theorem Ans.c5 {F : CF} {f : Nat} {a b c d e r : D} (h : Ans F f [a, b, c, d, e] r) {lend : List Bool} {env : Env} : callM F f lend [.val a, .val b, .val c, .val d, .val e] env = .ok (.val r) env := h.c
theorem eqStr {a b : Str} (h : ((PyData.str a).canLay0 && (PyData.str b).canLay0) = true) : D.eq? (.str a) (.str b) = some (PyData.eqv (.str a) (.str b)) := by
  have h1 : (PyData.str a).canLay0 = true := (Bool.and_eq_true _ _ ▸ h).1
  have h2 : (PyData.str b).canLay0 = true := (Bool.and_eq_true _ _ ▸ h).2
  unfold D.eq?
  rw [(qd_strOf h1).eqOk (by decide), (qd_strOf h2).eqOk (by decide)]
  rfl
/-- all over a generator whose turns leave the slots -/
theorem gxL_all {α : Type} {emb : α → D} {body : D → Env → Out (Option Bool)} {f : α → Bool} {env : Env} : ∀ {xs : List α}, (∀ a ∈ xs, body (emb a) env = .ok (some (f a)) env) → gxL true body (xs.map emb) env = .ok (xs.all f) env
  | [], _ => rfl
  | x :: xs, h => by
    show gxL true body (emb x :: xs.map emb) env = _
    unfold gxL
    rw [h x (.head _)]
    cases hf : f x with
    | false => simp [hf]
    | true =>
      dsimp only
      rw [if_pos rfl, gxL_all fun a ha => h a (.tail _ ha)]
      simp [hf]
theorem sl_ge : 1048576 ≤ sizeLine := by decide
theorem sl_le {n : Nat} (h : n ≤ 1000) : n ≤ sizeLine := Nat.le_trans h (Nat.le_trans (by decide) sl_ge)
theorem sl_lt {n : Nat} (h : n < 1000) : n < sizeLine := Nat.lt_of_lt_of_le h (Nat.le_trans (by decide) sl_ge)
theorem sl_le6 {n : Nat} (h : n ≤ 1000000) : n ≤ sizeLine := Nat.le_trans h (Nat.le_trans (by decide) sl_ge)
theorem sl_lt6 {n : Nat} (h : n < 1000000) : n < sizeLine := Nat.lt_of_lt_of_le h (Nat.le_trans (by decide) sl_ge)
theorem in62_of {n : Int} (h : n.natAbs < 2 ^ 62) : in62 n = true := Nat.ble_eq_true_of_le (by omega)
theorem in62_nat {n : Nat} (h : n ≤ 1000) : in62 (n : Int) = true := in62_of (by omega)
theorem filt_eq {α β : Type} {f : α → β} {p : α → Bool} : ∀ {xs : List α}, xs.filterMap (fun x => if p x then some (f x) else none) = (xs.filter p).map f
  | [] => rfl
  | x :: xs => by
    have := filt_eq (f := f) (p := p) (xs := xs)
    cases h : p x <;> simp [List.filterMap_cons, h, this]
@[simp] theorem fb_add {i j : Int} : fBin .add (.int i) (.int j) = some (.val (.int (i + j))) := rfl
@[simp] theorem fb_sub {i j : Int} : fBin .sub (.int i) (.int j) = some (.val (.int (i - j))) := rfl
theorem fb_mul {i j : Int} (h : mulOk i j = true) : fBin .mul (.int i) (.int j) = some (.val (.int (i * j))) := by
  show (if mulOk i j then some (BR.val (.int (i * j))) else none).map BR.a = _
  rw [if_pos h]; rfl
theorem fb_fdiv {i j : Int} (h : fdivOk j = true) : fBin .fdiv (.int i) (.int j) = some (.val (.int (i.fdiv j))) := by
  show (if fdivOk j then some (BR.val (.int (i.fdiv j))) else none).map BR.a = _
  rw [if_pos h]; rfl
theorem fb_mod {i j : Int} (h : j ≠ 0) : fBin .mod (.int i) (.int j) = some (.val (.int (i.fmod j))) := by
  show (if j = 0 then none else some (BR.val (.int (i.fmod j)))).map BR.a = _
  rw [if_neg h]; rfl
end Ev
end
section
set_option maxRecDepth 100000
/-! operators, comparisons, built-in functions at values: for simp -/
namespace Ev
open PySem
@[simp] theorem br_val {d : D} : BR.a (.val d) = .val d := rfl
@[simp] theorem br_new {d : D} : BR.a (.new d) = .tmp d := rfl
@[simp] theorem c_lt {i j : Int} : fCmp .lt (.int i) (.int j) = some (.val (.bl (decide (i < j)))) := rfl
@[simp] theorem c_le {i j : Int} : fCmp .le (.int i) (.int j) = some (.val (.bl (decide (i ≤ j)))) := rfl
@[simp] theorem c_gt {i j : Int} : fCmp .gt (.int i) (.int j) = some (.val (.bl (decide (j < i)))) := rfl
@[simp] theorem c_ge {i j : Int} : fCmp .ge (.int i) (.int j) = some (.val (.bl (decide (j ≤ i)))) := rfl
@[simp] theorem c_eq {a b : D} : fCmp .eq a b = (a.eq? b).map fun c => .val (.bl c) := by cases a <;> cases b <;> rfl
@[simp] theorem c_ne {a b : D} : fCmp .ne a b = (a.eq? b).map fun c => .val (.bl (!c)) := by
  have : cmpF .ne a b = (a.eq? b).map (!·) := by cases a <;> cases b <;> rfl
  unfold fCmp
  rw [this]
  cases a.eq? b <;> rfl
@[simp] theorem c_isN {a : D} : fCmp .is a .non = some (.val (.bl a.isNon)) := by cases a <;> rfl
@[simp] theorem c_isnN {a : D} : fCmp .isn a .non = some (.val (.bl (!a.isNon))) := by cases a <;> rfl
@[simp] theorem c_isB {a b : Bool} : fCmp .is (.bl a) (.bl b) = some (.val (.bl (a == b))) := rfl
@[simp] theorem c_isnB {a b : Bool} : fCmp .isn (.bl a) (.bl b) = some (.val (.bl (a != b))) := rfl
@[simp] theorem n_non : D.isNon .non = true := rfl
@[simp] theorem n_int {i : Int} : D.isNon (.int i) = false := rfl
@[simp] theorem n_bl {i : Bool} : D.isNon (.bl i) = false := rfl
@[simp] theorem n_tup {i : List D} : D.isNon (.tup i) = false := rfl
@[simp] theorem n_lst {i : List D} : D.isNon (.lst i) = false := rfl
@[simp] theorem n_str {i : Str} : D.isNon (.str i) = false := rfl
@[simp] theorem x_tup {xs : List D} {i : Int} : fIdx (.tup xs) (.int i) = (L2.atI xs i).map .val := rfl
@[simp] theorem x_lst {xs : List D} {i : Int} : fIdx (.lst xs) (.int i) = (L2.atI xs i).map .val := rfl
@[simp] theorem b_len {xs : List D} : biF .len [.lst xs] = some (.val (.int xs.length)) := rfl
@[simp] theorem b_lent {xs : List D} : biF .len [.tup xs] = some (.val (.int xs.length)) := rfl
@[simp] theorem b_abs {i : Int} : biF .abs [.int i] = some (.val (.int i.natAbs)) := by
  show some (BR.val (.int (if i < 0 then -i else i))) = _
  have e : (if i < 0 then -i else i) = (i.natAbs : Int) := by split <;> omega
  rw [e]
@[simp] theorem b_int {i : Int} : biF .int [.int i] = some (.val (.int i)) := rfl
@[simp] theorem b_listl {xs : List D} : biF .list [.lst xs] = some (.new (.lst xs)) := rfl
@[simp] theorem b_listt {xs : List D} : biF .list [.tup xs] = some (.new (.lst xs)) := rfl
@[simp] theorem b_tupl {xs : List D} : biF .tuple [.lst xs] = some (.val (.tup xs)) := rfl
@[simp] theorem b_tupt {xs : List D} : biF .tuple [.tup xs] = some (.val (.tup xs)) := rfl
@[simp] theorem b_max2 {i j : Int} : biF .max2 [.int i, .int j] = some (.val (.int (max i j))) := by
  show some (BR.val (.int (if j > i then j else i))) = _
  have e : (if j > i then j else i) = max i j := by split <;> omega
  rw [e]
@[simp] theorem b_min2 {i j : Int} : biF .min2 [.int i, .int j] = some (.val (.int (min i j))) := by
  show some (BR.val (.int (if j < i then j else i))) = _
  have e : (if j < i then j else i) = min i j := by split <;> omega
  rw [e]
@[simp] theorem b_sum {xs : List D} : biF .sum [.lst xs] = (asInts xs).map fun ns => .val (.int ns.sum) := rfl
@[simp] theorem b_all {xs : List D} : biF .all [.lst xs] = (asBools xs).map fun bs => .val (.bl (bs.all id)) := rfl
@[simp] theorem b_any {xs : List D} : biF .any [.lst xs] = (asBools xs).map fun bs => .val (.bl (bs.any id)) := rfl
@[simp] theorem b_isInt {i : Int} : biF .isInt [.int i] = some (.val (.bl true)) := rfl
@[simp] theorem b_isBool {i : Int} : biF .isBool [.int i] = some (.val (.bl false)) := rfl
@[simp] theorem b_isTup {i : List D} : biF .isTuple [.tup i] = some (.val (.bl true)) := rfl
@[simp] theorem b_isTupl {i : List D} : biF .isTuple [.lst i] = some (.val (.bl false)) := rfl
@[simp] theorem b_isTupn : biF .isTuple [.non] = some (.val (.bl false)) := rfl
@[simp] theorem tr_int {i : Int} : D.truth (.int i) = some (i != 0) := rfl
@[simp] theorem tr_bl {i : Bool} : D.truth (.bl i) = some i := rfl
@[simp] theorem tr_tup {i : List D} : D.truth (.tup i) = some (!i.isEmpty) := rfl
@[simp] theorem tr_lst {i : List D} : D.truth (.lst i) = some (!i.isEmpty) := rfl
@[simp] theorem tr_non : D.truth .non = some false := rfl
@[simp] theorem au_add {i j : Int} : augF .add (.int i) (.int j) = some (.int (i + j)) := rfl
@[simp] theorem au_sub {i j : Int} : augF .sub (.int i) (.int j) = some (.int (i - j)) := rfl
/-- what an owned slot holds -/
def lkO (o : Option (Option Sl)) : Option D := match o with
  | some (some s) => some s.d
  | _ => none
@[simp] theorem lk_own {i : Nat} {env : Env} : (A.own i).look env = lkO env[i]? := by
  unfold lkO
  show (match env[i]? with | some (some s) => some s.d | _ => none) = _
  cases env[i]? with
  | none => rfl
  | some s => cases s <;> rfl
@[simp] theorem lk_some {s : Sl} : lkO (some (some s)) = some s.d := rfl
def two2 (env : Env) (f : D → D → Option A) (a b : Option D) : Out A := match a, b with
  | some d, some e => match f d e with
    | some r => .ok r env
    | none => .stuck
  | _, _ => .stuck
theorem two_eq {env : Env} {f : D → D → Option A} {x y : A} : two env f x y = two2 env f (x.look env) (y.look env) := rfl
@[simp] theorem two_ot {env : Env} {f : D → D → Option A} {i : Nat} {d : D} : two env f (.own i) (.tmp d) = two2 env f (lkO env[i]?) (some d) := by rw [two_eq, lk_own]; rfl
@[simp] theorem two_oo {env : Env} {f : D → D → Option A} {i j : Nat} : two env f (.own i) (.own j) = two2 env f (lkO env[i]?) (lkO env[j]?) := by rw [two_eq, lk_own, lk_own]
@[simp] theorem two_vo {env : Env} {f : D → D → Option A} {j : Nat} {d : D} : two env f (.val d) (.own j) = two2 env f (some d) (lkO env[j]?) := by rw [two_eq, lk_own]; rfl
@[simp] theorem two_to {env : Env} {f : D → D → Option A} {j : Nat} {d : D} : two env f (.tmp d) (.own j) = two2 env f (some d) (lkO env[j]?) := by rw [two_eq, lk_own]; rfl
@[simp] theorem two2_ss {env : Env} {f : D → D → Option A} {d e : D} : two2 env f (some d) (some e) = (match f d e with | some r => .ok r env | none => .stuck) := by
  rw [show two2 env f (some d) (some e) = (match f d e with | some r => .ok r env | none => .stuck) from rfl]
def kEnum2 (o : Out D) : Out (List D) := o.bind fun d env => match d with
    | .lst ds => .ok (enumD 0 ds) env
    | .tup ds => .ok (enumD 0 ds) env
    | _ => .stuck
@[simp] theorem k_enumo {i : Nat} {env : Env} : kEnum (.ok (.own i) env) = kEnum2 ((A.own i).freeze env) := rfl
@[simp] theorem k_enumtm {d : D} {env : Env} : kEnum (.ok (.tmp d) env) = kEnum2 (.ok d env) := rfl
@[simp] theorem k_enum2l {ds : List D} {env : Env} : kEnum2 (.ok (.lst ds) env) = .ok (enumD 0 ds) env := rfl
@[simp] theorem k_enum2t {ds : List D} {env : Env} : kEnum2 (.ok (.tup ds) env) = .ok (enumD 0 ds) env := rfl
/-- methods of texts -/
def kSm3 (m : Sm) (s : Str) (env : Env) (o : Option (List D)) : Out A := match o with
  | some ds => kBi3 env (smF m s ds)
  | none => .stuck
def kSm2 (m : Sm) (s : Str) (o : Out (List A)) : Out A := o.bind fun as env => kSm3 m s env (lookAll as env)
def kSm (P : Par) (m : Sm) (es : Es) (o : Out A) : Out A := o.bind fun x env => match x with
  | .val (.str s) => kSm2 m s (evAs P es env)
  | _ => .stuck
@[simp] theorem s_sm {P : Par} {m : Sm} {o : E} {es : Es} {env : Env} : evA P (.sm m o es) env = kSm P m es (evA P o env) := by
  simp only [evA]
  unfold kSm
  congr
@[simp] theorem k_sm {P : Par} {m : Sm} {es : Es} {s : Str} {env : Env} : kSm P m es (.ok (.val (.str s)) env) = kSm2 m s (evAs P es env) := rfl
@[simp] theorem k_sm2 {m : Sm} {s : Str} {as : List A} {env : Env} : kSm2 m s (.ok as env) = kSm3 m s env (lookAll as env) := rfl
@[simp] theorem k_sm3 {m : Sm} {s : Str} {ds : List D} {env : Env} : kSm3 m s env (some ds) = kBi3 env (smF m s ds) := rfl
/-- a < b < c -/
def kCh3 (p : Co) (e : D) (o : Out A) : Out A := o.bind fun z env => match z.look env with
  | some g => match cmpF p e g with
    | some r => .ok (.val (.bl r)) env
    | none => .stuck
  | none => .stuck
def kCh2 (P : Par) (p : Co) (e : D) (c : E) (env : Env) (o : Option Bool) : Out A := match o with
  | some true => kCh3 p e (evA P c env)
  | some false => .ok (.val (.bl false)) env
  | none => .stuck
theorem s_chain {P : Par} {o p : Co} {a b c : E} {d e : D} {env env1 env2 : Env} (ha : evA P a env = .ok (.val d) env1) (hb : evA P b env1 = .ok (.val e) env2) :
    evA P (.chain o p a b c) env = kCh2 P p e c env2 (cmpF o d e) := by
  simp only [evA]
  rw [ha, Out.bind_ok, hb, Out.bind_ok, look_val, look_val]
  dsimp only
  unfold kCh2 kCh3
  cases cmpF o d e with
  | none => rfl
  | some q =>
    cases q with
    | false => rfl
    | true =>
      dsimp only
      congr; funext z env3
      rw [look_val]
      cases z.look env3 <;> rfl
@[simp] theorem k_ch2t {P : Par} {p : Co} {e : D} {c : E} {env : Env} : kCh2 P p e c env (some true) = kCh3 p e (evA P c env) := rfl
@[simp] theorem k_ch2f {P : Par} {p : Co} {e : D} {c : E} {env : Env} : kCh2 P p e c env (some false) = .ok (.val (.bl false)) env := rfl
def kCh4 (env : Env) (o : Option Bool) : Out A := match o with
  | some r => .ok (.val (.bl r)) env
  | none => .stuck
@[simp] theorem k_ch3 {p : Co} {e g : D} {env : Env} : kCh3 p e (.ok (.val g) env) = kCh4 env (cmpF p e g) := rfl
@[simp] theorem k_ch4 {env : Env} {r : Bool} : kCh4 env (some r) = .ok (.val (.bl r)) env := rfl
/-- dict displays -/
def kDsp (o : Out (List D)) : Out A := o.bind fun ds env => match pairD ds with
    | some ps => if ps.length ≤ 15 then .ok (.tmp (.dic false (dmerge [] ps))) env else .stuck
    | none => .stuck
@[simp] theorem s_dsp {P : Par} {es : Es} {env : Env} : evA P (.dsp es) env = kDsp (evVs P es env) := by simp only [evA]; rfl
theorem k_dsp {ds : List D} {ps : List (D × D)} {env : Env} (h : pairD ds = some ps) (hl : ps.length ≤ 15) : kDsp (.ok ds env) = .ok (.tmp (.dic false (dmerge [] ps))) env := by
  unfold kDsp
  rw [Out.bind_ok, h]
  dsimp only
  rw [if_pos hl]
/-- truth of what is in hand -/
def truD (env : Env) (o : Option Bool) : Out Bool := match o with
  | some b => .ok b env
  | none => .stuck
@[simp] theorem tru_some {env : Env} {b : Bool} : truD env (some b) = .ok b env := rfl
def truO (env : Env) (o : Option D) : Out Bool := match o with
  | some d => truD env d.truth
  | none => .stuck
@[simp] theorem truo_some {env : Env} {d : D} : truO env (some d) = truD env d.truth := rfl
@[simp] theorem t_own {i : Nat} {env : Env} : tru1 (.own i) env = truO env (lkO env[i]?) := by
  unfold tru1
  rw [lk_own]
  cases lkO env[i]? <;> rfl
@[simp] theorem t_tmp {d : D} {env : Env} : tru1 (.tmp d) env = truD env d.truth := rfl
/-- lengths that are small -/
theorem fb_cat {xs ys : List D} (h : xs.length + ys.length ≤ 1000000) : fBin .add (.tup xs) (.tup ys) = some (.val (.tup (xs ++ ys))) := by
  show (if xs.length + ys.length ≤ sizeLine then some (BR.val (.tup (xs ++ ys))) else none).map BR.a = _
  rw [if_pos (sl_le6 h)]; rfl
theorem fb_catl {xs ys : List D} (h : xs.length + ys.length ≤ 1000000) : fBin .add (.lst xs) (.lst ys) = some (.tmp (.lst (xs ++ ys))) := by
  show (if xs.length + ys.length ≤ sizeLine then some (BR.new (.lst (xs ++ ys))) else none).map BR.a = _
  rw [if_pos (sl_le6 h)]; rfl
theorem mA_app {i : Nat} {v : D} {xs : List D} {env : Env} (h : xs.length < 1000000) : mutA .append i [v] env (some (some (.own (.lst xs)))) = .ok (.val .non) (env.set i (some (.own (.lst (xs ++ [v]))))) := by
  rw [m_app, if_pos (sl_lt6 h)]
theorem eq_self {d : D} (h : d.eqOk = true) (hs : D.eqv d d = true) : D.eq? d d = some true := by
  unfold D.eq?; rw [h, hs]; rfl
/-- last of a list -/
theorem atI_m1 {α : Type} {xs : List α} {x : α} : L2.atI (xs ++ [x]) (-1) = some x := by
  unfold L2.atI L2.ixN
  have e : ((-1 : Int) + ((xs.length : Int) + 1)).toNat = xs.length := by omega
  have h : (1 : Int) ≤ (xs.length : Int) + 1 := by omega
  simp [h, e]
theorem mo_r {i j : Int} (h1 : -(2 ^ 64) < j) (h2 : j < 2 ^ 64) : mulOk i j = true := by
  unfold mulOk
  rw [s64_of h1 h2]; simp
theorem mo_l {i j : Int} (h1 : -(2 ^ 64) < i) (h2 : i < 2 ^ 64) : mulOk i j = true := by
  unfold mulOk
  rw [s64_of h1 h2]; simp
theorem fd_ok {j : Int} (h1 : 0 < j) (h2 : j < 2 ^ 200) : fdivOk j = true := by
  unfold fdivOk
  have h3 : j.natAbs < 2 ^ 200 := by omega
  have h4 : j.natAbs.log2 < 200 := (Nat.log2_lt (by omega)).mpr h3
  have h5 : j.natAbs.log2 < 9000 := Nat.lt_of_lt_of_le h4 (by decide)
  rw [decide_eq_true h1, decide_eq_true h5]; simp
end Ev
end
section
/-! the greatest common divisor, by remainders -/
namespace Ev
open PySem
theorem fmod_abs {a b : Int} (hb : b ≠ 0) : (a.fmod b).natAbs < b.natAbs := by
  rcases Int.lt_or_gt_of_ne hb with h | h
  · have h1 : (a.fmod b) = -((-a).fmod (-b)) := by rw [Int.neg_fmod_neg]; omega
    have h2 := Int.fmod_lt_of_pos (-a) (b := -b) (by omega)
    have h3 := Int.fmod_nonneg_of_pos (-a) (b := -b) (by omega)
    omega
  · have h2 := Int.fmod_lt_of_pos a (b := b) h
    have h3 := Int.fmod_nonneg_of_pos a (b := b) h
    omega
theorem gcd_fmod {a b : Int} : Int.gcd b (a.fmod b) = Int.gcd a b := by
  rw [Int.fmod_def, Int.gcd_comm a b]
  exact Int.gcd_sub_mul_left_right ..
end Ev
end
section
/-! fractions in lowest terms -/
namespace Ev
open PySem
/-- a fraction in lowest terms -/
def frac (a b : Int) : Int × Int := (a.fdiv (Int.gcd a b), b.fdiv (Int.gcd a b))
def prD (p : Int × Int) : D := .tup [.int p.1, .int p.2]
theorem frac_rat {a b : Int} (hb : 0 < b) : frac a b = ((Rat.divInt a b).num, ((Rat.divInt a b).den : Int)) := by
  unfold frac
  have h2 : 0 < Int.gcd a b := Int.gcd_pos_of_ne_zero_right a (by omega)
  have h4 : (0 : Int) ≤ (Int.gcd a b : Nat) := by omega
  rw [Rat.num_divInt, Rat.den_divInt, if_neg (by omega), Int.sign_eq_one_of_pos hb, Int.gcd_comm b a, Int.fdiv_eq_ediv_of_nonneg _ h4, Int.fdiv_eq_ediv_of_nonneg _ h4]
  simp [Int.natAbs_of_nonneg (Int.le_of_lt hb)]
theorem frac_uniq {a b c d : Int} (hb : 0 < b) (hd : 0 < d) (h : a * d = c * b) : frac a b = frac c d := by
  rw [frac_rat hb, frac_rat hd, (Rat.divInt_eq_divInt_iff (by omega) (by omega)).mpr h]
theorem frac_pos {a b : Int} (hb : 0 < b) : 0 < (frac a b).2 := by
  rw [frac_rat hb]
  have := (Rat.divInt a b).den_pos
  simp; omega
theorem frac_cross {a b : Int} (hb : 0 < b) : (frac a b).1 * b = a * (frac a b).2 := by
  have h := frac_rat (a := a) hb
  have h1 : Rat.divInt (frac a b).1 (frac a b).2 = Rat.divInt a b := by rw [h]; exact Rat.num_divInt_den _
  have h2 := frac_pos (a := a) hb
  exact (Rat.divInt_eq_divInt_iff (by omega) (by omega)).mp h1
theorem frac_le {a b : Int} (hb : 0 < b) : (frac a b).2 ≤ b := by
  unfold frac
  have h4 : (0 : Int) ≤ (Int.gcd a b : Nat) := by omega
  show b.fdiv _ ≤ b
  rw [Int.fdiv_eq_ediv_of_nonneg _ h4]
  exact Int.ediv_le_self _ (by omega)
theorem frac_abs {a b : Int} : (frac a b).1.natAbs ≤ a.natAbs := by
  unfold frac
  have h4 : (0 : Int) ≤ (Int.gcd a b : Nat) := by omega
  show (a.fdiv _).natAbs ≤ _
  rw [Int.fdiv_eq_ediv_of_nonneg _ h4]
  exact Int.natAbs_ediv_le_natAbs ..
theorem frac_one {w q : Int} (hq : 0 < q) : frac (w * q) q = (w, 1) := by
  rw [frac_uniq (c := w) (d := 1) hq (by omega) (by grind)]
  simp [frac]
theorem gcd_fits {a b : Int} (hb : 0 < b) (hb2 : b < 2 ^ 62) : fdivOk (Int.gcd a b : Int) = true := by
  have h1 : Int.gcd a b ≤ b.natAbs := Nat.le_of_dvd (by omega) (by have := Int.gcd_dvd_right (a := a) (b := b); exact Int.natAbs_dvd_natAbs.mpr this)
  have h2 : 0 < Int.gcd a b := Int.gcd_pos_of_ne_zero_right a (by omega)
  exact fd_ok (by omega) (by omega)
end Ev
end
section
set_option maxRecDepth 100000
set_option maxHeartbeats 2000000
namespace Ev
open PySem PySem.Spec L2
abbrev prog : Program := PySem.Challenge.pw_linesfitted_k07_boxes_glue_and_penalties
def top (i : Nat) : Stmt := prog.main.body.getD i (.Pass ⟨0, 0, 0, 0⟩)
def G : Prg := ⟨((["is_integer", "common_divisor", "fraction", "is_item", "is_row", "is_place", "places_of", "first_of", "is_forced", "sizes_of", "ratio_of", "badness", "demerits", "kind_of", "widths_in", "row_of", "natural_width", "least_width", "joined_boxes", "scaled", "text_of", "_law_draw", "_law_common", "_law_number", "_law_row", "_law_is_place", "_law_first", "_law_sizes", "_law_ratio", "_law_bad"] : List Str) ++ (["_law_kind", "_law_widths", "_law_made", "law"] : List Str)), ["LinesfittedError", "NoSuch"], ["len", "abs", "int", "list", "tuple", "any", "all", "sum", "max", "min", "isinstance", "bool", "str", "range", "enumerate"], [("NEVER", (.int 10000))], 60⟩
def exmt : List (List Bool) := [[true, false], [true, true]]
def T0 : Txt := ⟨"is_integer", top 4, ["value", "low", "high"], ["value", "low", "high"], [0, 1, 2], false⟩
def F0 : Fn := ⟨3, 3, [true, true, true], (.cons (.iff (.or (.nt (.bi .isInt (.cons (.var 0) .nil))) (.bi .isBool (.cons (.var 0) .nil))) (.cons (.ret (.cst (.bl false))) .nil) .nil) (.cons (.ret (.an (.or (.cmp .is (.var 1) (.cst .non)) (.cmp .ge (.var 0) (.var 1))) (.or (.cmp .is (.var 2) (.cst .non)) (.cmp .le (.var 0) (.var 2))))) .nil))⟩
theorem is0 : T0.Is G F0 := ⟨by decide +kernel, by kernel_rfl, rfl, rfl, rfl⟩
theorem bd0 : bindOk T0 := fun _ _ _ _ _ _ us hl => match us, hl with | [_, _, _], _ => rfl
def T1 : Txt := ⟨"common_divisor", top 5, ["one", "two"], ["one", "two"], [], false⟩
def F1 : Fn := ⟨2, 2, [false, false], (.cons (.whl (.var 1) (.cons (.par 0 1 (.var 1) (.bin .mod (.var 0) (.var 1))) .nil)) (.cons (.ret (.bi .abs (.cons (.var 0) .nil))) .nil))⟩
theorem is1 : T1.Is G F1 := ⟨by decide +kernel, by kernel_rfl, rfl, rfl, rfl⟩
theorem bd1 : bindOk T1 := fun _ _ _ _ _ _ us hl => match us, hl with | [_, _], _ => rfl
def T2 : Txt := ⟨"fraction", top 6, ["over", "under"], ["over", "under", "common"], [0, 1], false⟩
def F2 : Fn := ⟨2, 3, [true, true], (.cons (.iff (.cmp .eq (.var 1) (.cst (.int 0))) (.cons (.raise 1 .nil) .nil) .nil) (.cons (.asg (.nm 2) (.call 1 (.cons (.var 0) (.cons (.var 1) .nil)))) (.cons (.iff (.cmp .lt (.var 1) (.cst (.int 0))) (.cons (.asg (.nm 2) (.neg (.var 2))) .nil) .nil) (.cons (.ret (.tup (.cons (.bin .fdiv (.var 0) (.var 2)) (.cons (.bin .fdiv (.var 1) (.var 2)) .nil)))) .nil))))⟩
theorem is2 : T2.Is G F2 := ⟨by decide +kernel, by kernel_rfl, rfl, rfl, rfl⟩
theorem bd2 : bindOk T2 := fun _ _ _ _ _ _ us hl => match us, hl with | [_, _], _ => rfl
def T3 : Txt := ⟨"is_item", top 9, ["value"], ["value", "one"], [0], true⟩
def F3 : Fn := ⟨1, 2, [true], (.cons (.iff (.or (.nt (.bi .isTuple (.cons (.var 0) .nil))) (.nt (.var 0))) (.cons (.ret (.cst (.bl false))) .nil) .nil) (.cons (.iff (.cmp .eq (.idx (.var 0) (.cst (.int 0))) (.cst (.str "box"))) (.cons (.ret (.an (.cmp .eq (.bi .len (.cons (.var 0) .nil)) (.cst (.int 2))) (.call 0 (.cons (.idx (.var 0) (.cst (.int 1))) (.cons (.cst (.int 0)) (.cons (.cst .non) .nil)))))) .nil) .nil) (.cons (.iff (.cmp .eq (.idx (.var 0) (.cst (.int 0))) (.cst (.str "glue"))) (.cons (.ret (.an (.cmp .eq (.bi .len (.cons (.var 0) .nil)) (.cst (.int 4))) (.gx true (.call 0 (.cons (.var 1) (.cons (.cst (.int 0)) (.cons (.cst .non) .nil)))) (.nm 1) (.of (.slc (.var 0) (.cons (.cst (.int 1)) .nil) .nil)) .nil [1]))) .nil) .nil) (.cons (.iff (.or (.cmp .ne (.idx (.var 0) (.cst (.int 0))) (.cst (.str "penalty"))) (.cmp .ne (.bi .len (.cons (.var 0) .nil)) (.cst (.int 4)))) (.cons (.ret (.cst (.bl false))) .nil) .nil) (.cons (.ret (.an (.call 0 (.cons (.idx (.var 0) (.cst (.int 1))) (.cons (.cst (.int 0)) (.cons (.cst .non) .nil)))) (.an (.call 0 (.cons (.idx (.var 0) (.cst (.int 2))) (.cons (.neg (.cst (.int 10000))) (.cons (.cst (.int 10000)) .nil)))) (.call 0 (.cons (.idx (.var 0) (.cst (.int 3))) (.cons (.cst (.int 0)) (.cons (.cst (.int 1)) .nil))))))) .nil)))))⟩
theorem is3 : T3.Is G F3 := ⟨by decide +kernel, by kernel_rfl, rfl, rfl, rfl⟩
theorem bd3 : bindOk T3 := fun _ _ _ _ _ _ us hl => match us, hl with | [_], _ => rfl
def T4 : Txt := ⟨"is_row", top 10, ["value"], ["value", "item"], [0], true⟩
def F4 : Fn := ⟨1, 2, [true], (.cons (.iff (.or (.nt (.bi .isTuple (.cons (.var 0) .nil))) (.or (.nt (.var 0)) (.nt (.gx true (.call 3 (.cons (.var 1) .nil)) (.nm 1) (.of (.var 0)) .nil [1])))) (.cons (.ret (.cst (.bl false))) .nil) .nil) (.cons (.ret (.an (.cmp .eq (.idx (.idx (.var 0) (.neg (.cst (.int 1)))) (.cst (.int 0))) (.cst (.str "penalty"))) (.cmp .eq (.idx (.idx (.var 0) (.neg (.cst (.int 1)))) (.cst (.int 2))) (.neg (.cst (.int 10000)))))) .nil))⟩
theorem is4 : T4.Is G F4 := ⟨by decide +kernel, by kernel_rfl, rfl, rfl, rfl⟩
theorem bd4 : bindOk T4 := fun _ _ _ _ _ _ us hl => match us, hl with | [_], _ => rfl
def T5 : Txt := ⟨"is_place", top 11, ["row", "place"], ["row", "place", "item"], [0, 1], false⟩
def F5 : Fn := ⟨2, 3, [true, true], (.cons (.asg (.nm 2) (.idx (.var 0) (.var 1))) (.cons (.iff (.cmp .eq (.idx (.var 2) (.cst (.int 0))) (.cst (.str "glue"))) (.cons (.ret (.an (.cmp .gt (.var 1) (.cst (.int 0))) (.cmp .eq (.idx (.idx (.var 0) (.bin .sub (.var 1) (.cst (.int 1)))) (.cst (.int 0))) (.cst (.str "box"))))) .nil) .nil) (.cons (.ret (.an (.cmp .eq (.idx (.var 2) (.cst (.int 0))) (.cst (.str "penalty"))) (.cmp .lt (.idx (.var 2) (.cst (.int 2))) (.cst (.int 10000))))) .nil)))⟩
theorem is5 : T5.Is G F5 := ⟨by decide +kernel, by kernel_rfl, rfl, rfl, rfl⟩
theorem bd5 : bindOk T5 := fun _ _ _ _ _ _ us hl => match us, hl with | [_, _], _ => rfl
def T6 : Txt := ⟨"places_of", top 12, ["row"], ["row", "place"], [0], false⟩
def F6 : Fn := ⟨1, 2, [true], (.cons (.ret (.bi .tuple (.cons (.lc (.var 1) (.nm 1) (.rng1 (.bi .len (.cons (.var 0) .nil))) (.cons (.call 5 (.cons (.var 0) (.cons (.var 1) .nil))) .nil) [1]) .nil))) .nil)⟩
theorem is6 : T6.Is G F6 := ⟨by decide +kernel, by kernel_rfl, rfl, rfl, rfl⟩
theorem bd6 : bindOk T6 := fun _ _ _ _ _ _ us hl => match us, hl with | [_], _ => rfl
def T7 : Txt := ⟨"first_of", top 13, ["row", "place"], ["row", "place", "here"], [0, 1], false⟩
def F7 : Fn := ⟨2, 3, [true, true], (.cons (.asg (.nm 2) (.bin .add (.var 1) (.cst (.int 1)))) (.cons (.whl (.an (.cmp .lt (.var 2) (.bi .len (.cons (.var 0) .nil))) (.an (.cmp .ne (.idx (.idx (.var 0) (.var 2)) (.cst (.int 0))) (.cst (.str "box"))) (.nt (.call 8 (.cons (.var 0) (.cons (.var 2) .nil)))))) (.cons (.aug 2 .add (.cst (.int 1))) .nil)) (.cons (.ret (.var 2)) .nil)))⟩
theorem is7 : T7.Is G F7 := ⟨by decide +kernel, by kernel_rfl, rfl, rfl, rfl⟩
theorem bd7 : bindOk T7 := fun _ _ _ _ _ _ us hl => match us, hl with | [_, _], _ => rfl
def T8 : Txt := ⟨"is_forced", top 14, ["row", "place"], ["row", "place"], [0, 1], false⟩
def F8 : Fn := ⟨2, 2, [true, true], (.cons (.ret (.an (.cmp .eq (.idx (.idx (.var 0) (.var 1)) (.cst (.int 0))) (.cst (.str "penalty"))) (.cmp .eq (.idx (.idx (.var 0) (.var 1)) (.cst (.int 2))) (.neg (.cst (.int 10000)))))) .nil)⟩
theorem is8 : T8.Is G F8 := ⟨by decide +kernel, by kernel_rfl, rfl, rfl, rfl⟩
theorem bd8 : bindOk T8 := fun _ _ _ _ _ _ us hl => match us, hl with | [_, _], _ => rfl
def T9 : Txt := ⟨"sizes_of", top 15, ["row", "start", "end"], ["row", "start", "end", "first", "width", "stretch", "shrink", "item"], [0, 1, 2], false⟩
def F9 : Fn := ⟨3, 8, [true, true, true], (.cons (.asg (.nm 3) (.call 7 (.cons (.var 0) (.cons (.var 1) .nil)))) (.cons (.asg (.tp (.cons (.nm 4) (.cons (.nm 5) (.cons (.nm 6) .nil)))) (.tup (.cons (.cst (.int 0)) (.cons (.cst (.int 0)) (.cons (.cst (.int 0)) .nil))))) (.cons (.forr (.nm 7) (.of (.slc (.var 0) (.cons (.var 3) .nil) (.cons (.var 2) .nil))) (.cons (.iff (.cmp .eq (.idx (.var 7) (.cst (.int 0))) (.cst (.str "box"))) (.cons (.aug 4 .add (.idx (.var 7) (.cst (.int 1)))) .nil) (.cons (.iff (.cmp .eq (.idx (.var 7) (.cst (.int 0))) (.cst (.str "glue"))) (.cons (.par3 4 5 6 (.bin .add (.var 4) (.idx (.var 7) (.cst (.int 1)))) (.bin .add (.var 5) (.idx (.var 7) (.cst (.int 2)))) (.bin .add (.var 6) (.idx (.var 7) (.cst (.int 3))))) .nil) .nil) .nil)) .nil)) (.cons (.iff (.cmp .eq (.idx (.idx (.var 0) (.var 2)) (.cst (.int 0))) (.cst (.str "penalty"))) (.cons (.aug 4 .add (.idx (.idx (.var 0) (.var 2)) (.cst (.int 1)))) .nil) .nil) (.cons (.ret (.tup (.cons (.var 4) (.cons (.var 5) (.cons (.var 6) .nil))))) .nil)))))⟩
theorem is9 : T9.Is G F9 := ⟨by decide +kernel, by kernel_rfl, rfl, rfl, rfl⟩
theorem bd9 : bindOk T9 := fun _ _ _ _ _ _ us hl => match us, hl with | [_, _, _], _ => rfl
def T10 : Txt := ⟨"ratio_of", top 16, ["row", "start", "end", "measure"], ["row", "start", "end", "measure", "width", "stretch", "shrink", "gap", "room"], [0, 1, 2, 3], false⟩
def F10 : Fn := ⟨4, 9, [true, true, true, true], (.cons (.asg (.tp (.cons (.nm 4) (.cons (.nm 5) (.cons (.nm 6) .nil)))) (.call 9 (.cons (.var 0) (.cons (.var 1) (.cons (.var 2) .nil))))) (.cons (.asg (.nm 7) (.bin .sub (.var 3) (.var 4))) (.cons (.iff (.cmp .eq (.var 7) (.cst (.int 0))) (.cons (.ret (.tup (.cons (.cst (.int 0)) (.cons (.cst (.int 1)) .nil)))) .nil) .nil) (.cons (.asg (.nm 8) (.ite (.cmp .gt (.var 7) (.cst (.int 0))) (.var 5) (.var 6))) (.cons (.ret (.ite (.var 8) (.call 2 (.cons (.var 7) (.cons (.var 8) .nil))) (.cst .non))) .nil)))))⟩
theorem is10 : T10.Is G F10 := ⟨by decide +kernel, by kernel_rfl, rfl, rfl, rfl⟩
theorem bd10 : bindOk T10 := fun _ _ _ _ _ _ us hl => match us, hl with | [_, _, _, _], _ => rfl
def T11 : Txt := ⟨"badness", top 17, ["ratio"], ["ratio", "above", "below", "over", "under"], [0], false⟩
def F11 : Fn := ⟨1, 5, [true], (.cons (.iff (.cmp .is (.var 0) (.cst .non)) (.cons (.ret (.cst .non)) .nil) .nil) (.cons (.par 1 2 (.bi .abs (.cons (.idx (.var 0) (.cst (.int 0))) .nil)) (.idx (.var 0) (.cst (.int 1)))) (.cons (.par 3 4 (.bin .mul (.bin .mul (.bin .mul (.cst (.int 100)) (.var 1)) (.var 1)) (.var 1)) (.bin .mul (.bin .mul (.var 2) (.var 2)) (.var 2))) (.cons (.ret (.bi .min2 (.cons (.cst (.int 10000)) (.cons (.bin .fdiv (.bin .add (.bin .mul (.cst (.int 2)) (.var 3)) (.var 4)) (.bin .mul (.cst (.int 2)) (.var 4))) .nil)))) .nil))))⟩
theorem is11 : T11.Is G F11 := ⟨by decide +kernel, by kernel_rfl, rfl, rfl, rfl⟩
theorem bd11 : bindOk T11 := fun _ _ _ _ _ _ us hl => match us, hl with | [_], _ => rfl
def T12 : Txt := ⟨"demerits", top 18, ["bad", "cost", "line"], ["bad", "cost", "line", "base"], [0, 1, 2], false⟩
def F12 : Fn := ⟨3, 4, [true, true, true], (.cons (.asg (.nm 3) (.bin .mul (.bin .add (.var 2) (.var 0)) (.bin .add (.var 2) (.var 0)))) (.cons (.iff (.cmp .ge (.var 1) (.cst (.int 0))) (.cons (.ret (.bin .add (.var 3) (.bin .mul (.var 1) (.var 1)))) .nil) .nil) (.cons (.ret (.ite (.cmp .gt (.var 1) (.neg (.cst (.int 10000)))) (.bin .sub (.var 3) (.bin .mul (.var 1) (.var 1))) (.var 3))) .nil)))⟩
theorem is12 : T12.Is G F12 := ⟨by decide +kernel, by kernel_rfl, rfl, rfl, rfl⟩
theorem bd12 : bindOk T12 := fun _ _ _ _ _ _ us hl => match us, hl with | [_, _, _], _ => rfl
def T13 : Txt := ⟨"kind_of", top 19, ["ratio"], ["ratio"], [0], false⟩
def F13 : Fn := ⟨1, 1, [true], (.cons (.iff (.cmp .lt (.bin .mul (.cst (.int 2)) (.idx (.var 0) (.cst (.int 0)))) (.neg (.idx (.var 0) (.cst (.int 1))))) (.cons (.ret (.cst (.int 0))) .nil) .nil) (.cons (.iff (.cmp .le (.bin .mul (.cst (.int 2)) (.idx (.var 0) (.cst (.int 0)))) (.idx (.var 0) (.cst (.int 1)))) (.cons (.ret (.cst (.int 1))) .nil) .nil) (.cons (.ret (.ite (.cmp .le (.idx (.var 0) (.cst (.int 0))) (.idx (.var 0) (.cst (.int 1)))) (.cst (.int 2)) (.cst (.int 3)))) .nil)))⟩
theorem is13 : T13.Is G F13 := ⟨by decide +kernel, by kernel_rfl, rfl, rfl, rfl⟩
theorem bd13 : bindOk T13 := fun _ _ _ _ _ _ us hl => match us, hl with | [_], _ => rfl
def T14 : Txt := ⟨"widths_in", top 20, ["row", "start", "end", "measure"], ["row", "start", "end", "measure", "ratio", "found", "place", "item", "room"], [0, 1, 2, 3], false⟩
def b14_0 : Ss := (.cons (.asg (.nm 7) (.idx (.var 0) (.var 6))) (.cons (.iff (.cmp .eq (.idx (.var 7) (.cst (.int 0))) (.cst (.str "box"))) (.cons (.expr (.mut .append 5 (.cons (.tup (.cons (.var 6) (.cons (.tup (.cons (.idx (.var 7) (.cst (.int 1))) (.cons (.cst (.int 1)) .nil))) .nil))) .nil))) .nil) (.cons (.iff (.cmp .eq (.idx (.var 7) (.cst (.int 0))) (.cst (.str "glue"))) (.cons (.asg (.nm 8) (.ite (.cmp .gt (.idx (.var 4) (.cst (.int 0))) (.cst (.int 0))) (.idx (.var 7) (.cst (.int 2))) (.idx (.var 7) (.cst (.int 3))))) (.cons (.expr (.mut .append 5 (.cons (.tup (.cons (.var 6) (.cons (.call 2 (.cons (.bin .add (.bin .mul (.idx (.var 7) (.cst (.int 1))) (.idx (.var 4) (.cst (.int 1)))) (.bin .mul (.var 8) (.idx (.var 4) (.cst (.int 0))))) (.cons (.idx (.var 4) (.cst (.int 1))) .nil))) .nil))) .nil))) .nil)) .nil) .nil)) .nil))
def F14 : Fn := ⟨4, 9, [true, true, true, true], (.cons (.asg (.nm 4) (.call 10 (.cons (.var 0) (.cons (.var 1) (.cons (.var 2) (.cons (.var 3) .nil)))))) (.cons (.iff (.cmp .is (.var 4) (.cst .non)) (.cons (.raise 1 .nil) .nil) .nil) (.cons (.asg (.nm 5) (.lst .nil)) (.cons (.forr (.nm 6) (.rng2 (.call 7 (.cons (.var 0) (.cons (.var 1) .nil))) (.var 2)) b14_0) (.cons (.ret (.bi .tuple (.cons (.var 5) .nil))) .nil)))))⟩
theorem is14 : T14.Is G F14 := ⟨by decide +kernel, by kernel_rfl, rfl, rfl, rfl⟩
theorem bd14 : bindOk T14 := fun _ _ _ _ _ _ us hl => match us, hl with | [_, _, _, _], _ => rfl
def T15 : Txt := ⟨"row_of", top 21, ["words", "widths", "space", "hyphen", "cost"], ["words", "widths", "space", "hyphen", "cost", "found", "number", "parts", "place", "part"], [0, 1, 2, 3, 4], false⟩
def b15_0 : Ss := (.cons (.iff (.var 8) (.cons (.expr (.mut .append 5 (.cons (.tup (.cons (.cst (.str "penalty")) (.cons (.var 3) (.cons (.var 4) (.cons (.cst (.int 1)) .nil))))) .nil))) .nil) .nil) (.cons (.expr (.mut .append 5 (.cons (.tup (.cons (.cst (.str "box")) (.cons (.idx (.var 1) (.var 9)) .nil))) .nil))) .nil))
def b15_1 : Ss := (.cons (.iff (.var 6) (.cons (.expr (.mut .append 5 (.cons (.bin .add (.tup (.cons (.cst (.str "glue")) .nil)) (.bi .tuple (.cons (.var 2) .nil))) .nil))) .nil) .nil) (.cons (.forr (.tp (.cons (.nm 8) (.cons (.nm 9) .nil))) (.enum (.var 7)) b15_0) .nil))
def F15 : Fn := ⟨5, 10, [true, true, true, true, true], (.cons (.asg (.nm 5) (.lst .nil)) (.cons (.forr (.tp (.cons (.nm 6) (.cons (.nm 7) .nil))) (.enum (.var 0)) b15_1) (.cons (.ret (.bin .add (.bi .tuple (.cons (.var 5) .nil)) (.tup (.cons (.tup (.cons (.cst (.str "penalty")) (.cons (.cst (.int 0)) (.cons (.cst (.int 10000)) (.cons (.cst (.int 0)) .nil))))) (.cons (.tup (.cons (.cst (.str "glue")) (.cons (.cst (.int 0)) (.cons (.bin .mul (.cst (.int 10000)) (.cst (.int 10))) (.cons (.cst (.int 0)) .nil))))) (.cons (.tup (.cons (.cst (.str "penalty")) (.cons (.cst (.int 0)) (.cons (.neg (.cst (.int 10000))) (.cons (.cst (.int 1)) .nil))))) .nil)))))) .nil)))⟩
theorem is15 : T15.Is G F15 := ⟨by decide +kernel, by kernel_rfl, rfl, rfl, rfl⟩
theorem bd15 : bindOk T15 := fun _ _ _ _ _ _ us hl => match us, hl with | [_, _, _, _, _], _ => rfl
def T16 : Txt := ⟨"natural_width", top 22, ["row"], ["row", "item"], [0], false⟩
def F16 : Fn := ⟨1, 2, [true], (.cons (.ret (.bi .sum (.cons (.lc (.idx (.var 1) (.cst (.int 1))) (.nm 1) (.of (.var 0)) (.cons (.cmp .ne (.idx (.var 1) (.cst (.int 0))) (.cst (.str "penalty"))) .nil) [1]) .nil))) .nil)⟩
theorem is16 : T16.Is G F16 := ⟨by decide +kernel, by kernel_rfl, rfl, rfl, rfl⟩
theorem bd16 : bindOk T16 := fun _ _ _ _ _ _ us hl => match us, hl with | [_], _ => rfl
def T17 : Txt := ⟨"least_width", top 23, ["row"], ["row", "item"], [0], false⟩
def F17 : Fn := ⟨1, 2, [true], (.cons (.ret (.bi .max1 (.cons (.bin .add (.lst (.cons (.cst (.int 0)) .nil)) (.lc (.idx (.var 1) (.cst (.int 1))) (.nm 1) (.of (.var 0)) (.cons (.cmp .eq (.idx (.var 1) (.cst (.int 0))) (.cst (.str "box"))) .nil) [1])) .nil))) .nil)⟩
theorem is17 : T17.Is G F17 := ⟨by decide +kernel, by kernel_rfl, rfl, rfl, rfl⟩
theorem bd17 : bindOk T17 := fun _ _ _ _ _ _ us hl => match us, hl with | [_], _ => rfl
def T18 : Txt := ⟨"joined_boxes", top 24, ["row"], ["row", "found", "item"], [0], false⟩
def b18_0 : Ss := (.cons (.iff (.an (.cmp .eq (.idx (.var 2) (.cst (.int 0))) (.cst (.str "box"))) (.an (.var 1) (.cmp .eq (.idx (.idx (.var 1) (.neg (.cst (.int 1)))) (.cst (.int 0))) (.cst (.str "box"))))) (.cons (.setI 1 (.neg (.cst (.int 1))) (.tup (.cons (.cst (.str "box")) (.cons (.bin .add (.idx (.idx (.var 1) (.neg (.cst (.int 1)))) (.cst (.int 1))) (.idx (.var 2) (.cst (.int 1)))) .nil)))) .nil) (.cons (.expr (.mut .append 1 (.cons (.var 2) .nil))) .nil)) .nil)
def F18 : Fn := ⟨1, 3, [true], (.cons (.asg (.nm 1) (.lst .nil)) (.cons (.forr (.nm 2) (.of (.var 0)) b18_0) (.cons (.ret (.bi .tuple (.cons (.var 1) .nil))) .nil)))⟩
theorem is18 : T18.Is G F18 := ⟨by decide +kernel, by kernel_rfl, rfl, rfl, rfl⟩
theorem bd18 : bindOk T18 := fun _ _ _ _ _ _ us hl => match us, hl with | [_], _ => rfl
def T19 : Txt := ⟨"scaled", top 25, ["row", "factor"], ["row", "factor", "found", "item", "one"], [0, 1], false⟩
def e19_0 : E := (.bin .mul (.var 4) (.var 1))
def b19_1 : Ss := (.cons (.iff (.cmp .eq (.idx (.var 3) (.cst (.int 0))) (.cst (.str "penalty"))) (.cons (.expr (.mut .append 2 (.cons (.bin .add (.tup (.cons (.idx (.var 3) (.cst (.int 0))) (.cons (.bin .mul (.idx (.var 3) (.cst (.int 1))) (.var 1)) .nil))) (.slc (.var 3) (.cons (.cst (.int 2)) .nil) .nil)) .nil))) .nil) (.cons (.expr (.mut .append 2 (.cons (.bin .add (.slc (.var 3) .nil (.cons (.cst (.int 1)) .nil)) (.bi .tuple (.cons (.lc e19_0 (.nm 4) (.of (.slc (.var 3) (.cons (.cst (.int 1)) .nil) .nil)) .nil [4]) .nil))) .nil))) .nil)) .nil)
def F19 : Fn := ⟨2, 5, [true, true], (.cons (.asg (.nm 2) (.lst .nil)) (.cons (.forr (.nm 3) (.of (.var 0)) b19_1) (.cons (.ret (.bi .tuple (.cons (.var 2) .nil))) .nil)))⟩
theorem is19 : T19.Is G F19 := ⟨by decide +kernel, by kernel_rfl, rfl, rfl, rfl⟩
theorem bd19 : bindOk T19 := fun _ _ _ _ _ _ us hl => match us, hl with | [_, _], _ => rfl
def T20 : Txt := ⟨"text_of", top 26, ["row"], ["row", "words", "item", "one"], [0], false⟩
def e20_0 : E := (.bi .str (.cons (.var 3) .nil))
def b20_1 : Ss := (.cons (.expr (.mut .append 1 (.cons (.bin .add (.idx (.idx (.var 2) (.cst (.int 0))) (.cst (.int 0))) (.sm .join (.cst (.str ",")) (.cons (.lc e20_0 (.nm 3) (.of (.slc (.var 2) (.cons (.cst (.int 1)) .nil) .nil)) .nil [3]) .nil))) .nil))) .nil)
def F20 : Fn := ⟨1, 4, [true], (.cons (.asg (.nm 1) (.lst .nil)) (.cons (.forr (.nm 2) (.of (.var 0)) b20_1) (.cons (.ret (.sm .join (.cst (.str " ")) (.cons (.var 1) .nil))) .nil)))⟩
theorem is20 : T20.Is G F20 := ⟨by decide +kernel, by kernel_rfl, rfl, rfl, rfl⟩
theorem bd20 : bindOk T20 := fun _ _ _ _ _ _ us hl => match us, hl with | [_], _ => rfl
def T21 : Txt := ⟨"_law_draw", top 28, ["state", "limit"], ["state", "limit", "position", "cell", "mixed", "digit"], [0, 1], false⟩
def F21 : Fn := ⟨2, 6, [true, true], (.cons (.iff (.cmp .lt (.idx (.var 0) (.cst (.int 0))) (.var 1)) (.cons (.asg (.nm 2) (.idx (.var 0) (.cst (.int 1)))) (.cons (.setI 0 (.cst (.int 1)) (.bin .add (.var 2) (.cst (.int 1)))) (.cons (.asg (.nm 3) (.cst (.int 0))) (.cons (.iff (.cmp .lt (.var 2) (.bi .len (.cons (.idx (.var 0) (.cst (.int 2))) .nil))) (.cons (.asg (.nm 3) (.idx (.idx (.var 0) (.cst (.int 2))) (.var 2))) .nil) .nil) (.cons (.iff (.cmp .ge (.var 3) (.bin .pow (.cst (.int 10)) (.cst (.int 18)))) (.cons (.setI 0 (.cst (.int 0)) (.var 3)) .nil) (.cons (.setI 0 (.cst (.int 3)) (.bin .mod (.bi .int (.cons (.bin .mul (.bin .add (.bin .add (.bin .add (.idx (.var 0) (.cst (.int 3))) (.bin .mod (.bi .int (.cons (.var 3) .nil)) (.cst (.int 2147483629)))) (.var 2)) (.cst (.int 1))) (.cst (.int 48271))) .nil)) (.cst (.int 2147483647)))) (.cons (.asg (.nm 4) (.bin .mod (.bi .int (.cons (.bin .add (.bin .mul (.idx (.var 0) (.cst (.int 3))) (.cst (.int 69621))) (.cst (.int 11))) .nil)) (.cst (.int 2147483629)))) (.cons (.setI 0 (.cst (.int 0)) (.bin .add (.bin .mul (.var 4) (.cst (.int 2147483647))) (.bin .mod (.bi .int (.cons (.bin .add (.bin .mul (.var 4) (.cst (.int 30011))) (.idx (.var 0) (.cst (.int 3)))) .nil)) (.cst (.int 2147483587))))) .nil)))) .nil))))) .nil) (.cons (.asg (.nm 5) (.bin .mod (.bi .int (.cons (.idx (.var 0) (.cst (.int 0))) .nil)) (.var 1))) (.cons (.setI 0 (.cst (.int 0)) (.bin .fdiv (.idx (.var 0) (.cst (.int 0))) (.var 1))) (.cons (.ret (.var 5)) .nil))))⟩
theorem is21 : T21.Is G F21 := ⟨by decide +kernel, by kernel_rfl, rfl, rfl, rfl⟩
theorem bd21 : bindOk T21 := fun _ _ _ _ _ _ us hl => match us, hl with | [_, _], _ => rfl
def T22 : Txt := ⟨"_law_common", top 29, ["one", "two"], ["one", "two"], [], false⟩
def F22 : Fn := ⟨2, 2, [false, false], (.cons (.whl (.cmp .ne (.var 1) (.cst (.int 0))) (.cons (.par 0 1 (.var 1) (.bin .mod (.bi .int (.cons (.var 0) .nil)) (.var 1))) .nil)) (.cons (.ret (.bi .abs (.cons (.var 0) .nil))) .nil))⟩
theorem is22 : T22.Is G F22 := ⟨by decide +kernel, by kernel_rfl, rfl, rfl, rfl⟩
theorem bd22 : bindOk T22 := fun _ _ _ _ _ _ us hl => match us, hl with | [_, _], _ => rfl
def T23 : Txt := ⟨"_law_number", top 30, ["over", "under"], ["over", "under", "common"], [0, 1], false⟩
def F23 : Fn := ⟨2, 3, [true, true], (.cons (.asg (.nm 2) (.call 22 (.cons (.var 0) (.cons (.var 1) .nil)))) (.cons (.iff (.cmp .lt (.var 1) (.cst (.int 0))) (.cons (.asg (.nm 2) (.bin .sub (.cst (.int 0)) (.var 2))) .nil) .nil) (.cons (.ret (.tup (.cons (.bin .fdiv (.var 0) (.var 2)) (.cons (.bin .fdiv (.var 1) (.var 2)) .nil)))) .nil)))⟩
theorem is23 : T23.Is G F23 := ⟨by decide +kernel, by kernel_rfl, rfl, rfl, rfl⟩
theorem bd23 : bindOk T23 := fun _ _ _ _ _ _ us hl => match us, hl with | [_, _], _ => rfl
def T24 : Txt := ⟨"_law_row", top 31, ["state", "words"], ["state", "words", "row", "k"], [0, 1], false⟩
def b24_0 : Ss := (.cons (.iff (.cmp .gt (.var 3) (.cst (.int 0))) (.cons (.expr (.mut .append 2 (.cons (.tup (.cons (.cst (.str "glue")) (.cons (.bin .add (.cst (.int 2)) (.call 21 (.cons (.var 0) (.cons (.cst (.int 3)) .nil)))) (.cons (.bin .add (.cst (.int 1)) (.call 21 (.cons (.var 0) (.cons (.cst (.int 3)) .nil)))) (.cons (.bin .add (.cst (.int 1)) (.call 21 (.cons (.var 0) (.cons (.cst (.int 2)) .nil)))) .nil))))) .nil))) .nil) .nil) (.cons (.expr (.mut .append 2 (.cons (.tup (.cons (.cst (.str "box")) (.cons (.bin .add (.cst (.int 1)) (.call 21 (.cons (.var 0) (.cons (.cst (.int 9)) .nil)))) .nil))) .nil))) (.cons (.iff (.cmp .eq (.call 21 (.cons (.var 0) (.cons (.cst (.int 4)) .nil))) (.cst (.int 1))) (.cons (.expr (.mut .append 2 (.cons (.tup (.cons (.cst (.str "penalty")) (.cons (.call 21 (.cons (.var 0) (.cons (.cst (.int 3)) .nil))) (.cons (.idx (.lst (.cons (.cst (.int 50)) (.cons (.cst (.int 0)) (.cons (.bin .sub (.cst (.int 0)) (.cst (.int 50))) (.cons (.cst (.int 10000)) (.cons (.bin .sub (.cst (.int 0)) (.cst (.int 10000))) .nil)))))) (.call 21 (.cons (.var 0) (.cons (.cst (.int 5)) .nil)))) (.cons (.call 21 (.cons (.var 0) (.cons (.cst (.int 2)) .nil))) .nil))))) .nil))) (.cons (.expr (.mut .append 2 (.cons (.tup (.cons (.cst (.str "box")) (.cons (.bin .add (.cst (.int 1)) (.call 21 (.cons (.var 0) (.cons (.cst (.int 5)) .nil)))) .nil))) .nil))) .nil)) .nil) .nil)))
def F24 : Fn := ⟨2, 4, [true, true], (.cons (.asg (.nm 2) (.lst .nil)) (.cons (.forr (.nm 3) (.rng1 (.var 1)) b24_0) (.cons (.ret (.bi .tuple (.cons (.bin .add (.var 2) (.lst (.cons (.tup (.cons (.cst (.str "penalty")) (.cons (.cst (.int 0)) (.cons (.cst (.int 10000)) (.cons (.cst (.int 0)) .nil))))) (.cons (.tup (.cons (.cst (.str "glue")) (.cons (.cst (.int 0)) (.cons (.cst (.int 100000)) (.cons (.cst (.int 0)) .nil))))) (.cons (.tup (.cons (.cst (.str "penalty")) (.cons (.cst (.int 0)) (.cons (.bin .sub (.cst (.int 0)) (.cst (.int 10000))) (.cons (.cst (.int 1)) .nil))))) .nil))))) .nil))) .nil)))⟩
theorem is24 : T24.Is G F24 := ⟨by decide +kernel, by kernel_rfl, rfl, rfl, rfl⟩
theorem bd24 : bindOk T24 := fun _ _ _ _ _ _ us hl => match us, hl with | [_, _], _ => rfl
def T25 : Txt := ⟨"_law_is_place", top 32, ["row", "k"], ["row", "k"], [0, 1], false⟩
def F25 : Fn := ⟨2, 2, [true, true], (.cons (.iff (.cmp .eq (.idx (.idx (.var 0) (.var 1)) (.cst (.int 0))) (.cst (.str "glue"))) (.cons (.ret (.an (.cmp .gt (.var 1) (.cst (.int 0))) (.cmp .eq (.idx (.idx (.var 0) (.bin .sub (.var 1) (.cst (.int 1)))) (.cst (.int 0))) (.cst (.str "box"))))) .nil) .nil) (.cons (.ret (.an (.cmp .eq (.idx (.idx (.var 0) (.var 1)) (.cst (.int 0))) (.cst (.str "penalty"))) (.cmp .lt (.idx (.idx (.var 0) (.var 1)) (.cst (.int 2))) (.cst (.int 10000))))) .nil))⟩
theorem is25 : T25.Is G F25 := ⟨by decide +kernel, by kernel_rfl, rfl, rfl, rfl⟩
theorem bd25 : bindOk T25 := fun _ _ _ _ _ _ us hl => match us, hl with | [_, _], _ => rfl
def T26 : Txt := ⟨"_law_first", top 33, ["row", "start"], ["row", "start", "k"], [0, 1], false⟩
def F26 : Fn := ⟨2, 3, [true, true], (.cons (.asg (.nm 2) (.bin .add (.var 1) (.cst (.int 1)))) (.cons (.whl (.an (.cmp .lt (.var 2) (.bi .len (.cons (.var 0) .nil))) (.an (.cmp .ne (.idx (.idx (.var 0) (.var 2)) (.cst (.int 0))) (.cst (.str "box"))) (.nt (.an (.cmp .eq (.idx (.idx (.var 0) (.var 2)) (.cst (.int 0))) (.cst (.str "penalty"))) (.cmp .eq (.idx (.idx (.var 0) (.var 2)) (.cst (.int 2))) (.bin .sub (.cst (.int 0)) (.cst (.int 10000)))))))) (.cons (.asg (.nm 2) (.bin .add (.var 2) (.cst (.int 1)))) .nil)) (.cons (.ret (.var 2)) .nil)))⟩
theorem is26 : T26.Is G F26 := ⟨by decide +kernel, by kernel_rfl, rfl, rfl, rfl⟩
theorem bd26 : bindOk T26 := fun _ _ _ _ _ _ us hl => match us, hl with | [_, _], _ => rfl
def T27 : Txt := ⟨"_law_sizes", top 34, ["row", "start", "end"], ["row", "start", "end", "items", "width", "item", "glue"], [0, 1, 2], false⟩
def F27 : Fn := ⟨3, 7, [true, true, true], (.cons (.asg (.nm 3) (.slc (.var 0) (.cons (.call 26 (.cons (.var 0) (.cons (.var 1) .nil))) .nil) (.cons (.var 2) .nil))) (.cons (.asg (.nm 4) (.bi .sum (.cons (.lc (.idx (.var 5) (.cst (.int 1))) (.nm 5) (.of (.var 3)) (.cons (.cmp .ne (.idx (.var 5) (.cst (.int 0))) (.cst (.str "penalty"))) .nil) [5]) .nil))) (.cons (.iff (.cmp .eq (.idx (.idx (.var 0) (.var 2)) (.cst (.int 0))) (.cst (.str "penalty"))) (.cons (.asg (.nm 4) (.bin .add (.var 4) (.idx (.idx (.var 0) (.var 2)) (.cst (.int 1))))) .nil) .nil) (.cons (.asg (.nm 6) (.lc (.var 5) (.nm 5) (.of (.var 3)) (.cons (.cmp .eq (.idx (.var 5) (.cst (.int 0))) (.cst (.str "glue"))) .nil) [5])) (.cons (.ret (.tup (.cons (.var 4) (.cons (.bi .sum (.cons (.lc (.idx (.var 5) (.cst (.int 2))) (.nm 5) (.of (.var 6)) .nil [5]) .nil)) (.cons (.bi .sum (.cons (.lc (.idx (.var 5) (.cst (.int 3))) (.nm 5) (.of (.var 6)) .nil [5]) .nil)) .nil))))) .nil)))))⟩
theorem is27 : T27.Is G F27 := ⟨by decide +kernel, by kernel_rfl, rfl, rfl, rfl⟩
theorem bd27 : bindOk T27 := fun _ _ _ _ _ _ us hl => match us, hl with | [_, _, _], _ => rfl
def T28 : Txt := ⟨"_law_ratio", top 35, ["row", "start", "end", "measure"], ["row", "start", "end", "measure", "width", "stretch", "shrink", "gap", "room"], [0, 1, 2, 3], false⟩
def F28 : Fn := ⟨4, 9, [true, true, true, true], (.cons (.asg (.tp (.cons (.nm 4) (.cons (.nm 5) (.cons (.nm 6) .nil)))) (.call 27 (.cons (.var 0) (.cons (.var 1) (.cons (.var 2) .nil))))) (.cons (.asg (.nm 7) (.bin .sub (.var 3) (.var 4))) (.cons (.iff (.cmp .eq (.var 7) (.cst (.int 0))) (.cons (.ret (.tup (.cons (.cst (.int 0)) (.cons (.cst (.int 1)) .nil)))) .nil) .nil) (.cons (.asg (.nm 8) (.ite (.cmp .gt (.var 7) (.cst (.int 0))) (.var 5) (.var 6))) (.cons (.ret (.ite (.cmp .gt (.var 8) (.cst (.int 0))) (.call 23 (.cons (.var 7) (.cons (.var 8) .nil))) (.cst .non))) .nil)))))⟩
theorem is28 : T28.Is G F28 := ⟨by decide +kernel, by kernel_rfl, rfl, rfl, rfl⟩
theorem bd28 : bindOk T28 := fun _ _ _ _ _ _ us hl => match us, hl with | [_, _, _, _], _ => rfl
def T29 : Txt := ⟨"_law_bad", top 36, ["ratio"], ["ratio", "above", "below"], [0], false⟩
def F29 : Fn := ⟨1, 3, [true], (.cons (.asg (.nm 1) (.bin .mul (.bin .mul (.bin .mul (.bi .abs (.cons (.idx (.var 0) (.cst (.int 0))) .nil)) (.bi .abs (.cons (.idx (.var 0) (.cst (.int 0))) .nil))) (.bi .abs (.cons (.idx (.var 0) (.cst (.int 0))) .nil))) (.cst (.int 100)))) (.cons (.asg (.nm 2) (.bin .mul (.bin .mul (.idx (.var 0) (.cst (.int 1))) (.idx (.var 0) (.cst (.int 1)))) (.idx (.var 0) (.cst (.int 1))))) (.cons (.ret (.bi .min2 (.cons (.cst (.int 10000)) (.cons (.bin .fdiv (.bin .add (.bin .mul (.cst (.int 2)) (.var 1)) (.var 2)) (.bin .mul (.cst (.int 2)) (.var 2))) .nil)))) .nil)))⟩
theorem is29 : T29.Is G F29 := ⟨by decide +kernel, by kernel_rfl, rfl, rfl, rfl⟩
theorem bd29 : bindOk T29 := fun _ _ _ _ _ _ us hl => match us, hl with | [_], _ => rfl
def T30 : Txt := ⟨"_law_kind", top 37, ["ratio"], ["ratio"], [0], false⟩
def F30 : Fn := ⟨1, 1, [true], (.cons (.iff (.cmp .lt (.bin .mul (.cst (.int 2)) (.idx (.var 0) (.cst (.int 0)))) (.bin .sub (.cst (.int 0)) (.idx (.var 0) (.cst (.int 1))))) (.cons (.ret (.cst (.int 0))) .nil) .nil) (.cons (.iff (.cmp .le (.bin .mul (.cst (.int 2)) (.idx (.var 0) (.cst (.int 0)))) (.idx (.var 0) (.cst (.int 1)))) (.cons (.ret (.cst (.int 1))) .nil) .nil) (.cons (.ret (.ite (.cmp .le (.idx (.var 0) (.cst (.int 0))) (.idx (.var 0) (.cst (.int 1)))) (.cst (.int 2)) (.cst (.int 3)))) .nil)))⟩
theorem is30 : T30.Is G F30 := ⟨by decide +kernel, by kernel_rfl, rfl, rfl, rfl⟩
theorem bd30 : bindOk T30 := fun _ _ _ _ _ _ us hl => match us, hl with | [_], _ => rfl
def T31 : Txt := ⟨"_law_widths", top 38, ["row", "start", "end", "measure"], ["row", "start", "end", "measure"], [0, 1, 2, 3], false⟩
def F31 : Fn := ⟨4, 4, [true, true, true, true], (.cons (.tryE (.cons (.ret (.call 14 (.cons (.var 0) (.cons (.var 1) (.cons (.var 2) (.cons (.var 3) .nil)))))) .nil) 1 none (.cons (.ret (.cst .non)) .nil)) .nil)⟩
theorem is31 : T31.Is G F31 := ⟨by decide +kernel, by kernel_rfl, rfl, rfl, rfl⟩
theorem bd31 : bindOk T31 := fun _ _ _ _ _ _ us hl => match us, hl with | [_, _, _, _], _ => rfl
def T32 : Txt := ⟨"_law_made", top 39, ["state"], ["state", "widths", "words", "k", "j", "space", "cost", "due"], [0], false⟩
def e32_0 : E := (.idx (.lst (.cons (.cst (.str "ab")) (.cons (.cst (.str "c")) (.cons (.cst (.str "de")) .nil)))) (.call 21 (.cons (.var 0) (.cons (.cst (.int 3)) .nil))))
def e32_1 : E := (.bi .tuple (.cons (.lc e32_0 (.nm 4) (.rng1 (.bin .add (.cst (.int 1)) (.call 21 (.cons (.var 0) (.cons (.cst (.int 3)) .nil))))) .nil [4]) .nil))
def b32_2 : Ss := (.cons (.iff (.cmp .gt (.var 4) (.cst (.int 0))) (.cons (.expr (.mut .append 7 (.cons (.tup (.cons (.cst (.str "penalty")) (.cons (.cst (.int 2)) (.cons (.var 6) (.cons (.cst (.int 1)) .nil))))) .nil))) .nil) .nil) (.cons (.expr (.mut .append 7 (.cons (.tup (.cons (.cst (.str "box")) (.cons (.idx (.var 1) (.idx (.idx (.var 2) (.var 3)) (.var 4))) .nil))) .nil))) .nil))
def b32_3 : Ss := (.cons (.iff (.cmp .gt (.var 3) (.cst (.int 0))) (.cons (.expr (.mut .append 7 (.cons (.bin .add (.tup (.cons (.cst (.str "glue")) .nil)) (.var 5)) .nil))) .nil) .nil) (.cons (.forr (.nm 4) (.rng1 (.bi .len (.cons (.idx (.var 2) (.var 3)) .nil))) b32_2) .nil))
def F32 : Fn := ⟨1, 8, [true], (.cons (.asg (.nm 1) (.dsp (.cons (.cst (.str "ab")) (.cons (.cst (.int 3)) (.cons (.cst (.str "c")) (.cons (.bin .add (.cst (.int 1)) (.call 21 (.cons (.var 0) (.cons (.cst (.int 5)) .nil)))) (.cons (.cst (.str "de")) (.cons (.cst (.int 4)) .nil)))))))) (.cons (.asg (.nm 2) (.lc e32_1 (.nm 3) (.rng1 (.bin .add (.cst (.int 1)) (.call 21 (.cons (.var 0) (.cons (.cst (.int 4)) .nil))))) .nil [3])) (.cons (.asg (.nm 5) (.tup (.cons (.cst (.int 3)) (.cons (.bin .add (.cst (.int 1)) (.call 21 (.cons (.var 0) (.cons (.cst (.int 3)) .nil)))) (.cons (.cst (.int 1)) .nil))))) (.cons (.asg (.nm 6) (.call 21 (.cons (.var 0) (.cons (.cst (.int 100)) .nil)))) (.cons (.asg (.nm 7) (.lst .nil)) (.cons (.forr (.nm 3) (.rng1 (.bi .len (.cons (.var 2) .nil))) b32_3) (.cons (.asg (.nm 7) (.bin .add (.var 7) (.lst (.cons (.tup (.cons (.cst (.str "penalty")) (.cons (.cst (.int 0)) (.cons (.cst (.int 10000)) (.cons (.cst (.int 0)) .nil))))) (.cons (.tup (.cons (.cst (.str "glue")) (.cons (.cst (.int 0)) (.cons (.cst (.int 100000)) (.cons (.cst (.int 0)) .nil))))) (.cons (.tup (.cons (.cst (.str "penalty")) (.cons (.cst (.int 0)) (.cons (.bin .sub (.cst (.int 0)) (.cst (.int 10000))) (.cons (.cst (.int 1)) .nil))))) .nil)))))) (.cons (.ret (.cmp .eq (.call 15 (.cons (.var 2) (.cons (.var 1) (.cons (.var 5) (.cons (.cst (.int 2)) (.cons (.var 6) .nil)))))) (.bi .tuple (.cons (.var 7) .nil)))) .nil))))))))⟩
theorem is32 : T32.Is G F32 := ⟨by decide +kernel, by kernel_rfl, rfl, rfl, rfl⟩
theorem bd32 : bindOk T32 := fun _ _ _ _ _ _ us hl => match us, hl with | [_], _ => rfl
def T33 : Txt := ⟨"law", top 40, ["script"], ["script", "state", "row", "places", "k", "ends", "at", "end", "start", "measure", "ratio", "told", "due", "total", "room", "one", "tail", "some", "bad", "cost", "price", "item", "double", "joined", "words", "odd"], [0], false⟩
def e33_0 : E := (.var 4)
def c33_1 : Es := (.cons (.call 25 (.cons (.var 2) (.cons (.var 4) .nil))) .nil)
def e33_2 : E := (.call 5 (.cons (.var 2) (.cons (.var 4) .nil)))
def e33_3 : E := (.cmp .inn (.var 4) (.var 3))
def e33_4 : E := (.call 8 (.cons (.var 2) (.cons (.var 4) .nil)))
def e33_5 : E := (.an (.cmp .eq (.idx (.idx (.var 2) (.var 4)) (.cst (.int 0))) (.cst (.str "penalty"))) (.cmp .eq (.idx (.idx (.var 2) (.var 4)) (.cst (.int 2))) (.bin .sub (.cst (.int 0)) (.cst (.int 10000)))))
def b33_6 : Ss := (.cons (.iff (.cmp .ne (.idx (.idx (.var 2) (.var 4)) (.cst (.int 0))) (.cst (.str "penalty"))) (.cons (.asg (.nm 14) (.ite (.cmp .eq (.idx (.idx (.var 2) (.var 4)) (.cst (.int 0))) (.cst (.str "box"))) (.cst (.int 0)) (.ite (.cmp .gt (.idx (.var 10) (.cst (.int 0))) (.cst (.int 0))) (.idx (.idx (.var 2) (.var 4)) (.cst (.int 2))) (.idx (.idx (.var 2) (.var 4)) (.cst (.int 3)))))) (.cons (.asg (.nm 15) (.call 23 (.cons (.bin .add (.bin .mul (.idx (.idx (.var 2) (.var 4)) (.cst (.int 1))) (.idx (.var 10) (.cst (.int 1)))) (.bin .mul (.var 14) (.idx (.var 10) (.cst (.int 0))))) (.cons (.idx (.var 10) (.cst (.int 1))) .nil)))) (.cons (.expr (.mut .append 12 (.cons (.tup (.cons (.var 4) (.cons (.var 15) .nil))) .nil))) (.cons (.asg (.nm 13) (.call 23 (.cons (.bin .add (.bin .mul (.idx (.var 13) (.cst (.int 0))) (.idx (.var 15) (.cst (.int 1)))) (.bin .mul (.idx (.var 15) (.cst (.int 0))) (.idx (.var 13) (.cst (.int 1))))) (.cons (.bin .mul (.idx (.var 13) (.cst (.int 1))) (.idx (.var 15) (.cst (.int 1)))) .nil)))) .nil)))) .nil) .nil)
def e33_7 : E := (.idx (.var 21) (.cst (.int 1)))
def c33_8 : Es := (.cons (.cmp .ne (.idx (.var 21) (.cst (.int 0))) (.cst (.str "penalty"))) .nil)
def e33_9 : E := (.idx (.var 21) (.cst (.int 1)))
def c33_10 : Es := (.cons (.cmp .eq (.idx (.var 21) (.cst (.int 0))) (.cst (.str "box"))) .nil)
def e33_11 : E := (.idx (.var 21) (.cst (.int 1)))
def e33_12 : E := (.bin .mul (.cst (.int 3)) (.idx (.var 21) (.cst (.int 1))))
def e33_13 : E := (.an (.cmp .eq (.idx (.idx (.var 23) (.var 4)) (.cst (.int 0))) (.cst (.str "box"))) (.cmp .eq (.idx (.idx (.var 23) (.bin .add (.var 4) (.cst (.int 1)))) (.cst (.int 0))) (.cst (.str "box"))))
def e33_14 : E := (.var 4)
def c33_15 : Es := (.cons (.cmp .ne (.idx (.var 4) (.cst (.int 0))) (.cst (.str "box"))) .nil)
def e33_16 : E := (.var 4)
def c33_17 : Es := (.cons (.cmp .ne (.idx (.var 4) (.cst (.int 0))) (.cst (.str "box"))) .nil)
def e33_18 : E := (.bi .str (.cons (.var 15) .nil))
def e33_19 : E := (.bin .add (.idx (.idx (.var 21) (.cst (.int 0))) (.cst (.int 0))) (.sm .join (.cst (.str ",")) (.cons (.lc e33_18 (.nm 15) (.of (.slc (.var 21) (.cons (.cst (.int 1)) .nil) .nil)) .nil [15]) .nil)))
def e33_20 : E := (.call 3 (.cons (.var 21) .nil))
def q33_29 : Ss := .cons (.ret (.an (.cmp .is (.call 4 (.cons (.idx (.lst (.cons (.tup .nil) (.cons (.slc (.var 2) .nil (.cons (.neg (.cst (.int 1))) .nil)) (.cons (.bi .list (.cons (.var 2) .nil)) (.cons (.bin .add (.var 2) (.tup (.cons (.cst (.int 5)) .nil))) (.cons (.cst .non) .nil)))))) (.call 21 (.cons (.var 1) (.cons (.cst (.int 5)) .nil)))) .nil)) (.cst (.bl false))) (.call 32 (.cons (.var 1) .nil)))) .nil
def q33_28 : Ss := .cons (.iff (.or (.cmp .ne (.call 20 (.cons (.var 2) .nil)) (.sm .join (.cst (.str " ")) (.cons (.var 24) .nil))) (.or (.cmp .isn (.call 3 (.cons (.idx (.var 25) (.call 21 (.cons (.var 1) (.cons (.cst (.int 9)) .nil)))) .nil)) (.cst (.bl false))) (.nt (.bi .all (.cons (.lc e33_20 (.nm 21) (.of (.var 2)) .nil [21]) .nil))))) (.cons (.ret (.cst (.bl false))) .nil) .nil) q33_29
def q33_27 : Ss := .cons (.asg (.nm 25) (.lst (.cons (.tup (.cons (.cst (.str "box")) .nil)) (.cons (.tup (.cons (.cst (.str "box")) (.cons (.bin .sub (.cst (.int 0)) (.cst (.int 1))) .nil))) (.cons (.tup (.cons (.cst (.str "glue")) (.cons (.cst (.int 1)) (.cons (.cst (.int 1)) .nil)))) (.cons (.tup (.cons (.cst (.str "penalty")) (.cons (.cst (.int 0)) (.cons (.cst (.int 10001)) (.cons (.cst (.int 0)) .nil))))) (.cons (.tup (.cons (.cst (.str "penalty")) (.cons (.cst (.int 0)) (.cons (.cst (.int 0)) (.cons (.cst (.int 2)) .nil))))) (.cons (.lst (.cons (.cst (.str "box")) (.cons (.cst (.int 1)) .nil))) (.cons (.cst .non) (.cons (.tup (.cons (.cst (.str "bar")) (.cons (.cst (.int 1)) .nil))) (.cons (.tup (.cons (.cst (.str "glue")) (.cons (.cst (.int 1)) (.cons (.cst (.int 1)) (.cons (.cst (.bl true)) .nil))))) .nil))))))))))) q33_28
def q33_26 : Ss := .cons (.asg (.nm 24) (.lc e33_19 (.nm 21) (.of (.var 2)) .nil [21])) q33_27
def q33_25 : Ss := .cons (.iff (.or (.bi .any (.cons (.lc e33_13 (.nm 4) (.rng1 (.bin .sub (.bi .len (.cons (.var 23) .nil)) (.cst (.int 1)))) .nil [4]) .nil)) (.cmp .ne (.bi .len (.cons (.lc e33_14 (.nm 4) (.of (.var 23)) c33_15 [4]) .nil)) (.bi .len (.cons (.lc e33_16 (.nm 4) (.of (.var 2)) c33_17 [4]) .nil)))) (.cons (.ret (.cst (.bl false))) .nil) .nil) q33_26
def q33_24 : Ss := .cons (.iff (.or (.cmp .ne (.lc e33_11 (.nm 21) (.of (.var 22)) .nil [21]) (.lc e33_12 (.nm 21) (.of (.var 2)) .nil [21])) (.or (.cmp .ne (.call 10 (.cons (.var 22) (.cons (.var 8) (.cons (.var 7) (.cons (.bin .mul (.cst (.int 3)) (.var 9)) .nil))))) (.var 10)) (.cmp .ne (.call 16 (.cons (.var 23) .nil)) (.call 16 (.cons (.var 2) .nil))))) (.cons (.ret (.cst (.bl false))) .nil) .nil) q33_25
def q33_23 : Ss := .cons (.asg (.nm 23) (.call 18 (.cons (.var 2) .nil))) q33_24
def q33_22 : Ss := .cons (.asg (.nm 22) (.call 19 (.cons (.var 2) (.cons (.cst (.int 3)) .nil)))) q33_23
def q33_21 : Ss := .cons (.iff (.or (.cmp .ne (.call 16 (.cons (.var 2) .nil)) (.bi .sum (.cons (.lc e33_7 (.nm 21) (.of (.var 2)) c33_8 [21]) .nil))) (.cmp .ne (.call 17 (.cons (.var 2) .nil)) (.bi .max1 (.cons (.lc e33_9 (.nm 21) (.of (.var 2)) c33_10 [21]) .nil)))) (.cons (.ret (.cst (.bl false))) .nil) .nil) q33_22
def q33_20 : Ss := .cons (.iff (.or (.cmp .ne (.call 11 (.cons (.var 17) .nil)) (.call 29 (.cons (.var 17) .nil))) (.or (.cmp .ne (.call 13 (.cons (.var 17) .nil)) (.call 30 (.cons (.var 17) .nil))) (.or (.cmp .isn (.call 11 (.cons (.cst .non) .nil)) (.cst .non)) (.cmp .ne (.call 12 (.cons (.var 18) (.cons (.var 19) (.cons (.cst (.int 10)) .nil)))) (.var 20))))) (.cons (.ret (.cst (.bl false))) .nil) .nil) q33_21
def q33_19 : Ss := .cons (.iff (.cmp .ge (.var 19) (.cst (.int 0))) (.cons (.asg (.nm 20) (.bin .add (.var 20) (.bin .mul (.var 19) (.var 19)))) .nil) (.cons (.iff (.cmp .gt (.var 19) (.bin .sub (.cst (.int 0)) (.cst (.int 10000)))) (.cons (.asg (.nm 20) (.bin .sub (.var 20) (.bin .mul (.var 19) (.var 19)))) .nil) .nil) .nil)) q33_20
def q33_18 : Ss := .cons (.asg (.nm 20) (.bin .mul (.bin .add (.cst (.int 10)) (.var 18)) (.bin .add (.cst (.int 10)) (.var 18)))) q33_19
def q33_17 : Ss := .cons (.asg (.nm 19) (.idx (.lst (.cons (.call 21 (.cons (.var 1) (.cons (.cst (.int 100)) .nil))) (.cons (.bin .sub (.cst (.int 0)) (.call 21 (.cons (.var 1) (.cons (.cst (.int 100)) .nil)))) (.cons (.bin .sub (.cst (.int 0)) (.cst (.int 10000))) .nil)))) (.call 21 (.cons (.var 1) (.cons (.cst (.int 3)) .nil))))) q33_18
def q33_16 : Ss := .cons (.asg (.nm 18) (.call 21 (.cons (.var 1) (.cons (.cst (.int 200)) .nil)))) q33_17
def q33_15 : Ss := .cons (.asg (.nm 17) (.call 23 (.cons (.bin .sub (.call 21 (.cons (.var 1) (.cons (.cst (.int 41)) .nil))) (.cst (.int 20))) (.cons (.bin .add (.cst (.int 1)) (.call 21 (.cons (.var 1) (.cons (.cst (.int 9)) .nil)))) .nil)))) q33_16
def q33_14 : Ss := .cons (.iff (.cmp .isn (.var 10) (.cst .non)) (.cons (.iff (.or (.cmp .ne (.call 11 (.cons (.var 10) .nil)) (.call 29 (.cons (.var 10) .nil))) (.cmp .ne (.call 13 (.cons (.var 10) .nil)) (.call 30 (.cons (.var 10) .nil)))) (.cons (.ret (.cst (.bl false))) .nil) .nil) (.cons (.asg (.nm 12) (.lst .nil)) (.cons (.asg (.nm 13) (.tup (.cons (.cst (.int 0)) (.cons (.cst (.int 1)) .nil)))) (.cons (.forr (.nm 4) (.rng2 (.call 26 (.cons (.var 2) (.cons (.var 8) .nil))) (.var 7)) b33_6) (.cons (.asg (.nm 16) (.ite (.cmp .eq (.idx (.idx (.var 2) (.var 7)) (.cst (.int 0))) (.cst (.str "penalty"))) (.idx (.idx (.var 2) (.var 7)) (.cst (.int 1))) (.cst (.int 0)))) (.cons (.iff (.or (.cmp .ne (.var 11) (.bi .tuple (.cons (.var 12) .nil))) (.cmp .ne (.var 13) (.tup (.cons (.bin .sub (.var 9) (.var 16)) (.cons (.cst (.int 1)) .nil))))) (.cons (.ret (.cst (.bl false))) .nil) .nil) .nil)))))) .nil) q33_15
def q33_13 : Ss := .cons (.iff (.cmp .ne (.cmp .is (.var 11) (.cst .non)) (.cmp .is (.var 10) (.cst .non))) (.cons (.ret (.cst (.bl false))) .nil) .nil) q33_14
def q33_12 : Ss := .cons (.asg (.nm 11) (.call 31 (.cons (.var 2) (.cons (.var 8) (.cons (.var 7) (.cons (.var 9) .nil)))))) q33_13
def q33_11 : Ss := .cons (.iff (.or (.cmp .ne (.call 7 (.cons (.var 2) (.cons (.var 8) .nil))) (.call 26 (.cons (.var 2) (.cons (.var 8) .nil)))) (.or (.cmp .ne (.call 9 (.cons (.var 2) (.cons (.var 8) (.cons (.var 7) .nil)))) (.call 27 (.cons (.var 2) (.cons (.var 8) (.cons (.var 7) .nil))))) (.cmp .ne (.call 10 (.cons (.var 2) (.cons (.var 8) (.cons (.var 7) (.cons (.var 9) .nil))))) (.var 10)))) (.cons (.ret (.cst (.bl false))) .nil) .nil) q33_12
def q33_10 : Ss := .cons (.asg (.nm 10) (.call 28 (.cons (.var 2) (.cons (.var 8) (.cons (.var 7) (.cons (.var 9) .nil)))))) q33_11
def q33_9 : Ss := .cons (.asg (.nm 9) (.bin .add (.cst (.int 1)) (.call 21 (.cons (.var 1) (.cons (.cst (.int 60)) .nil))))) q33_10
def q33_8 : Ss := .cons (.asg (.nm 8) (.idx (.var 5) (.call 21 (.cons (.var 1) (.cons (.bin .add (.var 6) (.cst (.int 1))) .nil))))) q33_9
def q33_7 : Ss := .cons (.asg (.nm 7) (.idx (.var 3) (.var 6))) q33_8
def q33_6 : Ss := .cons (.asg (.nm 6) (.call 21 (.cons (.var 1) (.cons (.bi .len (.cons (.var 3) .nil)) .nil)))) q33_7
def q33_5 : Ss := .cons (.asg (.nm 5) (.bin .add (.lst (.cons (.bin .sub (.cst (.int 0)) (.cst (.int 1))) .nil)) (.var 3))) q33_6
def q33_4 : Ss := .cons (.iff (.cmp .ne (.lc e33_4 (.nm 4) (.rng1 (.bi .len (.cons (.var 2) .nil))) .nil [4]) (.lc e33_5 (.nm 4) (.rng1 (.bi .len (.cons (.var 2) .nil))) .nil [4])) (.cons (.ret (.cst (.bl false))) .nil) .nil) q33_5
def q33_3 : Ss := .cons (.iff (.or (.cmp .isn (.call 4 (.cons (.var 2) .nil)) (.cst (.bl true))) (.or (.cmp .ne (.call 6 (.cons (.var 2) .nil)) (.bi .tuple (.cons (.var 3) .nil))) (.cmp .ne (.lc e33_2 (.nm 4) (.rng1 (.bi .len (.cons (.var 2) .nil))) .nil [4]) (.lc e33_3 (.nm 4) (.rng1 (.bi .len (.cons (.var 2) .nil))) .nil [4])))) (.cons (.ret (.cst (.bl false))) .nil) .nil) q33_4
def q33_2 : Ss := .cons (.asg (.nm 3) (.lc e33_0 (.nm 4) (.rng1 (.bi .len (.cons (.var 2) .nil))) c33_1 [4])) q33_3
def q33_1 : Ss := .cons (.asg (.nm 2) (.call 24 (.cons (.var 1) (.cons (.bin .add (.cst (.int 1)) (.call 21 (.cons (.var 1) (.cons (.cst (.int 8)) .nil)))) .nil)))) q33_2
def q33_0 : Ss := .cons (.asg (.nm 1) (.lst (.cons (.cst (.int 0)) (.cons (.cst (.int 0)) (.cons (.bi .list (.cons (.var 0) .nil)) (.cons (.cst (.int 1)) .nil)))))) q33_1
def F33 : Fn := ⟨1, 26, [true], q33_0⟩
theorem is33 : T33.Is G F33 := ⟨by decide +kernel, by kernel_rfl, rfl, rfl, rfl⟩
theorem bd33 : bindOk T33 := fun _ _ _ _ _ _ us hl => match us, hl with | [_], _ => rfl
def Ts : List Txt := ([T0, T1, T2, T3, T4, T5, T6, T7, T8, T9, T10, T11, T12, T13, T14, T15, T16, T17, T18, T19, T20, T21, T22, T23, T24, T25, T26, T27, T28, T29] : List Txt) ++ ([T30, T31, T32, T33] : List Txt)
def fs : List Fn := ([F0, F1, F2, F3, F4, F5, F6, F7, F8, F9, F10, F11, F12, F13, F14, F15, F16, F17, F18, F19, F20, F21, F22, F23, F24, F25, F26, F27, F28, F29] : List Fn) ++ ([F30, F31, F32, F33] : List Fn)
theorem o0 {fuel k : Nat} {p0 p1 p2 : Sl} : callF fs (exmT exmt) fuel (k + 1) 0 [p0, p1, p2] = endF F0.lend (evSs (mkP fs (exmT exmt) fuel k 3) F0.body [some p0, some p1, some p2]) := callF_at (fs := fs) (fn := F0) rfl rfl
@[simp] theorem ln0 {fuel k np : Nat} : (mkP fs (exmT exmt) fuel k np).lend 0 = F0.lend := mk_lend (fn := F0) rfl
theorem o1 {fuel k : Nat} {p0 p1 : Sl} : callF fs (exmT exmt) fuel (k + 1) 1 [p0, p1] = endF F1.lend (evSs (mkP fs (exmT exmt) fuel k 2) F1.body [some p0, some p1]) := callF_at (fs := fs) (fn := F1) rfl rfl
@[simp] theorem ln1 {fuel k np : Nat} : (mkP fs (exmT exmt) fuel k np).lend 1 = F1.lend := mk_lend (fn := F1) rfl
theorem o2 {fuel k : Nat} {p0 p1 : Sl} : callF fs (exmT exmt) fuel (k + 1) 2 [p0, p1] = endF F2.lend (evSs (mkP fs (exmT exmt) fuel k 2) F2.body [some p0, some p1, none]) := callF_at (fs := fs) (fn := F2) rfl rfl
@[simp] theorem ln2 {fuel k np : Nat} : (mkP fs (exmT exmt) fuel k np).lend 2 = F2.lend := mk_lend (fn := F2) rfl
theorem o3 {fuel k : Nat} {p0 : Sl} : callF fs (exmT exmt) fuel (k + 1) 3 [p0] = endF F3.lend (evSs (mkP fs (exmT exmt) fuel k 1) F3.body [some p0, none]) := callF_at (fs := fs) (fn := F3) rfl rfl
@[simp] theorem ln3 {fuel k np : Nat} : (mkP fs (exmT exmt) fuel k np).lend 3 = F3.lend := mk_lend (fn := F3) rfl
theorem o4 {fuel k : Nat} {p0 : Sl} : callF fs (exmT exmt) fuel (k + 1) 4 [p0] = endF F4.lend (evSs (mkP fs (exmT exmt) fuel k 1) F4.body [some p0, none]) := callF_at (fs := fs) (fn := F4) rfl rfl
@[simp] theorem ln4 {fuel k np : Nat} : (mkP fs (exmT exmt) fuel k np).lend 4 = F4.lend := mk_lend (fn := F4) rfl
theorem o5 {fuel k : Nat} {p0 p1 : Sl} : callF fs (exmT exmt) fuel (k + 1) 5 [p0, p1] = endF F5.lend (evSs (mkP fs (exmT exmt) fuel k 2) F5.body [some p0, some p1, none]) := callF_at (fs := fs) (fn := F5) rfl rfl
@[simp] theorem ln5 {fuel k np : Nat} : (mkP fs (exmT exmt) fuel k np).lend 5 = F5.lend := mk_lend (fn := F5) rfl
theorem o6 {fuel k : Nat} {p0 : Sl} : callF fs (exmT exmt) fuel (k + 1) 6 [p0] = endF F6.lend (evSs (mkP fs (exmT exmt) fuel k 1) F6.body [some p0, none]) := callF_at (fs := fs) (fn := F6) rfl rfl
@[simp] theorem ln6 {fuel k np : Nat} : (mkP fs (exmT exmt) fuel k np).lend 6 = F6.lend := mk_lend (fn := F6) rfl
theorem o7 {fuel k : Nat} {p0 p1 : Sl} : callF fs (exmT exmt) fuel (k + 1) 7 [p0, p1] = endF F7.lend (evSs (mkP fs (exmT exmt) fuel k 2) F7.body [some p0, some p1, none]) := callF_at (fs := fs) (fn := F7) rfl rfl
@[simp] theorem ln7 {fuel k np : Nat} : (mkP fs (exmT exmt) fuel k np).lend 7 = F7.lend := mk_lend (fn := F7) rfl
theorem o8 {fuel k : Nat} {p0 p1 : Sl} : callF fs (exmT exmt) fuel (k + 1) 8 [p0, p1] = endF F8.lend (evSs (mkP fs (exmT exmt) fuel k 2) F8.body [some p0, some p1]) := callF_at (fs := fs) (fn := F8) rfl rfl
@[simp] theorem ln8 {fuel k np : Nat} : (mkP fs (exmT exmt) fuel k np).lend 8 = F8.lend := mk_lend (fn := F8) rfl
theorem o9 {fuel k : Nat} {p0 p1 p2 : Sl} : callF fs (exmT exmt) fuel (k + 1) 9 [p0, p1, p2] = endF F9.lend (evSs (mkP fs (exmT exmt) fuel k 3) F9.body [some p0, some p1, some p2, none, none, none, none, none]) := callF_at (fs := fs) (fn := F9) rfl rfl
@[simp] theorem ln9 {fuel k np : Nat} : (mkP fs (exmT exmt) fuel k np).lend 9 = F9.lend := mk_lend (fn := F9) rfl
theorem o10 {fuel k : Nat} {p0 p1 p2 p3 : Sl} : callF fs (exmT exmt) fuel (k + 1) 10 [p0, p1, p2, p3] = endF F10.lend (evSs (mkP fs (exmT exmt) fuel k 4) F10.body [some p0, some p1, some p2, some p3, none, none, none, none, none]) := callF_at (fs := fs) (fn := F10) rfl rfl
@[simp] theorem ln10 {fuel k np : Nat} : (mkP fs (exmT exmt) fuel k np).lend 10 = F10.lend := mk_lend (fn := F10) rfl
theorem o11 {fuel k : Nat} {p0 : Sl} : callF fs (exmT exmt) fuel (k + 1) 11 [p0] = endF F11.lend (evSs (mkP fs (exmT exmt) fuel k 1) F11.body [some p0, none, none, none, none]) := callF_at (fs := fs) (fn := F11) rfl rfl
@[simp] theorem ln11 {fuel k np : Nat} : (mkP fs (exmT exmt) fuel k np).lend 11 = F11.lend := mk_lend (fn := F11) rfl
theorem o12 {fuel k : Nat} {p0 p1 p2 : Sl} : callF fs (exmT exmt) fuel (k + 1) 12 [p0, p1, p2] = endF F12.lend (evSs (mkP fs (exmT exmt) fuel k 3) F12.body [some p0, some p1, some p2, none]) := callF_at (fs := fs) (fn := F12) rfl rfl
@[simp] theorem ln12 {fuel k np : Nat} : (mkP fs (exmT exmt) fuel k np).lend 12 = F12.lend := mk_lend (fn := F12) rfl
theorem o13 {fuel k : Nat} {p0 : Sl} : callF fs (exmT exmt) fuel (k + 1) 13 [p0] = endF F13.lend (evSs (mkP fs (exmT exmt) fuel k 1) F13.body [some p0]) := callF_at (fs := fs) (fn := F13) rfl rfl
@[simp] theorem ln13 {fuel k np : Nat} : (mkP fs (exmT exmt) fuel k np).lend 13 = F13.lend := mk_lend (fn := F13) rfl
theorem o14 {fuel k : Nat} {p0 p1 p2 p3 : Sl} : callF fs (exmT exmt) fuel (k + 1) 14 [p0, p1, p2, p3] = endF F14.lend (evSs (mkP fs (exmT exmt) fuel k 4) F14.body [some p0, some p1, some p2, some p3, none, none, none, none, none]) := callF_at (fs := fs) (fn := F14) rfl rfl
@[simp] theorem ln14 {fuel k np : Nat} : (mkP fs (exmT exmt) fuel k np).lend 14 = F14.lend := mk_lend (fn := F14) rfl
theorem o15 {fuel k : Nat} {p0 p1 p2 p3 p4 : Sl} : callF fs (exmT exmt) fuel (k + 1) 15 [p0, p1, p2, p3, p4] = endF F15.lend (evSs (mkP fs (exmT exmt) fuel k 5) F15.body [some p0, some p1, some p2, some p3, some p4, none, none, none, none, none]) := callF_at (fs := fs) (fn := F15) rfl rfl
@[simp] theorem ln15 {fuel k np : Nat} : (mkP fs (exmT exmt) fuel k np).lend 15 = F15.lend := mk_lend (fn := F15) rfl
theorem o16 {fuel k : Nat} {p0 : Sl} : callF fs (exmT exmt) fuel (k + 1) 16 [p0] = endF F16.lend (evSs (mkP fs (exmT exmt) fuel k 1) F16.body [some p0, none]) := callF_at (fs := fs) (fn := F16) rfl rfl
@[simp] theorem ln16 {fuel k np : Nat} : (mkP fs (exmT exmt) fuel k np).lend 16 = F16.lend := mk_lend (fn := F16) rfl
theorem o17 {fuel k : Nat} {p0 : Sl} : callF fs (exmT exmt) fuel (k + 1) 17 [p0] = endF F17.lend (evSs (mkP fs (exmT exmt) fuel k 1) F17.body [some p0, none]) := callF_at (fs := fs) (fn := F17) rfl rfl
@[simp] theorem ln17 {fuel k np : Nat} : (mkP fs (exmT exmt) fuel k np).lend 17 = F17.lend := mk_lend (fn := F17) rfl
theorem o18 {fuel k : Nat} {p0 : Sl} : callF fs (exmT exmt) fuel (k + 1) 18 [p0] = endF F18.lend (evSs (mkP fs (exmT exmt) fuel k 1) F18.body [some p0, none, none]) := callF_at (fs := fs) (fn := F18) rfl rfl
@[simp] theorem ln18 {fuel k np : Nat} : (mkP fs (exmT exmt) fuel k np).lend 18 = F18.lend := mk_lend (fn := F18) rfl
theorem o19 {fuel k : Nat} {p0 p1 : Sl} : callF fs (exmT exmt) fuel (k + 1) 19 [p0, p1] = endF F19.lend (evSs (mkP fs (exmT exmt) fuel k 2) F19.body [some p0, some p1, none, none, none]) := callF_at (fs := fs) (fn := F19) rfl rfl
@[simp] theorem ln19 {fuel k np : Nat} : (mkP fs (exmT exmt) fuel k np).lend 19 = F19.lend := mk_lend (fn := F19) rfl
theorem o20 {fuel k : Nat} {p0 : Sl} : callF fs (exmT exmt) fuel (k + 1) 20 [p0] = endF F20.lend (evSs (mkP fs (exmT exmt) fuel k 1) F20.body [some p0, none, none, none]) := callF_at (fs := fs) (fn := F20) rfl rfl
@[simp] theorem ln20 {fuel k np : Nat} : (mkP fs (exmT exmt) fuel k np).lend 20 = F20.lend := mk_lend (fn := F20) rfl
theorem o21 {fuel k : Nat} {p0 p1 : Sl} : callF fs (exmT exmt) fuel (k + 1) 21 [p0, p1] = endF F21.lend (evSs (mkP fs (exmT exmt) fuel k 2) F21.body [some p0, some p1, none, none, none, none]) := callF_at (fs := fs) (fn := F21) rfl rfl
@[simp] theorem ln21 {fuel k np : Nat} : (mkP fs (exmT exmt) fuel k np).lend 21 = F21.lend := mk_lend (fn := F21) rfl
theorem o22 {fuel k : Nat} {p0 p1 : Sl} : callF fs (exmT exmt) fuel (k + 1) 22 [p0, p1] = endF F22.lend (evSs (mkP fs (exmT exmt) fuel k 2) F22.body [some p0, some p1]) := callF_at (fs := fs) (fn := F22) rfl rfl
@[simp] theorem ln22 {fuel k np : Nat} : (mkP fs (exmT exmt) fuel k np).lend 22 = F22.lend := mk_lend (fn := F22) rfl
theorem o23 {fuel k : Nat} {p0 p1 : Sl} : callF fs (exmT exmt) fuel (k + 1) 23 [p0, p1] = endF F23.lend (evSs (mkP fs (exmT exmt) fuel k 2) F23.body [some p0, some p1, none]) := callF_at (fs := fs) (fn := F23) rfl rfl
@[simp] theorem ln23 {fuel k np : Nat} : (mkP fs (exmT exmt) fuel k np).lend 23 = F23.lend := mk_lend (fn := F23) rfl
theorem o24 {fuel k : Nat} {p0 p1 : Sl} : callF fs (exmT exmt) fuel (k + 1) 24 [p0, p1] = endF F24.lend (evSs (mkP fs (exmT exmt) fuel k 2) F24.body [some p0, some p1, none, none]) := callF_at (fs := fs) (fn := F24) rfl rfl
@[simp] theorem ln24 {fuel k np : Nat} : (mkP fs (exmT exmt) fuel k np).lend 24 = F24.lend := mk_lend (fn := F24) rfl
theorem o25 {fuel k : Nat} {p0 p1 : Sl} : callF fs (exmT exmt) fuel (k + 1) 25 [p0, p1] = endF F25.lend (evSs (mkP fs (exmT exmt) fuel k 2) F25.body [some p0, some p1]) := callF_at (fs := fs) (fn := F25) rfl rfl
@[simp] theorem ln25 {fuel k np : Nat} : (mkP fs (exmT exmt) fuel k np).lend 25 = F25.lend := mk_lend (fn := F25) rfl
theorem o26 {fuel k : Nat} {p0 p1 : Sl} : callF fs (exmT exmt) fuel (k + 1) 26 [p0, p1] = endF F26.lend (evSs (mkP fs (exmT exmt) fuel k 2) F26.body [some p0, some p1, none]) := callF_at (fs := fs) (fn := F26) rfl rfl
@[simp] theorem ln26 {fuel k np : Nat} : (mkP fs (exmT exmt) fuel k np).lend 26 = F26.lend := mk_lend (fn := F26) rfl
theorem o27 {fuel k : Nat} {p0 p1 p2 : Sl} : callF fs (exmT exmt) fuel (k + 1) 27 [p0, p1, p2] = endF F27.lend (evSs (mkP fs (exmT exmt) fuel k 3) F27.body [some p0, some p1, some p2, none, none, none, none]) := callF_at (fs := fs) (fn := F27) rfl rfl
@[simp] theorem ln27 {fuel k np : Nat} : (mkP fs (exmT exmt) fuel k np).lend 27 = F27.lend := mk_lend (fn := F27) rfl
theorem o28 {fuel k : Nat} {p0 p1 p2 p3 : Sl} : callF fs (exmT exmt) fuel (k + 1) 28 [p0, p1, p2, p3] = endF F28.lend (evSs (mkP fs (exmT exmt) fuel k 4) F28.body [some p0, some p1, some p2, some p3, none, none, none, none, none]) := callF_at (fs := fs) (fn := F28) rfl rfl
@[simp] theorem ln28 {fuel k np : Nat} : (mkP fs (exmT exmt) fuel k np).lend 28 = F28.lend := mk_lend (fn := F28) rfl
theorem o29 {fuel k : Nat} {p0 : Sl} : callF fs (exmT exmt) fuel (k + 1) 29 [p0] = endF F29.lend (evSs (mkP fs (exmT exmt) fuel k 1) F29.body [some p0, none, none]) := callF_at (fs := fs) (fn := F29) rfl rfl
@[simp] theorem ln29 {fuel k np : Nat} : (mkP fs (exmT exmt) fuel k np).lend 29 = F29.lend := mk_lend (fn := F29) rfl
theorem o30 {fuel k : Nat} {p0 : Sl} : callF fs (exmT exmt) fuel (k + 1) 30 [p0] = endF F30.lend (evSs (mkP fs (exmT exmt) fuel k 1) F30.body [some p0]) := callF_at (fs := fs) (fn := F30) rfl rfl
@[simp] theorem ln30 {fuel k np : Nat} : (mkP fs (exmT exmt) fuel k np).lend 30 = F30.lend := mk_lend (fn := F30) rfl
theorem o31 {fuel k : Nat} {p0 p1 p2 p3 : Sl} : callF fs (exmT exmt) fuel (k + 1) 31 [p0, p1, p2, p3] = endF F31.lend (evSs (mkP fs (exmT exmt) fuel k 4) F31.body [some p0, some p1, some p2, some p3]) := callF_at (fs := fs) (fn := F31) rfl rfl
@[simp] theorem ln31 {fuel k np : Nat} : (mkP fs (exmT exmt) fuel k np).lend 31 = F31.lend := mk_lend (fn := F31) rfl
theorem o32 {fuel k : Nat} {p0 : Sl} : callF fs (exmT exmt) fuel (k + 1) 32 [p0] = endF F32.lend (evSs (mkP fs (exmT exmt) fuel k 1) F32.body [some p0, none, none, none, none, none, none, none]) := callF_at (fs := fs) (fn := F32) rfl rfl
@[simp] theorem ln32 {fuel k np : Nat} : (mkP fs (exmT exmt) fuel k np).lend 32 = F32.lend := mk_lend (fn := F32) rfl
theorem o33 {fuel k : Nat} {p0 : Sl} : callF fs (exmT exmt) fuel (k + 1) 33 [p0] = endF F33.lend (evSs (mkP fs (exmT exmt) fuel k 1) F33.body [some p0, none, none, none, none, none, none, none, none, none, none, none, none, none, none, none, none, none, none, none, none, none, none, none, none, none]) := callF_at (fs := fs) (fn := F33) rfl rfl
@[simp] theorem ln33 {fuel k np : Nat} : (mkP fs (exmT exmt) fuel k np).lend 33 = F33.lend := mk_lend (fn := F33) rfl
/-- what is looked at in the head -/
def lookB (K : PySem.W.Frag) : Bool := defB K T0 && defB K T1 && defB K T2 && defB K T3 && defB K T4 && defB K T5 && defB K T6 && defB K T7 && defB K T8 && defB K T9 && defB K T10 && defB K T11 && defB K T12 && defB K T13 && defB K T14 && defB K T15 && defB K T16 && defB K T17 && defB K T18 && defB K T19 && defB K T20 && defB K T21 && defB K T22 && defB K T23 && defB K T24 && defB K T25 && defB K T26 && defB K T27 && defB K T28 && defB K T29 && defB K T30 && defB K T31 && defB K T32 && defB K T33 && worldB K G exmt
structure Eqs (K : PySem.W.Frag) : Prop where
  e0 : fdEq K T0
  e1 : fdEq K T1
  e2 : fdEq K T2
  e3 : fdEq K T3
  e4 : fdEq K T4
  e5 : fdEq K T5
  e6 : fdEq K T6
  e7 : fdEq K T7
  e8 : fdEq K T8
  e9 : fdEq K T9
  e10 : fdEq K T10
  e11 : fdEq K T11
  e12 : fdEq K T12
  e13 : fdEq K T13
  e14 : fdEq K T14
  e15 : fdEq K T15
  e16 : fdEq K T16
  e17 : fdEq K T17
  e18 : fdEq K T18
  e19 : fdEq K T19
  e20 : fdEq K T20
  e21 : fdEq K T21
  e22 : fdEq K T22
  e23 : fdEq K T23
  e24 : fdEq K T24
  e25 : fdEq K T25
  e26 : fdEq K T26
  e27 : fdEq K T27
  e28 : fdEq K T28
  e29 : fdEq K T29
  e30 : fdEq K T30
  e31 : fdEq K T31
  e32 : fdEq K T32
  e33 : fdEq K T33
theorem says {K : PySem.W.Frag} (h : lookB K = true) (e : Eqs K) : Says K G Ts fs exmt := by
  unfold lookB at h
  simp only [Bool.and_eq_true] at h
  obtain ⟨⟨⟨⟨⟨⟨⟨⟨⟨⟨⟨⟨⟨⟨⟨⟨⟨⟨⟨⟨⟨⟨⟨⟨⟨⟨⟨⟨⟨⟨⟨⟨⟨⟨h0, h1⟩, h2⟩, h3⟩, h4⟩, h5⟩, h6⟩, h7⟩, h8⟩, h9⟩, h10⟩, h11⟩, h12⟩, h13⟩, h14⟩, h15⟩, h16⟩, h17⟩, h18⟩, h19⟩, h20⟩, h21⟩, h22⟩, h23⟩, h24⟩, h25⟩, h26⟩, h27⟩, h28⟩, h29⟩, h30⟩, h31⟩, h32⟩, h33⟩, hw⟩ := h
  refine ⟨fun i T f hT hf => ?_, rfl, rfl, hw⟩
  match i, hT, hf with
  | 0, hT, hf => cases hT; cases hf; exact ⟨h0, e.e0, bd0, is0⟩
  | 1, hT, hf => cases hT; cases hf; exact ⟨h1, e.e1, bd1, is1⟩
  | 2, hT, hf => cases hT; cases hf; exact ⟨h2, e.e2, bd2, is2⟩
  | 3, hT, hf => cases hT; cases hf; exact ⟨h3, e.e3, bd3, is3⟩
  | 4, hT, hf => cases hT; cases hf; exact ⟨h4, e.e4, bd4, is4⟩
  | 5, hT, hf => cases hT; cases hf; exact ⟨h5, e.e5, bd5, is5⟩
  | 6, hT, hf => cases hT; cases hf; exact ⟨h6, e.e6, bd6, is6⟩
  | 7, hT, hf => cases hT; cases hf; exact ⟨h7, e.e7, bd7, is7⟩
  | 8, hT, hf => cases hT; cases hf; exact ⟨h8, e.e8, bd8, is8⟩
  | 9, hT, hf => cases hT; cases hf; exact ⟨h9, e.e9, bd9, is9⟩
  | 10, hT, hf => cases hT; cases hf; exact ⟨h10, e.e10, bd10, is10⟩
  | 11, hT, hf => cases hT; cases hf; exact ⟨h11, e.e11, bd11, is11⟩
  | 12, hT, hf => cases hT; cases hf; exact ⟨h12, e.e12, bd12, is12⟩
  | 13, hT, hf => cases hT; cases hf; exact ⟨h13, e.e13, bd13, is13⟩
  | 14, hT, hf => cases hT; cases hf; exact ⟨h14, e.e14, bd14, is14⟩
  | 15, hT, hf => cases hT; cases hf; exact ⟨h15, e.e15, bd15, is15⟩
  | 16, hT, hf => cases hT; cases hf; exact ⟨h16, e.e16, bd16, is16⟩
  | 17, hT, hf => cases hT; cases hf; exact ⟨h17, e.e17, bd17, is17⟩
  | 18, hT, hf => cases hT; cases hf; exact ⟨h18, e.e18, bd18, is18⟩
  | 19, hT, hf => cases hT; cases hf; exact ⟨h19, e.e19, bd19, is19⟩
  | 20, hT, hf => cases hT; cases hf; exact ⟨h20, e.e20, bd20, is20⟩
  | 21, hT, hf => cases hT; cases hf; exact ⟨h21, e.e21, bd21, is21⟩
  | 22, hT, hf => cases hT; cases hf; exact ⟨h22, e.e22, bd22, is22⟩
  | 23, hT, hf => cases hT; cases hf; exact ⟨h23, e.e23, bd23, is23⟩
  | 24, hT, hf => cases hT; cases hf; exact ⟨h24, e.e24, bd24, is24⟩
  | 25, hT, hf => cases hT; cases hf; exact ⟨h25, e.e25, bd25, is25⟩
  | 26, hT, hf => cases hT; cases hf; exact ⟨h26, e.e26, bd26, is26⟩
  | 27, hT, hf => cases hT; cases hf; exact ⟨h27, e.e27, bd27, is27⟩
  | 28, hT, hf => cases hT; cases hf; exact ⟨h28, e.e28, bd28, is28⟩
  | 29, hT, hf => cases hT; cases hf; exact ⟨h29, e.e29, bd29, is29⟩
  | 30, hT, hf => cases hT; cases hf; exact ⟨h30, e.e30, bd30, is30⟩
  | 31, hT, hf => cases hT; cases hf; exact ⟨h31, e.e31, bd31, is31⟩
  | 32, hT, hf => cases hT; cases hf; exact ⟨h32, e.e32, bd32, is32⟩
  | 33, hT, hf => cases hT; cases hf; exact ⟨h33, e.e33, bd33, is33⟩
  | i + 34, hT, hf => simp [Ts] at hT
end Ev
end
section
set_option maxRecDepth 100000
set_option maxHeartbeats 4000000
namespace Ev
open PySem
inductive Item where
  | box (w : Int) | glue (w s k : Int) | pen (w c f : Int)
  deriving DecidableEq
def Item.d : Item → D
  | .box w => .tup [.str "box", .int w]
  | .glue w s k => .tup [.str "glue", .int w, .int s, .int k]
  | .pen w c f => .tup [.str "penalty", .int w, .int c, .int f]
def rowD (r : List Item) : D := .tup (r.map Item.d)
@[simp] theorem q_bb : D.eq? (.str "box") (.str "box") = some true := by rw [eqStr (by decide +kernel)]; decide +kernel
@[simp] theorem q_bg : D.eq? (.str "box") (.str "glue") = some false := by rw [eqStr (by decide +kernel)]; decide +kernel
@[simp] theorem q_bp : D.eq? (.str "box") (.str "penalty") = some false := by rw [eqStr (by decide +kernel)]; decide +kernel
@[simp] theorem q_gb : D.eq? (.str "glue") (.str "box") = some false := by rw [eqStr (by decide +kernel)]; decide +kernel
@[simp] theorem q_gg : D.eq? (.str "glue") (.str "glue") = some true := by rw [eqStr (by decide +kernel)]; decide +kernel
@[simp] theorem q_gp : D.eq? (.str "glue") (.str "penalty") = some false := by rw [eqStr (by decide +kernel)]; decide +kernel
@[simp] theorem q_pb : D.eq? (.str "penalty") (.str "box") = some false := by rw [eqStr (by decide +kernel)]; decide +kernel
@[simp] theorem q_pg : D.eq? (.str "penalty") (.str "glue") = some false := by rw [eqStr (by decide +kernel)]; decide +kernel
@[simp] theorem q_pp : D.eq? (.str "penalty") (.str "penalty") = some true := by rw [eqStr (by decide +kernel)]; decide +kernel
variable {fuel k : Nat}
def Item.isPen : Item → Bool | .pen .. => true | _ => false
def Item.isBox : Item → Bool | .box .. => true | _ => false
def Item.isGlue : Item → Bool | .glue .. => true | _ => false
def Item.forced : Item → Bool | .pen _ c _ => decide (c = -10000) | _ => false
theorem at_row {r : List Item} {i : Nat} {x : Item} (h : r[i]? = some x) : L2.atI (r.map Item.d) (i : Int) = some x.d := atI_lit (by rw [List.getElem?_map, h]; rfl)
abbrev An (fuel k j : Nat) (ds : List D) (r : D) : Prop := Ans (callF fs (exmT exmt) fuel k) j ds r
theorem a8 {r : List Item} {i : Nat} {x : Item} (h : r[i]? = some x) : An fuel (k + 1) 8 [rowD r, .int i] (.bl x.forced) := by
  simp only [An, Ans, List.map]
  rw [o8]
  have e := at_row h
  cases x <;> simp [F8, rowD, fIdx, idxF, e, Item.d, Item.forced, fCmp, cmpF]
theorem a0l {v lo : Int} : An fuel (k + 1) 0 [.int v, .int lo, .non] (.bl (decide (lo ≤ v))) := by
  simp only [An, Ans, List.map]
  rw [o0]
  by_cases h : lo ≤ v <;> simp [F0, fCmp, cmpF, biF, BR.a, D.isNon, h]
theorem a0b {v lo hi : Int} : An fuel (k + 1) 0 [.int v, .int lo, .int hi] (.bl (decide (lo ≤ v) && decide (v ≤ hi))) := by
  simp only [An, Ans, List.map]
  rw [o0]
  by_cases h : lo ≤ v <;> simp [F0, fCmp, cmpF, biF, BR.a, D.isNon, h]
theorem a0t {b : Bool} {x y : D} : An fuel (k + 1) 0 [.bl b, x, y] (.bl false) := by
  simp only [An, Ans, List.map]
  rw [o0]
  simp [F0, fCmp, cmpF, biF, BR.a, D.isNon]
def Item.ok : Item → Bool
  | .box w => decide (0 ≤ w)
  | .glue w s k => decide (0 ≤ w) && decide (0 ≤ s) && decide (0 ≤ k)
  | .pen w c f => decide (0 ≤ w) && (decide (-10000 ≤ c) && decide (c ≤ 10000)) && (decide (0 ≤ f) && decide (f ≤ 1))
theorem a3 {x : Item} (h : x.ok = true) : An fuel (k + 2) 3 [x.d] (.bl true) := by
  simp only [An, Ans, List.map]
  rw [o3]
  cases x with
  | box w =>
    simp [Item.ok] at h
    simp [F3, Item.d, fIdx, idxF, fCmp, cmpF, biF, BR.a, D.truth, a0l.c3, h]
  | glue w s k =>
    simp [Item.ok] at h
    simp [F3, Item.d, fIdx, idxF, fCmp, cmpF, biF, BR.a, D.truth, a0l.c3, h, cutD, HT.sIx]
    rw [show [D.int w, D.int s, D.int k] = [w, s, k].map D.int from rfl, gxL_all (f := fun i => decide (0 ≤ i)) (by
      intro a _
      rw [gTurn_some rfl]
      simp [a0l.c3])]
    simp [h]
  | pen w c f =>
    simp [Item.ok] at h
    simp [F3, Item.d, fIdx, idxF, fCmp, cmpF, biF, BR.a, D.truth, a0l.c3, a0b.c3, h]
end Ev
end
section
set_option maxRecDepth 100000
set_option maxHeartbeats 4000000
namespace Ev
open PySem
variable {fuel k : Nat}
def isPlace (r : List Item) (i : Nat) : Bool := match r[i]? with
  | some (.glue ..) => decide (0 < i) && (match r[i-1]? with | some (.box _) => true | _ => false)
  | some (.pen _ c _) => decide (c < 10000)
  | _ => false
theorem a5 {r : List Item} {i : Nat} {x : Item} (h : r[i]? = some x) : An fuel (k + 1) 5 [rowD r, .int i] (.bl (isPlace r i)) := by
  simp only [An, Ans, List.map]
  rw [o5]
  have e := at_row h
  cases x with
  | box w => simp [F5, rowD, fIdx, idxF, e, Item.d, fCmp, cmpF, isPlace, h]
  | pen w c f => simp [F5, rowD, fIdx, idxF, e, Item.d, fCmp, cmpF, isPlace, h]
  | glue w s q =>
    cases i with
    | zero =>
      have e : L2.atI (r.map Item.d) 0 = some (Item.glue w s q).d := e
      simp [F5, rowD, fIdx, idxF, e, Item.d, fCmp, cmpF, isPlace, h]
    | succ i =>
      have hi : i < r.length := by have := (List.getElem?_eq_some_iff.mp h).1; omega
      obtain ⟨y, hy⟩ : ∃ y, r[i]? = some y := ⟨_, List.getElem?_eq_getElem hi⟩
      have e2 := at_row hy
      have e3 : ((i : Int) + 1 - 1) = i := by omega
      have e4 : (0 : Int) < (i : Int) + 1 := by omega
      have e1 : L2.atI (r.map Item.d) ((i : Int) + 1) = some (Item.glue w s q).d := by simpa using e
      cases y <;> simp [F5, rowD, fIdx, idxF, e1, e2, e3, e4, Item.d, fCmp, cmpF, isPlace, h, hy, fBin, binF, BR.a]
theorem a25 {r : List Item} {i : Nat} {x : Item} (h : r[i]? = some x) : An fuel (k + 1) 25 [rowD r, .int i] (.bl (isPlace r i)) := by
  simp only [An, Ans, List.map]
  rw [o25]
  have e := at_row h
  cases x with
  | box w => simp [F25, rowD, fIdx, idxF, e, Item.d, fCmp, cmpF, isPlace, h]
  | pen w c f => simp [F25, rowD, fIdx, idxF, e, Item.d, fCmp, cmpF, isPlace, h]
  | glue w s q =>
    cases i with
    | zero =>
      have e : L2.atI (r.map Item.d) 0 = some (Item.glue w s q).d := e
      simp [F25, rowD, fIdx, idxF, e, Item.d, fCmp, cmpF, isPlace, h]
    | succ i =>
      have hi : i < r.length := by have := (List.getElem?_eq_some_iff.mp h).1; omega
      obtain ⟨y, hy⟩ : ∃ y, r[i]? = some y := ⟨_, List.getElem?_eq_getElem hi⟩
      have e2 := at_row hy
      have e3 : ((i : Int) + 1 - 1) = i := by omega
      have e4 : (0 : Int) < (i : Int) + 1 := by omega
      have e1 : L2.atI (r.map Item.d) ((i : Int) + 1) = some (Item.glue w s q).d := by simpa using e
      cases y <;> simp [F25, rowD, fIdx, idxF, e1, e2, e3, e4, Item.d, fCmp, cmpF, isPlace, h, hy, fBin, binF, BR.a]
def placesOf (r : List Item) : List Nat := (List.range r.length).filter (isPlace r)
theorem rng0 {n : Nat} : rngD 0 n = (List.range n).map fun i : Nat => D.int (i : Int) := by
  rw [rng_map]; simp
end Ev
end
section
set_option maxRecDepth 100000
set_option maxHeartbeats 4000000
namespace Ev
open PySem
variable {fuel k : Nat}
theorem k6a {r : List Item} {a : Nat} (ha : a < r.length) : cTurn (mkP fs (exmT exmt) fuel (k + 1) 1) (.var 1) (.nm 1) (.cons (.call 5 (.cons (.var 0) (.cons (.var 1) .nil))) .nil) [1] (.int a) [some (Sl.val (rowD r)), none] = .ok (if isPlace r a then some (D.int a) else none) [some (Sl.val (rowD r)), none] := by
  rw [cTurn_some rfl]
  have := (a5 (fuel := fuel) (k := k) (List.getElem?_eq_getElem ha)).c2 (lend := F5.lend) (env := [some (Sl.val (rowD r)), some (Sl.val (D.int a))])
  cases h : isPlace r a <;> simp [ln5, this, h]
theorem k6b {r : List Item} (hr : r.length ≤ 1000) : lcL (cTurn (mkP fs (exmT exmt) fuel (k + 1) 1) (.var 1) (.nm 1) (.cons (.call 5 (.cons (.var 0) (.cons (.var 1) .nil))) .nil) [1]) (rngD 0 r.length) [] [some (Sl.val (rowD r)), none] = .ok ((placesOf r).map fun i : Nat => D.int i) [some (Sl.val (rowD r)), none] := by
  rw [rng0, lcL_pure (f := fun i : Nat => if isPlace r i then some (D.int i) else none)]
  · rw [filt_eq]; rfl
  · exact fun a ha => k6a (List.mem_range.mp ha)
  · rw [List.length_range, List.length_nil, Nat.zero_add]; exact sl_le hr
theorem a6 {r : List Item} (hr : r.length ≤ 1000) : An fuel (k + 2) 6 [rowD r] (.tup ((placesOf r).map fun i : Nat => D.int i)) := by
  simp only [An, Ans, List.map]
  rw [o6]
  have e62 := in62_nat hr
  have key := k6b (fuel := fuel) (k := k) hr
  have e := k_r1 (env := [some (Sl.val (rowD r)), none]) e62
  simp only [rowD, Int.toNat_natCast] at key e
  simp [F6, rowD, biF, BR.a, e, key]
end Ev
end
section
set_option maxRecDepth 100000
set_option maxHeartbeats 4000000
namespace Ev
open PySem
variable {fuel k : Nat}
/-- the first item of a line from j on -/
def goF (r : List Item) : Nat → Nat → Nat
  | 0, j => j
  | n + 1, j => match r[j]? with
    | some x => if x.isBox || x.forced then j else goF r n (j + 1)
    | none => j
def tst7 : E := (.an (.cmp .lt (.var 2) (.bi .len (.cons (.var 0) .nil))) (.an (.cmp .ne (.idx (.idx (.var 0) (.var 2)) (.cst (.int 0))) (.cst (.str "box"))) (.nt (.call 8 (.cons (.var 0) (.cons (.var 2) .nil))))))
theorem t7 {r : List Item} {j : Nat} {x : Item} {p : Option Sl} (h : r[j]? = some x) : evT (mkP fs (exmT exmt) fuel (k + 1) 2) tst7 [some (.val (rowD r)), p, some (.val (.int j))] = .ok (!(x.isBox || x.forced)) [some (.val (rowD r)), p, some (.val (.int j))] := by
  have e := at_row h
  have hl : (j : Int) < r.length := by have := (List.getElem?_eq_some_iff.mp h).1; omega
  have c := (a8 (fuel := fuel) (k := k) h).c2 (lend := F8.lend) (env := [some (.val (rowD r)), p, some (.val (.int j))])
  simp only [rowD] at c
  cases x <;> simp [tst7, fCmp, cmpF, fIdx, idxF, rowD, biF, BR.a, e, hl, Item.d, Item.isBox, ln8, c]
theorem t7e {r : List Item} {j : Nat} {p : Option Sl} (h : r[j]? = none) : evT (mkP fs (exmT exmt) fuel (k + 1) 2) tst7 [some (.val (rowD r)), p, some (.val (.int j))] = .ok false [some (.val (rowD r)), p, some (.val (.int j))] := by
  have hl : ¬ (j : Int) < r.length := by have := List.getElem?_eq_none_iff.mp h; omega
  simp [tst7, fCmp, cmpF, rowD, biF, BR.a, hl]
theorem w7 {r : List Item} {p : Option Sl} : ∀ {n j m : Nat}, r.length - j ≤ n → n < m → whlL (evT (mkP fs (exmT exmt) fuel (k + 1) 2) tst7) (evSs (mkP fs (exmT exmt) fuel (k + 1) 2) (.cons (.aug 2 .add (.cst (.int 1))) .nil)) m [some (.val (rowD r)), p, some (.val (.int j))] = .ok .next [some (.val (rowD r)), p, some (.val (.int (goF r n j)))]
  | n, j, 0, _, hm => absurd hm (Nat.not_lt_zero n)
  | 0, j, m + 1, h, hm => by
    rw [whl_end (t7e (List.getElem?_eq_none_iff.mpr (by omega)))]; rfl
  | n + 1, j, m + 1, h, hm => by
    unfold goF
    cases e : r[j]? with
    | none => rw [whl_end (t7e e)]
    | some x =>
      dsimp only
      have ht := t7 (fuel := fuel) (k := k) (p := p) e
      cases hx : (x.isBox || x.forced) with
      | true => rw [hx] at ht; rw [whl_end ht]; rfl
      | false =>
        rw [hx] at ht
        rw [whl_go ht (env'' := [some (.val (rowD r)), p, some (.val (.int ((j + 1 : Nat) : Int)))]) (by simp [augF])]
        exact w7 (by omega) (by omega)
theorem a7 {r : List Item} {i : Int} {j : Nat} (hi : i + 1 = j) (hf : r.length < fuel) : An fuel (k + 2) 7 [rowD r, .int i] (.int (goF r r.length j)) := by
  simp only [An, Ans, List.map]
  rw [o7]
  have w := w7 (fuel := fuel) (k := k) (r := r) (p := some (.val (.int i))) (n := r.length) (j := j) (m := fuel) (by omega) hf
  simp only [tst7] at w
  simp [F7, fBin, binF, BR.a, hi, w]
end Ev
end
section
set_option maxRecDepth 100000
set_option maxHeartbeats 4000000
namespace Ev
open PySem
variable {fuel k : Nat}
theorem cutD_map {α β : Type} {f : α → β} {xs : List α} {lo hi : Option Int} : cutD (xs.map f) lo hi = (cutD xs lo hi).map f := by
  simp [cutD, List.map_take, List.map_drop]
theorem cutD_nat {α : Type} {xs : List α} {a b : Nat} (hb : b ≤ xs.length) : cutD xs (some (a : Int)) (some (b : Int)) = (xs.drop a).take (b - a) := by
  have h1 : HT.sIx xs.length 0 (some (a : Int)) = min a xs.length := HT.sIx_nat _ _ _
  have h2 : HT.sIx xs.length xs.length (some (b : Int)) = b := by
    rw [HT.sIx_nat]; omega
  unfold cutD
  rw [h1, h2]
  by_cases h : a ≤ xs.length
  · rw [Nat.min_eq_left h]
  · rw [Nat.min_eq_right (by omega), List.drop_eq_nil_of_le (Nat.le_refl _), List.drop_eq_nil_of_le (by omega)]; simp
/-- width, stretch, shrink of items -/
def addI (s : Int × Int × Int) : Item → Int × Int × Int
  | .box w => (s.1 + w, s.2)
  | .glue w a b => (s.1 + w, s.2.1 + a, s.2.2 + b)
  | .pen .. => s
def lineOf (r : List Item) (f e : Nat) : List Item := (r.drop f).take (e - f)
def sizesF (r : List Item) (f e : Nat) : Int × Int × Int :=
  let s := (lineOf r f e).foldl addI (0, 0, 0)
  match r[e]? with
  | some (.pen w _ _) => (s.1 + w, s.2)
  | _ => s
def trD (s : Int × Int × Int) : D := .tup [.int s.1, .int s.2.1, .int s.2.2]
def b9 : Ss := (.cons (.iff (.cmp .eq (.idx (.var 7) (.cst (.int 0))) (.cst (.str "box"))) (.cons (.aug 4 .add (.idx (.var 7) (.cst (.int 1)))) .nil) (.cons (.iff (.cmp .eq (.idx (.var 7) (.cst (.int 0))) (.cst (.str "glue"))) (.cons (.par3 4 5 6 (.bin .add (.var 4) (.idx (.var 7) (.cst (.int 1)))) (.bin .add (.var 5) (.idx (.var 7) (.cst (.int 2)))) (.bin .add (.var 6) (.idx (.var 7) (.cst (.int 3))))) .nil) .nil) .nil)) .nil)
theorem f9 {a b c d : Option Sl} {xs : List Item} {s : Int × Int × Int} {z : Option Sl} : ∃ z', forL (turn (mkP fs (exmT exmt) fuel k 3) (.nm 7) b9) (xs.map Item.d) [a, b, c, d, some (.val (.int s.1)), some (.val (.int s.2.1)), some (.val (.int s.2.2)), z] = .ok .next [a, b, c, d, some (.val (.int (xs.foldl addI s).1)), some (.val (.int (xs.foldl addI s).2.1)), some (.val (.int (xs.foldl addI s).2.2)), z'] := by
  obtain ⟨e, h, z', he⟩ := forL_fold (emb := Item.d) (f := addI) (xs := xs) (s := s) (body := turn (mkP fs (exmT exmt) fuel k 3) (.nm 7) b9)
    (R := fun s env => ∃ z, env = [a, b, c, d, some (.val (.int s.1)), some (.val (.int s.2.1)), some (.val (.int s.2.2)), z]) ⟨z, rfl⟩ (by
      rintro s x env - ⟨z, rfl⟩
      refine ⟨[a, b, c, d, some (.val (.int (addI s x).1)), some (.val (.int (addI s x).2.1)), some (.val (.int (addI s x).2.2)), some (.val x.d)], .inl ?_, some (.val x.d), rfl⟩
      cases x <;> simp [turn, b9, fIdx, idxF, fCmp, cmpF, Item.d, augF, addI, fBin, binF, BR.a])
  exact ⟨z', by rw [h, he]⟩
theorem a9 {r : List Item} {i : Int} {j e : Nat} {x : Item} (hi : i + 1 = j) (hf : r.length < fuel) (he : r[e]? = some x) : An fuel (k + 3) 9 [rowD r, .int i, .int e] (trD (sizesF r (goF r r.length j) e)) := by
  simp only [An, Ans, List.map]
  rw [o9]
  have hl : e ≤ r.length := Nat.le_of_lt (List.getElem?_eq_some_iff.mp he).1
  have c := (a7 (fuel := fuel) (k := k) hi hf).c2 (lend := F7.lend) (env := [some (Sl.val (rowD r)), some (Sl.val (D.int i)), some (Sl.val (D.int e)), none, none, none, none, none])
  obtain ⟨z, w⟩ := f9 (fuel := fuel) (k := k + 2) (a := some (.val (rowD r))) (b := some (.val (.int i))) (c := some (.val (.int e))) (d := some (.val (.int (goF r r.length j)))) (xs := lineOf r (goF r r.length j) e) (s := (0, 0, 0)) (z := none)
  have ea := at_row he
  have ec : cutD (r.map Item.d) (some ((goF r r.length j : Nat) : Int)) (some (e : Int)) = (lineOf r (goF r r.length j) e).map Item.d := by rw [cutD_map, cutD_nat hl]; rfl
  simp only [b9, rowD] at w c
  cases x <;> simp [F9, ln7, c, rowD, ec, w, fIdx, idxF, fCmp, cmpF, ea, Item.d, augF, sizesF, he, trD]
end Ev
end
section
set_option maxRecDepth 100000
set_option maxHeartbeats 4000000
namespace Ev
open PySem
variable {fuel k : Nat}
theorem w1 {test : Env → Out Bool} {body : Env → Out Fl} (ht : ∀ a b : Int, test [some (.val (.int a)), some (.val (.int b))] = .ok (decide (b ≠ 0)) [some (.val (.int a)), some (.val (.int b))])
    (hb : ∀ a b : Int, b ≠ 0 → body [some (.val (.int a)), some (.val (.int b))] = .ok .next [some (.val (.int b)), some (.val (.int (a.fmod b)))]) :
    ∀ {n m : Nat} {a b : Int}, b.natAbs ≤ n → n < m → ∃ g : Int, g.natAbs = Int.gcd a b ∧ whlL test body m [some (.val (.int a)), some (.val (.int b))] = .ok .next [some (.val (.int g)), some (.val (.int 0))]
  | n, 0, a, b, _, hm => absurd hm (Nat.not_lt_zero n)
  | n, m + 1, a, b, hn, hm => by
    by_cases h : b = 0
    · subst h
      exact ⟨a, by simp, whl_end (by rw [ht]; simp)⟩
    · have h1 := fmod_abs (a := a) h
      cases n with
      | zero => omega
      | succ n =>
        obtain ⟨g, hg, w⟩ := w1 ht hb (n := n) (m := m) (a := b) (b := a.fmod b) (by omega) (by omega)
        exact ⟨g, by rw [hg, gcd_fmod], by rw [whl_go (by rw [ht]; simp [h]) (hb a b h)]; exact w⟩
theorem abs_gcd {g : Int} {n : Nat} (h : g.natAbs = n) : (if g < 0 then -g else g) = (n : Int) := by split <;> omega
theorem a1 {a b : Int} (hf : b.natAbs < fuel) : An fuel (k + 1) 1 [.int a, .int b] (.int (Int.gcd a b)) := by
  simp only [An, Ans, List.map]
  rw [o1]
  obtain ⟨g, hg, w⟩ := w1 (test := evT (mkP fs (exmT exmt) fuel k 2) (.var 1)) (body := evSs (mkP fs (exmT exmt) fuel k 2) (.cons (.par 0 1 (.var 1) (.bin .mod (.var 0) (.var 1))) .nil)) (m := fuel) (a := a) (b := b)
    (fun a b => by simp [D.truth]; rfl) (fun a b h => by simp [fBin, binF, h, BR.a]) (Nat.le_refl _) hf
  simp [F1, w, biF, BR.a, abs_gcd hg]
theorem a22 {a b : Int} (hf : b.natAbs < fuel) : An fuel (k + 1) 22 [.int a, .int b] (.int (Int.gcd a b)) := by
  simp only [An, Ans, List.map]
  rw [o22]
  obtain ⟨g, hg, w⟩ := w1 (test := evT (mkP fs (exmT exmt) fuel k 2) (.cmp .ne (.var 1) (.cst (.int 0)))) (body := evSs (mkP fs (exmT exmt) fuel k 2) (.cons (.par 0 1 (.var 1) (.bin .mod (.bi .int (.cons (.var 0) .nil)) (.var 1))) .nil)) (m := fuel) (a := a) (b := b)
    (fun a b => by simp [fCmp, cmpF]) (fun a b h => by simp [fBin, binF, h, BR.a, biF]) (Nat.le_refl _) hf
  simp [F22, w, biF, BR.a, abs_gcd hg]
end Ev
end
section
set_option maxRecDepth 100000
set_option maxHeartbeats 4000000
namespace Ev
open PySem
variable {fuel k : Nat}
theorem a2 {a b : Int} (hb : 0 < b) (hb2 : b < 2 ^ 62) (hf : 2 ^ 62 ≤ fuel) : An fuel (k + 2) 2 [.int a, .int b] (prD (frac a b)) := by
  simp only [An, Ans, List.map]
  rw [o2]
  have c := (a1 (fuel := fuel) (k := k) (a := a) (b := b) (by omega)).c2 (lend := F1.lend) (env := [some (.val (.int a)), some (.val (.int b)), none])
  have h0 : b ≠ 0 := by omega
  have h1 : ¬ b < 0 := by omega
  simp [F2, fCmp, cmpF, h0, h1, ln1, c, fBin, binF, gcd_fits hb hb2, BR.a, prD, frac]
theorem a23 {a b : Int} (hb : 0 < b) (hb2 : b < 2 ^ 62) (hf : 2 ^ 62 ≤ fuel) : An fuel (k + 2) 23 [.int a, .int b] (prD (frac a b)) := by
  simp only [An, Ans, List.map]
  rw [o23]
  have c := (a22 (fuel := fuel) (k := k) (a := a) (b := b) (by omega)).c2 (lend := F22.lend) (env := [some (.val (.int a)), some (.val (.int b)), none])
  have h1 : ¬ b < 0 := by omega
  simp [F23, fCmp, cmpF, h1, ln22, c, fBin, binF, gcd_fits hb hb2, BR.a, prD, frac]
/-- how a line is changed -/
def ratioF (s : Int × Int × Int) (m : Int) : Option (Int × Int) :=
  if m - s.1 = 0 then some (0, 1) else
    let room := if 0 < m - s.1 then s.2.1 else s.2.2
    if 0 < room then some (frac (m - s.1) room) else none
def opD : Option (Int × Int) → D
  | some p => prD p
  | none => .non
theorem a10 {r : List Item} {i m : Int} {j e : Nat} {x : Item} (hi : i + 1 = j) (hfr : 2 ^ 62 ≤ fuel) (hr : r.length ≤ 1000) (he : r[e]? = some x)
    (h1 : 0 ≤ (sizesF r (goF r r.length j) e).2.1) (h2 : 0 ≤ (sizesF r (goF r r.length j) e).2.2) (h3 : (sizesF r (goF r r.length j) e).2.1 < 2 ^ 31) (h4 : (sizesF r (goF r r.length j) e).2.2 < 2 ^ 31) :
    An fuel (k + 4) 10 [rowD r, .int i, .int e, .int m] (opD (ratioF (sizesF r (goF r r.length j) e) m)) := by
  simp only [An, Ans, List.map]
  rw [o10]
  have c := (a9 (fuel := fuel) (k := k) hi (by omega) he).c3 (lend := F9.lend) (env := [some (Sl.val (rowD r)), some (Sl.val (D.int i)), some (Sl.val (D.int e)), some (Sl.val (D.int m)), none, none, none, none, none])
  generalize sizesF r (goF r r.length j) e = s at *
  obtain ⟨w, a, b⟩ := s
  dsimp only at h1 h2 h3 h4
  by_cases g0 : m - w = 0
  · simp [F10, ln9, c, trD, fBin, binF, BR.a, fCmp, cmpF, g0, ratioF, opD, prD]
  · by_cases g1 : w < m
    · by_cases g2 : a = 0
      · simp [F10, ln9, c, trD, fBin, binF, BR.a, fCmp, cmpF, g0, g1, g2, ratioF, opD, prD, D.truth]
      · have q := (a2 (fuel := fuel) (k := k + 1) (a := m - w) (b := a) (by omega) (by omega) hfr).c2 (lend := F2.lend) (env := [some (Sl.val (rowD r)), some (Sl.val (D.int i)), some (Sl.val (D.int e)), some (Sl.val (D.int m)), some (Sl.val (D.int w)), some (Sl.val (D.int a)), some (Sl.val (D.int b)), some (Sl.val (D.int (m - w))), some (Sl.val (D.int a))])
        have g3 : 0 < a := by omega
        simp [F10, ln9, c, trD, fBin, binF, BR.a, fCmp, cmpF, g0, g1, g2, g3, ratioF, opD, D.truth, ln2, q]
    · by_cases g2 : b = 0
      · simp [F10, ln9, c, trD, fBin, binF, BR.a, fCmp, cmpF, g0, g1, g2, ratioF, opD, prD, D.truth]
      · have q := (a2 (fuel := fuel) (k := k + 1) (a := m - w) (b := b) (by omega) (by omega) hfr).c2 (lend := F2.lend) (env := [some (Sl.val (rowD r)), some (Sl.val (D.int i)), some (Sl.val (D.int e)), some (Sl.val (D.int m)), some (Sl.val (D.int w)), some (Sl.val (D.int a)), some (Sl.val (D.int b)), some (Sl.val (D.int (m - w))), some (Sl.val (D.int b))])
        have g3 : 0 < b := by omega
        simp [F10, ln9, c, trD, fBin, binF, BR.a, fCmp, cmpF, g0, g1, g2, g3, ratioF, opD, D.truth, ln2, q]
end Ev
end
section
set_option maxRecDepth 100000
set_option maxHeartbeats 4000000
namespace Ev
open PySem
variable {fuel k : Nat}
def tst26 : E := (.an (.cmp .lt (.var 2) (.bi .len (.cons (.var 0) .nil))) (.an (.cmp .ne (.idx (.idx (.var 0) (.var 2)) (.cst (.int 0))) (.cst (.str "box"))) (.nt (.an (.cmp .eq (.idx (.idx (.var 0) (.var 2)) (.cst (.int 0))) (.cst (.str "penalty"))) (.cmp .eq (.idx (.idx (.var 0) (.var 2)) (.cst (.int 2))) (.bin .sub (.cst (.int 0)) (.cst (.int 10000))))))))
theorem t26 {r : List Item} {j : Nat} {x : Item} {p : Option Sl} (h : r[j]? = some x) : evT (mkP fs (exmT exmt) fuel k 2) tst26 [some (.val (rowD r)), p, some (.val (.int j))] = .ok (!(x.isBox || x.forced)) [some (.val (rowD r)), p, some (.val (.int j))] := by
  have e := at_row h
  have hl : (j : Int) < r.length := by have := (List.getElem?_eq_some_iff.mp h).1; omega
  cases x <;> simp [tst26, fCmp, cmpF, fIdx, idxF, rowD, biF, BR.a, e, hl, Item.d, Item.isBox, Item.forced, fBin, binF]
theorem t26e {r : List Item} {j : Nat} {p : Option Sl} (h : r[j]? = none) : evT (mkP fs (exmT exmt) fuel k 2) tst26 [some (.val (rowD r)), p, some (.val (.int j))] = .ok false [some (.val (rowD r)), p, some (.val (.int j))] := by
  have hl : ¬ (j : Int) < r.length := by have := List.getElem?_eq_none_iff.mp h; omega
  simp [tst26, fCmp, cmpF, rowD, biF, BR.a, hl]
theorem w26 {r : List Item} {p : Option Sl} : ∀ {n j m : Nat}, r.length - j ≤ n → n < m → whlL (evT (mkP fs (exmT exmt) fuel k 2) tst26) (evSs (mkP fs (exmT exmt) fuel k 2) (.cons (.asg (.nm 2) (.bin .add (.var 2) (.cst (.int 1)))) .nil)) m [some (.val (rowD r)), p, some (.val (.int j))] = .ok .next [some (.val (rowD r)), p, some (.val (.int (goF r n j)))]
  | n, j, 0, _, hm => absurd hm (Nat.not_lt_zero n)
  | 0, j, m + 1, h, hm => by
    rw [whl_end (t26e (List.getElem?_eq_none_iff.mpr (by omega)))]; rfl
  | n + 1, j, m + 1, h, hm => by
    unfold goF
    cases e : r[j]? with
    | none => rw [whl_end (t26e e)]
    | some x =>
      dsimp only
      have ht := t26 (fuel := fuel) (k := k) (p := p) e
      cases hx : (x.isBox || x.forced) with
      | true => rw [hx] at ht; rw [whl_end ht]; rfl
      | false =>
        rw [hx] at ht
        rw [whl_go ht (env'' := [some (.val (rowD r)), p, some (.val (.int ((j + 1 : Nat) : Int)))]) (by simp [fBin, binF, BR.a])]
        exact w26 (by omega) (by omega)
theorem a26 {r : List Item} {i : Int} {j : Nat} (hi : i + 1 = j) (hf : r.length < fuel) : An fuel (k + 1) 26 [rowD r, .int i] (.int (goF r r.length j)) := by
  simp only [An, Ans, List.map]
  rw [o26]
  have w := w26 (fuel := fuel) (k := k) (r := r) (p := some (.val (.int i))) (n := r.length) (j := j) (m := fuel) (by omega) hf
  simp only [tst26] at w
  simp [F26, fBin, binF, BR.a, hi, w]
def Item.wid : Item → Int | .box w => w | .glue w _ _ => w | .pen w _ _ => w
theorem asInts_map {α : Type} {f : α → Int} : ∀ {xs : List α}, asInts (xs.map fun x => D.int (f x)) = some (xs.map f)
  | [] => rfl
  | x :: xs => by
    show (asInts (xs.map fun x => D.int (f x))).map (f x :: ·) = _
    rw [asInts_map]; rfl
end Ev
end
section
set_option maxRecDepth 100000
set_option maxHeartbeats 4000000
namespace Ev
open PySem
variable {fuel k : Nat}
def Item.str : Item → Int | .glue _ s _ => s | _ => 0
def Item.shr : Item → Int | .glue _ _ k => k | _ => 0
theorem l27a {P : Par} {a b c d e g : Option Sl} {xs : List Item} (hl : xs.length ≤ 1000) :
    lcL (cTurn P (.idx (.var 5) (.cst (.int 1))) (.nm 5) (.cons (.cmp .ne (.idx (.var 5) (.cst (.int 0))) (.cst (.str "penalty"))) .nil) [5]) (xs.map Item.d) [] [a, b, c, d, e, none, g]
    = .ok ((xs.filter fun x => !x.isPen).map fun x => D.int x.wid) [a, b, c, d, e, none, g] := by
  rw [lcL_pure (f := fun x : Item => if !x.isPen then some (D.int x.wid) else none)]
  · rw [List.nil_append, filt_eq]
  · intro x _
    rw [cTurn_some rfl]
    cases x <;> simp [fIdx, idxF, fCmp, cmpF, Item.d, Item.isPen, Item.wid]
  · rw [List.length_nil, Nat.zero_add]; exact sl_le hl
theorem l27b {P : Par} {a b c d e g : Option Sl} {xs : List Item} (hl : xs.length ≤ 1000) :
    lcL (cTurn P (.var 5) (.nm 5) (.cons (.cmp .eq (.idx (.var 5) (.cst (.int 0))) (.cst (.str "glue"))) .nil) [5]) (xs.map Item.d) [] [a, b, c, d, e, none, g]
    = .ok ((xs.filter fun x => x.isGlue).map Item.d) [a, b, c, d, e, none, g] := by
  rw [lcL_pure (f := fun x : Item => if x.isGlue then some x.d else none)]
  · rw [List.nil_append, filt_eq]
  · intro x _
    rw [cTurn_some rfl]
    cases x <;> simp [fIdx, idxF, fCmp, cmpF, Item.d, Item.isGlue]
  · rw [List.length_nil, Nat.zero_add]; exact sl_le hl
theorem l27c {P : Par} {a b c d e g : Option Sl} {xs : List Item} (hl : xs.length ≤ 1000) (hg : ∀ x ∈ xs, x.isGlue = true) :
    lcL (cTurn P (.idx (.var 5) (.cst (.int 2))) (.nm 5) .nil [5]) (xs.map Item.d) [] [a, b, c, d, e, none, g]
    = .ok (xs.map fun x => D.int x.str) [a, b, c, d, e, none, g] := by
  rw [lcL_map (f := fun x : Item => D.int x.str)]
  · intro x hx
    have := hg x hx
    rw [cTurn_some rfl]
    cases x <;> simp [Item.isGlue] at this <;> simp [fIdx, idxF, Item.d, Item.str]
  · exact sl_le hl
theorem l27d {P : Par} {a b c d e g : Option Sl} {xs : List Item} (hl : xs.length ≤ 1000) (hg : ∀ x ∈ xs, x.isGlue = true) :
    lcL (cTurn P (.idx (.var 5) (.cst (.int 3))) (.nm 5) .nil [5]) (xs.map Item.d) [] [a, b, c, d, e, none, g]
    = .ok (xs.map fun x => D.int x.shr) [a, b, c, d, e, none, g] := by
  rw [lcL_map (f := fun x : Item => D.int x.shr)]
  · intro x hx
    have := hg x hx
    rw [cTurn_some rfl]
    cases x <;> simp [Item.isGlue] at this <;> simp [fIdx, idxF, Item.d, Item.shr]
  · exact sl_le hl
def addPen (w : Int) : Option Item → Int
  | some (.pen v _ _) => w + v
  | _ => w
/-- the law's sizes -/
def sizesL (r : List Item) (f e : Nat) : Int × Int × Int :=
  let xs := lineOf r f e
  let gs := xs.filter fun x => x.isGlue
  let w := ((xs.filter fun x => !x.isPen).map Item.wid).sum
  (addPen w r[e]?, (gs.map Item.str).sum, (gs.map Item.shr).sum)
theorem fold_sizes : ∀ {xs : List Item} {s : Int × Int × Int}, xs.foldl addI s = (s.1 + ((xs.filter fun x => !x.isPen).map Item.wid).sum, s.2.1 + ((xs.filter fun x => x.isGlue).map Item.str).sum, s.2.2 + ((xs.filter fun x => x.isGlue).map Item.shr).sum)
  | [], s => by simp
  | x :: xs, s => by
    rw [List.foldl_cons, fold_sizes]
    cases x <;> simp [addI, Item.isPen, Item.isGlue, Item.wid, Item.str, Item.shr, Int.add_assoc]
theorem sizes_eq {r : List Item} {f e : Nat} : sizesL r f e = sizesF r f e := by
  unfold sizesL sizesF
  simp only [fold_sizes, Int.zero_add]
  cases r[e]? with
  | none => rfl
  | some x => cases x <;> rfl
end Ev
end
section
set_option maxRecDepth 100000
set_option maxHeartbeats 4000000
namespace Ev
open PySem
variable {fuel k : Nat}
theorem line_le {r : List Item} {f e : Nat} (hr : r.length ≤ 1000) : (lineOf r f e).length ≤ 1000 := by
  unfold lineOf
  rw [List.length_take, List.length_drop]; omega
theorem a27 {r : List Item} {i : Int} {j e : Nat} {x : Item} (hi : i + 1 = j) (hf : r.length < fuel) (hr : r.length ≤ 1000) (he : r[e]? = some x) : An fuel (k + 2) 27 [rowD r, .int i, .int e] (trD (sizesL r (goF r r.length j) e)) := by
  simp only [An, Ans, List.map]
  rw [o27]
  have hl : e ≤ r.length := Nat.le_of_lt (List.getElem?_eq_some_iff.mp he).1
  have c := (a26 (fuel := fuel) (k := k) hi hf).c2 (lend := F26.lend) (env := [some (Sl.val (rowD r)), some (Sl.val (D.int i)), some (Sl.val (D.int e)), none, none, none, none])
  have ea := at_row he
  have ec : cutD (r.map Item.d) (some ((goF r r.length j : Nat) : Int)) (some (e : Int)) = (lineOf r (goF r r.length j) e).map Item.d := by rw [cutD_map, cutD_nat hl]; rfl
  have hx := line_le (r := r) (f := goF r r.length j) (e := e) hr
  simp only [rowD] at c
  unfold sizesL
  rw [he]
  generalize lineOf r (goF r r.length j) e = xs at *
  have hg : ∀ y ∈ xs.filter (fun x => x.isGlue), y.isGlue = true := fun y hy => (List.mem_filter.mp hy).2
  have hgl : (xs.filter (fun x => x.isGlue)).length ≤ 1000 := Nat.le_trans (List.length_filter_le _ _) hx
  have s1 : ∀ {α : Type} (f : α → Int) (ys : List α), biF .sum [.lst (ys.map fun y => D.int (f y))] = some (.val (.int (ys.map f).sum)) := by
    intro α f ys
    show (asInts _).map _ = _
    rw [asInts_map]; rfl
  cases x <;> simp [F27, ln26, c, rowD, ec, l27a hx, l27b hx, l27c hgl hg, l27d hgl hg, s1, fIdx, idxF, fCmp, cmpF, ea, Item.d, fBin, binF, BR.a, trD, addPen]
end Ev
end
section
set_option maxRecDepth 100000
set_option maxHeartbeats 4000000
namespace Ev
open PySem
variable {fuel k : Nat}
theorem a28 {r : List Item} {i m : Int} {j e : Nat} {x : Item} (hi : i + 1 = j) (hfr : 2 ^ 62 ≤ fuel) (hr : r.length ≤ 1000) (he : r[e]? = some x)
    (h3 : (sizesF r (goF r r.length j) e).2.1 < 2 ^ 31) (h4 : (sizesF r (goF r r.length j) e).2.2 < 2 ^ 31) :
    An fuel (k + 3) 28 [rowD r, .int i, .int e, .int m] (opD (ratioF (sizesF r (goF r r.length j) e) m)) := by
  simp only [An, Ans, List.map]
  rw [o28]
  have c := (a27 (fuel := fuel) (k := k) hi (by omega) hr he).c3 (lend := F27.lend) (env := [some (Sl.val (rowD r)), some (Sl.val (D.int i)), some (Sl.val (D.int e)), some (Sl.val (D.int m)), none, none, none, none, none])
  rw [sizes_eq] at c
  generalize sizesF r (goF r r.length j) e = s at *
  obtain ⟨w, a, b⟩ := s
  dsimp only at h3 h4
  by_cases g0 : m - w = 0
  · simp [F28, ln27, c, trD, fBin, binF, BR.a, fCmp, cmpF, g0, ratioF, opD, prD]
  · by_cases g1 : w < m
    · by_cases g3 : 0 < a
      · have q := (a23 (fuel := fuel) (k := k) (a := m - w) (b := a) (by omega) (by omega) hfr).c2 (lend := F23.lend) (env := [some (Sl.val (rowD r)), some (Sl.val (D.int i)), some (Sl.val (D.int e)), some (Sl.val (D.int m)), some (Sl.val (D.int w)), some (Sl.val (D.int a)), some (Sl.val (D.int b)), some (Sl.val (D.int (m - w))), some (Sl.val (D.int a))])
        simp [F28, ln27, c, trD, fBin, binF, BR.a, fCmp, cmpF, g0, g1, g3, ratioF, opD, D.truth, ln23, q]
      · simp [F28, ln27, c, trD, fBin, binF, BR.a, fCmp, cmpF, g0, g1, g3, ratioF, opD, prD, D.truth]
    · by_cases g3 : 0 < b
      · have q := (a23 (fuel := fuel) (k := k) (a := m - w) (b := b) (by omega) (by omega) hfr).c2 (lend := F23.lend) (env := [some (Sl.val (rowD r)), some (Sl.val (D.int i)), some (Sl.val (D.int e)), some (Sl.val (D.int m)), some (Sl.val (D.int w)), some (Sl.val (D.int a)), some (Sl.val (D.int b)), some (Sl.val (D.int (m - w))), some (Sl.val (D.int b))])
        simp [F28, ln27, c, trD, fBin, binF, BR.a, fCmp, cmpF, g0, g1, g3, ratioF, opD, D.truth, ln23, q]
      · simp [F28, ln27, c, trD, fBin, binF, BR.a, fCmp, cmpF, g0, g1, g3, ratioF, opD, prD, D.truth]
/-- the kind of a line -/
def kindF (p : Int × Int) : Int := if 2 * p.1 < -p.2 then 0 else if 2 * p.1 ≤ p.2 then 1 else if p.1 ≤ p.2 then 2 else 3
theorem m2_ok (x : Int) : mulOk 2 x = true := by simp [mulOk, s64]
theorem a13 {p : Int × Int} : An fuel (k + 1) 13 [prD p] (.int (kindF p)) := by
  simp only [An, Ans, List.map]
  rw [o13]
  obtain ⟨a, b⟩ := p
  by_cases h1 : 2 * a < -b
  · simp [F13, prD, fIdx, idxF, fCmp, cmpF, fBin, binF, BR.a, m2_ok, h1, kindF]
  · by_cases h2 : 2 * a ≤ b
    · simp [F13, prD, fIdx, idxF, fCmp, cmpF, fBin, binF, BR.a, m2_ok, h1, h2, kindF]
    · by_cases h3 : a ≤ b <;> simp [F13, prD, fIdx, idxF, fCmp, cmpF, fBin, binF, BR.a, m2_ok, h1, h2, h3, kindF]
theorem a30 {p : Int × Int} : An fuel (k + 1) 30 [prD p] (.int (kindF p)) := by
  simp only [An, Ans, List.map]
  rw [o30]
  obtain ⟨a, b⟩ := p
  have e : (0 : Int) - b = -b := by omega
  by_cases h1 : 2 * a < -b
  · simp [F30, prD, fIdx, idxF, fCmp, cmpF, fBin, binF, BR.a, m2_ok, e, h1, kindF]
  · by_cases h2 : 2 * a ≤ b
    · simp [F30, prD, fIdx, idxF, fCmp, cmpF, fBin, binF, BR.a, m2_ok, e, h1, h2, kindF]
    · by_cases h3 : a ≤ b <;> simp [F30, prD, fIdx, idxF, fCmp, cmpF, fBin, binF, BR.a, m2_ok, e, h1, h2, h3, kindF]
end Ev
end
section
set_option maxRecDepth 100000
set_option maxHeartbeats 4000000
namespace Ev
open PySem
variable {fuel k : Nat}
def badF (p : Int × Int) : Int :=
  min 10000 ((2 * (100 * (p.1.natAbs : Int) * p.1.natAbs * p.1.natAbs) + p.2 * p.2 * p.2).fdiv (2 * (p.2 * p.2 * p.2)))
theorem cube {b : Int} (h : 0 < b) (h2 : b < 2 ^ 31) : 0 < 2 * (b * b * b) ∧ 2 * (b * b * b) < 2 ^ 200 := by
  have h3 : 0 < b * b := Int.mul_pos h h
  have h4 : 0 < b * b * b := Int.mul_pos h3 h
  have h5 : b * b ≤ 2 ^ 31 * 2 ^ 31 := Int.mul_le_mul (by omega) (by omega) (by omega) (by decide)
  have h6 : b * b * b ≤ (2 ^ 31 * 2 ^ 31) * 2 ^ 31 := Int.mul_le_mul h5 (by omega) (by omega) (by decide)
  constructor
  · omega
  · omega
theorem a11x {a b x : Int} (hx : (a.natAbs : Int) = x) (m1 : ∀ i : Int, mulOk i x = true) (m2 : ∀ i : Int, mulOk i b = true) (m3 : ∀ j : Int, mulOk 2 j = true) (f : fdivOk (2 * (b * b * b)) = true) : An fuel (k + 1) 11 [prD (a, b)] (.int (badF (a, b))) := by
  simp only [An, Ans, List.map]
  rw [o11]
  simp only [badF]
  simp [F11, prD, fb_mul, fb_fdiv, m1, m2, m3, f, hx]
theorem u1 {a : Int} (ha : a.natAbs < 2 ^ 62) : ∀ i : Int, mulOk i (a.natAbs : Int) = true := fun i => mo_r (by omega) (by omega)
theorem u2 {b : Int} (hb : 0 < b) (hb2 : b < 2 ^ 31) : ∀ i : Int, mulOk i b = true := fun i => mo_r (by omega) (by omega)
theorem u3 {i : Int} : ∀ b : Int, mulOk 2 b = true := fun i => mo_l (by omega) (by omega)
theorem u5 : ∀ j : Int, mulOk j 100 = true := fun i => mo_r (by omega) (by omega)
theorem u4 {b : Int} (h : 0 < 2 * (b * b * b) ∧ 2 * (b * b * b) < 2 ^ 200) : fdivOk (2 * (b * b * b)) = true := fd_ok h.1 h.2
theorem a11 {p : Int × Int} (ha : p.1.natAbs < 2 ^ 62) (hb : 0 < p.2) (hb2 : p.2 < 2 ^ 31) : An fuel (k + 1) 11 [prD p] (.int (badF p)) :=
  a11x (x := (p.1.natAbs : Int)) rfl (u1 ha) (u2 hb hb2) (u3 (i := 0)) (u4 (cube hb hb2))
end Ev
end
section
set_option maxRecDepth 100000
set_option maxHeartbeats 4000000
namespace Ev
open PySem
variable {fuel k : Nat}
theorem a11n : An fuel (k + 1) 11 [.non] .non := by
  simp only [An, Ans, List.map]
  rw [o11]
  simp [F11]
theorem a29x {a b x : Int} (hx : (a.natAbs : Int) = x) (m1 : ∀ i : Int, mulOk i x = true) (m2 : ∀ i : Int, mulOk i b = true) (m3 : ∀ j : Int, mulOk 2 j = true) (m4 : ∀ j : Int, mulOk j 100 = true) (f : fdivOk (2 * (b * b * b)) = true) : An fuel (k + 1) 29 [prD (a, b)] (.int (badF (a, b))) := by
  simp only [An, Ans, List.map]
  rw [o29]
  simp only [badF]
  have e : x * x * x * 100 = 100 * x * x * x := by grind
  simp [F29, prD, fb_mul, fb_fdiv, m1, m2, m3, m4, f, hx, e]
theorem a29 {p : Int × Int} (ha : p.1.natAbs < 2 ^ 62) (hb : 0 < p.2) (hb2 : p.2 < 2 ^ 31) : An fuel (k + 1) 29 [prD p] (.int (badF p)) :=
  a29x (x := (p.1.natAbs : Int)) rfl (u1 ha) (u2 hb hb2) (u3 (i := 0)) u5 (u4 (cube hb hb2))
/-- the price of a line -/
def demF (b c l : Int) : Int :=
  let s := (l + b) * (l + b)
  if 0 ≤ c then s + c * c else if -10000 < c then s - c * c else s
theorem a12 {b c l : Int} (hb : (l + b).natAbs < 2 ^ 60) (hc : c.natAbs < 2 ^ 60) : An fuel (k + 1) 12 [.int b, .int c, .int l] (.int (demF b c l)) := by
  simp only [An, Ans, List.map]
  rw [o12]
  have m1 : mulOk (l + b) (l + b) = true := mo_r (by omega) (by omega)
  have m2 : mulOk c c = true := mo_r (by omega) (by omega)
  by_cases h1 : 0 ≤ c
  · simp [F12, fb_mul, m1, m2, h1, demF]
  · by_cases h2 : -10000 < c <;> simp [F12, fb_mul, m1, m2, h1, h2, demF]
theorem a4 {r : List Item} {w f : Int} (ok : ∀ x ∈ r ++ [.pen w (-10000) f], Item.ok x = true) : An fuel (k + 3) 4 [rowD (r ++ [.pen w (-10000) f])] (.bl true) := by
  simp only [An, Ans, List.map]
  rw [o4]
  have hl : L2.atI ((r ++ [Item.pen w (-10000) f]).map Item.d) (-1) = some (Item.d (.pen w (-10000) f)) := by
    rw [List.map_append]; exact atI_m1
  have g : ∀ env, env = [some (Sl.val (rowD (r ++ [Item.pen w (-10000) f]))), none] → gxL true (gTurn (mkP fs (exmT exmt) fuel (k + 2) 1) (.call 3 (.cons (.var 1) .nil)) (.nm 1) .nil [1]) ((r ++ [Item.pen w (-10000) f]).map Item.d) env = .ok true env := by
    rintro env rfl
    rw [gxL_all (f := fun _ => true)]
    · simp
    · intro x hx
      have c := fun e => (a3 (fuel := fuel) (k := k) (ok x hx)).c1 (lend := F3.lend) (env := e)
      rw [gTurn_some rfl]
      simp [c]
  have g := g _ rfl
  have hne : (r ++ [Item.pen w (-10000) f]).map Item.d ≠ [] := by simp
  simp only [rowD] at g ⊢
  generalize (r ++ [Item.pen w (-10000) f]).map Item.d = ds at *
  have : ds.isEmpty = false := by cases ds; exact absurd rfl hne; rfl
  simp [F4, g, hl, this, Item.d]
end Ev
end
section
set_option maxRecDepth 100000
/-! loops, once more -/
namespace Ev
open PySem
/-- a loop that folds, by places -/
theorem forL_foldI {α σ : Type} {emb : α → D} {body : D → Env → Out Fl} {f : σ → α → σ} {R : Nat → σ → Env → Prop} : ∀ {xs : List α} {i : Nat} {s : σ} {env : Env}, R i s env →
    (∀ j s a env, xs[j]? = some a → R (i + j) s env → ∃ env', (body (emb a) env = .ok .next env' ∨ body (emb a) env = .ok .cont env') ∧ R (i + j + 1) (f s a) env') →
    ∃ env', forL body (xs.map emb) env = .ok .next env' ∧ R (i + xs.length) (xs.foldl f s) env'
  | [], i, s, env, h0, _ => ⟨env, rfl, h0⟩
  | x :: xs, i, s, env, h0, hs => by
    obtain ⟨env1, h1, h2⟩ := hs 0 s x env rfl h0
    obtain ⟨env2, h3, h4⟩ := forL_foldI (xs := xs) (i := i + 1) (f := f) (R := R) h2 fun j s a env ha hI => by
      have := hs (j + 1) s a env ha (by rw [show i + (j + 1) = i + 1 + j by omega]; exact hI)
      rw [show i + (j + 1) + 1 = i + 1 + j + 1 by omega] at this
      exact this
    refine ⟨env2, ?_, by rw [List.length_cons, show i + (xs.length + 1) = i + 1 + xs.length by omega]; exact h4⟩
    show forL body (emb x :: xs.map emb) env = _
    unfold forL
    rcases h1 with h1 | h1 <;> (rw [h1]; exact h3)
/-- a loop that appends -/
theorem forL_app {α : Type} {emb : α → D} {body : D → Env → Out Fl} {f : α → List D} {R : List D → Env → Prop} {N : Nat} : ∀ {xs : List α} {acc : List D} {env : Env}, R acc env → acc.length + (xs.flatMap f).length ≤ N →
    (∀ acc a env, a ∈ xs → acc.length + (f a).length ≤ N → R acc env → ∃ env', (body (emb a) env = .ok .next env' ∨ body (emb a) env = .ok .cont env') ∧ R (acc ++ f a) env') →
    ∃ env', forL body (xs.map emb) env = .ok .next env' ∧ R (acc ++ xs.flatMap f) env'
  | [], acc, env, h0, _, _ => ⟨env, rfl, by simpa using h0⟩
  | x :: xs, acc, env, h0, hn, hs => by
    rw [List.flatMap_cons, List.length_append] at hn
    obtain ⟨env1, h1, h2⟩ := hs acc x env (.head _) (by omega) h0
    obtain ⟨env2, h3, h4⟩ := forL_app (xs := xs) (f := f) (R := R) (N := N) h2 (by rw [List.length_append]; omega) fun acc a env ha hl hI => hs acc a env (.tail _ ha) hl hI
    refine ⟨env2, ?_, by rw [List.flatMap_cons, ← List.append_assoc]; exact h4⟩
    show forL body (emb x :: xs.map emb) env = _
    unfold forL
    rcases h1 with h1 | h1 <;> (rw [h1]; exact h3)
/-- a comprehension whose turns change the slots -/
theorem lcL_ex {α β : Type} {emb : α → D} {body : D → Env → Out (Option D)} {g : β → D} {I : Env → Prop} {Q : β → Prop} : ∀ {xs : List α} {acc : List D} {env : Env}, I env →
    (∀ a env, a ∈ xs → I env → ∃ y env', body (emb a) env = .ok (some (g y)) env' ∧ I env' ∧ Q y) → acc.length + xs.length ≤ 1000 →
    ∃ (ys : List β) (env' : Env), lcL body (xs.map emb) acc env = .ok (acc ++ ys.map g) env' ∧ I env' ∧ ys.length = xs.length ∧ ∀ y ∈ ys, Q y
  | [], acc, env, h0, _, _ => ⟨[], env, by simp [lcL], h0, rfl, fun _ h => (List.not_mem_nil h).elim⟩
  | x :: xs, acc, env, h0, hs, hn => by
    rw [List.length_cons] at hn
    obtain ⟨y, env1, h1, h2, h3⟩ := hs x env (.head _) h0
    obtain ⟨ys, env2, h4, h5, h6, h7⟩ := lcL_ex (xs := xs) (acc := acc ++ [g y]) (g := g) (I := I) (Q := Q) h2 (fun a env ha => hs a env (.tail _ ha)) (by rw [List.length_append]; simp; omega)
    refine ⟨y :: ys, env2, ?_, h5, by simp [h6], fun z hz => (List.mem_cons.mp hz).elim (fun e => by rw [e]; exact h3) (h7 z)⟩
    show lcL body (emb x :: xs.map emb) acc env = _
    unfold lcL
    rw [h1]
    dsimp only
    rw [if_pos (sl_lt (by omega)), h4, List.append_assoc]
    rfl
/-- places from f up to e -/
def idxs (f e : Nat) : List Nat := (List.range (e - f)).map (f + ·)
theorem rng_idxs {f e : Nat} : rngD (f : Int) ((e : Int) - (f : Int)).toNat = (idxs f e).map fun i : Nat => D.int i := by
  rw [rng_map, idxs, List.map_map, show ((e : Int) - (f : Int)).toNat = e - f by omega]
  apply List.map_congr_left
  intro i _
  show D.int _ = D.int _
  simp
theorem rng_range {n : Nat} : rngD 0 n = (List.range n).map fun i : Nat => D.int i := by
  rw [rng_map]; simp
theorem mem_idxs {f e i : Nat} : i ∈ idxs f e ↔ f ≤ i ∧ i < e := by
  unfold idxs
  simp only [List.mem_map, List.mem_range]
  constructor
  · rintro ⟨a, h, rfl⟩; omega
  · intro h; exact ⟨i - f, by omega, by omega⟩
theorem len_idxs {f e : Nat} : (idxs f e).length = e - f := by simp [idxs]
theorem get_idxs {f e j i : Nat} (h : (idxs f e)[j]? = some i) : i = f + j ∧ i < e := by
  unfold idxs at h
  rw [List.getElem?_map] at h
  by_cases hj : j < e - f
  · rw [List.getElem?_range hj] at h
    simp at h; omega
  · rw [List.getElem?_eq_none (by simp; omega)] at h; simp at h
theorem k_idxs {f e : Nat} {env : Env} (h : f ≤ 1000000) (h' : e ≤ 1000000) : kR22 (.val (.int (f : Int))) (.ok (.val (.int (e : Int))) env) = .ok ((idxs f e).map fun i : Nat => D.int i) env := by
  rw [k_r22 (in62_of (by omega)) (in62_of (by omega)), rng_idxs]
theorem k_range {n : Nat} {env : Env} (h : n ≤ 1000000) : kR1 (.ok (.val (.int (n : Int))) env) = .ok ((List.range n).map fun i : Nat => D.int i) env := by
  rw [k_r1 (in62_of (by omega)), Int.toNat_natCast, rng_range]
theorem cT {P : Par} {elt : E} {i : Nat} {c : Es} {d y : D} {env : Env} {b : Bool} (hi : env[i]? = some none) (hc : evC P c (env.set i (some (.val d))) = .ok b (env.set i (some (.val d))))
    (he : b = true → evA P elt (env.set i (some (.val d))) = .ok (.val y) (env.set i (some (.val d)))) : cTurn P elt (.nm i) c [i] d env = .ok (if b then some y else none) env := by
  have hl : i < env.length := (List.getElem?_eq_some_iff.mp hi).1
  rw [cTurn_some (env' := env.set i (some (.val d))) (by rw [b_nm, if_pos hl]), hc]
  have hw : (env.set i (some (.val d))).set i none = env := by
    rw [List.set_set]
    apply List.ext_getElem?
    intro j
    by_cases hj : i = j
    · subst hj; rw [List.getElem?_set_self hl, hi]
    · rw [List.getElem?_set_ne hj]
  cases b with
  | true => rw [k_c1, he rfl, k_c11, frz_val, k_c2, w_cons, w_nil, hw]; rfl
  | false => rw [k_c0, w_cons, w_nil, hw]; rfl
theorem set_back {α : Type} {env : List (Option α)} {i : Nat} {s : Option α} {x : Option α} (h : env[i]? = some s) : (env.set i x).set i s = env := by
  have hl : i < env.length := (List.getElem?_eq_some_iff.mp h).1
  rw [List.set_set]
  apply List.ext_getElem?
  intro j
  by_cases hj : i = j
  · subst hj; rw [List.getElem?_set_self hl, h]
  · rw [List.getElem?_set_ne hj]
/-- a comprehension whose turns leave the slots -/
theorem lc_gen {P : Par} {elt : E} {i : Nat} {c : Es} {it : It} {env : Env} {ds ys : List D} (hi : i < env.length) (hit : evI P it env = .ok ds env)
    (hb : lcL (cTurn P elt (.nm i) c [i]) ds [] (env.set i none) = .ok ys (env.set i none)) : evA P (.lc elt (.nm i) it c [i]) env = .ok (.tmp (.lst ys)) env := by
  rw [s_lc, hit, k_lc, w_cons, w_nil, hb, k_lc2]
  have h : env[i]? = some env[i] := List.getElem?_eq_getElem hi
  rw [bk_cons, h, k_bk, bk_nil, set_back h]
theorem flat_one {α β : Type} {f : α → β} : ∀ {xs : List α}, xs.flatMap (fun x => [f x]) = xs.map f
  | [] => rfl
  | x :: xs => by rw [List.flatMap_cons, flat_one]; rfl
theorem set_none {env : Env} {i : Nat} (hi : i < env.length) : (env.set i none)[i]? = some none := List.getElem?_set_self hi
end Ev
end
section
set_option maxRecDepth 100000
set_option maxHeartbeats 4000000
namespace Ev
open PySem
variable {fuel k : Nat}
def roomOf (p : Int × Int) : Item → Int
  | .glue _ s k => if 0 < p.1 then s else k
  | _ => 0
def numOf (p : Int × Int) (x : Item) : Int := x.wid * p.2 + roomOf p x * p.1
def widE (r : List Item) (p : Int × Int) (i : Nat) : List D := match r[i]? with
  | some x => if x.isPen then [] else [.tup [.int i, prD (frac (numOf p x) p.2)]]
  | none => []
def widF (r : List Item) (p : Int × Int) (f e : Nat) : List D := (idxs f e).flatMap (widE r p)
/-- numbers of an item are small -/
def Item.small : Item → Prop
  | .box w => 0 ≤ w ∧ w ≤ 100000
  | .glue w s k => (0 ≤ w ∧ w ≤ 100000) ∧ (0 ≤ s ∧ s ≤ 100000) ∧ (0 ≤ k ∧ k ≤ 100000)
  | .pen w c f => (0 ≤ w ∧ w ≤ 100000) ∧ (-10000 ≤ c ∧ c ≤ 10000) ∧ (0 ≤ f ∧ f ≤ 1)
theorem mo_wid {x : Item} (h : x.small) : ∀ j, mulOk x.wid j = true := fun j => by
  cases x <;> simp only [Item.small] at h <;> exact mo_l (by simp only [Item.wid]; omega) (by simp only [Item.wid]; omega)
theorem room_le {x : Item} {p : Int × Int} (h : x.small) : 0 ≤ roomOf p x ∧ roomOf p x ≤ 100000 := by
  cases x with
  | glue w s k =>
    simp only [Item.small] at h
    show 0 ≤ (if 0 < p.1 then s else k) ∧ (if 0 < p.1 then s else k) ≤ 100000
    by_cases hp : 0 < p.1
    · rw [if_pos hp]; omega
    · rw [if_neg hp]; omega
  | _ => simp [roomOf]
theorem mo_room {x : Item} {p : Int × Int} (h : x.small) : ∀ j, mulOk (roomOf p x) j = true := fun j => by
  have := room_le (p := p) h
  exact mo_l (by omega) (by omega)
theorem widE_len {r : List Item} {p : Int × Int} (i : Nat) : (widE r p i).length ≤ 1 := by
  unfold widE; split
  · split <;> simp
  · simp
theorem flat_len {α β : Type} {f : α → List β} (h : ∀ a, (f a).length ≤ 1) : ∀ xs : List α, (xs.flatMap f).length ≤ xs.length
  | [] => by simp
  | x :: xs => by rw [List.flatMap_cons, List.length_append, List.length_cons]; have := flat_len h xs; have := h x; omega
theorem l14 {r : List Item} {p : Int × Int} {f e : Nat} {a b c : Option Sl} (sm : ∀ x ∈ r, x.small) (hq : 0 < p.2) (hq2 : p.2 < 2 ^ 31) (he : e ≤ r.length) (hr : r.length ≤ 900) (hf : 2 ^ 62 ≤ fuel) {u v w : Option Sl} :
    ∃ u' v' w', forL (turn (mkP fs (exmT exmt) fuel (k + 2) 4) (.nm 6) b14_0) ((idxs f e).map fun i : Nat => D.int i) [some (.val (rowD r)), a, b, c, some (.val (prD p)), some (.own (.lst [])), u, v, w]
      = .ok .next [some (.val (rowD r)), a, b, c, some (.val (prD p)), some (.own (.lst (widF r p f e))), u', v', w'] := by
  obtain ⟨env', h, u', v', w', he'⟩ := forL_app (emb := fun i : Nat => D.int i) (f := widE r p) (xs := idxs f e) (acc := []) (N := 900) (body := turn (mkP fs (exmT exmt) fuel (k + 2) 4) (.nm 6) b14_0)
    (R := fun acc env => ∃ u v w, env = [some (.val (rowD r)), a, b, c, some (.val (prD p)), some (.own (.lst acc)), u, v, w]) ⟨u, v, w, rfl⟩ (by
      have := flat_len (widE_len (r := r) (p := p)) (idxs f e)
      rw [len_idxs] at this
      rw [List.length_nil]; omega) (by
      rintro acc i env hi hl ⟨u, v, w, rfl⟩
      obtain ⟨hi1, hi2⟩ := mem_idxs.mp hi
      obtain ⟨x, hx⟩ : ∃ x, r[i]? = some x := ⟨_, List.getElem?_eq_getElem (by omega)⟩
      have hs := sm x (List.mem_of_getElem? hx)
      have ea := at_row hx
      have m1 := mo_wid hs
      have m2 := mo_room (p := p) hs
      unfold widE at hl ⊢
      rw [hx] at hl ⊢
      have cc := fun e => (a2 (fuel := fuel) (k := k) (a := numOf p x) hq (by omega) hf).c2 (lend := F2.lend) (env := e)
      obtain ⟨p1, p2⟩ := p
      cases x with
      | box q =>
        simp [Item.isPen] at hl
        refine ⟨_, .inl ?_, some (.val (.int i)), some (.val (Item.d (.box q))), w, rfl⟩
        have e1 : frac (numOf (p1, p2) (.box q)) p2 = (q, 1) := by
          rw [← frac_one (w := q) hq]; simp [numOf, roomOf, Item.wid]
        have hl : acc.length < 1000 := by omega
        simp [turn, b14_0, rowD, prD, ea, Item.d, Item.isPen, sl_lt hl, e1]
      | glue w s k =>
        simp [Item.isPen] at hl
        have hl : acc.length < 1000 := by omega
        simp only [numOf, roomOf, Item.wid] at cc m1 m2
        by_cases hp : 0 < p1
        · refine ⟨_, .inl ?_, some (.val (.int i)), some (.val (Item.d (.glue w s k))), some (.val (.int s)), rfl⟩
          simp [hp, prD] at cc m2
          simp [turn, b14_0, rowD, prD, ea, Item.d, Item.isPen, sl_lt hl, hp, fb_mul, m1, m2, cc, numOf, roomOf, Item.wid]
        · refine ⟨_, .inl ?_, some (.val (.int i)), some (.val (Item.d (.glue w s k))), some (.val (.int k)), rfl⟩
          simp [hp, prD] at cc m2
          simp [turn, b14_0, rowD, prD, ea, Item.d, Item.isPen, sl_lt hl, hp, fb_mul, m1, m2, cc, numOf, roomOf, Item.wid]
      | pen q c f =>
        refine ⟨_, .inl ?_, some (.val (.int i)), some (.val (Item.d (.pen q c f))), w, rfl⟩
        simp [turn, b14_0, rowD, prD, ea, Item.d, Item.isPen])
  exact ⟨u', v', w', by rw [h, he']; rfl⟩
end Ev
end
section
set_option maxRecDepth 100000
set_option maxHeartbeats 4000000
namespace Ev
open PySem
variable {fuel k : Nat}
/-- sizes that are small -/
structure SzOk (s : Int × Int × Int) : Prop where
  a : 0 ≤ s.2.1
  b : 0 ≤ s.2.2
  c : s.2.1 < 2 ^ 31
  d : s.2.2 < 2 ^ 31
theorem ratio_pos {s : Int × Int × Int} {m : Int} {p : Int × Int} (ok : SzOk s) (h : ratioF s m = some p) : 0 < p.2 ∧ p.2 < 2 ^ 31 := by
  have hr : ∀ q : Int, 0 < q → q < 2 ^ 31 → ∀ g, 0 < (frac g q).2 ∧ (frac g q).2 < 2 ^ 31 := fun q h1 h2 g => ⟨frac_pos h1, Int.lt_of_le_of_lt (frac_le h1) h2⟩
  have ha := ok.a
  have hb := ok.b
  have hc := ok.c
  have hd := ok.d
  unfold ratioF at h
  by_cases g0 : m - s.1 = 0
  · rw [if_pos g0] at h; cases h; decide
  · rw [if_neg g0] at h
    dsimp only at h
    by_cases g1 : 0 < m - s.1
    · rw [if_pos g1] at h
      by_cases g2 : 0 < s.2.1
      · rw [if_pos g2] at h; cases h; exact hr _ g2 hc _
      · rw [if_neg g2] at h; cases h
    · rw [if_neg g1] at h
      by_cases g2 : 0 < s.2.2
      · rw [if_pos g2] at h; cases h; exact hr _ g2 hd _
      · rw [if_neg g2] at h; cases h
structure LineOk (r : List Item) (i : Int) (j e : Nat) : Prop where
  sm : ∀ x ∈ r, x.small
  len : r.length ≤ 900
  ij : i + 1 = j
  le : ∃ x, r[e]? = some x
  sz : SzOk (sizesF r (goF r r.length j) e)
  first : goF r r.length j ≤ 900
def lineP (r : List Item) (j e : Nat) (m : Int) : Option (Int × Int) := ratioF (sizesF r (goF r r.length j) e) m
theorem a14s {r : List Item} {i m : Int} {j e : Nat} {p : Int × Int} (ok : LineOk r i j e) (hf : 2 ^ 62 ≤ fuel) (hp : lineP r j e m = some p) :
    An fuel (k + 5) 14 [rowD r, .int i, .int e, .int m] (.tup (widF r p (goF r r.length j) e)) := by
  simp only [An, Ans, List.map]
  rw [o14]
  obtain ⟨x, hx⟩ := ok.le
  have he : e < r.length := (List.getElem?_eq_some_iff.mp hx).1
  have hl := ok.len
  have c := fun env => (a10 (fuel := fuel) (k := k) (m := m) ok.ij hf (by omega) hx ok.sz.a ok.sz.b ok.sz.c ok.sz.d).c4 (lend := F10.lend) (env := env)
  unfold lineP at hp
  rw [hp] at c
  have c7 := fun env => (a7 (fuel := fuel) (k := k + 2) (r := r) ok.ij (by omega)).c2 (lend := F7.lend) (env := env)
  have hq := ratio_pos ok.sz hp
  obtain ⟨u, v, w, l⟩ := l14 (fuel := fuel) (k := k + 2) (p := p) (f := goF r r.length j) (e := e) (a := some (.val (.int i))) (b := some (.val (.int e))) (c := some (.val (.int m))) (u := none) (v := none) (w := none) ok.sm hq.1 hq.2 (by omega) hl hf
  have kx := fun env => k_idxs (f := goF r r.length j) (e := e) (env := env) (by have := ok.first; omega) (by omega)
  simp only [prD] at l
  simp [F14, c, c7, opD, prD, kx, l]
theorem a14n {r : List Item} {i m : Int} {j e : Nat} (ok : LineOk r i j e) (hf : 2 ^ 62 ≤ fuel) (hp : lineP r j e m = none) :
    ∃ outs, callF fs (exmT exmt) fuel (k + 5) 14 [.val (rowD r), .val (.int i), .val (.int e), .val (.int m)] = .exn ⟨1, none⟩ outs := by
  rw [o14]
  obtain ⟨x, hx⟩ := ok.le
  have he : e < r.length := (List.getElem?_eq_some_iff.mp hx).1
  have hl := ok.len
  have c := fun env => (a10 (fuel := fuel) (k := k) (m := m) ok.ij hf (by omega) hx ok.sz.a ok.sz.b ok.sz.c ok.sz.d).c4 (lend := F10.lend) (env := env)
  unfold lineP at hp
  rw [hp] at c
  simp [F14, c, opD]
theorem a31 {r : List Item} {i m : Int} {j e : Nat} (ok : LineOk r i j e) (hf : 2 ^ 62 ≤ fuel) :
    An fuel (k + 6) 31 [rowD r, .int i, .int e, .int m] (match lineP r j e m with | some p => .tup (widF r p (goF r r.length j) e) | none => .non) := by
  simp only [An, Ans, List.map]
  rw [o31]
  cases hp : lineP r j e m with
  | some p =>
    have c := fun env => (a14s (fuel := fuel) (k := k) ok hf hp).c4 (lend := F14.lend) (env := env)
    simp [F31, c]
  | none =>
    obtain ⟨outs, h⟩ := a14n (fuel := fuel) (k := k) ok hf hp
    have c : ∀ env, callM (callF fs (exmT exmt) fuel (k + 5)) 14 F14.lend [.val (rowD r), .val (.int i), .val (.int e), .val (.int m)] env = .exn ⟨1, none⟩ env := fun env => cm_valsx (ds := [rowD r, .int i, .int e, .int m]) h
    have ex : exmT exmt 1 1 = some true := rfl
    simp [F31, c, ex]
end Ev
end
section
set_option maxRecDepth 100000
/-! texts that are whole -/
namespace Ev
open PySem
abbrev sOk (s : Str) : Prop := PyData.strOk s = true
theorem strOk_iff {s : Str} : sOk s ↔ ∀ c ∈ s.cps.toList, c < 0x110000 := by
  unfold sOk PyData.strOk
  rw [← Array.all_toList, List.all_eq_true]
  simp
theorem strOk_of (s : String) : sOk (Str.ofString s) := by
  rw [strOk_iff, Str.ofString_eq_toList]
  intro c hc
  simp at hc
  obtain ⟨d, _, rfl⟩ := hc
  have := d.valid
  unfold UInt32.isValidChar Nat.isValidChar at this
  show d.val.toNat < _
  omega
theorem strOk_app {a b : Str} (ha : sOk a) (hb : sOk b) : sOk (a ++ b) := by
  rw [strOk_iff] at *
  intro c hc
  have : (a ++ b).cps = a.cps ++ b.cps := rfl
  rw [this, Array.toList_append, List.mem_append] at hc
  exact hc.elim (ha c) (hb c)
theorem strOk_empty : sOk Str.empty := by rw [strOk_iff]; simp [Str.empty]
theorem strOk_join {a : Str} (ha : sOk a) : ∀ {ps : List Str}, (∀ p ∈ ps, sOk p) → sOk (Str.join a ps)
  | [], _ => strOk_empty
  | [x], h => h x (.head _)
  | x :: y :: r, h => by
    show sOk (x ++ a ++ Str.join a (y :: r))
    exact strOk_app (strOk_app (h x (.head _)) ha) (strOk_join ha fun p hp => h p (.tail _ hp))
theorem len_app {a b : Str} : (a ++ b).length = a.length + b.length := by
  show (a.cps ++ b.cps).size = _
  rw [Array.size_append]; rfl
theorem qd_str {s : Str} (h : sOk s) : Q 0 (.str s) := qd_strOf h
theorem eq_str {s : Str} (h : sOk s) : D.eq? (.str s) (.str s) = some true := by
  unfold D.eq?
  rw [(qd_str h).eqOk (by decide)]
  simp [D.eqv, D.py, PyData.eqv]
theorem len_int {i : Int} (h : i.natAbs.log2 < 1920) : (Str.ofString (toString i)).length ≤ 1921 := PyProof.Rows.int_text_len_1921 h
theorem log_small {i : Int} (h : i.natAbs < 2 ^ 62) : i.natAbs.log2 < 1920 := by
  by_cases h0 : i.natAbs = 0
  · rw [h0]; decide
  · have := (Nat.log2_lt h0 (k := 62)).mpr h
    exact Nat.lt_of_lt_of_le this (by decide)
theorem b_str {i : Int} (h : i.natAbs.log2 < 1920) : biF .str [.int i] = some (.val (.str (Str.ofString (toString i)))) := by
  show (if i.natAbs.log2 < 1920 then some (BR.val (.str (Str.ofString (toString i)))) else none) = _
  rw [if_pos h]
theorem fb_str {x y : Str} (h : x.length + y.length ≤ 1000000) : fBin .add (.str x) (.str y) = some (.val (.str (x ++ y))) := by
  show (if x.length + y.length ≤ sizeLine then some (BR.val (.str (x ++ y))) else none).map BR.a = _
  rw [if_pos (Nat.le_trans h (Nat.le_trans (by decide) sl_ge))]; rfl
theorem asStrs_map {α : Type} {f : α → Str} : ∀ {xs : List α}, asStrs (xs.map fun x => D.str (f x)) = some (xs.map f)
  | [] => rfl
  | x :: xs => by
    show (asStrs (xs.map fun x => D.str (f x))).map (f x :: ·) = _
    rw [asStrs_map]; rfl
theorem sm_join {α : Type} {f : α → Str} {a : Str} {xs : List α} (h : ((xs.map f).map (·.length)).sum + xs.length * a.length ≤ 16777216) : smF .join a [.lst (xs.map fun x => D.str (f x))] = some (.val (.str (Str.join a (xs.map f)))) := by
  show ((asStrs (xs.map fun x => D.str (f x))).bind fun ys => if (ys.map (·.length)).sum + ys.length * a.length ≤ 16777216 then some (BR.val (.str (Txt.join a ys))) else none) = _
  rw [asStrs_map, Option.bind_some, if_pos (by rw [List.length_map]; exact h), TL.join_eq]
theorem len_join {a : Str} : ∀ {ps : List Str}, (Str.join a ps).length ≤ (ps.map (·.length)).sum + ps.length * a.length
  | [] => by show 0 ≤ _; omega
  | [x] => by show x.length ≤ _; simp
  | x :: y :: r => by
    show (x ++ a ++ Str.join a (y :: r)).length ≤ _
    have := len_join (a := a) (ps := y :: r)
    rw [len_app, len_app]
    simp only [List.map_cons, List.sum_cons, List.length_cons, Nat.add_mul] at this ⊢
    omega
theorem sum_le {xs : List Nat} {c : Nat} (h : ∀ x ∈ xs, x ≤ c) : xs.sum ≤ xs.length * c := by
  induction xs with
  | nil => simp
  | cons x xs ih =>
    rw [List.sum_cons, List.length_cons, Nat.add_mul]
    have := ih fun y hy => h y (.tail _ hy)
    have := h x (.head _)
    omega
end Ev
end
section
set_option maxRecDepth 100000
set_option maxHeartbeats 4000000
namespace Ev
open PySem
variable {fuel k : Nat}
theorem rowNe {P : Par} {i : Nat} {env : Env} {xs : List Item} (hi : env[i]? = some none) (hl : xs.length ≤ 1000) :
    lcL (cTurn P (.idx (.var i) (.cst (.int 1))) (.nm i) (.cons (.cmp .ne (.idx (.var i) (.cst (.int 0))) (.cst (.str "penalty"))) .nil) [i]) (xs.map Item.d) [] env
    = .ok ((xs.filter fun x => !x.isPen).map fun x => D.int x.wid) env := by
  have hb : i < env.length := (List.getElem?_eq_some_iff.mp hi).1
  rw [lcL_pure (f := fun x : Item => if !x.isPen then some (D.int x.wid) else none)]
  · rw [List.nil_append, filt_eq]
  · intro x _
    exact cT (b := !x.isPen) hi (by cases x <;> simp [Item.d, Item.isPen, hb]) (fun _ => by cases x <;> simp [Item.d, Item.wid, hb])
  · rw [List.length_nil, Nat.zero_add]; exact sl_le hl
theorem rowBox {P : Par} {i : Nat} {env : Env} {xs : List Item} (hi : env[i]? = some none) (hl : xs.length ≤ 1000) :
    lcL (cTurn P (.idx (.var i) (.cst (.int 1))) (.nm i) (.cons (.cmp .eq (.idx (.var i) (.cst (.int 0))) (.cst (.str "box"))) .nil) [i]) (xs.map Item.d) [] env
    = .ok ((xs.filter fun x => x.isBox).map fun x => D.int x.wid) env := by
  have hb : i < env.length := (List.getElem?_eq_some_iff.mp hi).1
  rw [lcL_pure (f := fun x : Item => if x.isBox then some (D.int x.wid) else none)]
  · rw [List.nil_append, filt_eq]
  · intro x _
    exact cT (b := x.isBox) hi (by cases x <;> simp [Item.d, Item.isBox, hb]) (fun _ => by cases x <;> simp [Item.d, Item.wid, hb])
  · rw [List.length_nil, Nat.zero_add]; exact sl_le hl
def natF (r : List Item) : Int := ((r.filter fun x => !x.isPen).map Item.wid).sum
theorem a16 {r : List Item} (hr : r.length ≤ 1000) : An fuel (k + 1) 16 [rowD r] (.int (natF r)) := by
  simp only [An, Ans, List.map]
  rw [o16]
  simp [F16, rowD, rowNe, hr, asInts_map, natF]
theorem a17 {r : List Item} (hr : r.length ≤ 900) {w : Int} {ws : List Int} (h : (r.filter fun x => x.isBox).map Item.wid = w :: ws) (h0 : 0 < w) : An fuel (k + 1) 17 [rowD r] (.int (ws.foldl (fun m y => if m < y then y else m) w)) := by
  simp only [An, Ans, List.map]
  rw [o17]
  have e : asInts (D.int 0 :: (r.filter fun x => x.isBox).map fun x => D.int x.wid) = some (0 :: w :: ws) := by
    show (asInts _).map _ = _
    rw [asInts_map, h]; rfl
  have hm : biF .max1 [.lst (D.int 0 :: (r.filter fun x => x.isBox).map fun x => D.int x.wid)] = some (.val (.int (ws.foldl (fun m y => if m < y then y else m) w))) := by
    show ((asInts (D.int 0 :: _)).bind maxI).map _ = _
    rw [e]
    simp [maxI, h0]
  have hl : ([D.int 0] : List D).length + ((r.filter fun x => x.isBox).map fun x => D.int x.wid).length ≤ 1000 := by
    rw [List.length_map]
    have := List.length_filter_le (fun x : Item => x.isBox) r
    simp only [List.length_cons, List.length_nil]; omega
  have hb := rowBox (P := mkP fs (exmT exmt) fuel k 1) (i := 1) (env := [some (Sl.val (rowD r)), none]) (xs := r) rfl (by omega)
  simp only [rowD] at hb
  simp [F17, rowD, hb, fb_catl (Nat.le_trans hl (by decide)), hm]
/-- no two boxes stand together -/
def NoAdj (r : List Item) : Prop := ∀ i x y, r[i]? = some x → r[i + 1]? = some y → x.isBox = true → y.isBox = true → False
theorem a18 {r : List Item} (hr : r.length ≤ 900) (na : NoAdj r) : An fuel (k + 1) 18 [rowD r] (rowD r) := by
  simp only [An, Ans, List.map]
  rw [o18]
  obtain ⟨env', h, hR⟩ := forL_foldI (emb := Item.d) (f := fun acc x => acc ++ [x]) (xs := r) (i := 0) (s := ([] : List Item)) (body := turn (mkP fs (exmT exmt) fuel k 1) (.nm 2) b18_0)
    (R := fun i acc env => acc = r.take i ∧ ∃ z, env = [some (.val (rowD r)), some (.own (.lst (acc.map Item.d))), z]) ⟨rfl, none, rfl⟩ (by
      rintro j acc x env hx ⟨rfl, z, rfl⟩
      rw [Nat.zero_add]
      have hj : j < r.length := (List.getElem?_eq_some_iff.mp hx).1
      have e : r.take (j + 1) = r.take j ++ [x] := by rw [List.take_add_one, hx]; rfl
      refine ⟨[some (.val (rowD r)), some (.own (.lst ((r.take j ++ [x]).map Item.d))), some (.val x.d)], .inl ?_, e.symm, _, rfl⟩
      have hl : ((r.take j).map Item.d).length < 1000 := by rw [List.length_map, List.length_take]; omega
      cases j with
      | zero => cases x <;> simp [turn, b18_0, Item.d, sl_lt (show 0 < 1000 by decide)]
      | succ j =>
        obtain ⟨y, hy⟩ : ∃ y, r[j]? = some y := ⟨_, List.getElem?_eq_getElem (by omega)⟩
        have e2 : r.take (j + 1) = r.take j ++ [y] := by rw [List.take_add_one, hy]; rfl
        rw [e2] at hl ⊢
        have e3 := atI_m1 (xs := (r.take j).map Item.d) (x := y.d)
        have e4 : ((r.take j).map Item.d ++ [y.d]).isEmpty = false := by simp
        rw [List.map_append] at hl
        have hl := sl_lt hl
        simp only [List.map_append, List.map_cons, List.map_nil] at hl ⊢
        have nb := na j y x hy hx
        generalize (r.take j).map Item.d = ds at *
        have e5 : (ds ++ [y.d]) ≠ [] := by simp
        cases x with
        | box w =>
          cases y with
          | box v => exact (nb rfl rfl).elim
          | _ => simp [Item.d] at e3 e4 hl e5; simp [turn, b18_0, Item.d, hl, e3, e4]
        | _ => simp at hl; simp [turn, b18_0, Item.d, hl])
  obtain ⟨e, z, rfl⟩ := hR
  have e2 : r.foldl (fun acc x => acc ++ [x]) [] = r := by rw [e, Nat.zero_add, List.take_length]
  rw [e2] at h
  simp only [rowD, List.map_nil] at h ⊢
  simp [F18, h]
end Ev
end
section
set_option maxRecDepth 100000
set_option maxHeartbeats 4000000
namespace Ev
open PySem
variable {fuel k : Nat}
def Item.scale (f : Int) : Item → Item
  | .box w => .box (w * f)
  | .glue w s k => .glue (w * f) (s * f) (k * f)
  | .pen w c g => .pen (w * f) c g
theorem l19 {P : Par} {a c d : Option Sl} {f : Int} (hm : ∀ i, mulOk i f = true) {xs : List Int} (hl : xs.length ≤ 1000) : lcL (cTurn P e19_0 (.nm 4) .nil [4]) (xs.map D.int) [] [a, some (.val (.int f)), c, d, none]
    = .ok (xs.map fun x => D.int (x * f)) [a, some (.val (.int f)), c, d, none] := by
  rw [lcL_map (f := fun x : Int => D.int (x * f))]
  · intro x _
    rw [cTurn_some rfl]
    simp [e19_0, fb_mul, hm]
  · exact sl_le hl
theorem a19 {r : List Item} {f : Int} (hm : ∀ i, mulOk i f = true) (hr : r.length ≤ 900) : An fuel (k + 1) 19 [rowD r, .int f] (rowD (r.map (Item.scale f))) := by
  simp only [An, Ans, List.map]
  rw [o19]
  obtain ⟨env', h, z, rfl⟩ := forL_app (emb := Item.d) (f := fun x => [(x.scale f).d]) (xs := r) (acc := []) (N := 900) (body := turn (mkP fs (exmT exmt) fuel k 2) (.nm 3) b19_1)
    (R := fun acc env => ∃ z, env = [some (.val (rowD r)), some (.val (.int f)), some (.own (.lst acc)), z, none]) ⟨none, rfl⟩ (by
      have := flat_len (f := fun x : Item => [(x.scale f).d]) (fun _ => by simp) r
      rw [List.length_nil]; omega) (by
      rintro acc x env hx hl ⟨z, rfl⟩
      simp only [List.length_cons, List.length_nil] at hl
      have hl := sl_lt (show acc.length < 1000 by omega)
      refine ⟨_, .inl ?_, some (.val x.d), rfl⟩
      have l := fun xs hl c d => l19 (P := mkP fs (exmT exmt) fuel k 2) (a := some (.val (rowD r))) (c := c) (d := d) hm (xs := xs) hl
      cases x with
      | box w =>
        have l := l [w] (by simp)
        simp at l
        simp [turn, b19_1, Item.d, Item.scale, cutD, HT.sIx, l, fb_cat, hl]
      | glue w s k =>
        have l := l [w, s, k] (by simp)
        simp at l
        simp [turn, b19_1, Item.d, Item.scale, cutD, HT.sIx, l, fb_cat, hl]
      | pen w c g =>
        simp [turn, b19_1, Item.d, Item.scale, cutD, HT.sIx, fb_cat, fb_mul, hm, hl])
  have e : r.flatMap (fun x => [(x.scale f).d]) = (r.map (Item.scale f)).map Item.d := by rw [flat_one, List.map_map]; rfl
  rw [e] at h
  simp only [List.nil_append] at h
  simp [F19, rowD] at h ⊢
  simp [h]
end Ev
end
section
set_option maxRecDepth 100000
set_option maxHeartbeats 4000000
namespace Ev
open PySem
variable {fuel k : Nat}
def Item.hd : Item → Str
  | .box _ => ⟨#[98]⟩
  | .glue .. => ⟨#[103]⟩
  | .pen .. => ⟨#[112]⟩
def Item.nums : Item → List Int
  | .box w => [w]
  | .glue w s k => [w, s, k]
  | .pen w c f => [w, c, f]
def Item.name : Item → Str
  | .box _ => "box"
  | .glue .. => "glue"
  | .pen .. => "penalty"
def txI (i : Int) : Str := Str.ofString (toString i)
def itTx (x : Item) : Str := x.hd ++ Str.join "," (x.nums.map txI)
def txF (r : List Item) : Str := Str.join " " (r.map itTx)
theorem d_eq (x : Item) : x.d = .tup (.str x.name :: x.nums.map D.int) := by cases x <;> rfl
theorem hd_at (x : Item) : fIdx (.str x.name) (.int 0) = some (.val (.str x.hd)) := by
  have e1 : ("box" : Str) = ⟨#[98, 111, 120]⟩ := by decide +kernel
  have e2 : ("glue" : Str) = ⟨#[103, 108, 117, 101]⟩ := by decide +kernel
  have e3 : ("penalty" : Str) = ⟨#[112, 101, 110, 97, 108, 116, 121]⟩ := by decide +kernel
  have key : ∀ (c : Nat) (cs : List Nat), cs.length ≤ 20 → fIdx (.str ⟨(c :: cs).toArray⟩) (.int 0) = some (.val (.str ⟨#[c]⟩)) := fun c cs h => by
    show (if (c :: cs).toArray.size ≤ sizeLine then (L2.atI (c :: cs) 0).map fun c => D.str ⟨#[c]⟩ else none).map A.val = _
    rw [if_pos (sl_le (by simp; omega)), at0]; rfl
  cases x
  · show fIdx (.str "box") _ = _
    rw [e1]; exact key 98 [111, 120] (by decide)
  · show fIdx (.str "glue") _ = _
    rw [e2]; exact key 103 [108, 117, 101] (by decide)
  · show fIdx (.str "penalty") _ = _
    rw [e3]; exact key 112 [101, 110, 97, 108, 116, 121] (by decide)
theorem nums_small {x : Item} (h : x.small) : ∀ i ∈ x.nums, i.natAbs < 2 ^ 62 := by
  cases x <;> simp only [Item.small] at h <;> simp only [Item.nums, List.mem_cons, List.not_mem_nil, or_false] <;> rintro i (rfl | rfl | rfl) <;> omega
theorem nums_len (x : Item) : x.nums.length ≤ 3 := by cases x <;> simp [Item.nums]
theorem nums_sum {x : Item} (h : x.small) : ((x.nums.map txI).map (·.length)).sum + x.nums.length * ("," : Str).length ≤ 5800 := by
  have hc : ("," : Str).length = 1 := by decide +kernel
  have := sum_le (xs := (x.nums.map txI).map (·.length)) (c := 1921) (by
    intro n hn
    simp only [List.map_map, List.mem_map, Function.comp] at hn
    obtain ⟨i, hi, rfl⟩ := hn
    exact len_int (log_small (nums_small h i hi)))
  rw [List.length_map, List.length_map] at this
  have := nums_len x
  rw [hc]; omega
theorem it_len {x : Item} (h : x.small) : (itTx x).length ≤ 5801 := by
  unfold itTx
  rw [len_app]
  have h1 := nums_sum h
  have h2 := len_join (a := ",") (ps := x.nums.map txI)
  rw [List.length_map] at h2
  have : x.hd.length = 1 := by cases x <;> rfl
  omega
theorem it_ok (x : Item) : sOk (itTx x) := by
  unfold itTx
  refine strOk_app (by cases x <;> (rw [strOk_iff]; simp [Item.hd])) (strOk_join (strOk_of _) ?_)
  intro p hp
  obtain ⟨i, _, rfl⟩ := List.mem_map.mp hp
  exact strOk_of _
theorem tx_ok (r : List Item) : sOk (txF r) := strOk_join (strOk_of _) fun p hp => by obtain ⟨i, _, rfl⟩ := List.mem_map.mp hp; exact it_ok i
/-- an item's text, at slots i (the item) and j (its numbers, one by one) -/
theorem it_text {P : Par} {i j : Nat} {env : Env} {x : Item} (hx : x.small) (hi : env[i]? = some (some (.val x.d))) (hj : j < env.length) (hij : i ≠ j) :
    evA P (.bin .add (.idx (.idx (.var i) (.cst (.int 0))) (.cst (.int 0))) (.sm .join (.cst (.str ",")) (.cons (.lc (.bi .str (.cons (.var j) .nil)) (.nm j) (.of (.slc (.var i) (.cons (.cst (.int 1)) .nil) .nil)) .nil [j]) .nil))) env
    = .ok (.val (.str (itTx x))) env := by
  have e1 : evA P (.lc (.bi .str (.cons (.var j) .nil)) (.nm j) (.of (.slc (.var i) (.cons (.cst (.int 1)) .nil) .nil)) .nil [j]) env = .ok (.tmp (.lst (x.nums.map fun i => .str (txI i)))) env := by
    refine lc_gen (ds := x.nums.map D.int) hj ?_ ?_
    · have ec : cutD (D.str x.name :: x.nums.map D.int) (some 1) none = x.nums.map D.int := by
        simp [cutD, HT.sIx]
        exact List.take_of_length_le (by simp)
      simp [hi, d_eq, ec]
    · rw [lcL_map (f := fun i : Int => D.str (txI i))]
      · intro a ha
        have := cT (P := P) (elt := .bi .str (.cons (.var j) .nil)) (c := .nil) (d := .int a) (y := .str (txI a)) (b := true) (set_none hj) (by simp) (fun _ => by simp [hj, b_str (log_small (nums_small hx a ha)), txI])
        simpa using this
      · exact sl_le (by have := nums_len x; omega)
  have e2 : smF .join "," [.lst (x.nums.map fun i => .str (txI i))] = some (.val (.str (Str.join "," (x.nums.map txI)))) := sm_join (by
    have := nums_sum hx
    omega)
  have e3 : fBin .add (.str x.hd) (.str (Str.join "," (x.nums.map txI))) = some (.val (.str (itTx x))) := fb_str (by
    have h1 := nums_sum hx
    have h2 := len_join (a := ",") (ps := x.nums.map txI)
    rw [List.length_map] at h2
    have : x.hd.length = 1 := by cases x <;> rfl
    omega)
  simp [-s_lc, hi, d_eq, hd_at, e1, e2, e3]
end Ev
end
section
set_option maxRecDepth 100000
set_option maxHeartbeats 4000000
namespace Ev
open PySem
variable {fuel k : Nat}
theorem txs_sum {r : List Item} (sm : ∀ x ∈ r, x.small) (hr : r.length ≤ 900) : ((r.map itTx).map (·.length)).sum + r.length * (" " : Str).length ≤ 16777216 := by
  have hc : (" " : Str).length = 1 := by decide +kernel
  have := sum_le (xs := (r.map itTx).map (·.length)) (c := 5801) (by
    intro n hn
    simp only [List.map_map, List.mem_map, Function.comp] at hn
    obtain ⟨x, hx, rfl⟩ := hn
    exact it_len (sm x hx))
  rw [List.length_map, List.length_map] at this
  rw [hc]
  have h2 : r.length * 5801 ≤ 900 * 5801 := Nat.mul_le_mul_right _ hr
  have h3 : 900 * 5801 + 900 ≤ 16777216 := by decide
  omega
theorem a20 {r : List Item} (sm : ∀ x ∈ r, x.small) (hr : r.length ≤ 900) : An fuel (k + 1) 20 [rowD r] (.str (txF r)) := by
  simp only [An, Ans, List.map]
  rw [o20]
  obtain ⟨env', h, z, rfl⟩ := forL_app (emb := Item.d) (f := fun x => [D.str (itTx x)]) (xs := r) (acc := []) (N := 900) (body := turn (mkP fs (exmT exmt) fuel k 1) (.nm 2) b20_1)
    (R := fun acc env => ∃ z, env = [some (.val (rowD r)), some (.own (.lst acc)), z, none]) ⟨none, rfl⟩ (by
      have := flat_len (f := fun x : Item => [D.str (itTx x)]) (fun _ => by simp) r
      rw [List.length_nil]; omega) (by
      rintro acc x env hx hl ⟨z, rfl⟩
      simp only [List.length_cons, List.length_nil] at hl
      have hl := sl_lt (show acc.length < 1000 by omega)
      refine ⟨_, .inl ?_, some (.val x.d), rfl⟩
      have t := it_text (P := mkP fs (exmT exmt) fuel k 1) (i := 2) (j := 3) (env := [some (.val (rowD r)), some (.own (.lst acc)), some (.val x.d), none]) (sm x hx) rfl (by simp) (by decide)
      simp [-s_bin, turn, b20_1, e20_0, t, hl])
  rw [flat_one] at h
  simp only [List.nil_append] at h
  have e := sm_join (a := " ") (xs := r) (f := itTx) (txs_sum sm hr)
  simp [F20, rowD] at h ⊢
  simp [h, e, txF]
end Ev
end
section
set_option maxRecDepth 100000
set_option maxHeartbeats 4000000
namespace Ev
open PySem
variable {fuel k : Nat}
theorem dr {st : D} {L : Int} (h : IsSt st) (hl : 0 < L) (hl2 : L < 2 ^ 31) : ∃ g st', IsSt st' ∧ 0 ≤ g ∧ g < L ∧
    ∀ i env, env[i]? = some (some (.own st)) → callM (callF fs (exmT exmt) fuel (k + 1)) 21 F21.lend [.own i, .val (.int L)] env = .ok (.val (.int g)) (env.set i (some (.own st'))) := by
  obtain ⟨g, st', h1, h2, h3, h4⟩ := draw (fs := fs) (exm := exmT exmt) (fuel := fuel) (k := k) (j := 21) rfl h hl hl2
  exact ⟨g, st', h1, h2, h3, fun i env he => draw_call he h4⟩
theorem draw_call2 {F : CF} {j i : Nat} {st st' x r : D} {env : Env} {o2 : Option Sl} (hst : env[i]? = some (some (.own st)))
    (h : F j [.own st, .val x] = .ret (.val r) [some (.own st'), o2]) :
    callM F j [true, true] [.own i, .val x] env = .ok (.val r) (env.set i (some (.own st'))) := by
  unfold callM
  simp only [freezeAll, Out.bind_ok, paramsOf, hst, h, lentOf, backOuts]
  simp
def Item.fine : Item → Prop
  | .box w => 1 ≤ w ∧ w ≤ 100000
  | x => x.small
theorem Item.fine.small {x : Item} (h : x.fine) : x.small := by
  cases x <;> simp only [Item.fine, Item.small] at * <;> omega
theorem NoAdj.snoc {acc : List Item} {x : Item} (h : NoAdj acc) (hx : x.isBox = true → ∀ y, acc.getLast? = some y → y.isBox = false) : NoAdj (acc ++ [x]) := by
  intro i a b ha hb h1 h2
  by_cases hi : i + 1 < acc.length
  · rw [List.getElem?_append_left (by omega)] at ha
    rw [List.getElem?_append_left hi] at hb
    exact h i a b ha hb h1 h2
  · have hlt := (List.getElem?_eq_some_iff.mp hb).1
    simp only [List.length_append, List.length_cons, List.length_nil] at hlt
    have hi : i + 1 = acc.length := by omega
    rw [List.getElem?_append_left (by omega)] at ha
    rw [hi, List.getElem?_append_right (Nat.le_refl _)] at hb
    simp at hb
    subst hb
    have := hx h2 a (by rw [List.getLast?_eq_getElem?, show acc.length - 1 = i by omega]; exact ha)
    rw [this] at h1; cases h1
theorem noAdj_nil : NoAdj [] := fun i x y h => by simp at h
structure RowAcc (i : Nat) (acc : List Item) : Prop where
  len : acc.length ≤ 4 * i
  fine : ∀ x ∈ acc, x.fine
  na : NoAdj acc
  zero : i = 0 → acc = []
  head : 0 < i → ∃ w rest, acc = .box w :: rest
theorem RowAcc.add {i : Nat} {acc more : List Item} (h : RowAcc i acc) (hl : more.length ≤ 4) (hf : ∀ x ∈ more, x.fine) (hn : NoAdj (acc ++ more)) (h0 : i = 0 → ∃ w rest, more = .box w :: rest) : RowAcc (i + 1) (acc ++ more) where
  len := by have := h.len; rw [List.length_append]; omega
  fine := fun x hx => (List.mem_append.mp hx).elim (h.fine x) (hf x)
  na := hn
  zero := fun z => by omega
  head := fun _ => by
    by_cases hi : i = 0
    · rw [h.zero hi]; simpa using h0 hi
    · obtain ⟨w, rest, e⟩ := h.head (by omega)
      exact ⟨w, rest ++ more, by rw [e]; rfl⟩
def tail3 : List Item := [.pen 0 10000 0, .glue 0 100000 0, .pen 0 (-10000) 1]
structure RowOk (r : List Item) : Prop where
  ex : ∃ acc n, r = acc ++ tail3 ∧ RowAcc n acc ∧ 0 < n ∧ n ≤ 8
theorem pick5 {g : Int} (h0 : 0 ≤ g) (h1 : g < 5) : ∃ c : Int, L2.atI [D.int 50, D.int 0, D.int (-50), D.int 10000, D.int (-10000)] g = some (.int c) ∧ -10000 ≤ c ∧ c ≤ 10000 := by
  have : g = 0 ∨ g = 1 ∨ g = 2 ∨ g = 3 ∨ g = 4 := by omega
  rcases this with rfl | rfl | rfl | rfl | rfl <;> exact ⟨_, rfl, by omega, by omega⟩
/-- a word: a box, or two with a penalty between -/
def wordOk (ws : List Item) : Prop := (∃ w, ws = [.box w] ∧ 1 ≤ w ∧ w ≤ 9) ∨ ∃ w a b c v, ws = [.box w, .pen a b c, .box v] ∧ (1 ≤ w ∧ w ≤ 9) ∧ (1 ≤ v ∧ v ≤ 5) ∧ (0 ≤ a ∧ a < 3) ∧ (-10000 ≤ b ∧ b ≤ 10000) ∧ (0 ≤ c ∧ c < 2)
def rest24 : Ss := match b24_0 with
  | .cons _ r => r
  | _ => .nil
def hd24 : S := match b24_0 with
  | .cons s _ => s
  | _ => .pass
theorem eq24 : b24_0 = .cons hd24 rest24 := rfl
theorem r24 {st : D} {n z : Option Sl} {ds : List D} (hs : IsSt st) (hl : ds.length + 3 < sizeLine) :
    ∃ st' ws, IsSt st' ∧ wordOk ws ∧ evSs (mkP fs (exmT exmt) fuel (k + 1) 2) rest24 [some (.own st), n, some (.own (.lst ds)), z]
      = .ok .next [some (.own st'), n, some (.own (.lst (ds ++ ws.map Item.d))), z] := by
  have l0 : ds.length < sizeLine := by omega
  have l1 : ds.length + 1 < sizeLine := by omega
  have l2 : ds.length + 2 < sizeLine := by omega
  have l3 : ds.length + 1 + 1 < sizeLine := by omega
  obtain ⟨g1, st1, h1, a1, b1, c1⟩ := dr (fuel := fuel) (k := k) hs (L := 9) (by decide) (by decide)
  obtain ⟨g2, st2, h2, a2, b2, c2⟩ := dr (fuel := fuel) (k := k) h1 (L := 4) (by decide) (by decide)
  by_cases hg : g2 = 1
  · obtain ⟨g3, st3, h3, a3, b3, c3⟩ := dr (fuel := fuel) (k := k) h2 (L := 3) (by decide) (by decide)
    obtain ⟨g4, st4, h4, a4, b4, c4⟩ := dr (fuel := fuel) (k := k) h3 (L := 5) (by decide) (by decide)
    obtain ⟨g5, st5, h5, a5, b5, c5⟩ := dr (fuel := fuel) (k := k) h4 (L := 2) (by decide) (by decide)
    obtain ⟨g6, st6, h6, a6, b6, c6⟩ := dr (fuel := fuel) (k := k) h5 (L := 5) (by decide) (by decide)
    obtain ⟨c, hc, hc1, hc2⟩ := pick5 a4 b4
    refine ⟨st6, [.box (1 + g1), .pen g3 c g5, .box (1 + g6)], h6, .inr ⟨_, _, _, _, _, rfl, by omega, by omega, by omega, by omega, by omega⟩, ?_⟩
    simp [rest24, b24_0, c1, c2, c3, c4, c5, c6, hg, l0, l1, l2, l3, hc, Item.d]
  · refine ⟨st2, [.box (1 + g1)], h2, .inl ⟨_, rfl, by omega, by omega⟩, ?_⟩
    simp [rest24, b24_0, c1, c2, hg, l0, Item.d]
theorem b24 {st : D} {n : Option Sl} {i : Nat} {acc : List Item} {z : Option Sl} (hs : IsSt st) (ha : RowAcc i acc) (hi : i ≤ 8) :
    ∃ st' acc' z', IsSt st' ∧ RowAcc (i + 1) acc' ∧ turn (mkP fs (exmT exmt) fuel (k + 1) 2) (.nm 3) b24_0 (.int i) [some (.own st), n, some (.own (.lst (acc.map Item.d))), z]
      = .ok .next [some (.own st'), n, some (.own (.lst (acc'.map Item.d))), z'] := by
  have hl : (acc.map Item.d).length + 4 < sizeLine := by
    rw [List.length_map]; exact sl_lt (by have := ha.len; omega)
  have l0 : (acc.map Item.d).length < sizeLine := by omega
  have fineW : ∀ ws, wordOk ws → (∀ x ∈ ws, x.fine) ∧ ws.length ≤ 3 ∧ (∃ w rest, ws = .box w :: rest) := by
    rintro ws (⟨w, rfl, h⟩ | ⟨w, a, b, c, v, rfl, h1, h2, h3, h4, h5⟩)
    · exact ⟨by simp [Item.fine]; omega, by simp, _, _, rfl⟩
    · exact ⟨by simp [Item.fine, Item.small]; omega, by simp, _, _, rfl⟩
  have naW : ∀ acc ws, wordOk ws → NoAdj acc → (∀ y, acc.getLast? = some y → y.isBox = false) → NoAdj (acc ++ ws) := by
    rintro acc ws (⟨w, rfl, h⟩ | ⟨w, a, b, c, v, rfl, h1, h2, h3, h4, h5⟩) na hy
    · exact na.snoc fun _ => hy
    · have h1 := NoAdj.snoc (x := .box w) na fun _ => hy
      have h2 := NoAdj.snoc (x := .pen a b c) h1 fun z => by cases z
      have h3 := NoAdj.snoc (x := .box v) h2 fun _ y e => by simp at e; rw [← e]; rfl
      simpa using h3
  by_cases h0 : i = 0
  · obtain ⟨st', ws, g1, g2, g3⟩ := r24 (fuel := fuel) (k := k) (n := n) (z := some (.val (.int i))) hs (ds := acc.map Item.d) (by omega)
    obtain ⟨w1, w2, w3⟩ := fineW ws g2
    refine ⟨st', acc ++ ws, some (.val (.int i)), g1, ha.add (by omega) w1 (naW _ _ g2 ha.na fun y e => ?_) (fun _ => w3), ?_⟩
    · rw [ha.zero h0] at e; simp at e
    · simp only [rest24, b24_0] at g3
      rw [List.map_append]
      subst h0
      simp [turn, b24_0] at g3 ⊢
      exact g3
  · obtain ⟨q1, st1, h1, a1, b1, c1⟩ := dr (fuel := fuel) (k := k) hs (L := 3) (by decide) (by decide)
    obtain ⟨q2, st2, h2, a2, b2, c2⟩ := dr (fuel := fuel) (k := k) h1 (L := 3) (by decide) (by decide)
    obtain ⟨q3, st3, h3, a3, b3, c3⟩ := dr (fuel := fuel) (k := k) h2 (L := 2) (by decide) (by decide)
    obtain ⟨st', ws, g1, g2, g3⟩ := r24 (fuel := fuel) (k := k) (n := n) (z := some (.val (.int i))) h3 (ds := (acc ++ [Item.glue (2 + q1) (1 + q2) (1 + q3)]).map Item.d) (by simp at hl ⊢; omega)
    obtain ⟨w1, w2, w3⟩ := fineW ws g2
    have n1 := NoAdj.snoc (x := .glue (2 + q1) (1 + q2) (1 + q3)) ha.na fun z => by cases z
    have n2 := naW _ ws g2 n1 fun y e => by simp at e; rw [← e]; rfl
    refine ⟨st', acc ++ (Item.glue (2 + q1) (1 + q2) (1 + q3) :: ws), some (.val (.int i)), g1, ha.add (by simp; omega) (fun x hx => ?_) (by simpa using n2) (fun z => absurd z h0), ?_⟩
    · rcases List.mem_cons.mp hx with rfl | hx
      · simp [Item.fine, Item.small]; omega
      · exact w1 x hx
    · have h0 : 0 < i := by omega
      have e1 : evS (mkP fs (exmT exmt) fuel (k + 1) 2) hd24 [some (.own st), n, some (.own (.lst (acc.map Item.d))), some (.val (.int i))] = .ok .next [some (.own st3), n, some (.own (.lst ((acc ++ [Item.glue (2 + q1) (1 + q2) (1 + q3)]).map Item.d))), some (.val (.int i))] := by
        simp [hd24, b24_0, h0, c1, c2, c3, (show acc.length < sizeLine by simpa using l0), Item.d]
      rw [List.map_append, List.map_cons, List.append_cons, ← List.map_singleton, ← List.map_append] 
      rw [← g3]
      simp only [turn, b_nm, List.length_cons, List.length_nil, k_bind, eq24, s_scons]
      simp only [List.set_cons_succ, List.set_cons_zero, Nat.reduceAdd, Nat.reduceLT, if_true, k_bind, e1, k_seq, s_scons]
theorem a24 {st : D} (hs : IsSt st) {n : Nat} (hn : 0 < n) (hn2 : n ≤ 8) :
    ∃ st' r, IsSt st' ∧ RowOk r ∧ ∀ i env, env[i]? = some (some (.own st)) → callM (callF fs (exmT exmt) fuel (k + 2)) 24 F24.lend [.own i, .val (.int n)] env = .ok (.val (rowD r)) (env.set i (some (.own st'))) := by
  obtain ⟨env', h, st', acc, z, h1, h2, rfl⟩ := forL_inv (xs := (List.range n).map fun i : Nat => D.int i) (i := 0) (body := turn (mkP fs (exmT exmt) fuel (k + 1) 2) (.nm 3) b24_0)
    (I := fun i env => ∃ st acc z, IsSt st ∧ RowAcc i acc ∧ env = [some (.own st), some (.val (.int n)), some (.own (.lst (acc.map Item.d))), z])
    ⟨st, [], none, hs, ⟨by simp, by simp, noAdj_nil, fun _ => rfl, fun h => absurd h (by decide)⟩, rfl⟩ (by
      rintro j d env hd ⟨st, acc, z, h1, h2, rfl⟩
      rw [List.getElem?_map] at hd
      have hj : j < n := Decidable.by_contra fun z => by
        rw [List.getElem?_eq_none (by rw [List.length_range]; omega)] at hd; simp at hd
      rw [List.getElem?_range hj] at hd
      simp at hd
      subst hd
      rw [Nat.zero_add] at h2 ⊢
      obtain ⟨st', acc', z', g1, g2, g3⟩ := b24 (fuel := fuel) (k := k) (n := some (.val (.int n))) (z := z) h1 h2 (by omega)
      exact ⟨_, .inl g3, st', acc', z', g1, g2, rfl⟩)
  rw [List.length_map, List.length_range, Nat.zero_add] at h2
  refine ⟨st', acc ++ tail3, h1, ⟨acc, n, rfl, h2, hn, hn2⟩, fun i env he => draw_call2 (o2 := some (.val (.int n))) he ?_⟩
  rw [o24]
  have hl : (acc.map Item.d).length + 3 ≤ 1000 := by rw [List.length_map]; have := h2.len; omega
  have hcat : fBin .add (.lst (acc.map Item.d)) (.lst (tail3.map Item.d)) = some (.tmp (.lst (acc.map Item.d ++ tail3.map Item.d))) := fb_catl (by simp [tail3] at hl ⊢; omega)
  simp only [tail3, Item.d, List.map_cons, List.map_nil] at hcat
  simp at h
  simp [F24, k_range (show n ≤ 1000000 by omega), h, hcat, rowD, tail3, Item.d]
end Ev
end
section
set_option maxRecDepth 100000
set_option maxHeartbeats 4000000
namespace Ev
open PySem
variable {fuel k : Nat}
theorem flat_lenc {α β : Type} {f : α → List β} {c : Nat} : ∀ {xs : List α}, (∀ a ∈ xs, (f a).length ≤ c) → (xs.flatMap f).length ≤ xs.length * c
  | [], _ => by simp
  | x :: xs, h => by
    rw [List.flatMap_cons, List.length_append, List.length_cons, Nat.add_mul]
    have := flat_lenc (xs := xs) fun a ha => h a (.tail _ ha)
    have := h x (.head _)
    omega
theorem enum_at : ∀ {ds : List D} {i : Int}, enumD i ds = (List.range ds.length).map fun k : Nat => .tup [.int (i + k), (ds[k]?).getD .non]
  | [], i => rfl
  | d :: ds, i => by
    rw [List.length_cons, List.range_succ_eq_map, List.map_cons, List.map_map]
    show .tup [.int i, d] :: enumD (i + 1) ds = _
    rw [enum_at]
    congr 1
    · simp
    · apply List.map_congr_left
      intro a _
      show D.tup [.int (i + 1 + a), _] = D.tup [.int (i + (a + 1 : Nat)), ((d :: ds)[a + 1]?).getD .non]
      rw [List.getElem?_cons_succ, show i + 1 + (a : Int) = i + ((a + 1 : Nat) : Int) by omega]
theorem enum_range {ds : List D} : enumD 0 ds = (List.range ds.length).map fun k : Nat => .tup [.int k, (ds[k]?).getD .non] := by
  rw [enum_at]; simp
def nmS : Nat → Str
  | 0 => "ab"
  | 1 => "c"
  | _ => "de"
def wdI (x : Int) : Nat → Int
  | 0 => 3
  | 1 => x
  | _ => 4
def partI (x c : Int) (ps : List Nat) (j : Nat) : List Item := match ps[j]? with
  | some p => (if 0 < j then [.pen 2 c 1] else []) ++ [.box (wdI x p)]
  | none => []
def wordI (x c s : Int) (ws : List (List Nat)) (k : Nat) : List Item := match ws[k]? with
  | some ps => (if 0 < k then [.glue 3 s 1] else []) ++ (List.range ps.length).flatMap (partI x c ps)
  | none => []
def madeF (x c s : Int) (ws : List (List Nat)) : List Item := (List.range ws.length).flatMap (wordI x c s ws) ++ tail3
def wordD (ps : List Nat) : D := .tup (ps.map fun p => .str (nmS p))
def wordsD (ws : List (List Nat)) : D := .lst (ws.map wordD)
def dicD (x : Int) : D := .dic false [(.str "ab", .int 3), (.str "c", .int x), (.str "de", .int 4)]
theorem dic_at {x : Int} (p : Nat) : fIdx (dicD x) (.str (nmS p)) = some (.val (.int (wdI x p))) := by
  match p with
  | 0 => rfl
  | 1 => rfl
  | p + 2 => rfl
theorem partI_len {x c : Int} {ps : List Nat} (j : Nat) : (partI x c ps j).length ≤ 2 := by
  unfold partI
  split
  · split <;> simp
  · simp
theorem l15a {x c s : Int} {ps : List Nat} {ds : List D} {a b e g : Option Sl} {u v : Option Sl} (hl : ds.length + 2 * ps.length ≤ 900) :
    ∃ u' v', forL (turn (mkP fs (exmT exmt) fuel k 5) (.tp (.cons (.nm 8) (.cons (.nm 9) .nil))) b15_0) (enumD 0 (ps.map fun p => .str (nmS p))) [a, some (.own (dicD x)), b, some (.val (.int 2)), some (.val (.int c)), some (.own (.lst ds)), e, g, u, v]
      = .ok .next [a, some (.own (dicD x)), b, some (.val (.int 2)), some (.val (.int c)), some (.own (.lst (ds ++ ((List.range ps.length).flatMap (partI x c ps)).map Item.d))), e, g, u', v'] := by
  rw [enum_range, List.length_map, List.map_flatMap]
  obtain ⟨env', h, u', v', rfl⟩ := forL_app (emb := fun k : Nat => .tup [.int k, ((ps.map fun p => D.str (nmS p))[k]?).getD .non]) (f := fun j => (partI x c ps j).map Item.d) (xs := List.range ps.length) (acc := ds) (N := 900)
    (body := turn (mkP fs (exmT exmt) fuel k 5) (.tp (.cons (.nm 8) (.cons (.nm 9) .nil))) b15_0)
    (R := fun acc env => ∃ u v, env = [a, some (.own (dicD x)), b, some (.val (.int 2)), some (.val (.int c)), some (.own (.lst acc)), e, g, u, v]) ⟨u, v, rfl⟩ (by
      have := flat_lenc (f := fun j => (partI x c ps j).map Item.d) (c := 2) (xs := List.range ps.length) (fun a _ => by rw [List.length_map]; exact partI_len a)
      rw [List.length_range] at this; omega) (by
      rintro acc j env hj hl ⟨u, v, rfl⟩
      have hj := List.mem_range.mp hj
      obtain ⟨p, hp⟩ : ∃ p, ps[j]? = some p := ⟨_, List.getElem?_eq_getElem hj⟩
      unfold partI at hl ⊢
      rw [hp] at hl ⊢
      have hn : (ps.map fun p => D.str (nmS p))[j]? = some (.str (nmS p)) := by rw [List.getElem?_map, hp]; rfl
      refine ⟨_, .inl ?_, some (.val (.int j)), some (.val (.str (nmS p))), rfl⟩
      rw [hn]
      have l0 : acc.length + 1 ≤ 900 := by simp at hl; omega
      have l1 := sl_lt (show acc.length < 1000 by omega)
      have l2 := sl_lt (show acc.length + 1 < 1000 by omega)
      by_cases h0 : j = 0
      · subst h0; simp [turn, b15_0, dic_at, l1, Item.d]
      · have h1 : 0 < j := by omega
        have h2 : ((j : Int) != 0) = true := by simp; omega
        simp [turn, b15_0, dic_at, l1, l2, h0, h1, h2, Item.d])
  exact ⟨u', v', h⟩
end Ev
end
section
set_option maxRecDepth 100000
set_option maxHeartbeats 4000000
namespace Ev
open PySem
variable {fuel k : Nat}
/-- words: up to four of up to three parts -/
structure WsOk (ws : List (List Nat)) : Prop where
  len : ws.length ≤ 4
  each : ∀ ps ∈ ws, ps.length ≤ 3
theorem wordI_len {x c s : Int} {ws : List (List Nat)} (h : WsOk ws) (i : Nat) : (wordI x c s ws i).length ≤ 7 := by
  unfold wordI
  split
  · rename_i ps hp
    have h1 := flat_lenc (f := partI x c ps) (c := 2) (xs := List.range ps.length) (fun a _ => partI_len a)
    rw [List.length_range] at h1
    have h2 := h.each ps (List.mem_of_getElem? hp)
    rw [List.length_append]
    split <;> simp only [List.length_cons, List.length_nil] <;> omega
  · simp
theorem made_len {x c s : Int} {ws : List (List Nat)} (h : WsOk ws) : ((List.range ws.length).flatMap (wordI x c s ws)).length ≤ 28 := by
  have h1 := flat_lenc (f := wordI x c s ws) (c := 7) (xs := List.range ws.length) (fun a _ => wordI_len h a)
  rw [List.length_range] at h1
  have := h.len
  omega
theorem l15b {x c s : Int} {ws : List (List Nat)} (h : WsOk ws) {a : Option Sl} {u v w z : Option Sl} :
    ∃ u' v' w' z', forL (turn (mkP fs (exmT exmt) fuel k 5) (.tp (.cons (.nm 6) (.cons (.nm 7) .nil))) b15_1) (enumD 0 (ws.map wordD)) [a, some (.own (dicD x)), some (.val (.tup [.int 3, .int s, .int 1])), some (.val (.int 2)), some (.val (.int c)), some (.own (.lst [])), u, v, w, z]
      = .ok .next [a, some (.own (dicD x)), some (.val (.tup [.int 3, .int s, .int 1])), some (.val (.int 2)), some (.val (.int c)), some (.own (.lst (((List.range ws.length).flatMap (wordI x c s ws)).map Item.d))), u', v', w', z'] := by
  rw [enum_range, List.length_map, List.map_flatMap]
  obtain ⟨env', h, u', v', w', z', rfl⟩ := forL_app (emb := fun k : Nat => .tup [.int k, ((ws.map wordD)[k]?).getD .non]) (f := fun j => (wordI x c s ws j).map Item.d) (xs := List.range ws.length) (acc := []) (N := 100)
    (body := turn (mkP fs (exmT exmt) fuel k 5) (.tp (.cons (.nm 6) (.cons (.nm 7) .nil))) b15_1)
    (R := fun acc env => ∃ u v w z, env = [a, some (.own (dicD x)), some (.val (.tup [.int 3, .int s, .int 1])), some (.val (.int 2)), some (.val (.int c)), some (.own (.lst acc)), u, v, w, z]) ⟨u, v, w, z, rfl⟩ (by
      have := made_len (x := x) (c := c) (s := s) h
      rw [← List.map_flatMap, List.length_map, List.length_nil]; omega) (by
      rintro acc j env hj hl ⟨u, v, w, z, rfl⟩
      have hj := List.mem_range.mp hj
      obtain ⟨ps, hp⟩ : ∃ p, ws[j]? = some p := ⟨_, List.getElem?_eq_getElem hj⟩
      have hps := h.each ps (List.mem_of_getElem? hp)
      unfold wordI at hl ⊢
      rw [hp] at hl ⊢
      have hn : (ws.map wordD)[j]? = some (wordD ps) := by rw [List.getElem?_map, hp]; rfl
      rw [hn]
      have l0 : acc.length ≤ 100 := by omega
      have l1 := sl_lt (show acc.length < 1000 by omega)
      by_cases h0 : j = 0
      · subst h0
        obtain ⟨u', v', hh⟩ := l15a (fuel := fuel) (k := k) (x := x) (c := c) (s := s) (ps := ps) (ds := acc) (a := a) (b := some (.val (.tup [.int 3, .int s, .int 1]))) (e := some (.val (.int 0))) (g := some (.val (wordD ps))) (u := w) (v := z) (by omega)
        refine ⟨[a, some (.own (dicD x)), some (.val (.tup [.int 3, .int s, .int 1])), some (.val (.int 2)), some (.val (.int c)), some (.own (.lst (acc ++ ((List.range ps.length).flatMap (partI x c ps)).map Item.d))), some (.val (.int 0)), some (.val (wordD ps)), u', v'], .inl ?_, some (.val (.int 0)), some (.val (wordD ps)), u', v', by simp⟩
        simp only [wordD] at hh ⊢
        simp [turn, b15_1, hh]
      · have h1 : 0 < j := by omega
        have h2 : ((j : Int) != 0) = true := by simp; omega
        obtain ⟨u', v', hh⟩ := l15a (fuel := fuel) (k := k) (x := x) (c := c) (s := s) (ps := ps) (ds := acc ++ [Item.d (.glue 3 s 1)]) (a := a) (b := some (.val (.tup [.int 3, .int s, .int 1]))) (e := some (.val (.int j))) (g := some (.val (wordD ps))) (u := w) (v := z) (by simp; omega)
        refine ⟨[a, some (.own (dicD x)), some (.val (.tup [.int 3, .int s, .int 1])), some (.val (.int 2)), some (.val (.int c)), some (.own (.lst (acc ++ [Item.d (.glue 3 s 1)] ++ ((List.range ps.length).flatMap (partI x c ps)).map Item.d))), some (.val (.int j)), some (.val (wordD ps)), u', v'], .inl ?_, some (.val (.int j)), some (.val (wordD ps)), u', v', by simp [h1]⟩
        have cat : fBin .add (.tup [.str "glue"]) (.tup [.int 3, .int s, .int 1]) = some (.val (Item.d (.glue 3 s 1))) := fb_cat (by simp)
        simp only [wordD] at hh ⊢
        simp [turn, b15_1, hh, l1, h0, h1, h2, cat])
  refine ⟨u', v', w', z', ?_⟩
  simpa using h
/-- row_of, of an owned list and an owned dict -/
theorem a15 {x c s : Int} {ws : List (List Nat)} (h : WsOk ws) :
    callF fs (exmT exmt) fuel (k + 1) 15 [.own (wordsD ws), .own (dicD x), .val (.tup [.int 3, .int s, .int 1]), .val (.int 2), .val (.int c)] = .ret (.val (rowD (madeF x c s ws))) [some (.val (wordsD ws)), some (.own (dicD x)), some (.val (.tup [.int 3, .int s, .int 1])), some (.val (.int 2)), some (.val (.int c))] := by
  rw [o15]
  obtain ⟨u, v, w, z, hh⟩ := l15b (fuel := fuel) (k := k) (x := x) (c := c) (s := s) h (a := some (.val (wordsD ws))) (u := none) (v := none) (w := none) (z := none)
  have hl : (((List.range ws.length).flatMap (wordI x c s ws)).map Item.d).length + 3 ≤ 1000 := by
    rw [List.length_map]
    have := made_len (x := x) (c := c) (s := s) h
    omega
  have cat : fBin .add (.tup (((List.range ws.length).flatMap (wordI x c s ws)).map Item.d)) (.tup (tail3.map Item.d)) = some (.val (rowD (madeF x c s ws))) := by
    rw [fb_cat (Nat.le_trans hl (by decide)), rowD, madeF, List.map_append]
  simp only [tail3, Item.d, List.map_cons, List.map_nil] at cat
  have mo : fBin .mul (.int 10000) (.int 10) = some (.val (.int 100000)) := fb_mul (mo_l (by decide) (by decide))
  simp only [wordsD] at hh ⊢
  simp [F15, hh, mo, cat]
end Ev
end
section
set_option maxRecDepth 100000
set_option maxHeartbeats 4000000
namespace Ev
open PySem
variable {fuel k : Nat}
/-- a draw, as a natural number -/
theorem drN {st : D} {L : Int} (h : IsSt st) (hl : 0 < L) (hl2 : L < 2 ^ 31) : ∃ (g : Nat) (st' : D), IsSt st' ∧ (g : Int) < L ∧
    ∀ i env, env[i]? = some (some (.own st)) → callM (callF fs (exmT exmt) fuel (k + 1)) 21 F21.lend [.own i, .val (.int L)] env = .ok (.val (.int g)) (env.set i (some (.own st'))) := by
  obtain ⟨g, st', h1, h2, h3, h4⟩ := dr (fuel := fuel) (k := k) h hl hl2
  refine ⟨g.toNat, st', h1, by omega, ?_⟩
  rw [Int.toNat_of_nonneg h2]; exact h4
theorem k_range1 {n : Nat} {env : Env} (h : n ≤ 900) : kR1 (.ok (.val (.int (1 + (n : Int)))) env) = .ok ((List.range (1 + n)).map fun i : Nat => D.int i) env := by
  rw [show (1 : Int) + n = ((1 + n : Nat) : Int) by omega, k_range (by omega)]
theorem pick3 {g : Nat} (h1 : g < 3) : L2.atI [D.str "ab", D.str "c", D.str "de"] (g : Int) = some (.str (nmS g)) := by
  have : g = 0 ∨ g = 1 ∨ g = 2 := by omega
  rcases this with rfl | rfl | rfl <;> rfl
abbrev env32 (st d : D) (w a b c e f : Option Sl) : Env := [some (.own st), some (.own d), w, a, b, c, e, f]
theorem i32 {st d : D} {w a c e f : Option Sl} (hs : IsSt st) {n : Nat} (hn : n ≤ 900) : ∃ (st' : D) (ps : List Nat), IsSt st' ∧ ps.length = n ∧
    lcL (cTurn (mkP fs (exmT exmt) fuel (k + 1) 1) e32_0 (.nm 4) .nil [4]) ((List.range n).map fun i : Nat => D.int i) [] (env32 st d w a none c e f)
    = .ok (ps.map fun p => .str (nmS p)) (env32 st' d w a none c e f) := by
  obtain ⟨ys, env', h, ⟨st', h1, rfl⟩, h2, h3⟩ := lcL_ex (emb := fun i : Nat => D.int i) (g := fun p => D.str (nmS p)) (Q := fun _ => True) (xs := List.range n) (acc := []) (body := cTurn (mkP fs (exmT exmt) fuel (k + 1) 1) e32_0 (.nm 4) .nil [4])
    (I := fun env => ∃ st, IsSt st ∧ env = env32 st d w a none c e f) ⟨st, hs, rfl⟩ (by
      rintro j env hj ⟨st, hs, rfl⟩
      obtain ⟨g, st1, h1, b1, c1⟩ := drN (fuel := fuel) (k := k) hs (L := 3) (by decide) (by decide)
      refine ⟨g, env32 st1 d w a none c e f, ?_, ⟨st1, h1, rfl⟩, trivial⟩
      rw [cTurn_some rfl]
      simp [e32_0, c1, pick3 (show g < 3 by omega)]) (by simp; omega)
  rw [List.length_range] at h2
  exact ⟨st', ys, h1, h2, by simpa using h⟩
theorem w32 {st d : D} (hs : IsSt st) : ∃ st' ws, IsSt st' ∧ WsOk ws ∧
    evA (mkP fs (exmT exmt) fuel (k + 1) 1) (.lc e32_1 (.nm 3) (.rng1 (.bin .add (.cst (.int 1)) (.call 21 (.cons (.var 0) (.cons (.cst (.int 4)) .nil))))) .nil [3]) (env32 st d none none none none none none)
    = .ok (.tmp (wordsD ws)) (env32 st' d none none none none none none) := by
  obtain ⟨n, st1, h1, b1, c1⟩ := drN (fuel := fuel) (k := k) hs (L := 4) (by decide) (by decide)
  obtain ⟨ws, env', h, ⟨st', h1, rfl⟩, h2, h3⟩ := lcL_ex (emb := fun i : Nat => D.int i) (g := wordD) (Q := fun ps => ps.length ≤ 3) (xs := List.range (1 + n)) (acc := []) (body := cTurn (mkP fs (exmT exmt) fuel (k + 1) 1) e32_1 (.nm 3) .nil [3])
    (I := fun env => ∃ st, IsSt st ∧ env = env32 st d none none none none none none) ⟨st1, h1, rfl⟩ (by
      rintro j env hj ⟨st, hs, rfl⟩
      obtain ⟨m, st2, h2, b2, c2⟩ := drN (fuel := fuel) (k := k) hs (L := 3) (by decide) (by decide)
      obtain ⟨st3, ps, h3, hp, hh⟩ := i32 (fuel := fuel) (k := k) (d := d) (w := none) (a := some (.val (.int j))) (c := none) (e := none) (f := none) h2 (n := 1 + m) (by omega)
      refine ⟨ps, env32 st3 d none none none none none none, ?_, ⟨st3, h3, rfl⟩, by omega⟩
      rw [cTurn_some rfl]
      simp [e32_1, c2, k_range1 (show m ≤ 900 by omega), hh, wordD]) (by simp; omega)
  refine ⟨st', ws, h1, ⟨by rw [h2, List.length_range]; omega, h3⟩, ?_⟩
  simp at h
  simp [c1, k_range1 (show n ≤ 900 by omega), h, wordsD]
end Ev
end
section
set_option maxRecDepth 100000
set_option maxHeartbeats 4000000
namespace Ev
open PySem
variable {fuel k : Nat}
theorem at_n {α β : Type} {xs : List α} {f : α → β} {i : Nat} {x : α} (h : xs[i]? = some x) : L2.atI (xs.map f) (i : Int) = some (f x) := atI_lit (by rw [List.getElem?_map, h]; rfl)
theorem l32a {P : Par} {x c s : Int} {ws : List (List Nat)} {i : Nat} {ps : List Nat} (hp : ws[i]? = some ps) {ds : List D} {a u : Option Sl} (hl : ds.length + 2 * ps.length ≤ 900) :
    ∃ u', forL (turn P (.nm 4) b32_2) ((List.range ps.length).map fun i : Nat => D.int i) [a, some (.own (dicD x)), some (.own (wordsD ws)), some (.val (.int i)), u, some (.val (.tup [.int 3, .int s, .int 1])), some (.val (.int c)), some (.own (.lst ds))]
      = .ok .next [a, some (.own (dicD x)), some (.own (wordsD ws)), some (.val (.int i)), u', some (.val (.tup [.int 3, .int s, .int 1])), some (.val (.int c)), some (.own (.lst (ds ++ ((List.range ps.length).flatMap (partI x c ps)).map Item.d)))] := by
  rw [List.map_flatMap]
  obtain ⟨env', h, u', rfl⟩ := forL_app (emb := fun k : Nat => .int k) (f := fun j => (partI x c ps j).map Item.d) (xs := List.range ps.length) (acc := ds) (N := 900)
    (body := turn P (.nm 4) b32_2)
    (R := fun acc env => ∃ u, env = [a, some (.own (dicD x)), some (.own (wordsD ws)), some (.val (.int i)), u, some (.val (.tup [.int 3, .int s, .int 1])), some (.val (.int c)), some (.own (.lst acc))]) ⟨u, rfl⟩ (by
      have := flat_lenc (f := fun j => (partI x c ps j).map Item.d) (c := 2) (xs := List.range ps.length) (fun a _ => by rw [List.length_map]; exact partI_len a)
      rw [List.length_range] at this; omega) (by
      rintro acc j env hj hl ⟨u, rfl⟩
      have hj := List.mem_range.mp hj
      obtain ⟨p, hq⟩ : ∃ p, ps[j]? = some p := ⟨_, List.getElem?_eq_getElem hj⟩
      unfold partI at hl ⊢
      rw [hq] at hl ⊢
      have h1 := at_n (f := wordD) hp
      have h2 := at_n (f := fun p => D.str (nmS p)) hq
      refine ⟨_, .inl ?_, some (.val (.int j)), rfl⟩
      have l0 : acc.length + 1 ≤ 900 := by simp at hl; omega
      have l1 := sl_lt (show acc.length < 1000 by omega)
      have l2 := sl_lt (show acc.length + 1 < 1000 by omega)
      simp only [wordD] at h1
      by_cases h0 : j = 0
      · subst h0; simp [turn, b32_2, dic_at, l1, Item.d, wordsD, wordD, h1, h2] at h2 ⊢
      · have h3 : 0 < j := by omega
        simp [turn, b32_2, dic_at, l1, l2, h0, h3, Item.d, wordsD, wordD, h1, h2])
  exact ⟨u', h⟩
theorem l32b {P : Par} {x c s : Int} {ws : List (List Nat)} (h : WsOk ws) {a u v : Option Sl} :
    ∃ u' v', forL (turn P (.nm 3) b32_3) ((List.range ws.length).map fun i : Nat => D.int i) [a, some (.own (dicD x)), some (.own (wordsD ws)), u, v, some (.val (.tup [.int 3, .int s, .int 1])), some (.val (.int c)), some (.own (.lst []))]
      = .ok .next [a, some (.own (dicD x)), some (.own (wordsD ws)), u', v', some (.val (.tup [.int 3, .int s, .int 1])), some (.val (.int c)), some (.own (.lst (((List.range ws.length).flatMap (wordI x c s ws)).map Item.d)))] := by
  rw [List.map_flatMap]
  obtain ⟨env', h, u', v', rfl⟩ := forL_app (emb := fun k : Nat => .int k) (f := fun j => (wordI x c s ws j).map Item.d) (xs := List.range ws.length) (acc := []) (N := 100)
    (body := turn P (.nm 3) b32_3)
    (R := fun acc env => ∃ u v, env = [a, some (.own (dicD x)), some (.own (wordsD ws)), u, v, some (.val (.tup [.int 3, .int s, .int 1])), some (.val (.int c)), some (.own (.lst acc))]) ⟨u, v, rfl⟩ (by
      have := made_len (x := x) (c := c) (s := s) h
      rw [← List.map_flatMap, List.length_map, List.length_nil]; omega) (by
      rintro acc j env hj hl ⟨u, v, rfl⟩
      have hj := List.mem_range.mp hj
      obtain ⟨ps, hp⟩ : ∃ p, ws[j]? = some p := ⟨_, List.getElem?_eq_getElem hj⟩
      have hps := h.each ps (List.mem_of_getElem? hp)
      have h1 := at_n (f := wordD) hp
      unfold wordI at hl ⊢
      rw [hp] at hl ⊢
      have l0 : acc.length ≤ 100 := by omega
      have l1 := sl_lt (show acc.length < 1000 by omega)
      have hr := fun env => k_range (n := ps.length) (env := env) (by omega)
      by_cases h0 : j = 0
      · subst h0
        obtain ⟨v', hh⟩ := l32a (P := P) (x := x) (c := c) (s := s) hp (ds := acc) (a := a) (u := v) (by omega)
        refine ⟨_, .inl ?_, some (.val (.int (0 : Nat))), v', rfl⟩
        simp only [wordsD, wordD] at hh h1 ⊢
        simp at hh h1
        simp [turn, b32_3, h1, hr, hh]
      · have h3 : 0 < j := by omega
        obtain ⟨v', hh⟩ := l32a (P := P) (x := x) (c := c) (s := s) hp (ds := acc ++ [Item.d (.glue 3 s 1)]) (a := a) (u := v) (by simp; omega)
        refine ⟨_, .inl ?_, some (.val (.int j)), v', rfl⟩
        have cat : fBin .add (.tup [.str "glue"]) (.tup [.int 3, .int s, .int 1]) = some (.val (Item.d (.glue 3 s 1))) := fb_cat (by simp)
        simp only [wordsD, wordD] at hh h1 ⊢
        simp at hh
        simp [turn, b32_3, h1, hr, hh, h3, l1, cat])
  exact ⟨u', v', by simpa using h⟩
end Ev
end
section
set_option maxRecDepth 100000
set_option maxHeartbeats 4000000
namespace Ev
open PySem
variable {fuel k : Nat}
theorem item_q (x : Item) : Q 1 x.d := by
  rw [d_eq]
  refine qd_tup fun y hy => ?_
  rcases List.mem_cons.mp hy with rfl | hy
  · exact qd_str (by cases x <;> exact strOk_of _)
  · obtain ⟨i, _, rfl⟩ := List.mem_map.mp hy; exact qd_int i
theorem row_q (r : List Item) : Q 2 (rowD r) := qd_tup fun y hy => by obtain ⟨i, _, rfl⟩ := List.mem_map.mp hy; exact item_q i
theorem Q.refl {n : Nat} {d : D} (h : Q n d) (hn : n ≤ 64) : D.eq? d d = some true := eq_self (h.eqOk hn) (SeqAt.eqv_refl _ h.1)
theorem kd {x : Int} {env : Env} : kDsp (.ok [.str "ab", .int 3, .str "c", .int x, .str "de", .int 4] env) = .ok (.tmp (dicD x)) env := k_dsp (ps := [(.str "ab", .int 3), (.str "c", .int x), (.str "de", .int 4)]) rfl (by simp)
theorem a32 {st : D} (hs : IsSt st) : ∃ st' outs, IsSt st' ∧ callF fs (exmT exmt) fuel (k + 2) 32 [.own st] = .ret (.val (.bl true)) (some (.own st') :: outs) := by
  rw [o32]
  obtain ⟨g1, st1, h1, b1, c1⟩ := drN (fuel := fuel) (k := k) hs (L := 5) (by decide) (by decide)
  obtain ⟨st2, ws, h2, hw, w⟩ := w32 (fuel := fuel) (k := k) (d := dicD (1 + g1)) h1
  obtain ⟨g3, st3, h3, b3, c3⟩ := drN (fuel := fuel) (k := k) h2 (L := 3) (by decide) (by decide)
  obtain ⟨g4, st4, h4, b4, c4⟩ := drN (fuel := fuel) (k := k) h3 (L := 100) (by decide) (by decide)
  obtain ⟨u, v, lp⟩ := l32b (P := mkP fs (exmT exmt) fuel (k + 1) 1) (x := 1 + g1) (c := g4) (s := 1 + g3) hw (a := some (.own st4)) (u := none) (v := none)
  have ca := a15 (fuel := fuel) (k := k) (x := 1 + g1) (c := g4) (s := 1 + g3) hw
  refine ⟨st4, [], h4, ?_⟩
  have hl : (((List.range ws.length).flatMap (wordI (1 + g1) g4 (1 + g3) ws)).map Item.d).length + (tail3.map Item.d).length ≤ 1000 := by
    have e3 : (tail3.map Item.d).length = 3 := rfl
    rw [List.length_map, e3]
    have := made_len (x := 1 + g1) (c := g4) (s := 1 + g3) hw
    omega
  have cat := fb_catl (Nat.le_trans hl (by decide))
  simp only [tail3, Item.d, List.map_cons, List.map_nil] at cat
  have hr := fun env => k_range (n := ws.length) (env := env) (by have := hw.len; omega)
  have eqr := (row_q (madeF (1 + g1) g4 (1 + g3) ws)).refl (by decide)
  have ec : D.tup (((List.range ws.length).flatMap (wordI (1 + g1) g4 (1 + g3) ws)).map Item.d ++ [.tup [.str "penalty", .int 0, .int 10000, .int 0], .tup [.str "glue", .int 0, .int 100000, .int 0], .tup [.str "penalty", .int 0, .int (-10000), .int 1]]) = rowD (madeF (1 + g1) g4 (1 + g3) ws) := by
    rw [rowD, madeF, List.map_append]; rfl
  have cm : ∀ env, env[2]? = some (some (.own (wordsD ws))) → env[1]? = some (some (.own (dicD (1 + g1)))) → callM (callF fs (exmT exmt) fuel (k + 1)) 15 F15.lend [.own 2, .own 1, .val (.tup [.int 3, .int (1 + g3), .int 1]), .val (.int 2), .val (.int g4)] env = .ok (.val (rowD (madeF (1 + g1) g4 (1 + g3) ws))) ((env.set 2 (some (.val (wordsD ws)))).set 1 (some (.own (dicD (1 + g1))))) := fun env e1 e2 => by
    unfold callM
    simp [F15, freezeAll, paramsOf, e1, e2, ca, lentOf, backOuts]
  simp only [wordsD] at lp cm
  simp [F32, c1, kd, -s_lc, w, wordsD, c3, c4, hr, lp, cat, ec, cm, eqr]
end Ev
end
section
set_option maxRecDepth 100000
set_option maxHeartbeats 4000000
namespace Ev
open PySem
variable {fuel k : Nat}
def oddsD : List D := [.tup [.str "box"], .tup [.str "box", .int (-1)], .tup [.str "glue", .int 1, .int 1], .tup [.str "penalty", .int 0, .int 10001, .int 0], .tup [.str "penalty", .int 0, .int 0, .int 2], .lst [.str "box", .int 1], .non, .tup [.str "bar", .int 1], .tup [.str "glue", .int 1, .int 1, .bl true]]
@[simp] theorem q_rb : D.eq? (.str "bar") (.str "box") = some false := by rw [eqStr (by decide +kernel)]; decide +kernel
@[simp] theorem q_rg : D.eq? (.str "bar") (.str "glue") = some false := by rw [eqStr (by decide +kernel)]; decide +kernel
@[simp] theorem q_rp : D.eq? (.str "bar") (.str "penalty") = some false := by rw [eqStr (by decide +kernel)]; decide +kernel
theorem odd_run {d : D} (h : d ∈ oddsD) : An fuel (k + 2) 3 [d] (.bl false) := by
  simp only [oddsD, List.mem_cons, List.not_mem_nil, or_false] at h
  simp only [An, Ans, List.map]
  rw [o3]
  rcases h with rfl | rfl | rfl | rfl | rfl | rfl | rfl | rfl | rfl
  · simp [F3]
  · simp [F3, a0l.c3]
  · simp [F3]
  · simp [F3, a0l.c3, a0b.c3]
  · simp [F3, a0l.c3, a0b.c3]
  · simp [F3]
  · simp [F3]
  · simp [F3]
  · simp [F3, cutD, HT.sIx]
    have h : ∀ P env, env = [some (Sl.val (.tup [.str "glue", .int 1, .int 1, .bl true])), none] → P = mkP fs (exmT exmt) fuel (k + 1) 1 → gxL true (gTurn P (.call 0 (.cons (.var 1) (.cons (.cst (.int 0)) (.cons (.cst .non) .nil)))) (.nm 1) .nil [1]) [.int 1, .int 1, .bl true] env = .ok false env := by
      rintro P env rfl rfl
      unfold gxL
      rw [gTurn_some rfl]
      simp [a0l.c3]
      unfold gxL
      rw [gTurn_some rfl]
      simp [a0l.c3]
      unfold gxL
      rw [gTurn_some rfl]
      simp [a0t.c3]
    rw [h _ _ rfl rfl]
    simp
end Ev
end
section
set_option maxRecDepth 100000
set_option maxHeartbeats 4000000
namespace Ev
open PySem
variable {fuel k : Nat}
/-- numbers of a line's boxes and glue, added -/
def numL (p : Int × Int) : List Item → Int
  | [] => 0
  | x :: xs => (if x.isPen then 0 else numOf p x) + numL p xs
def widL : List Item → Int
  | [] => 0
  | x :: xs => (if x.isPen then 0 else x.wid) + widL xs
def strL : List Item → Int
  | [] => 0
  | x :: xs => x.str + strL xs
def shrL : List Item → Int
  | [] => 0
  | x :: xs => x.shr + shrL xs
theorem fold_L : ∀ {xs : List Item} {s : Int × Int × Int}, xs.foldl addI s = (s.1 + widL xs, s.2.1 + strL xs, s.2.2 + shrL xs)
  | [], s => by simp [widL, strL, shrL]
  | x :: xs, s => by
    rw [List.foldl_cons, fold_L]
    cases x <;> simp [addI, Item.isPen, Item.wid, Item.str, Item.shr, widL, strL, shrL, Int.add_assoc]
theorem num_pos {p : Int × Int} (h : 0 < p.1) : ∀ xs : List Item, numL p xs = widL xs * p.2 + strL xs * p.1
  | [] => by simp [numL, widL, strL]
  | x :: xs => by
    rw [numL, widL, strL, num_pos h xs]
    cases x <;> simp [Item.isPen, numOf, roomOf, h, Item.wid, Item.str] <;> grind
theorem num_neg {p : Int × Int} (h : ¬ 0 < p.1) : ∀ xs : List Item, numL p xs = widL xs * p.2 + shrL xs * p.1
  | [] => by simp [numL, widL, shrL]
  | x :: xs => by
    rw [numL, widL, shrL, num_neg h xs]
    cases x <;> simp [Item.isPen, numOf, roomOf, h, Item.wid, Item.shr] <;> grind
def penW : Option Item → Int
  | some (.pen v _ _) => v
  | _ => 0
theorem sizes_L {r : List Item} {f e : Nat} : sizesF r f e = (widL (lineOf r f e) + penW r[e]?, strL (lineOf r f e), shrL (lineOf r f e)) := by
  unfold sizesF
  rw [fold_L]
  cases h : r[e]? with
  | none => simp [penW]
  | some x => cases x <;> simp [penW]
theorem frac_pos1 {a b : Int} (hb : 0 < b) (ha : 0 < a) : 0 < (frac a b).1 := by
  have h1 := frac_cross (a := a) hb
  have h2 := frac_pos (a := a) hb
  have h3 : 0 < (frac a b).1 * b := by rw [h1]; exact Int.mul_pos ha h2
  exact Int.pos_of_mul_pos_left h3 hb
theorem frac_neg1 {a b : Int} (hb : 0 < b) (ha : a < 0) : ¬ 0 < (frac a b).1 := by
  intro h
  have h1 := frac_cross (a := a) hb
  have h2 := frac_pos (a := a) hb
  have h3 : 0 < (frac a b).1 * b := Int.mul_pos h hb
  have h4 : a * (frac a b).2 < 0 := Int.mul_neg_of_neg_of_pos ha h2
  omega
/-- the widths together fill the line -/
theorem total_ok {r : List Item} {j e : Nat} {m : Int} {p : Int × Int} (ok : SzOk (sizesF r j e)) (h : ratioF (sizesF r j e) m = some p) : frac (numL p (lineOf r j e)) p.2 = (m - penW r[e]?, 1) := by
  have hq := ratio_pos ok h
  have key : numL p (lineOf r j e) = (m - penW r[e]?) * p.2 := by
    rw [sizes_L] at h
    unfold ratioF at h
    dsimp only at h
    by_cases g0 : m - (widL (lineOf r j e) + penW r[e]?) = 0
    · rw [if_pos g0] at h
      cases h
      rw [num_neg (by simp)]
      simp; omega
    · rw [if_neg g0] at h
      by_cases g1 : 0 < m - (widL (lineOf r j e) + penW r[e]?)
      · rw [if_pos g1] at h
        by_cases g2 : 0 < strL (lineOf r j e)
        · rw [if_pos g2] at h
          cases h
          rw [num_pos (frac_pos1 g2 g1)]
          have := frac_cross (a := m - (widL (lineOf r j e) + penW r[e]?)) g2
          grind
        · rw [if_neg g2] at h; cases h
      · rw [if_neg g1] at h
        by_cases g2 : 0 < shrL (lineOf r j e)
        · rw [if_pos g2] at h
          cases h
          rw [num_neg (frac_neg1 g2 (by omega))]
          have := frac_cross (a := m - (widL (lineOf r j e) + penW r[e]?)) g2
          grind
        · rw [if_neg g2] at h; cases h
  rw [key, frac_one hq.1]
theorem line_snoc {r : List Item} {f e : Nat} {x : Item} (hf : f ≤ e) (hx : r[e]? = some x) : lineOf r f (e + 1) = lineOf r f e ++ [x] := by
  unfold lineOf
  rw [show e + 1 - f = (e - f) + 1 by omega, List.take_add_one, List.getElem?_drop, show f + (e - f) = e by omega, hx]; rfl
theorem numL_app {p : Int × Int} : ∀ {xs ys : List Item}, numL p (xs ++ ys) = numL p xs + numL p ys
  | [], ys => by simp [numL]
  | x :: xs, ys => by rw [List.cons_append, numL, numL, numL_app]; omega
theorem frac_add {N n q : Int} (hq : 0 < q) : frac ((frac N q).1 * (frac n q).2 + (frac n q).1 * (frac N q).2) ((frac N q).2 * (frac n q).2) = frac (N + n) q := by
  have h1 := frac_cross (a := N) hq
  have h2 := frac_cross (a := n) hq
  have h3 := frac_pos (a := N) hq
  have h4 := frac_pos (a := n) hq
  refine frac_uniq (Int.mul_pos h3 h4) hq ?_
  generalize (frac N q).1 = a at *
  generalize (frac N q).2 = b at *
  generalize (frac n q).1 = c at *
  generalize (frac n q).2 = d at *
  grind
/-- small items: the sizes are small -/
theorem sums_ok : ∀ {xs : List Item}, (∀ x ∈ xs, x.small) → (0 ≤ strL xs ∧ strL xs ≤ xs.length * 100000) ∧ (0 ≤ shrL xs ∧ shrL xs ≤ xs.length * 100000)
  | [], _ => by simp [strL, shrL]
  | x :: xs, h => by
    have h1 := sums_ok fun y hy => h y (.tail _ hy)
    have h2 := h x (.head _)
    rw [strL, shrL, List.length_cons]
    cases x <;> simp only [Item.small] at h2 <;> simp only [Item.str, Item.shr] <;> omega
theorem sz_ok {r : List Item} {f e : Nat} (h : ∀ x ∈ r, x.small) (hr : r.length ≤ 900) : SzOk (sizesF r f e) := by
  have hm : ∀ x ∈ lineOf r f e, x.small := fun x hx => h x (List.mem_of_mem_drop (List.mem_of_mem_take hx))
  have h1 := sums_ok hm
  have h2 : (lineOf r f e).length ≤ 900 := by unfold lineOf; rw [List.length_take, List.length_drop]; omega
  rw [sizes_L]
  constructor <;> dsimp only <;> omega
theorem go_le {r : List Item} : ∀ {n j : Nat}, goF r n j ≤ j + n
  | 0, j => by simp [goF]
  | n + 1, j => by
    unfold goF
    split
    · split
      · omega
      · have := go_le (r := r) (n := n) (j := j + 1); omega
    · omega
end Ev
end
section
set_option maxRecDepth 100000
set_option maxHeartbeats 4000000
namespace Ev
open PySem
variable {fuel k : Nat}
section
variable {s0 s1 s2 s3 s5 s6 s7 s8 s9 s11 s16 s17 s18 s19 s20 s21 s22 s23 s24 s25 : Option Sl}
/-- the law's slots in its loop -/
def eL (s0 s1 s3 s5 s6 s7 s8 s9 s11 s16 s17 s18 s19 s20 s21 s22 s23 s24 s25 : Option Sl) (r : List Item) (p : Int × Int) (acc : List D) (t : Int × Int) (kk room one : Option Sl) : Env :=
  [s0, s1, some (.val (rowD r)), s3, kk, s5, s6, s7, s8, s9, some (.val (prD p)), s11, some (.own (.lst acc)), some (.val (prD t)), room, one, s16, s17, s18, s19, s20, s21, s22, s23, s24, s25]
theorem sum_step {N n q : Int} (hq : 0 < q) (hq2 : q < 2 ^ 31) : (∀ i, mulOk i (frac n q).2 = true) ∧ (∀ i, mulOk i (frac N q).2 = true) ∧ 0 < (frac N q).2 * (frac n q).2 ∧ (frac N q).2 * (frac n q).2 < 2 ^ 62 := by
  have h3 := frac_pos (a := N) hq
  have h4 := frac_pos (a := n) hq
  have h5 := frac_le (a := N) hq
  have h6 := frac_le (a := n) hq
  have h7 : (frac N q).2 * (frac n q).2 ≤ (2 ^ 31 - 1) * (2 ^ 31 - 1) := Int.mul_le_mul (by omega) (by omega) (by omega) (by decide)
  exact ⟨fun i => mo_r (by omega) (by omega), fun i => mo_r (by omega) (by omega), Int.mul_pos h3 h4, by omega⟩
theorem b33 {r : List Item} {p : Int × Int} {acc : List D} {N : Int} {i : Nat} {x : Item} (hx : r[i]? = some x) (hs : x.small) (hq : 0 < p.2) (hq2 : p.2 < 2 ^ 31) (hl : acc.length ≤ 900) (hf : 2 ^ 62 ≤ fuel) {kk room one : Option Sl} :
    ∃ kk' room' one', turn (mkP fs (exmT exmt) fuel (k + 2) 1) (.nm 4) b33_6 (.int i) (eL s0 s1 s3 s5 s6 s7 s8 s9 s11 s16 s17 s18 s19 s20 s21 s22 s23 s24 s25 r p acc (frac N p.2) kk room one)
      = .ok .next (eL s0 s1 s3 s5 s6 s7 s8 s9 s11 s16 s17 s18 s19 s20 s21 s22 s23 s24 s25 r p (acc ++ widE r p i) (frac (if x.isPen then N else N + numOf p x) p.2) kk' room' one') := by
  have ea := at_row hx
  have hl := sl_lt (show acc.length < 1000 by omega)
  unfold widE
  rw [hx]
  cases x with
  | pen w c f =>
    refine ⟨some (.val (.int i)), room, one, ?_⟩
    simp [eL, turn, b33_6, rowD, ea, Item.d, Item.isPen]
  | box w =>
    refine ⟨some (.val (.int i)), some (.val (.int 0)), some (.val (prD (frac (numOf p (.box w)) p.2))), ?_⟩
    have m1 := mo_wid hs
    have m2 : ∀ i, mulOk 0 i = true := fun i => mo_l (by decide) (by decide)
    have c := fun e => (a23 (fuel := fuel) (k := k) (a := numOf p (.box w)) hq (by omega) hf).c2 (lend := F23.lend) (env := e)
    have fa := frac_add (N := N) (n := numOf p (.box w)) hq
    obtain ⟨g1, g2, g3, g4⟩ := sum_step (N := N) (n := numOf p (.box w)) hq hq2
    have c2 := fun e => (a23 (fuel := fuel) (k := k) (a := (frac N p.2).1 * (frac (numOf p (.box w)) p.2).2 + (frac (numOf p (.box w)) p.2).1 * (frac N p.2).2) g3 g4 hf).c2 (lend := F23.lend) (env := e)
    rw [fa] at c2
    have e1 : w * p.2 = numOf p (.box w) := by simp [numOf, roomOf, Item.wid]
    have m1 : ∀ i, mulOk w i = true := m1
    generalize frac N p.2 = a at *
    rw [← e1] at c c2 g1 ⊢
    generalize hb : frac (w * p.2) p.2 = b at c c2 g1 ⊢
    simp only [prD] at c c2
    simp [eL, turn, b33_6, rowD, prD, ea, Item.d, Item.isPen, fb_mul, m1, m2, g1, g2, c, c2, hl]
    rw [← hb, e1]; exact ⟨rfl, rfl⟩
  | glue w s q =>
    refine ⟨some (.val (.int i)), some (.val (.int (roomOf p (.glue w s q)))), some (.val (prD (frac (numOf p (.glue w s q)) p.2))), ?_⟩
    have m1 := mo_wid hs
    have m2 := mo_room (p := p) hs
    have c := fun e => (a23 (fuel := fuel) (k := k) (a := numOf p (.glue w s q)) hq (by omega) hf).c2 (lend := F23.lend) (env := e)
    have fa := frac_add (N := N) (n := numOf p (.glue w s q)) hq
    obtain ⟨g1, g2, g3, g4⟩ := sum_step (N := N) (n := numOf p (.glue w s q)) hq hq2
    have c2 := fun e => (a23 (fuel := fuel) (k := k) (a := (frac N p.2).1 * (frac (numOf p (.glue w s q)) p.2).2 + (frac (numOf p (.glue w s q)) p.2).1 * (frac N p.2).2) g3 g4 hf).c2 (lend := F23.lend) (env := e)
    rw [fa] at c2
    have m1 : ∀ i, mulOk w i = true := m1
    generalize frac N p.2 = a at *
    have e1 : ∀ z, roomOf p (.glue w s q) = z → w * p.2 + z * p.1 = numOf p (.glue w s q) := fun z h => by rw [← h]; rfl
    by_cases hp : 0 < p.1
    · have e0 : roomOf p (.glue w s q) = s := by simp [roomOf, hp]
      have e1 := e1 _ e0
      rw [e0] at m2 ⊢
      rw [← e1] at c c2 g1 ⊢
      generalize hb : frac (w * p.2 + s * p.1) p.2 = b at c c2 g1 ⊢
      simp only [prD] at c c2
      simp [eL, turn, b33_6, rowD, prD, ea, Item.d, Item.isPen, fb_mul, m1, m2, g1, g2, c, c2, hl, hp]
      rw [← hb, e1]; exact ⟨rfl, rfl⟩
    · have e0 : roomOf p (.glue w s q) = q := by simp [roomOf, hp]
      have e1 := e1 _ e0
      rw [e0] at m2 ⊢
      rw [← e1] at c c2 g1 ⊢
      generalize hb : frac (w * p.2 + q * p.1) p.2 = b at c c2 g1 ⊢
      simp only [prD] at c c2
      simp [eL, turn, b33_6, rowD, prD, ea, Item.d, Item.isPen, fb_mul, m1, m2, g1, g2, c, c2, hl, hp]
      rw [← hb, e1]; exact ⟨rfl, rfl⟩
theorem l33 {r : List Item} {p : Int × Int} {f e : Nat} (sm : ∀ x ∈ r, x.small) (hq : 0 < p.2) (hq2 : p.2 < 2 ^ 31) (he : e ≤ r.length) (hr : r.length ≤ 900) (hf : 2 ^ 62 ≤ fuel) {kk room one : Option Sl} :
    ∃ kk' room' one', forL (turn (mkP fs (exmT exmt) fuel (k + 2) 1) (.nm 4) b33_6) ((idxs f e).map fun i : Nat => D.int i) (eL s0 s1 s3 s5 s6 s7 s8 s9 s11 s16 s17 s18 s19 s20 s21 s22 s23 s24 s25 r p [] (0, 1) kk room one)
      = .ok .next (eL s0 s1 s3 s5 s6 s7 s8 s9 s11 s16 s17 s18 s19 s20 s21 s22 s23 s24 s25 r p (widF r p f e) (frac (numL p (lineOf r f e)) p.2) kk' room' one') := by
  have h01 : ((0, 1) : Int × Int) = frac 0 p.2 := by rw [← frac_one (w := 0) hq]; simp
  rw [h01]
  obtain ⟨env', h, kk', room', one', hl, rfl⟩ := forL_foldI (emb := fun i : Nat => D.int i) (xs := idxs f e) (i := 0) (s := ([] : List D)) (f := fun acc i => acc ++ widE r p i) (body := turn (mkP fs (exmT exmt) fuel (k + 2) 1) (.nm 4) b33_6)
    (R := fun j acc env => ∃ kk room one, acc.length ≤ j ∧ env = eL s0 s1 s3 s5 s6 s7 s8 s9 s11 s16 s17 s18 s19 s20 s21 s22 s23 s24 s25 r p acc (frac (numL p (lineOf r f (f + j))) p.2) kk room one)
    ⟨kk, room, one, Nat.le_refl _, by rw [show lineOf r f (f + 0) = [] by simp [lineOf]]⟩ (by
      rintro j acc i env hi ⟨kk, room, one, hl, rfl⟩
      obtain ⟨rfl, hie⟩ := get_idxs hi
      rw [Nat.zero_add] at hl ⊢
      obtain ⟨x, hx⟩ : ∃ x, r[f + j]? = some x := ⟨_, List.getElem?_eq_getElem (by omega)⟩
      obtain ⟨a, b, c, hh⟩ := b33 (fuel := fuel) (k := k) (s0 := s0) (s1 := s1) (s3 := s3) (s5 := s5) (s6 := s6) (s7 := s7) (s8 := s8) (s9 := s9) (s11 := s11) (s16 := s16) (s17 := s17) (s18 := s18) (s19 := s19) (s20 := s20) (s21 := s21) (s22 := s22) (s23 := s23) (s24 := s24) (s25 := s25) (acc := acc) (N := numL p (lineOf r f (f + j))) (kk := kk) (room := room) (one := one) hx (sm x (List.mem_of_getElem? hx)) hq hq2 (by omega) hf
      refine ⟨_, .inl hh, a, b, c, ?_, ?_⟩
      · rw [List.length_append]; have := widE_len (r := r) (p := p) (f + j); omega
      · rw [show f + (j + 1) = f + j + 1 by omega, line_snoc (by omega) hx, numL_app]
        congr 2
        cases hpen : x.isPen <;> simp [numL, hpen])
  refine ⟨kk', room', one', ?_⟩
  have h0 : numL p [] = 0 := rfl
  rw [h0] at h
  rw [h, len_idxs, Nat.zero_add]
  have e1 : (idxs f e).foldl (fun acc i => acc ++ widE r p i) [] = widF r p f e := by
    unfold widF
    have : ∀ (xs : List Nat) (acc : List D), xs.foldl (fun acc i => acc ++ widE r p i) acc = acc ++ xs.flatMap (widE r p) := by
      intro xs
      induction xs with
      | nil => intro acc; simp
      | cons x xs ih => intro acc; rw [List.foldl_cons, ih, List.flatMap_cons, List.append_assoc]
    rw [this]; rfl
  rw [e1]
  by_cases hfe : f ≤ e
  · rw [show f + (e - f) = e by omega]
  · have e2 : lineOf r f (f + (e - f)) = lineOf r f e := by unfold lineOf; rw [show f + (e - f) - f = e - f by omega]
    rw [e2]
end
end Ev
end
section
set_option maxRecDepth 100000
set_option maxHeartbeats 4000000
namespace Ev
open PySem
variable {fuel k : Nat}
/-- what a drawn row is -/
structure RowF (r : List Item) : Prop where
  len : r.length ≤ 35
  sm : ∀ x ∈ r, x.small
  na : NoAdj r
  box : ∃ w ws, (r.filter fun x => x.isBox).map Item.wid = w :: ws ∧ 0 < w
  last : ∃ pre, r = pre ++ [.pen 0 (-10000) 1]
  last2 : ∃ pre, r.dropLast = pre ++ [.glue 0 100000 0]
theorem small_ok {x : Item} (h : x.small) : x.ok = true := by
  cases x <;> simp only [Item.small] at h <;> simp [Item.ok] <;> omega
theorem RowOk.f {r : List Item} (h : RowOk r) : RowF r := by
  obtain ⟨acc, n, rfl, ha, h0, h8⟩ := h.ex
  obtain ⟨w, rest, e⟩ := ha.head h0
  have hl := ha.len
  have hw := ha.fine (.box w) (by rw [e]; exact .head _)
  refine ⟨by rw [List.length_append]; simp [tail3]; omega, fun x hx => ?_, ?_, ⟨w, ((rest ++ tail3).filter fun x => x.isBox).map Item.wid, by rw [e]; simp [Item.isBox, Item.wid], by simp only [Item.fine] at hw; omega⟩, ⟨acc ++ [.pen 0 10000 0, .glue 0 100000 0], by simp [tail3]⟩, ⟨acc ++ [.pen 0 10000 0], by simp [tail3]⟩⟩
  · rcases List.mem_append.mp hx with hx | hx
    · exact (ha.fine x hx).small
    · simp only [tail3, List.mem_cons, List.not_mem_nil, or_false] at hx
      rcases hx with rfl | rfl | rfl <;> simp [Item.small]
  · have h1 := NoAdj.snoc (x := .pen 0 10000 0) ha.na fun z => by cases z
    have h2 := NoAdj.snoc (x := .glue 0 100000 0) h1 fun z => by cases z
    have h3 := NoAdj.snoc (x := .pen 0 (-10000) 1) h2 fun z => by cases z
    simpa [tail3] using h3
theorem placesOf_mem {r : List Item} {i : Nat} : i ∈ placesOf r ↔ i < r.length ∧ isPlace r i = true := by
  unfold placesOf
  rw [List.mem_filter, List.mem_range]
theorem places_pos {r : List Item} (h : RowF r) : 0 < (placesOf r).length := by
  obtain ⟨pre, e⟩ := h.last
  have : pre.length ∈ placesOf r := by
    rw [placesOf_mem]
    refine ⟨by rw [e]; simp, ?_⟩
    unfold isPlace
    have : r[pre.length]? = some (.pen 0 (-10000) 1) := by rw [e]; simp
    rw [this]; simp
  exact List.length_pos_of_mem this
theorem places_len {r : List Item} : (placesOf r).length ≤ r.length := by
  unfold placesOf
  have := List.length_filter_le (isPlace r) (List.range r.length)
  rw [List.length_range] at this
  exact this
section
variable {P : Par} {env : Env} {r : List Item}
/-- comprehensions over places -/
theorem lc_rng {elt : E} {i v : Nat} {c : Es} (hv : env[v]? = some (some (.val (rowD r)))) (hr : r.length ≤ 900) (hi : i < env.length) (hvi : v ≠ i) {f : Nat → Option D}
    (hb : ∀ a, a < r.length → cTurn P elt (.nm i) c [i] (.int (a : Nat)) (env.set i none) = .ok (f a) (env.set i none)) :
    evA P (.lc elt (.nm i) (.rng1 (.bi .len (.cons (.var v) .nil))) c [i]) env = .ok (.tmp (.lst ((List.range r.length).filterMap f))) env := by
  refine lc_gen (ds := (List.range r.length).map fun i : Nat => D.int i) hi ?_ ?_
  · simp [hv, rowD, k_range (show r.length ≤ 1000000 by omega)]
  · rw [lcL_pure (f := f) (fun a ha => hb a (List.mem_range.mp ha)) (by rw [List.length_nil, List.length_range, Nat.zero_add]; exact sl_le (by omega)), List.nil_append]
theorem fmap_some {α β : Type} {f : α → β} : ∀ {xs : List α}, xs.filterMap (fun a => some (f a)) = xs.map f
  | [] => rfl
  | x :: xs => by rw [List.filterMap_cons]; simp [fmap_some]
/-- .. whose turns are values -/
theorem lc_rngv {elt : E} {i v : Nat} (hv : env[v]? = some (some (.val (rowD r)))) (hr : r.length ≤ 900) (hi : i < env.length) (hvi : v ≠ i) {f : Nat → D}
    (hb : ∀ a, a < r.length → evA P elt (env.set i (some (.val (.int (a : Nat))))) = .ok (.val (f a)) (env.set i (some (.val (.int (a : Nat)))))) :
    evA P (.lc elt (.nm i) (.rng1 (.bi .len (.cons (.var v) .nil))) .nil [i]) env = .ok (.tmp (.lst ((List.range r.length).map f))) env := by
  rw [lc_rng (f := fun a => some (f a)) hv hr hi hvi fun a ha => ?_, fmap_some]
  have := cT (P := P) (elt := elt) (c := .nil) (d := .int (a : Nat)) (y := f a) (b := true) (set_none hi) (by simp) (fun _ => by rw [List.set_set]; exact hb a ha)
  simpa using this
theorem set_get {i v : Nat} {s : Option Sl} {x : Option Sl} (hv : env[v]? = some s) (hvi : v ≠ i) : (env.set i x)[v]? = some s := by
  rw [List.getElem?_set_ne (Ne.symm hvi)]; exact hv
end
/-- the law's first comprehensions -/
theorem p1 {env : Env} {r : List Item} (hv : env[2]? = some (some (.val (rowD r)))) (hr : r.length ≤ 900) (hi : 4 < env.length) :
    evA (mkP fs (exmT exmt) fuel (k + 1) 1) (.lc e33_0 (.nm 4) (.rng1 (.bi .len (.cons (.var 2) .nil))) c33_1 [4]) env = .ok (.tmp (.lst ((placesOf r).map fun i : Nat => D.int i))) env := by
  rw [lc_rng (f := fun a => if isPlace r a then some (.int (a : Nat)) else none) hv hr hi (by decide) fun a ha => ?_, filt_eq]
  · rfl
  · have hv2 := set_get (x := some (.val (.int (a : Nat)))) hv (show 2 ≠ 4 by decide)
    have c := fun e => (a25 (fuel := fuel) (k := k) (List.getElem?_eq_getElem ha)).c2 (lend := F25.lend) (env := e)
    have := cT (P := mkP fs (exmT exmt) fuel (k + 1) 1) (elt := e33_0) (c := c33_1) (d := .int (a : Nat)) (y := .int (a : Nat)) (b := isPlace r a) (set_none hi) (by rw [List.set_set]; simp [c33_1, hv2, hi, c]) (fun _ => by rw [List.set_set]; simp [e33_0, hi])
    simpa using this
theorem p2 {env : Env} {r : List Item} (hv : env[2]? = some (some (.val (rowD r)))) (hr : r.length ≤ 900) (hi : 4 < env.length) :
    evA (mkP fs (exmT exmt) fuel (k + 1) 1) (.lc e33_2 (.nm 4) (.rng1 (.bi .len (.cons (.var 2) .nil))) .nil [4]) env = .ok (.tmp (.lst ((List.range r.length).map fun i => .bl (isPlace r i)))) env :=
  lc_rngv (f := fun i => .bl (isPlace r i)) hv hr hi (by decide) fun a ha => by
    have hv2 := set_get (x := some (.val (.int (a : Nat)))) hv (show 2 ≠ 4 by decide)
    have c := fun e => (a5 (fuel := fuel) (k := k) (List.getElem?_eq_getElem ha)).c2 (lend := F5.lend) (env := e)
    simp [e33_2, hv2, hi, c]
theorem p3 {P : Par} {env : Env} {r : List Item} (hv : env[2]? = some (some (.val (rowD r)))) (hp : env[3]? = some (some (.own (.lst ((placesOf r).map fun i : Nat => D.int i))))) (hr : r.length ≤ 900) (hi : 4 < env.length) :
    evA P (.lc e33_3 (.nm 4) (.rng1 (.bi .len (.cons (.var 2) .nil))) .nil [4]) env = .ok (.tmp (.lst ((List.range r.length).map fun i => .bl (isPlace r i)))) env :=
  lc_rngv (f := fun i => .bl (isPlace r i)) hv hr hi (by decide) fun a ha => by
    have hv2 := set_get (x := some (.val (.int (a : Nat)))) hp (show 3 ≠ 4 by decide)
    have hm := emb_int.mem (by decide) (a : Int) ((placesOf r).map fun i : Nat => (i : Int))
    rw [List.map_map] at hm
    have e1 : (D.int ∘ fun i : Nat => (i : Int)) = fun i : Nat => D.int i := rfl
    rw [e1] at hm
    have e2 : decide ((a : Int) ∈ (placesOf r).map fun i : Nat => (i : Int)) = isPlace r a := by
      rw [Bool.eq_iff_iff, decide_eq_true_eq, List.mem_map]
      constructor
      · rintro ⟨b, hb, e⟩
        have : b = a := by omega
        subst this
        exact (placesOf_mem.mp hb).2
      · intro h; exact ⟨a, placesOf_mem.mpr ⟨ha, h⟩, rfl⟩
    rw [e2] at hm
    have hm : fCmp .inn (.int (a : Int)) (.lst ((placesOf r).map fun i : Nat => D.int i)) = some (.val (.bl (isPlace r a))) := by unfold fCmp; rw [hm]; rfl
    simp [e33_3, hv2, hi, hm]
theorem p4 {env : Env} {r : List Item} (hv : env[2]? = some (some (.val (rowD r)))) (hr : r.length ≤ 900) (hi : 4 < env.length) :
    evA (mkP fs (exmT exmt) fuel (k + 1) 1) (.lc e33_4 (.nm 4) (.rng1 (.bi .len (.cons (.var 2) .nil))) .nil [4]) env = .ok (.tmp (.lst ((List.range r.length).map fun i => .bl ((r[i]?.map Item.forced).getD false)))) env :=
  lc_rngv (f := fun i => .bl ((r[i]?.map Item.forced).getD false)) hv hr hi (by decide) fun a ha => by
    have hv2 := set_get (x := some (.val (.int (a : Nat)))) hv (show 2 ≠ 4 by decide)
    have hx := List.getElem?_eq_getElem ha
    have c := fun e => (a8 (fuel := fuel) (k := k) hx).c2 (lend := F8.lend) (env := e)
    simp [e33_4, hv2, hi, c, hx]
theorem p5 {P : Par} {env : Env} {r : List Item} (hv : env[2]? = some (some (.val (rowD r)))) (hr : r.length ≤ 900) (hi : 4 < env.length) :
    evA P (.lc e33_5 (.nm 4) (.rng1 (.bi .len (.cons (.var 2) .nil))) .nil [4]) env = .ok (.tmp (.lst ((List.range r.length).map fun i => .bl ((r[i]?.map Item.forced).getD false)))) env :=
  lc_rngv (f := fun i => .bl ((r[i]?.map Item.forced).getD false)) hv hr hi (by decide) fun a ha => by
    have hv2 := set_get (x := some (.val (.int (a : Nat)))) hv (show 2 ≠ 4 by decide)
    have hx := List.getElem?_eq_getElem ha
    have e := at_row hx
    rw [hx]
    simp only [Option.map_some, Option.getD_some]
    generalize r[a] = x at *
    simp only [rowD] at hv2
    cases x <;> simp [e33_5, hv2, hi, e, Item.d, Item.forced]
end Ev
end
section
set_option maxRecDepth 100000
set_option maxHeartbeats 4000000
namespace Ev
open PySem
variable {fuel k : Nat}
section
variable {P : Par} {env : Env} {r : List Item}
/-- comprehensions over a row's items -/
theorem lc_row {elt : E} {i v : Nat} (hv : env[v]? = some (some (.val (rowD r)))) (hr : r.length ≤ 900) (hi : i < env.length) {f : Item → D}
    (hb : ∀ x ∈ r, evA P elt (env.set i (some (.val x.d))) = .ok (.val (f x)) (env.set i (some (.val x.d)))) :
    evA P (.lc elt (.nm i) (.of (.var v)) .nil [i]) env = .ok (.tmp (.lst (r.map f))) env := by
  refine lc_gen (ds := r.map Item.d) hi ?_ ?_
  · simp [hv, rowD]
  · rw [lcL_map (f := f) (fun x hx => ?_) (sl_le (by omega))]
    have := cT (P := P) (elt := elt) (c := .nil) (d := x.d) (y := f x) (b := true) (set_none hi) (by simp) (fun _ => by rw [List.set_set]; exact hb x hx)
    simpa using this
theorem lc_rowc {elt : E} {i v : Nat} {c : Es} (hv : env[v]? = some (some (.val (rowD r)))) (hr : r.length ≤ 900) (hi : i < env.length) {f : Item → D} {p : Item → Bool}
    (hc : ∀ x ∈ r, evC P c (env.set i (some (.val x.d))) = .ok (p x) (env.set i (some (.val x.d))))
    (hb : ∀ x ∈ r, evA P elt (env.set i (some (.val x.d))) = .ok (.val (f x)) (env.set i (some (.val x.d)))) :
    evA P (.lc elt (.nm i) (.of (.var v)) c [i]) env = .ok (.tmp (.lst ((r.filter p).map f))) env := by
  refine lc_gen (ds := r.map Item.d) hi ?_ ?_
  · simp [hv, rowD]
  · rw [lcL_pure (f := fun x => if p x then some (f x) else none) (fun x hx => ?_) (by rw [List.length_nil, Nat.zero_add]; exact sl_le (by omega)), List.nil_append, filt_eq]
    exact cT (P := P) (elt := elt) (c := c) (d := x.d) (y := f x) (b := p x) (set_none hi) (by rw [List.set_set]; exact hc x hx) (fun _ => by rw [List.set_set]; exact hb x hx)
theorem p7 (hv : env[2]? = some (some (.val (rowD r)))) (hr : r.length ≤ 900) (hi : 21 < env.length) :
    evA P (.lc e33_7 (.nm 21) (.of (.var 2)) c33_8 [21]) env = .ok (.tmp (.lst ((r.filter fun x => !x.isPen).map fun x => .int x.wid))) env :=
  lc_rowc (f := fun x => .int x.wid) (p := fun x => !x.isPen) hv hr hi (fun x _ => by cases x <;> simp [c33_8, hi, Item.d, Item.isPen]) (fun x _ => by cases x <;> simp [e33_7, hi, Item.d, Item.wid])
theorem p9 (hv : env[2]? = some (some (.val (rowD r)))) (hr : r.length ≤ 900) (hi : 21 < env.length) :
    evA P (.lc e33_9 (.nm 21) (.of (.var 2)) c33_10 [21]) env = .ok (.tmp (.lst ((r.filter fun x => x.isBox).map fun x => .int x.wid))) env :=
  lc_rowc (f := fun x => .int x.wid) (p := fun x => x.isBox) hv hr hi (fun x _ => by cases x <;> simp [c33_10, hi, Item.d, Item.isBox]) (fun x _ => by cases x <;> simp [e33_9, hi, Item.d, Item.wid])
theorem p11 (hv : env[22]? = some (some (.val (rowD (r.map (Item.scale 3)))))) (hr : r.length ≤ 900) (hi : 21 < env.length) :
    evA P (.lc e33_11 (.nm 21) (.of (.var 22)) .nil [21]) env = .ok (.tmp (.lst (r.map fun x => .int (x.wid * 3)))) env := by
  rw [lc_row (f := fun x => .int x.wid) hv (by rw [List.length_map]; exact hr) hi (fun x _ => by cases x <;> simp [e33_11, hi, Item.d, Item.wid]), List.map_map]
  congr 3
  apply List.map_congr_left
  intro x _
  cases x <;> rfl
theorem p12 (hv : env[2]? = some (some (.val (rowD r)))) (hr : r.length ≤ 900) (hi : 21 < env.length) :
    evA P (.lc e33_12 (.nm 21) (.of (.var 2)) .nil [21]) env = .ok (.tmp (.lst (r.map fun x => .int (x.wid * 3)))) env :=
  lc_row (f := fun x => .int (x.wid * 3)) hv hr hi fun x _ => by
    have m : ∀ j, mulOk 3 j = true := fun j => mo_l (by decide) (by decide)
    cases x <;> simp [e33_12, hi, Item.d, Item.wid, fb_mul, m, Int.mul_comm]
theorem p14 (hv : env[23]? = some (some (.val (rowD r)))) (hr : r.length ≤ 900) (hi : 4 < env.length) :
    evA P (.lc e33_14 (.nm 4) (.of (.var 23)) c33_15 [4]) env = .ok (.tmp (.lst ((r.filter fun x => !x.isBox).map Item.d))) env :=
  lc_rowc (f := Item.d) (p := fun x => !x.isBox) hv hr hi (fun x _ => by cases x <;> simp [c33_15, hi, Item.d, Item.isBox]) (fun x _ => by simp [e33_14, hi])
theorem p16 (hv : env[2]? = some (some (.val (rowD r)))) (hr : r.length ≤ 900) (hi : 4 < env.length) :
    evA P (.lc e33_16 (.nm 4) (.of (.var 2)) c33_17 [4]) env = .ok (.tmp (.lst ((r.filter fun x => !x.isBox).map Item.d))) env :=
  lc_rowc (f := Item.d) (p := fun x => !x.isBox) hv hr hi (fun x _ => by cases x <;> simp [c33_17, hi, Item.d, Item.isBox]) (fun x _ => by simp [e33_16, hi])
theorem p19 (hv : env[2]? = some (some (.val (rowD r)))) (hr : r.length ≤ 900) (sm : ∀ x ∈ r, x.small) (hi : 21 < env.length) :
    evA P (.lc e33_19 (.nm 21) (.of (.var 2)) .nil [21]) env = .ok (.tmp (.lst (r.map fun x => .str (itTx x)))) env :=
  lc_row (f := fun x => .str (itTx x)) hv hr hi fun x hx => it_text (sm x hx) (by rw [List.getElem?_set_self hi]) (by rw [List.length_set]; omega) (by decide)
theorem p13 {q : Nat} (hv : env[23]? = some (some (.val (rowD r)))) (hr : r.length ≤ 900) (hq : r.length = q + 1) (na : NoAdj r) (hi : 4 < env.length) :
    evA P (.lc e33_13 (.nm 4) (.rng1 (.bin .sub (.bi .len (.cons (.var 23) .nil)) (.cst (.int 1)))) .nil [4]) env = .ok (.tmp (.lst ((List.range q).map fun _ => .bl false))) env := by
  refine lc_gen (ds := (List.range q).map fun i : Nat => D.int i) hi ?_ ?_
  · have e : ((q : Int) + 1 - 1) = (q : Int) := by omega
    simp [hv, rowD, hq, e, k_range (show q ≤ 1000000 by omega)]
  · rw [lcL_map (f := fun _ => .bl false) (fun a ha => ?_) (by rw [List.length_range]; exact sl_le (by omega))]
    have ha := List.mem_range.mp ha
    have hv2 := set_get (x := some (.val (.int (a : Nat)))) hv (show 23 ≠ 4 by decide)
    have h1 := List.getElem?_eq_getElem (show a < r.length by omega)
    have h2 := List.getElem?_eq_getElem (show a + 1 < r.length by omega)
    have n := na a _ _ h1 h2
    have e1 := at_row h1
    have e2 := at_row h2
    have e3 : (((a + 1 : Nat)) : Int) = (a : Int) + 1 := by omega
    rw [e3] at e2
    have := cT (P := P) (elt := e33_13) (c := .nil) (d := .int (a : Nat)) (y := .bl false) (b := true) (set_none hi) (by simp) (fun _ => by
      rw [List.set_set]
      generalize r[a] = x at *
      generalize r[a + 1] = y at *
      simp only [rowD] at hv2
      cases x <;> cases y <;> first | exact (n rfl rfl).elim | simp [e33_13, hv2, hi, e1, e2, Item.d])
    simpa using this
end
theorem p20 {env : Env} {r : List Item} (hv : env[2]? = some (some (.val (rowD r)))) (hr : r.length ≤ 900) (sm : ∀ x ∈ r, x.small) (hi : 21 < env.length) :
    evA (mkP fs (exmT exmt) fuel (k + 2) 1) (.lc e33_20 (.nm 21) (.of (.var 2)) .nil [21]) env = .ok (.tmp (.lst (r.map fun _ => .bl true))) env :=
  lc_row (f := fun _ => .bl true) hv hr hi fun x hx => by
    have c := fun e => (a3 (fuel := fuel) (k := k) (small_ok (sm x hx))).c1 (lend := F3.lend) (env := e)
    simp [e33_20, hi, c]
theorem asB_map {α : Type} {f : α → Bool} : ∀ {xs : List α}, asBools (xs.map fun x => D.bl (f x)) = some (xs.map f)
  | [] => rfl
  | x :: xs => by
    show (asBools (xs.map fun x => D.bl (f x))).map (f x :: ·) = _
    rw [asB_map]; rfl
/-- rows that are none -/
theorem a4a : An fuel (k + 1) 4 [.tup []] (.bl false) := by
  simp only [An, Ans, List.map]
  rw [o4]
  simp [F4]
theorem a4c {ds : List D} : An fuel (k + 1) 4 [.lst ds] (.bl false) := by
  simp only [An, Ans, List.map]
  rw [o4]
  simp [F4]
theorem a4e : An fuel (k + 1) 4 [.non] (.bl false) := by
  simp only [An, Ans, List.map]
  rw [o4]
  simp [F4]
theorem a3i {i : Int} : An fuel (k + 1) 3 [.int i] (.bl false) := by
  simp only [An, Ans, List.map]
  rw [o3]
  have : biF .isTuple [.int i] = some (.val (.bl false)) := rfl
  simp [F3, this]
theorem a4b {r : List Item} {a b c : Int} (ok : ∀ x ∈ r ++ [.glue a b c], Item.ok x = true) : An fuel (k + 3) 4 [rowD (r ++ [.glue a b c])] (.bl false) := by
  simp only [An, Ans, List.map]
  rw [o4]
  have hl : L2.atI ((r ++ [Item.glue a b c]).map Item.d) (-1) = some (Item.d (.glue a b c)) := by
    rw [List.map_append]; exact atI_m1
  have g : ∀ env, env = [some (Sl.val (rowD (r ++ [Item.glue a b c]))), none] → gxL true (gTurn (mkP fs (exmT exmt) fuel (k + 2) 1) (.call 3 (.cons (.var 1) .nil)) (.nm 1) .nil [1]) ((r ++ [Item.glue a b c]).map Item.d) env = .ok true env := by
    rintro env rfl
    rw [gxL_all (f := fun _ => true)]
    · simp
    · intro x hx
      have c := fun e => (a3 (fuel := fuel) (k := k) (ok x hx)).c1 (lend := F3.lend) (env := e)
      rw [gTurn_some rfl]
      simp [c]
  have g := g _ rfl
  have hne : (r ++ [Item.glue a b c]).map Item.d ≠ [] := by simp
  simp only [rowD] at g ⊢
  generalize (r ++ [Item.glue a b c]).map Item.d = ds at *
  have : ds.isEmpty = false := by cases ds; exact absurd rfl hne; rfl
  simp [F4, g, hl, this, Item.d]
theorem a4d {r : List Item} (ok : ∀ x ∈ r, Item.ok x = true) : An fuel (k + 3) 4 [.tup (r.map Item.d ++ [.int 5])] (.bl false) := by
  simp only [An, Ans, List.map]
  rw [o4]
  have e : r.map Item.d ++ [.int 5] = (r.map some ++ [none]).map fun o : Option Item => (o.map Item.d).getD (.int 5) := by simp
  have g : ∀ env, env = [some (Sl.val (.tup (r.map Item.d ++ [.int 5]))), none] → gxL true (gTurn (mkP fs (exmT exmt) fuel (k + 2) 1) (.call 3 (.cons (.var 1) .nil)) (.nm 1) .nil [1]) (r.map Item.d ++ [.int 5]) env = .ok false env := by
    rintro env rfl
    rw [e, gxL_all (f := Option.isSome)]
    · simp
    · intro x hx
      rw [gTurn_some rfl]
      cases x with
      | none =>
        have c := fun e => (a3i (fuel := fuel) (k := k + 1) (i := 5)).c1 (lend := F3.lend) (env := e)
        simp [c]
      | some x =>
        have hx : x ∈ r := by simpa using hx
        have c := fun e => (a3 (fuel := fuel) (k := k) (ok x hx)).c1 (lend := F3.lend) (env := e)
        simp [c]
  have g := g _ rfl
  have hne : r.map Item.d ++ [.int 5] ≠ [] := by simp
  generalize r.map Item.d ++ [.int 5] = ds at *
  have : ds.isEmpty = false := by cases ds; exact absurd rfl hne; rfl
  simp [F4, g, this]
end Ev
end
section
set_option maxRecDepth 100000
set_option maxHeartbeats 8000000
namespace Ev
open PySem
variable {fuel k : Nat}
abbrev PL (fuel k : Nat) : Par := mkP fs (exmT exmt) fuel (k + 7) 1
theorem ints_q {α : Type} {f : α → Int} {xs : List α} : Q 1 (.lst (xs.map fun x => D.int (f x))) := qd_lst fun y hy => by obtain ⟨i, _, rfl⟩ := List.mem_map.mp hy; exact qd_int _
theorem intt_q {α : Type} {f : α → Int} {xs : List α} : Q 1 (.tup (xs.map fun x => D.int (f x))) := qd_tup fun y hy => by obtain ⟨i, _, rfl⟩ := List.mem_map.mp hy; exact qd_int _
theorem bls_q {α : Type} {f : α → Bool} {xs : List α} : Q 1 (.lst (xs.map fun x => D.bl (f x))) := qd_lst fun y hy => by obtain ⟨i, _, rfl⟩ := List.mem_map.mp hy; exact qd_bl _
@[simp] theorem b_listf {xs : List D} : biF .list [.frz xs] = some (.new (.lst xs)) := rfl
theorem sA {d : D} {ns : List Int} (hd : d = .lst (ns.map D.int) ∨ d = .frz (ns.map D.int)) : ∃ st r, IsSt st ∧ RowF r ∧
    evSs (PL fuel k) q33_0 [some (.val d), none, none, none, none, none, none, none, none, none, none, none, none, none, none, none, none, none, none, none, none, none, none, none, none, none] = evSs (PL fuel k) q33_6 [some (.val d), some (.own st), some (.val (rowD r)), some (.own (.lst ((placesOf r).map fun i : Nat => D.int i))), none, some (.own (.lst (.int (-1) :: (placesOf r).map fun i : Nat => D.int i))), none, none, none, none, none, none, none, none, none, none, none, none, none, none, none, none, none, none, none, none] := by
  have hst : IsSt (stD 0 0 1 ns) := ⟨0, 0, 1, ns, Int.le_refl _, rfl⟩
  obtain ⟨g, st1, h1, b1, c1⟩ := drN (fuel := fuel) (k := k + 6) hst (L := 8) (by decide) (by decide)
  obtain ⟨st2, r, h2, hr, c2⟩ := a24 (fuel := fuel) (k := k + 5) h1 (n := 1 + g) (by omega) (by omega)
  have hr := hr.f
  have hl := hr.len
  have c2 : ∀ i env, env[i]? = some (some (.own st1)) → callM (callF fs (exmT exmt) fuel (k + 7)) 24 F24.lend [.own i, .val (.int (1 + (g : Int)))] env = .ok (.val (rowD r)) (env.set i (some (.own st2))) := by
    rw [show (1 : Int) + g = ((1 + g : Nat) : Int) by omega]; exact c2
  refine ⟨st2, r, h2, hr, ?_⟩
  obtain ⟨pre, e⟩ := hr.last
  have ok : ∀ x ∈ r, x.ok = true := fun x hx => small_ok (hr.sm x hx)
  have A4 : An fuel (k + 7) 4 [rowD r] (.bl true) := by rw [e] at ok ⊢; exact a4 ok
  have A6 : An fuel (k + 7) 6 [rowD r] (.tup ((placesOf r).map fun i : Nat => D.int i)) := a6 (by omega)
  have q1 := (intt_q (f := fun i : Nat => (i : Int)) (xs := placesOf r)).refl (by decide)
  have q2 := (bls_q (f := isPlace r) (xs := List.range r.length)).refl (by decide)
  have q3 := (bls_q (f := fun i => (r[i]?.map Item.forced).getD false) (xs := List.range r.length)).refl (by decide)
  have P1 := fun env h h' => p1 (fuel := fuel) (k := k + 6) (env := env) (r := r) h (by omega) h'
  have P2 := fun env h h' => p2 (fuel := fuel) (k := k + 6) (env := env) (r := r) h (by omega) h'
  have P3 := fun env h h2 h' => p3 (P := PL fuel k) (env := env) (r := r) h h2 (by omega) h'
  have P4 := fun env h h' => p4 (fuel := fuel) (k := k + 6) (env := env) (r := r) h (by omega) h'
  have P5 := fun env h h' => p5 (P := PL fuel k) (env := env) (r := r) h (by omega) h'
  have cat : fBin .add (.lst [.int (-1)]) (.lst ((placesOf r).map fun i : Nat => D.int i)) = some (.tmp (.lst (.int (-1) :: (placesOf r).map fun i : Nat => D.int i))) := fb_catl (by
    have := places_len (r := r)
    rw [List.length_map]; simp only [List.length_cons, List.length_nil]; omega)
  simp only [stD] at c1
  rcases hd with rfl | rfl <;>
  simp [-s_lc, q33_0, q33_1, q33_2, q33_3, q33_4, q33_5, c1, c2, A4.c1, A6.c1, P1, P2, P3, P4, P5, q1, q2, q3, cat]
end Ev
end
section
set_option maxRecDepth 100000
set_option maxHeartbeats 8000000
namespace Ev
open PySem
variable {fuel k : Nat}
theorem sB {d st : D} {r : List Item} (hs : IsSt st) (hr : RowF r) (hf : 2 ^ 62 ≤ fuel) : ∃ st' a e i jn m, IsSt st' ∧ LineOk r i jn e ∧ (1 ≤ m ∧ m ≤ 60) ∧
    evSs (PL fuel k) q33_6 [some (.val d), some (.own st), some (.val (rowD r)), some (.own (.lst ((placesOf r).map fun i : Nat => D.int i))), none, some (.own (.lst (.int (-1) :: (placesOf r).map fun i : Nat => D.int i))), none, none, none, none, none, none, none, none, none, none, none, none, none, none, none, none, none, none, none, none] = evSs (PL fuel k) q33_11 [some (.val d), some (.own st'), some (.val (rowD r)), some (.own (.lst ((placesOf r).map fun i : Nat => D.int i))), none, some (.own (.lst (.int (-1) :: (placesOf r).map fun i : Nat => D.int i))), a, some (.val (.int (e : Nat))), some (.val (.int i)), some (.val (.int m)), some (.val (opD (lineP r jn e m))), none, none, none, none, none, none, none, none, none, none, none, none, none, none, none] := by
  have hl := hr.len
  have hp := places_pos hr
  have hp2 := places_len (r := r)
  obtain ⟨a, st1, h1, b1, c1⟩ := drN (fuel := fuel) (k := k + 6) hs (L := ((placesOf r).length : Int)) (by omega) (by omega)
  obtain ⟨j, st2, h2, b2, c2⟩ := drN (fuel := fuel) (k := k + 6) h1 (L := (a : Int) + 1) (by omega) (by omega)
  obtain ⟨m, st3, h3, b3, c3⟩ := drN (fuel := fuel) (k := k + 6) h2 (L := 60) (by decide) (by decide)
  obtain ⟨e, he⟩ : ∃ e, (placesOf r)[a]? = some e := ⟨_, List.getElem?_eq_getElem (by omega)⟩
  have hem := placesOf_mem.mp (List.mem_of_getElem? he)
  obtain ⟨i, jn, hi, hij, hj⟩ : ∃ (i : Int) (jn : Nat), L2.atI (.int (-1) :: (placesOf r).map fun i : Nat => D.int i) (j : Int) = some (.int i) ∧ i + 1 = jn ∧ jn ≤ 35 := by
    cases j with
    | zero => exact ⟨-1, 0, at0, rfl, by omega⟩
    | succ j =>
      obtain ⟨s, hs⟩ : ∃ e, (placesOf r)[j]? = some e := ⟨_, List.getElem?_eq_getElem (by omega)⟩
      have hsm := placesOf_mem.mp (List.mem_of_getElem? hs)
      exact ⟨s, s + 1, atI_lit (by rw [List.getElem?_cons_succ, List.getElem?_map, hs]; rfl), by omega, by omega⟩
  obtain ⟨x, hx⟩ : ∃ x, r[e]? = some x := ⟨_, List.getElem?_eq_getElem hem.1⟩
  have lo : LineOk r i jn e := ⟨hr.sm, by omega, hij, ⟨x, hx⟩, sz_ok hr.sm (by omega), by have := go_le (r := r) (n := r.length) (j := jn); omega⟩
  have ea := at_n (f := fun i : Nat => D.int i) he
  have A28 : An fuel (k + 7) 28 [rowD r, .int i, .int e, .int (1 + m)] (opD (lineP r jn e (1 + m))) := a28 (k := k + 4) hij hf (by omega) hx lo.sz.c lo.sz.d
  refine ⟨st3, some (.val (.int a)), e, i, jn, 1 + m, h3, lo, by omega, ?_⟩
  simp [q33_6, q33_7, q33_8, q33_9, q33_10, c1, c2, c3, ea, hi, A28.c4]
end Ev
end
section
set_option maxRecDepth 100000
set_option maxHeartbeats 8000000
namespace Ev
open PySem
variable {fuel k : Nat}
theorem tr_q (s : Int × Int × Int) : Q 1 (trD s) := qd_tup fun y hy => by
  simp only [List.mem_cons, List.not_mem_nil, or_false] at hy
  rcases hy with rfl | rfl | rfl <;> exact qd_int _
theorem pr_q (s : Int × Int) : Q 1 (prD s) := qd_tup fun y hy => by
  simp only [List.mem_cons, List.not_mem_nil, or_false] at hy
  rcases hy with rfl | rfl <;> exact qd_int _
theorem op_q (s : Option (Int × Int)) : Q 1 (opD s) := by
  cases s with
  | none => exact qd_non.mono (by decide)
  | some p => exact pr_q p
theorem wid_q {r : List Item} {p : Int × Int} {f e : Nat} : Q 3 (.tup (widF r p f e)) := qd_tup fun y hy => by
  obtain ⟨i, _, hy⟩ := List.mem_flatMap.mp hy
  unfold widE at hy
  split at hy
  · split at hy
    · simp at hy
    · rw [List.mem_singleton.mp hy]
      refine qd_tup fun z hz => ?_
      simp only [List.mem_cons, List.not_mem_nil, or_false] at hz
      rcases hz with rfl | rfl
      · exact (qd_int _).mono (by decide)
      · exact pr_q _
  · simp at hy
theorem wid_ok : ∀ {xs : List Item}, (∀ x ∈ xs, x.small) → 0 ≤ widL xs ∧ widL xs ≤ xs.length * 100000
  | [], _ => by simp [widL]
  | x :: xs, h => by
    have h1 := wid_ok fun y hy => h y (.tail _ hy)
    have h2 := h x (.head _)
    rw [widL, List.length_cons]
    cases x <;> simp only [Item.small] at h2 <;> simp [Item.isPen, Item.wid] <;> omega
theorem ratio_small {r : List Item} {jn e : Nat} {m : Int} {p : Int × Int} {i : Int} (lo : LineOk r i jn e) (hm : 1 ≤ m ∧ m ≤ 60) (h : lineP r jn e m = some p) : p.1.natAbs < 2 ^ 62 := by
  unfold lineP at h
  have hs : (m - (sizesF r (goF r r.length jn) e).1).natAbs < 2 ^ 62 := by
    rw [sizes_L]
    have hml : ∀ x ∈ lineOf r (goF r r.length jn) e, x.small := fun x hx => lo.sm x (List.mem_of_mem_drop (List.mem_of_mem_take hx))
    have h1 := wid_ok hml
    have h2 : (lineOf r (goF r r.length jn) e).length ≤ 900 := by have := lo.len; unfold lineOf; rw [List.length_take, List.length_drop]; omega
    obtain ⟨x, hx⟩ := lo.le
    have h3 := lo.sm x (List.mem_of_getElem? hx)
    have h4 : 0 ≤ penW r[e]? ∧ penW r[e]? ≤ 100000 := by
      rw [hx]
      cases x <;> simp only [Item.small] at h3 <;> simp [penW]; omega
    dsimp only
    omega
  generalize sizesF r (goF r r.length jn) e = s at *
  have fa : ∀ q, (frac (m - s.1) q).1.natAbs < 2 ^ 62 := fun q => Nat.lt_of_le_of_lt frac_abs hs
  unfold ratioF at h
  by_cases g0 : m - s.1 = 0
  · rw [if_pos g0] at h; cases h; decide
  · rw [if_neg g0] at h
    dsimp only at h
    by_cases g1 : 0 < m - s.1
    · rw [if_pos g1] at h
      by_cases g2 : 0 < s.2.1
      · rw [if_pos g2] at h; cases h; exact fa _
      · rw [if_neg g2] at h; cases h
    · rw [if_neg g1] at h
      by_cases g2 : 0 < s.2.2
      · rw [if_pos g2] at h; cases h; exact fa _
      · rw [if_neg g2] at h; cases h
theorem sC {d st : D} {r : List Item} {a : Option Sl} {e jn : Nat} {i m : Int} (hr : RowF r) (lo : LineOk r i jn e) (hm : 1 ≤ m ∧ m ≤ 60) (hf : 2 ^ 62 ≤ fuel) : ∃ s4 s11 s12 s13 s14 s15 s16,
    evSs (PL fuel k) q33_11 [some (.val d), some (.own st), some (.val (rowD r)), some (.own (.lst ((placesOf r).map fun i : Nat => D.int i))), none, some (.own (.lst (.int (-1) :: (placesOf r).map fun i : Nat => D.int i))), a, some (.val (.int (e : Nat))), some (.val (.int i)), some (.val (.int m)), some (.val (opD (lineP r jn e m))), none, none, none, none, none, none, none, none, none, none, none, none, none, none, none] = evSs (PL fuel k) q33_15 [some (.val d), some (.own st), some (.val (rowD r)), some (.own (.lst ((placesOf r).map fun i : Nat => D.int i))), s4, some (.own (.lst (.int (-1) :: (placesOf r).map fun i : Nat => D.int i))), a, some (.val (.int (e : Nat))), some (.val (.int i)), some (.val (.int m)), some (.val (opD (lineP r jn e m))), s11, s12, s13, s14, s15, s16, none, none, none, none, none, none, none, none, none] := by
  have hl := hr.len
  obtain ⟨x, hx⟩ := lo.le
  have he : e < r.length := (List.getElem?_eq_some_iff.mp hx).1
  have A7 : An fuel (k + 7) 7 [rowD r, .int i] (.int (goF r r.length jn)) := a7 (k := k + 5) lo.ij (by omega)
  have A26 : An fuel (k + 7) 26 [rowD r, .int i] (.int (goF r r.length jn)) := a26 (k := k + 6) lo.ij (by omega)
  have A9 : An fuel (k + 7) 9 [rowD r, .int i, .int e] (trD (sizesF r (goF r r.length jn) e)) := a9 (k := k + 4) lo.ij (by omega) hx
  have A27 : An fuel (k + 7) 27 [rowD r, .int i, .int e] (trD (sizesF r (goF r r.length jn) e)) := by rw [← sizes_eq]; exact a27 (k := k + 5) lo.ij (by omega) (by omega) hx
  have A10 : An fuel (k + 7) 10 [rowD r, .int i, .int e, .int m] (opD (lineP r jn e m)) := a10 (k := k + 3) lo.ij hf (by omega) hx lo.sz.a lo.sz.b lo.sz.c lo.sz.d
  have A31 : An fuel (k + 7) 31 [rowD r, .int i, .int e, .int m] (match lineP r jn e m with | some p => .tup (widF r p (goF r r.length jn) e) | none => .non) := a31 (k := k + 1) lo hf
  have q1 := (tr_q (sizesF r (goF r r.length jn) e)).refl (by decide)
  have q2 := (op_q (lineP r jn e m)).refl (by decide)
  cases hp : lineP r jn e m with
  | none =>
    rw [hp] at A31 q2 A10
    refine ⟨none, some (.val .non), none, none, none, none, none, ?_⟩
    simp only [opD] at q2 A10
    simp [q33_11, q33_12, q33_13, q33_14, A7.c2, A26.c2, A9.c3, A27.c3, A10.c4, A31.c4, q1, q2, opD]
  | some p =>
    rw [hp] at A31 q2 A10
    have hq := ratio_pos lo.sz hp
    have hps := ratio_small lo hm hp
    have A11 : An fuel (k + 7) 11 [prD p] (.int (badF p)) := a11 (k := k + 6) hps hq.1 hq.2
    have A29 : An fuel (k + 7) 29 [prD p] (.int (badF p)) := a29 (k := k + 6) hps hq.1 hq.2
    have A13 : An fuel (k + 7) 13 [prD p] (.int (kindF p)) := a13 (k := k + 6)
    have A30 : An fuel (k + 7) 30 [prD p] (.int (kindF p)) := a30 (k := k + 6)
    obtain ⟨kk, room, one, hh⟩ := l33 (fuel := fuel) (k := k + 5) (s0 := some (.val d)) (s1 := some (.own st)) (s3 := some (.own (.lst ((placesOf r).map fun i : Nat => D.int i)))) (s5 := some (.own (.lst (.int (-1) :: (placesOf r).map fun i : Nat => D.int i)))) (s6 := a) (s7 := some (.val (.int (e : Nat)))) (s8 := some (.val (.int i))) (s9 := some (.val (.int m))) (s11 := some (.val (.tup (widF r p (goF r r.length jn) e)))) (s16 := none) (s17 := none) (s18 := none) (s19 := none) (s20 := none) (s21 := none) (s22 := none) (s23 := none) (s24 := none) (s25 := none) (p := p) (f := goF r r.length jn) (e := e) (kk := none) (room := none) (one := none) lo.sm hq.1 hq.2 (by omega) lo.len hf
    rw [total_ok lo.sz hp] at hh
    have hi := fun env => k_idxs (f := goF r r.length jn) (e := e) (env := env) (by have := lo.first; omega) (by omega)
    have q3 := (wid_q (r := r) (p := p) (f := goF r r.length jn) (e := e)).refl (by decide)
    have ea := at_row hx
    have q4 := (pr_q (m - penW r[e]?, 1)).refl (by decide)
    refine ⟨kk, some (.val (.tup (widF r p (goF r r.length jn) e))), some (.own (.lst (widF r p (goF r r.length jn) e))), some (.val (prD (m - penW r[e]?, 1))), room, one, some (.val (.int (penW r[e]?))), ?_⟩
    rw [hx] at hh q4 ⊢
    simp only [eL, rowD, prD] at hh q4
    simp only [opD, rowD, prD] at A7 A26 A9 A27 A10 A31 A11 A29 A13 A30 q2
    cases x <;> simp [penW, Item.d] at hh q4 ea <;>
    simp [q33_11, q33_12, q33_13, q33_14, A7.c2, A26.c2, A9.c3, A27.c3, A10.c4, A31.c4, A11.c1, A29.c1, A13.c1, A30.c1, q1, q2, q3, q4, opD, rowD, prD, hi, hh, ea, Item.d, penW]
end Ev
end
section
set_option maxRecDepth 100000
set_option maxHeartbeats 8000000
namespace Ev
open PySem
variable {fuel k : Nat}
theorem pick_cost {x y j : Nat} (hx : x < 100) (hy : y < 100) (hj : j < 3) : ∃ c : Int, L2.atI [D.int x, D.int (-(y : Int)), D.int (-10000)] (j : Int) = some (.int c) ∧ c.natAbs ≤ 10000 := by
  have : j = 0 ∨ j = 1 ∨ j = 2 := by omega
  rcases this with rfl | rfl | rfl
  · exact ⟨x, rfl, by omega⟩
  · exact ⟨-(y : Int), rfl, by omega⟩
  · exact ⟨-10000, rfl, by omega⟩
theorem sD {d st : D} {r : List Item} {a s4 s11 s12 s13 s14 s15 s16 : Option Sl} {e jn : Nat} {i m : Int} (hs : IsSt st) (hf : 2 ^ 62 ≤ fuel) : ∃ st' s17 s18 s19 s20, IsSt st' ∧
    evSs (PL fuel k) q33_15 [some (.val d), some (.own st), some (.val (rowD r)), some (.own (.lst ((placesOf r).map fun i : Nat => D.int i))), s4, some (.own (.lst (.int (-1) :: (placesOf r).map fun i : Nat => D.int i))), a, some (.val (.int (e : Nat))), some (.val (.int i)), some (.val (.int m)), some (.val (opD (lineP r jn e m))), s11, s12, s13, s14, s15, s16, none, none, none, none, none, none, none, none, none] = evSs (PL fuel k) q33_21 [some (.val d), some (.own st'), some (.val (rowD r)), some (.own (.lst ((placesOf r).map fun i : Nat => D.int i))), s4, some (.own (.lst (.int (-1) :: (placesOf r).map fun i : Nat => D.int i))), a, some (.val (.int (e : Nat))), some (.val (.int i)), some (.val (.int m)), some (.val (opD (lineP r jn e m))), s11, s12, s13, s14, s15, s16, s17, s18, s19, s20, none, none, none, none, none] := by
  obtain ⟨g1, st1, h1, b1, c1⟩ := drN (fuel := fuel) (k := k + 6) hs (L := 41) (by decide) (by decide)
  obtain ⟨g2, st2, h2, b2, c2⟩ := drN (fuel := fuel) (k := k + 6) h1 (L := 9) (by decide) (by decide)
  obtain ⟨g3, st3, h3, b3, c3⟩ := drN (fuel := fuel) (k := k + 6) h2 (L := 200) (by decide) (by decide)
  obtain ⟨g4, st4, h4, b4, c4⟩ := drN (fuel := fuel) (k := k + 6) h3 (L := 100) (by decide) (by decide)
  obtain ⟨g5, st5, h5, b5, c5⟩ := drN (fuel := fuel) (k := k + 6) h4 (L := 100) (by decide) (by decide)
  obtain ⟨g6, st6, h6, b6, c6⟩ := drN (fuel := fuel) (k := k + 6) h5 (L := 3) (by decide) (by decide)
  obtain ⟨c, hc, hcb⟩ := pick_cost (x := g4) (y := g5) (j := g6) (by omega) (by omega) (by omega)
  have A23 : An fuel (k + 7) 23 [.int ((g1 : Int) - 20), .int (1 + (g2 : Int))] (prD (frac ((g1 : Int) - 20) (1 + g2))) := a23 (k := k + 5) (by omega) (by omega) hf
  have hp : (frac ((g1 : Int) - 20) (1 + g2)).1.natAbs < 2 ^ 62 := Nat.lt_of_le_of_lt frac_abs (by omega)
  have hp1 := frac_pos (a := (g1 : Int) - 20) (b := 1 + g2) (by omega)
  have hp2 := frac_le (a := (g1 : Int) - 20) (b := 1 + g2) (by omega)
  generalize frac ((g1 : Int) - 20) (1 + g2) = p at *
  have A11 : An fuel (k + 7) 11 [prD p] (.int (badF p)) := a11 (k := k + 6) hp hp1 (by omega)
  have A29 : An fuel (k + 7) 29 [prD p] (.int (badF p)) := a29 (k := k + 6) hp hp1 (by omega)
  have A13 : An fuel (k + 7) 13 [prD p] (.int (kindF p)) := a13 (k := k + 6)
  have A30 : An fuel (k + 7) 30 [prD p] (.int (kindF p)) := a30 (k := k + 6)
  have A11n : An fuel (k + 7) 11 [.non] .non := a11n (k := k + 6)
  have A12 : An fuel (k + 7) 12 [.int g3, .int c, .int 10] (.int (demF g3 c 10)) := a12 (k := k + 6) (by omega) (by omega)
  have m1 : mulOk (10 + (g3 : Int)) (10 + (g3 : Int)) = true := mo_r (by omega) (by omega)
  have m2 : mulOk c c = true := mo_r (by omega) (by omega)
  refine ⟨st6, some (.val (prD p)), some (.val (.int g3)), some (.val (.int c)), some (.val (.int (demF g3 c 10))), h6, ?_⟩
  by_cases z1 : 0 ≤ c
  · have e : demF g3 c 10 = (10 + (g3 : Int)) * (10 + g3) + c * c := by simp [demF, z1]
    rw [e] at A12 ⊢
    simp [q33_15, q33_16, q33_17, q33_18, q33_19, q33_20, c1, c2, c3, c4, c5, c6, hc, A23.c2, A11.c1, A29.c1, A13.c1, A30.c1, A11n.c1, A12.c3, fb_mul, m1, m2, z1]
  · by_cases z2 : -10000 < c
    · have e : demF g3 c 10 = (10 + (g3 : Int)) * (10 + g3) - c * c := by simp [demF, z1, z2]
      rw [e] at A12 ⊢
      simp [q33_15, q33_16, q33_17, q33_18, q33_19, q33_20, c1, c2, c3, c4, c5, c6, hc, A23.c2, A11.c1, A29.c1, A13.c1, A30.c1, A11n.c1, A12.c3, fb_mul, m1, m2, z1, z2]
    · have e : demF g3 c 10 = (10 + (g3 : Int)) * (10 + g3) := by simp [demF, z1, z2]
      rw [e] at A12 ⊢
      simp [q33_15, q33_16, q33_17, q33_18, q33_19, q33_20, c1, c2, c3, c4, c5, c6, hc, A23.c2, A11.c1, A29.c1, A13.c1, A30.c1, A11n.c1, A12.c3, fb_mul, m1, m2, z1, z2]
end Ev
end
section
set_option maxRecDepth 100000
set_option maxHeartbeats 8000000
namespace Ev
open PySem
variable {fuel k : Nat}
theorem go_scale {r : List Item} {f : Int} : ∀ {n j : Nat}, goF (r.map (Item.scale f)) n j = goF r n j
  | 0, j => rfl
  | n + 1, j => by
    unfold goF
    rw [List.getElem?_map]
    cases r[j]? with
    | none => rfl
    | some x =>
      have e : ((x.scale f).isBox || (x.scale f).forced) = (x.isBox || x.forced) := by cases x <;> rfl
      simp only [Option.map_some, e, go_scale]
theorem line_scale {r : List Item} {f : Int} {a b : Nat} : lineOf (r.map (Item.scale f)) a b = (lineOf r a b).map (Item.scale f) := by
  unfold lineOf; rw [List.map_take, List.map_drop]
theorem widL_scale {f : Int} : ∀ {xs : List Item}, widL (xs.map (Item.scale f)) = widL xs * f
  | [] => by simp [widL]
  | x :: xs => by rw [List.map_cons, widL, widL, widL_scale]; cases x <;> simp [Item.scale, Item.isPen, Item.wid] <;> grind
theorem strL_scale {f : Int} : ∀ {xs : List Item}, strL (xs.map (Item.scale f)) = strL xs * f
  | [] => by simp [strL]
  | x :: xs => by rw [List.map_cons, strL, strL, strL_scale]; cases x <;> simp [Item.scale, Item.str] <;> grind
theorem shrL_scale {f : Int} : ∀ {xs : List Item}, shrL (xs.map (Item.scale f)) = shrL xs * f
  | [] => by simp [shrL]
  | x :: xs => by rw [List.map_cons, shrL, shrL, shrL_scale]; cases x <;> simp [Item.scale, Item.shr] <;> grind
theorem sizes_scale {r : List Item} {f : Int} {a b : Nat} : sizesF (r.map (Item.scale f)) a b = ((sizesF r a b).1 * f, (sizesF r a b).2.1 * f, (sizesF r a b).2.2 * f) := by
  rw [sizes_L, sizes_L, line_scale, widL_scale, strL_scale, shrL_scale, List.getElem?_map]
  have : penW (r[b]?.map (Item.scale f)) = penW r[b]? * f := by
    cases r[b]? with
    | none => simp [penW]
    | some x => cases x <;> simp [penW, Item.scale]
  rw [this]
  simp only [Int.add_mul]
theorem ratio_scale {s : Int × Int × Int} {m : Int} : ratioF (s.1 * 3, s.2.1 * 3, s.2.2 * 3) (3 * m) = ratioF s m := by
  unfold ratioF
  dsimp only
  have hf : ∀ q, 0 < q → frac (3 * m - s.1 * 3) (q * 3) = frac (m - s.1) q := fun q hq => frac_uniq (by omega) hq (by grind)
  by_cases g0 : m - s.1 = 0
  · rw [if_pos g0, if_pos (by omega)]
  · rw [if_neg g0, if_neg (by omega)]
    by_cases g1 : 0 < m - s.1
    · simp only [if_pos g1, if_pos (show 0 < 3 * m - s.1 * 3 by omega)]
      by_cases g2 : 0 < s.2.1
      · rw [if_pos g2, if_pos (by omega), hf _ g2]
      · rw [if_neg g2, if_neg (by omega)]
    · simp only [if_neg g1, if_neg (show ¬ 0 < 3 * m - s.1 * 3 by omega)]
      by_cases g2 : 0 < s.2.2
      · rw [if_pos g2, if_pos (by omega), hf _ g2]
      · rw [if_neg g2, if_neg (by omega)]
theorem sE {d st : D} {r : List Item} {a s4 s11 s12 s13 s14 s15 s16 s17 s18 s19 s20 : Option Sl} {e jn : Nat} {i m : Int} (hr : RowF r) (lo : LineOk r i jn e) (hm : 1 ≤ m ∧ m ≤ 60) (hf : 2 ^ 62 ≤ fuel) :
    ∃ s21, evSs (PL fuel k) q33_21 [some (.val d), some (.own st), some (.val (rowD r)), some (.own (.lst ((placesOf r).map fun i : Nat => D.int i))), s4, some (.own (.lst (.int (-1) :: (placesOf r).map fun i : Nat => D.int i))), a, some (.val (.int (e : Nat))), some (.val (.int i)), some (.val (.int m)), some (.val (opD (lineP r jn e m))), s11, s12, s13, s14, s15, s16, s17, s18, s19, s20, none, none, none, none, none] = evSs (PL fuel k) q33_26 [some (.val d), some (.own st), some (.val (rowD r)), some (.own (.lst ((placesOf r).map fun i : Nat => D.int i))), s4, some (.own (.lst (.int (-1) :: (placesOf r).map fun i : Nat => D.int i))), a, some (.val (.int (e : Nat))), some (.val (.int i)), some (.val (.int m)), some (.val (opD (lineP r jn e m))), s11, s12, s13, s14, s15, s16, s17, s18, s19, s20, s21, some (.val (rowD (r.map (Item.scale 3)))), some (.val (rowD r)), none, none] := by
  have hl := hr.len
  obtain ⟨x, hx⟩ := lo.le
  have A16 : An fuel (k + 7) 16 [rowD r] (.int (natF r)) := a16 (k := k + 6) (by omega)
  obtain ⟨w, ws, hw, hw0⟩ := hr.box
  have A17 : An fuel (k + 7) 17 [rowD r] (.int (ws.foldl (fun m y => if m < y then y else m) w)) := a17 (k := k + 6) (by omega) hw hw0
  have A18 : An fuel (k + 7) 18 [rowD r] (rowD r) := a18 (k := k + 6) (by omega) hr.na
  have A19 : An fuel (k + 7) 19 [rowD r, .int 3] (rowD (r.map (Item.scale 3))) := a19 (k := k + 6) (fun i => mo_r (by decide) (by decide)) (by omega)
  have hx3 : (r.map (Item.scale 3))[e]? = some (x.scale 3) := by rw [List.getElem?_map, hx]; rfl
  have hlen : (r.map (Item.scale 3)).length = r.length := List.length_map ..
  have es : sizesF (r.map (Item.scale 3)) (goF (r.map (Item.scale 3)) (r.map (Item.scale 3)).length jn) e = ((sizesF r (goF r r.length jn) e).1 * 3, (sizesF r (goF r r.length jn) e).2.1 * 3, (sizesF r (goF r r.length jn) e).2.2 * 3) := by
    rw [go_scale, sizes_scale, hlen]
  have hml : ∀ x ∈ lineOf r (goF r r.length jn) e, x.small := fun x hx => lo.sm x (List.mem_of_mem_drop (List.mem_of_mem_take hx))
  have hs := sums_ok hml
  have hln : (lineOf r (goF r r.length jn) e).length ≤ 900 := by have := lo.len; unfold lineOf; rw [List.length_take, List.length_drop]; omega
  have A10 : An fuel (k + 7) 10 [rowD (r.map (Item.scale 3)), .int i, .int e, .int (3 * m)] (opD (lineP r jn e m)) := by
    have := a10 (fuel := fuel) (k := k + 3) (r := r.map (Item.scale 3)) (m := 3 * m) lo.ij hf (by rw [hlen]; omega) hx3 (by rw [es, sizes_L]; dsimp only; omega) (by rw [es, sizes_L]; dsimp only; omega) (by rw [es, sizes_L]; dsimp only; omega) (by rw [es, sizes_L]; dsimp only; omega)
    rw [es, ratio_scale] at this
    exact this
  have P7 := fun env h h' => p7 (P := PL fuel k) (env := env) (r := r) h (by omega) h'
  have P9 := fun env h h' => p9 (P := PL fuel k) (env := env) (r := r) h (by omega) h'
  have P11 := fun env h h' => p11 (P := PL fuel k) (env := env) (r := r) h (by omega) h'
  have P12 := fun env h h' => p12 (P := PL fuel k) (env := env) (r := r) h (by omega) h'
  have P14 := fun env h h' => p14 (P := PL fuel k) (env := env) (r := r) h (by omega) h'
  have P16 := fun env h h' => p16 (P := PL fuel k) (env := env) (r := r) h (by omega) h'
  obtain ⟨q, hq⟩ : ∃ q, r.length = q + 1 := by
    obtain ⟨pre, e⟩ := hr.last
    exact ⟨pre.length, by rw [e]; simp⟩
  have P13 := fun env h h' => p13 (P := PL fuel k) (env := env) (r := r) h (by omega) hq hr.na h'
  have hmax : biF .max1 [.lst ((r.filter fun x => x.isBox).map fun x => D.int x.wid)] = some (.val (.int (ws.foldl (fun m y => if m < y then y else m) w))) := by
    show ((asInts _).bind maxI).map _ = _
    rw [asInts_map, hw]; rfl
  have hany : asBools ((List.range q).map fun _ => D.bl false) = some ((List.range q).map fun _ => false) := asB_map
  have hany2 : ((List.range q).map fun _ => false).any id = false := by rw [List.any_eq_false]; intro b hb; simp at hb; simp [hb.2]
  have q1 := (ints_q (f := fun x : Item => x.wid * 3) (xs := r)).refl (by decide)
  have q2 := (op_q (lineP r jn e m)).refl (by decide)
  have m3 : fBin .mul (.int 3) (.int m) = some (.val (.int (3 * m))) := fb_mul (mo_l (by decide) (by decide))
  have hnat : asInts ((r.filter fun x => !x.isPen).map fun x => D.int x.wid) = some ((r.filter fun x => !x.isPen).map Item.wid) := asInts_map
  refine ⟨none, ?_⟩
  simp [-s_lc, q33_21, q33_22, q33_23, q33_24, q33_25, A16.c1, A17.c1, A18.c1, A19.c2, A10.c4, P7, P9, P11, P12, P13, P14, P16, hmax, hany, hany2, q1, q2, m3, hnat, natF]
end Ev
end
section
set_option maxRecDepth 100000
set_option maxHeartbeats 8000000
namespace Ev
open PySem
variable {fuel k : Nat}
theorem draw_call1 {F : CF} {j i : Nat} {st st' r : D} {env outs : Env} (hst : env[i]? = some (some (.own st)))
    (h : F j [.own st] = .ret (.val r) (some (.own st') :: outs)) : callM F j [true] [.own i] env = .ok (.val r) (env.set i (some (.own st'))) := by
  unfold callM
  simp only [freezeAll, Out.bind_ok, paramsOf, hst, h, lentOf, backOuts]
  cases outs <;> simp [backOuts]
theorem at_mem {α : Type} {xs : List α} {i : Nat} (h : i < xs.length) : ∃ d, L2.atI xs (i : Int) = some d ∧ d ∈ xs :=
  ⟨xs[i], atI_lit (List.getElem?_eq_getElem h), List.getElem_mem h⟩
theorem cut_m1 {α : Type} {xs : List α} : cutD xs none (some (-1)) = xs.dropLast := by
  have h1 : HT.sIx xs.length 0 none = 0 := rfl
  have h2 : HT.sIx xs.length xs.length (some (-1)) = xs.length - 1 := by
    show (if (-1 : Int) < 0 then ((-1 : Int) + (xs.length : Int)).toNat else min (-1 : Int).toNat xs.length) = _
    rw [if_pos (by decide)]; omega
  unfold cutD
  rw [h1, h2, List.drop_zero, List.dropLast_eq_take, Nat.sub_zero]
def rows5 (r : List Item) : List D := [.tup [], .tup (r.dropLast.map Item.d), .lst (r.map Item.d), .tup (r.map Item.d ++ [.int 5]), .non]
theorem rows5_no {r : List Item} (hr : RowF r) {d : D} (h : d ∈ rows5 r) : An fuel (k + 3) 4 [d] (.bl false) := by
  simp only [rows5, List.mem_cons, List.not_mem_nil, or_false] at h
  rcases h with rfl | rfl | rfl | rfl | rfl
  · exact a4a (k := k + 2)
  · obtain ⟨pre, e⟩ := hr.last2
    have ok : ∀ x ∈ r.dropLast, x.ok = true := fun x hx => small_ok (hr.sm x ((List.dropLast_sublist r).subset hx))
    rw [e] at ok ⊢
    exact a4b ok
  · exact a4c (k := k + 2)
  · exact a4d fun x hx => small_ok (hr.sm x hx)
  · exact a4e (k := k + 2)
theorem sF {d st : D} {r : List Item} {a s4 s11 s12 s13 s14 s15 s16 s17 s18 s19 s20 s21 : Option Sl} {e jn : Nat} {i m : Int} (hs : IsSt st) (hr : RowF r) :
    ∃ env', evSs (PL fuel k) q33_26 [some (.val d), some (.own st), some (.val (rowD r)), some (.own (.lst ((placesOf r).map fun i : Nat => D.int i))), s4, some (.own (.lst (.int (-1) :: (placesOf r).map fun i : Nat => D.int i))), a, some (.val (.int (e : Nat))), some (.val (.int i)), some (.val (.int m)), some (.val (opD (lineP r jn e m))), s11, s12, s13, s14, s15, s16, s17, s18, s19, s20, s21, some (.val (rowD (r.map (Item.scale 3)))), some (.val (rowD r)), none, none] = .ok (.ret (.val (.bl true))) env' := by
  have hl := hr.len
  obtain ⟨g1, st1, h1, b1, c1⟩ := drN (fuel := fuel) (k := k + 6) hs (L := 9) (by decide) (by decide)
  obtain ⟨g2, st2, h2, b2, c2⟩ := drN (fuel := fuel) (k := k + 6) h1 (L := 5) (by decide) (by decide)
  obtain ⟨st3, outs, h3, c3⟩ := a32 (fuel := fuel) (k := k + 5) h2
  have c3 : ∀ i env, env[i]? = some (some (.own st2)) → callM (callF fs (exmT exmt) fuel (k + 7)) 32 F32.lend [.own i] env = .ok (.val (.bl true)) (env.set i (some (.own st3))) := fun i env he => draw_call1 he c3
  have A20 : An fuel (k + 7) 20 [rowD r] (.str (txF r)) := a20 (k := k + 6) hr.sm (by omega)
  have P19 := fun env h h' => p19 (P := PL fuel k) (env := env) (r := r) h (by omega) hr.sm h'
  have P20 := fun env h h' => p20 (fuel := fuel) (k := k + 5) (env := env) (r := r) h (by omega) hr.sm h'
  have j1 := sm_join (a := " ") (xs := r) (f := itTx) (txs_sum hr.sm (by omega))
  have j2 : Str.join " " (r.map itTx) = txF r := rfl
  have q1 := eq_str (tx_ok r)
  obtain ⟨o, ho, hom⟩ := at_mem (xs := oddsD) (i := g1) (by have : oddsD.length = 9 := rfl; omega)
  have A3 : An fuel (k + 7) 3 [o] (.bl false) := odd_run (k := k + 5) hom
  obtain ⟨p, hp, hpm⟩ := at_mem (xs := rows5 r) (i := g2) (by have : (rows5 r).length = 5 := rfl; omega)
  have A4 : An fuel (k + 7) 4 [p] (.bl false) := rows5_no (k := k + 4) hr hpm
  have hall : asBools (r.map fun _ => D.bl true) = some (r.map fun _ => true) := asB_map
  have hall2 : (r.map fun _ => true).all id = true := by rw [List.all_eq_true]; intro b hb; simp at hb; simp [hb.2]
  have cat : fBin .add (.tup (r.map Item.d)) (.tup [.int 5]) = some (.val (.tup (r.map Item.d ++ [.int 5]))) := fb_cat (by rw [List.length_map]; simp; omega)
  have cut : cutD (r.map Item.d) none (some (-1)) = (r.map Item.d).dropLast := cut_m1
  simp only [rows5, List.map_dropLast] at hp
  simp only [oddsD] at ho
  simp only [rowD] at *
  simp [-s_lc, q33_26, q33_27, q33_28, q33_29, c1, c2, c3, A20.c1, P19, P20, j1, j2, q1, ho, A3.c1, hp, A4.c1, hall, hall2, cat, cut]
theorem run0 (hf : 2 ^ 62 ≤ fuel) : RunOk fs exmt fuel (k + 8) 33 63 := by
  rintro ns hn hz d hd
  rw [o33]
  obtain ⟨st1, r, h1, hr, e1⟩ := sA (fuel := fuel) (k := k) hd
  obtain ⟨st2, a, e, i, jn, m, h2, lo, hm, e2⟩ := sB (fuel := fuel) (k := k) (d := d) h1 hr hf
  obtain ⟨s4, s11, s12, s13, s14, s15, s16, e3⟩ := sC (fuel := fuel) (k := k) (d := d) (st := st2) (a := a) hr lo hm hf
  obtain ⟨st4, s17, s18, s19, s20, h4, e4⟩ := sD (fuel := fuel) (k := k) (d := d) (r := r) (a := a) (s4 := s4) (s11 := s11) (s12 := s12) (s13 := s13) (s14 := s14) (s15 := s15) (s16 := s16) (e := e) (jn := jn) (i := i) (m := m) h2 hf
  obtain ⟨s21, e5⟩ := sE (fuel := fuel) (k := k) (d := d) (st := st4) (a := a) (s4 := s4) (s11 := s11) (s12 := s12) (s13 := s13) (s14 := s14) (s15 := s15) (s16 := s16) (s17 := s17) (s18 := s18) (s19 := s19) (s20 := s20) hr lo hm hf
  obtain ⟨env', e6⟩ := sF (fuel := fuel) (k := k) (d := d) (a := a) (s4 := s4) (s11 := s11) (s12 := s12) (s13 := s13) (s14 := s14) (s15 := s15) (s16 := s16) (s17 := s17) (s18 := s18) (s19 := s19) (s20 := s20) (s21 := s21) (e := e) (jn := jn) (i := i) (m := m) h4 hr
  have eb : F33.body = q33_0 := rfl
  rw [eb, e1, e2, e3, e4, e5, e6]
  exact ⟨_, rfl⟩
end Ev
end
section
set_option maxRecDepth 100000
set_option maxHeartbeats 8000000
namespace Ev
theorem run : RunOk fs exmt 4611686018427387904 20 33 63 := run0 (fuel := 4611686018427387904) (k := 12) (by decide)
end Ev
open PySem PySem.W PyProof.Rows
theorem PySem.Challenge.cw_linesfitted_k07_boxes_glue_and_penalties_holds : PySem.Challenge.rw_linesfitted_k07_boxes_glue_and_penalties.Holds := by
  w_on; o_law; k_head; (case hw => w_witness2); k_fill
  refine Ev.walk_ev (kk := 20) (fuel := 4611686018427387904) (li := 33) (G := Ev.G) (Ts := Ev.Ts) (fs := Ev.fs) (t := Ev.exmt) (T := Ev.T33) (x := "script") (by decide +kernel) (by decide +kernel) rfl ⟨rfl, by decide, by decide⟩ (fun w h Y => PySem.W.kIn_of Y) ?hrec ?says rfl rfl rfl Ev.run
  case hrec => decide +kernel
  case says => exact fun P => Ev.says (by kernel_rfl) ⟨by unfold Ev.fdEq; kernel_rfl, by unfold Ev.fdEq; kernel_rfl, by unfold Ev.fdEq; kernel_rfl, by unfold Ev.fdEq; kernel_rfl, by unfold Ev.fdEq; kernel_rfl, by unfold Ev.fdEq; kernel_rfl, by unfold Ev.fdEq; kernel_rfl, by unfold Ev.fdEq; kernel_rfl, by unfold Ev.fdEq; kernel_rfl, by unfold Ev.fdEq; kernel_rfl, by unfold Ev.fdEq; kernel_rfl, by unfold Ev.fdEq; kernel_rfl, by unfold Ev.fdEq; kernel_rfl, by unfold Ev.fdEq; kernel_rfl, by unfold Ev.fdEq; kernel_rfl, by unfold Ev.fdEq; kernel_rfl, by unfold Ev.fdEq; kernel_rfl, by unfold Ev.fdEq; kernel_rfl, by unfold Ev.fdEq; kernel_rfl, by unfold Ev.fdEq; kernel_rfl, by unfold Ev.fdEq; kernel_rfl, by unfold Ev.fdEq; kernel_rfl, by unfold Ev.fdEq; kernel_rfl, by unfold Ev.fdEq; kernel_rfl, by unfold Ev.fdEq; kernel_rfl, by unfold Ev.fdEq; kernel_rfl, by unfold Ev.fdEq; kernel_rfl, by unfold Ev.fdEq; kernel_rfl, by unfold Ev.fdEq; kernel_rfl, by unfold Ev.fdEq; kernel_rfl, by unfold Ev.fdEq; kernel_rfl, by unfold Ev.fdEq; kernel_rfl, by unfold Ev.fdEq; kernel_rfl, by unfold Ev.fdEq; kernel_rfl⟩
end
