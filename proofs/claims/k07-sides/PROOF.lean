import PyProof.Rows.All
import Wide.All
import OpenK.AllK
import Wide.FinOn
import HandS.ForMost
import HandS.Exc
import HandS.TryOnly
import HandS.ExcOwn
import HandS.ExcCtx
import HandS.HotCalls
import HandS.WordsExc
import HandS.Lambda
import HandS.TupAny
import HandS.TupLe
import HandS.TupMul
import HandS.Wide
import HandS.Deep
import HandS.IsInst
import HandS.Conv
import HandS.Zip
import HandS.Style
import HandS.Flow
import HandS.TupSets
import HandS.SortOrd
import HandS.SortInts
import PyProof.TupleOfSeq
import HandS.SetFor
import KE.KTupSum
import HandS.Strs
import KE.GoesMore
import KE.GoesZip
import KE.GoesEnum
import HandS.Comp
import HandS.Defaults
import HandS.ExcIs
import HandS.Text
import HandS.Words
import KE.KStateDown
import HandS.Head0
import HandS.Head1
import HandS.Head2
import HandS.HeadEnd
import HandS.HeadHook1
import HandS.HeadHook2
import HandS.HeadHook4
import HandS.HeadWalk
import PySem.Challenge.RW_onlycoming_k07_whole_sides_and_tasks
set_option Elab.async false
set_option linter.all false
set_option maxRecDepth 100000
/-! Cor: a small core language with value semantics, and its evaluator. -/
namespace Cor
open PySem (Str)

/-! ### data -/
inductive D where
  | non | bl (b : Bool) | int (i : Int) | str (x : Str) | tup (l : List D) | lst (l : List D) | dct (l : List (D × D)) | fn (i : Nat)
  deriving Inhabited

structure Exc where
  cls : Str
  arg : Option Int := none

/-- a name's place: without a value; shared data; a list (dict) of the frame's own; the caller's list, changed in place -/
inductive Sl where
  | un | sh (d : D) | ow (d : D) | io (d : D)
  deriving Inhabited
abbrev Env := List Sl

inductive R (α : Type) where
  | ok (a : α) | ex (x : Exc) (e : Env) | bad
def R.bind {α β : Type} (x : R α) (f : α → R β) : R β := match x with
  | .ok a => f a
  | .ex x e => .ex x e
  | .bad => .bad
@[simp] theorem R.bind_ok {α β : Type} (a : α) (f : α → R β) : (R.ok a).bind f = f a := rfl
@[simp] theorem R.bind_ex {α β : Type} (x : Exc) (e : Env) (f : α → R β) : (R.ex x e : R α).bind f = .ex x e := rfl
@[simp] theorem R.bind_bad {α β : Type} (f : α → R β) : (R.bad : R α).bind f = .bad := rfl
def R.opt {α : Type} : Option α → R α
  | some a => .ok a
  | none => .bad
@[simp] theorem R.opt_some {α : Type} (a : α) : R.opt (some a) = .ok a := rfl
@[simp] theorem R.opt_none {α : Type} : R.opt (none : Option α) = .bad := rfl

/-! ### the language -/
inductive BOp where
  | add | sub | mul | fdiv | mod | pow
  deriving DecidableEq
inductive COp where
  | lt | le | gt | ge | eq | ne | mem | nmem | is | isn
  deriving DecidableEq
inductive Blt where
  | len | all | any | sum | sorted | sset | tuple | list | min | max | int | str | bool | dict
  deriving DecidableEq
inductive Kd where
  | bool | int | str | list | tuple
  deriving DecidableEq
inductive Mth where
  | index | indexT | get | pop | count | remove | keys
  deriving DecidableEq
inductive Tg where
  | name (i : Nat)
  | tup (l : List Tg)
mutual
inductive CE where
  | var (i : Nat) | lit (d : D) | glo (x : Str) (d : D)
  | bin (o : BOp) (a b : CE) | neg (a : CE) | cmp (o : COp) (a b : CE)
  | chn (o p : COp) (a b c : CE) | chn3 (o p q : COp) (a b c d : CE)
  | band (a b : CE) | bor (a b : CE) | bnot (a : CE) | ife (c a b : CE)
  | tup (es : List CE) | lst (es : List CE)
  | idx (a b : CE) | slL (a lo : CE) | slU (a hi : CE) | slB (a lo hi : CE) | rvs (a : CE)
  | comp (elt : CE) (tg : Tg) (it : It) (ifs : List CE) (own : List Nat)
  | call (f : Nat) (es : List CE) | cio (f : Nat) (i : Nat) (es : List CE) | cval (i : Nat) (es : List CE)
  | blt (b : Blt) (es : List CE) | isi (a : CE) (ks : List Kd)
  | mth (m : Mth) (a : CE) (es : List CE) | mut (m : Mth) (i : Nat) (es : List CE)
  | dsp (ks vs : List CE)
  | tryl (e : CE)
  | lenset (a : CE)
inductive It where
  | seq (e : CE) | rng1 (a : CE) | rng2 (a b : CE) | zip (a b : CE) | enm (a : CE)
end
inductive CS where
  | asg (tg : Tg) (e : CE) | par (is : List Nat) (es : List CE) | setI (i : Nat) (ix e : CE) | app (i : Nat) (e : CE)
  | exp (e : CE) | ret (e : CE) | retN
  | ite (c : CE) (t e : List CS) | for_ (tg : Tg) (it : It) (b : List CS) | whl (c : CE) (b : List CS)
  | rse (cls : Str) (arg : List CE)
/-- a def: how many parameters, how many slots, whether the first parameter is changed in place, its body -/
structure FD where
  np : Nat
  ns : Nat
  io : Bool
  body : List CS

/-! ### operations on data -/
def szL : Nat := 16777216
def b2i (b : Bool) : Int := if b then 1 else 0
def D.isNon : D → Bool
  | .non => true
  | _ => false
def D.isLst : D → Bool
  | .lst _ => true
  | .dct _ => true
  | _ => false
def D.items? : D → Option (List D)
  | .lst l => some l
  | .tup l => some l
  | _ => none
def D.walk? : D → Option (List D)
  | .lst l => some l
  | .tup l => some l
  | .dct kvs => some (kvs.map (·.1))
  | _ => none
def D.int? : D → Option Int
  | .int i => some i
  | _ => none
def D.bl? : D → Option Bool
  | .bl b => some b
  | _ => none
def D.ints? (l : List D) : Option (List Int) := l.mapM D.int?
def D.tupInts? : D → Option (List Int)
  | .tup l => D.ints? l
  | _ => none
mutual
def D.toPy : D → PySem.PyData
  | .non => .none
  | .bl b => .bool b
  | .int i => .int i
  | .str x => .str x
  | .tup l => .tuple (D.toPys l)
  | .lst l => .list (D.toPys l)
  | .dct _ => .dict []
  | .fn _ => .dict []
def D.toPys : List D → List PySem.PyData
  | [] => []
  | d :: r => d.toPy :: D.toPys r
end
def D.ok (d : D) : Bool := PySem.SeqAt.shaped d.toPy
def eqD (a b : D) : Bool := PySem.PyData.eqv a.toPy b.toPy
def D.kv? : D → Option (D × D)
  | .tup [k, v] => if k.ok then some (k, v) else none
  | _ => none
def D.truth : D → Option Bool
  | .non => some false
  | .bl b => some b
  | .int i => some (i != 0)
  | .lst l => some (!l.isEmpty)
  | .tup l => some (!l.isEmpty)
  | _ => none
def mulOk (i j : Int) : Bool := decide ((-(2 ^ 64) < i ∧ i < 2 ^ 64) ∨ (-(2 ^ 64) < j ∧ j < 2 ^ 64))
def divOk (_i j : Int) : Bool := decide (0 < j ∧ j < 2 ^ 30)
def powOk (i j : Int) : Bool := decide (0 ≤ j ∧ j ≤ 1000 ∧ i.natAbs < 2 ^ 64)
def repL (l : List D) (k : Int) : List D := (List.replicate k.toNat l).flatten
def binD : BOp → D → D → Option D
  | .add, .int i, .int j => some (.int (i + j))
  | .sub, .int i, .int j => some (.int (i - j))
  | .mul, .int i, .int j => if mulOk i j then some (.int (i * j)) else none
  | .fdiv, .int i, .int j => if divOk i j then some (.int (i / j)) else none
  | .mod, .int i, .int j => if 0 < j then some (.int (i % j)) else none
  | .pow, .int i, .int j => if powOk i j then some (.int (i ^ j.toNat)) else none
  | .add, .lst a, .lst b => if a.length + b.length ≤ szL then some (.lst (a ++ b)) else none
  | .add, .tup a, .tup b => if a.length + b.length ≤ szL then some (.tup (a ++ b)) else none
  | .mul, .tup a, .int k => if 0 < a.length ∧ 2 ≤ k ∧ k ≤ 1000 ∧ a.length ≤ 1000 then some (.tup (repL a k)) else none
  | .mul, .lst a, .int k => if 0 ≤ k ∧ k ≤ 1000 ∧ a.length ≤ 1000 then some (.lst (repL a k)) else none
  | .add, .str a, .str b => if a.length + b.length ≤ szL then some (.str (a ++ b)) else none
  | _, _, _ => none
def cmpD : COp → D → D → Option Bool
  | .lt, .int i, .int j => some (decide (i < j))
  | .le, .int i, .int j => some (decide (i ≤ j))
  | .gt, .int i, .int j => some (decide (j < i))
  | .ge, .int i, .int j => some (decide (j ≤ i))
  | .lt, .tup a, .tup b => match D.ints? a, D.ints? b with
    | some x, some y => some (HT.lexLt x y)
    | _, _ => none
  | .gt, .tup a, .tup b => match D.ints? a, D.ints? b with
    | some x, some y => some (HT.lexLt y x)
    | _, _ => none
  | .eq, .dct a, .dct [] => some a.isEmpty
  | .eq, a, b => if a.ok && b.ok then some (eqD a b) else none
  | .ne, a, b => if a.ok && b.ok then some (!eqD a b) else none
  | .mem, a, .lst l => if a.ok && (D.lst l).ok then some (l.any fun z => eqD z a) else none
  | .mem, a, .tup l => if a.ok && (D.tup l).ok then some (l.any fun z => eqD z a) else none
  | .nmem, a, .lst l => if a.ok && (D.lst l).ok then some (!l.any fun z => eqD z a) else none
  | .nmem, a, .tup l => if a.ok && (D.tup l).ok then some (!l.any fun z => eqD z a) else none
  | .mem, a, .dct kvs => if a.ok && kvs.all (fun p => p.1.ok) then some (kvs.any fun p => eqD p.1 a) else none
  | .nmem, a, .dct kvs => if a.ok && kvs.all (fun p => p.1.ok) then some (!kvs.any fun p => eqD p.1 a) else none
  | .is, a, .non => some a.isNon
  | .isn, a, .non => some (!a.isNon)
  | .is, .bl a, .bl b => some (a == b)
  | .isn, .bl a, .bl b => some (!(a == b))
  | _, _, _ => none
abbrev ixN (n : Nat) (i : Int) : Option Nat := L2.ixN n i
abbrev atI {α : Type} (xs : List α) (i : Int) : Option α := L2.atI xs i
abbrev sIx (n d : Nat) (i : Option Int) : Nat := HT.sIx n d i
def lookD (k : D) : List (D × D) → Option D
  | [] => none
  | (a, v) :: r => if eqD a k then some v else lookD k r
def putD (k v : D) : List (D × D) → List (D × D)
  | [] => [(k, v)]
  | (a, u) :: r => if eqD a k then (a, v) :: r else (a, u) :: putD k v r
def dropD (k : D) : List (D × D) → List (D × D)
  | [] => []
  | (a, u) :: r => if eqD a k then r else (a, u) :: dropD k r
def idxD : D → D → Option D
  | .lst l, .int i => atI l i
  | .tup l, .int i => atI l i
  | .dct kvs, k => if k.ok && kvs.all (fun p => p.1.ok) then lookD k kvs else none
  | _, _ => none
def cut {α : Type} (xs : List α) (lo hi : Option Int) : List α := (xs.drop (sIx xs.length 0 lo)).take (sIx xs.length xs.length hi - sIx xs.length 0 lo)
def slcD : D → Option Int → Option Int → Option D
  | .lst l, lo, hi => some (.lst (cut l lo hi))
  | .tup l, lo, hi => some (.tup (cut l lo hi))
  | _, _, _ => none
def rvsD : D → Option D
  | .lst l => some (.lst l.reverse)
  | .tup l => some (.tup l.reverse)
  | _ => none
/-- sorting -/
def ins {α : Type} (le : α → α → Bool) (x : α) : List α → List α
  | [] => [x]
  | y :: r => if le x y then x :: y :: r else y :: ins le x r
def isort {α : Type} (le : α → α → Bool) : List α → List α
  | [] => []
  | x :: r => ins le x (isort le r)
def leI (i j : Int) : Bool := decide (i ≤ j)
def leT (a b : List Int) : Bool := !HT.lexLt b a
def dedup {α : Type} [DecidableEq α] : List α → List α
  | [] => []
  | x :: r => if x ∈ r then dedup r else x :: dedup r
def tI (l : List Int) : D := .tup (l.map D.int)
def sortD (l : List D) : Option D := match D.ints? l with
  | some ns => some (.lst ((isort leI ns).map D.int))
  | none => match l.mapM D.tupInts? with
    | some ts => if ts.all (fun t => !t.isEmpty) then some (.lst ((isort leT ts).map tI)) else none
    | none => none
def ssetD (l : List D) : Option D := match D.ints? l with
  | some ns => if ns.length < 64 then some (.lst ((isort leI (dedup ns)).map D.int)) else none
  | none => match l.mapM D.tupInts? with
    | some ts => if ts.length < 64 ∧ ts.all (fun t => !t.isEmpty) then some (.lst ((isort leT (dedup ts)).map tI)) else none
    | none => none
def minI : List Int → Option Int
  | [] => none
  | x :: r => some (r.foldl (fun m y => if y < m then y else m) x)
def maxI : List Int → Option Int
  | [] => none
  | x :: r => some (r.foldl (fun m y => if m < y then y else m) x)
def bltD : Blt → List D → Option D
  | .len, [.lst l] => some (.int l.length)
  | .len, [.tup l] => some (.int l.length)
  | .len, [.dct l] => some (.int l.length)
  | .all, [.lst l] => (l.mapM D.bl?).map fun bs => .bl (bs.all id)
  | .any, [.lst l] => (l.mapM D.bl?).map fun bs => .bl (bs.any id)
  | .sum, [.lst l] => (D.ints? l).map fun ns => .int ns.sum
  | .sum, [.tup l] => (D.ints? l).map fun ns => .int ns.sum
  | .sorted, [.lst l] => sortD l
  | .sorted, [.tup l] => sortD l
  | .sset, [.lst l] => ssetD l
  | .sset, [.tup l] => ssetD l
  | .tuple, [.lst l] => some (.tup l)
  | .tuple, [.tup l] => some (.tup l)
  | .list, [.lst l] => some (.lst l)
  | .list, [.tup l] => some (.lst l)
  | .list, [.dct l] => some (.lst (l.map (·.1)))
  | .len, [.str x] => if x.length ≤ szL then some (.int x.length) else none
  | .min, [.int i, .int j] => some (.int (if j < i then j else i))
  | .max, [.int i, .int j] => some (.int (if j > i then j else i))
  | .min, [.lst l] => ((D.ints? l).bind minI).map D.int
  | .max, [.lst l] => ((D.ints? l).bind maxI).map D.int
  | .int, [.int i] => some (.int i)
  | .int, [.bl b] => some (.int (b2i b))
  | .dict, [.lst l] => (l.mapM D.kv?).map fun ps => .dct (ps.foldl (fun a p => putD p.1 p.2 a) [])
  | _, _ => none
/-- len(set(l)), a list of ints -/
def lsetD : D → Option D
  | .lst l => match D.ints? l with
    | some ns => if ns.length ≤ 4000 then some (.int (PyProof.Rows.firstMet (fun i => ns.getD i 0) ns.length).length) else none
    | none => none
  | _ => none
def kdOf : D → Option Kd
  | .bl _ => some .bool
  | .int _ => some .int
  | .str _ => some .str
  | .lst _ => some .list
  | .tup _ => some .tuple
  | _ => none
def isKd (d : D) (k : Kd) : Bool := match kdOf d, k with
  | some .bool, .int => true
  | some a, b => decide (a = b)
  | none, _ => false
def isiD (d : D) (ks : List Kd) : Option Bool := match d with
  | .fn _ => none
  | .dct _ => none
  | d => some (ks.any (isKd d))
def idxOf (k : D) : List D → Nat → Option Nat
  | [], _ => none
  | a :: r, n => if eqD a k then some n else idxOf k r (n + 1)
def mthD : Mth → D → List D → Option D
  | .index, .lst l, [k] => if k.ok && (D.lst l).ok then (idxOf k l 0).map fun n => .int n else none
  | .indexT, .tup l, [k] => if k.ok && (D.tup l).ok then (idxOf k l 0).map fun n => .int n else none
  | .get, .dct kvs, [k, v] => if k.ok && kvs.all (fun p => p.1.ok) then some ((lookD k kvs).getD v) else none
  | _, _, _ => none

/-! ### the names' places -/
def asgSlot (i : Nat) (s : Sl) (env : Env) : Option Env := match env[i]? with
  | some (.io _) => none
  | some _ => some (env.set i s)
  | none => none
mutual
def asgT : Tg → D → Env → Option Env
  | .name i, d, env => asgSlot i (.sh d) env
  | .tup l, d, env => match d with
    | .tup ds => asgTs l ds env
    | _ => none
def asgTs : List Tg → List D → Env → Option Env
  | [], [], env => some env
  | t :: ts, d :: ds, env => (asgT t d env).bind fun env' => asgTs ts ds env'
  | _, _, _ => none
end
inductive Opd where
  | v (d : D) | s (i : Nat)
def Opd.get (env : Env) : Opd → Option D
  | .v d => some d
  | .s i => (match env[i]? with
    | some (.ow d) => some d
    | some (.io d) => some d
    | some (.sh d) => some d
    | _ => none)
/-- a name read as a value: the frame's own list is shared from now on -/
def rdVar (i : Nat) (env : Env) : R (D × Bool × Env) := match env[i]? with
  | some (.sh d) => .ok (d, false, env)
  | some (.ow d) => .ok (d, false, env.set i (.sh d))
  | _ => .bad
/-- a name read in a place that keeps nothing -/
def rdOpd (i : Nat) (env : Env) : R (Opd × Env) := match env[i]? with
  | some (.sh d) => .ok (.v d, env)
  | some (.ow _) => .ok (.s i, env)
  | some (.io _) => .ok (.s i, env)
  | _ => .bad
def wipe (env : Env) : List Nat → Env
  | [] => env
  | v :: vs => (wipe env vs).set v .un
/-- the own slots of a comprehension's block as they were ahead of it -/
def unwipe (env0 env : Env) : List Nat → Env
  | [] => env
  | v :: vs => (unwipe env0 env vs).set v (match env0[v]? with
    | some (.sh d) => .sh d
    | _ => .un)

/-! ### results of calls -/
inductive RF where
  | ok (d : D) (fr : Bool) (io : Option D) | ex (x : Exc) | bad
abbrev CF := Nat → List D → RF
def kin (c : Str) : Option Str :=
  ([("InvalidWeb", "web +"), ("InvalidLine", "line +"), ("InvalidNode", "node +"), ("InvalidWalk", "walk +"), ("InvalidNumbers", "numbers +"), ("InvalidNumber", "number +"), ("InvalidHabit", "habit +"), ("InvalidSide", "side +"),
    ("InvalidTask", "task +"), ("InvalidMachines", "machines +"), ("InvalidFacts", "facts +"), ("InvalidText", "text +"), ("Done", "done +"), ("NothingToUndo", "undo +"), ("TooMany", "many +")] : List (Str × Str)).lookup c
def excD (x : Exc) : Option D := (kin x.cls).map fun s => match x.arg with
  | none => .str s
  | some n => .tup [.str s, .int n]

/-! ### expressions -/
/-- a method that changes the list (dict) of a name -/
def mutD : Mth → D → List D → Option (D × D)
  | .pop, .lst l, [] => (atI l (-1)).map fun d => (d, .lst l.dropLast)
  | .pop, .dct kvs, [k] => if k.ok && kvs.all (fun p => p.1.ok) then (lookD k kvs).map fun d => (d, .dct (dropD k kvs)) else none
  | .remove, .lst l, [k] => if k.ok && (D.lst l).ok then (idxOf k l 0).map fun n => (.non, .lst (l.eraseIdx n)) else none
  | _, _, _ => none
def mutS (m : Mth) (i : Nat) (ds : List D) (env : Env) : R (D × Bool × Env) := match env[i]? with
  | some (.ow d) => (match mutD m d ds with
    | some (r, d') => .ok (r, false, env.set i (.ow d'))
    | none => .bad)
  | _ => .bad
/-- an operand: a name is not shared by being read here -/
def opd (a : CE) (f : Env → R (D × Bool × Env)) (env : Env) : R (Opd × Env) := match a with
  | .var i => rdOpd i env
  | _ => (f env).bind fun (d, _, env) => .ok (.v d, env)
def ok3 (d : D) (env : Env) : R (D × Bool × Env) := .ok (d, d.isLst, env)
/-- nothing is raised out of a comprehension -/
def R.noex {α : Type} : R α → R α
  | .ok a => .ok a
  | _ => .bad
/-- the turns of a comprehension -/
def compL (asg : D → Env → Option Env) (tst : Env → R (Bool × Env)) (elt : Env → R (D × Bool × Env)) (own : List Nat) : List D → Env → List D → R (List D × Env)
  | [], env, acc => .ok (acc, env)
  | x :: r, env, acc => (R.opt (asg x (wipe env own))).bind fun env1 => (tst env1).noex.bind fun (k, env2) =>
    if k then (elt env2).noex.bind fun (d, _, env3) => if acc.length < szL then compL asg tst elt own r (unwipe env env3 own) (acc ++ [d]) else .bad
    else compL asg tst elt own r (unwipe env env2 own) acc
section
variable (cf : CF)
def callR (f : Nat) (ds : List D) (env : Env) : R (D × Bool × Env) := match cf f ds with
  | .ok d fr none => .ok (d, fr, env)
  | .ok _ _ (some _) => .bad
  | .ex x => .ex x env
  | .bad => .bad
def callIO (f i : Nat) (ds : List D) (env : Env) : R (D × Bool × Env) := match env[i]? with
  | some (.ow d0) => (match cf f (d0 :: ds) with
    | .ok d fr (some d1) => .ok (d, fr, env.set i (.ow d1))
    | _ => .bad)
  | some (.io d0) => (match cf f (d0 :: ds) with
    | .ok d fr (some d1) => .ok (d, fr, env.set i (.io d1))
    | _ => .bad)
  | _ => .bad
mutual
def ev : CE → Env → R (D × Bool × Env)
  | .var i, env => rdVar i env
  | .lit d, env => .ok (d, false, env)
  | .glo _ d, env => .ok (d, false, env)
  | .bin o a b, env => (opd a (ev a) env).bind fun (x, env) => (opd b (ev b) env).bind fun (y, env) => (R.opt (x.get env)).bind fun dx => (R.opt (y.get env)).bind fun dy => (R.opt (binD o dx dy)).bind fun d => ok3 d env
  | .neg a, env => (ev a env).bind fun (x, _, env) => match x with
    | .int i => .ok (.int (-i), false, env)
    | _ => .bad
  | .cmp o a b, env => (opd a (ev a) env).bind fun (x, env) => (opd b (ev b) env).bind fun (y, env) => (R.opt (x.get env)).bind fun dx => (R.opt (y.get env)).bind fun dy => (R.opt (cmpD o dx dy)).bind fun k => .ok (.bl k, false, env)
  | .chn o p a b c, env => (ev a env).bind fun (x, _, env) => (ev b env).bind fun (y, _, env) => (R.opt (cmpD o x y)).bind fun k =>
    if k then (ev c env).bind fun (z, _, env) => (R.opt (cmpD p y z)).bind fun k => .ok (.bl k, false, env) else .ok (.bl false, false, env)
  | .chn3 o p q a b c d, env => (ev a env).bind fun (x, _, env) => (ev b env).bind fun (y, _, env) => (R.opt (cmpD o x y)).bind fun k =>
    if k then (ev c env).bind fun (z, _, env) => (R.opt (cmpD p y z)).bind fun k =>
      if k then (ev d env).bind fun (u, _, env) => (R.opt (cmpD q z u)).bind fun k => .ok (.bl k, false, env) else .ok (.bl false, false, env)
    else .ok (.bl false, false, env)
  | .band a b, env => (ev a env).bind fun (x, _, env) => match x with
    | .bl true => ev b env
    | .bl false => .ok (.bl false, false, env)
    | _ => .bad
  | .bor a b, env => (ev a env).bind fun (x, _, env) => match x with
    | .bl true => .ok (.bl true, false, env)
    | .bl false => ev b env
    | _ => .bad
  | .bnot a, env => (ev a env).bind fun (x, _, env) => (R.opt x.truth).bind fun k => .ok (.bl (!k), false, env)
  | .ife c a b, env => (ev c env).bind fun (x, _, env) => (R.opt x.truth).bind fun k => if k then (ev a env).bind fun (d, _, env) => .ok (d, false, env) else (ev b env).bind fun (d, _, env) => .ok (d, false, env)
  | .tup es, env => (evs es env).bind fun (ds, env) => if ds.length ≤ szL then .ok (.tup ds, false, env) else .bad
  | .lst es, env => (evs es env).bind fun (ds, env) => if ds.length ≤ szL then .ok (.lst ds, true, env) else .bad
  | .idx a b, env => (opd a (ev a) env).bind fun (x, env) => (ev b env).bind fun (y, _, env) => (R.opt (x.get env)).bind fun dx => (R.opt (idxD dx y)).bind fun d => .ok (d, false, env)
  | .slL a lo, env => (opd a (ev a) env).bind fun (x, env) => (ev lo env).bind fun (y, _, env) => (R.opt (x.get env)).bind fun dx => (R.opt y.int?).bind fun i => (R.opt (slcD dx (some i) none)).bind fun d => ok3 d env
  | .slU a hi, env => (opd a (ev a) env).bind fun (x, env) => (ev hi env).bind fun (y, _, env) => (R.opt (x.get env)).bind fun dx => (R.opt y.int?).bind fun i => (R.opt (slcD dx none (some i))).bind fun d => ok3 d env
  | .slB a lo hi, env => (opd a (ev a) env).bind fun (x, env) => (ev lo env).bind fun (y, _, env) => (R.opt y.int?).bind fun i => (ev hi env).bind fun (z, _, env) => (R.opt z.int?).bind fun j => (R.opt (x.get env)).bind fun dx =>
    (R.opt (slcD dx (some i) (some j))).bind fun d => ok3 d env
  | .rvs a, env => (opd a (ev a) env).bind fun (x, env) => (R.opt (x.get env)).bind fun dx => (R.opt (rvsD dx)).bind fun d => ok3 d env
  | .comp elt tg it ifs own, env => (evI it env).bind fun (xs, env) => (compL (asgT tg) (evTs ifs) (ev elt) own xs env []).bind fun (ds, env) => .ok (.lst ds, true, env)
  | .call f es, env => (evs es env).bind fun (ds, env) => callR cf f ds env
  | .cio f i es, env => (rdOpd i env).bind fun (_, env) => (evs es env).bind fun (ds, env) => callIO cf f i ds env
  | .cval i es, env => (rdVar i env).bind fun (g, _, env) => match g with
    | .fn f => (evs es env).bind fun (ds, env) => callR cf f ds env
    | _ => .bad
  | .blt b es, env => (evOs es env).bind fun (xs, env) => (R.opt (xs.mapM (Opd.get env))).bind fun ds => (R.opt (bltD b ds)).bind fun d => ok3 d env
  | .isi a ks, env => (opd a (ev a) env).bind fun (x, env) => (R.opt (x.get env)).bind fun d => (R.opt (isiD d ks)).bind fun b => .ok (.bl b, false, env)
  | .mth m a es, env => (opd a (ev a) env).bind fun (x, env) => (evs es env).bind fun (ds, env) => (R.opt (x.get env)).bind fun dx => (R.opt (mthD m dx ds)).bind fun d => .ok (d, false, env)
  | .mut m i es, env => (evs es env).bind fun (ds, env) => mutS m i ds env
  | .lenset a, env => (opd a (ev a) env).bind fun (x, env) => (R.opt (x.get env)).bind fun dx => (R.opt (lsetD dx)).bind fun d => .ok (d, false, env)
  | .dsp ks vs, env => (evs ks env).bind fun (ks, env) => (evs vs env).bind fun (vs, env) => if ks.all D.ok then .ok (.dct ((ks.zip vs).foldl (fun a p => putD p.1 p.2 a) []), true, env) else .bad
  | .tryl e, env => match ev e env with
    | .ok (d, _, env) => .ok (.tup [.str "told", d], false, env)
    | .ex x env => (R.opt (if x.arg.isNone then excD x else none)).bind fun d => .ok (d, false, env)
    | .bad => .bad
def evp : List CE → Env → R (List (D × Bool) × Env)
  | [], env => .ok ([], env)
  | e :: r, env => (ev e env).bind fun (d, fr, env) => (evp r env).bind fun (ds, env) => .ok ((d, fr) :: ds, env)
def evs : List CE → Env → R (List D × Env)
  | [], env => .ok ([], env)
  | e :: r, env => (ev e env).bind fun (d, _, env) => (evs r env).bind fun (ds, env) => .ok (d :: ds, env)
def evOs : List CE → Env → R (List Opd × Env)
  | [], env => .ok ([], env)
  | e :: r, env => (opd e (ev e) env).bind fun (d, env) => (evOs r env).bind fun (ds, env) => .ok (d :: ds, env)
def evTs : List CE → Env → R (Bool × Env)
  | [], env => .ok (true, env)
  | e :: r, env => (ev e env).bind fun (d, _, env) => (R.opt d.truth).bind fun k => if k then evTs r env else .ok (false, env)
def evI : It → Env → R (List D × Env)
  | .seq e, env => (ev e env).bind fun (d, _, env) => (R.opt d.walk?).bind fun l => .ok (l, env)
  | .rng1 a, env => (ev a env).bind fun (d, _, env) => (R.opt d.int?).bind fun i => if -1000000 ≤ i ∧ i ≤ 1000000 then .ok ((List.range i.toNat).map fun k => D.int (k : Nat), env) else .bad
  | .rng2 a b, env => (ev a env).bind fun (d, _, env) => (R.opt d.int?).bind fun i => (ev b env).bind fun (d, _, env) => (R.opt d.int?).bind fun j =>
    if -1000000 ≤ i ∧ i ≤ 1000000 ∧ -1000000 ≤ j ∧ j ≤ 1000000 then .ok ((List.range (j - i).toNat).map fun k => D.int (i + (k : Nat)), env) else .bad
  | .zip a b, env => (ev a env).bind fun (d, _, env) => (ev b env).bind fun (d', _, env) => match d, d' with
    | .lst l, .lst l' => .ok ((l.zip l').map fun p => D.tup [p.1, p.2], env)
    | .tup l, .tup l' => .ok ((l.zip l').map fun p => D.tup [p.1, p.2], env)
    | .tup l, .lst l' => .ok ((l.zip l').map fun p => D.tup [p.1, p.2], env)
    | .lst l, .tup l' => .ok ((l.zip l').map fun p => D.tup [p.1, p.2], env)
    | _, _ => .bad
  | .enm a, env => (ev a env).bind fun (d, _, env) => (R.opt d.items?).bind fun l => .ok (l.zipIdx.map fun p => D.tup [.int (p.2 : Nat), p.1], env)
end
/-! ### statements -/
inductive F where
  | nx (env : Env) | rt (d : D) (fr : Bool) (env : Env) | ex (x : Exc) (env : Env) | bad
def R.st {α : Type} (x : R α) (f : α → F) : F := match x with
  | .ok a => f a
  | .ex x e => .ex x e
  | .bad => .bad
def F.opt : Option Env → F
  | some e => .nx e
  | none => .bad
def F.sq (x : F) (f : Env → F) : F := match x with
  | .nx env => f env
  | x => x
def asgV (tg : Tg) (d : D) (fr : Bool) (env : Env) : F := match tg with
  | .name i => F.opt (asgSlot i (if fr then .ow d else .sh d) env)
  | tg => F.opt (asgT tg d env)
def parS : List Nat → List (D × Bool) → Env → F
  | [], [], env => .nx env
  | i :: is, d :: ds, env => (F.opt (asgSlot i (if d.2 then .ow d.1 else .sh d.1) env)).sq fun env => parS is ds env
  | _, _, _ => .bad
def setD (x k v : D) : Option D := match x, k with
  | .lst l, .int i => (ixN l.length i).map fun j => .lst (l.set j v)
  | .dct kvs, k => if k.ok && kvs.all (fun p => p.1.ok) && decide (kvs.length < szL) then some (.dct (putD k v kvs)) else none
  | _, _ => none
/-- the name's list is its own -/
def ownL (i : Nat) (env : Env) : R Unit := match env[i]? with
  | some (.ow (.lst _)) => .ok ()
  | some (.io (.lst _)) => .ok ()
  | some (.ow (.dct _)) => .ok ()
  | _ => .bad
def upSlot (i : Nat) (f : D → Option D) (env : Env) : F := match env[i]? with
  | some (.ow d) => (match f d with
    | some d' => .nx (env.set i (.ow d'))
    | none => .bad)
  | some (.io d) => (match f d with
    | some d' => .nx (env.set i (.io d'))
    | none => .bad)
  | _ => .bad
def forL (asg : D → Env → Option Env) (body : Env → F) : List D → Env → F
  | [], env => .nx env
  | x :: r, env => (F.opt (asg x env)).sq fun env => (body env).sq fun env => forL asg body r env
def whlN (c : Env → R (Bool × Env)) (body : Env → F) : Nat → Env → F
  | 0, _ => .bad
  | n + 1, env => (c env).st fun (k, env) => if k then (body env).sq fun env => whlN c body n env else .nx env
/-- what a def hands back: a name's own list goes with it -/
def retE (e : CE) (f : Env → R (D × Bool × Env)) (env : Env) : F := match e with
  | .var i => (match env[i]? with
    | some (.ow d) => .rt d true env
    | some (.sh d) => .rt d false env
    | _ => .bad)
  | _ => (f env).st fun (d, fr, env) => .rt d fr env
variable (N : Nat)
mutual
def ex : CS → Env → F
  | .asg tg e, env => (ev cf e env).st fun (d, fr, env) => asgV tg d fr env
  | .par is es, env => (evp cf es env).st fun (ds, env) => parS is ds env
  | .setI i ix e, env => (ev cf e env).st fun (v, _, env) => (ownL i env).st fun _ => (ev cf ix env).st fun (k, _, env) => upSlot i (fun d => setD d k v) env
  | .app i e, env => (ownL i env).st fun _ => (ev cf e env).st fun (v, _, env) => upSlot i (fun d => match d with
    | .lst l => if l.length < szL then some (.lst (l ++ [v])) else none
    | _ => none) env
  | .exp e, env => (ev cf e env).st fun (_, _, env) => .nx env
  | .ret e, env => retE e (ev cf e) env
  | .retN, env => .rt .non false env
  | .ite c t e, env => (ev cf c env).st fun (x, _, env) => (R.opt x.truth).st fun k => if k then exs t env else exs e env
  | .for_ tg it b, env => (evI cf it env).st fun (xs, env) => forL (asgT tg) (exs b) xs env
  | .whl c b, env => whlN (fun env => (ev cf c env).bind fun (x, _, env) => (R.opt x.truth).bind fun k => .ok (k, env)) (exs b) N env
  | .rse cls es, env => (evs cf es env).st fun (ds, env) => match ds with
    | [.int n] => .ex ⟨cls, some n⟩ env
    | [.str _] => .ex ⟨cls, none⟩ env
    | _ => .bad
def exs : List CS → Env → F
  | [], env => .nx env
  | s :: r, env => (ex s env).sq fun env => exs r env
end
end
def initEnv (fd : FD) (ds : List D) : Env := (match fd.io, ds with
  | true, d :: r => .io d :: r.map .sh
  | _, ds => ds.map .sh) ++ List.replicate (fd.ns - fd.np) .un
def fin (io : Bool) (d : D) (fr : Bool) (env : Env) : RF := match io with
  | false => .ok d fr none
  | true => match (env[0]? : Option Sl) with
    | some (.io d0) => .ok d fr (some d0)
    | _ => .bad
def runF (N : Nat) (cf : CF) (fd : FD) (ds : List D) : RF :=
  if ds.length = fd.np then
    match exs cf N fd.body (initEnv fd ds) with
    | .nx env => fin fd.io .non false env
    | .rt d fr env => fin fd.io d fr env
    | .ex x _ => if fd.io then .bad else .ex x
    | .bad => .bad
  else .bad
/-- calls, k deep -/
def evC (T : List FD) (N : Nat) : Nat → CF
  | 0 => fun _ _ => .bad
  | k + 1 => fun f ds => match T[f]? with
    | some fd => runF N (evC T N k) fd ds
    | none => .bad
end Cor

set_option Elab.async false
set_option linter.all false
set_option maxRecDepth 100000
/-! Rel: how the core language's states stand in the machine's. -/
namespace Cor
open PySem PySem.Spec L2
open PyProof.Rows hiding St

/-! ### outcomes -/
def WpR {α : Type} (x : R α) (P : α → Prop) (E : Exc → Env → Prop) : Prop := match x with
  | .ok a => P a
  | .ex x e => E x e
  | .bad => False
theorem WpR.bind {α β : Type} {x : R α} {f : α → R β} {P : β → Prop} {E : Exc → Env → Prop} : WpR (x.bind f) P E ↔ WpR x (fun a => WpR (f a) P E) E := by
  cases x <;> exact Iff.rfl
theorem WpR.opt {α : Type} {x : Option α} {P : α → Prop} {E : Exc → Env → Prop} : WpR (R.opt x) P E ↔ ∃ a, x = some a ∧ P a := by
  cases x with
  | none => exact ⟨fun h => h.elim, fun ⟨_, h, _⟩ => by cases h⟩
  | some a => exact ⟨fun h => ⟨a, rfl, h⟩, fun ⟨_, h, q⟩ => by cases h; exact q⟩
theorem WpR.imp {α : Type} {x : R α} {P P' : α → Prop} {E E' : Exc → Env → Prop} (h : WpR x P E) (hp : ∀ a, P a → P' a) (he : ∀ x e, E x e → E' x e) : WpR x P' E' := by
  cases x with
  | ok a => exact hp a h
  | ex x e => exact he x e h
  | bad => exact h
def WpF (x : F) (N : Env → Prop) (T : D → Bool → Env → Prop) (E : Exc → Env → Prop) : Prop := match x with
  | .nx e => N e
  | .rt d fr e => T d fr e
  | .ex x e => E x e
  | .bad => False
theorem WpF.st {α : Type} {x : R α} {f : α → F} {N : Env → Prop} {T : D → Bool → Env → Prop} {E : Exc → Env → Prop} : WpF (x.st f) N T E ↔ WpR x (fun a => WpF (f a) N T E) E := by
  cases x <;> exact Iff.rfl
theorem WpF.sq {x : F} {f : Env → F} {N : Env → Prop} {T : D → Bool → Env → Prop} {E : Exc → Env → Prop} : WpF (x.sq f) N T E ↔ WpF x (fun e => WpF (f e) N T E) T E := by
  cases x <;> exact Iff.rfl
theorem WpF.opt {x : Option Env} {N : Env → Prop} {T : D → Bool → Env → Prop} {E : Exc → Env → Prop} : WpF (F.opt x) N T E ↔ ∃ e, x = some e ∧ N e := by
  cases x with
  | none => exact ⟨fun h => h.elim, fun ⟨_, h, _⟩ => by cases h⟩
  | some a => exact ⟨fun h => ⟨a, rfl, h⟩, fun ⟨_, h, q⟩ => by cases h; exact q⟩
theorem WpF.imp {x : F} {N N' : Env → Prop} {T T' : D → Bool → Env → Prop} {E E' : Exc → Env → Prop} (h : WpF x N T E) (hn : ∀ e, N e → N' e) (ht : ∀ d fr e, T d fr e → T' d fr e) (he : ∀ x e, E x e → E' x e) : WpF x N' T' E' := by
  cases x with
  | nx e => exact hn e h
  | rt d fr e => exact ht d fr e h
  | ex x e => exact he x e h
  | bad => exact h

/-! ### data in the heap -/
/-- a tuple at its place: its object bears no dict -/
def TupAt (G : Hp) (a : Addr) (vs : List V) : Prop := ∃ o : Obj, G a = some (.frz o (.tup vs)) ∧ o.dict = none
theorem TupAt.mono {G G' : Hp} {a : Addr} {vs : List V} (h : TupAt G a vs) (s : Same G G') : TupAt G' a vs := let ⟨o, e, d⟩ := h; ⟨o, s _ _ e, d⟩
theorem TupAt.sq {K : PySem.W.Frag} {G : Hp} {a : Addr} {vs : List V} (h : TupAt G a vs) : SqT K G a vs := let ⟨o, e, _⟩ := h; .inl (.inr ⟨o, e⟩)
/-- what the whole program fixes: the written part, where the defs stand, the tables of code objects, where the classes of exceptions stand -/
structure Gx where
  K : PySem.W.Frag
  fa : Nat → Option Addr
  tabs : List (Addr × Str)
  cls : Str → Option Addr
section
variable (g : Gx)
mutual
def Rep (G : Hp) : D → V → Prop
  | .non, v => v = .non
  | .bl b, v => v = .bl b
  | .int i, v => v = .int i
  | .str x, v => v = .str x
  | .tup l, v => ∃ a vs, v = .ref a ∧ TupAt G a vs ∧ Reps G l vs
  | .lst l, v => ∃ a vs, v = .ref a ∧ Rd G a (.lst vs) ∧ Reps G l vs
  | .dct _, _ => False
  | .fn i, v => ∃ a, v = .ref a ∧ g.fa i = some a
def Reps (G : Hp) : List D → List V → Prop
  | [], vs => vs = []
  | d :: r, vs => ∃ v vs', vs = v :: vs' ∧ Rep G d v ∧ Reps G r vs'
end
/-- a list that its name alone holds -/
def OwnAt (G H : Hp) (p : Addr) (d : D) : Prop := ∃ l vs, d = .lst l ∧ H p = some (.lst vs) ∧ Reps g G l vs
/-- what may be read as d -/
def Obs (G H : Hp) (d : D) (v : V) : Prop := Rep g G d v ∨ ∃ p, v = .ref p ∧ OwnAt g G H p d
end
/-- a def's entry: its heap, the shared part, the list that it may change -/
structure Bs where
  H0 : Hp
  G0 : Hp
  io : Option Addr
def Sl.own : Sl → Bool
  | .ow _ => true
  | .io _ => true
  | _ => false
/-- the tables of code objects that are told of -/
def TabsX (T : List (Addr × Str)) (H : Hp) : Prop := LamX.Tabs T H
section
variable (g : Gx) (B : Bs) (G H : Hp)
def SlOk : Sl → Option (Option V) → Prop
  | .un, _ => True
  | .sh d, x => ∃ v, x = some (some v) ∧ Rep g G d v
  | .ow d, x => ∃ p, x = some (some (.ref p)) ∧ G p = none ∧ B.H0 p = none ∧ OwnAt g G H p d
  | .io d, x => ∃ p, x = some (some (.ref p)) ∧ B.io = some p ∧ G p = none ∧ OwnAt g G H p d
/-- p is nobody's own -/
def NotOwn (env : Env) (σ : St) (p : Addr) : Prop := ∀ (i : Nat) s, env[i]? = some s → s.own = true → σ[i]? ≠ some (some (.ref p))
/-- the heap, without the names -/
structure StB : Prop where
  sub : Same G H
  notb : ∀ a ps, G a ≠ some (.tbl ps)
  ent : ∀ a o, B.H0 a = some o → (∀ ps, o ≠ .tbl ps) → B.io ≠ some a → H a = some o
  gent : ∀ a, B.H0 a ≠ none → G a = B.G0 a
  hio : ∀ p, B.io = some p → B.H0 p ≠ none
  dom : ∀ a, B.H0 a ≠ none → H a ≠ none
  tabs : TabsX g.tabs H
structure StOk (env : Env) (σ : St) : Prop extends StB g B G H where
  len : env.length = σ.length
  sl : ∀ (i : Nat) s, env[i]? = some s → SlOk g B G H s σ[i]?
  dis : ∀ (i j : Nat) s t p, env[i]? = some s → env[j]? = some t → s.own = true → t.own = true → σ[i]? = some (some (.ref p)) → σ[j]? = some (some (.ref p)) → i = j
def VRep (env : Env) (σ : St) (fr : Bool) (d : D) (v : V) : Prop := match fr with
  | false => Rep g G d v
  | true => ∃ p, v = .ref p ∧ G p = none ∧ B.H0 p = none ∧ OwnAt g G H p d ∧ NotOwn env σ p
end

/-! ### growing heaps -/
theorem _root_.L2.Rd.mono {G G' : Hp} {a : Addr} {u : HO} (h : Rd G a u) (s : Same G G') : Rd G' a u := by
  rcases h with q | ⟨o, q⟩
  · exact .inl (s _ _ q)
  · exact .inr ⟨o, s _ _ q⟩
section
variable {g : Gx} {G G' H H' : Hp}
mutual
theorem Rep.mono (s : Same G G') : ∀ {d : D} {v : V}, Rep g G d v → Rep g G' d v
  | .non, _, h => h
  | .bl _, _, h => h
  | .int _, _, h => h
  | .str _, _, h => h
  | .tup l, _, h => by
    simp only [Rep] at h ⊢
    obtain ⟨a, vs, e, q, r⟩ := h
    exact ⟨a, vs, e, q.mono s, Reps.mono s r⟩
  | .lst l, _, h => by
    simp only [Rep] at h ⊢
    obtain ⟨a, vs, e, q, r⟩ := h
    exact ⟨a, vs, e, q.mono s, Reps.mono s r⟩
  | .dct _, _, h => by simp only [Rep] at h
  | .fn i, _, h => by simp only [Rep] at h ⊢; exact h
theorem Reps.mono (s : Same G G') : ∀ {l : List D} {vs : List V}, Reps g G l vs → Reps g G' l vs
  | [], _, h => by simp only [Reps] at h ⊢; exact h
  | d :: r, _, h => by
    simp only [Reps] at h ⊢
    obtain ⟨v, vs', e, h1, h2⟩ := h
    exact ⟨v, vs', e, Rep.mono s h1, Reps.mono s h2⟩
end
theorem Reps.length : ∀ {l : List D} {vs : List V}, Reps g G l vs → vs.length = l.length
  | [], _, h => by simp only [Reps] at h; subst h; rfl
  | d :: r, _, h => by
    simp only [Reps] at h
    obtain ⟨v, vs', e, _, h2⟩ := h
    subst e
    simp [Reps.length h2]
theorem Reps.nil : Reps g G [] [] := by simp only [Reps]
theorem Reps.cons {d : D} {v : V} {l : List D} {vs : List V} (h : Rep g G d v) (t : Reps g G l vs) : Reps g G (d :: l) (v :: vs) := by
  simp only [Reps]
  exact ⟨v, vs, rfl, h, t⟩
theorem Reps.get : ∀ {l : List D} {vs : List V} {i : Nat} {d : D}, Reps g G l vs → l[i]? = some d → ∃ v, vs[i]? = some v ∧ Rep g G d v
  | [], _, _, _, _, h => by simp at h
  | d :: r, _, i, x, h, e => by
    simp only [Reps] at h
    obtain ⟨v, vs', rfl, h1, h2⟩ := h
    cases i with
    | zero => simp at e; subst e; exact ⟨v, rfl, h1⟩
    | succ i => exact Reps.get (i := i) h2 (by simpa using e)
theorem Reps.get' : ∀ {l : List D} {vs : List V} {i : Nat} {v : V}, Reps g G l vs → vs[i]? = some v → ∃ d, l[i]? = some d ∧ Rep g G d v
  | [], _, _, _, h, e => by simp only [Reps] at h; subst h; simp at e
  | d :: r, _, i, x, h, e => by
    simp only [Reps] at h
    obtain ⟨v, vs', rfl, h1, h2⟩ := h
    cases i with
    | zero => simp at e; subst e; exact ⟨d, rfl, h1⟩
    | succ i => exact Reps.get' (i := i) h2 (by simpa using e)
theorem Reps.append : ∀ {l l' : List D} {vs vs' : List V}, Reps g G l vs → Reps g G l' vs' → Reps g G (l ++ l') (vs ++ vs')
  | [], _, _, _, h, h' => by simp only [Reps] at h; subst h; exact h'
  | d :: r, _, _, _, h, h' => by
    simp only [Reps] at h
    obtain ⟨v, ws, rfl, h1, h2⟩ := h
    exact .cons h1 (Reps.append h2 h')
theorem Reps.take : ∀ {l : List D} {vs : List V} (n : Nat), Reps g G l vs → Reps g G (l.take n) (vs.take n)
  | _, _, 0, _ => .nil
  | [], _, n + 1, h => by simp only [Reps] at h; subst h; exact .nil
  | d :: r, _, n + 1, h => by
    simp only [Reps] at h
    obtain ⟨v, ws, rfl, h1, h2⟩ := h
    exact .cons h1 (Reps.take n h2)
theorem Reps.drop : ∀ {l : List D} {vs : List V} (n : Nat), Reps g G l vs → Reps g G (l.drop n) (vs.drop n)
  | _, _, 0, h => h
  | [], _, n + 1, h => by simp only [Reps] at h; subst h; exact .nil
  | d :: r, _, n + 1, h => by
    simp only [Reps] at h
    obtain ⟨v, ws, rfl, h1, h2⟩ := h
    exact Reps.drop n h2
theorem Reps.reverse : ∀ {l : List D} {vs : List V}, Reps g G l vs → Reps g G l.reverse vs.reverse
  | [], _, h => by simp only [Reps] at h; subst h; exact .nil
  | d :: r, _, h => by
    simp only [Reps] at h
    obtain ⟨v, ws, rfl, h1, h2⟩ := h
    rw [List.reverse_cons, List.reverse_cons]
    exact Reps.append (Reps.reverse h2) (.cons h1 .nil)
theorem Reps.set : ∀ {l : List D} {vs : List V} {d : D} {v : V} (i : Nat), Reps g G l vs → Rep g G d v → Reps g G (l.set i d) (vs.set i v)
  | [], _, _, _, _, h, _ => by simp only [Reps] at h; subst h; exact .nil
  | d :: r, _, _, _, 0, h, q => by
    simp only [Reps] at h
    obtain ⟨v, ws, rfl, h1, h2⟩ := h
    exact .cons q h2
  | d :: r, _, _, _, i + 1, h, q => by
    simp only [Reps] at h
    obtain ⟨v, ws, rfl, h1, h2⟩ := h
    exact .cons h1 (Reps.set i h2 q)
theorem Reps.rep {l : List D} {vs : List V} (h : Reps g G l vs) : ∀ n : Nat, Reps g G (List.replicate n l).flatten (List.replicate n vs).flatten
  | 0 => .nil
  | n + 1 => by
    rw [List.replicate_succ, List.replicate_succ, List.flatten_cons, List.flatten_cons]
    exact Reps.append h (Reps.rep h n)
theorem Reps.ints : ∀ {ns : List Int}, Reps g G (ns.map D.int) (ns.map V.int)
  | [] => .nil
  | n :: r => .cons (by simp only [Rep]) Reps.ints
theorem Rep.tupI {l : List D} {v : V} (h : Rep g G (.tup l) v) : ∃ a vs, v = .ref a ∧ TupAt G a vs ∧ Reps g G l vs := by simpa only [Rep] using h
theorem Rep.lstI {l : List D} {v : V} (h : Rep g G (.lst l) v) : ∃ a vs, v = .ref a ∧ Rd G a (.lst vs) ∧ Reps g G l vs := by simpa only [Rep] using h
theorem Rep.intI {i : Int} {v : V} (h : Rep g G (.int i) v) : v = .int i := by simpa only [Rep] using h
theorem Rep.blI {b : Bool} {v : V} (h : Rep g G (.bl b) v) : v = .bl b := by simpa only [Rep] using h
theorem Rep.strI {x : Str} {v : V} (h : Rep g G (.str x) v) : v = .str x := by simpa only [Rep] using h
theorem Rep.nonI {v : V} (h : Rep g G .non v) : v = .non := by simpa only [Rep] using h
theorem Rep.fnI {i : Nat} {v : V} (h : Rep g G (.fn i) v) : ∃ a, v = .ref a ∧ g.fa i = some a := by simpa only [Rep] using h
theorem Rep.int {i : Int} : Rep g G (.int i) (.int i) := by simp only [Rep]
theorem Rep.bl {b : Bool} : Rep g G (.bl b) (.bl b) := by simp only [Rep]
theorem Rep.str {x : Str} : Rep g G (.str x) (.str x) := by simp only [Rep]
theorem Rep.non : Rep g G .non .non := by simp only [Rep]
theorem Rep.tup {l : List D} {a : Addr} {vs : List V} (h : TupAt G a vs) (r : Reps g G l vs) : Rep g G (.tup l) (.ref a) := by
  simp only [Rep]
  exact ⟨a, vs, rfl, h, r⟩
theorem Rep.lst {l : List D} {a : Addr} {vs : List V} (h : Rd G a (.lst vs)) (r : Reps g G l vs) : Rep g G (.lst l) (.ref a) := by
  simp only [Rep]
  exact ⟨a, vs, rfl, h, r⟩
theorem seqT {K : PySem.W.Frag} {a : Addr} {xs : List V} (e : Same H H') (h : SqT K H a xs) : SqT K H' a xs := by
  rcases h with (h | ⟨o, h⟩) | h
  · exact .inl (.inl (e _ _ h))
  · exact .inl (.inr ⟨o, e _ _ h⟩)
  · exact .inr h
theorem OwnAt.mono {p : Addr} {d : D} (s : Same G G') (h : OwnAt g G H p d) (e : H' p = H p) : OwnAt g G' H' p d := by
  obtain ⟨l, vs, rfl, h1, h2⟩ := h
  exact ⟨l, vs, rfl, by rw [e]; exact h1, Reps.mono s h2⟩
/-- a list or tuple that may be read -/
theorem Obs.lst {l : List D} {v : V} (s : Same G H) (h : Obs g G H (.lst l) v) : ∃ a vs, v = .ref a ∧ Rd H a (.lst vs) ∧ Reps g G l vs := by
  rcases h with h | ⟨p, rfl, l', vs, e, h1, h2⟩
  · obtain ⟨a, vs, e, q, r⟩ := h.lstI
    exact ⟨a, vs, e, q.mono s, r⟩
  · cases e
    exact ⟨p, vs, rfl, .inl h1, h2⟩
theorem Obs.tup {l : List D} {v : V} (s : Same G H) (h : Obs g G H (.tup l) v) : ∃ a vs, v = .ref a ∧ TupAt H a vs ∧ Reps g G l vs := by
  rcases h with h | ⟨p, rfl, l', vs, e, h1, h2⟩
  · obtain ⟨a, vs, e, q, r⟩ := h.tupI
    exact ⟨a, vs, e, q.mono s, r⟩
  · cases e
theorem Obs.rep {d : D} {v : V} (h : Obs g G H d v) (n : d.isLst = false) : Rep g G d v := by
  rcases h with h | ⟨p, rfl, l', vs, e, h1, h2⟩
  · exact h
  · subst e
    cases n
end

/-! ### steps of a state -/
section
variable {g : Gx} {B : Bs} {G G' H H' : Hp} {env : Env} {σ : St}
theorem same_upd {p : Addr} {o : HO} (n : H p = none) : Same H (upd H p o) := fun b x e => by
  rw [upd_ne (ne_of_none e n)]
  exact e
theorem StOk.gfree (S : StOk g B G H env σ) {p : Addr} (n : H p = none) : G p = none := S.sub.free n
theorem StOk.bfree (S : StOk g B G H env σ) {p : Addr} (n : H p = none) : B.H0 p = none := by
  cases e : B.H0 p with
  | none => rfl
  | some o => exact absurd n (S.dom p (by rw [e]; exact fun z => nomatch z))
/-- a new object, not shared: it is nobody's own -/
theorem StOk.notOwn (S : StOk g B G H env σ) {p : Addr} (n : H p = none) : NotOwn env σ p := by
  intro i s hi ho e
  have h := S.sl i s hi
  cases s with
  | un => cases ho
  | sh d => cases ho
  | ow d =>
    obtain ⟨q, e1, _, _, l, vs, _, e2, _⟩ := h
    rw [e] at e1
    cases e1
    rw [n] at e2
    cases e2
  | io d =>
    obtain ⟨q, e1, _, _, l, vs, _, e2, _⟩ := h
    rw [e] at e1
    cases e1
    rw [n] at e2
    cases e2
/-- the heap grows by a new object that is not shared (a pending own list, or nothing that is told of) -/
theorem StOk.grow (S : StOk g B G H env σ) (s : Same H H') (t : TabsX g.tabs H') : StOk g B G H' env σ where
  len := S.len
  sl := fun i x hx => by
    have h := S.sl i x hx
    cases x with
    | un => trivial
    | sh d => exact h
    | ow d =>
      obtain ⟨q, e1, e2, e3, l, vs, e4, e5, e6⟩ := h
      exact ⟨q, e1, e2, e3, l, vs, e4, s _ _ e5, e6⟩
    | io d =>
      obtain ⟨q, e1, e2, e3, l, vs, e4, e5, e6⟩ := h
      exact ⟨q, e1, e2, e3, l, vs, e4, s _ _ e5, e6⟩
  dis := S.dis
  sub := S.sub.trans s
  notb := S.notb
  ent := fun a o h1 h2 h3 => s _ _ (S.ent a o h1 h2 h3)
  gent := S.gent
  hio := S.hio
  dom := fun a h z => S.dom a h (s.free z)
  tabs := t
/-- a list or tuple is shared: p is new to the shared part, not the entry's, nobody's own -/
theorem StOk.share (S : StOk g B G H env σ) {p : Addr} {o : HO} (hH : H p = some o) (hG : G p = none) (hB : B.H0 p = none) (hn : NotOwn env σ p) (ht : ∀ ps, o ≠ .tbl ps) : StOk g B (upd G p o) H env σ where
  len := S.len
  sl := fun i x hx => by
    have h := S.sl i x hx
    have s : Same G (upd G p o) := same_upd hG
    cases x with
    | un => trivial
    | sh d =>
      obtain ⟨v, e, r⟩ := h
      exact ⟨v, e, r.mono s⟩
    | ow d =>
      obtain ⟨q, e1, e2, e3, w⟩ := h
      have hq : q ≠ p := fun z => hn i _ hx rfl (by rw [e1, z])
      exact ⟨q, e1, by rw [upd_ne hq]; exact e2, e3, w.mono s rfl⟩
    | io d =>
      obtain ⟨q, e1, e2, e3, w⟩ := h
      have hq : q ≠ p := fun z => hn i _ hx rfl (by rw [e1, z])
      exact ⟨q, e1, e2, by rw [upd_ne hq]; exact e3, w.mono s rfl⟩
  dis := S.dis
  sub := fun a u e => by
    by_cases h : a = p
    · subst h; rw [upd_same] at e; cases e; exact hH
    · rw [upd_ne h] at e; exact S.sub a u e
  notb := fun a ps e => by
    by_cases h : a = p
    · subst h; rw [upd_same] at e; exact ht ps (Option.some.inj e)
    · rw [upd_ne h] at e; exact S.notb a ps e
  ent := S.ent
  gent := fun a h => by
    rw [upd_ne (fun z => h (by rw [z]; exact hB))]
    exact S.gent a h
  hio := S.hio
  dom := S.dom
  tabs := S.tabs
theorem tabs_upd {T : List (Addr × Str)} {p : Addr} {o : HO} (t : TabsX T H) (n : H p = none) (ho : ∀ ps, o ≠ .tbl ps) : TabsX T (upd H p o) := LamX.Tabs.ext t (same_upd n)
/-- a new tuple, shared -/
theorem StOk.newTup (S : StOk g B G H env σ) {p : Addr} {o : Obj} {l : List D} {vs : List V} (n : H p = none) (d : o.dict = none) (r : Reps g G l vs) :
    StOk g B (upd G p (.frz o (.tup vs))) (upd H p (.frz o (.tup vs))) env σ ∧ Same G (upd G p (.frz o (.tup vs))) ∧ Rep g (upd G p (.frz o (.tup vs))) (.tup l) (.ref p) := by
  have S1 := S.grow (same_upd (o := .frz o (.tup vs)) n) (tabs_upd S.tabs n fun _ z => nomatch z)
  have s : Same G (upd G p (.frz o (.tup vs))) := same_upd (S.gfree n)
  exact ⟨S1.share upd_same (S.gfree n) (S.bfree n) (S.notOwn n) (fun ps z => nomatch z), s, .tup ⟨o, upd_same, d⟩ (r.mono s)⟩
/-- a new list, nobody's yet -/
theorem StOk.newLst (S : StOk g B G H env σ) {p : Addr} {l : List D} {vs : List V} (n : H p = none) (r : Reps g G l vs) :
    StOk g B G (upd H p (.lst vs)) env σ ∧ VRep g B G (upd H p (.lst vs)) env σ true (.lst l) (.ref p) :=
  ⟨S.grow (same_upd n) (tabs_upd S.tabs n fun _ z => (nomatch z)), p, rfl, S.gfree n, S.bfree n, ⟨l, vs, rfl, upd_same, r⟩, S.notOwn n⟩
/-- a value that comes is shared -/
theorem StOk.freeze (S : StOk g B G H env σ) {fr : Bool} {d : D} {v : V} (h : VRep g B G H env σ fr d v) : ∃ G', StOk g B G' H env σ ∧ Same G G' ∧ Rep g G' d v := by
  cases fr with
  | false => exact ⟨G, S, .refl G, h⟩
  | true =>
    obtain ⟨p, rfl, h1, h2, ⟨l, vs, rfl, h3, h4⟩, h5⟩ := h
    have s : Same G (upd G p (.lst vs)) := same_upd h1
    exact ⟨_, S.share h3 h1 h2 h5 (fun ps z => nomatch z), s, .lst (.inl upd_same) (h4.mono s)⟩
/-- a slot is set: to nothing, or to shared data -/
theorem StOk.setSh (S : StOk g B G H env σ) {i : Nat} {d : D} {v : V} (r : Rep g G d v) : StOk g B G H (env.set i (.sh d)) (σ.set i (some v)) := by
  refine ⟨S.toStB, by simpa using S.len, fun j s hj => ?_, fun j k s t p hj hk ho ht e1 e2 => ?_⟩
  · by_cases h : i = j
    · subst h
      have hi : i < env.length := by
        by_cases z : i < env.length
        · exact z
        · rw [List.set_eq_of_length_le (by omega)] at hj
          exact (List.getElem?_eq_some_iff.mp hj).1
      rw [List.getElem?_set_self hi] at hj
      cases hj
      rw [List.getElem?_set_self (by rw [← S.len]; exact hi)]
      exact ⟨v, rfl, r⟩
    · rw [List.getElem?_set_ne h] at hj ⊢
      exact S.sl j s hj
  · by_cases h : i = j
    · subst h
      have hi : i < env.length := by simpa using (List.getElem?_eq_some_iff.mp hj).1
      rw [List.getElem?_set_self hi] at hj
      cases hj
      cases ho
    · by_cases h2 : i = k
      · subst h2
        have hi : i < env.length := by simpa using (List.getElem?_eq_some_iff.mp hk).1
        rw [List.getElem?_set_self hi] at hk
        cases hk
        cases ht
      · rw [List.getElem?_set_ne h] at hj e1
        rw [List.getElem?_set_ne h2] at hk e2
        exact S.dis j k s t p hj hk ho ht e1 e2
/-- a slot gets a list of its own -/
theorem StOk.setOw (S : StOk g B G H env σ) {i : Nat} {d : D} {p : Addr} (h1 : G p = none) (h2 : B.H0 p = none) (h3 : OwnAt g G H p d) (h4 : NotOwn env σ p) : StOk g B G H (env.set i (.ow d)) (σ.set i (some (.ref p))) := by
  refine ⟨S.toStB, by simpa using S.len, fun j s hj => ?_, fun j k s t q hj hk ho ht e1 e2 => ?_⟩
  · by_cases h : i = j
    · subst h
      have hi : i < env.length := by simpa using (List.getElem?_eq_some_iff.mp hj).1
      rw [List.getElem?_set_self hi] at hj
      cases hj
      rw [List.getElem?_set_self (by rw [← S.len]; exact hi)]
      exact ⟨p, rfl, h1, h2, h3⟩
    · rw [List.getElem?_set_ne h] at hj ⊢
      exact S.sl j s hj
  · by_cases h : i = j
    · by_cases h' : i = k
      · rw [← h, ← h']
      · subst h
        have hi : i < env.length := by simpa using (List.getElem?_eq_some_iff.mp hj).1
        rw [List.getElem?_set_self (by rw [← S.len]; exact hi)] at e1
        cases e1
        rw [List.getElem?_set_ne h'] at hk e2
        exact absurd e2 (h4 k t hk ht)
    · by_cases h' : i = k
      · subst h'
        have hi : i < env.length := by simpa using (List.getElem?_eq_some_iff.mp hk).1
        rw [List.getElem?_set_self (by rw [← S.len]; exact hi)] at e2
        cases e2
        rw [List.getElem?_set_ne h] at hj e1
        exact absurd e1 (h4 j s hj ho)
      · rw [List.getElem?_set_ne h] at hj e1
        rw [List.getElem?_set_ne h'] at hk e2
        exact S.dis j k s t q hj hk ho ht e1 e2
/-- a slot's list is shared from now on -/
theorem StOk.shSlot (S : StOk g B G H env σ) {i : Nat} {d : D} (h : env[i]? = some (.ow d)) : ∃ G' v, StOk g B G' H (env.set i (.sh d)) σ ∧ Same G G' ∧ σ[i]? = some (some v) ∧ Rep g G' d v := by
  obtain ⟨p, e1, e2, e3, l, vs, rfl, e4, e5⟩ := S.sl i _ h
  have s : Same G (upd G p (.lst vs)) := same_upd e2
  have hi : i < env.length := (List.getElem?_eq_some_iff.mp h).1
  have hr : Rep g (upd G p (.lst vs)) (.lst l) (.ref p) := .lst (.inl upd_same) (e5.mono s)
  have oth : ∀ (j : Nat) t, j ≠ i → env[j]? = some t → t.own = true → σ[j]? ≠ some (some (.ref p)) := fun j t hj ht ho z => hj (S.dis j i t _ p ht h ho rfl z e1)
  refine ⟨upd G p (.lst vs), .ref p, ⟨⟨fun a u e => ?_, fun a ps e => ?_, S.ent, fun a n => ?_, S.hio, S.dom, S.tabs⟩, by simpa using S.len, fun j t hj => ?_, fun j k t t' q hj hk ho ho' z1 z2 => ?_⟩, s, e1, hr⟩
  · by_cases z : a = p
    · subst z; rw [upd_same] at e; cases e; exact e4
    · rw [upd_ne z] at e; exact S.sub a u e
  · by_cases z : a = p
    · subst z; rw [upd_same] at e; cases e
    · rw [upd_ne z] at e; exact S.notb a ps e
  · rw [upd_ne (fun z => n (by rw [z]; exact e3))]
    exact S.gent a n
  · by_cases z : i = j
    · subst z
      rw [List.getElem?_set_self hi] at hj
      cases hj
      exact ⟨.ref p, e1, hr⟩
    · rw [List.getElem?_set_ne z] at hj
      have k := S.sl j t hj
      cases t with
      | un => trivial
      | sh d' =>
        obtain ⟨v, z1, z2⟩ := k
        exact ⟨v, z1, z2.mono s⟩
      | ow d' =>
        obtain ⟨q, z1, z2, z3, w⟩ := k
        have hq : q ≠ p := fun y => oth j _ (fun y => z y.symm) hj rfl (by rw [z1, y])
        exact ⟨q, z1, by rw [upd_ne hq]; exact z2, z3, w.mono s rfl⟩
      | io d' =>
        obtain ⟨q, z1, z2, z3, w⟩ := k
        have hq : q ≠ p := fun y => oth j _ (fun y => z y.symm) hj rfl (by rw [z1, y])
        exact ⟨q, z1, z2, by rw [upd_ne hq]; exact z3, w.mono s rfl⟩
  · by_cases z : i = j
    · subst z
      rw [List.getElem?_set_self hi] at hj
      cases hj
      cases ho
    · by_cases z' : i = k
      · subst z'
        rw [List.getElem?_set_self hi] at hk
        cases hk
        cases ho'
      · rw [List.getElem?_set_ne z] at hj
        rw [List.getElem?_set_ne z'] at hk
        exact S.dis j k t t' q hj hk ho ho' z1 z2
/-- the place of a slot's own list -/
theorem StOk.own (S : StOk g B G H env σ) {i : Nat} {s : Sl} (h : env[i]? = some s) (ho : s.own = true) : ∃ p d, σ[i]? = some (some (.ref p)) ∧ G p = none ∧ OwnAt g G H p d ∧ (s = .ow d ∨ s = .io d) ∧ (B.H0 p = none ∨ B.io = some p) := by
  have k := S.sl i s h
  cases s with
  | un => cases ho
  | sh d => cases ho
  | ow d => obtain ⟨p, e1, e2, e3, w⟩ := k; exact ⟨p, d, e1, e2, w, .inl rfl, .inl e3⟩
  | io d => obtain ⟨p, e1, e2, e3, w⟩ := k; exact ⟨p, d, e1, e3, w, .inr rfl, .inr e2⟩
def Sl.put : Sl → D → Sl
  | .io _, d => .io d
  | _, d => .ow d
/-- a slot's own list is written -/
theorem StOk.write (S : StOk g B G H env σ) {i : Nat} {s : Sl} (h : env[i]? = some s) (ho : s.own = true) {p : Addr} (hp : σ[i]? = some (some (.ref p))) {l : List D} {vs : List V} (r : Reps g G l vs) :
    StOk g B G (upd H p (.lst vs)) (env.set i (s.put (.lst l))) σ := by
  obtain ⟨p', d, e1, e2, ⟨l0, vs0, _, e4, _⟩, e5, e6⟩ := S.own h ho
  rw [hp] at e1
  cases e1
  have hi : i < env.length := (List.getElem?_eq_some_iff.mp h).1
  have oth : ∀ (j : Nat) t, j ≠ i → env[j]? = some t → t.own = true → σ[j]? ≠ some (some (.ref p)) := fun j t hj ht ho' z => hj (S.dis j i t _ p ht h ho' ho z hp)
  refine ⟨⟨fun a u e => ?_, S.notb, fun a o z1 z2 z3 => ?_, S.gent, S.hio, fun a n z => ?_, ?_⟩, by simpa using S.len, fun j t hj => ?_, fun j k t t' q hj hk ho1 ho2 z1 z2 => ?_⟩
  · rw [upd_ne (fun z => by rw [z, e2] at e; cases e)]
    exact S.sub a u e
  · rw [upd_ne (fun z => by
      rw [z] at z1 z3
      rcases e6 with e6 | e6
      · rw [e6] at z1; cases z1
      · exact z3 e6)]
    exact S.ent a o z1 z2 z3
  · by_cases y : a = p
    · rw [y, upd_same] at z; cases z
    · rw [upd_ne y] at z; exact S.dom a n z
  · refine fun q hq => ?_
    obtain ⟨ps, t1, t2, t3⟩ := S.tabs q hq
    have n1 : ∀ b o, H b = some o → (∀ vs, o ≠ .lst vs) → upd H p (.lst vs) b = some o := fun b o hb hn => by
      rw [upd_ne (fun z => by rw [z, e4] at hb; cases hb; exact hn _ rfl)]
      exact hb
    refine ⟨ps, n1 _ _ t1 (fun _ z => nomatch z), t2, fun pos cv hc => ?_⟩
    obtain ⟨c, c1, c2⟩ := t3 pos cv hc
    exact ⟨c, c1, n1 _ _ c2 (fun _ z => nomatch z)⟩
  · by_cases z : i = j
    · subst z
      rw [List.getElem?_set_self hi] at hj
      cases hj
      rcases e5 with rfl | rfl
      · obtain ⟨p', e1, _, e3, _⟩ := S.sl i _ h
        rw [hp] at e1
        cases e1
        exact ⟨p, hp, e2, e3, l, vs, rfl, upd_same, r⟩
      · obtain ⟨p', e1, e3, _⟩ := S.sl i _ h
        rw [hp] at e1
        cases e1
        exact ⟨p, hp, e3, e2, l, vs, rfl, upd_same, r⟩
    · rw [List.getElem?_set_ne z] at hj
      have k := S.sl j t hj
      cases t with
      | un => trivial
      | sh d' => exact k
      | ow d' =>
        obtain ⟨q, z1, z2, z3, w⟩ := k
        have hq : q ≠ p := fun y => oth j _ (fun y => z y.symm) hj rfl (by rw [z1, y])
        exact ⟨q, z1, z2, z3, w.mono (.refl G) (upd_ne hq)⟩
      | io d' =>
        obtain ⟨q, z1, z2, z3, w⟩ := k
        have hq : q ≠ p := fun y => oth j _ (fun y => z y.symm) hj rfl (by rw [z1, y])
        exact ⟨q, z1, z2, z3, w.mono (.refl G) (upd_ne hq)⟩
  · have put_own : (s.put (.lst l)).own = true := by cases s <;> rfl
    have back : ∀ (j : Nat) t, (env.set i (s.put (.lst l)))[j]? = some t → t.own = true → ∃ t0, env[j]? = some t0 ∧ t0.own = true := fun j t hj ho' => by
      by_cases z : i = j
      · subst z; exact ⟨s, h, ho⟩
      · rw [List.getElem?_set_ne z] at hj; exact ⟨t, hj, ho'⟩
    obtain ⟨t0, a1, a2⟩ := back j t hj ho1
    obtain ⟨t1, b1, b2⟩ := back k t' hk ho2
    exact S.dis j k t0 t1 q a1 b1 a2 b2 z1 z2
/-- behind a call that changes nothing of ours -/
theorem StOk.called (S : StOk g B G H env σ) (T : StB g ⟨H, G, none⟩ G' H') : StOk g B G' H' env σ ∧ Same G G' := by
  have s : Same G G' := fun a o e => by
    rw [T.gent a (by show H a ≠ none; rw [S.sub a o e]; exact fun z => nomatch z)]
    exact e
  have hk : ∀ a o, H a = some o → (∀ ps, o ≠ .tbl ps) → H' a = some o := fun a o e n => T.ent a o e n (fun z => nomatch z)
  have gk : ∀ a o, H a = some o → G a = none → G' a = none := fun a o e n => by
    rw [T.gent a (by show H a ≠ none; rw [e]; exact fun z => nomatch z)]
    exact n
  refine ⟨⟨⟨T.sub, T.notb, fun a o z1 z2 z3 => hk a o (S.ent a o z1 z2 z3) z2, fun a n => ?_, S.hio, fun a n => T.dom a (S.dom a n), T.tabs⟩, S.len, fun j t hj => ?_, S.dis⟩, s⟩
  · rw [T.gent a (S.dom a n)]
    exact S.gent a n
  · have k := S.sl j t hj
    cases t with
    | un => trivial
    | sh d' =>
      obtain ⟨v, z1, z2⟩ := k
      exact ⟨v, z1, z2.mono s⟩
    | ow d' =>
      obtain ⟨q, z1, z2, z3, l, vs, z4, z5, z6⟩ := k
      exact ⟨q, z1, gk q _ z5 z2, z3, l, vs, z4, hk q _ z5 (fun _ z => nomatch z), z6.mono s⟩
    | io d' =>
      obtain ⟨q, z1, z2, z3, l, vs, z4, z5, z6⟩ := k
      exact ⟨q, z1, z2, gk q _ z5 z3, l, vs, z4, hk q _ z5 (fun _ z => nomatch z), z6.mono s⟩
/-- behind a call that changes a slot's own list -/
theorem StOk.calledIO (S : StOk g B G H env σ) {i : Nat} {s : Sl} (h : env[i]? = some s) (ho : s.own = true) {p : Addr} (hp : σ[i]? = some (some (.ref p))) {d1 : D} (T : StB g ⟨H, G, some p⟩ G' H') (w1 : OwnAt g G' H' p d1) :
    StOk g B G' H' (env.set i (s.put d1)) σ ∧ Same G G' := by
  obtain ⟨p', d, e1, e2, ⟨l0, vs0, _, e4, _⟩, e5, e6⟩ := S.own h ho
  rw [hp] at e1
  cases e1
  have hi : i < env.length := (List.getElem?_eq_some_iff.mp h).1
  have oth : ∀ (j : Nat) t, j ≠ i → env[j]? = some t → t.own = true → σ[j]? ≠ some (some (.ref p)) := fun j t hj ht ho' z => hj (S.dis j i t _ p ht h ho' ho z hp)
  have s1 : Same G G' := fun a o e => by
    rw [T.gent a (by show H a ≠ none; rw [S.sub a o e]; exact fun z => nomatch z)]
    exact e
  have hk : ∀ a o, H a = some o → (∀ ps, o ≠ .tbl ps) → a ≠ p → H' a = some o := fun a o e n np => T.ent a o e n (fun z => np (Option.some.inj z).symm)
  have gk : ∀ a o, H a = some o → G a = none → G' a = none := fun a o e n => by
    rw [T.gent a (by show H a ≠ none; rw [e]; exact fun z => nomatch z)]
    exact n
  refine ⟨⟨⟨T.sub, T.notb, fun a o z1 z2 z3 => ?_, fun a n => ?_, S.hio, fun a n => T.dom a (S.dom a n), T.tabs⟩, by simpa using S.len, fun j t hj => ?_, fun j k t t' q hj hk' ho1 ho2 z1 z2 => ?_⟩, s1⟩
  · refine hk a o (S.ent a o z1 z2 z3) z2 (fun z => ?_)
    rw [z] at z1 z3
    rcases e6 with e6 | e6
    · rw [e6] at z1; cases z1
    · exact z3 e6
  · rw [T.gent a (S.dom a n)]
    exact S.gent a n
  · by_cases z : i = j
    · subst z
      rw [List.getElem?_set_self hi] at hj
      cases hj
      have g1 : G' p = none := gk p _ e4 e2
      rcases e5 with rfl | rfl
      · obtain ⟨p', e1, _, e3, _⟩ := S.sl i _ h
        rw [hp] at e1
        cases e1
        exact ⟨p, hp, g1, e3, w1⟩
      · obtain ⟨p', e1, e3, _⟩ := S.sl i _ h
        rw [hp] at e1
        cases e1
        exact ⟨p, hp, e3, g1, w1⟩
    · rw [List.getElem?_set_ne z] at hj
      have k := S.sl j t hj
      cases t with
      | un => trivial
      | sh d' =>
        obtain ⟨v, z1, z2⟩ := k
        exact ⟨v, z1, z2.mono s1⟩
      | ow d' =>
        obtain ⟨q, z1, z2, z3, l, vs, z4, z5, z6⟩ := k
        have hq : q ≠ p := fun y => oth j _ (fun y => z y.symm) hj rfl (by rw [z1, y])
        exact ⟨q, z1, gk q _ z5 z2, z3, l, vs, z4, hk q _ z5 (fun _ z => nomatch z) hq, z6.mono s1⟩
      | io d' =>
        obtain ⟨q, z1, z2, z3, l, vs, z4, z5, z6⟩ := k
        have hq : q ≠ p := fun y => oth j _ (fun y => z y.symm) hj rfl (by rw [z1, y])
        exact ⟨q, z1, z2, gk q _ z5 z3, l, vs, z4, hk q _ z5 (fun _ z => nomatch z) hq, z6.mono s1⟩
  · have back : ∀ (j : Nat) t, (env.set i (s.put d1))[j]? = some t → t.own = true → ∃ t0, env[j]? = some t0 ∧ t0.own = true := fun j t hj ho' => by
      by_cases z : i = j
      · subst z; exact ⟨s, h, ho⟩
      · rw [List.getElem?_set_ne z] at hj; exact ⟨t, hj, ho'⟩
    obtain ⟨t0, a1, a2⟩ := back j t hj ho1
    obtain ⟨t1, b1, b2⟩ := back k t' hk' ho2
    exact S.dis j k t0 t1 q a1 b1 a2 b2 z1 z2
end
end Cor

set_option Elab.async false
set_option linter.all false
set_option maxRecDepth 100000
/-! Srt: sorted(x), told what collecting x gives; so for lists, tuples and sets at once. -/
namespace Cor
open PySem PySem.Spec L2 PyProof.Rows HT SrtO
variable {prog : Program} {w : World} {A : Around} {E : Value → Shared → Prop} {s : Shared}
/-- h2 keeps what h1 holds -/
abbrev Keeps (h1 h2 : Heap) : Prop := ∀ b o, h1.get? b = some o → h2.get? b = some o
theorem sorted_via {x : Value} {ltv : Value → Value → Bool} {P : List Value → Shared → Prop} {Q : Value → Shared → Prop} (O : Swo ltv)
    (C : ∀ (F : Value → Shared → Prop) (R : List Value → Shared → Prop), (∀ vs t, P vs t → R vs t) → wpAny (model prog w) A.in1 (collect x) R F s)
    (Z : ∀ vs t, P vs t → vs.length ≤ sizeLine)
    (S : ∀ vs t a h, P vs t → 2 ≤ vs.length → h.get? a = some (seqObj "list" vs.toArray 0) → t.heap.get? a = none → Keeps t.heap h → SortableO prog w A.in1.in1 { t with heap := h } a vs ltv)
    (q : ∀ vs t h p out c, P vs t → Keeps t.heap h → t.heap.objs.size ≤ p → h.get? p = some (seqObj "list" out.toArray c) → Srtd ltv out → Stb ltv out vs → Q (.ref p) { t with heap := h }) :
    wpAny (model prog w) A (call (.builtin "sorted") [x]) Q E s := by
  apply Calls.call_function_entry kind_sorted plain_sorted entry_sorted (args_sorted1 _)
  have go : ∀ vs t, P vs t → wpAny (model prog w) A.in1 (newList vs >>= fun l => holding [l] (call (.builtin "list.sort") [l] []) >>= fun _ => ret l)
      (fun fin s' => ∃ v, fin = Fin.done (Flow.ret v) ∧ Q v s') E t := fun vs t p => by
    have z := Z vs t p
    have here := Heap.get?_push_size t.heap (o := seqObj "list" vs.toArray 0) rfl
    have none_at : t.heap.get? t.heap.objs.size = none := by
      cases e : t.heap.get? t.heap.objs.size with
      | none => rfl
      | some o => exact absurd (Heap.lt_size e) (Nat.lt_irrefl _)
    have kept : Keeps t.heap (t.heap.push (seqObj "list" vs.toArray 0)) := fun b o e => Heap.get?_push_of_some _ e
    refine wpAny_bind (wpAny_newList (wpAny_bind (wpAny_holding ?_)) z)
    refine wpAny_call_entry (T := "list") slot_list_sort ⟨_, here, rfl⟩ entry_list_sort
      (list_sort_ord (s := { t with heap := t.heap.push (seqObj "list" vs.toArray 0) }) O here z (fun two => S vs t _ _ p two here none_at kept) ?_) (args_list_sort _)
    intro out srt stb
    obtain ⟨c, at_⟩ := sortedHeap_at (out := out.toArray) here
    refine ⟨_, rfl, wpAny_pure ⟨_, rfl, q vs t _ _ out c p (fun b o e => ?_) (Nat.le_refl _) at_ srt stb⟩⟩
    have lt : b < t.heap.objs.size := Heap.lt_size e
    exact (sortedHeap_old (Nat.ne_of_lt lt) (by rw [size_push']; exact Nat.lt_succ_of_lt lt)).trans (kept b o e)
  exact wpAny_bind (m := checkCount "sorted" 1 1 _) (wpAny_pure (wpAny_bind (C _ _ go)))
end Cor

set_option Elab.async false
set_option linter.all false
set_option maxRecDepth 100000
set_option maxHeartbeats 1200000
/-! Base2: t[::-1] of a tuple; sorted of a tuple; tuples of ints sorted, of any lengths. -/
namespace Cor
open PySem PySem.Spec L2 PyProof.Rows HT
section
variable {prog : Program} {w : World} {A : Around} {E : Value → Shared → Prop} {s : Shared}
theorem sliceApplied_rev {sl : Addr} {vl vu vs : Value} {n : Nat} {Q : Int × Int × Nat → Shared → Prop} (hs : s.heap.IsSliceOf sl vl vu vs) (pl : IsPart vl none) (pu : IsPart vu none) (ps : IsPart vs (some (-1)))
    (h : Q ((n : Int) - 1, -1, n) s) : wpAny (model prog w) A (Builtin.Slice.sliceApplied (.ref sl) (pure (n : Int))) Q E s := by
  have ⟨os, hos, hcs, hds⟩ := hs
  unfold Builtin.Slice.sliceApplied; unfold Builtin.Slice.sliceFields
  refine wpAny_bind (wpAny_bind (wpAny_field hos hds (x := vl) rfl (wpAny_bind (wpAny_field hos hds (x := vu) rfl (wpAny_bind (wpAny_field hos hds (x := vs) rfl (wpAny_pure ?_)))))))
  refine wpAny_bind (slicePart_ ps ?_)
  show wpAny _ _ (if ((-1 : Int) == 0) = true then _ else _) _ _ s
  rw [if_neg (by decide)]
  refine wpAny_bind (slicePart_ pl (wpAny_bind (slicePart_ pu ?_)))
  refine wpAny_bind (wpAny_pure ?_)
  show wpAny _ _ (match Builtin.Slice.sliceAdjust none none (-1) (n : Int) with | (lo, hi) => pure (lo, (-1 : Int), Builtin.Slice.slicePlaces lo hi (-1))) _ _ s
  have e1 : Builtin.Slice.sliceAdjust none none (-1) (n : Int) = ((n : Int) - 1, -1) := by
    simp [Builtin.Slice.sliceAdjust]
  rw [e1]
  have e2 : Builtin.Slice.slicePlaces ((n : Int) - 1) (-1) (-1) = n := by
    simp [Builtin.Slice.slicePlaces]
    omega
  show wpAny _ _ (pure ((n : Int) - 1, (-1 : Int), Builtin.Slice.slicePlaces ((n : Int) - 1) (-1) (-1))) _ _ s
  rw [e2]
  exact wpAny_pure h
theorem fm_congr {α β : Type} {f f' : α → Option β} : ∀ {l : List α}, (∀ a ∈ l, f a = f' a) → l.filterMap f = l.filterMap f'
  | [], _ => rfl
  | a :: r, h => by
    rw [List.filterMap_cons, List.filterMap_cons, h a (by simp), fm_congr (l := r) fun b hb => h b (by simp [hb])]
theorem pick_rev (xs : Array Value) : ((List.range xs.size).filterMap fun (m : Nat) => xs[(((xs.size : Int) - 1) + (m : Int) * (-1)).toNat]?).toArray = xs.toList.reverse.toArray := by
  have e := pick_gen xs.toList.reverse.toArray 0 xs.size
  rw [show (xs.toList.reverse.toArray.toList.drop 0).take xs.size = xs.toList.reverse by
    rw [List.drop_zero, List.take_of_length_le (by simp)]] at e
  rw [← e]
  congr 1
  refine fm_congr fun m hm => ?_
  have hm : m < xs.size := List.mem_range.mp hm
  have i1 : (((xs.size : Int) - 1) + (m : Int) * (-1)).toNat = xs.size - 1 - m := by omega
  have i2 : (((0 : Nat) : Int) + (m : Int) * 1).toNat = m := by omega
  rw [i1, i2]
  obtain ⟨l⟩ := xs
  simp at hm
  simp [List.getElem?_reverse hm]
/-- what t[x] does for a slice x, told where the cut lies -/
theorem tuple_slice {t sl : Addr} {items : Array Value} {lo step : Int} {n : Nat} {Q : Value → Shared → Prop} (ht : IsTup s.heap t items) (hs : s.TypeIs (.ref sl) "slice")
    (cut : ∀ (A : Around) (E : Value → Shared → Prop) (R : Int × Int × Nat → Shared → Prop), R (lo, step, n) s → wpAny (model prog w) A (Builtin.Slice.sliceApplied (.ref sl) (pure (items.size : Int))) R E s)
    (part : (lo == 0 && step == 1 && n == items.size) = false) (out : Array Value) (made : ((List.range n).filterMap fun (m : Nat) => items[(lo + (m : Int) * step).toNat]?).toArray = out) (z : out.size ≤ sizeLine)
    (q : Q (.ref s.heap.objs.size) { s with heap := s.heap.push { cls := .type "tuple", data := .seq out } }) : wpAny (model prog w) A (getItem (.ref t) (.ref sl)) Q E s := by
  have new : ∀ {A : Around} {R : Value → Shared → Prop}, R (.ref s.heap.objs.size) { s with heap := s.heap.push { cls := .type "tuple", data := .seq out } } → wpAny (model prog w) A (Builtin.Tuple.tupleExact out) R E s :=
    fun r => wpAny_newObj_type r z
  unfold getItem
  refine wpAny_holding (wpAny_bind (wpAny_sequenceKey ht.typeIs (by decide) (wpAny_bind (wpAny_callSpecial?_slot (name := Str.ofString "__getitem__") ht.typeIs PyProof.Rows.slot_tuple_getitem
    (wpAny_call_entry PyProof.Rows.slot_tuple_getitem ht.typeIs entry_tuple_getitem (wpAny_bind (m := Builtin.Tuple.tupleItemsOf (.ref t)) (tupleItemsOf_ ht (wpAny_bind (wpAny_typeOf hs ?_)))) (args_tuple_getitem _ _))))))
  rw [if_pos (by decide)]
  refine wpAny_bind (cut _ _ _ ?_)
  show wpAny _ _ (if (lo == 0 && step == 1 && n == items.size) = true then _ else _) _ _ s
  rw [part, if_neg (by decide), made]
  exact wpAny_bind (new (wpAny_pure ⟨_, rfl, wpAny_pure q⟩))
theorem getItem_tuple_rev {t sl : Addr} {items : Array Value} {vl vu vs : Value} {Q : Value → Shared → Prop} (ht : IsTup s.heap t items) (hs : s.heap.IsSliceOf sl vl vu vs) (pl : IsPart vl none) (pu : IsPart vu none) (ps : IsPart vs (some (-1)))
    (h : Q (.ref s.heap.objs.size) { s with heap := s.heap.push { cls := .type "tuple", data := .seq items.toList.reverse.toArray } }) (hsz : items.size ≤ sizeLine) : wpAny (model prog w) A (getItem (.ref t) (.ref sl)) Q E s :=
  tuple_slice (lo := items.size - 1) (step := -1) (n := items.size) ht (let ⟨o, g, c, _⟩ := hs; ⟨o, g, c⟩) (fun _ _ _ r => sliceApplied_rev hs pl pu ps r) (by simp) _ (pick_rev items) (by simpa using hsz) h
/-- collecting a list or a tuple -/
theorem collects {l : Addr} {vs : List Value} (hl : s.heap.IsList l vs.toArray ∨ IsTup s.heap l vs.toArray) (hz : vs.length ≤ sizeLine) (F : Value → Shared → Prop) (R : List Value → Shared → Prop)
    (q : ∀ h : Heap, Keeps s.heap h → s.heap.objs.size ≤ h.objs.size → R vs { s with heap := h }) : wpAny (model prog w) A (collect (.ref l)) R F s := by
  obtain ⟨T, hT, o, n, h1, h2, h3⟩ : ∃ T, (T = "list" ∨ T = "tuple") ∧ ∃ o n, s.heap.get? l = some o ∧ o.cls = .type T ∧ o.data = .seq vs.toArray n := by
    rcases hl with ⟨o, g1, g2, n, g3⟩ | ⟨o, g1, g2, n, g3⟩
    · exact ⟨"list", .inl rfl, o, n, g1, g2, g3⟩
    · exact ⟨"tuple", .inr rfl, o, n, g1, g2, g3⟩
  have new := Heap.get?_push_size s.heap (o := seqObj "list" #[] 0) rfl
  have old : Keeps s.heap ((s.heap.push (seqObj "list" #[] 0)).update s.heap.objs.size (Obj.mapSeq (· ++ vs.toArray))) := fun b o e =>
    (Heap.get?_update_ne _ _ _ _ (Nat.ne_of_lt (Heap.lt_size e))).trans (Heap.get?_push_of_some _ e)
  have size : s.heap.objs.size ≤ ((s.heap.push (seqObj "list" #[] 0)).update s.heap.objs.size (Obj.mapSeq (· ++ vs.toArray))).objs.size := by
    rw [Heap.size_update, size_push']
    exact Nat.le_succ _
  have told : ∀ h, h = (s.heap.push (seqObj "list" #[] 0)).update s.heap.objs.size (Obj.mapSeq (· ++ vs.toArray)) → wpAny (model prog w) A (load s.heap.objs.size >>= fun o => match o.data with
      | .seq xs _ => pure xs.toList
      | _ => unsupported "internal:collect") R F { s with heap := h } := fun h e => by
    subst e
    refine wpAny_bind (wpAny_load (get?_update_seq new _) (wpAny_pure ?_))
    rw [show ((#[] : Array Value) ++ vs.toArray).toList = vs from by simp]
    exact q _ old size
  refine wpAny_bind (m := runValue (.builtin "proto.collect" ⟨[.ref l], []⟩)) (wpAny_runValue (codeAny_builtin entry_proto_collect' (wpAny_bind (wpAny_newList (wpAny_pure ⟨Code.quiet_builtin _ (by decide +kernel), codeAny_builtin entry_list_iadd' ?_⟩)))))
  have ext := wpAny_extend_seq (prog := prog) (w := w) (A := A) (s := { s with heap := s.heap.push (seqObj "list" #[] 0) }) (R := fun r t => r = .ok (.ret (.ref s.heap.objs.size)) ∧ t = { s with heap := (s.heap.push (seqObj "list" #[] 0)).update s.heap.objs.size (Obj.mapSeq (· ++ vs.toArray)) })
    s.heap.objs.size l (.ref s.heap.objs.size) 0 hT new (Heap.get?_push_of_some _ h1) h2 h3 ⟨rfl, rfl⟩ (by simpa using hz)
  refine wpAny_mono ext (fun fin t z => ?_) fun e t z => absurd z.1 (by simp)
  cases fin with
  | done f =>
    obtain ⟨z, rfl⟩ := z
    cases z
    exact told _ rfl
  | again c => exact ⟨z.1, codeAny_mono z.2 fun r t y => by obtain ⟨rfl, rfl⟩ := y; exact told _ rfl⟩
/-- sorted of a list or a tuple -/
theorem sorted_ord2 {l : Addr} {vs : List Value} {ltv : Value → Value → Bool} {Q : Value → Shared → Prop} (O : SrtO.Swo ltv) (hl : s.heap.IsList l vs.toArray ∨ IsTup s.heap l vs.toArray) (hz : vs.length ≤ sizeLine)
    (S : 2 ≤ vs.length → ∀ (h : Heap) (a : Addr), h.get? a = some (seqObj "list" vs.toArray 0) → s.heap.get? a = none → Keeps s.heap h → SrtO.SortableO prog w A.in1.in1 { s with heap := h } a vs ltv)
    (q : ∀ (h : Heap) (p : Addr) (out : List Value) (c : Nat), Keeps s.heap h → s.heap.objs.size ≤ p → h.get? p = some (seqObj "list" out.toArray c) → SrtO.Srtd ltv out → SrtO.Stb ltv out vs → Q (.ref p) { s with heap := h }) :
    wpAny (model prog w) A (call (.builtin "sorted") [.ref l]) Q E s := by
  have new : ∀ {h : Heap} {a : Addr}, Keeps s.heap h → h.get? a = none → s.heap.get? a = none := fun {h a} k e => by
    cases z : s.heap.get? a with
    | none => rfl
    | some o => rw [k a o z] at e; cases e
  refine sorted_via (P := fun us t => us = vs ∧ ∃ h, t = { s with heap := h } ∧ Keeps s.heap h ∧ s.heap.objs.size ≤ h.objs.size) O
    (fun F R r => collects hl hz F R fun h k g => r vs _ ⟨rfl, h, rfl, k, g⟩) (fun us t z => by rw [z.1]; exact hz) ?_ ?_
  · rintro us t a h ⟨rfl, h0, rfl, k0, _⟩ two e1 e2 k
    exact S two h a e1 (new k0 e2) fun b o g => k b o (k0 b o g)
  · rintro us t h p out c ⟨rfl, h0, rfl, k0, g0⟩ k le e s1 s2
    exact q h p out c (fun b o g => k b o (k0 b o g)) (Nat.le_trans g0 le) e s1 s2
end

/-! ### tuples of ints by HT.lexLt -/
theorem lexLt_irr : ∀ a : List Int, lexLt a a = false
  | [] => rfl
  | x :: r => by rw [lexLt_cons, if_pos rfl]; exact lexLt_irr r
theorem lexLt_asym : ∀ a b : List Int, lexLt a b = true → lexLt b a = false
  | [], [], h => rfl
  | [], _ :: _, _ => rfl
  | _ :: _, [], h => by cases h
  | x :: r, y :: t, h => by
    rw [lexLt_cons] at h ⊢
    by_cases e : x = y
    · rw [if_pos e] at h
      rw [if_pos e.symm]
      exact lexLt_asym r t h
    · rw [if_neg e] at h
      rw [if_neg (fun z => e z.symm)]
      have := of_decide_eq_true h
      exact decide_eq_false (by omega)
theorem lexLt_conn : ∀ a b : List Int, lexLt a b = false → lexLt b a = false → a = b
  | [], [], _, _ => rfl
  | [], _ :: _, h, _ => by cases h
  | _ :: _, [], _, h => by cases h
  | x :: r, y :: t, h, h' => by
    rw [lexLt_cons] at h h'
    by_cases e : x = y
    · rw [if_pos e] at h
      rw [if_pos e.symm] at h'
      rw [e, lexLt_conn r t h h']
    · rw [if_neg e] at h
      rw [if_neg (fun z => e z.symm)] at h'
      have := of_decide_eq_false h
      have := of_decide_eq_false h'
      omega
theorem lexLe_cons {x y : Int} {a b : List Int} : lexLt (y :: b) (x :: a) = false ↔ x < y ∨ (x = y ∧ lexLt b a = false) := by
  rw [lexLt_cons]
  by_cases e : y = x
  · subst e
    simp
  · have e' : ¬ x = y := fun z => e z.symm
    simp only [if_neg e, decide_eq_false_iff_not, e', false_and, or_false]
    omega
theorem lexLt_tr (a : List Int) : ∀ b c : List Int, lexLt b a = false → lexLt c b = false → lexLt c a = false := by
  induction a with
  | nil => intro b c _ _; cases c <;> rfl
  | cons x a ih =>
    intro b c ab bc
    cases b with
    | nil => cases ab
    | cons y b =>
      cases c with
      | nil => cases bc
      | cons z c =>
        rw [lexLe_cons] at ab bc ⊢
        rcases ab with l | ⟨rfl, ab⟩ <;> rcases bc with m | ⟨rfl, bc⟩
        · exact .inl (Int.lt_trans l m)
        · exact .inl l
        · exact .inl m
        · exact .inr ⟨rfl, ih b c ab bc⟩
theorem swo_tups (k : Value → List Int) : SrtO.Swo fun v u => lexLt (k v) (k u) := ⟨fun _ _ h => lexLt_asym _ _ h, fun _ _ _ h h' => lexLt_tr _ _ _ h h'⟩
section
variable {prog : Program} {w : World} {A : Around} {E : Value → Shared → Prop} {s : Shared}
theorem kat_ints {Q : Bool → Shared → Prop} : ∀ {xs ys : List Value} {ns ms : List Int} (i : Nat) (fin : Bool), IntsAre xs ns → IntsAre ys ms → fin = decide (xs.length < ys.length) → Q (lexLt ns ms) s → PySem.W.KatLex prog w A true fin Q (xs.zip ys) i s
  | _, _, _, _, i, fin, .nil, .nil, hf, q => PySem.W.kat_nil (by rw [hf]; exact q)
  | _, _, _, _, i, fin, .nil, .cons _ _ _, hf, q => PySem.W.kat_nil (by rw [hf]; rw [lexLt_nil_cons] at q; simpa using q)
  | _, _, _, _, i, fin, .cons _ _ _, .nil, hf, q => PySem.W.kat_nil (by rw [hf]; rw [lexLt_cons_nil] at q; simpa using q)
  | _, _, _, _, i, fin, .cons (vs := xs) (ns := ns) n t h, .cons (vs := ys) (ns := ms) m u h', hf, q => by
    rw [List.zip_cons_cons]
    refine PySem.W.kat_cons (SeqAt.EqAt.int_int n t m u prog w _ _ ?_)
    rw [lexLt_cons] at q
    refine PySem.W.kat_go (fun e1 => ?_) (fun e1 => ?_)
    · have ex : n = m := by simpa using e1
      rw [if_pos ex] at q
      refine PySem.W.kat_yes (kat_ints (i + 1) fin h h' ?_ q)
      rw [hf]
      simp
    · have ex : ¬ n = m := by simpa using e1
      rw [if_neg ex] at q
      cases i with
      | zero => exact PySem.W.kat_no (oneLt_int q)
      | succ i => exact PySem.W.kat_no (by
          have e0 : (true && (i + 1 == 0)) = false := by simp
          rw [e0]
          exact PySem.W.kat_one _ _ (PyProof.Rows.lt_int q))
/-- the values are tuples of ints, k's, none empty -/
def TupsK (h : Heap) (k : Value → List Int) (vs : List Value) : Prop := ∀ v ∈ vs, TS.TupInts h v (k v) ∧ k v ≠ []
theorem TupsK.keep {h h' : Heap} {k : Value → List Int} {vs : List Value} (x : TupsK h k vs) (e : ∀ b o, h.get? b = some o → o.cls = .type "tuple" → h'.get? b = some o) : TupsK h' k vs :=
  fun v m => ⟨(x v m).1.keeps e, (x v m).2⟩
theorem TupsK.heads {h : Heap} {k : Value → List Int} {vs : List Value} (x : TupsK h k vs) : ∃ fs, PySem.W.KatTups h vs fs ∧ fs.length = vs.length ∧ ∀ f ∈ fs, ∃ n t, f = Value.int n t := by
  induction vs with
  | nil => exact ⟨[], .nil, rfl, fun f m => nomatch m⟩
  | cons v r ih =>
    obtain ⟨fs, a, b, c⟩ := ih fun u m => x u (.tail _ m)
    obtain ⟨⟨p, ⟨l⟩, rfl, ⟨o, g1, g2, n, g3⟩, ia⟩, ne⟩ := x v (.head _)
    generalize k (.ref p) = ks at ia ne
    have ia : IntsAre l ks := ia
    cases ia with
    | nil => exact absurd rfl ne
    | cons m t _ =>
      refine ⟨.int m t :: fs, .cons g1 g2 g3 rfl a, congrArg (· + 1) b, fun f z => ?_⟩
      cases z with
      | head => exact ⟨m, t, rfl⟩
      | tail _ z => exact c f z
theorem tups_cmp {vs : List Value} {k : Value → List Int} (x : ∀ v ∈ vs, TS.TupInts s.heap v (k v)) : SrtO.Cmp prog w A s (tuples' true) (fun p => p.1 ∈ vs) (SrtO.lt2 fun v u => lexLt (k v) (k u)) := by
  intro p q hm hm'
  obtain ⟨a, xs, e, ⟨o, ho, hc, n, hd⟩, i⟩ := x _ hm
  obtain ⟨a', xs', e', ⟨o', ho', hc', n', hd'⟩, i'⟩ := x _ hm'
  show wpAny (model prog w) A (keyLt' (tuples' true) p.1 q.1) (fun r s' => s' = s ∧ r = lexLt (k p.1) (k q.1)) (fun _ _ => False) s
  generalize hk : k p.1 = ns at i ⊢
  generalize hk' : k q.1 = ms at i' ⊢
  rw [e, e']
  refine PySem.W.kat_lt ho hd ho' hd' ?_
  exact kat_ints 0 _ i i' (by simp) ⟨rfl, rfl⟩
theorem TupsK.sortable {a : Addr} {k : Value → List Int} {vs : List Value} (some_ : 0 < vs.length) (x : TupsK s.heap k vs) (ha : ∀ o, s.heap.get? a = some o → o.cls ≠ .type "tuple") : SrtO.SortableO prog w A s a vs fun v u => lexLt (k v) (k u) := by
  intro h' keep
  have y : TupsK h' k vs := x.keep fun b o e c => keep b o (fun z => ha o (z ▸ e) c) e
  obtain ⟨fs, kat, len, nums⟩ := y.heads
  have ni : (Value.type "int" != Value.type "tuple") = true := by decide
  refine ⟨tuples' true, fun Q E q => PySem.W.kat_kind (T := .type "int") kat (by omega) (fun f m => ?_) rfl (by rw [ni]; exact q), tups_cmp (s := { s with heap := h' }) fun v m => (y v m).1⟩
  obtain ⟨n, t, rfl⟩ := nums f m
  exact PySem.W.Looks.now
/-- sorted(l), tuples of ints -/
theorem sorted_tupsO {l : Addr} {vs : List Value} {k : Value → List Int} {Q : Value → Shared → Prop} (hl : s.heap.IsList l vs.toArray ∨ IsTup s.heap l vs.toArray) (hz : vs.length ≤ sizeLine) (x : TupsK s.heap k vs)
    (q : ∀ (h : Heap) (p : Addr) (out : List Value) (c : Nat), Keeps s.heap h → s.heap.objs.size ≤ p → h.get? p = some (seqObj "list" out.toArray c) → SrtO.Srtd (fun v u => lexLt (k v) (k u)) out → out.Perm vs → Q (.ref p) { s with heap := h }) :
    wpAny (model prog w) A (call (.builtin "sorted") [.ref l]) Q E s := by
  refine sorted_ord2 (swo_tups k) hl hz (fun two h a e1 e2 kk => ?_) fun h p out c kk le e s1 s2 => q h p out c kk le e s1 s2.perm
  refine TupsK.sortable (s := { s with heap := h }) (by omega) (x.keep fun b o e _ => kk b o e) fun o e z => ?_
  have e : h.get? a = some o := e
  rw [e1] at e
  cases e
  exact absurd (Value.type.inj z) (by decide)
end

/-! ### new tuples, their objects known -/
section
variable {X : Cx}
/-- what is wanted of a new tuple -/
def NewT (H : Hp) (xs : List V) (Q : VK) : Prop := ∀ p (o : Obj), H p = none → o.dict = none → Q (.ref p) (upd H p (.frz o (.tup xs)))
theorem Inv.tnew {pins : List (Addr × Obj)} {σ : L2.St} {H : Hp} {s : Shared} {xs : List V} {its : List Value} (I : L2.Inv X pins σ H s) (r : Vals xs its) (z : xs.length ≤ sizeLine) {Q : VK} (q : NewT H xs Q) :
    EP X pins σ Q (.ref s.heap.objs.size) { s with heap := s.heap.push { cls := .type "tuple", data := .seq its.toArray } } := by
  refine ⟨.ref s.heap.objs.size, upd H s.heap.objs.size (.frz { cls := .type "tuple", data := .seq its.toArray } (.tup xs)), I.laid (t' := s.toks) (fun b u e => Heap.get?_push_of_some _ e) (Nat.le_refl _) ?_, rfl, q _ _ (I.hok.fresh (Nat.le_refl _)) rfl⟩
  exact ⟨Heap.get?_push_size _ rfl, z, its, r, IsTup.new _ _⟩
def tTupF (t : TA) : TE := fun σ H Q => t σ H fun xs H1 => xs.length ≤ sizeLine ∧ NewT H1 xs Q
theorem pe_tupF {es : List Expr} {t : TA} {x1} {pos : Pos} (h : PA X es t) : PE X (.Tuple es x1 pos) (tTupF t) := by
  refine ⟨fun pins s σ H Q I hq => ?_⟩
  exact wpAny_Tuple_spliced (thn (h.run pos pins s σ H _ I hq) fun us s1 ⟨xs, H1, I1, r, z, q⟩ => ⟨by rw [← r.length]; exact z, Inv.tnew I1 r z q⟩)
theorem call_tupF : CallR X (.type "tuple") (fun xs H Q => ∃ p ys, xs = [.ref p] ∧ ((SqL X.K H p ys ∧ NewT H ys Q) ∨ (SqT X.K H p ys ∧ Q (.ref p) H))) := by
  rintro pins s σ H xs us Q I r h
  obtain ⟨p, ys, rfl, h⟩ := h
  rcases h with ⟨hq, q⟩ | h
  · obtain ⟨u, rfl, rx⟩ := vals1 r
    cases rx
    obtain ⟨its, r', pl, hz⟩ := I.list hq
    have hlen := r'.length
    refine call_tuple_list pl.isList (fun h' kp => ?_) (by rw [List.size_toArray]; omega)
    have I1 : L2.Inv X pins σ H { s with heap := h' } := I.kept (t' := s.toks) kp
    exact Inv.tnew I1 r' hz q
  · exact call_tuple_of pins s σ H _ us Q I r ⟨p, ys, rfl, .inr h⟩
def rCatF (K : PySem.W.Frag) : R2 := fun x y H Q => ∃ a b xs ys, x = .ref a ∧ y = .ref b ∧ SqT K H a xs ∧ SqT K H b ys ∧ xs.length + ys.length ≤ sizeLine ∧ (xs = [] → Q (.ref b) H) ∧ (xs ≠ [] → ys = [] → Q (.ref a) H) ∧ (xs ≠ [] → ys ≠ [] → NewT H (xs ++ ys) Q)
theorem op_catF : OpR X (binaryOp .Add) (rCatF X.K) := by
  rintro pins s σ H _ _ v u Q I rx ry ⟨a, b, xs, ys, rfl, rfl, ha, hb, hz, no_x, no_y, both⟩
  rcases rx, ry with ⟨rfl, rfl⟩
  obtain ⟨l, rl, tl, _⟩ := I.tuple ha
  obtain ⟨m, rm, tm, _⟩ := I.tuple hb
  have fits : l.length + m.length ≤ sizeLine := by rw [← rl.length, ← rm.length]; exact hz
  match xs, rl, no_x, no_y, both with
  | [], .nil, no_x, _, _ => exact cat_tup0 tl tm ⟨.ref b, H, I, rfl, no_x rfl⟩
  | x :: xs, rl, _, no_y, both =>
    have full : x :: xs ≠ [] := fun z => nomatch z
    exact HT.cat_tup tl tm (fun z => full ((Vals.nil_iff rl).mp z)) (fun z => ⟨.ref a, H, I, rfl, no_y full ((Vals.nil_iff rm).mp z)⟩)
      (fun z => Inv.tnew I (rl.append rm) (by rw [List.length_append]; exact hz) (both full fun y => z ((Vals.nil_iff rm).mpr y))) (by simpa using fits)
def rSlF (K : PySem.W.Frag) : V → Option Int → Option Int → Hp → VK → Prop := fun x lo hi H Q => ∃ a xs, x = .ref a ∧ SqT K H a xs ∧
  (HT.sIx xs.length 0 lo = 0 ∧ HT.sIx xs.length xs.length hi = xs.length → Q (.ref a) H) ∧ (¬ (HT.sIx xs.length 0 lo = 0 ∧ HT.sIx xs.length xs.length hi = xs.length) → NewT H (cutV xs lo hi) Q)
theorem sl_tupF : SlR X (rSlF X.K) := by
  rintro pins s σ H _ v vl vu lo hi sl Q I rx hs pl pu ⟨a, xs, rfl, ha, all, some_⟩
  rcases rx with rfl
  obtain ⟨l, rl, tl, z⟩ := I.tuple ha
  have n : l.toArray.size = xs.length := rl.length.symm
  refine ⟨"tuple", _, PyProof.Rows.slot_tuple_getitem.lookup, tl.typeIs, ?_⟩
  cases Decidable.em (HT.sIx xs.length 0 lo = 0 ∧ HT.sIx xs.length xs.length hi = xs.length) with
  | inl whole => exact getItem_tuple_whole tl hs pl pu (n ▸ whole) ⟨.ref a, H, I, rfl, all whole⟩
  | inr part =>
    have out : Vals (cutV xs lo hi) ((l.toArray.toList.drop (HT.sIx l.toArray.size 0 lo)).take (HT.sIx l.toArray.size l.toArray.size hi - HT.sIx l.toArray.size 0 lo)) := n ▸ (rl.drop _).take _
    exact HT.getItem_tuple_cut tl hs pl pu (n ▸ part) (Inv.tnew I out (Nat.le_trans (cutV_length xs lo hi) z) (some_ part)) (n ▸ z)
def rRepF (K : PySem.W.Frag) : R2 := fun x y H Q => ∃ l k xs, x = .ref l ∧ y = .int k ∧ SqT K H l xs ∧ xs ≠ [] ∧ 2 ≤ k ∧ k ≤ 1000 ∧ xs.length ≤ 1000 ∧ NewT H (List.replicate k.toNat xs).flatten Q
theorem few_times {n k : Nat} (a : n ≤ 1000) (b : k ≤ 1000) : k * n ≤ sizeLine :=
  Nat.le_trans (Nat.mul_le_mul b a) (by rw [sizeLine_eq]; decide)
theorem op_repF : OpR X (binaryOp .Mult) (rRepF X.K) := by
  rintro pins s σ H _ _ v u Q I rx ry ⟨l, k, xs, rfl, rfl, hT, ne, k2, k1000, few, q⟩
  rcases rx, ry with ⟨rfl, t, rfl⟩
  obtain ⟨its, r, ⟨⟨cls, dd, data, slots⟩, at_, isT, n, isS⟩, _⟩ := I.tuple hT
  cases isT
  cases isS
  have len : xs.length = its.length := r.length
  obtain ⟨i0, rest, rfl⟩ : ∃ i0 rest, its = i0 :: rest := by
    cases its with
    | nil => exact absurd (List.eq_nil_of_length_eq_zero len) ne
    | cons i0 rest => exact ⟨i0, rest, rfl⟩
  obtain ⟨m, rfl⟩ : ∃ m : Nat, k = m := ⟨k.toNat, by omega⟩
  have size : m * (i0 :: rest).length ≤ sizeLine := few_times (len ▸ few) (by omega)
  have word : (decide (((m : Nat) : Int) < -(2 ^ 63)) || decide (((m : Nat) : Int) ≥ 2 ^ 63)) = false := by simp; omega
  have more : ((i0 :: rest).toArray.isEmpty || ((m : Nat) : Int) == 1) = false := by simp; omega
  have pos : (decide (((m : Nat) : Int) ≤ 0) || (i0 :: rest).toArray.isEmpty) = false := by simp; omega
  have cells : (((i0 :: rest).toArray.size : Nat) : Int) * (m : Nat) = ((m * (i0 :: rest).length : Nat) : Int) := by
    rw [List.size_toArray, Nat.mul_comm]
    exact (Int.natCast_mul _ _).symm
  have fits : Builtin.Tuple.tupleTooMany ((((i0 :: rest).toArray.size : Nat) : Int) * (m : Nat)) = false := by
    rw [cells]
    exact decide_eq_false (by omega)
  have small : sizeLine < 2 ^ 60 := by rw [sizeLine_eq]; decide
  have made : (((List.replicate ((m : Nat) : Int).toNat (i0 :: rest)).flatten).length) ≤ sizeLine := by
    rw [lm_len_rep_flat]
    exact size
  have made' : (((List.replicate ((m : Nat) : Int).toNat xs).flatten).length) ≤ sizeLine := by
    rw [lm_len_rep_flat, len]
    exact size
  refine wpAny_binaryOp_repeat_ref (T := "tuple") (U := "int") (by decide) ⟨_, at_, rfl⟩ (fun s' => typeIs_int s' _ t) noFill_tuple_mul F.fills_int_mul F.slot_int_rmul repeat_tuple F.slot_int_index.lookup ?_
  have turned := int_rmul_tuple (m : Nat) t l (i0 :: rest).toArray n dd slots
  have times := tuple_mulW l (i0 :: rest).toArray n dd slots m t word more pos (by rw [cells]; omega) fits (by rw [size_rep, List.size_toArray]; exact made)
  refine call_meets F.slot_int_rmul (typeIs_int s _ t) F.entry_int_rmul (F.args_int_rmul_2 _ _) turned ⟨at_, rfl, ⟨_, at_, rfl⟩, ?_⟩
  refine call_meets F.slot_tuple_mul ⟨_, at_, rfl⟩ F.entry_tuple_mul (F.args_tuple_mul_2 _ _) times ⟨at_, ?_⟩
  rw [size_rep]
  exact Inv.tnew I (r.rep _) made' q
/-- a method of a tuple -/
def tBMT (r : V → List V → Hp → VK → Prop) (to : TE) (t : TA) : TE := fun σ H Q => to σ H fun x H1 => (∃ a xs, x = .ref a ∧ TupAt H1 a xs) ∧ t σ H1 fun xs H2 => r x xs H2 Q
theorem pe_bmT {o e : Expr} {es : List Expr} {to : TE} {t : TA} {name : Str} {apos cpos : Pos} {id : String} {r : V → List V → Hp → VK → Prop} (slot : Slot "tuple" name id) (hty : typeOf (.builtin id) = pure (.type "method_descriptor")) (hm : MtR X id r) (ho : PE X o to) (ha : PA X (e :: es) t)
    (hbase : attributeBase o name X.env (eval o X.env) = eval o X.env)
    (hfew : ((backTo cpos (starEach (e :: es) X.env)).all (fun y => !y.1) && (backToKw cpos (keywordEach [] X.env)).all (fun x => x.1.isSome)
      && decide ((e :: es).length + ([] : List Keyword).length + (if ([] : List Keyword).isEmpty then 0 else 1) < 30)) = true)
    (hline : (apos.endLine == cpos.line) = true) (hs : starEach (e :: es) X.env = (false, eval e X.env) :: starEach es X.env) (hplain : (backTo cpos (starEach es X.env)).any (·.1) = false) :
    PE X (.Call (.Attribute o name apos) (e :: es) [] cpos) (tBMT r to t) := by
  constructor
  intro pins s σ H Q I h
  have args := fun (s1 : Shared) (a : Addr) (H1 : Hp) (I1 : L2.Inv X pins σ H1 s1) q1 => hs ▸ ha.run cpos pins s1 σ H1 (fun xs H2 => r (.ref a) xs H2 Q) I1 q1
  apply wpAny_Call_method_late hbase hfew hline rfl
  refine thn (ho.run pins s σ H _ I h) ?_
  rintro v s1 ⟨x, H1, I1, rv, ⟨a, xs, rfl, ob, e, dn⟩, q1⟩
  rcases rv with rfl
  have ⟨there, _, its, _, tup⟩ := I1.hok a _ e
  refine ⟨"tuple", id, PySem.F.plainAttrs_tuple, slot, hty, tup.typeIs, fun b eb => ?_, ?_⟩
  · cases eb
    exact ⟨ob, there, dn⟩
  rw [hs]
  refine Calls.callWith_builtin (by simpa [backTo] using hplain) (Calls.evalArgs_plain (thn (args s1 a H1 I1 q1) ?_))
  rintro us s2 ⟨vs, H2, I2, r2, q2⟩
  exact hm pins s2 σ H2 (.ref a) vs (.ref a) us Q I2 rfl r2 q2
end
end Cor

set_option Elab.async false
set_option linter.all false
set_option maxRecDepth 100000
set_option maxHeartbeats 3200000
/-! SetI: set(x) of a list or a tuple, told what its loop does; a set sorted. -/
namespace Cor
open PySem PySem.Spec L2 HT
open PyProof.Rows hiding St
section
variable {P : Program} {w : World} {A : Around} {E : Value → Shared → Prop} {s : Shared}
/-- a set just made -/
def nset (w : World) : Obj := { cls := .type "set", dict := none, data := .set #[] 0 (.fresh 0 0 (!w.params.followText "set-order")) }
/-- a class called: its object made, then begun, both told as codes -/
theorem made_begun {T mk ini : String} {as : List Value} {Q N : Value → Shared → Prop} (c : TypeCalled T mk ini) (ok : checkTypeCall T ⟨as, []⟩ = pure ()) (new : codeAny (model P w) A.in1 (.call (.builtin mk) ⟨.type T :: as, []⟩) (wants N E) s)
    (begin_ : ∀ x t, N x t → t.TypeIs x T ∧ codeAny (model P w) A.in1 (.call (.builtin ini) ⟨x :: as, []⟩) (wants (fun r t => r = .none ∧ Q x t) E) t) : wpAny (model P w) A (call (.type T) as) Q E s := by
  have ⟨_, _, m⟩ := c.mro
  have t1 := c.notType
  have t2 := c.canCreate
  have t3 := c.made
  have t4 := c.sub
  have t5 := c.init.lookup
  apply wpAny_call
  apply codeAny_of_tree
  change wpAny _ _ (callAny (.type T) ⟨as, []⟩) _ _ _
  apply wpAny_pure
  refine ⟨Code.quiet_builtin _ (by decide +kernel), codeAny_builtin F.entry_type_call ?_⟩
  rw [Around.under_plain (weight_type_call_type T as []) (units_type_call_type T as [])]
  wp_walk
  refine codeAny_mono new fun r t z => ?_
  match r, z with
  | .error _, z => exact z
  | .ok (.ret x), z =>
    have ⟨isT, go⟩ := begin_ x t z
    have t6 := c.init.bind x
    wp_walk
    refine codeAny_mono go fun r t z => ?_
    match r, z with
    | .error _, z => exact z
    | .ok (.ret _), ⟨e, z⟩ =>
      subst e
      wp_walk
      exact z
theorem fromSeq {S l : Addr} {T id : String} {Q : Unit → Shared → Prop} (hT : T = "list" ∨ T = "tuple") (ht : s.TypeIs (.ref l) T)
    (goes : wpAny (model P w) A (pyIter (.ref l)) (fun it t => wpAny (model P w) A (runValue (.builtin "set.update.loop" ⟨[.ref S, it], []⟩)) (fun _ t => Q () t) E t) E s) :
    wpAny (model P w) A (Builtin.Frozenset.updateFrom id S (.ref l)) Q E s := by
  have no1 : isSubtype (.type T) (.type "set") = pure false := by
    rcases hT with rfl | rfl
    · exact F.sub_list_set
    · exact F.sub_tuple_set
  have no2 : isSubtype (.type T) (.type "frozenset") = pure false := by
    rcases hT with rfl | rfl
    · exact F.sub_list_frozenset
    · exact F.sub_tuple_frozenset
  have no3 : (Value.type T == Value.type "dict") = false := by
    rcases hT with rfl | rfl <;> decide
  unfold Builtin.Frozenset.updateFrom Builtin.Frozenset.isAnySet
  refine wpAny_bind (wpAny_bind (wpAny_isInstance ht no1 ?_))
  show wpAny _ _ (isInstance (.ref l) (.type "frozenset")) _ _ _
  refine wpAny_isInstance ht no2 ?_
  show wpAny _ _ (typeOf (.ref l) >>= _) _ _ _
  refine wpAny_bind (wpAny_typeOf ht ?_)
  rw [no3]
  refine wpAny_bind (wpAny_mono goes (fun it t g => wpAny_bind (wpAny_mono g (fun _ t z => wpAny_pure z) fun _ _ z => z)) fun _ _ z => z)
/-- what walks along l's items -/
abbrev Walker (P : Program) (w : World) (A : Around) (l I : Addr) (items : Array Value) (St : Nat → Shared → Prop) : Prop :=
  WalksS P w A I [I, l] [I] (fun a b => b = a) items.size (fun i v => items[i]? = some v) St
/-- an iterator of a list or a tuple -/
theorem walker {l : Addr} {items : Array Value} {B : Around} {Q : Value → Shared → Prop} (calm : B.handled = none) (hl : s.heap.IsList l items ∨ s.heap.IsTuple l items)
    (q : ∀ (St : Nat → Shared → Prop) (o : Obj), Walker P w B l s.heap.objs.size items St → St 0 { s with heap := s.heap.push o } → Q (.ref s.heap.objs.size) { s with heap := s.heap.push o }) :
    wpAny (model P w) A (pyIter (.ref l)) Q E s := by
  rcases hl with hl | hl
  · have ne : l ≠ s.heap.objs.size := let ⟨_, g, _⟩ := hl; Nat.ne_of_lt (Heap.lt_size g)
    exact wpAny_pyIter_list hl (q _ _ (Walks.list calm _ l ne items).toS ⟨⟨_, Heap.get?_push_size _ rfl, rfl, rfl⟩, hl.push _⟩)
  · have ne : l ≠ s.heap.objs.size := let ⟨_, g, _⟩ := hl; Nat.ne_of_lt (Heap.lt_size g)
    exact wpAny_pyIter_tuple hl (q _ _ (Walks.tuple calm _ l ne items).toS ⟨⟨_, Heap.get?_push_size _ rfl, rfl, rfl⟩, hl.push _⟩)
theorem set_via {l : Addr} {items : Array Value} {R : Shared → Prop} {Q : Value → Shared → Prop} (calm : A.handled = none) (hl : s.heap.IsList l items ∨ s.heap.IsTuple l items)
    (loop : ∀ (St : Nat → Shared → Prop) (h : Heap) (Z : Result → Shared → Prop), Walker P w A.in1.in1.in1 l (s.heap.objs.size + 1) items St → h.get? s.heap.objs.size = some (nset w) → Keeps s.heap h → St 0 { s with heap := h } →
      (∀ t, R t → Z (.ok (.ret .none)) t) → codeAny (model P w) A.in1.in1 (.builtin "set.update.loop" ⟨[.ref s.heap.objs.size, .ref (s.heap.objs.size + 1)], []⟩) Z { s with heap := h })
    (q : ∀ t, R t → Q (.ref s.heap.objs.size) t) : wpAny (model P w) A (call (.type "set") [.ref l]) Q E s := by
  refine made_begun (N := fun v t => v = .ref s.heap.objs.size ∧ t = { s with heap := s.heap.push (nset w) }) F.called_set (F.typeCall_set_1 _) (code_set_led1 _ ⟨rfl, rfl⟩) ?_
  rintro v t ⟨rfl, rfl⟩
  have new : (s.heap.push (nset w)).get? s.heap.objs.size = some (nset w) := Heap.get?_push_size _ rfl
  have isT : Shared.TypeIs { s with heap := s.heap.push (nset w) } (.ref s.heap.objs.size) "set" := ⟨_, new, rfl⟩
  have size : (s.heap.push (nset w)).objs.size = s.heap.objs.size + 1 := Heap.size_push ..
  have kept : Keeps s.heap (s.heap.push (nset w)) := fun b o e => Heap.get?_push_of_some _ e
  have hl' : (s.heap.push (nset w)).IsList l items ∨ (s.heap.push (nset w)).IsTuple l items := hl.imp (fun z => z.push _) fun z => z.push _
  have typ : ∃ T, (T = "list" ∨ T = "tuple") ∧ Shared.TypeIs { s with heap := s.heap.push (nset w) } (.ref l) T := by
    rcases hl' with ⟨o, g, c, _⟩ | ⟨o, g, c, _⟩
    · exact ⟨_, .inl rfl, o, g, c⟩
    · exact ⟨_, .inr rfl, o, g, c⟩
  obtain ⟨T, hT, lT⟩ := typ
  refine ⟨isT, codeAny_call_builtin F.called_set.init.plain F.entry_set_init (check_set_init_1 isT ?_)⟩
  have goes : wpAny (model P w) A.in1.in1 (Builtin.Frozenset.updateFrom "set.__init__" s.heap.objs.size (.ref l)) (fun _ t => R t) (fun _ _ => False) { s with heap := s.heap.push (nset w) } := by
    refine fromSeq hT lT (walker (B := A.in1.in1.in1) (by simp [calm]) hl' fun St o W st => ?_)
    refine wpAny_runValue ?_
    rw [show Shared.heap { s with heap := s.heap.push (nset w) } = s.heap.push (nset w) from rfl, size] at W ⊢
    exact loop St _ _ W (Heap.get?_push_of_some _ new) (fun b o e => Heap.get?_push_of_some _ (kept b o e)) st fun t z => z
  unfold Builtin.«set.__init__» noKeywords
  generalize Builtin.Frozenset.updateFrom = U at goes ⊢
  wp_walk
  exact wpAny_mono goes (fun _ t z => wpAny_pure ⟨rfl, q t z⟩) fun _ _ z => z.elim
theorem ints_at : ∀ {us : List Value} {ns : List Int}, IntsAre us ns → ∀ (i : Nat) (v : Value), us[i]? = some v → ∃ k t, ns[i]? = some k ∧ v = .int k t
  | _, _, .nil, _, _, e => nomatch e
  | _, _, .cons n t _, 0, _, e => ⟨n, t, rfl, (Option.some.inj e).symm⟩
  | _, _, .cons _ _ r, i + 1, v, e => ints_at r i v e
theorem ints_val {items : Array Value} {ns : List Int} (hit : IntsAre items.toList ns) (i : Nat) (v : Value) (e : items[i]? = some v) : ∃ k t, ns[i]? = some k ∧ v = .int k t := ints_at hit i v (Array.getElem?_toList.trans e)
theorem not_way {S l : Addr} (lt : l < S) : S ∉ [S + 1, l] := fun m => by
  rcases List.mem_cons.mp m with e | m
  · exact Nat.lt_irrefl S (Nat.lt_of_lt_of_eq (Nat.lt_succ_self S) e.symm)
  · exact Nat.lt_irrefl S ((List.mem_singleton.mp m).symm ▸ lt)
/-- what came of a walk that wrote to a new set and its iterator alone -/
theorem moved_heap {S I : Addr} {h : Heap} {t : Shared} (k : Keeps s.heap h) (hS : s.heap.objs.size ≤ S) (hI : s.heap.objs.size ≤ I) (m : Moved [S, I] (fun a b => b = a) { s with heap := h } t) : t = { s with heap := t.heap, toks := t.toks } ∧ Keeps s.heap t.heap := by
  obtain ⟨mh, mg, md, mo, _⟩ := m
  refine ⟨?_, fun b o e => mh b o (fun z => ?_) (k b o e)⟩
  · cases t
    cases mg
    cases md
    cases mo
    rfl
  · have lt := Heap.lt_size e
    simp only [List.mem_cons, List.not_mem_nil, or_false] at z
    rcases z with rfl | rfl
    · exact Nat.not_lt.mpr hS lt
    · exact Nat.not_lt.mpr hI lt
/-- set(x), ints -/
theorem set_ints {l : Addr} {items : Array Value} {ns : List Int} {Q : Value → Shared → Prop} (calm : A.handled = none) (hl : s.heap.IsList l items ∨ s.heap.IsTuple l items) (hit : IntsAre items.toList ns) (few : ns.length + 1 < scanBound)
    (q : ∀ (h : Heap) (tk c : Nat), SetR w h s.heap.objs.size (fun j => decide (j ∈ ns)) c → c ≤ ns.length → Keeps s.heap h → Q (.ref s.heap.objs.size) { s with heap := h, toks := tk }) :
    wpAny (model P w) A (call (.type "set") [.ref l]) Q E s := by
  have size : items.size = ns.length := (Array.length_toList).symm.trans hit.length
  have lt : l < s.heap.objs.size := by
    rcases hl with ⟨o, g, _⟩ | ⟨o, g, _⟩ <;> exact Heap.lt_size g
  refine set_via (R := fun t => ∃ c, t = { s with heap := t.heap, toks := t.toks } ∧ SetR w t.heap s.heap.objs.size (fun j => decide (j ∈ ns)) c ∧ c ≤ ns.length ∧ Keeps s.heap t.heap) calm hl (fun St h Z W new kept st z => ?_) fun t ⟨c, e, r, le, k⟩ => ?_
  · refine set_update_ints W s.heap.objs.size (not_way lt) ns size few (fun i v e => ints_val hit i v e) items.size 0 { s with heap := h } (Nat.sub_zero _) (Nat.zero_le _) st ⟨0, Nat.le_refl _, setR_new_at new⟩ fun t c m le r => ?_
    have ⟨e, k⟩ := moved_heap kept (Nat.le_refl _) (Nat.le_succ _) m
    exact z t ⟨c, e, r, size ▸ le, k⟩
  · rw [e]
    exact q t.heap t.toks c r le k
/-- set(x), tuples of ints -/
theorem set_tups {l : Addr} {items : Array Value} (ks : List (Addr × List Int)) {Q : Value → Shared → Prop} (calm : A.handled = none) (hl : s.heap.IsList l items ∨ s.heap.IsTuple l items) (hit : items.toList = ks.map fun p => Value.ref p.1)
    (tups : ∀ p ∈ ks, IsT P w s.heap p.2 p.1) (few : ks.length < 64) (hu : A.units + 3 < cLine)
    (q : ∀ (h : Heap) (tk : Nat) L es ep t, SetTR P w h s.heap.objs.size L es ep t → Got ks ks.length L → Keeps s.heap h → Q (.ref s.heap.objs.size) { s with heap := h, toks := tk }) :
    wpAny (model P w) A (call (.type "set") [.ref l]) Q E s := by
  have size : items.size = ks.length := by rw [← Array.length_toList, hit, List.length_map]
  have lt : l < s.heap.objs.size := by
    rcases hl with ⟨o, g, _⟩ | ⟨o, g, _⟩ <;> exact Heap.lt_size g
  have out : ∀ b, s.heap.objs.size ≤ b → s.heap.get? b = none := fun b le => by
    cases e : s.heap.get? b with
    | none => rfl
    | some o => exact absurd (Heap.lt_size e) (Nat.not_lt.mpr le)
  refine set_via (R := fun t => ∃ L es ep u, t = { s with heap := t.heap, toks := t.toks } ∧ SetTR P w t.heap s.heap.objs.size L es ep u ∧ Got ks ks.length L ∧ Keeps s.heap t.heap) calm hl (fun St h Z W new kept st z => ?_) fun t ⟨L, es, ep, u, e, r, g, k⟩ => ?_
  · refine set_update_tups W s.heap.objs.size (not_way lt) ks size few (fun i v e => ?_) s.heap tups (out _ (Nat.le_refl _)) (fun b m => out b ?_) hu items.size 0 { s with heap := h } (Nat.sub_zero _) (Nat.zero_le _) st kept ⟨[], #[], 0, _, setTR_fresh new, Got.zero ks⟩ fun t L es ep u m r g k => ?_
    · have e : items.toList[i]? = some v := Array.getElem?_toList.trans e
      rw [hit, List.getElem?_map] at e
      exact let ⟨p, h1, h2⟩ := Option.map_eq_some_iff.mp e; ⟨p, h1, h2.symm⟩
    · rw [List.mem_singleton.mp m]
      exact Nat.le_succ _
    · exact z t ⟨L, es, ep, u, (moved_heap kept (Nat.le_refl _) (Nat.le_succ _) m).1, r, size ▸ g, k⟩
  · rw [e]
    exact q t.heap t.toks L es ep u r g k
/-- sorted(x), a set of tuples of ints, none empty -/
theorem sorted_setTups {a : Addr} {L : List (Addr × List Int)} {es : Array (Int × Value)} {ep : Nat} {t : SetTable} {Q : Value → Shared → Prop} (R : SetTR P w s.heap a L es ep t) (calm : A.handled = none) (ne : ∀ p ∈ L, p.2 ≠ [])
    (q : ∀ (t : Shared) (p : Addr) (out : List Value) (c : Nat), Keeps s.heap t.heap → t.gens = s.gens → t.os = s.os → s.heap.objs.size ≤ p → t.heap.get? p = some (seqObj "list" out.toArray c) → out.Perm (L.map fun z => Value.ref z.1) →
      SrtO.Srtd (fun v u => lexLt (TS.intsOf s.heap v) (TS.intsOf s.heap u)) out → Q (.ref p) t) : wpAny (model P w) A (call (.builtin "sorted") [.ref a]) Q E s := by
  obtain ⟨o, at_, exact_, data⟩ := R.ob
  have rows : es.toList.map (·.2) = L.map fun z => Value.ref z.1 := by
    rw [R.rows]
    unfold rowsOf
    rw [List.map_map]
    rfl
  have few := R.few
  have keys : ∀ {us : List Value}, us.Perm (L.map fun z => Value.ref z.1) → TupsK s.heap (TS.intsOf s.heap) us := fun {us} pm v m => by
    obtain ⟨z, hz, rfl⟩ := List.mem_map.mp (pm.mem_iff.mp m)
    have told := tupInts_of (P := P) (w := w) (R.tup z hz)
    rw [told.ints]
    exact ⟨told, ne z hz⟩
  refine sorted_via (P := fun us u => us.Perm (L.map fun z => Value.ref z.1) ∧ Keeps s.heap u.heap ∧ s.heap.objs.size ≤ u.heap.objs.size ∧ u.gens = s.gens ∧ u.os = s.os) (swo_tups (TS.intsOf s.heap)) (fun F Z z => ?_) (fun us u z => ?_) ?_ ?_
  · exact collect_set (A := A.in1) calm ⟨o, at_, exact_.1, data⟩ R.fits (by have := R.size; unfold scanBound; omega) R.tab.ris R.led fun u us k le g o pm => z us u ⟨rows ▸ pm, k, le, g, o⟩
  · have := z.1.length_eq
    rw [List.length_map] at this
    rw [sizeLine_eq]
    omega
  · rintro us u b h ⟨pm, k, le, _, _⟩ two e1 e2 kk
    refine TupsK.sortable (s := { u with heap := h }) (by omega) ((keys pm).keep fun b o e _ => kk b o (k b o e)) fun o e z => ?_
    have e : h.get? b = some o := e
    rw [e1] at e
    cases e
    exact absurd (Value.type.inj z) (by decide)
  · rintro us u h p out c ⟨pm, k, le, g, o⟩ kk lp e srt stb
    exact q { u with heap := h } p out c (fun b o e => kk b o (k b o e)) g o (Nat.le_trans le lp) e (stb.perm.trans pm) srt
end
end Cor

set_option Elab.async false
set_option linter.all false
set_option maxRecDepth 100000
set_option maxHeartbeats 1200000
/-! SoundV: the operations on data, by values. -/
namespace Cor
open PySem PySem.Spec L2
open PyProof.Rows hiding St

/-- what comes: the state behind it, the value -/
def Out (g : Gx) (B : Bs) (G : Hp) (env : Env) (σ : St) (fr : Bool) (d : D) (Q : VK) : Prop := ∀ v H' G', StOk g B G' H' env σ → Same G G' → VRep g B G' H' env σ fr d v → Q v H'
theorem Out.old {g : Gx} {B : Bs} {G H : Hp} {env : Env} {σ : St} {d : D} {Q : VK} (q : Out g B G env σ false d Q) (S : StOk g B G H env σ) {v : V} (r : Rep g G d v) : Q v H := q v H G S (.refl G) r
theorem Out.lst {g : Gx} {B : Bs} {G H : Hp} {env : Env} {σ : St} {l : List D} {vs : List V} {Q : VK} (q : Out g B G env σ true (.lst l) Q) (S : StOk g B G H env σ) (r : Reps g G l vs) : ∀ p, H p = none → Q (.ref p) (upd H p (.lst vs)) := fun p n => by
  obtain ⟨S', r'⟩ := S.newLst n r
  exact q _ _ G S' (.refl G) r'
theorem Out.tup {g : Gx} {B : Bs} {G H : Hp} {env : Env} {σ : St} {l : List D} {vs : List V} {Q : VK} (q : Out g B G env σ false (.tup l) Q) (S : StOk g B G H env σ) (r : Reps g G l vs) : NewT H vs Q := fun p o n d => by
  obtain ⟨S', s, r'⟩ := S.newTup n d r
  exact q _ _ _ S' s r'

def opOf : BOp → Operator
  | .add => .Add | .sub => .Sub | .mul => .Mult | .fdiv => .FloorDiv | .mod => .Mod | .pow => .Pow
def copOf : COp → CmpOp
  | .lt => .Lt | .le => .LtE | .gt => .Gt | .ge => .GtE | .eq => .Eq | .ne => .NotEq | .mem => .In | .nmem => .NotIn | .is => .Is | .isn => .IsNot

section
variable {X : Cx} {g : Gx}
theorem szL_eq : szL = sizeLine := by rw [sizeLine_eq]; rfl
theorem _root_.L2.Inv.lstR {pins : List (Addr × Obj)} {σ : St} {H : Hp} {s : Shared} {a : Addr} {xs : List V} (I : Inv X pins σ H s) (h : Rd H a (.lst xs)) :
    xs.length ≤ sizeLine ∧ ∃ (its : List Value) (n : Nat), Vals xs its ∧ xs.length = its.length ∧ s.heap.get? a = some { cls := .type "list", data := .seq its.toArray n } := by
  obtain ⟨z, its, n, r, e⟩ := h.ok I.hok
  exact ⟨z, its, n, r, r.length, e⟩
/-- list + list -/
def rCatR : R2 := fun x y H Q => ∃ l b xs zs, x = .ref l ∧ y = .ref b ∧ Rd H l (.lst xs) ∧ Rd H b (.lst zs) ∧ xs.length + zs.length ≤ sizeLine ∧ ∀ p, H p = none → Q (.ref p) (upd H p (.lst (xs ++ zs)))
theorem op_catR : OpR X (binaryOp .Add) rCatR := by
  rintro pins s σ H _ _ v u Q I rx ry ⟨l, b, xs, zs, rfl, rfl, hl, hb, few, q⟩
  rcases rx, ry with ⟨rfl, rfl⟩
  obtain ⟨_, is, _, ri, ni, ei⟩ := I.lstR hl
  obtain ⟨_, js, _, rj, nj, ej⟩ := I.lstR hb
  have sum : xs.length + zs.length = (xs ++ zs).length := List.length_append.symm
  refine PySem.P.add_list ei ej ?_ (by rw [List.size_toArray, List.size_toArray, ← ni, ← nj]; exact few)
  rw [List.append_toArray]
  exact ⟨.ref _, _, I.lnew (t' := s.toks) (ri.append rj) (sum ▸ few), rfl, q _ I.fresh⟩
/-- list * int -/
def rRepR : R2 := fun x y H Q => ∃ l k xs, x = .ref l ∧ y = .int k ∧ Rd H l (.lst xs) ∧ -(2 ^ 63) ≤ k ∧ k < 2 ^ 63 ∧ xs.length * k.toNat ≤ sizeLine ∧
  ∀ p, H p = none → Q (.ref p) (upd H p (.lst (List.replicate k.toNat xs).flatten))
/-- so many copies of a list, as the list's own product makes them -/
theorem copies (l : List Value) (k : Nat) : List.foldl (· ++ ·) (#[] : Array Value) (List.replicate (if l.toArray.isEmpty = true then 0 else k) l.toArray) = (List.replicate k l).flatten.toArray := by
  have f := foldl_rep l (if l.toArray.isEmpty = true then 0 else k) []
  rw [List.nil_append] at f
  refine f.trans (congrArg List.toArray ?_)
  cases l <;> simp
theorem op_repR : OpR X (binaryOp .Mult) rRepR := by
  rintro pins s σ H _ _ v u Q I rx ry ⟨l, k, xs, rfl, rfl, hl, lo, hi, few, q⟩
  rcases rx, ry with ⟨rfl, t, rfl⟩
  obtain ⟨_, its, n, r, len, at_⟩ := I.lstR hl
  have size : its.toArray.size * k.toNat ≤ sizeLine := by rw [List.size_toArray, ← len]; exact few
  have word : (!Builtin.List.listFitsIndex k) = false := by rw [fitsIndex_both lo hi]; rfl
  have bytes : sizeLine ≤ (2 ^ 63 - 1) / 8 := by decide
  have times := AutoListH.list___mul___list_int_3 l its.toArray n k t (by rw [word]; decide) (Nat.not_lt.mpr (Nat.le_trans size bytes)) (by rw [notLongL size]; decide)
  refine wpAny_binaryOp_repeat_ref (T := "list") (U := "int") (by decide) ⟨_, at_, rfl⟩ (fun s' => typeIs_int s' k t) noFill_list_mul F.fills_int_mul F.slot_int_rmul repeat_list F.slot_int_index.lookup ?_
  have turned := int___rmul___int_list k t l its.toArray n
  refine call_meets F.slot_int_rmul (typeIs_int s k t) F.entry_int_rmul (F.args_int_rmul_2 _ _) turned ⟨at_, rfl, ⟨_, at_, rfl⟩, ?_⟩
  refine call_meets F.slot_list_mul ⟨_, at_, rfl⟩ F.entry_list_mul (F.args_list_mul_2 _ _) times ⟨at_, ?_⟩
  rw [copies]
  have made : (List.replicate k.toNat xs).flatten.length ≤ sizeLine := by
    rw [PyProof.Rows.lm_len_rep_flat, Nat.mul_comm]
    exact few
  exact ⟨.ref _, _, I.lnew (t' := s.toks) (r.rep k.toNat) made, rfl, q _ I.fresh⟩

/-! ### binary operators -/
def rBin (g : Gx) (o : BOp) : R2 := fun x y H Q => ∃ B G env σ dx dy d, StOk g B G H env σ ∧ Obs g G H dx x ∧ Obs g G H dy y ∧ binD o dx dy = some d ∧ Out g B G env σ d.isLst d Q
theorem op_bin (hK : X.K = g.K) (o : BOp) : OpR X (binaryOp (opOf o)) (rBin g o) := by
  intro pins s σ' H x y v u Q I rx ry h
  obtain ⟨B, G, env, σ, dx, dy, d, S, ox, oy, e, q⟩ := h
  have lI : ∀ {i : Int} {z : V}, Obs g G H (.int i) z → z = .int i := fun h => (h.rep rfl).intI
  unfold binD at e
  split at e
  · cases e; exact op_add pins s σ' H x y v u Q I rx ry ⟨_, _, lI ox, lI oy, q.old S .int⟩
  · cases e; exact op_sub pins s σ' H x y v u Q I rx ry ⟨_, _, lI ox, lI oy, q.old S .int⟩
  · split at e
    · rename_i hc
      cases e; exact op_mul pins s σ' H x y v u Q I rx ry ⟨_, _, lI ox, lI oy, (by have z := of_decide_eq_true hc; exact z), q.old S .int⟩
    · cases e
  · split at e
    · rename_i hc
      have hc' := of_decide_eq_true hc
      cases e; exact op_fdiv pins s σ' H x y v u Q I rx ry ⟨_, _, lI ox, lI oy, ⟨hc'.1, by have := hc'.2; omega⟩, q.old S .int⟩
    · cases e
  · split at e
    · rename_i hc
      cases e; exact op_mod pins s σ' H x y v u Q I rx ry ⟨_, _, lI ox, lI oy, hc, q.old S .int⟩
    · cases e
  · split at e
    · rename_i hc
      have hc' := of_decide_eq_true hc
      cases e; exact op_pow pins s σ' H x y v u Q I rx ry ⟨_, _, lI ox, lI oy, ⟨hc'.1, by have := hc'.2.1; omega, hc'.2.2⟩, q.old S .int⟩
    · cases e
  · split at e
    · rename_i hc
      cases e
      obtain ⟨a, xs, rfl, h1, r1⟩ := ox.lst S.sub
      obtain ⟨b, ys, rfl, h2, r2⟩ := oy.lst S.sub
      exact op_catR pins s σ' H _ _ v u Q I rx ry ⟨a, b, xs, ys, rfl, rfl, h1, h2, by rw [r1.length, r2.length, ← szL_eq]; exact hc, q.lst S (r1.append r2)⟩
    · cases e
  · split at e
    · rename_i hc
      cases e
      obtain ⟨a, xs, rfl, h1, r1⟩ := ox.tup S.sub
      obtain ⟨b, ys, rfl, h2, r2⟩ := oy.tup S.sub
      have o1 := ox.rep rfl
      have o2 := oy.rep rfl
      refine op_catF pins s σ' H _ _ v u Q I rx ry ⟨a, b, xs, ys, rfl, rfl, h1.sq, h2.sq, by rw [r1.length, r2.length, ← szL_eq]; exact hc, fun z => ?_, fun _ne z => ?_, fun _ _ => q.tup S (r1.append r2)⟩
      · subst z
        have : _ = 0 := r1.length.symm
        rename_i l1 l2
        have e0 : l1 = [] := List.eq_nil_of_length_eq_zero this
        subst e0
        exact q.old S o2
      · subst z
        have : _ = 0 := r2.length.symm
        rename_i l1 l2
        have e0 : l2 = [] := List.eq_nil_of_length_eq_zero this
        subst e0
        rw [List.append_nil] at q
        exact q.old S o1
    · cases e
  · split at e
    · rename_i hc
      cases e
      obtain ⟨a, xs, rfl, h1, r1⟩ := ox.tup S.sub
      refine op_repF pins s σ' H _ _ v u Q I rx ry ⟨a, _, xs, rfl, lI oy, h1.sq, ?_, hc.2.1, hc.2.2.1, by rw [r1.length]; exact hc.2.2.2, q.tup S (r1.rep _)⟩
      intro z
      subst z
      have := r1.length
      simp at this
      omega
    · cases e
  · split at e
    · rename_i hc
      cases e
      obtain ⟨a, xs, rfl, h1, r1⟩ := ox.lst S.sub
      refine op_repR pins s σ' H _ _ v u Q I rx ry ⟨a, _, xs, rfl, lI oy, h1, by omega, by omega, ?_, q.lst S (r1.rep _)⟩
      rw [r1.length, sizeLine_eq]
      rename_i l k
      have : l.length * k.toNat ≤ 1000 * 1000 := Nat.mul_le_mul hc.2.2 (by omega)
      omega
    · cases e
  · split at e
    · rename_i hc
      cases e
      exact op_add_str pins s σ' H x y v u Q I rx ry ⟨_, _, (ox.rep rfl).strI, (oy.rep rfl).strI, by rw [← szL_eq]; exact hc, q.old S .str⟩
    · cases e
  · cases e

/-! ### data compared -/
mutual
theorem Rep.dp {G H : Hp} {K : PySem.W.Frag} (s : Same G H) (hK : g.K = K) : ∀ {d : D} {v : V}, Rep g G d v → d.toPy.canLay0 = true → Dp K H v d.toPy
  | .non, v, h, _ => by rw [h.nonI]; exact .non
  | .bl b, v, h, _ => by rw [h.blI]; exact .bl b
  | .int i, v, h, _ => by rw [h.intI]; exact .int i
  | .str x, v, h, _ => by rw [h.strI]; exact .str x
  | .tup l, v, h, c => by
    obtain ⟨a, vs, rfl, q, r⟩ := h.tupI
    exact .tup (q.mono s).sq (Reps.dp s hK r (by simpa only [D.toPy, PyData.canLay0] using c))
  | .lst l, v, h, c => by
    obtain ⟨a, vs, rfl, q, r⟩ := h.lstI
    exact .lst (.inl (q.mono s)) (Reps.dp s hK r (by simpa only [D.toPy, PyData.canLay0] using c))
  | .dct _, v, h, c => by simp only [D.toPy, PyData.canLay0] at c; cases c
  | .fn _, v, h, c => by simp only [D.toPy, PyData.canLay0] at c; cases c
theorem Reps.dp {G H : Hp} {K : PySem.W.Frag} (s : Same G H) (hK : g.K = K) : ∀ {l : List D} {vs : List V}, Reps g G l vs → PyData.canLayAll0 (D.toPys l) = true → DpAll K H vs (D.toPys l)
  | [], _, h, _ => by simp only [Reps] at h; subst h; simp only [D.toPys]; exact .nil
  | d :: r, _, h, c => by
    simp only [Reps] at h
    obtain ⟨v, ws, rfl, h1, h2⟩ := h
    simp only [D.toPys, PyData.canLayAll0, Bool.and_eq_true] at c ⊢
    exact .cons (Rep.dp s hK h1 c.1) (Reps.dp s hK h2 c.2)
end
theorem Obs.dp {G H : Hp} (s : Same G H) (hK : X.K = g.K) {d : D} {v : V} (h : Obs g G H d v) (c : d.ok = true) : Dp X.K H v d.toPy := by
  have c0 : d.toPy.canLay0 = true := SeqAt.canLay_of_shaped c
  rcases h with h | ⟨p, rfl, l, vs, rfl, h1, h2⟩
  · exact Rep.dp s hK.symm h c0
  · simp only [D.toPy, PyData.canLay0] at c0 ⊢
    exact .lst (SqL.of h1) (Reps.dp s hK.symm h2 c0)
theorem ints_spec : ∀ {l : List D} {ns : List Int}, D.ints? l = some ns → l = ns.map D.int
  | [], ns, h => by
    simp only [D.ints?, List.mapM_nil] at h
    cases h
    rfl
  | d :: r, ns, h => by
    simp only [D.ints?, List.mapM_cons, Option.bind_eq_bind, Option.bind_eq_some_iff] at h
    obtain ⟨i, hi, js, hj, e⟩ := h
    cases e
    cases d with
    | int k => cases hi; rw [ints_spec (l := r) (ns := js) hj]; rfl
    | _ => cases hi
theorem reps_ints {G : Hp} : ∀ {ns : List Int} {vs : List V}, Reps g G (ns.map D.int) vs → vs = ns.map V.int
  | [], _, h => by simp only [List.map, Reps] at h; exact h
  | n :: r, _, h => by
    simp only [List.map, Reps] at h
    obtain ⟨v, ws, rfl, h1, h2⟩ := h
    rw [h1.intI, reps_ints h2]
    rfl
theorem toPys_any (f : PyData → Bool) : ∀ l : List D, (D.toPys l).any f = l.any fun z => f z.toPy
  | [] => by simp only [D.toPys]; rfl
  | d :: r => by simp only [D.toPys, List.any_cons, toPys_any f r]

/-! ### t > u of tuples of ints -/
theorem lexAt_gt : ∀ (k i : Nat) (ns ms : List Int), k = min (ns.length - i) (ms.length - i) → i ≤ ns.length → i ≤ ms.length →
    Ob.lexAt (fun j => decide (ns.getD j 0 = ms.getD j 0)) (fun j => decide (ms.getD j 0 < ns.getD j 0)) (decide (ns.length > ms.length)) i k = HT.lexLt (ms.drop i) (ns.drop i)
  | 0, i, ns, ms, hk, h1, h2 => by
    rw [Ob.lexAt_zero]
    by_cases e : ns.length = i
    · rw [List.drop_of_length_le (by omega : ns.length ≤ i)]
      have : decide (ns.length > ms.length) = false := decide_eq_false (by omega)
      rw [this]
      cases ms.drop i <;> rfl
    · have e2 : ms.length = i := by omega
      rw [List.drop_of_length_le (by omega : ms.length ≤ i)]
      have : decide (ns.length > ms.length) = true := decide_eq_true (by omega)
      rw [this, List.drop_eq_getElem_cons (by omega : i < ns.length)]
      rfl
  | k + 1, i, ns, ms, hk, h1, h2 => by
    have a1 : i < ns.length := by omega
    have a2 : i < ms.length := by omega
    rw [Ob.lexAt_succ, lexAt_gt k (i + 1) ns ms (by omega) (by omega) (by omega), List.drop_eq_getElem_cons a1, List.drop_eq_getElem_cons a2, HT.lexLt_cons]
    have g1 : ns.getD i 0 = ns[i] := by simp [a1]
    have g2 : ms.getD i 0 = ms[i] := by simp [a2]
    rw [g1, g2]
    by_cases e : ns[i] = ms[i]
    · rw [if_pos (by simpa using e), if_pos e.symm]
    · rw [if_neg (by simpa using e), if_neg (fun z => e z.symm)]
def rGtT (K : PySem.W.Frag) : R2 := fun x y H Q => ∃ a b ns ms, x = .ref a ∧ y = .ref b ∧ SqT K H a (ns.map V.int) ∧ SqT K H b (ms.map V.int) ∧ Q (.bl (HT.lexLt ms ns)) H
theorem op_gtT (hu : X.A.units < cLine) : OpR X (compareOp .Gt) (rGtT X.K) := by
  rintro pins s σ H _ _ v u Q I rx ry ⟨a, b, ns, ms, rfl, rfl, ha, hb, q⟩
  rcases rx, ry with ⟨rfl, rfl⟩
  obtain ⟨is, r1, t1, _⟩ := I.tuple ha
  obtain ⟨js, r2, t2, _⟩ := I.tuple hb
  have len1 : is.toArray.size = ns.length := r1.ints.length
  have len2 : js.toArray.size = ms.length := r2.ints.length
  have item : ∀ {l : List Value} {ks : List Int}, IntsAre l ks → ∀ j (z : j < l.toArray.size), ∃ t, l.toArray[j] = .int (ks.getD j 0) t :=
    fun {l ks} i j z => i.int_at j _ (List.getElem?_eq_getElem (by simpa using z))
  have gt : Ob.RcOp .Gt X.A s (.ref a) (.ref b) (HT.lexLt ms ns) := by
    have all := Ob.RcOp.tuples_gt (A := X.A) (s := s) (e := fun j => ns.getD j 0 == ms.getD j 0) (r := fun j => decide (ms.getD j 0 < ns.getD j 0)) t1 t2 hu
      (fun j z z' => by
        obtain ⟨⟨t, e⟩, t', e'⟩ := And.intro (item r1.ints j z) (item r2.ints j z')
        exact e ▸ e' ▸ SeqAt.EqAt.int_int _ _ _ _)
      (fun j z z' _ => by
        obtain ⟨⟨t, e⟩, t', e'⟩ := And.intro (item r1.ints j z) (item r2.ints j z')
        exact e ▸ e' ▸ Ob.RcOp.gt_int _ _ _ _)
    rw [len1, len2] at all
    have same : (fun j => ns.getD j 0 == ms.getD j 0) = fun j => decide (ns.getD j 0 = ms.getD j 0) := rfl
    rw [same, lexAt_gt _ 0 ns ms (by simp) (Nat.zero_le _) (Nat.zero_le _)] at all
    exact all
  exact gt X.prog X.w X.xe (EP X pins σ Q) ⟨.bl _, H, I, rfl, q⟩

/-! ### comparisons -/
def rCmp (g : Gx) (o : COp) : R2 := fun x y H Q => ∃ B G env σ dx dy k, StOk g B G H env σ ∧ Obs g G H dx x ∧ Obs g G H dy y ∧ cmpD o dx dy = some k ∧ Q (.bl k) H
theorem eqv_raw {H : Hp} {pins : List (Addr × Obj)} {σ : St} {s : Shared} (I : Inv X pins σ H s) {d : PyData} {v : V} {u : Value} (h : Dp X.K H v d) (r : RelV v u) : ∃ as, Reads s.heap u d as := Dp.reads I d v u h r
theorem Rep.none_ne {G : Hp} {d : D} {v : V} (h : Rep g G d v) (n : d ≠ .non) : v ≠ .non := by
  intro e
  subst e
  cases d with
  | non => exact n rfl
  | bl b => cases h.blI
  | int i => cases h.intI
  | str x => cases h.strI
  | tup l => obtain ⟨_, _, e, _⟩ := h.tupI; cases e
  | lst l => obtain ⟨_, _, e, _⟩ := h.lstI; cases e
  | dct l => simp only [Rep] at h
  | fn i => obtain ⟨_, e, _⟩ := h.fnI; cases e
theorem Obs.isNon {G H : Hp} {d : D} {v : V} (h : Obs g G H d v) : decide (v = .non) = d.isNon := by
  rcases h with h | ⟨p, rfl, l, vs, rfl, _⟩
  · cases d with
    | non => exact decide_eq_true h.nonI
    | bl b => exact decide_eq_false (h.none_ne (fun z => nomatch z))
    | int b => exact decide_eq_false (h.none_ne (fun z => nomatch z))
    | str b => exact decide_eq_false (h.none_ne (fun z => nomatch z))
    | tup b => exact decide_eq_false (h.none_ne (fun z => nomatch z))
    | lst b => exact decide_eq_false (h.none_ne (fun z => nomatch z))
    | dct b => exact decide_eq_false (h.none_ne (fun z => nomatch z))
    | fn b => exact decide_eq_false (h.none_ne (fun z => nomatch z))
  · rfl
theorem op_cmp (hK : X.K = g.K) (hu : X.A.units + 65 < cLine) (o : COp) : OpR X (compareOp (copOf o)) (rCmp g o) := by
  intro pins s σ' H x y v u Q I rx ry h
  obtain ⟨B, G, env, σ, dx, dy, k, S, ox, oy, e, q⟩ := h
  have lI : ∀ {i : Int} {z : V}, Obs g G H (.int i) z → z = .int i := fun h => (h.rep rfl).intI
  unfold cmpD at e
  split at e
  · cases e; exact op_lt pins s σ' H x y v u Q I rx ry ⟨_, _, lI ox, lI oy, q⟩
  · cases e; exact op_le pins s σ' H x y v u Q I rx ry ⟨_, _, lI ox, lI oy, q⟩
  · cases e; exact op_gt pins s σ' H x y v u Q I rx ry ⟨_, _, lI ox, lI oy, q⟩
  · cases e; exact op_ge pins s σ' H x y v u Q I rx ry ⟨_, _, lI ox, lI oy, q⟩
  · split at e
    · rename_i ns ms h1 h2
      cases e
      obtain ⟨a, xs, rfl, t1, r1⟩ := ox.tup S.sub
      obtain ⟨b, ys, rfl, t2, r2⟩ := oy.tup S.sub
      rw [ints_spec h1] at r1
      rw [ints_spec h2] at r2
      rw [reps_ints r1] at t1
      rw [reps_ints r2] at t2
      exact op_ltT (by omega) pins s σ' H _ _ v u Q I rx ry ⟨a, b, ns, ms, rfl, rfl, t1.sq, t2.sq, q⟩
    · cases e
  · split at e
    · rename_i ns ms h1 h2
      cases e
      obtain ⟨a, xs, rfl, t1, r1⟩ := ox.tup S.sub
      obtain ⟨b, ys, rfl, t2, r2⟩ := oy.tup S.sub
      rw [ints_spec h1] at r1
      rw [ints_spec h2] at r2
      rw [reps_ints r1] at t1
      rw [reps_ints r2] at t2
      exact op_gtT (by omega) pins s σ' H _ _ v u Q I rx ry ⟨a, b, ns, ms, rfl, rfl, t1.sq, t2.sq, q⟩
    · cases e
  · -- a dict: not told of here
    rcases ox with h | ⟨p, _, l, vs, z, _⟩
    · simp only [Rep] at h
    · cases z
  · split at e
    · rename_i hc
      cases e
      rw [Bool.and_eq_true] at hc
      exact op_eqD (by omega) pins s σ' H x y v u Q I rx ry ⟨_, _, ox.dp S.sub hK hc.1, oy.dp S.sub hK hc.2, hc.1, hc.2, q⟩
    · cases e
  · split at e
    · rename_i hc
      cases e
      rw [Bool.and_eq_true] at hc
      exact op_neD (by omega) pins s σ' H x y v u Q I rx ry ⟨_, _, ox.dp S.sub hK hc.1, oy.dp S.sub hK hc.2, hc.1, hc.2, q⟩
    · cases e
  · split at e
    · rename_i hc
      cases e
      rw [Bool.and_eq_true] at hc
      have d2 := oy.dp S.sub hK hc.2
      simp only [D.toPy] at d2
      have c2 := hc.2
      unfold D.ok at c2
      simp only [D.toPy] at c2
      exact op_inD hu pins s σ' H x y v u Q I rx ry ⟨_, _, ox.dp S.sub hK hc.1, d2, hc.1, c2, by rw [toPys_any]; exact q⟩
    · cases e
  · split at e
    · rename_i hc
      cases e
      rw [Bool.and_eq_true] at hc
      have d2 := oy.dp S.sub hK hc.2
      simp only [D.toPy] at d2
      have c2 := hc.2
      unfold D.ok at c2
      simp only [D.toPy] at c2
      obtain ⟨as, r1⟩ := Dp.reads I _ x v (ox.dp S.sub hK hc.1) rx
      obtain ⟨bs, r2⟩ := Dp.reads I _ y u d2 ry
      refine SeqAt.in_tuple_reads r2 r1 (SeqAt.canLay_of_shaped c2) (SeqAt.canLay_of_shaped hc.1) (room_in_shaped hc.1 hu) ⟨.bl _, H, I, rfl, ?_⟩
      rw [toPys_any]
      exact q
    · cases e
  · split at e
    · rename_i hc
      cases e
      rw [Bool.and_eq_true] at hc
      have d2 := oy.dp S.sub hK hc.2
      simp only [D.toPy] at d2
      have c2 := hc.2
      unfold D.ok at c2
      simp only [D.toPy] at c2
      exact op_notInD hu pins s σ' H x y v u Q I rx ry ⟨_, _, ox.dp S.sub hK hc.1, d2, hc.1, c2, by rw [toPys_any]; exact q⟩
    · cases e
  · split at e
    · rename_i hc
      cases e
      rw [Bool.and_eq_true] at hc
      have d2 := oy.dp S.sub hK hc.2
      simp only [D.toPy] at d2
      have c2 := hc.2
      unfold D.ok at c2
      simp only [D.toPy] at c2
      obtain ⟨as, r1⟩ := Dp.reads I _ x v (ox.dp S.sub hK hc.1) rx
      obtain ⟨bs, r2⟩ := Dp.reads I _ y u d2 ry
      refine SeqAt.notIn_tuple_reads r2 r1 (SeqAt.canLay_of_shaped c2) (SeqAt.canLay_of_shaped hc.1) (room_in_shaped hc.1 hu) ⟨.bl _, H, I, rfl, ?_⟩
      rw [toPys_any]
      exact q
    · cases e
  · rcases oy with h | ⟨p, _, l, vs, z, _⟩
    · simp only [Rep] at h
    · cases z
  · rcases oy with h | ⟨p, _, l, vs, z, _⟩
    · simp only [Rep] at h
    · cases z
  · cases e
    refine op_isN pins s σ' H x y v u Q I rx ry ⟨(oy.rep rfl).nonI, ?_⟩
    rw [ox.isNon]
    exact q
  · cases e
    refine op_notN pins s σ' H x y v u Q I rx ry ⟨(oy.rep rfl).nonI, ?_⟩
    rw [ox.isNon]
    exact q
  · cases e
    refine op_isBl pins s σ' H x y v u Q I rx ry ⟨_, _, (ox.rep rfl).blI, (oy.rep rfl).blI, ?_⟩
    rename_i a b
    cases a <;> cases b <;> exact q
  · cases e
    refine op_notBl pins s σ' H x y v u Q I rx ry ⟨_, _, (ox.rep rfl).blI, (oy.rep rfl).blI, ?_⟩
    rename_i a b
    cases a <;> cases b <;> exact q
  · cases e
end
end Cor

set_option Elab.async false
set_option linter.all false
set_option maxRecDepth 100000
set_option maxHeartbeats 1200000
/-! SoundW: items, slices, built-in functions, by values. -/
namespace Cor
open PySem PySem.Spec L2
open PyProof.Rows hiding St
section
variable {X : Cx} {g : Gx}
theorem atI_reps {G : Hp} {l : List D} {vs : List V} {i : Int} {d : D} (r : Reps g G l vs) (h : atI l i = some d) : ∃ v, L2.atI vs i = some v ∧ Rep g G d v := by
  unfold atI L2.atI at h
  rw [Option.bind_eq_some_iff] at h
  obtain ⟨j, hj, hd⟩ := h
  obtain ⟨v, hv, q⟩ := r.get hd
  refine ⟨v, ?_, q⟩
  unfold L2.atI
  rw [r.length]
  show (L2.ixN l.length i).bind (fun j => vs[j]?) = some v
  rw [hj]
  exact hv
def rIdx (g : Gx) : R2 := fun x y H Q => ∃ B G env σ dx dy d, StOk g B G H env σ ∧ Obs g G H dx x ∧ Rep g G dy y ∧ idxD dx dy = some d ∧ Out g B G env σ false d Q
theorem ix_D (hK : X.K = g.K) : IxR X (rIdx g) := by
  intro value slice pins s σ' H x y v u Q I rx ry h hs
  obtain ⟨B, G, env, σ, dx, dy, d, S, ox, oy, e, q⟩ := h
  unfold idxD at e
  split at e
  · obtain ⟨a, vs, rfl, h1, r1⟩ := ox.lst S.sub
    obtain ⟨z, hz, rz⟩ := atI_reps r1 e
    exact ix_list value slice pins s σ' H _ _ v u Q I rx ry ⟨a, vs, _, z, rfl, oy.intI, .inl h1, hz, q.old S rz⟩ hs
  · obtain ⟨a, vs, rfl, h1, r1⟩ := ox.tup S.sub
    obtain ⟨z, hz, rz⟩ := atI_reps r1 e
    exact ix_tup value slice pins s σ' H _ _ v u Q I rx ry ⟨a, vs, _, z, rfl, oy.intI, h1.sq, hz, q.old S rz⟩ hs
  · rcases ox with h | ⟨p, _, l, vs, z, _⟩
    · simp only [Rep] at h
    · cases z
  · cases e
theorem Reps.cut {G : Hp} {l : List D} {vs : List V} (r : Reps g G l vs) (lo hi : Option Int) : Reps g G (cut l lo hi) (cutV vs lo hi) := by
  unfold Cor.cut cutV
  rw [r.length]
  exact (r.drop _).take _
def rSlc (g : Gx) : V → Option Int → Option Int → Hp → VK → Prop := fun x lo hi H Q => ∃ B G env σ dx d, StOk g B G H env σ ∧ Obs g G H dx x ∧ slcD dx lo hi = some d ∧ Out g B G env σ d.isLst d Q
theorem sl_D (hK : X.K = g.K) : SlR X (rSlc g) := by
  intro pins s σ' H x v vl vu lo hi sl Q I rx hs pl pu h
  obtain ⟨B, G, env, σ, dx, d, S, ox, e, q⟩ := h
  unfold slcD at e
  split at e
  · cases e
    obtain ⟨a, vs, rfl, h1, r1⟩ := ox.lst S.sub
    exact sl_list pins s σ' H _ v vl vu lo hi sl Q I rx hs pl pu ⟨a, vs, rfl, .inl h1, q.lst S (r1.cut lo hi)⟩
  · cases e
    rename_i l
    have o1 := ox.rep rfl
    obtain ⟨a, vs, rfl, h1, r1⟩ := ox.tup S.sub
    refine sl_tupF pins s σ' H _ v vl vu lo hi sl Q I rx hs pl pu ⟨a, vs, rfl, h1.sq, fun z => ?_, fun _ => q.tup S (r1.cut lo hi)⟩
    have e0 : cut l lo hi = l := by
      unfold cut
      have z1 : sIx l.length 0 lo = 0 := by rw [← r1.length]; exact z.1
      have z2 : sIx l.length l.length hi = l.length := by rw [← r1.length]; exact z.2
      rw [z1, z2]
      simp
    rw [e0] at q
    exact q.old S o1
  · cases e
/-- x[::-1] -/
def tRev (K : PySem.W.Frag) (te : TE) : TE := fun σ H Q => te σ H fun x H1 => ∃ a xs, x = .ref a ∧ ((Rd H1 a (.lst xs) ∧ ∀ p, H1 p = none → Q (.ref p) (upd H1 p (.lst xs.reverse))) ∨ (SqT K H1 a xs ∧ NewT H1 xs.reverse Q))
theorem pe_rev {e : Expr} {te : TE} {k : Nat} {p1 p2 p3 pos : Pos} (he : PE X e te) : PE X (.Subscript e (.Slice none none (some (.UnaryOp .USub (.Constant (.int 1) k p1) p2)) p3) pos) (tRev X.K te) := by
  constructor
  intro pins s σ H Q I h
  -- the parts of the cut: none, none, -1
  have low := @po_none X
  have step : PO X (some (.UnaryOp .USub (.Constant (.int 1) k p1) p2)) (tPart (tUn (rU fun i => .int (-i)) (tC (.int 1)))) := po_some (pe_un un_neg pe_int)
  apply Subscript_
  refine thn (he.run pins s σ H _ I h) ?_
  rintro v s1 ⟨x, H1, I1, rv, a, xs, rfl, way⟩
  rcases rv with rfl
  apply wpAny_Slice
  refine thn (low.run pins s1 σ H1 (fun o H' => o = none ∧ H' = H1) I1 ⟨rfl, rfl⟩) ?_
  rintro vl s2 ⟨_, H2, I2, cl, rfl, rfl⟩
  refine thn (low.run pins s2 σ H2 (fun o H' => o = none ∧ H' = H2) I2 ⟨rfl, rfl⟩) ?_
  rintro vu s3 ⟨_, H3, I3, cu, rfl, rfl⟩
  refine thn (step.run pins s3 σ H3 (fun o H' => o = some (-1) ∧ H' = H3) I3 ⟨1, rfl, -1, rfl, rfl, rfl⟩) ?_
  rintro vs s4 ⟨_, H4, I4, cs, rfl, rfl⟩
  have J := I4.kept (t' := s4.toks) (h' := s4.heap.push { cls := .type "slice", data := .fields #[vl, vu, vs] }) fun b ob q => Heap.get?_push_of_some _ q
  have cut := Heap.IsSliceOf.new s4.heap vl vu vs
  rcases way with ⟨list, q⟩ | ⟨tuple, q⟩
  · obtain ⟨its, r, l, z⟩ := J.list (.inl list)
    have few : its.toArray.size ≤ sizeLine := by rw [List.size_toArray, ← r.length]; exact z
    refine tail_any (ops := [.ref a, .ref s4.heap.objs.size]) l.isList.typeIs (PySem.slot_list_getitem.lookup) ?_ (by with_unfolding_all rfl)
    apply wpAny_getItem_list_slice l.isList cut cl cu cs (by decide) ?_ few
    rw [PySem.W.krv_pick]
    have new := J.hok.fresh (Nat.le_refl _)
    exact ⟨.ref _, _, J.laid (t' := s4.toks) (o := .lst xs.reverse) (fun b ob g => Heap.get?_push_of_some _ g) (Nat.le_refl _) ⟨List.length_reverse.symm ▸ z, _, 0, r.reverse, Heap.get?_push_size _ rfl⟩, rfl, q _ new⟩
  · obtain ⟨its, r, t, z⟩ := J.tuple tuple
    refine tail_any (ops := [.ref a, .ref s4.heap.objs.size]) t.typeIs (PyProof.Rows.slot_tuple_getitem.lookup) ?_ (by with_unfolding_all rfl)
    exact getItem_tuple_rev t cut cl cu cs (Inv.tnew J r.reverse (List.length_reverse.symm ▸ z) q) (by rw [List.size_toArray, ← r.length]; exact z)

/-! ### isinstance -/
def kdNm : Kd → String
  | .bool => "bool" | .int => "int" | .str => "str" | .list => "list" | .tuple => "tuple"
theorem kd_ty {G H : Hp} {d : D} {v : V} {k : Kd} (s : Same G H) (hK : X.K = g.K) (o : Obs g G H d v) (h : kdOf d = some k) : TyX X.K H v (.type (kdNm k)) := by
  cases d with
  | bl b => cases h; rw [(o.rep rfl).blI]; exact .base (.bl b)
  | int b => cases h; rw [(o.rep rfl).intI]; exact .base (.int b)
  | str b => cases h; rw [(o.rep rfl).strI]; exact .base (.str b)
  | lst l =>
    cases h
    obtain ⟨a, vs, rfl, h1, _⟩ := o.lst s
    rcases h1 with h1 | ⟨ob, h1⟩
    · exact .base (.lst h1)
    · exact .base (.frz h1)
  | tup l =>
    cases h
    obtain ⟨a, vs, rfl, h1, _⟩ := o.tup s
    obtain ⟨ob, h1, _⟩ := h1
    exact .fTuple h1
  | non => cases h
  | dct l => cases h
  | fn l => cases h
theorem kd_none {G H : Hp} {v : V} (o : Obs g G H .non v) : TyX X.K H v (.type "NoneType") := by
  rw [(o.rep rfl).nonI]
  exact .base .non
def kdB (t : String) (k : Kd) : Bool := (kitB t (kdNm k)).getD false
theorem kit_all : ∀ (j : Option Kd) (k : Kd), kitB (match j with | some j => kdNm j | none => "NoneType") (kdNm k) = some (match j with | some .bool => (match k with | .bool => true | .int => true | _ => false) | some j => decide (j = k) | none => false) := by
  intro j k
  cases j with
  | none => cases k <;> decide +kernel
  | some j => cases j <;> cases k <;> decide +kernel

def tyNm (d : D) : String := match kdOf d with
  | some k => kdNm k
  | none => "NoneType"
theorem isi_some {d : D} {ks : List Kd} {b : Bool} (e : isiD d ks = some b) : (kdOf d = none → d = .non) ∧ b = ks.any (isKd d) := by
  cases d with
  | fn i => cases e
  | dct l => cases e
  | non => cases e; exact ⟨(fun _ => rfl), rfl⟩
  | bl i => cases e; exact ⟨(fun z => nomatch z), rfl⟩
  | int i => cases e; exact ⟨(fun z => nomatch z), rfl⟩
  | str i => cases e; exact ⟨(fun z => nomatch z), rfl⟩
  | tup i => cases e; exact ⟨(fun z => nomatch z), rfl⟩
  | lst i => cases e; exact ⟨(fun z => nomatch z), rfl⟩
theorem kit_at {G H : Hp} {d : D} {v : V} (s : Same G H) (hK : X.K = g.K) (o : Obs g G H d v) {ks : List Kd} {b : Bool} (e : isiD d ks = some b) :
    TyX X.K H v (.type (tyNm d)) ∧ ∀ k, kitB (tyNm d) (kdNm k) = some (isKd d k) := by
  obtain ⟨h1, _⟩ := isi_some e
  unfold tyNm
  cases q : kdOf d with
  | none =>
    have := h1 q
    subst this
    refine ⟨kd_none o, fun k => ?_⟩
    have z := kit_all none k
    simpa [isKd, kdOf] using z
  | some j =>
    refine ⟨kd_ty s hK o q, fun k => ?_⟩
    have z := kit_all (some j) k
    unfold isKd
    rw [q]
    exact z.trans (by cases j <;> cases k <;> rfl)
def rIsiD (g : Gx) (ks : List Kd) (y : V) : V → Hp → (V → Hp → Prop) → Prop := fun x H Q => ∃ B G env σ d b, StOk g B G H env σ ∧ Obs g G H d x ∧ isiD d ks = some b ∧ Q (.bl b) H
theorem isi_one (hK : X.K = g.K) (k : Kd) : CallR X (.builtin "isinstance") (fun xs H Q => ∃ x, xs = [x, .ty (kdNm k)] ∧ rIsiD g [k] x x H Q) := by
  intro pins s σ' H xs us Q I r h
  obtain ⟨x, rfl, B, G, env, σ, d, b, S, o, e, q⟩ := h
  obtain ⟨ty, kt⟩ := kit_at S.sub hK o e
  obtain ⟨_, hb⟩ := isi_some e
  refine call_isi pins s σ' H _ us Q I r ⟨x, _, _, _, _, rfl, .ty _, ty, kit_ty (kt k), ?_⟩
  rw [hb] at q
  simpa using q
theorem kit_any {K : PySem.W.Frag} {t : String} {d : D} : ∀ (ks : List Kd), (∀ k ∈ ks, kitB t (kdNm k) = some (isKd d k)) → PySem.W.kitAny K (.type t) (ks.map fun k => Value.type (kdNm k)) = some (ks.any (isKd d))
  | [], _ => kitAny_nil
  | k :: r, h => by
    have ih := kit_any (K := K) r fun j hj => h j (by simp [hj])
    refine kitAny_cons (kit_ty (h k (by simp))) (fun e => ?_) (fun e => ?_)
    · rw [List.any_cons, e, Bool.false_or]; exact ih
    · rw [List.any_cons, e, Bool.true_or]
theorem paired_kd : ∀ ks : List Kd, Paired ClsV (ks.map fun k => V.ty (kdNm k)) (ks.map fun k => Value.type (kdNm k))
  | [] => .nil
  | k :: r => .cons (.ty _) (paired_kd r)
theorem isi_many (hK : X.K = g.K) (ks : List Kd) : CallR X (.builtin "isinstance") (fun xs H Q => ∃ x tp, xs = [x, .ref tp] ∧ H tp = some (.tup (ks.map fun k => V.ty (kdNm k))) ∧ rIsiD g ks x x H Q) := by
  intro pins s σ' H xs us Q I r h
  obtain ⟨x, tp, rfl, ht, B, G, env, σ, d, b, S, o, e, q⟩ := h
  obtain ⟨ty, kt⟩ := kit_at S.sub hK o e
  obtain ⟨_, hb⟩ := isi_some e
  refine call_isiT pins s σ' H _ us Q I r ⟨x, tp, _, _, _, _, rfl, ht, paired_kd _, ty, kit_any _ fun k _ => kt k, ?_⟩
  rw [hb] at q
  exact q

/-! ### stores, appends -/
/-- the list at p, its owner's -/
theorem own_lst {G H : Hp} {p : Addr} {l : List D} (h : OwnAt g G H p (.lst l)) : ∃ vs, H p = some (.lst vs) ∧ Reps g G l vs := by
  obtain ⟨l', vs, e, h1, h2⟩ := h
  cases e
  exact ⟨vs, h1, h2⟩

/-! ### x.index(y) -/
theorem idxOf_spec (k : D) : ∀ (l : List D) (n m : Nat), idxOf k l n = some m → ∃ j z, m = n + j ∧ l[j]? = some z ∧ eqD z k = true ∧ ∀ (i : Nat) z', i < j → l[i]? = some z' → eqD z' k = false
  | [], n, m, h => by cases h
  | a :: r, n, m, h => by
    unfold idxOf at h
    split at h
    · rename_i hc
      cases h
      exact ⟨0, a, rfl, rfl, hc, fun i z' hi => by omega⟩
    · rename_i hc
      obtain ⟨j, z, e, h1, h2, h3⟩ := idxOf_spec k r (n + 1) m h
      refine ⟨j + 1, z, by omega, h1, h2, fun i z' hi hz => ?_⟩
      cases i with
      | zero =>
        cases hz
        simpa using hc
      | succ i => exact h3 i z' (by omega) hz
theorem toPys_get : ∀ (l : List D) (j : Nat), (D.toPys l)[j]? = (l[j]?).map D.toPy
  | [], j => by simp [D.toPys]
  | d :: r, 0 => by simp [D.toPys]
  | d :: r, j + 1 => by simp [D.toPys, toPys_get r j]
def rIndexT (K : PySem.W.Frag) : V → List V → Hp → VK → Prop := fun x xs H Q => ∃ (a : Addr) (y : V) (d : PyData) (ds : List PyData) (j : Nat) (z : PyData), x = V.ref a ∧ xs = [y] ∧ Dp K H (V.ref a) (.tuple ds) ∧ Dp K H y d ∧
  SeqAt.shaped (.tuple ds) = true ∧ SeqAt.shaped d = true ∧ ds[j]? = some z ∧ PyData.eqv z d = true ∧ (∀ (m : Nat) (z' : PyData), m < j → ds[m]? = some z' → PyData.eqv z' d = false) ∧ Q (.int (j : Nat)) H
theorem mt_indexT (hu : X.A.units + 65 < cLine) : MtR X "tuple.index" (rIndexT X.K) := by
  rintro pins s σ H _ _ v us Q I rx rxs ⟨a, y, d, ds, j, z, rfl, rfl, hl, hy, sl, sd, hz, hit, miss, q⟩
  rcases rx with rfl
  obtain ⟨u, rfl, ru⟩ := vals1 rxs
  obtain ⟨bs, sought⟩ := Dp.reads I d y u hy ru
  have room := room_in_shaped (xs := ds) sd hu
  have lay : PyData.canLayAll0 ds = true := SeqAt.canLay_of_shaped sl
  cases hl with
  | tup hs ha =>
    obtain ⟨its, rv, ⟨⟨cls, dd, data, slots⟩, at_, isT, n, isS⟩, _⟩ := I.tuple hs
    cases isT
    cases isS
    obtain ⟨as, reads⟩ := Dp.readsAll I ds _ its ha rv
    have map := SeqAt.readsAll_map ds its as lay reads
    have item : ∀ m (hm : m < its.toArray.size), ds[m]? = some (SeqAt.readOf s.heap its.toArray[m]) := fun m hm => by
      rw [← map, List.getElem?_map, List.getElem?_eq_getElem (by simpa using hm)]
      rfl
    have hj : j < its.toArray.size := by
      have := (List.getElem?_eq_some_iff.mp hz).1
      rw [← map, List.length_map] at this
      exact this
    have found := TI.tuple_indexAt a its.toArray n dd slots u (fun u => PyData.eqv (SeqAt.readOf s.heap u) d) j hj
      (by have e := (item j hj).symm.trans hz; cases e; exact hit) fun m hm lt => miss m _ lt (item m hm)
    refine call_meets PySem.F.slot_tuple_index ⟨_, at_, rfl⟩ PySem.F.entry_tuple_index (PySem.F.args_tuple_index_2 _ _) found ⟨at_, ?_, .int (j : Nat), H, I.tok _, ⟨_, rfl⟩, q⟩
    exact SeqAt.items_eqAt (vs := its.toArray) reads sought lay (SeqAt.canLay_of_shaped sd) room
end
end Cor

set_option Elab.async false
set_option linter.all false
set_option maxRecDepth 100000
set_option maxHeartbeats 1200000
/-! SoundB: calls of built-in functions, by values. -/
namespace Cor
open PySem PySem.Spec L2
open PyProof.Rows hiding St

/-! ### sorting, the plain function -/
theorem ins_perm {α : Type} (le : α → α → Bool) (x : α) : ∀ l : List α, (ins le x l).Perm (x :: l)
  | [] => .refl _
  | y :: r => by
    unfold ins
    split
    · exact .refl _
    · exact ((ins_perm le x r).cons y).trans (List.Perm.swap x y r)
theorem isort_perm {α : Type} (le : α → α → Bool) : ∀ l : List α, (isort le l).Perm l
  | [] => .refl _
  | x :: r => (ins_perm le x _).trans ((isort_perm le r).cons x)
theorem ins_sorted {α : Type} {le : α → α → Bool} (tot : ∀ a b, le a b = false → le b a = true) (tr : ∀ a b c, le a b = true → le b c = true → le a c = true) (x : α) : ∀ l : List α, l.Pairwise (fun a b => le a b = true) → (ins le x l).Pairwise (fun a b => le a b = true)
  | [], _ => by simp [ins]
  | y :: r, h => by
    unfold ins
    split
    · rename_i c
      rw [List.pairwise_cons]
      refine ⟨fun z hz => ?_, h⟩
      rcases List.mem_cons.mp hz with rfl | hz
      · exact c
      · exact tr _ _ _ c ((List.pairwise_cons.mp h).1 z hz)
    · rename_i c
      obtain ⟨h1, h2⟩ := List.pairwise_cons.mp h
      rw [List.pairwise_cons]
      refine ⟨fun z hz => ?_, ins_sorted tot tr x r h2⟩
      have := (ins_perm le x r).mem_iff.mp hz
      rcases List.mem_cons.mp this with rfl | hz
      · exact tot _ _ (by simpa using c)
      · exact h1 z hz
theorem isort_sorted {α : Type} {le : α → α → Bool} (tot : ∀ a b, le a b = false → le b a = true) (tr : ∀ a b c, le a b = true → le b c = true → le a c = true) : ∀ l : List α, (isort le l).Pairwise (fun a b => le a b = true)
  | [] => .nil
  | x :: r => ins_sorted tot tr x _ (isort_sorted tot tr r)
theorem leI_tot (a b : Int) (h : leI a b = false) : leI b a = true := by
  unfold leI at *
  have := of_decide_eq_false h
  exact decide_eq_true (by omega)
theorem leI_tr (a b c : Int) (h : leI a b = true) (h' : leI b c = true) : leI a c = true := by
  unfold leI at *
  have := of_decide_eq_true h
  have := of_decide_eq_true h'
  exact decide_eq_true (by omega)
theorem leT_tot (a b : List Int) (h : leT a b = false) : leT b a = true := by
  unfold leT at *
  have : HT.lexLt b a = true := by simpa using h
  rw [lexLt_asym _ _ this]
  rfl
theorem leT_tr (a b c : List Int) (h : leT a b = true) (h' : leT b c = true) : leT a c = true := by
  unfold leT at *
  have h1 : HT.lexLt b a = false := by simpa using h
  have h2 : HT.lexLt c b = false := by simpa using h'
  rw [lexLt_tr a b c h1 h2]
  rfl
theorem sorted_uniqI {ns ms : List Int} (p : ns.Perm ms) (h : ns.Pairwise (· ≤ ·)) : ns = isort leI ms := by
  refine List.Perm.eq_of_pairwise (le := (· ≤ ·)) (fun a b _ _ h1 h2 => Int.le_antisymm h1 h2) h ?_ (p.trans (isort_perm _ _).symm)
  exact (isort_sorted leI_tot leI_tr ms).imp fun {a b} z => of_decide_eq_true z
theorem sorted_uniqT {ns ms : List (List Int)} (p : ns.Perm ms) (h : ns.Pairwise (fun a b => HT.lexLt b a = false)) : ns = isort leT ms := by
  refine List.Perm.eq_of_pairwise (le := fun a b => HT.lexLt b a = false) (fun a b _ _ h1 h2 => lexLt_conn a b h2 h1) h ?_ (p.trans (isort_perm _ _).symm)
  exact (isort_sorted leT_tot leT_tr ms).imp fun {a b} z => by simpa [leT] using z

/-! ### lists of one kind -/
theorem fold_min : ∀ (r : List Int) (x : Int), (r.foldl (fun m y => if y < m then y else m) x) ∈ x :: r ∧ ∀ y ∈ x :: r, (r.foldl (fun m y => if y < m then y else m) x) ≤ y
  | [], x => ⟨by simp, by simp⟩
  | a :: r, x => by
    rw [List.foldl_cons]
    obtain ⟨h1, h2⟩ := fold_min r (if a < x then a else x)
    refine ⟨?_, fun y hy => ?_⟩
    · rcases List.mem_cons.mp h1 with h | h
      · rw [h]
        split <;> simp
      · simp [h]
    · have hm := h2 (if a < x then a else x) (by simp)
      rcases List.mem_cons.mp hy with rfl | hy
      · refine Int.le_trans hm ?_
        split <;> omega
      · rcases List.mem_cons.mp hy with rfl | hy
        · refine Int.le_trans hm ?_
          split <;> omega
        · exact h2 y (by simp [hy])
theorem fold_max : ∀ (r : List Int) (x : Int), (r.foldl (fun m y => if m < y then y else m) x) ∈ x :: r ∧ ∀ y ∈ x :: r, y ≤ (r.foldl (fun m y => if m < y then y else m) x)
  | [], x => ⟨by simp, by simp⟩
  | a :: r, x => by
    rw [List.foldl_cons]
    obtain ⟨h1, h2⟩ := fold_max r (if x < a then a else x)
    refine ⟨?_, fun y hy => ?_⟩
    · rcases List.mem_cons.mp h1 with h | h
      · rw [h]
        split <;> simp
      · simp [h]
    · have hm := h2 (if x < a then a else x) (by simp)
      rcases List.mem_cons.mp hy with rfl | hy
      · refine Int.le_trans ?_ hm
        split <;> omega
      · rcases List.mem_cons.mp hy with rfl | hy
        · refine Int.le_trans ?_ hm
          split <;> omega
        · exact h2 y (by simp [hy])
theorem minI_ok {ns : List Int} {m : Int} (h : minI ns = some m) : m ∈ ns ∧ ∀ y ∈ ns, m ≤ y := by
  cases ns with
  | nil => cases h
  | cons x r => cases h; exact fold_min r x
theorem maxI_ok {ns : List Int} {m : Int} (h : maxI ns = some m) : m ∈ ns ∧ ∀ y ∈ ns, y ≤ m := by
  cases ns with
  | nil => cases h
  | cons x r => cases h; exact fold_max r x
theorem bls_spec : ∀ {l : List D} {bs : List Bool}, l.mapM D.bl? = some bs → l = bs.map D.bl
  | [], ns, h => by
    simp only [List.mapM_nil] at h
    cases h
    rfl
  | d :: r, ns, h => by
    simp only [List.mapM_cons, Option.bind_eq_bind, Option.bind_eq_some_iff] at h
    obtain ⟨i, hi, js, hj, e⟩ := h
    cases e
    cases d with
    | bl k => cases hi; rw [bls_spec (l := r) (bs := js) hj]; rfl
    | _ => cases hi
theorem tups_spec : ∀ {l : List D} {ts : List (List Int)}, l.mapM D.tupInts? = some ts → l = ts.map tI
  | [], ns, h => by
    simp only [List.mapM_nil] at h
    cases h
    rfl
  | d :: r, ns, h => by
    simp only [List.mapM_cons, Option.bind_eq_bind, Option.bind_eq_some_iff] at h
    obtain ⟨i, hi, js, hj, e⟩ := h
    cases e
    cases d with
    | tup k =>
      have hk : D.ints? k = some i := hi
      rw [tups_spec (l := r) (ts := js) hj, ints_spec hk]
      rfl
    | _ => cases hi
section
variable {X : Cx} {g : Gx}
theorem reps_bls {G : Hp} : ∀ {bs : List Bool} {vs : List V}, Reps g G (bs.map D.bl) vs → vs = bs.map V.bl
  | [], _, h => by simp only [List.map, Reps] at h; exact h
  | n :: r, _, h => by
    simp only [List.map, Reps] at h
    obtain ⟨v, ws, rfl, h1, h2⟩ := h
    rw [h1.blI, reps_bls h2]
    rfl
def bltV : Blt → Value
  | .len => .builtin "len" | .all => .builtin "all" | .any => .builtin "any" | .sum => .builtin "sum" | .sorted => .builtin "sorted" | .sset => .builtin "sorted" | .tuple => .type "tuple" | .list => .type "list"
  | .min => .builtin "min" | .max => .builtin "max" | .int => .type "int" | .str => .type "str" | .bool => .type "bool" | .dict => .type "dict"
def bltN : Blt → String
  | .len => "len" | .all => "all" | .any => "any" | .sum => "sum" | .sorted => "sorted" | .sset => "sorted" | .tuple => "tuple" | .list => "list"
  | .min => "min" | .max => "max" | .int => "int" | .str => "str" | .bool => "bool" | .dict => "dict"
abbrev ObsL (g : Gx) (G H : Hp) : List D → List V → Prop := Paired fun d v => Obs g G H d v
def rBltD (g : Gx) (b : Blt) : List V → Hp → VK → Prop := fun xs H Q => ∃ B G env σ ds d, StOk g B G H env σ ∧ ObsL g G H ds xs ∧ bltD b ds = some d ∧ Out g B G env σ d.isLst d Q
theorem no_dct {G H : Hp} {l : List (D × D)} {v : V} (o : Obs g G H (.dct l) v) : False := by
  rcases o with h | ⟨p, _, l, vs, z, _⟩
  · simp only [Rep] at h
  · cases z
theorem obs_seq {G H : Hp} (S : Same G H) {l : List D} {v : V} (o : Obs g G H (.lst l) v ∨ Obs g G H (.tup l) v) (hK : X.K = g.K) : ∃ a vs, v = .ref a ∧ Reps g G l vs ∧ (SqL X.K H a vs ∨ SqT X.K H a vs) := by
  rcases o with o | o
  · obtain ⟨a, vs, rfl, h1, r1⟩ := o.lst S
    exact ⟨a, vs, rfl, r1, .inl (.inl h1)⟩
  · obtain ⟨a, vs, rfl, h1, r1⟩ := o.tup S
    exact ⟨a, vs, rfl, r1, .inr h1.sq⟩
theorem Inv.isSeq {pins : List (Addr × Obj)} {σ : St} {H : Hp} {s : Shared} {a : Addr} {vs : List V} (I : L2.Inv X pins σ H s) (h : SqL X.K H a vs ∨ SqT X.K H a vs) : ∃ its : List Value, Vals vs its ∧ (s.heap.IsList a its.toArray ∨ IsTup s.heap a its.toArray) ∧ vs.length ≤ sizeLine := by
  rcases h with h | h
  · obtain ⟨its, r, p, z⟩ := I.list h
    exact ⟨its, r, .inl p.isList, z⟩
  · obtain ⟨its, r, p, z⟩ := I.tuple h
    exact ⟨its, r, .inr p, z⟩
/-- sum of a tuple of ints -/
theorem cr_sumT (hc : X.calm = true) : CallR X (.builtin "sum") (fun vs H Q => ∃ (a : Addr) (ns : List Int), vs = [V.ref a] ∧ SqT X.K H a (ns.map V.int) ∧ Q (.int ns.sum) H) := by
  rintro pins s σ H _ us Q I r ⟨a, ns, rfl, tuple, q⟩
  cases Vals.ref1 r
  obtain ⟨its, rv, t, _⟩ := I.tuple tuple
  obtain ⟨xs, e⟩ := rv.ints.allInts.items
  have nums : xs.toList.map (·.1) = ns := by
    have z := rv.ints.numsOf
    rw [show its = (intItems xs).toList by rw [← e], nums_intItems] at z
    exact z
  have all : preSum (numAt xs) xs.size = ns.sum := by
    rw [preSum_eq, nums, ← nums, List.take_of_length_le (by simp)]
  exact PySem.W.ktm_sumG (I.ok.hd hc) (e ▸ t) fun h tk z kept => ⟨.int ns.sum, H, I.kept (t' := tk) kept, ⟨z, by rw [all]⟩, q⟩
theorem sorted_I (hK : X.K = g.K) {G H : Hp} {env : Env} {σ : St} {B : Bs} {ns : List Int} {pins : List (Addr × Obj)} {σ' : St} {s : Shared} {a : Addr} {Q : VK} (I : L2.Inv X pins σ' H s) (S : StOk g B G H env σ)
    (hs : SqL X.K H a (ns.map V.int) ∨ SqT X.K H a (ns.map V.int)) (q : Out g B G env σ true (.lst ((isort leI ns).map D.int)) Q) : wpAny (model X.prog X.w) X.A (call (.builtin "sorted") [.ref a]) (EP X pins σ' Q) X.xe s := by
  obtain ⟨its, rv, seq, few⟩ := Inv.isSeq I hs
  refine sorted_ord2 SrtO.swo_int seq (rv.length ▸ few) (fun two h b _ _ _ => SrtO.ints_sortable rv.ints two) fun h p out c kept le at_ up stb => ?_
  obtain ⟨nums, perm, asc⟩ := SrtO.ints_out rv.ints up stb
  have same := sorted_uniqI perm asc
  have len : ((out.map SrtO.iv).map V.int).length ≤ sizeLine := by
    simp only [List.length_map] at few ⊢
    exact (List.length_map (f := SrtO.iv) ▸ perm.length_eq) ▸ few
  exact ⟨.ref p, upd H p (.lst ((out.map SrtO.iv).map V.int)), I.laid (t' := s.toks) kept le ⟨len, out, c, vals_of_ints nums, at_⟩, rfl, (same ▸ q).lst S Reps.ints _ (I.hok.fresh le)⟩
/-- the data of a list of tuples of ints, rearranged as its values are -/
theorem tup_vals {G : Hp} : ∀ {ts : List (List Int)} {vs : List V}, Reps g G (ts.map tI) vs → Paired (fun (t : List Int) (v : V) => Rep g G (tI t) v) ts vs
  | [], _, h => by simp only [List.map, Reps] at h; subst h; exact .nil
  | t :: r, _, h => by
    simp only [List.map, Reps] at h
    obtain ⟨v, ws, rfl, h1, h2⟩ := h
    exact .cons h1 (tup_vals h2)
theorem sorted_T (hK : X.K = g.K) {G H : Hp} {env : Env} {σ : St} {B : Bs} {ts : List (List Int)} {vs : List V} {pins : List (Addr × Obj)} {σ' : St} {s : Shared} {a : Addr} {Q : VK} (I : L2.Inv X pins σ' H s) (S : StOk g B G H env σ)
    (hs : SqL X.K H a vs ∨ SqT X.K H a vs) (hr : Reps g G (ts.map tI) vs) (hne : ∀ t ∈ ts, t ≠ []) (q : Out g B G env σ true (.lst ((isort leT ts).map tI)) Q) : wpAny (model X.prog X.w) X.A (call (.builtin "sorted") [.ref a]) (EP X pins σ' Q) X.xe s := by
  obtain ⟨its, rv, hl, hz⟩ := Inv.isSeq I hs
  -- each item is a tuple of these ints
  have hT : ∀ (i : Nat) (t : List Int), ts[i]? = some t → ∃ v u, vs[i]? = some v ∧ its[i]? = some u ∧ RelV v u ∧ Rep g G (tI t) v ∧ TS.TupInts s.heap u t := by
    intro i t ht
    obtain ⟨v, hv, rp⟩ := hr.get (i := i) (d := tI t) (by rw [List.getElem?_map, ht]; rfl)
    obtain ⟨u, hu, rel⟩ := rv.get hv
    refine ⟨v, u, hv, hu, rel, rp, ?_⟩
    obtain ⟨b, ws, rfl, h1, r1⟩ := rp.tupI
    rw [reps_ints r1] at h1
    cases rel
    obtain ⟨its', rv', p', _⟩ := I.tuple (h1.mono S.sub).sq
    exact ⟨b, _, rfl, p', rv'.ints⟩
  have hlen : its.length = ts.length := by rw [← rv.length, hr.length, List.length_map]
  have hTu : ∀ (i : Nat) u, its[i]? = some u → ∃ t, ts[i]? = some t ∧ TS.TupInts s.heap u t := by
    intro i u hu
    have hi : i < ts.length := by rw [← hlen]; exact (List.getElem?_eq_some_iff.mp hu).1
    obtain ⟨v, u', _, hu', _, _, k⟩ := hT i ts[i] (List.getElem?_eq_getElem hi)
    rw [hu] at hu'
    cases hu'
    exact ⟨_, List.getElem?_eq_getElem hi, k⟩
  have hNe : TupsK s.heap (TS.intsOf s.heap) its := by
    intro u hu
    obtain ⟨i, hi⟩ := List.mem_iff_getElem?.mp hu
    obtain ⟨t, ht, k⟩ := hTu i u hi
    rw [k.ints]
    exact ⟨k, hne t (List.mem_of_getElem? ht)⟩
  have hmap : its.map (TS.intsOf s.heap) = ts := by
    apply List.ext_getElem?
    intro i
    rw [List.getElem?_map]
    cases e : its[i]? with
    | none =>
      have : ts.length ≤ i := by rw [← hlen]; exact List.getElem?_eq_none_iff.mp e
      rw [List.getElem?_eq_none_iff.mpr this]
      rfl
    | some u =>
      obtain ⟨t, ht, k⟩ := hTu i u e
      rw [ht, Option.map_some, k.ints]
  refine sorted_tupsO hl (by rw [← rv.length]; exact hz) hNe fun h' d out n hk hd he h1 h2 => ?_
  have e1 : out.map (TS.intsOf s.heap) = isort leT ts := by
    refine sorted_uniqT ?_ ?_
    · have := h2.map (TS.intsOf s.heap)
      rw [hmap] at this
      exact this
    · rw [List.pairwise_map]
      exact h1
  -- the values of out
  have habs : ∃ ws : List V, Vals ws out ∧ Reps g G (isort leT ts |>.map tI) ws := by
    rw [← e1]
    have hm : ∀ u ∈ out, u ∈ its := fun u hu => h2.mem_iff.mp hu
    clear h1 h2 he e1 q
    induction out with
    | nil => exact ⟨[], .nil, .nil⟩
    | cons u r ih =>
      obtain ⟨ws, a1, a2⟩ := ih fun z hz => hm z (by simp [hz])
      obtain ⟨i, hi⟩ := List.mem_iff_getElem?.mp (hm u (by simp))
      obtain ⟨t, ht, k⟩ := hTu i u hi
      obtain ⟨v, u', _, hu', rel, rp, _⟩ := hT i t ht
      rw [hi] at hu'
      cases hu'
      refine ⟨v :: ws, .cons rel a1, ?_⟩
      rw [List.map_cons, List.map_cons, k.ints]
      exact .cons rp a2
  obtain ⟨ws, a1, a2⟩ := habs
  have hwl : ws.length ≤ sizeLine := by rw [a1.length, h2.length_eq, ← rv.length]; exact hz
  exact ⟨.ref d, upd H d (.lst ws), I.laid (t' := s.toks) hk hd ⟨hwl, out, n, a1, he⟩, rfl, q.lst S a2 _ (I.hok.fresh hd)⟩
theorem sort_D (hK : X.K = g.K) {G H : Hp} {env : Env} {σ : St} {B : Bs} {l : List D} {d : D} {vs : List V} {pins : List (Addr × Obj)} {σ' : St} {s : Shared} {a : Addr} {Q : VK} (I : L2.Inv X pins σ' H s) (S : StOk g B G H env σ)
    (hs : SqL X.K H a vs ∨ SqT X.K H a vs) (hr : Reps g G l vs) (e : sortD l = some d) (q : Out g B G env σ d.isLst d Q) : wpAny (model X.prog X.w) X.A (call (.builtin "sorted") [.ref a]) (EP X pins σ' Q) X.xe s := by
  unfold sortD at e
  split at e
  · rename_i ns h1
    cases e
    rw [ints_spec h1] at hr
    rw [reps_ints hr] at hs
    exact sorted_I hK I S hs q
  · split at e
    · rename_i ts h1
      split at e
      · rename_i hne
        cases e
        rw [tups_spec h1] at hr
        refine sorted_T hK I S hs hr (fun t ht => ?_) q
        have := List.all_eq_true.mp hne t ht
        intro z
        subst z
        cases this
      · cases e
    · cases e
/-- the calls but sorted(set(..)), dict, str, bool -/
theorem blt_D (hK : X.K = g.K) (hc : X.calm = true) (b : Blt) (hb : b ≠ .sset ∧ b ≠ .dict) : CallR X (bltV b) (rBltD g b) := by
  intro pins s σ' H xs us Q I rx h
  obtain ⟨B, G, env, σ, ds, d, S, os, e, q⟩ := h
  unfold bltD at e
  split at e
  · cases e
    obtain ⟨x, rfl⟩ : ∃ x, xs = [x] := by cases os with | cons h t => cases t; exact ⟨_, rfl⟩
    cases os with
    | cons o t =>
      obtain ⟨a, vs, rfl, r1, hs⟩ := obs_seq (X := X) S.sub (.inl o) hK
      exact call_len_seq pins s σ' H _ us Q I rx ⟨a, vs, rfl, hs, by rw [r1.length]; exact q.old S .int⟩
  · cases e
    cases os with
    | cons o t =>
      cases t
      obtain ⟨a, vs, rfl, r1, hs⟩ := obs_seq (X := X) S.sub (.inr o) hK
      exact call_len_seq pins s σ' H _ us Q I rx ⟨a, vs, rfl, hs, by rw [r1.length]; exact q.old S .int⟩
  · cases os with
    | cons o t => exact (no_dct o).elim
  · simp only [Option.map_eq_some_iff] at e
    obtain ⟨bs, h1, e⟩ := e
    cases e
    cases os with
    | cons o t =>
      cases t
      obtain ⟨a, vs, rfl, hr, r1⟩ := o.lst S.sub
      rw [bls_spec h1] at r1
      rw [reps_bls r1] at hr
      exact cr_all hc pins s σ' H _ us Q I rx ⟨a, bs, rfl, .inl hr, q.old S .bl⟩
  · simp only [Option.map_eq_some_iff] at e
    obtain ⟨bs, h1, e⟩ := e
    cases e
    cases os with
    | cons o t =>
      cases t
      obtain ⟨a, vs, rfl, hr, r1⟩ := o.lst S.sub
      rw [bls_spec h1] at r1
      rw [reps_bls r1] at hr
      exact cr_any hc pins s σ' H _ us Q I rx ⟨a, bs, rfl, .inl hr, q.old S .bl⟩
  · simp only [Option.map_eq_some_iff] at e
    obtain ⟨ns, h1, e⟩ := e
    cases e
    cases os with
    | cons o t =>
      cases t
      obtain ⟨a, vs, rfl, hr, r1⟩ := o.lst S.sub
      rw [ints_spec h1] at r1
      rw [reps_ints r1] at hr
      exact cr_sum hc pins s σ' H _ us Q I rx ⟨a, ns, rfl, .inl hr, q.old S .int⟩
  · simp only [Option.map_eq_some_iff] at e
    obtain ⟨ns, h1, e⟩ := e
    cases e
    cases os with
    | cons o t =>
      cases t
      obtain ⟨a, vs, rfl, hr, r1⟩ := o.tup S.sub
      rw [ints_spec h1] at r1
      rw [reps_ints r1] at hr
      exact cr_sumT hc pins s σ' H _ us Q I rx ⟨a, ns, rfl, hr.sq, q.old S .int⟩
  · cases os with
    | cons o t =>
      cases t
      obtain ⟨a, vs, rfl, r1, hs⟩ := obs_seq (X := X) S.sub (.inl o) hK
      rw [Vals.ref1 rx]
      exact sort_D hK I S hs r1 e q
  · cases os with
    | cons o t =>
      cases t
      obtain ⟨a, vs, rfl, r1, hs⟩ := obs_seq (X := X) S.sub (.inr o) hK
      rw [Vals.ref1 rx]
      exact sort_D hK I S hs r1 e q
  · exact absurd rfl hb.1
  · exact absurd rfl hb.1
  · cases e
    cases os with
    | cons o t =>
      cases t
      obtain ⟨a, vs, rfl, hr, r1⟩ := o.lst S.sub
      exact call_tupF pins s σ' H _ us Q I rx ⟨a, vs, rfl, .inl ⟨.inl hr, q.tup S r1⟩⟩
  · cases e
    cases os with
    | cons o t =>
      cases t
      have o1 := o.rep rfl
      obtain ⟨a, vs, rfl, hr, r1⟩ := o.tup S.sub
      exact call_tupF pins s σ' H _ us Q I rx ⟨a, vs, rfl, .inr ⟨hr.sq, q.old S o1⟩⟩
  · cases e
    cases os with
    | cons o t =>
      cases t
      obtain ⟨a, vs, rfl, r1, hs⟩ := obs_seq (X := X) S.sub (.inl o) hK
      exact call_list_of pins s σ' H _ us Q I rx ⟨a, vs, rfl, hs, q.lst S r1⟩
  · cases e
    cases os with
    | cons o t =>
      cases t
      obtain ⟨a, vs, rfl, r1, hs⟩ := obs_seq (X := X) S.sub (.inr o) hK
      exact call_list_of pins s σ' H _ us Q I rx ⟨a, vs, rfl, hs, q.lst S r1⟩
  · cases os with
    | cons o t => exact (no_dct o).elim
  · split at e
    · rename_i hz
      cases e
      cases os with
      | cons o t =>
        cases t
        exact call_len_str pins s σ' H _ us Q I rx ⟨_, by rw [(o.rep rfl).strI], by rw [← szL_eq]; exact hz, q.old S .int⟩
    · cases e
  · cases e
    cases os with
    | cons o t => cases t with | cons o2 t2 =>
      cases t2
      exact call_min2 hc pins s σ' H _ us Q I rx ⟨_, _, by rw [(o.rep rfl).intI, (o2.rep rfl).intI], q.old S .int⟩
  · cases e
    cases os with
    | cons o t => cases t with | cons o2 t2 =>
      cases t2
      exact call_max2 hc pins s σ' H _ us Q I rx ⟨_, _, by rw [(o.rep rfl).intI, (o2.rep rfl).intI], q.old S .int⟩
  · simp only [Option.map_eq_some_iff, Option.bind_eq_some_iff] at e
    obtain ⟨m0, ⟨ns, h1, h2⟩, e⟩ := e
    cases e
    cases os with
    | cons o t =>
      cases t
      obtain ⟨a, vs, rfl, hr, r1⟩ := o.lst S.sub
      rw [ints_spec h1] at r1
      rw [reps_ints r1] at hr
      obtain ⟨m1, m2⟩ := minI_ok h2
      refine cr_min hc pins s σ' H _ us Q I rx ⟨a, ns, rfl, .inl hr, List.length_pos_of_mem m1, fun m h3 h4 => ?_⟩
      rw [Int.le_antisymm (h4 m0 m1) (m2 m h3)]
      exact q.old S .int
  · simp only [Option.map_eq_some_iff, Option.bind_eq_some_iff] at e
    obtain ⟨m0, ⟨ns, h1, h2⟩, e⟩ := e
    cases e
    cases os with
    | cons o t =>
      cases t
      obtain ⟨a, vs, rfl, hr, r1⟩ := o.lst S.sub
      rw [ints_spec h1] at r1
      rw [reps_ints r1] at hr
      obtain ⟨m1, m2⟩ := maxI_ok h2
      refine cr_max hc pins s σ' H _ us Q I rx ⟨a, ns, rfl, .inl hr, List.length_pos_of_mem m1, fun m h3 h4 => ?_⟩
      rw [Int.le_antisymm (m2 m h3) (h4 m0 m1)]
      exact q.old S .int
  · cases e
    cases os with
    | cons o t =>
      cases t
      exact call_int1 pins s σ' H _ us Q I rx (.inl ⟨_, by rw [(o.rep rfl).intI], q.old S .int⟩)
  · cases e
    cases os with
    | cons o t =>
      cases t
      refine call_int1 pins s σ' H _ us Q I rx (.inr ⟨_, by rw [(o.rep rfl).blI], ?_⟩)
      exact q.old S .int
  · exact absurd rfl hb.2
  · cases e
end
end Cor

set_option Elab.async false
set_option linter.all false
set_option maxRecDepth 100000
set_option maxHeartbeats 1200000
/-! SoundE: expressions mean what the core's evaluator says. -/
namespace Cor
open PySem PySem.Spec L2
open PyProof.Rows hiding St

/-! ### what an exception is, in the machine -/
def ExV (g : Gx) (x : Exc) (c : Value) (dd : Option Addr) (H : Hp) : Prop := ∃ C, c = .ref C ∧ g.cls x.cls = some C ∧ (match x.arg with
  | none => dd = none
  | some n => ∃ d, dd = some d ∧ H d = some (.xd [("limit", .int n)]))

/-! ### a def's promise -/
structure Ent (g : Gx) (G H : Hp) : Prop where
  sub : Same G H
  notb : ∀ a ps, G a ≠ some (.tbl ps)
  tabs : TabsX g.tabs H
def EntA (g : Gx) (G H : Hp) (ioa : Option Addr) (ds : List D) (vs : List V) : Prop := match ioa with
  | none => Reps g G ds vs
  | some p => ∃ d0 ds' vs', ds = d0 :: ds' ∧ vs = .ref p :: vs' ∧ G p = none ∧ OwnAt g G H p d0 ∧ Reps g G ds' vs'
def ResR (g : Gx) (H G' H' : Hp) (fr : Bool) (d : D) (v : V) : Prop := match fr with
  | false => Rep g G' d v
  | true => ∃ p, v = .ref p ∧ H p = none ∧ G' p = none ∧ OwnAt g G' H' p d
def IoR (g : Gx) (G' H' : Hp) : Option Addr → Option D → Prop
  | none, none => True
  | some p, some d => OwnAt g G' H' p d
  | _, _ => False
def PostR (g : Gx) (G H : Hp) (ioa : Option Addr) (r : RF) (Q : VK) (E : XK) : Prop := match r with
  | .ok d fr io => ∀ v H' G', StB g ⟨H, G, ioa⟩ G' H' → ResR g H G' H' fr d v → IoR g G' H' ioa io → Q v H'
  | .ex x => ∀ H' G' c dd, StB g ⟨H, G, ioa⟩ G' H' → ExV g x c dd H' → E c dd H'
  | .bad => False
def spF (g : Gx) (cf : CF) (i np : Nat) (io : Bool) : Sp := fun vs H Q E => ∃ G ds ioa, Ent g G H ∧ ioa.isSome = io ∧ EntA g G H ioa ds vs ∧ PostR g G H ioa (cf i ds) Q E

/-! ### the top, as the checks and the proofs see it -/
/-- whole numbers of the module, the defs by number (name, parameters, the first one changed in place) -/
structure Stc where
  nums : List (Str × Int)
  sig : List (Str × Nat × Bool)
  excs : List Str
  lam : Bool := false
def Stc.noLam (t : Stc) : Stc := { t with lam := false }
def bltNames : List Str := ["len", "all", "any", "sum", "sorted", "set", "tuple", "list", "min", "max", "int", "str", "bool", "dict", "isinstance", "range", "zip", "enumerate"]
structure Wld (g : Gx) (t : Stc) (P : Program) (w : World) (mg : Str → Option Value) (base : Heap) (cf : CF) (k : Nat) : Prop where
  bl : ∀ x ∈ bltNames, mg x = none
  nums : ∀ x n, t.nums.lookup x = some n → ∃ u, mg x = some (.int n u)
  fnb : ∀ (i : Nat) a, g.fa i = some a → ∃ x np, t.sig[i]? = some (x, np, false) ∧ mg x = some (.ref a)
  fns : ∀ (i : Nat) x np io, t.sig[i]? = some (x, np, io) → ∃ a, (io = false → g.fa i = some a) ∧ mg x = some (.ref a) ∧ PySem.W.keepIn g.K (.ref a) = true ∧
    ∃ fd ps, Binds g.K fd ps [] ∧ FnOk P w g.K mg base (L2N.CX P w) (3 * k) a fd ps (spF g cf i np io)
  exc : ∀ x ∈ t.excs, ∃ C bmB b newId initId, ExcBaseFacts b newId initId bmB ∧ PySem.W.excIn g.K C bmB newId = true ∧ mg x = some (.ref C) ∧ PySem.W.keepIn g.K (.ref C) = true ∧
    PySem.W.subIn g.K (.ref C) (.type "BaseException") = some true ∧ PySem.W.typeIn g.K (.ref C) = some (.type "type") ∧ g.cls x = some C
theorem Wld.noLam {g : Gx} {t : Stc} {P : Program} {w : World} {mg : Str → Option Value} {base : Heap} {cf : CF} {k : Nat} (h : Wld g t P w mg base cf k) : Wld g t.noLam P w mg base cf k := ⟨h.bl, h.nums, h.fnb, h.fns, h.exc⟩

/-! ### meanings -/
def ExW (g : Gx) (W : WX) (B : Bs) (σ : St) (x : Exc) (env : Env) : Prop := ∀ H' G' c dd, StOk g B G' H' env σ → ExV g x c dd H' → W c dd σ H'
def SemE (g : Gx) (cf : CF) (W : WX) (ce : CE) : TE := fun σ H Q => ∃ B G env, StOk g B G H env σ ∧ WpR (ev cf ce env) (fun r => Out g B G r.2.2 σ r.2.1 r.1 Q) (ExW g W B σ)
def SemF (g : Gx) (cf : CF) (W : WX) (ce : CE) : TE := fun σ H Q => ∃ B G env, StOk g B G H env σ ∧ WpR (ev cf ce env) (fun r => Out g B G r.2.2 σ false r.1 Q) (ExW g W B σ)
/-! ### where one stands -/
/-- the context of the lambda's body -/
def lamCxN (X : Cx) (A : Around) (outer : List PySem.Env) (s : Shared) (H : Hp) (E : XK) (scope : Scope) (f c' : Addr) : Cx :=
  { LamX.lamCx X A outer s H E scope f c' with xe := fun e s' => wpAny (model X.prog X.w) (A.deeper (LamX.lamEnv X scope s.heap.objs.size f c')) (leaving (LamX.lamEnv X scope s.heap.objs.size f c') e) (fun _ s'' => L2N.CX X.prog X.w outer H s E e s'') (fun e' s'' => L2N.CX X.prog X.w outer H s E e' s'') s' }
/-- no parameters -/
def noPar : Arguments → Bool
  | ⟨[], [], none, [], [], none, []⟩ => true
  | _ => false
/-- _law_try(lambda: body) -/
def LamRule (g : Gx) (cf : CF) (k : Nat) (X : Cx) (W : WX) : Prop := ∀ (params : Arguments) (body : Expr) (scope : Scope) (cb : CE) (p lpos pos : Pos), Gl X "_law_try" → LamX.LamS X.env.scope scope → noPar params = true →
  (∀ (A : Around) (outer : List PySem.Env) (s : Shared) (H : Hp) (E : XK) (f c' : Addr), Room (3 * k) (A.deeper (LamX.lamEnv X scope s.heap.objs.size f c')) → PE (lamCxN X A outer s H E scope f c') body (SemE g cf (fun cls d _ H => E cls d H) cb)) →
  PE X (.Call (.Name "_law_try" p) [.Lambda params body scope lpos] [] pos) (SemE g cf W (.tryl cb))
structure XOk (g : Gx) (t : Stc) (cf : CF) (k : Nat) (X : Cx) (W : WX) : Prop where
  calm : X.calm = true
  nd : X.N.Nodup
  hK : X.K = g.K
  room : Room (3 * k) X.A
  takes : L2N.Takes X W
  wld : Wld g t X.prog X.w X.mg X.base cf k
  lam : t.lam = true → LamRule g cf k X W
theorem XOk.lamX {g : Gx} {t : Stc} {cf : CF} {k : Nat} {X : Cx} {W : WX} (O : XOk g t cf k X W) {A : Around} {outer : List PySem.Env} {s : Shared} {H : Hp} {E : XK} {scope : Scope} {f c' : Addr} (hr : Room (3 * k) (A.deeper (LamX.lamEnv X scope s.heap.objs.size f c'))) :
    XOk g t.noLam cf k (lamCxN X A outer s H E scope f c') (fun cls d _ H => E cls d H) :=
  ⟨rfl, O.nd, O.hK, hr, L2N.takes_of rfl rfl rfl rfl, O.wld.noLam, fun z => (nomatch z)⟩
def OpV (g : Gx) (G : Hp) (σ : St) (x : Opd) (v : V) : Prop := match x with
  | .v d => Rep g G d v
  | .s i => σ[i]? = some (some v)
def SemO (g : Gx) (cf : CF) (W : WX) (ce : CE) : TE := fun σ H Q => ∃ B G env, StOk g B G H env σ ∧ WpR (opd ce (ev cf ce) env) (fun r => ∀ v H' G', StOk g B G' H' r.2 σ → Same G G' → OpV g G' σ r.1 v → Q v H') (ExW g W B σ)
def SemA (g : Gx) (cf : CF) (W : WX) (ces : List CE) : TA := fun σ H Q => ∃ B G env, StOk g B G H env σ ∧ WpR (evs cf ces env) (fun r => ∀ vs H' G', StOk g B G' H' r.2 σ → Same G G' → Reps g G' r.1 vs → Q vs H') (ExW g W B σ)
def OpVs (g : Gx) (G : Hp) (σ : St) : List Opd → List V → Prop := Paired (OpV g G σ)
def SemAO (g : Gx) (cf : CF) (W : WX) (ces : List CE) : TA := fun σ H Q => ∃ B G env, StOk g B G H env σ ∧ WpR (evOs cf ces env) (fun r => ∀ vs H' G', StOk g B G' H' r.2 σ → Same G G' → OpVs g G' σ r.1 vs → Q vs H') (ExW g W B σ)
def SemT (g : Gx) (cf : CF) (W : WX) (ce : CE) : TT := fun σ H Q => ∃ B G env, StOk g B G H env σ ∧ WpR (ev cf ce env) (fun r => ∃ k, r.1.truth = some k ∧ ∀ H' G', StOk g B G' H' r.2.2 σ → Same G G' → Q k H') (ExW g W B σ)

theorem _root_.L2.PE.mono {X : Cx} {e : Expr} {t t' : TE} (h : PE X e t) (m : ∀ σ H Q, t' σ H Q → t σ H Q) : PE X e t' := ⟨fun pins s σ H Q I q => h.run pins s σ H Q I (m σ H Q q)⟩
theorem _root_.L2.PT.mono {X : Cx} {e : Expr} {t t' : TT} (h : PT X e t) (m : ∀ σ H Q, t' σ H Q → t σ H Q) : PT X e t' := ⟨fun pins s σ H Q I q => h.run pins s σ H Q I (m σ H Q q)⟩
theorem _root_.L2.PA.mono {X : Cx} {es : List Expr} {t t' : TA} (h : PA X es t) (m : ∀ σ H Q, t' σ H Q → t σ H Q) : PA X es t' := ⟨fun pos pins s σ H Q I q => h.run pos pins s σ H Q I (m σ H Q q)⟩

section
variable {X : Cx} {g : Gx} {t : Stc} {cf : CF} {k : Nat} {W : WX}
theorem OpV.mono {G G' : Hp} {σ : St} {x : Opd} {v : V} (h : OpV g G σ x v) (s : Same G G') : OpV g G' σ x v := by
  cases x with
  | v d => exact Rep.mono s h
  | s i => exact h
theorem OpV.obs {B : Bs} {G H : Hp} {env : Env} {σ : St} {x : Opd} {v : V} {d : D} (h : OpV g G σ x v) (S : StOk g B G H env σ) (e : x.get env = some d) : Obs g G H d v := by
  cases x with
  | v d' => cases e; exact .inl h
  | s i =>
    have e : (match env[i]? with | some (.ow d) => some d | some (.io d) => some d | some (.sh d) => some d | _ => none) = some d := e
    have h : σ[i]? = some (some v) := h
    cases q : env[i]? with
    | none => rw [q] at e; cases e
    | some s =>
      rw [q] at e
      have z := S.sl i s q
      cases s with
      | un => cases e
      | sh d' =>
        cases e
        obtain ⟨v', z1, z2⟩ := z
        rw [h] at z1
        cases z1
        exact .inl z2
      | ow d' =>
        cases e
        obtain ⟨p, z1, _, _, w⟩ := z
        rw [h] at z1
        cases z1
        exact .inr ⟨p, rfl, w⟩
      | io d' =>
        cases e
        obtain ⟨p, z1, _, _, w⟩ := z
        rw [h] at z1
        cases z1
        exact .inr ⟨p, rfl, w⟩
theorem semF (h : PE X e (SemE g cf W ce)) : PE X e (SemF g cf W ce) := h.mono fun σ H Q ⟨B, G, env, S, w⟩ => ⟨B, G, env, S, w.imp (fun r q v H' G' S' s' rv => by
  obtain ⟨G2, S2, s2, r2⟩ := S'.freeze rv
  exact q v H' G2 S2 (s'.trans s2) r2) fun _ _ h => h⟩
theorem semO_of {ce : CE} (h : PE X e (SemF g cf W ce)) (n : ∀ env, opd ce (ev cf ce) env = (ev cf ce env).bind fun (d, _, env) => R.ok (.v d, env)) : PE X e (SemO g cf W ce) := h.mono fun σ H Q ⟨B, G, env, S, w⟩ => ⟨B, G, env, S, by
  rw [n, WpR.bind] at w
  exact w.imp (fun r q v H' G' S' s' rv => q v H' G' S' s' rv) fun _ _ h => h⟩
/-- a name in a place that keeps nothing -/
theorem semO_var {i : Nat} (h : PE X e (tVar i)) : PE X e (SemO g cf W (.var i)) := h.mono fun σ H Q ⟨B, G, env, S, w⟩ => by
  have w : WpR (rdOpd i env) (fun r => ∀ v H' G', StOk g B G' H' r.2 σ → Same G G' → OpV g G' σ r.1 v → Q v H') (ExW g W B σ) := w
  unfold rdOpd at w
  split at w
  · rename_i d hd
    obtain ⟨v, z1, z2⟩ := S.sl i _ hd
    exact ⟨v, z1, w v H G S (.refl G) z2⟩
  · rename_i d hd
    obtain ⟨p, z1, _⟩ := S.sl i _ hd
    exact ⟨.ref p, z1, w _ H G S (.refl G) z1⟩
  · rename_i d hd
    obtain ⟨p, z1, _⟩ := S.sl i _ hd
    exact ⟨.ref p, z1, w _ H G S (.refl G) z1⟩
  · exact w.elim
theorem s_var {i : Nat} (h : PE X e (tVar i)) : PE X e (SemE g cf W (.var i)) := h.mono fun σ H Q ⟨B, G, env, S, w⟩ => by
  have w : WpR (rdVar i env) (fun r => Out g B G r.2.2 σ r.2.1 r.1 Q) (ExW g W B σ) := w
  unfold rdVar at w
  split at w
  · rename_i d hd
    obtain ⟨v, z1, z2⟩ := S.sl i _ hd
    exact ⟨v, z1, w v H G S (.refl G) z2⟩
  · rename_i d hd
    obtain ⟨G', v, S', s', z1, z2⟩ := S.shSlot hd
    exact ⟨v, z1, w v H G' S' s' z2⟩
  · exact w.elim
theorem s_lit {d : D} {v : V} (h : PE X e (tC v)) (r : ∀ G, Rep g G d v) : PE X e (SemE g cf W (.lit d)) := h.mono fun σ H Q ⟨B, G, env, S, w⟩ => w v H G S (.refl G) (r G)
theorem s_glo {x : Str} {d : D} {v : V} (h : PE X e (tC v)) (r : ∀ G, Rep g G d v) : PE X e (SemE g cf W (.glo x d)) := h.mono fun σ H Q ⟨B, G, env, S, w⟩ => w v H G S (.refl G) (r G)
/-! ### operators -/
theorem s_bin {a b : Expr} {ca cb : CE} {pos : Pos} (hK : X.K = g.K) (o : BOp) (ha : PE X a (SemO g cf W ca)) (hb : PE X b (SemO g cf W cb)) : PE X (.BinOp a (opOf o) b pos) (SemE g cf W (.bin o ca cb)) :=
  (pe_op (op_bin hK o) ha hb).mono fun σ H Q ⟨B, G, env, S, w⟩ => by
    have w : WpR ((opd ca (ev cf ca) env).bind fun (x, env) => (opd cb (ev cf cb) env).bind fun (y, env) => (R.opt (x.get env)).bind fun dx => (R.opt (y.get env)).bind fun dy => (R.opt (binD o dx dy)).bind fun d => ok3 d env) _ _ := w
    rw [WpR.bind] at w
    refine ⟨B, G, env, S, w.imp (fun r w v H1 G1 S1 s1 o1 => ?_) fun _ _ h => h⟩
    obtain ⟨x, env1⟩ := r
    dsimp only at w S1 o1
    rw [WpR.bind] at w
    refine ⟨B, G1, env1, S1, w.imp (fun r w u H2 G2 S2 s2 o2 => ?_) fun _ _ h => h⟩
    obtain ⟨y, env2⟩ := r
    dsimp only at w S2 o2
    simp only [WpR.bind, WpR.opt] at w
    obtain ⟨dx, ex, dy, ey, d, ed, w⟩ := w
    exact ⟨B, G2, env2, σ, dx, dy, d, S2, (o1.mono s2).obs S2 ex, o2.obs S2 ey, ed, fun v' H' G' S' s' r' => w v' H' G' S' ((s1.trans s2).trans s') r'⟩
theorem s_neg {a : Expr} {ca : CE} {pos : Pos} (ha : PE X a (SemF g cf W ca)) : PE X (.UnaryOp .USub a pos) (SemE g cf W (.neg ca)) :=
  (pe_un un_neg ha).mono fun σ H Q ⟨B, G, env, S, w⟩ => by
    have w : WpR ((ev cf ca env).bind fun (x, _, env) => match x with
      | D.int i => R.ok (D.int (-i), false, env)
      | _ => R.bad) _ _ := w
    rw [WpR.bind] at w
    refine ⟨B, G, env, S, w.imp (fun r w v H1 G1 S1 s1 o1 => ?_) fun _ _ h => h⟩
    obtain ⟨x, fr, env1⟩ := r
    dsimp only at w S1 o1
    have o1 : Rep g G1 x v := o1
    cases x with
    | int i => exact ⟨i, o1.intI, w _ H1 G1 S1 s1 (Rep.int (g := g) (G := G1))⟩
    | _ => exact w.elim
theorem s_cmp {a b : Expr} {ca cb : CE} {pos : Pos} (hK : X.K = g.K) (hu : X.A.units + 65 < cLine) (o : COp) (ha : PE X a (SemO g cf W ca)) (hb : PE X b (SemO g cf W cb)) (hm : behindInMarks (copOf o) b = false) :
    PE X (.Compare a [copOf o] [b] pos) (SemE g cf W (.cmp o ca cb)) :=
  (pe_cmpR (op_cmp hK hu o) ha hb hm).mono fun σ H Q ⟨B, G, env, S, w⟩ => by
    have w : WpR ((opd ca (ev cf ca) env).bind fun (x, env) => (opd cb (ev cf cb) env).bind fun (y, env) => (R.opt (x.get env)).bind fun dx => (R.opt (y.get env)).bind fun dy => (R.opt (cmpD o dx dy)).bind fun k => R.ok (D.bl k, false, env)) _ _ := w
    rw [WpR.bind] at w
    refine ⟨B, G, env, S, w.imp (fun r w v H1 G1 S1 s1 o1 => ?_) fun _ _ h => h⟩
    obtain ⟨x, env1⟩ := r
    dsimp only at w S1 o1
    rw [WpR.bind] at w
    refine ⟨B, G1, env1, S1, w.imp (fun r w u H2 G2 S2 s2 o2 => ?_) fun _ _ h => h⟩
    obtain ⟨y, env2⟩ := r
    dsimp only at w S2 o2
    simp only [WpR.bind, WpR.opt] at w
    obtain ⟨dx, ex, dy, ey, d, ed, w⟩ := w
    exact ⟨B, G2, env2, σ, dx, dy, d, S2, (o1.mono s2).obs S2 ex, o2.obs S2 ey, ed, w _ H2 G2 S2 (s1.trans s2) (Rep.bl (g := g) (G := G2))⟩
theorem t_cmp {a b : Expr} {ca cb : CE} {pos : Pos} (hK : X.K = g.K) (hu : X.A.units + 65 < cLine) (o : COp) (ha : PE X a (SemO g cf W ca)) (hb : PE X b (SemO g cf W cb)) (hm : behindInMarks (copOf o) b = false) :
    PT X (.Compare a [copOf o] [b] pos) (SemT g cf W (.cmp o ca cb)) :=
  (pt_cmpR (op_cmp hK hu o) ha hb hm).mono fun σ H Q ⟨B, G, env, S, w⟩ => by
    have w : WpR ((opd ca (ev cf ca) env).bind fun (x, env) => (opd cb (ev cf cb) env).bind fun (y, env) => (R.opt (x.get env)).bind fun dx => (R.opt (y.get env)).bind fun dy => (R.opt (cmpD o dx dy)).bind fun k => R.ok (D.bl k, false, env)) _ _ := w
    rw [WpR.bind] at w
    refine ⟨B, G, env, S, w.imp (fun r w v H1 G1 S1 s1 o1 => ?_) fun _ _ h => h⟩
    obtain ⟨x, env1⟩ := r
    dsimp only at w S1 o1
    rw [WpR.bind] at w
    refine ⟨B, G1, env1, S1, w.imp (fun r w u H2 G2 S2 s2 o2 => ?_) fun _ _ h => h⟩
    obtain ⟨y, env2⟩ := r
    dsimp only at w S2 o2
    simp only [WpR.bind, WpR.opt] at w
    obtain ⟨dx, ex, dy, ey, d, ed, b, eb, w⟩ := w
    cases eb
    exact ⟨B, G2, env2, σ, dx, dy, _, S2, (o1.mono s2).obs S2 ex, o2.obs S2 ey, ed, _, rfl, w H2 G2 S2 (s1.trans s2)⟩
/-! ### and, or, not, if -/
theorem SemT.of {ce : CE} {σ : St} {H : Hp} {Q : Bool → Hp → Prop} {B : Bs} {G : Hp} {env : Env} (S : StOk g B G H env σ) (w : WpR (ev cf ce env) (fun r => ∃ k, r.1.truth = some k ∧ ∀ H' G', StOk g B G' H' r.2.2 σ → Same G G' → Q k H') (ExW g W B σ)) : SemT g cf W ce σ H Q := ⟨B, G, env, S, w⟩
theorem s_band {a b : Expr} {rest : List Expr} {ca cb : CE} {pos : Pos} (ha : PE X a (SemF g cf W ca)) (hb : PE X (.BoolOp .And (b :: rest) pos) (SemE g cf W cb)) : PE X (.BoolOp .And (a :: b :: rest) pos) (SemE g cf W (.band ca cb)) :=
  (pe_and ha hb).mono fun σ H Q ⟨B, G, env, S, w⟩ => by
    have w : WpR ((ev cf ca env).bind fun (x, _, env) => match x with
      | D.bl true => ev cf cb env
      | D.bl false => R.ok (D.bl false, false, env)
      | _ => R.bad) _ _ := w
    rw [WpR.bind] at w
    refine ⟨B, G, env, S, w.imp (fun r w v H1 G1 S1 s1 o1 => ?_) fun _ _ h => h⟩
    obtain ⟨x, fr, env1⟩ := r
    dsimp only at w S1 o1
    have o1 : Rep g G1 x v := o1
    cases x with
    | bl c =>
      refine ⟨c, o1.blI, ?_⟩
      cases c with
      | false => exact w _ H1 G1 S1 s1 (Rep.bl (g := g) (G := G1))
      | true => exact ⟨B, G1, env1, S1, w.imp (fun r q v H' G' S' s' rv => q v H' G' S' (s1.trans s') rv) fun _ _ h => h⟩
    | _ => exact w.elim
theorem s_bor {a b : Expr} {rest : List Expr} {ca cb : CE} {pos : Pos} (ha : PE X a (SemF g cf W ca)) (hb : PE X (.BoolOp .Or (b :: rest) pos) (SemE g cf W cb)) : PE X (.BoolOp .Or (a :: b :: rest) pos) (SemE g cf W (.bor ca cb)) :=
  (pe_or ha hb).mono fun σ H Q ⟨B, G, env, S, w⟩ => by
    have w : WpR ((ev cf ca env).bind fun (x, _, env) => match x with
      | D.bl true => R.ok (D.bl true, false, env)
      | D.bl false => ev cf cb env
      | _ => R.bad) _ _ := w
    rw [WpR.bind] at w
    refine ⟨B, G, env, S, w.imp (fun r w v H1 G1 S1 s1 o1 => ?_) fun _ _ h => h⟩
    obtain ⟨x, fr, env1⟩ := r
    dsimp only at w S1 o1
    have o1 : Rep g G1 x v := o1
    cases x with
    | bl c =>
      refine ⟨c, o1.blI, ?_⟩
      cases c with
      | true => exact w _ H1 G1 S1 s1 (Rep.bl (g := g) (G := G1))
      | false => exact ⟨B, G1, env1, S1, w.imp (fun r q v H' G' S' s' rv => q v H' G' S' (s1.trans s') rv) fun _ _ h => h⟩
    | _ => exact w.elim
theorem t_band {a b : Expr} {rest : List Expr} {ca cb : CE} {pos : Pos} (ha : PT X a (SemT g cf W ca)) (hb : PW X (.BoolOp .And (b :: rest) pos) (SemT g cf W cb)) : PW X (.BoolOp .And (a :: b :: rest) pos) (SemT g cf W (.band ca cb)) := by
  refine ⟨fun whole pins s σ H Q I h => (pw_and ha hb).run whole pins s σ H Q I ?_⟩
  obtain ⟨B, G, env, S, w⟩ := h
  have w : WpR ((ev cf ca env).bind fun (x, _, env) => match x with
      | D.bl true => ev cf cb env
      | D.bl false => R.ok (D.bl false, false, env)
      | _ => R.bad) _ _ := w
  rw [WpR.bind] at w
  refine ⟨B, G, env, S, w.imp (fun r w => ?_) fun _ _ h => h⟩
  obtain ⟨x, fr, env1⟩ := r
  dsimp only at w ⊢
  cases x with
  | bl c =>
    refine ⟨c, rfl, fun H1 G1 S1 s1 => ?_⟩
    cases c with
    | false =>
      obtain ⟨k, e, w⟩ := w
      cases e
      exact w H1 G1 S1 s1
    | true => exact ⟨B, G1, env1, S1, w.imp (fun r ⟨k, e, q⟩ => ⟨k, e, fun H' G' S' s' => q H' G' S' (s1.trans s')⟩) fun _ _ h => h⟩
  | _ => exact w.elim
theorem t_bor {a b : Expr} {rest : List Expr} {ca cb : CE} {pos : Pos} (ha : PT X a (SemT g cf W ca)) (hb : PW X (.BoolOp .Or (b :: rest) pos) (SemT g cf W cb)) : PW X (.BoolOp .Or (a :: b :: rest) pos) (SemT g cf W (.bor ca cb)) := by
  refine ⟨fun whole pins s σ H Q I h => (pw_or ha hb).run whole pins s σ H Q I ?_⟩
  obtain ⟨B, G, env, S, w⟩ := h
  have w : WpR ((ev cf ca env).bind fun (x, _, env) => match x with
      | D.bl true => R.ok (D.bl true, false, env)
      | D.bl false => ev cf cb env
      | _ => R.bad) _ _ := w
  rw [WpR.bind] at w
  refine ⟨B, G, env, S, w.imp (fun r w => ?_) fun _ _ h => h⟩
  obtain ⟨x, fr, env1⟩ := r
  dsimp only at w ⊢
  cases x with
  | bl c =>
    refine ⟨c, rfl, fun H1 G1 S1 s1 => ?_⟩
    cases c with
    | true =>
      obtain ⟨k, e, w⟩ := w
      cases e
      exact w H1 G1 S1 s1
    | false => exact ⟨B, G1, env1, S1, w.imp (fun r ⟨k, e, q⟩ => ⟨k, e, fun H' G' S' s' => q H' G' S' (s1.trans s')⟩) fun _ _ h => h⟩
  | _ => exact w.elim
theorem truV {G H : Hp} {d : D} {v : V} {k : Bool} (s : Same G H) (hK : X.K = g.K) (r : Rep g G d v) (e : d.truth = some k) : TruV X.K v H k := by
  cases d with
  | non => rw [r.nonI]; cases e; rfl
  | bl b => rw [r.blI]; cases e; rfl
  | int b => rw [r.intI]; cases e; rfl
  | str b => cases e
  | dct b => cases e
  | fn b => cases e
  | lst l =>
    cases e
    obtain ⟨a, vs, rfl, h1, r1⟩ := r.lstI
    refine .inl ⟨vs, .inl (h1.mono s), ?_⟩
    have := r1.length
    cases vs <;> cases l <;> first | rfl | cases this
  | tup l =>
    cases e
    obtain ⟨a, vs, rfl, h1, r1⟩ := r.tupI
    refine .inr (.inl ⟨vs, (h1.mono s).sq, ?_⟩)
    have := r1.length
    cases vs <;> cases l <;> first | rfl | cases this
theorem t_any {ce : CE} (hK : X.K = g.K) (h : PE X e (SemF g cf W ce)) (he : ∀ whole, isTrue e X.env whole = (do let v ← whole; standAt e.pos; holding [v] (truthy v))) : PT X e (SemT g cf W ce) :=
  (pt_truth h he).mono fun σ H Q ⟨B, G, env, S, w⟩ => ⟨B, G, env, S, w.imp (fun r ⟨k, e, q⟩ v H' G' S' s' rv => ⟨k, truV S'.sub hK rv e, q H' G' S' s'⟩) fun _ _ h => h⟩
theorem s_bnot {a : Expr} {ca : CE} {pos : Pos} (hK : X.K = g.K) (ha : PE X a (SemF g cf W ca)) : PE X (.UnaryOp .Not a pos) (SemE g cf W (.bnot ca)) :=
  (pe_notT ha).mono fun σ H Q ⟨B, G, env, S, w⟩ => by
    have w : WpR ((ev cf ca env).bind fun (x, _, env) => (R.opt x.truth).bind fun k => R.ok (D.bl (!k), false, env)) _ _ := w
    rw [WpR.bind] at w
    refine ⟨B, G, env, S, w.imp (fun r w v H1 G1 S1 s1 o1 => ?_) fun _ _ h => h⟩
    obtain ⟨x, fr, env1⟩ := r
    dsimp only at w S1 o1
    simp only [WpR.bind, WpR.opt] at w
    obtain ⟨k, e, w⟩ := w
    exact ⟨k, truV S1.sub hK o1 e, w _ H1 G1 S1 s1 (Rep.bl (g := g) (G := G1))⟩
theorem t_bnot {a : Expr} {ca : CE} {pos : Pos} (ha : PT X a (SemT g cf W ca)) : PT X (.UnaryOp .Not a pos) (SemT g cf W (.bnot ca)) :=
  (pt_not ha).mono fun σ H Q ⟨B, G, env, S, w⟩ => by
    have w : WpR ((ev cf ca env).bind fun (x, _, env) => (R.opt x.truth).bind fun k => R.ok (D.bl (!k), false, env)) _ _ := w
    rw [WpR.bind] at w
    refine ⟨B, G, env, S, w.imp (fun r w => ?_) fun _ _ h => h⟩
    obtain ⟨x, fr, env1⟩ := r
    dsimp only at w ⊢
    simp only [WpR.bind, WpR.opt] at w
    obtain ⟨k, e, k', e', w⟩ := w
    cases e'
    exact ⟨k, e, w⟩
theorem s_ife {c a b : Expr} {cc ca cb : CE} {pos : Pos} (hc : PT X c (SemT g cf W cc)) (ha : PE X a (SemF g cf W ca)) (hb : PE X b (SemF g cf W cb)) : PE X (.IfExp c a b pos) (SemE g cf W (.ife cc ca cb)) :=
  (pe_ifExp hc ha hb).mono fun σ H Q ⟨B, G, env, S, w⟩ => by
    have w : WpR ((ev cf cc env).bind fun (x, _, env) => (R.opt x.truth).bind fun k => if k then (ev cf ca env).bind fun (d, _, env) => R.ok (d, false, env) else (ev cf cb env).bind fun (d, _, env) => R.ok (d, false, env)) _ _ := w
    rw [WpR.bind] at w
    refine ⟨B, G, env, S, w.imp (fun r w => ?_) fun _ _ h => h⟩
    obtain ⟨x, fr, env1⟩ := r
    dsimp only at w ⊢
    rw [WpR.bind, WpR.opt] at w
    obtain ⟨k, e, w⟩ := w
    refine ⟨k, e, fun H1 G1 S1 s1 => ?_⟩
    cases k with
    | true =>
      rw [if_pos rfl, WpR.bind] at w
      rw [if_pos rfl]
      exact ⟨B, G1, env1, S1, w.imp (fun r q v H' G' S' s' rv => q v H' G' S' (s1.trans s') rv) fun _ _ h => h⟩
    | false =>
      rw [if_neg (by simp), WpR.bind] at w
      rw [if_neg (by simp)]
      exact ⟨B, G1, env1, S1, w.imp (fun r q v H' G' S' s' rv => q v H' G' S' (s1.trans s') rv) fun _ _ h => h⟩
theorem pt_ifExp {c a b : Expr} {tc ta tb : TT} {pos : Pos} (hc : PT X c tc) (ha : PT X a ta) (hb : PT X b tb) : PT X (.IfExp c a b pos) (fun σ H Q => tc σ H fun k H1 => if k = true then ta σ H1 Q else tb σ H1 Q) := by
  refine ⟨fun pins s σ H Q I h => ?_⟩
  show wpAny (model X.prog X.w) X.A (do
    if ← isTrue c X.env (eval c X.env) then isTrue a X.env (eval a X.env) else isTrue b X.env (eval b X.env)) _ _ s
  refine wpAny_bind (thn (hc.run pins s σ H _ I h) fun k s1 ⟨H1, I1, q⟩ => ?_)
  cases k with
  | true =>
    rw [if_pos rfl] at q
    rw [if_pos rfl]
    exact ha.run pins s1 σ H1 Q I1 q
  | false =>
    rw [if_neg (by simp)] at q
    rw [if_neg (by simp)]
    exact hb.run pins s1 σ H1 Q I1 q
theorem t_ife {c a b : Expr} {cc ca cb : CE} {pos : Pos} (hc : PT X c (SemT g cf W cc)) (ha : PT X a (SemT g cf W ca)) (hb : PT X b (SemT g cf W cb)) : PT X (.IfExp c a b pos) (SemT g cf W (.ife cc ca cb)) :=
  (pt_ifExp hc ha hb).mono fun σ H Q ⟨B, G, env, S, w⟩ => by
    have w : WpR ((ev cf cc env).bind fun (x, _, env) => (R.opt x.truth).bind fun k => if k then (ev cf ca env).bind fun (d, _, env) => R.ok (d, false, env) else (ev cf cb env).bind fun (d, _, env) => R.ok (d, false, env)) _ _ := w
    rw [WpR.bind] at w
    refine ⟨B, G, env, S, w.imp (fun r w => ?_) fun _ _ h => h⟩
    obtain ⟨x, fr, env1⟩ := r
    dsimp only at w ⊢
    rw [WpR.bind, WpR.opt] at w
    obtain ⟨k, e, w⟩ := w
    refine ⟨k, e, fun H1 G1 S1 s1 => ?_⟩
    cases k with
    | true =>
      rw [if_pos rfl, WpR.bind] at w
      rw [if_pos rfl]
      exact ⟨B, G1, env1, S1, w.imp (fun r ⟨k, e, q⟩ => ⟨k, e, fun H' G' S' s' => q H' G' S' (s1.trans s')⟩) fun _ _ h => h⟩
    | false =>
      rw [if_neg (by simp), WpR.bind] at w
      rw [if_neg (by simp)]
      exact ⟨B, G1, env1, S1, w.imp (fun r ⟨k, e, q⟩ => ⟨k, e, fun H' G' S' s' => q H' G' S' (s1.trans s')⟩) fun _ _ h => h⟩
end
end Cor

set_option Elab.async false
set_option linter.all false
set_option maxRecDepth 100000
set_option maxHeartbeats 1200000
/-! SoundF: displays, items, slices, calls. -/
namespace Cor
open PySem PySem.Spec L2
open PyProof.Rows hiding St

/-! ### argument lists -/
def notStar : Expr → Bool
  | .Starred .. => false
  | _ => true
theorem star_cons {e : Expr} (h : notStar e = true) (es : List Expr) (env : PySem.Env) : starEach (e :: es) env = (false, eval e env) :: starEach es env := by
  cases e <;> first | rfl | cases h
theorem plain_args {pos : Pos} {env : PySem.Env} : ∀ {es : List Expr}, es.all notStar = true → (backTo pos (starEach es env)).any (·.1) = false
  | [], _ => rfl
  | e :: es, h => by
    rw [List.all_cons, Bool.and_eq_true] at h
    rw [star_cons h.1]
    have ih := plain_args (pos := pos) (env := env) h.2
    unfold backTo at ih ⊢
    rw [List.map_cons, List.any_cons, ih]
    rfl
section
variable {X : Cx} {g : Gx} {t : Stc} {cf : CF} {k : Nat} {W : WX}
theorem a_nil : PA X [] (SemA g cf W []) := pa_nil.mono fun σ H Q ⟨B, G, env, S, w⟩ => w [] H G S (.refl G) .nil
theorem a_cons {e : Expr} {es : List Expr} {ce : CE} {ces : List CE} (h : PE X e (SemF g cf W ce)) (hs : PA X es (SemA g cf W ces)) (n : notStar e = true) : PA X (e :: es) (SemA g cf W (ce :: ces)) :=
  (pa_cons h hs (star_cons n es X.env)).mono fun σ H Q ⟨B, G, env, S, w⟩ => by
    have w : WpR ((ev cf ce env).bind fun (d, _, env) => (evs cf ces env).bind fun (ds, env) => R.ok (d :: ds, env)) _ _ := w
    rw [WpR.bind] at w
    refine ⟨B, G, env, S, w.imp (fun r w v H1 G1 S1 s1 o1 => ?_) fun _ _ h => h⟩
    obtain ⟨d, fr, env1⟩ := r
    dsimp only at w S1 o1
    rw [WpR.bind] at w
    refine ⟨B, G1, env1, S1, w.imp (fun r w vs H2 G2 S2 s2 o2 => ?_) fun _ _ h => h⟩
    exact w (v :: vs) H2 G2 S2 (s1.trans s2) (.cons (Rep.mono s2 o1) o2)
theorem o_nil : PA X [] (SemAO g cf W []) := pa_nil.mono fun σ H Q ⟨B, G, env, S, w⟩ => w [] H G S (.refl G) .nil
theorem OpVs.mono {G G' : Hp} {σ : St} (s : Same G G') : ∀ {xs : List Opd} {vs : List V}, OpVs g G σ xs vs → OpVs g G' σ xs vs
  | _, _, .nil => .nil
  | _, _, .cons h t => .cons (h.mono s) (OpVs.mono s t)
theorem o_cons {e : Expr} {es : List Expr} {ce : CE} {ces : List CE} (h : PE X e (SemO g cf W ce)) (hs : PA X es (SemAO g cf W ces)) (n : notStar e = true) : PA X (e :: es) (SemAO g cf W (ce :: ces)) :=
  (pa_cons h hs (star_cons n es X.env)).mono fun σ H Q ⟨B, G, env, S, w⟩ => by
    have w : WpR ((opd ce (ev cf ce) env).bind fun (d, env) => (evOs cf ces env).bind fun (ds, env) => R.ok (d :: ds, env)) _ _ := w
    rw [WpR.bind] at w
    refine ⟨B, G, env, S, w.imp (fun r w v H1 G1 S1 s1 o1 => ?_) fun _ _ h => h⟩
    obtain ⟨d, env1⟩ := r
    dsimp only at w S1 o1
    rw [WpR.bind] at w
    refine ⟨B, G1, env1, S1, w.imp (fun r w vs H2 G2 S2 s2 o2 => ?_) fun _ _ h => h⟩
    exact w (v :: vs) H2 G2 S2 (s1.trans s2) (.cons (o1.mono s2) o2)
/-! ### displays -/
theorem s_tup {es : List Expr} {ces : List CE} {j : Nat} {pos : Pos} (h : PA X es (SemA g cf W ces)) : PE X (.Tuple es j pos) (SemE g cf W (.tup ces)) :=
  (pe_tupF h).mono fun σ H Q ⟨B, G, env, S, w⟩ => by
    have w : WpR ((evs cf ces env).bind fun (ds, env) => if ds.length ≤ szL then R.ok (D.tup ds, false, env) else R.bad) _ _ := w
    rw [WpR.bind] at w
    refine ⟨B, G, env, S, w.imp (fun r w vs H1 G1 S1 s1 o1 => ?_) fun _ _ h => h⟩
    obtain ⟨ds, env1⟩ := r
    dsimp only at w S1 o1
    split at w
    · rename_i hz
      refine ⟨by rw [o1.length, ← szL_eq]; exact hz, fun p o n d => ?_⟩
      obtain ⟨S2, s2, r2⟩ := S1.newTup n d o1
      exact w _ _ _ S2 (s1.trans s2) r2
    · exact w.elim
theorem s_lst {es : List Expr} {ces : List CE} {pos : Pos} (h : PA X es (SemA g cf W ces)) : PE X (.List es pos) (SemE g cf W (.lst ces)) :=
  (pe_lst h).mono fun σ H Q ⟨B, G, env, S, w⟩ => by
    have w : WpR ((evs cf ces env).bind fun (ds, env) => if ds.length ≤ szL then R.ok (D.lst ds, true, env) else R.bad) _ _ := w
    rw [WpR.bind] at w
    refine ⟨B, G, env, S, w.imp (fun r w vs H1 G1 S1 s1 o1 => ?_) fun _ _ h => h⟩
    obtain ⟨ds, env1⟩ := r
    dsimp only at w S1 o1
    split at w
    · rename_i hz
      refine ⟨by rw [o1.length, ← szL_eq]; exact hz, fun p n => ?_⟩
      obtain ⟨S2, r2⟩ := S1.newLst n o1
      exact w _ _ _ S2 s1 r2
    · exact w.elim
/-! ### items and slices -/
theorem s_idx {a b : Expr} {ca cb : CE} {pos : Pos} (hK : X.K = g.K) (ha : PE X a (SemO g cf W ca)) (hb : PE X b (SemF g cf W cb)) (hs : PlainIx b) : PE X (.Subscript a b pos) (SemE g cf W (.idx ca cb)) :=
  (pe_ix (ix_D hK) ha hb hs).mono fun σ H Q ⟨B, G, env, S, w⟩ => by
    have w : WpR ((opd ca (ev cf ca) env).bind fun (x, env) => (ev cf cb env).bind fun (y, _, env) => (R.opt (x.get env)).bind fun dx => (R.opt (idxD dx y)).bind fun d => R.ok (d, false, env)) _ _ := w
    rw [WpR.bind] at w
    refine ⟨B, G, env, S, w.imp (fun r w v H1 G1 S1 s1 o1 => ?_) fun _ _ h => h⟩
    obtain ⟨x, env1⟩ := r
    dsimp only at w S1 o1
    rw [WpR.bind] at w
    refine ⟨B, G1, env1, S1, w.imp (fun r w u H2 G2 S2 s2 o2 => ?_) fun _ _ h => h⟩
    obtain ⟨y, fr, env2⟩ := r
    dsimp only at w S2 o2
    simp only [WpR.bind, WpR.opt] at w
    obtain ⟨dx, ex, d, ed, w⟩ := w
    exact ⟨B, G2, env2, σ, dx, y, d, S2, (o1.mono s2).obs S2 ex, o2, ed, fun v' H' G' S' s' r' => w v' H' G' S' ((s1.trans s2).trans s') r'⟩
theorem intQ {y : D} {i : Int} (h : y.int? = some i) : y = .int i := by
  cases y <;> first | (cases h; rfl) | cases h
theorem s_slL {a lo : Expr} {ca cl : CE} {p2 pos : Pos} (hK : X.K = g.K) (ha : PE X a (SemO g cf W ca)) (hl : PE X lo (SemF g cf W cl)) : PE X (.Subscript a (.Slice (some lo) none none p2) pos) (SemE g cf W (.slL ca cl)) :=
  (pe_slice (sl_D hK) ha (po_some hl) po_none).mono fun σ H Q ⟨B, G, env, S, w⟩ => by
    have w : WpR ((opd ca (ev cf ca) env).bind fun (x, env) => (ev cf cl env).bind fun (y, _, env) => (R.opt (x.get env)).bind fun dx => (R.opt y.int?).bind fun i => (R.opt (slcD dx (some i) none)).bind fun d => ok3 d env) _ _ := w
    rw [WpR.bind] at w
    refine ⟨B, G, env, S, w.imp (fun r w v H1 G1 S1 s1 o1 => ?_) fun _ _ h => h⟩
    obtain ⟨x, env1⟩ := r
    dsimp only at w S1 o1
    rw [WpR.bind] at w
    refine ⟨B, G1, env1, S1, w.imp (fun r w u H2 G2 S2 s2 o2 => ?_) fun _ _ h => h⟩
    obtain ⟨y, fr, env2⟩ := r
    dsimp only at w S2 o2
    have o2 : Rep g G2 y u := o2
    simp only [WpR.bind, WpR.opt] at w
    obtain ⟨dx, ex, i, ei, d, ed, w⟩ := w
    have ey := intQ ei
    subst ey
    exact ⟨i, Rep.intI o2, B, G2, env2, σ, dx, d, S2, (o1.mono s2).obs S2 ex, ed, fun v' H' G' S' s' r' => w v' H' G' S' ((s1.trans s2).trans s') r'⟩
theorem s_slU {a hi : Expr} {ca ch : CE} {p2 pos : Pos} (hK : X.K = g.K) (ha : PE X a (SemO g cf W ca)) (hl : PE X hi (SemF g cf W ch)) : PE X (.Subscript a (.Slice none (some hi) none p2) pos) (SemE g cf W (.slU ca ch)) :=
  (pe_slice (sl_D hK) ha po_none (po_some hl)).mono fun σ H Q ⟨B, G, env, S, w⟩ => by
    have w : WpR ((opd ca (ev cf ca) env).bind fun (x, env) => (ev cf ch env).bind fun (y, _, env) => (R.opt (x.get env)).bind fun dx => (R.opt y.int?).bind fun i => (R.opt (slcD dx none (some i))).bind fun d => ok3 d env) _ _ := w
    rw [WpR.bind] at w
    refine ⟨B, G, env, S, w.imp (fun r w v H1 G1 S1 s1 o1 => ?_) fun _ _ h => h⟩
    obtain ⟨x, env1⟩ := r
    dsimp only at w S1 o1
    rw [WpR.bind] at w
    refine ⟨B, G1, env1, S1, w.imp (fun r w u H2 G2 S2 s2 o2 => ?_) fun _ _ h => h⟩
    obtain ⟨y, fr, env2⟩ := r
    dsimp only at w S2 o2
    have o2 : Rep g G2 y u := o2
    simp only [WpR.bind, WpR.opt] at w
    obtain ⟨dx, ex, i, ei, d, ed, w⟩ := w
    have ey := intQ ei
    subst ey
    exact ⟨i, Rep.intI o2, B, G2, env2, σ, dx, d, S2, (o1.mono s2).obs S2 ex, ed, fun v' H' G' S' s' r' => w v' H' G' S' ((s1.trans s2).trans s') r'⟩
theorem s_slB {a lo hi : Expr} {ca cl ch : CE} {p2 pos : Pos} (hK : X.K = g.K) (ha : PE X a (SemO g cf W ca)) (hl : PE X lo (SemF g cf W cl)) (hh : PE X hi (SemF g cf W ch)) : PE X (.Subscript a (.Slice (some lo) (some hi) none p2) pos) (SemE g cf W (.slB ca cl ch)) :=
  (pe_slice (sl_D hK) ha (po_some hl) (po_some hh)).mono fun σ H Q ⟨B, G, env, S, w⟩ => by
    have w : WpR ((opd ca (ev cf ca) env).bind fun (x, env) => (ev cf cl env).bind fun (y, _, env) => (R.opt y.int?).bind fun i => (ev cf ch env).bind fun (z, _, env) => (R.opt z.int?).bind fun j => (R.opt (x.get env)).bind fun dx =>
      (R.opt (slcD dx (some i) (some j))).bind fun d => ok3 d env) _ _ := w
    rw [WpR.bind] at w
    refine ⟨B, G, env, S, w.imp (fun r w v H1 G1 S1 s1 o1 => ?_) fun _ _ h => h⟩
    obtain ⟨x, env1⟩ := r
    dsimp only at w S1 o1
    rw [WpR.bind] at w
    refine ⟨B, G1, env1, S1, w.imp (fun r w u H2 G2 S2 s2 o2 => ?_) fun _ _ h => h⟩
    obtain ⟨y, fr, env2⟩ := r
    dsimp only at w S2 o2
    have o2 : Rep g G2 y u := o2
    rw [WpR.bind, WpR.opt] at w
    obtain ⟨i, ei, w⟩ := w
    have ey := intQ ei
    subst ey
    rw [WpR.bind] at w
    refine ⟨i, Rep.intI o2, B, G2, env2, S2, w.imp (fun r w u3 H3 G3 S3 s3 o3 => ?_) fun _ _ h => h⟩
    obtain ⟨z, fr3, env3⟩ := r
    dsimp only at w S3 o3
    have o3 : Rep g G3 z u3 := o3
    simp only [WpR.bind, WpR.opt] at w
    obtain ⟨j, ej, dx, ex, d, ed, w⟩ := w
    have ey := intQ ej
    subst ey
    exact ⟨j, Rep.intI o3, B, G3, env3, σ, dx, d, S3, ((o1.mono s2).mono s3).obs S3 ex, ed, fun v' H' G' S' s' r' => w v' H' G' S' (((s1.trans s2).trans s3).trans s') r'⟩
theorem s_rvs {a : Expr} {ca : CE} {j : Nat} {p1 p2 p3 pos : Pos} (ha : PE X a (SemO g cf W ca)) : PE X (.Subscript a (.Slice none none (some (.UnaryOp .USub (.Constant (.int 1) j p1) p2)) p3) pos) (SemE g cf W (.rvs ca)) :=
  (pe_rev ha).mono fun σ H Q ⟨B, G, env, S, w⟩ => by
    have w : WpR ((opd ca (ev cf ca) env).bind fun (x, env) => (R.opt (x.get env)).bind fun dx => (R.opt (rvsD dx)).bind fun d => ok3 d env) _ _ := w
    rw [WpR.bind] at w
    refine ⟨B, G, env, S, w.imp (fun r w v H1 G1 S1 s1 o1 => ?_) fun _ _ h => h⟩
    obtain ⟨x, env1⟩ := r
    dsimp only at w S1 o1
    simp only [WpR.bind, WpR.opt] at w
    obtain ⟨dx, ex, d, ed, w⟩ := w
    have ob := o1.obs S1 ex
    unfold rvsD at ed
    split at ed
    · cases ed
      obtain ⟨b, vs, rfl, h1, r1⟩ := ob.lst S1.sub
      refine ⟨b, vs, rfl, .inl ⟨h1, fun p n => ?_⟩⟩
      obtain ⟨S2, r2⟩ := S1.newLst n r1.reverse
      exact w _ _ _ S2 s1 r2
    · cases ed
      obtain ⟨b, vs, rfl, h1, r1⟩ := ob.tup S1.sub
      refine ⟨b, vs, rfl, .inr ⟨h1.sq, fun p o n d => ?_⟩⟩
      obtain ⟨S2, s2, r2⟩ := S1.newTup n d r1.reverse
      exact w _ _ _ S2 (s1.trans s2) r2
    · cases ed
/-! ### chains of comparisons -/
theorem s_chn {a b c : Expr} {ca cb cc : CE} {pos : Pos} (hK : X.K = g.K) (hu : X.A.units + 65 < cLine) (o p : COp) (ha : PE X a (SemF g cf W ca)) (hb : PE X b (SemF g cf W cb)) (hc : PE X c (SemF g cf W cc)) (hm : lastMarks [copOf o, copOf p] [b, c] = false) :
    PE X (.Compare a [copOf o, copOf p] [b, c] pos) (SemE g cf W (.chn o p ca cb cc)) :=
  (pe_chain (op_cmp hK hu o) (op_cmp hK hu p) ha hb hc hm).mono fun σ H Q ⟨B, G, env, S, w⟩ => by
    have w : WpR ((ev cf ca env).bind fun (x, _, env) => (ev cf cb env).bind fun (y, _, env) => (R.opt (cmpD o x y)).bind fun k =>
      if k then (ev cf cc env).bind fun (z, _, env) => (R.opt (cmpD p y z)).bind fun k => R.ok (D.bl k, false, env) else R.ok (D.bl false, false, env)) _ _ := w
    rw [WpR.bind] at w
    refine ⟨B, G, env, S, w.imp (fun r w v H1 G1 S1 s1 o1 => ?_) fun _ _ h => h⟩
    obtain ⟨x, fr, env1⟩ := r
    dsimp only at w S1 o1
    rw [WpR.bind] at w
    refine ⟨B, G1, env1, S1, w.imp (fun r w u H2 G2 S2 s2 o2 => ?_) fun _ _ h => h⟩
    obtain ⟨y, fr2, env2⟩ := r
    dsimp only at w S2 o2
    rw [WpR.bind, WpR.opt] at w
    obtain ⟨k, ek, w⟩ := w
    refine ⟨B, G2, env2, σ, x, y, k, S2, .inl (Rep.mono s2 o1), .inl o2, ek, k, rfl, ?_⟩
    cases k with
    | false => exact w _ H2 G2 S2 (s1.trans s2) (Rep.bl (g := g) (G := G2))
    | true =>
      rw [if_pos rfl, WpR.bind] at w
      rw [if_pos rfl]
      refine ⟨B, G2, env2, S2, w.imp (fun r w u3 H3 G3 S3 s3 o3 => ?_) fun _ _ h => h⟩
      obtain ⟨z, fr3, env3⟩ := r
      dsimp only at w S3 o3
      rw [WpR.bind, WpR.opt] at w
      obtain ⟨k', ek', w⟩ := w
      exact ⟨B, G3, env3, σ, y, z, k', S3, .inl (Rep.mono s3 o2), .inl o3, ek', w _ H3 G3 S3 ((s1.trans s2).trans s3) (Rep.bl (g := g) (G := G3))⟩
end
end Cor

set_option Elab.async false
set_option linter.all false
set_option maxRecDepth 100000
set_option maxHeartbeats 1200000
/-! SoundG: chains as tests, chains of three, calls of defs and of built-in functions. -/
namespace Cor
open PySem PySem.Spec L2
open PyProof.Rows hiding St
section
variable {X : Cx} {g : Gx} {t : Stc} {cf : CF} {k : Nat} {W : WX}
def tChain3 (r r' r2 : R2) (ta tb tc td : TE) : TE := fun σ H Q => ta σ H fun x H1 => tb σ H1 fun y H2 => r x y H2 fun z H3 => ∃ k, z = .bl k ∧
  (if k = true then tc σ H3 fun u H4 => r' y u H4 fun z H5 => ∃ k, z = .bl k ∧ (if k = true then td σ H5 fun u' H6 => r2 u u' H6 Q else Q (.bl false) H5) else Q (.bl false) H3)
theorem pe_chain3 {a b c d : Expr} {ta tb tc td : TE} {op op' op2 : CmpOp} {r r' r2 : R2} {pos : Pos} (ho : OpR X (compareOp op) r) (ho' : OpR X (compareOp op') r') (ho2 : OpR X (compareOp op2) r2) (ha : PE X a ta) (hb : PE X b tb) (hc : PE X c tc) (hd : PE X d td)
    (hm : lastMarks [op, op', op2] [b, c, d] = false) : PE X (.Compare a [op, op', op2] [b, c, d] pos) (tChain3 r r' r2 ta tb tc td) := by
  refine ⟨fun pins s σ H Q I h => ?_⟩
  refine Compare_chain (thn (ha.run pins s σ H _ I h) fun v s1 ⟨x, H1, I1, r1, q1⟩ => chain_link (thn (hb.run pins s1 σ H1 _ I1 q1) fun u s2 ⟨y, H2, I2, r2', q2⟩ =>
    thn (ho pins s2 σ H2 x y v u _ I2 r1 r2' q2) fun e s3 ⟨z, H3, I3, r3, k, ek, q3⟩ => ?_)) hm
  subst ek
  cases r3
  refine wpAny_truthy_bool ?_
  cases k with
  | false => exact ite_ff ⟨.bl false, H3, I3, rfl, q3⟩
  | true =>
    refine ite_tt (chain_link (thn (hc.run pins s3 σ H3 _ I3 q3) fun u2 s4 ⟨y2, H4, I4, r4, q4⟩ => thn (ho' pins s4 σ H4 y y2 u u2 _ I4 r2' r4 q4) fun e2 s5 ⟨z2, H5, I5, r5, k2, ek2, q5⟩ => ?_))
    subst ek2
    cases r5
    refine wpAny_truthy_bool ?_
    cases k2 with
    | false => exact ite_ff ⟨.bl false, H5, I5, rfl, q5⟩
    | true => exact ite_tt (chain_last (thn (hd.run pins s5 σ H5 _ I5 q5) fun w' s6 ⟨z', H6, I6, r6, q6⟩ => ho2 pins s6 σ H6 y2 z' u2 w' Q I6 r4 r6 q6))
theorem pt_chain3 {a b c d : Expr} {ta tb tc td : TE} {op op' op2 : CmpOp} {r r' r2 : R2} {pos : Pos} (ho : OpR X (compareOp op) r) (ho' : OpR X (compareOp op') r') (ho2 : OpR X (compareOp op2) r2) (ha : PE X a ta) (hb : PE X b tb) (hc : PE X c tc) (hd : PE X d td)
    (hm : lastMarks [op, op', op2] [b, c, d] = false) : PT X (.Compare a [op, op', op2] [b, c, d] pos) (tTest (tChain3 r r' r2 ta tb tc td)) := by
  refine ⟨fun pins s σ H Q I h => ?_⟩
  refine isTrue_chain (thn (ha.run pins s σ H _ I h) fun v s1 ⟨x, H1, I1, r1, q1⟩ => test_link (thn (hb.run pins s1 σ H1 _ I1 q1) fun u s2 ⟨y, H2, I2, r2', q2⟩ =>
    thn (ho pins s2 σ H2 x y v u _ I2 r1 r2' q2) fun e s3 ⟨z, H3, I3, r3, k, ek, q3⟩ => ?_)) hm
  subst ek
  cases r3
  refine wpAny_truthy_bool ?_
  cases k with
  | false =>
    obtain ⟨k', e', q'⟩ := q3
    cases e'
    exact ite_ff ⟨H3, I3, q'⟩
  | true =>
    refine ite_tt (test_link (thn (hc.run pins s3 σ H3 _ I3 q3) fun u2 s4 ⟨y2, H4, I4, r4, q4⟩ => thn (ho' pins s4 σ H4 y y2 u u2 _ I4 r2' r4 q4) fun e2 s5 ⟨z2, H5, I5, r5, k2, ek2, q5⟩ => ?_))
    subst ek2
    cases r5
    refine wpAny_truthy_bool ?_
    cases k2 with
    | false =>
      obtain ⟨k', e', q'⟩ := q5
      cases e'
      exact ite_ff ⟨H5, I5, q'⟩
    | true =>
      refine ite_tt (test_last (thn (hd.run pins s5 σ H5 _ I5 q5) fun w' s6 ⟨z', H6, I6, r6, q6⟩ => thn (ho2 pins s6 σ H6 y2 z' u2 w' _ I6 r4 r6 q6) fun d' s7 ⟨z3, H7, I7, r7, k3, e3, q7⟩ => ?_))
      subst e3
      cases r7
      exact wpAny_truthy_bool ⟨H7, I7, q7⟩
/-- the reading of a chain of two, of three: from the evaluator's -/
theorem chn_read {ca cb cc : CE} {o p : COp} {σ : St} {H : Hp} {Q : VK} {B : Bs} {G : Hp} {env : Env} (S : StOk g B G H env σ)
    (w : WpR (ev cf (.chn o p ca cb cc) env) (fun r => ∀ H' G', StOk g B G' H' r.2.2 σ → Same G G' → ∀ k, r.1 = .bl k → Q (.bl k) H') (ExW g W B σ)) :
    tChain (rCmp g o) (rCmp g p) (SemF g cf W ca) (SemF g cf W cb) (SemF g cf W cc) σ H Q := by
  have w : WpR ((ev cf ca env).bind fun (x, _, env) => (ev cf cb env).bind fun (y, _, env) => (R.opt (cmpD o x y)).bind fun k =>
    if k then (ev cf cc env).bind fun (z, _, env) => (R.opt (cmpD p y z)).bind fun k => R.ok (D.bl k, false, env) else R.ok (D.bl false, false, env)) _ _ := w
  rw [WpR.bind] at w
  refine ⟨B, G, env, S, w.imp (fun r w v H1 G1 S1 s1 o1 => ?_) fun _ _ h => h⟩
  obtain ⟨x, fr, env1⟩ := r
  dsimp only at w S1 o1
  rw [WpR.bind] at w
  refine ⟨B, G1, env1, S1, w.imp (fun r w u H2 G2 S2 s2 o2 => ?_) fun _ _ h => h⟩
  obtain ⟨y, fr2, env2⟩ := r
  dsimp only at w S2 o2
  rw [WpR.bind, WpR.opt] at w
  obtain ⟨k, ek, w⟩ := w
  refine ⟨B, G2, env2, σ, x, y, k, S2, .inl (Rep.mono s2 o1), .inl o2, ek, k, rfl, ?_⟩
  cases k with
  | false => exact w H2 G2 S2 (s1.trans s2) _ rfl
  | true =>
    rw [if_pos rfl, WpR.bind] at w
    rw [if_pos rfl]
    refine ⟨B, G2, env2, S2, w.imp (fun r w u3 H3 G3 S3 s3 o3 => ?_) fun _ _ h => h⟩
    obtain ⟨z, fr3, env3⟩ := r
    dsimp only at w S3 o3
    rw [WpR.bind, WpR.opt] at w
    obtain ⟨k', ek', w⟩ := w
    exact ⟨B, G3, env3, σ, y, z, k', S3, .inl (Rep.mono s3 o2), .inl o3, ek', w H3 G3 S3 ((s1.trans s2).trans s3) _ rfl⟩
theorem chn3_read {ca cb cc cd : CE} {o p q : COp} {σ : St} {H : Hp} {Q : VK} {B : Bs} {G : Hp} {env : Env} (S : StOk g B G H env σ)
    (w : WpR (ev cf (.chn3 o p q ca cb cc cd) env) (fun r => ∀ H' G', StOk g B G' H' r.2.2 σ → Same G G' → ∀ k, r.1 = .bl k → Q (.bl k) H') (ExW g W B σ)) :
    tChain3 (rCmp g o) (rCmp g p) (rCmp g q) (SemF g cf W ca) (SemF g cf W cb) (SemF g cf W cc) (SemF g cf W cd) σ H Q := by
  have w : WpR ((ev cf ca env).bind fun (x, _, env) => (ev cf cb env).bind fun (y, _, env) => (R.opt (cmpD o x y)).bind fun k =>
    if k then (ev cf cc env).bind fun (z, _, env) => (R.opt (cmpD p y z)).bind fun k =>
      if k then (ev cf cd env).bind fun (u, _, env) => (R.opt (cmpD q z u)).bind fun k => R.ok (D.bl k, false, env) else R.ok (D.bl false, false, env)
    else R.ok (D.bl false, false, env)) _ _ := w
  rw [WpR.bind] at w
  refine ⟨B, G, env, S, w.imp (fun r w v H1 G1 S1 s1 o1 => ?_) fun _ _ h => h⟩
  obtain ⟨x, fr, env1⟩ := r
  dsimp only at w S1 o1
  rw [WpR.bind] at w
  refine ⟨B, G1, env1, S1, w.imp (fun r w u H2 G2 S2 s2 o2 => ?_) fun _ _ h => h⟩
  obtain ⟨y, fr2, env2⟩ := r
  dsimp only at w S2 o2
  rw [WpR.bind, WpR.opt] at w
  obtain ⟨k, ek, w⟩ := w
  refine ⟨B, G2, env2, σ, x, y, k, S2, .inl (Rep.mono s2 o1), .inl o2, ek, k, rfl, ?_⟩
  cases k with
  | false => exact w H2 G2 S2 (s1.trans s2) _ rfl
  | true =>
    rw [if_pos rfl, WpR.bind] at w
    rw [if_pos rfl]
    refine ⟨B, G2, env2, S2, w.imp (fun r w u3 H3 G3 S3 s3 o3 => ?_) fun _ _ h => h⟩
    obtain ⟨z, fr3, env3⟩ := r
    dsimp only at w S3 o3
    rw [WpR.bind, WpR.opt] at w
    obtain ⟨k', ek', w⟩ := w
    refine ⟨B, G3, env3, σ, y, z, k', S3, .inl (Rep.mono s3 o2), .inl o3, ek', k', rfl, ?_⟩
    cases k' with
    | false => exact w H3 G3 S3 ((s1.trans s2).trans s3) _ rfl
    | true =>
      rw [if_pos rfl, WpR.bind] at w
      rw [if_pos rfl]
      refine ⟨B, G3, env3, S3, w.imp (fun r w u4 H4 G4 S4 s4 o4 => ?_) fun _ _ h => h⟩
      obtain ⟨u, fr4, env4⟩ := r
      dsimp only at w S4 o4
      rw [WpR.bind, WpR.opt] at w
      obtain ⟨k2, ek2, w⟩ := w
      exact ⟨B, G4, env4, σ, z, u, k2, S4, .inl (Rep.mono s4 o3), .inl o4, ek2, w H4 G4 S4 (((s1.trans s2).trans s3).trans s4) _ rfl⟩
theorem out_bl {B : Bs} {G : Hp} {σ : St} {Q : VK} (r : D × Bool × Env) (q : Out g B G r.2.2 σ r.2.1 r.1 Q) : ∀ H' G', StOk g B G' H' r.2.2 σ → Same G G' → ∀ k, r.1 = .bl k → r.2.1 = false → Q (.bl k) H' := fun H' G' S' s' k e e2 => by
  refine q _ H' G' S' s' ?_
  rw [e, e2]
  exact Rep.bl (g := g) (G := G')
theorem chn_fr {ca cb cc : CE} {o p : COp} {env : Env} {P : D × Bool × Env → Prop} {E : Exc → Env → Prop} (w : WpR (ev cf (.chn o p ca cb cc) env) P E) : WpR (ev cf (.chn o p ca cb cc) env) (fun r => P r ∧ r.2.1 = false ∧ ∃ k, r.1 = .bl k) E := by
  have w : WpR ((ev cf ca env).bind fun (x, _, env) => (ev cf cb env).bind fun (y, _, env) => (R.opt (cmpD o x y)).bind fun k =>
    if k then (ev cf cc env).bind fun (z, _, env) => (R.opt (cmpD p y z)).bind fun k => R.ok (D.bl k, false, env) else R.ok (D.bl false, false, env)) P E := w
  show WpR ((ev cf ca env).bind fun (x, _, env) => (ev cf cb env).bind fun (y, _, env) => (R.opt (cmpD o x y)).bind fun k =>
    if k then (ev cf cc env).bind fun (z, _, env) => (R.opt (cmpD p y z)).bind fun k => R.ok (D.bl k, false, env) else R.ok (D.bl false, false, env)) _ E
  rw [WpR.bind] at w ⊢
  refine w.imp (fun r w => ?_) fun _ _ h => h
  obtain ⟨x, fr, env1⟩ := r
  dsimp only at w ⊢
  rw [WpR.bind] at w ⊢
  refine w.imp (fun r w => ?_) fun _ _ h => h
  obtain ⟨y, fr, env1⟩ := r
  dsimp only at w ⊢
  rw [WpR.bind, WpR.opt] at w ⊢
  obtain ⟨k, ek, w⟩ := w
  refine ⟨k, ek, ?_⟩
  cases k with
  | false => exact ⟨w, rfl, _, rfl⟩
  | true =>
    rw [if_pos rfl, WpR.bind] at w ⊢
    refine w.imp (fun r w => ?_) fun _ _ h => h
    obtain ⟨z, fr, env1⟩ := r
    dsimp only at w ⊢
    rw [WpR.bind, WpR.opt] at w ⊢
    obtain ⟨k, ek, w⟩ := w
    exact ⟨k, ek, w, rfl, _, rfl⟩
theorem chn3_fr {ca cb cc cd : CE} {o p q : COp} {env : Env} {P : D × Bool × Env → Prop} {E : Exc → Env → Prop} (w : WpR (ev cf (.chn3 o p q ca cb cc cd) env) P E) : WpR (ev cf (.chn3 o p q ca cb cc cd) env) (fun r => P r ∧ r.2.1 = false ∧ ∃ k, r.1 = .bl k) E := by
  have w : WpR ((ev cf ca env).bind fun (x, _, env) => (ev cf cb env).bind fun (y, _, env) => (R.opt (cmpD o x y)).bind fun k =>
    if k then (ev cf cc env).bind fun (z, _, env) => (R.opt (cmpD p y z)).bind fun k =>
      if k then (ev cf cd env).bind fun (u, _, env) => (R.opt (cmpD q z u)).bind fun k => R.ok (D.bl k, false, env) else R.ok (D.bl false, false, env)
    else R.ok (D.bl false, false, env)) P E := w
  show WpR ((ev cf ca env).bind fun (x, _, env) => (ev cf cb env).bind fun (y, _, env) => (R.opt (cmpD o x y)).bind fun k =>
    if k then (ev cf cc env).bind fun (z, _, env) => (R.opt (cmpD p y z)).bind fun k =>
      if k then (ev cf cd env).bind fun (u, _, env) => (R.opt (cmpD q z u)).bind fun k => R.ok (D.bl k, false, env) else R.ok (D.bl false, false, env)
    else R.ok (D.bl false, false, env)) _ E
  rw [WpR.bind] at w ⊢
  refine w.imp (fun r w => ?_) fun _ _ h => h
  obtain ⟨x, fr, env1⟩ := r
  dsimp only at w ⊢
  rw [WpR.bind] at w ⊢
  refine w.imp (fun r w => ?_) fun _ _ h => h
  obtain ⟨y, fr, env1⟩ := r
  dsimp only at w ⊢
  rw [WpR.bind, WpR.opt] at w ⊢
  obtain ⟨k, ek, w⟩ := w
  refine ⟨k, ek, ?_⟩
  cases k with
  | false => exact ⟨w, rfl, _, rfl⟩
  | true =>
    rw [if_pos rfl, WpR.bind] at w ⊢
    refine w.imp (fun r w => ?_) fun _ _ h => h
    obtain ⟨z, fr, env1⟩ := r
    dsimp only at w ⊢
    rw [WpR.bind, WpR.opt] at w ⊢
    obtain ⟨k, ek, w⟩ := w
    refine ⟨k, ek, ?_⟩
    cases k with
    | false => exact ⟨w, rfl, _, rfl⟩
    | true =>
      rw [if_pos rfl, WpR.bind] at w ⊢
      refine w.imp (fun r w => ?_) fun _ _ h => h
      obtain ⟨u, fr, env1⟩ := r
      dsimp only at w ⊢
      rw [WpR.bind, WpR.opt] at w ⊢
      obtain ⟨k, ek, w⟩ := w
      exact ⟨k, ek, w, rfl, _, rfl⟩
theorem s_chn3 {a b c d : Expr} {ca cb cc cd : CE} {pos : Pos} (hK : X.K = g.K) (hu : X.A.units + 65 < cLine) (o p q : COp) (ha : PE X a (SemF g cf W ca)) (hb : PE X b (SemF g cf W cb)) (hc : PE X c (SemF g cf W cc)) (hd : PE X d (SemF g cf W cd))
    (hm : lastMarks [copOf o, copOf p, copOf q] [b, c, d] = false) : PE X (.Compare a [copOf o, copOf p, copOf q] [b, c, d] pos) (SemE g cf W (.chn3 o p q ca cb cc cd)) :=
  (pe_chain3 (op_cmp hK hu o) (op_cmp hK hu p) (op_cmp hK hu q) ha hb hc hd hm).mono fun σ H Q ⟨B, G, env, S, w⟩ => chn3_read S ((chn3_fr w).imp (fun r ⟨w, e, _⟩ H' G' S' s' k ek => out_bl r w H' G' S' s' k ek e) fun _ _ h => h)
theorem t_chn {a b c : Expr} {ca cb cc : CE} {pos : Pos} (hK : X.K = g.K) (hu : X.A.units + 65 < cLine) (o p : COp) (ha : PE X a (SemF g cf W ca)) (hb : PE X b (SemF g cf W cb)) (hc : PE X c (SemF g cf W cc)) (hm : lastMarks [copOf o, copOf p] [b, c] = false) :
    PT X (.Compare a [copOf o, copOf p] [b, c] pos) (SemT g cf W (.chn o p ca cb cc)) :=
  (pt_chain (op_cmp hK hu o) (op_cmp hK hu p) ha hb hc hm).mono fun σ H Q ⟨B, G, env, S, w⟩ => chn_read S (w.imp (fun r ⟨k, ek, q⟩ H' G' S' s' k' ek' => by
    rw [ek'] at ek
    cases ek
    exact ⟨k', rfl, q H' G' S' s'⟩) fun _ _ h => h)
theorem t_chn3 {a b c d : Expr} {ca cb cc cd : CE} {pos : Pos} (hK : X.K = g.K) (hu : X.A.units + 65 < cLine) (o p q : COp) (ha : PE X a (SemF g cf W ca)) (hb : PE X b (SemF g cf W cb)) (hc : PE X c (SemF g cf W cc)) (hd : PE X d (SemF g cf W cd))
    (hm : lastMarks [copOf o, copOf p, copOf q] [b, c, d] = false) : PT X (.Compare a [copOf o, copOf p, copOf q] [b, c, d] pos) (SemT g cf W (.chn3 o p q ca cb cc cd)) :=
  (pt_chain3 (op_cmp hK hu o) (op_cmp hK hu p) (op_cmp hK hu q) ha hb hc hd hm).mono fun σ H Q ⟨B, G, env, S, w⟩ => chn3_read S (w.imp (fun r ⟨k, ek, q⟩ H' G' S' s' k' ek' => by
    rw [ek'] at ek
    cases ek
    exact ⟨k', rfl, q H' G' S' s'⟩) fun _ _ h => h)

/-! ### calls of defs -/
theorem StOk.ent' {B : Bs} {G H : Hp} {env : Env} {σ : St} (S : StOk g B G H env σ) : Ent g G H := ⟨S.sub, S.notb, S.tabs⟩
theorem ResR.vrep {B : Bs} {G G' H H' : Hp} {env : Env} {σ : St} {fr : Bool} {d : D} {v : V} (S : StOk g B G H env σ) (S' : StOk g B G' H' env' σ) (hown : ∀ (i : Nat) s, env'[i]? = some s → s.own = true → ∃ s0, env[i]? = some s0 ∧ s0.own = true) (r : ResR g H G' H' fr d v) : VRep g B G' H' env' σ fr d v := by
  cases fr with
  | false => exact r
  | true =>
    obtain ⟨p, rfl, h1, h2, h3⟩ := r
    exact ⟨p, rfl, h2, S.bfree h1, h3, fun i s hi ho => by
      obtain ⟨s0, a1, a2⟩ := hown i s hi ho
      exact S.notOwn h1 i s0 a1 a2⟩
theorem call_post {f : Nat} {ds : List D} {B : Bs} {G0 G H : Hp} {env : Env} {σ : St} {Q : VK} (S : StOk g B G H env σ) (s0 : Same G0 G) (w : WpR (callR cf f ds env) (fun r => Out g B G0 r.2.2 σ r.2.1 r.1 Q) (ExW g W B σ)) :
    PostR g G H none (cf f ds) Q (fun c dd H' => W c dd σ H') := by
  unfold callR at w
  split at w
  · rename_i d fr e
    rw [e]
    intro v H' G' T r _
    obtain ⟨S', s'⟩ := S.called T
    exact w v H' G' S' (s0.trans s') (r.vrep S S' fun i s h ho => ⟨s, h, ho⟩)
  · exact w.elim
  · rename_i x e
    rw [e]
    intro H' G' c dd T hx
    exact w H' G' c dd (S.called T).1 hx
  · exact w.elim
theorem s_call {x : Str} {e : Expr} {es : List Expr} {ces : List CE} {i np : Nat} {p pos : Pos} (O : XOk g t cf k X W) (hi : t.sig[i]? = some (x, np, false)) (hg : Gl X x) (hdb : (x == ("__debug__" : Str)) = false) (h : PA X (e :: es) (SemA g cf W ces)) (n : (e :: es).all notStar = true) :
    PE X (.Call (.Name x p) (e :: es) [] pos) (SemE g cf W (.call i ces)) := by
  obtain ⟨a, ha, hm, hk, fd, ps, hb, F⟩ := O.wld.fns i x np false hi
  rw [← O.hK] at hk hb F
  rw [List.all_cons, Bool.and_eq_true] at n
  refine (pe_callS (E := fun σ => WE W σ) F O.room hg hm hk hb (L2N.passAt O.takes) h hdb (star_cons n.1 es X.env) (plain_args n.2)).mono fun σ H Q ⟨B, G, env, S, w⟩ => ?_
  have w : WpR ((evs cf ces env).bind fun (ds, env) => callR cf i ds env) _ _ := w
  rw [WpR.bind] at w
  refine ⟨B, G, env, S, w.imp (fun r w vs H1 G1 S1 s1 o1 => ?_) fun _ _ h => h⟩
  obtain ⟨ds, env1⟩ := r
  exact ⟨G1, ds, none, S1.ent', rfl, o1, call_post S1 s1 w⟩
theorem s_call0 {x : Str} {i np : Nat} {p pos : Pos} (O : XOk g t cf k X W) (hi : t.sig[i]? = some (x, np, false)) (hg : Gl X x) (hdb : (x == ("__debug__" : Str)) = false) :
    PE X (.Call (.Name x p) [] [] pos) (SemE g cf W (.call i [])) := by
  obtain ⟨a, ha, hm, hk, fd, ps, hb, F⟩ := O.wld.fns i x np false hi
  rw [← O.hK] at hk hb F
  refine ⟨fun pins s σ H Q I ⟨B, G, env, S, w⟩ => ?_⟩
  apply wpAny_Call_Name_kw (ld_glob I hg hm _ hdb)
  exact PySem.W.callWith_K0 I.kIn hk (run_fnS (us := []) (E := fun σ => WE W σ) F O.room hb (L2N.passAt O.takes σ) I .nil ⟨G, [], none, S.ent', rfl, (Reps.nil (g := g) (G := G)), call_post S (.refl G) w⟩)
/-- f(..), f a name of the def's own that holds a def -/
theorem s_cval {y : Str} {e : Expr} {es : List Expr} {ces : List CE} {i : Nat} {p pos : Pos} (O : XOk g t cf k X W) (hy : PE X (.Name y p) (tVar i)) (h : PA X (e :: es) (SemA g cf W ces)) (n : (e :: es).all notStar = true) :
    PE X (.Call (.Name y p) (e :: es) [] pos) (SemE g cf W (.cval i ces)) := by
  refine ⟨fun pins s σ H Q I ⟨B, G, env, S, w⟩ => ?_⟩
  have w : WpR ((rdVar i env).bind fun (g, _, env) => match g with
    | .fn f => (evs cf ces env).bind fun (ds, env) => callR cf f ds env
    | _ => .bad) _ _ := w
  rw [List.all_cons, Bool.and_eq_true] at n
  unfold rdVar at w
  split at w
  · rename_i d hd
    obtain ⟨v, z1, z2⟩ := S.sl i _ hd
    cases d with
    | fn f =>
      obtain ⟨a, rfl, hfa⟩ := z2.fnI
      obtain ⟨x, np, hs, hmx⟩ := O.wld.fnb f a hfa
      obtain ⟨a', _, hm, hk, fd, ps, hb, F⟩ := O.wld.fns f x np false hs
      rw [hm] at hmx
      cases hmx
      rw [← O.hK] at hk hb F
      have w : WpR ((evs cf ces env).bind fun (ds, env) => callR cf f ds env) (fun r => Out g B G r.2.2 σ r.2.1 r.1 Q) (ExW g W B σ) := w
      rw [WpR.bind] at w
      have hA : SemA g cf W ces σ H fun vs H1 => spF g cf f np false vs H1 Q (WE W σ) := ⟨B, G, env, S, w.imp (fun r w vs H1 G1 S1 s1 o1 => by
        obtain ⟨ds, env1⟩ := r
        exact ⟨G1, ds, none, S1.ent', rfl, o1, call_post S1 s1 w⟩) fun _ _ h => h⟩
      refine wpAny_Call_Name_kw (thn (hy.run pins s σ H (fun v H1 => v = .ref a ∧ H1 = H) I ⟨.ref a, z1, rfl, rfl⟩) fun u s1 ⟨v, H1, I1, r1, q1⟩ => ?_)
      obtain ⟨rfl, rfl⟩ := q1
      cases r1
      refine PySem.W.callWith_K (h₀ := X.base) I.ok.mod.kin hk (thn (h.run pos pins s1 σ _ _ I1 hA) fun us s2 ⟨vs, H2, I2, r, q⟩ => ⟨I2.kIn, ?_⟩) (star_cons n.1 es X.env) (plain_args n.2)
      exact run_fnS (E := fun σ => WE W σ) F O.room hb (L2N.passAt O.takes σ) I2 r q
    | _ => exact w.elim
  · rename_i d hd
    obtain ⟨p, _, _, _, l, vs, rfl, _⟩ := S.sl i _ hd
    exact w.elim
  · exact w.elim
theorem s_cio {x y : Str} {es : List Expr} {ces : List CE} {i j np : Nat} {p py pos : Pos} (O : XOk g t cf k X W) (hi : t.sig[i]? = some (x, np, true)) (hg : Gl X x) (hdb : (x == ("__debug__" : Str)) = false) (hy : PE X (.Name y py) (tVar j)) (h : PA X es (SemA g cf W ces)) (n : es.all notStar = true) :
    PE X (.Call (.Name x p) (.Name y py :: es) [] pos) (SemE g cf W (.cio i j ces)) := by
  obtain ⟨a, ha, hm, hk, fd, ps, hb, F⟩ := O.wld.fns i x np true hi
  rw [← O.hK] at hk hb F
  refine (pe_callS (E := fun σ => WE W σ) F O.room hg hm hk hb (L2N.passAt O.takes) (pa_cons hy h (by rfl)) hdb (by rfl) (plain_args n)).mono fun σ H Q ⟨B, G, env, S, w⟩ => ?_
  have w : WpR ((rdOpd j env).bind fun (_, env) => (evs cf ces env).bind fun (ds, env) => callIO cf i j ds env) _ _ := w
  rw [WpR.bind] at w
  have hv : ∃ v, σ[j]? = some (some v) ∧ WpR ((evs cf ces env).bind fun (ds, env) => callIO cf i j ds env) (fun r => Out g B G r.2.2 σ r.2.1 r.1 Q) (ExW g W B σ) := by
    unfold rdOpd at w
    split at w
    · rename_i d hd
      obtain ⟨v, z1, z2⟩ := S.sl j _ hd
      exact ⟨v, z1, w⟩
    · rename_i d hd
      obtain ⟨q, z1, _⟩ := S.sl j _ hd
      exact ⟨.ref q, z1, w⟩
    · rename_i d hd
      obtain ⟨q, z1, _⟩ := S.sl j _ hd
      exact ⟨.ref q, z1, w⟩
    · exact w.elim
  obtain ⟨v, hv, w⟩ := hv
  rw [WpR.bind] at w
  refine ⟨v, hv, B, G, env, S, w.imp (fun r w vs H1 G1 S1 s1 o1 => ?_) fun _ _ h => h⟩
  obtain ⟨ds, env1⟩ := r
  dsimp only at w S1 o1
  have core : ∀ s, env1[j]? = some s → s.own = true → ∀ d0, (s = .ow d0 ∨ s = .io d0) → WpR (match cf i (d0 :: ds) with
      | .ok d fr (some d1) => R.ok (d, fr, env1.set j (s.put d1))
      | _ => R.bad) (fun r => Out g B G r.2.2 σ r.2.1 r.1 Q) (ExW g W B σ) → spF g cf i np true (v :: vs) H1 Q (WE W σ) := fun s hs ho d0 hd0 w => by
    obtain ⟨q, d', z1, z2, z3, z4, z5⟩ := S1.own hs ho
    rw [hv] at z1
    cases z1
    have ed : d' = d0 := by rcases z4 with z4 | z4 <;> rcases hd0 with h | h <;> (rw [z4] at h; cases h; try rfl)
    subst ed
    refine ⟨G1, d' :: ds, some q, S1.ent', rfl, ⟨d', ds, vs, rfl, rfl, z2, z3, o1⟩, ?_⟩
    split at w
    · rename_i d fr d1 e
      rw [e]
      intro v' H' G' T r io
      obtain ⟨S', s'⟩ := S1.calledIO hs ho hv T io
      refine w v' H' G' S' (s1.trans s') (r.vrep S1 S' fun l s' hl hl' => ?_)
      by_cases z : j = l
      · subst z; exact ⟨s, hs, ho⟩
      · rw [List.getElem?_set_ne z] at hl; exact ⟨s', hl, hl'⟩
    · exact w.elim
  unfold callIO at w
  split at w
  · rename_i d0 hs
    exact core _ hs rfl d0 (.inl rfl) w
  · rename_i d0 hs
    exact core _ hs rfl d0 (.inr rfl) w
  · exact w.elim
/-! ### calls of built-in functions -/
theorem opvs_obs {B : Bs} {G H : Hp} {env : Env} {σ : St} (S : StOk g B G H env σ) : ∀ {xs : List Opd} {vs : List V} {ds : List D}, OpVs g G σ xs vs → xs.mapM (Opd.get env) = some ds → ObsL g G H ds vs
  | _, _, ds, .nil, e => by
    simp only [List.mapM_nil] at e
    cases e
    exact .nil
  | _, _, ds, .cons h r, e => by
    simp only [List.mapM_cons, Option.bind_eq_bind, Option.bind_eq_some_iff] at e
    obtain ⟨d, hd, js, hj, e⟩ := e
    cases e
    exact .cons (h.obs S hd) (opvs_obs S r hj)
def bltB : Blt → Bool
  | .len => true | .all => true | .any => true | .sum => true | .sorted => true | .min => true | .max => true | _ => false
theorem blt_boot : ∀ b : Blt, b ≠ .sset → bootBuiltins (Str.ofString (bltN b)) = some (bltV b) := by
  intro b hb
  cases b <;> first | exact absurd rfl hb | exact boot_len | exact boot_all | exact boot_any | exact boot_sum | exact boot_sorted | exact boot_tuple | exact boot_list | exact boot_min | exact boot_max | exact boot_int | exact boot_str | exact boot_bool | exact boot_dict
theorem s_blt {e : Expr} {es : List Expr} {ces : List CE} {p pos : Pos} (O : XOk g t cf k X W) (b : Blt) (hb : b ≠ .sset ∧ b ≠ .dict) (hg : Gl X (Str.ofString (bltN b))) (h : PA X (e :: es) (SemAO g cf W ces)) (n : (e :: es).all notStar = true) :
    PE X (.Call (.Name (Str.ofString (bltN b)) p) (e :: es) [] pos) (SemE g cf W (.blt b ces)) := by
  rw [List.all_cons, Bool.and_eq_true] at n
  have hm : X.mg (Str.ofString (bltN b)) = none := O.wld.bl _ (by cases b <;> first | exact absurd rfl hb.1 | decide +kernel)
  have r0 := blt_D (X := X) O.hK O.calm b hb
  have hboot := blt_boot b hb.1
  have hn : (Str.ofString (bltN b)) ≠ "__name__" := by cases b <;> decide +kernel
  have hdb : ((Str.ofString (bltN b)) == ("__debug__" : Str)) = false := by cases b <;> decide +kernel
  have z : PE X (.Call (.Name (Str.ofString (bltN b)) p) (e :: es) [] pos) (tCB (rBltD g b) (SemAO g cf W ces)) := by
    cases b <;> first
      | exact absurd rfl hb.1
      | exact absurd rfl hb.2
      | exact pe_callB r0 hg hm hboot h hn hdb (star_cons n.1 es X.env) (plain_args n.2)
      | exact pe_callTy r0 hg hm hboot h hn hdb (star_cons n.1 es X.env) (plain_args n.2)
  refine z.mono fun σ H Q ⟨B, G, env, S, w⟩ => ?_
  have w : WpR ((evOs cf ces env).bind fun (xs, env) => (R.opt (xs.mapM (Opd.get env))).bind fun ds => (R.opt (bltD b ds)).bind fun d => ok3 d env) _ _ := w
  rw [WpR.bind] at w
  refine ⟨B, G, env, S, w.imp (fun r w vs H1 G1 S1 s1 o1 => ?_) fun _ _ h => h⟩
  obtain ⟨xs, env1⟩ := r
  dsimp only at w S1 o1
  simp only [WpR.bind, WpR.opt] at w
  obtain ⟨ds, eds, d, ed, w⟩ := w
  exact ⟨B, G1, env1, σ, ds, d, S1, opvs_obs S1 o1 eds, ed, fun v' H' G' S' s' r' => w v' H' G' S' (s1.trans s') r'⟩
/-! ### isinstance -/
theorem kd_boot (j : Kd) : bootBuiltins (Str.ofString (kdNm j)) = some (.type (kdNm j)) := by
  cases j <;> first | exact boot_bool | exact boot_int | exact boot_str | exact boot_list | exact boot_tuple
theorem pe_kd {p : Pos} (O : XOk g t cf k X W) (j : Kd) (hg : Gl X (Str.ofString (kdNm j))) : PE X (.Name (Str.ofString (kdNm j)) p) (tC (.ty (kdNm j))) :=
  pe_bltn hg (O.wld.bl _ (by cases j <;> decide +kernel)) (kd_boot j) rfl (by cases j <;> decide +kernel) (by cases j <;> decide +kernel)
theorem isi_read {ca : CE} {ks : List Kd} {σ : St} {H : Hp} {Q : VK} {B : Bs} {G : Hp} {env : Env} (S : StOk g B G H env σ) (w : WpR (ev cf (.isi ca ks) env) (fun r => Out g B G r.2.2 σ r.2.1 r.1 Q) (ExW g W B σ)) :
    SemO g cf W ca σ H fun x H1 => ∀ H2, (H2 = H1 ∨ (Same H1 H2 ∧ TabsX g.tabs H2)) → rIsiD g ks x x H2 Q := by
  have w : WpR ((opd ca (ev cf ca) env).bind fun (x, env) => (R.opt (x.get env)).bind fun d => (R.opt (isiD d ks)).bind fun b => R.ok (D.bl b, false, env)) _ _ := w
  rw [WpR.bind] at w
  refine ⟨B, G, env, S, w.imp (fun r w v H1 G1 S1 s1 o1 H2 h2 => ?_) fun _ _ h => h⟩
  obtain ⟨x, env1⟩ := r
  dsimp only at w S1 o1
  simp only [WpR.bind, WpR.opt] at w
  obtain ⟨d, ed, b, eb, w⟩ := w
  have S2 : StOk g B G1 H2 env1 σ := by
    rcases h2 with rfl | ⟨s, t⟩
    · exact S1
    · exact S1.grow s t
  exact ⟨B, G1, env1, σ, d, b, S2, o1.obs S2 ed, eb, w _ H2 G1 S2 s1 (Rep.bl (g := g) (G := G1))⟩
theorem s_isi1 {a : Expr} {ca : CE} {p p2 pos : Pos} (O : XOk g t cf k X W) (j : Kd) (hg : Gl X "isinstance") (hj : Gl X (Str.ofString (kdNm j))) (h : PE X a (SemO g cf W ca)) (n : notStar a = true) :
    PE X (.Call (.Name "isinstance" p) [a, .Name (Str.ofString (kdNm j)) p2] [] pos) (SemE g cf W (.isi ca [j])) := by
  refine (pe_callB (isi_one (g := g) O.hK j) hg (O.wld.bl _ (by decide +kernel)) boot_isinstance (pa_cons h (pa_cons (pe_kd O j hj) pa_nil (by rfl)) (star_cons n _ _)) (by decide +kernel) (by decide +kernel) (star_cons n _ _) (by rfl)).mono fun σ H Q ⟨B, G, env, S, w⟩ => ?_
  obtain ⟨B', G', env', S', w'⟩ := isi_read S w
  exact ⟨B', G', env', S', w'.imp (fun r q v H' G2 S2 s2 o2 => ⟨v, rfl, q v H' G2 S2 s2 o2 H' (.inl rfl)⟩) fun _ _ h => h⟩
theorem pa_kds {K : PySem.W.Frag} (O : XOk g t cf k X W) : ∀ (ks : List (Kd × Pos)), (∀ q ∈ ks, Gl X (Str.ofString (kdNm q.1))) → PA X (ks.map fun q => .Name (Str.ofString (kdNm q.1)) q.2) (fun _ H Q => Q (ks.map fun q => V.ty (kdNm q.1)) H)
  | [], _ => pa_nil
  | q :: r, h => by
    refine (pa_cons (pe_kd O q.1 (h q (by simp))) (pa_kds (K := K) O r fun z hz => h z (by simp [hz])) (by rfl)).mono fun σ H Q w => ?_
    exact w
theorem s_isiN {a : Expr} {ca : CE} {p p2 pos : Pos} {z : Nat} (O : XOk g t cf k X W) (ks : List (Kd × Pos)) (hz : ks.length ≤ 8) (hg : Gl X "isinstance") (hj : ∀ q ∈ ks, Gl X (Str.ofString (kdNm q.1))) (h : PE X a (SemO g cf W ca)) (n : notStar a = true) :
    PE X (.Call (.Name "isinstance" p) [a, .Tuple (ks.map fun q => .Name (Str.ofString (kdNm q.1)) q.2) z p2] [] pos) (SemE g cf W (.isi ca (ks.map (·.1)))) := by
  refine (pe_callB (isi_many (g := g) O.hK (ks.map (·.1))) hg (O.wld.bl _ (by decide +kernel)) boot_isinstance (pa_cons h (pa_cons (pe_tup (pa_kds (K := X.K) O ks hj)) pa_nil (by rfl)) (star_cons n _ _)) (by decide +kernel) (by decide +kernel) (star_cons n _ _) (by rfl)).mono fun σ H Q ⟨B, G, env, S, w⟩ => ?_
  obtain ⟨B', G', env', S', w'⟩ := isi_read S w
  refine ⟨B', G', env', S', w'.imp (fun r q v H' G2 S2 s2 o2 => ⟨?_, fun tp ntp => ⟨v, tp, rfl, ?_, ?_⟩⟩) fun _ _ h => h⟩
  · rw [List.length_map, sizeLine_eq]; omega
  · rw [upd_same]
    simp [List.map_map]
  · exact q v H' G2 S2 s2 o2 _ (.inr ⟨same_upd ntp, tabs_upd S2.tabs ntp fun _ z => (nomatch z)⟩)
end
end Cor

set_option Elab.async false
set_option linter.all false
set_option maxRecDepth 100000
set_option maxHeartbeats 2000000
/-! Iters: enumerate and zip of lists and tuples. -/
namespace Cor
open PySem PySem.Spec L2
open PyProof.Rows hiding St

/-- a list or a tuple that is walked -/
inductive Src where
  | L (a : Addr) | T (a : Addr)
def Src.ad : Src → Addr
  | .L a => a
  | .T a => a
def SqS (K : PySem.W.Frag) (H : Hp) : Src → List V → Prop
  | .L a, xs => SqL K H a xs
  | .T a, xs => SqT K H a xs
def IsS (h : Heap) : Src → List Value → Prop
  | .L a, its => h.IsList a its.toArray
  | .T a, its => h.IsTuple a its.toArray
def Src.obj : Src → Obj
  | .L a => { cls := .type "list_iterator", data := .fields #[.ref a, .int 0 0] }
  | .T a => { cls := .type "tuple_iterator", data := .fields #[.ref a, .int 0 0] }
def ItS (h : Heap) (it : Addr) (i : Nat) : Src → Prop
  | .L a => h.IsListIter it a i
  | .T a => h.IsTupleIter it a i
theorem ItS.at {h h' : Heap} {it : Addr} {i : Nat} {S : Src} (x : ItS h it i S) (k : ∀ o, h.get? it = some o → h'.get? it = some o) : ItS h' it i S := by
  cases S with
  | L a => exact Heap.IsListIter.at x k
  | T a => exact Heap.IsTupleIter.at x k
theorem ItS.live {h : Heap} {it : Addr} {i : Nat} {S : Src} (x : ItS h it i S) : ∃ o, h.get? it = some o ∧ ∀ v, o.data ≠ .cell v := by
  cases S with
  | L a => obtain ⟨o, ho, hc, hd⟩ := x; exact ⟨o, ho, fun v q => by rw [hd] at q; cases q⟩
  | T a => obtain ⟨o, ho, hc, hd⟩ := x; exact ⟨o, ho, fun v q => by rw [hd] at q; cases q⟩
section
variable {X : Cx} {pins : List (Addr × Obj)}
variable {σ : L2.St} {H : Hp} {s : Shared}
theorem Inv.src (I : L2.Inv X pins σ H s) {S : Src} {xs : List V} (h : SqS X.K H S xs) : ∃ its : List Value, Vals xs its ∧ IsS s.heap S its ∧ xs.length ≤ sizeLine := by
  cases S with
  | L a => obtain ⟨its, r, p, z⟩ := I.list h; exact ⟨its, r, p.isList, z⟩
  | T a => obtain ⟨its, r, p, z⟩ := I.tuple h; exact ⟨its, r, p, z⟩
theorem Inv.src_inj (I : L2.Inv X pins σ H s) {S : Src} {xs ys : List V} (h : SqS X.K H S xs) (h' : SqS X.K H S ys) : xs = ys := by
  cases S with
  | L a => exact I.list_inj h h'
  | T a => exact I.tuple_inj h h'
end
theorem IsS.lt {h : Heap} {S : Src} {its : List Value} (x : IsS h S its) : S.ad < h.objs.size := by
  cases S with
  | L a => obtain ⟨_, e, _⟩ := x; exact Heap.lt_size e
  | T a => obtain ⟨_, e, _⟩ := x; exact Heap.lt_size e
theorem drawsS {prog : Program} {w : World} {A : Around} (hh : A.handled = none) (it : Addr) (S : Src) (hne : S.ad ≠ it) (its : List Value) :
    Draws prog w A it [it, S.ad] its.length (fun i v => its[i]? = some v) (fun i h => ItS h it i S ∧ IsS h S its) := by
  cases S with
  | L a =>
    show Draws prog w A it [it, a] its.length (fun i v => its[i]? = some v) (fun i h => h.IsListIter it a i ∧ h.IsList a its.toArray)
    simpa using Draws.list (prog := prog) (w := w) hh it a hne its.toArray
  | T a =>
    show Draws prog w A it [it, a] its.length (fun i v => its[i]? = some v) (fun i h => h.IsTupleIter it a i ∧ h.IsTuple a its.toArray)
    simpa using Draws.tuple (prog := prog) (w := w) hh it a hne its.toArray
theorem beginsS (S : Src) (its : List Value) : Begins (.ref S.ad) S.obj fun h => IsS h S its := by
  cases S with
  | L a => exact begins_list a its.toArray
  | T a => exact begins_tuple a its.toArray
theorem ItS.new {h : Heap} {it : Addr} {S : Src} (e : h.get? it = some S.obj) : ItS h it 0 S := by
  cases S with
  | L a => exact ⟨_, e, rfl, rfl⟩
  | T a => exact ⟨_, e, rfl, rfl⟩

/-! ### enumerate -/
def Ien (K : PySem.W.Frag) (S : Src) : L2.It :=
  ⟨fun i H => ∃ (xs : List V) (x : V), SqS K H S xs ∧ xs[i]? = some x, fun i H v H' => ∃ T x, v = .ref T ∧ H T = none ∧ H' = upd H T (.tup [.int (i : Nat), x]) ∧ ∀ xs, SqS K H S xs → xs[i]? = some x, fun i H => ∃ xs : List V, SqS K H S xs ∧ xs.length = i⟩
/-- a step that changes its own objects fp alone and lays a new couple -/
theorem couple_laid {X : Cx} {pins : List (Addr × Obj)} {σ : L2.St} {H : Hp} {s : Shared} {fp : List Addr} {h : Heap} {tk : Nat} {x y : V} {u v : Value} (I : L2.Inv X pins σ H s) (hf : ∀ b ∈ fp, FpOk X pins H b) (own : ∀ b ∈ fp, ∃ o, s.heap.get? b = some o)
    (kept : ∀ b o, b ∉ fp → s.heap.get? b = some o → h.get? b = some o) (at_ : h.get? s.heap.objs.size = some { cls := .type "tuple", data := .seq #[u, v] }) (ru : RelV x u) (rv : RelV y v) :
    L2.Inv X pins σ (upd H s.heap.objs.size (.tup [x, y])) { s with heap := h, toks := tk } ∧ H s.heap.objs.size = none ∧ ∀ b ∈ fp, upd H s.heap.objs.size (.tup [x, y]) b = none := by
  have two : (2 : Nat) ≤ sizeLine := by decide
  refine ⟨I.turnedNew kept hf (Nat.le_refl _) ⟨two, [u, v], .cons ru (.cons rv .nil), _, at_, rfl, _, rfl⟩, I.hok.fresh (Nat.le_refl _), fun b m => ?_⟩
  obtain ⟨o, e⟩ := own b m
  exact (upd_ne (Nat.ne_of_lt (Heap.lt_size e))).trans (hf b m).1
/-- the items that an iterator draws -/
abbrev DrawsOf (X : Cx) (it : Addr) (S : Src) : Prop := ∀ its : List Value, Draws X.prog X.w X.A.in1 it [it, S.ad] its.length (fun i v => its[i]? = some v) fun i h => ItS h it i S ∧ IsS h S its
theorem draws_calm {X : Cx} {pins : List (Addr × Obj)} {σ : L2.St} {H : Hp} {s : Shared} {it : Addr} {S : Src} (I : L2.Inv X pins σ H s) (hc : X.calm = true) (ne : S.ad ≠ it) : DrawsOf X it S :=
  drawsS (A := X.A.in1) (I.ok.hd hc) it S ne
def tnE (e it : Addr) (S : Src) (i : Nat) (h : Heap) : Prop := (∃ old, IsEnum h e it ((i : Nat) : Int) old) ∧ ItS h it i S ∧ e ≠ it ∧ S.ad < e
theorem tnE.own {e it : Addr} {S : Src} {i : Nat} {h : Heap} (st : tnE e it S i h) : ∀ b ∈ [e, it], ∃ o, h.get? b = some o ∧ ∀ v, o.data ≠ .cell v
  | _, .head _ => let ⟨_, g⟩ := st.1; ⟨_, g, fun _ z => nomatch z⟩
  | _, .tail _ (.head _) => st.2.1.live
theorem en_item {X : Cx} {pins : List (Addr × Obj)} {σ : L2.St} {H : Hp} {s : Shared} {E : Value → Shared → Prop} {elts : List Expr} {kk : Nat} {tpos : Pos} {S : Src} {e it : Addr} {i : Nat} (dr : DrawsOf X it S) (I : L2.Inv X pins σ H s) (hf : ∀ b ∈ [e, it], FpOk X pins H b) (st : tnE e it S i s.heap) (go : (Ien X.K S).go i H) :
    wpAny (model X.prog X.w) X.A (pyNext (.ref e)) (fun r s1 => ∃ u, r = some u ∧
      wpAny (model X.prog X.w) X.A (letOwnedTupleGo (.Tuple elts kk tpos) (.ref e) u) (fun _ s2 => ∃ x H', L2.Inv X pins σ H' s2 ∧ RelV x u ∧ (Ien X.K S).yld i H x H' ∧ tnE e it S (i + 1) s2.heap ∧ ∀ b ∈ [e, it], H' b = none) E s1) E s := by
  have own := st.own
  obtain ⟨⟨old, en⟩, at_, ne, lt⟩ := st
  obtain ⟨xs, x, sq, hx⟩ := go
  obtain ⟨its, rv, p, _⟩ := Inv.src I sq
  obtain ⟨u, hu, ru⟩ := rv.get hx
  refine wpAny_pyNext_enum_itemD (dr its) en ⟨at_, p⟩ (List.getElem?_eq_some_iff.mp hu).1 ne (fun m => by rcases m with _ | ⟨_, _ | ⟨_, m⟩⟩ <;> first | exact ne rfl | exact Nat.lt_irrefl _ lt | cases m) fun u' h1 tk draw en1 st1 new _ kept => ?_
  cases draw.symm.trans hu
  refine ⟨_, rfl, wpAny_letOwnedTupleGo_enum (s := { s with heap := h1, toks := tk + 1 }) en1 fun h2 en2 same => ?_⟩
  have only : ∀ b o, b ∉ [e, it] → s.heap.get? b = some o → h2.get? b = some o := fun b o m g => by
    simp only [List.mem_cons, List.not_mem_nil, or_false, not_or] at m
    exact (same.2 b m.1).trans (kept b o m.1 m.2 g)
  obtain ⟨J, fresh, none_⟩ := couple_laid (tk := tk + 1) (x := .int (i : Nat)) (u := .int i tk) I hf (fun b m => let ⟨o, g, _⟩ := own b m; ⟨o, g⟩) only ((same.2 _ (Nat.ne_of_gt (Heap.lt_size en))).trans new) ⟨_, rfl⟩ ru
  exact ⟨.ref s.heap.objs.size, _, J, rfl, ⟨_, x, rfl, fresh, rfl, fun ys sy => Inv.src_inj I sq sy ▸ hx⟩, ⟨⟨u, Int.natCast_succ i ▸ en2⟩, st1.1.at fun o g => (same.2 it ne.symm).trans g, ne, lt⟩, none_⟩
theorem en_done {X : Cx} {pins : List (Addr × Obj)} {σ : L2.St} {H : Hp} {s : Shared} {E : Value → Shared → Prop} {S : Src} {e it : Addr} {i : Nat} (dr : DrawsOf X it S) (I : L2.Inv X pins σ H s) (hf : ∀ b ∈ [e, it], FpOk X pins H b) (st : tnE e it S i s.heap) (stop : (Ien X.K S).stop i H) :
    wpAny (model X.prog X.w) X.A (pyNext (.ref e)) (fun r s1 => r = none ∧ L2.Inv X pins σ H s1) E s := by
  obtain ⟨⟨old, en⟩, at_, ne, _⟩ := st
  obtain ⟨xs, sq, rfl⟩ := stop
  obtain ⟨its, rv, p, _⟩ := Inv.src I sq
  rw [rv.length] at at_ en
  have ⟨f0, f1, _, f3, f4, f5⟩ := hf it (.tail _ (.head _))
  exact wpAny_pyNext_enum_endD (dr its) en ⟨at_, p⟩ fun h kept => ⟨rfl, I.turned (t' := s.toks) kept f0 f1 f3 f4 f5⟩
theorem turn_en {P : Program} {w : World} {K : PySem.W.Frag} {elts : List Expr} {kk : Nat} {tpos : Pos} (S : Src) (e it : Addr) (hS : S.ad < it) : Turn P w K (.Tuple elts kk tpos) (Ien K S) [e, it] e (tnE e it S) where
  mem := .head _
  obj := fun i h st => st.own
  keep := fun i h h' ⟨⟨old, en⟩, at_, r⟩ k => ⟨⟨old, k e (.head _) _ en⟩, at_.at fun o => k it (.tail _ (.head _)) o, r⟩
  item := fun X hP hw hK hc i pins s σ H E I hf st go => by
    subst hP hw hK
    exact en_item (draws_calm I hc (Nat.ne_of_lt hS)) I hf st go
  done := fun X hP hw hK hc i pins s σ H E I hf st stop => by
    subst hP hw hK
    exact en_done (draws_calm I hc (Nat.ne_of_lt hS)) I hf st stop
  self := fun A i s Q E ⟨⟨_, en⟩, _⟩ q => wpAny_pyIter_enum en q
/-- the enumerator of an iterator at b -/
def enumObj (b : Addr) : Obj := { cls := .type "enumerate", data := .fields #[.none, .bool false, .ref b, rawInt 0, .none, .none] }
set_option maxHeartbeats 1200000 in
theorem meets_enum1 {v : Value} {o : Obj} {H : Heap → Prop} (B : Begins v o H) :
    Meets (Builtin.«enumerate.__new__» ⟨[.type "enumerate", v], []⟩) fun _ R s => H s.heap ∧ R (.ok (.ret (.ref (s.heap.push o).objs.size))) { s with heap := (s.heap.push o).push (enumObj s.heap.objs.size) } := by
  apply Meets.of_wp
  rintro prog w A R ⟨hp, g, d, tk, os⟩ ⟨ok, q⟩
  have sub := sub_enumerate
  have begins : ∀ {A : Around} {E Q : Value → Shared → Prop}, Q (.ref hp.objs.size) ⟨hp.push o, g, d, tk, os⟩ → wpAny (model prog w) A (pyIter v) Q E ⟨hp, g, d, tk, os⟩ := fun q => B.iter prog w _ _ _ _ ok q
  wp_walk using begins
  refine wpAny_stack_any fun st => wpAny_pure ?_
  split
  case h_1 c _ _ _ _ _ => cases (c == Value.type "enumerate") <;> (wp_walk using begins; exact ⟨_, rfl, q⟩)
  all_goals (wp_walk using begins; exact ⟨_, rfl, q⟩)
theorem enum1_begins {prog : Program} {w : World} {A : Around} {E : Value → Shared → Prop} {s : Shared} {v : Value} {o : Obj} {H : Heap → Prop} {Q : Value → Shared → Prop} (B : Begins v o H) (ok : H s.heap)
    (q : ∀ h, IsEnum h (s.heap.objs.size + 1) s.heap.objs.size 0 .none → h.get? s.heap.objs.size = some o → Keeps s.heap h → Q (.ref (s.heap.objs.size + 1)) { s with heap := h }) :
    wpAny (model prog w) A (call (.type "enumerate") [v]) Q E s := by
  have size : (s.heap.push o).objs.size = s.heap.objs.size + 1 := Heap.size_push ..
  have top : IsEnum ((s.heap.push o).push (enumObj s.heap.objs.size)) (s.heap.objs.size + 1) s.heap.objs.size 0 .none := size ▸ Heap.get?_push_size (s.heap.push o) (o := enumObj s.heap.objs.size) rfl
  have kept : ∀ {b u}, (s.heap.push o).get? b = some u → ((s.heap.push o).push (enumObj s.heap.objs.size)).get? b = some u := fun g => Heap.get?_push_of_some _ g
  have made := q _ top (kept (Heap.get?_push_size _ B.free)) fun b u g => kept (Heap.get?_push_of_some _ g)
  have init := fun obj => F.args_object_init_2 obj v
  exact callType_new F.called_enumerate (by decide) (F.typeCall_enumerate_1 _) (F.newCall_enumerate_1 _) init F.entry_enumerate_new (meets_enum1 B) ⟨ok, size.symm ▸ ⟨⟨_, top, rfl⟩, made⟩⟩
/-- for a, b in enumerate(e) -/
def iEn (K : PySem.W.Frag) (ta : TA) : TI := fun σ H R => ta σ H fun vs H1 => ∃ S xs, vs = [.ref (Src.ad S)] ∧ SqS K H1 S xs ∧ R (Ien K S) H1
theorem pi_en {X : Cx} {e : Expr} {ta : TA} {p pos tpos : Pos} {elts : List Expr} {kk : Nat} (hg : Gl X "enumerate") (hm : X.mg "enumerate" = none) (ha : PA X [e] ta) (hs : starEach [e] X.env = [(false, eval e X.env)]) :
    PI X (.Tuple elts kk tpos) (.Call (.Name "enumerate" p) [e] [] pos) (iEn X.K ta) := by
  constructor
  intro pins s σ H R I h
  refine Call_ (ld_blt I hg hm boot_enumerate (PyProof.Rows.callWith_type1 (thn (ha.run pos pins s σ H _ I h) ?_) hs rfl))
  rintro us s1 ⟨vs, H1, I1, r1, S, xs, rfl, sq, q⟩
  cases Vals.ref1 r1
  obtain ⟨its, _, seq, _⟩ := Inv.src I1 sq
  refine enum1_begins (beginsS S its) seq fun h top under kept => wpAny_pyIter_enum top ?_
  have own : ∀ b ∈ [s1.heap.objs.size + 1, s1.heap.objs.size], s1.heap.objs.size ≤ b
    | _, .head _ => Nat.le_succ _
    | _, .tail _ (.head _) => Nat.le_refl _
  refine ⟨s1.heap.objs.size + 1, _, _, _, H1, rfl, I1.kept (t' := s1.toks) kept, turn_en S _ s1.heap.objs.size seq.lt, ⟨⟨.none, top⟩, ItS.new under, Nat.succ_ne_self _, Nat.lt_succ_of_lt seq.lt⟩, fun b m => ?_, q⟩
  exact I1.fpOk (own b m) (I1.hok.fresh (own b m))

/-! ### zip -/
def Izp (K : PySem.W.Frag) (S1 S2 : Src) : L2.It :=
  ⟨fun i H => ∃ (xs ys : List V) (x y : V), SqS K H S1 xs ∧ SqS K H S2 ys ∧ xs[i]? = some x ∧ ys[i]? = some y,
    fun i H v H' => ∃ T x y, v = .ref T ∧ H T = none ∧ H' = upd H T (.tup [x, y]) ∧ (∀ xs, SqS K H S1 xs → xs[i]? = some x) ∧ ∀ ys, SqS K H S2 ys → ys[i]? = some y,
    fun i H => ∃ xs ys : List V, SqS K H S1 xs ∧ SqS K H S2 ys ∧ i ≤ xs.length ∧ i ≤ ys.length ∧ (i = xs.length ∨ i = ys.length)⟩
structure ZAp (z TI TO i1 i2 : Addr) (S1 S2 : Src) : Prop where
  sep : ZipSep2 z TI TO i1 i2 [i1, S1.ad] [i2, S2.ad]
  i1z : i1 ≠ z
  i2z : i2 ≠ z
  TOi1 : TO ≠ i1
  TOi2 : TO ≠ i2
  n1 : S1.ad ≠ i1
  n2 : S2.ad ≠ i2
theorem zap_nat {N a b : Nat} (h1 : a < N) (h2 : b < N) : (N + 2 ≠ N + 4 ∧ N + 3 ≠ N + 4 ∧ N + 2 ≠ N + 3 ∧ N + 2 ≠ N ∧ (N + 4 ≠ N ∧ N + 4 ≠ a) ∧ (N + 3 ≠ N ∧ N + 3 ≠ a) ∧ N + 2 ≠ N + 1 ∧ (N + 4 ≠ N + 1 ∧ N + 4 ≠ b) ∧ (N + 3 ≠ N + 1 ∧ N + 3 ≠ b) ∧ (N ≠ N + 1 ∧ N ≠ b) ∧ (N + 1 ≠ N ∧ N + 1 ≠ a)) ∧ N ≠ N + 4 ∧ N + 1 ≠ N + 4 ∧ N + 3 ≠ N ∧ N + 3 ≠ N + 1 ∧ a ≠ N ∧ b ≠ N + 1 := by omega
theorem nm2 {a b c : Addr} (h : a ≠ b ∧ a ≠ c) : a ∉ [b, c] := fun m => by
  have e : a = b ∨ a = c := by simpa using m
  exact e.elim h.1 h.2
theorem zap_new {N : Nat} {S1 S2 : Src} (h1 : S1.ad < N) (h2 : S2.ad < N) : ZAp (N + 4) (N + 2) (N + 3) N (N + 1) S1 S2 := by
  obtain ⟨⟨a1, a2, a3, a4, a5, a6, a7, a8, a9, a10, a11⟩, b1, b2, b3, b4, b5, b6⟩ := zap_nat h1 h2
  exact ⟨⟨a1, a2, a3, a4, by simp, nm2 a5, nm2 a6, a7, by simp, nm2 a8, nm2 a9, nm2 a10, nm2 a11⟩, b1, b2, b3, b4, b5, b6⟩
def tnZ (z TI TO i1 i2 : Addr) (S1 S2 : Src) (i : Nat) (h : Heap) : Prop := IsZip h z TI TO .none ∧ IsTupOf2 h TI (.ref i1) (.ref i2) ∧ (∃ x y, IsTupOf2 h TO x y) ∧ ItS h i1 i S1 ∧ ItS h i2 i S2
theorem five {z TI TO i1 i2 b : Addr} {P : Addr → Prop} (m : b ∈ [z, TI, TO, i1, i2]) (h : P z ∧ P TI ∧ P TO ∧ P i1 ∧ P i2) : P b := by
  have ⟨a1, a2, a3, a4, a5⟩ := h
  match m with
  | .head _ => exact a1
  | .tail _ (.head _) => exact a2
  | .tail _ (.tail _ (.head _)) => exact a3
  | .tail _ (.tail _ (.tail _ (.head _))) => exact a4
  | .tail _ (.tail _ (.tail _ (.tail _ (.head _)))) => exact a5
theorem tnZ.own {z TI TO i1 i2 : Addr} {S1 S2 : Src} {i : Nat} {h : Heap} (st : tnZ z TI TO i1 i2 S1 S2 i h) : ∀ b ∈ [z, TI, TO, i1, i2], ∃ o, h.get? b = some o ∧ ∀ v, o.data ≠ .cell v := fun b m =>
  let ⟨a1, a2, ⟨_, _, a3⟩, a4, a5⟩ := st
  five (P := fun b => ∃ o, h.get? b = some o ∧ ∀ v, o.data ≠ .cell v) m ⟨⟨_, a1, fun _ q => nomatch q⟩, ⟨_, a2, fun _ q => nomatch q⟩, ⟨_, a3, fun _ q => nomatch q⟩, a4.live, a5.live⟩
theorem tnZ.keep {z TI TO i1 i2 : Addr} {S1 S2 : Src} {i : Nat} {h h' : Heap} (st : tnZ z TI TO i1 i2 S1 S2 i h) (k : ∀ b ∈ [z, TI, TO, i1, i2], ∀ o, h.get? b = some o → h'.get? b = some o) : tnZ z TI TO i1 i2 S1 S2 i h' := by
  have ⟨a1, a2, ⟨x, y, a3⟩, a4, a5⟩ := st
  have at_ : ∀ {c}, c ∈ [z, TI, TO, i1, i2] → ∀ o, h.get? c = some o → h'.get? c = some o := fun {c} m => k c m
  exact ⟨at_ (by simp) _ a1, at_ (by simp) _ a2, ⟨x, y, at_ (by simp) _ a3⟩, a4.at (at_ (by simp)), a5.at (at_ (by simp))⟩
/-- what an iterator over S draws, whatever else it leans on: its objects f, its state st -/
structure DrawsBy (X : Cx) (it : Addr) (S : Src) (f : List Addr) (st : List Value → Nat → Heap → Prop) (h0 : Heap) : Prop where
  run : ∀ its : List Value, Draws X.prog X.w X.A.in1 it f its.length (fun i v => its[i]? = some v) (st its)
  now : ∀ its i, ItS h0 it i S → IsS h0 S its → st its i h0
  tell : ∀ its i h, st its i h → ItS h it i S
section
variable {X : Cx} {pins : List (Addr × Obj)}
variable {σ : L2.St} {H : Hp} {s : Shared} {E : Value → Shared → Prop} {S1 S2 : Src} {z TI TO i1 i2 : Addr} {f1 f2 : List Addr} {st1 st2 : List Value → Nat → Heap → Prop} {i : Nat}
theorem zp_item {elts : List Expr} {kk : Nat} {tpos : Pos} (Z : ZipSep2 z TI TO i1 i2 f1 f2) (D : ZAp z TI TO i1 i2 S1 S2) (d1 : DrawsBy X i1 S1 f1 st1 s.heap) (d2 : DrawsBy X i2 S2 f2 st2 s.heap) (I : L2.Inv X pins σ H s) (hf : ∀ b ∈ [z, TI, TO, i1, i2], FpOk X pins H b)
    (st : tnZ z TI TO i1 i2 S1 S2 i s.heap) (go : (Izp X.K S1 S2).go i H) :
    wpAny (model X.prog X.w) X.A (pyNext (.ref z)) (fun r s1 => ∃ u, r = some u ∧
      wpAny (model X.prog X.w) X.A (letOwnedTupleGo (.Tuple elts kk tpos) (.ref z) u) (fun _ s2 => ∃ x H', L2.Inv X pins σ H' s2 ∧ RelV x u ∧ (Izp X.K S1 S2).yld i H x H' ∧ tnZ z TI TO i1 i2 S1 S2 (i + 1) s2.heap ∧ ∀ b ∈ [z, TI, TO, i1, i2], H' b = none) E s1) E s := by
  have own := st.own
  obtain ⟨isZ, isI, ⟨x0, y0, isO⟩, at1, at2⟩ := st
  obtain ⟨xs, ys, x, y, sx, sy, hx, hy⟩ := go
  obtain ⟨l1, rx, p1, _⟩ := Inv.src I sx
  obtain ⟨l2, ry, p2, _⟩ := Inv.src I sy
  obtain ⟨u, hu, ru⟩ := rx.get hx
  obtain ⟨v, hv, rv⟩ := ry.get hy
  have below : ∀ {l : List Value} {k : Nat} {v : Value}, l[k]? = some v → k < l.length := fun e => (List.getElem?_eq_some_iff.mp e).1
  refine wpAny_pyNext_zipD2_item Z (d1.run l1) (d2.run l2) isZ isI isO (d1.now l1 i at1 p1) (d2.now l2 i at2 p2) (below hu) (below hv) fun u' v' h1 tk e1 e2 z1 o1 t1 t2 new _ kept => ?_
  cases e1.symm.trans hu
  cases e2.symm.trans hv
  refine ⟨_, rfl, wpAny_letOwnedTupleGo_zip (s := { s with heap := h1, toks := tk }) z1 fun h2 z2 same => ?_⟩
  have only : ∀ b o, b ∉ [z, TI, TO, i1, i2] → s.heap.get? b = some o → h2.get? b = some o := fun b o m g => by
    simp only [List.mem_cons, List.not_mem_nil, or_false, not_or] at m
    exact (same.2 b m.1).trans (kept b o m.1 m.2.2.1 m.2.2.2.1 m.2.2.2.2 g)
  obtain ⟨J, fresh, none_⟩ := couple_laid (tk := tk) (x := x) (y := y) I hf (fun b m => let ⟨o, g, _⟩ := own b m; ⟨o, g⟩) only ((same.2 _ (Nat.ne_of_gt (Heap.lt_size isZ))).trans new) ru rv
  refine ⟨.ref s.heap.objs.size, _, J, rfl, ⟨_, x, y, rfl, fresh, rfl, fun l m => Inv.src_inj I sx m ▸ hx, fun l m => Inv.src_inj I sy m ▸ hy⟩, ⟨z2, ?_, ⟨u, v, (same.2 _ Z.TOz).trans o1⟩, ?_, ?_⟩, none_⟩
  · exact (same.2 _ Z.TIz).trans (kept _ _ Z.TIz Z.TITO Z.TIi1 Z.TIi2 isI)
  · exact (d1.tell l1 _ _ t1).at fun o g => (same.2 _ D.i1z).trans g
  · exact (d2.tell l2 _ _ t2).at fun o g => (same.2 _ D.i2z).trans g
theorem zp_done (Z : ZipSep2 z TI TO i1 i2 f1 f2) (d1 : DrawsBy X i1 S1 f1 st1 s.heap) (d2 : DrawsBy X i2 S2 f2 st2 s.heap) (I : L2.Inv X pins σ H s) (hf : ∀ b ∈ [z, TI, TO, i1, i2], FpOk X pins H b)
    (st : tnZ z TI TO i1 i2 S1 S2 i s.heap) (stop : (Izp X.K S1 S2).stop i H) : wpAny (model X.prog X.w) X.A (pyNext (.ref z)) (fun r s1 => r = none ∧ L2.Inv X pins σ H s1) E s := by
  obtain ⟨isZ, isI, ⟨x0, y0, isO⟩, at1, at2⟩ := st
  obtain ⟨xs, ys, sx, sy, le1, le2, last⟩ := stop
  obtain ⟨l1, rx, p1, _⟩ := Inv.src I sx
  obtain ⟨l2, ry, p2, _⟩ := Inv.src I sy
  have n1 := rx.length
  have n2 := ry.length
  refine wpAny_pyNext_zipD2_end Z (d1.run l1) (d2.run l2) isZ isI isO (d1.now l1 i at1 p1) (d2.now l2 i at2 p2) (n1 ▸ le1) (n2 ▸ le2) (n1 ▸ n2 ▸ last) fun h tk kept => ⟨rfl, I.turnedL (t' := tk) (fun b o m g => ?_) hf⟩
  simp only [List.mem_cons, List.not_mem_nil, or_false, not_or] at m
  exact kept b o m.1 m.2.2.1 m.2.2.2.1 m.2.2.2.2 g
end
theorem draws_by {X : Cx} {pins : List (Addr × Obj)} {σ : L2.St} {H : Hp} {s : Shared} {it : Addr} {S : Src} (I : L2.Inv X pins σ H s) (hc : X.calm = true) (ne : S.ad ≠ it) : DrawsBy X it S [it, S.ad] (fun its i h => ItS h it i S ∧ IsS h S its) s.heap :=
  ⟨draws_calm I hc ne, fun _ _ a b => ⟨a, b⟩, fun _ _ _ a => a.1⟩
theorem turn_zp {P : Program} {w : World} {K : PySem.W.Frag} {elts : List Expr} {kk : Nat} {tpos : Pos} {S1 S2 : Src} {z TI TO i1 i2 : Addr} (D : ZAp z TI TO i1 i2 S1 S2) : Turn P w K (.Tuple elts kk tpos) (Izp K S1 S2) [z, TI, TO, i1, i2] z (tnZ z TI TO i1 i2 S1 S2) where
  mem := .head _
  obj := fun i h st => st.own
  keep := fun i h h' st k => st.keep k
  item := fun X hP hw hK hc i pins s σ H E I hf st go => by
    subst hP hw hK
    exact zp_item D.sep D (draws_by I hc D.n1) (draws_by I hc D.n2) I hf st go
  done := fun X hP hw hK hc i pins s σ H E I hf st stop => by
    subst hP hw hK
    exact zp_done D.sep (draws_by I hc D.n1) (draws_by I hc D.n2) I hf st stop
  self := fun A i s Q E st q => wpAny_pyIter_zip st.1 q
def iZp (K : PySem.W.Frag) (ta : TA) : TI := fun σ H R => ta σ H fun vs H1 => ∃ S1 S2 xs ys, vs = [.ref (Src.ad S1), .ref (Src.ad S2)] ∧ SqS K H1 S1 xs ∧ SqS K H1 S2 ys ∧ R (Izp K S1 S2) H1
theorem pi_zp {X : Cx} {e e2 : Expr} {ta : TA} {p pos tpos : Pos} {elts : List Expr} {kk : Nat} (hg : Gl X "zip") (hm : X.mg "zip" = none) (ha : PA X [e, e2] ta)
    (hs : starEach [e, e2] X.env = (false, eval e X.env) :: starEach [e2] X.env) (hpl : (backTo pos (starEach [e2] X.env)).any (·.1) = false) :
    PI X (.Tuple elts kk tpos) (.Call (.Name "zip" p) [e, e2] [] pos) (iZp X.K ta) := by
  constructor
  intro pins s σ H R I h
  refine Call_ (ld_blt I hg hm PyProof.Rows.boot_zip (PyProof.Rows.callWith_type1 (thn (ha.run pos pins s σ H _ I h) ?_) hs hpl))
  rintro us s1 ⟨vs, H1, I1, r1, S1, S2, xs, ys, rfl, sx, sy, q⟩
  obtain ⟨u1, u2, rfl, ru, rv⟩ := vals2 r1
  rcases ru, rv with ⟨rfl, rfl⟩
  obtain ⟨l1, _, p1, _⟩ := Inv.src I1 sx
  obtain ⟨l2, _, p2, _⟩ := Inv.src I1 sy
  refine zip_begins2 (beginsS S1 l1) (beginsS S2 l2) p1 p2 fun h z TI TO it1 it2 _ kept => wpAny_pyIter_zip z ?_
  have new : ∀ b ∈ [s1.heap.objs.size + 4, s1.heap.objs.size + 2, s1.heap.objs.size + 3, s1.heap.objs.size, s1.heap.objs.size + 1], s1.heap.objs.size ≤ b :=
    fun b m => five (P := fun b => s1.heap.objs.size ≤ b) m ⟨Nat.le_add_right .., Nat.le_add_right .., Nat.le_add_right .., Nat.le_refl _, Nat.le_add_right ..⟩
  exact ⟨_, _, _, _, H1, rfl, I1.kept (t' := s1.toks) kept, turn_zp (zap_new p1.lt p2.lt), ⟨z, TI, ⟨_, _, TO⟩, ItS.new it1, ItS.new it2⟩, fun b m => I1.fpOk (new b m) (I1.hok.fresh (new b m)), q⟩
/-! ### a list or a tuple itself -/
def Isq (K : PySem.W.Frag) : Src → L2.It
  | .L a => Itl K a
  | .T a => Itt K a
def iSq (K : PySem.W.Frag) (tl : TE) : TI := fun σ H R => tl σ H fun x H1 => ∃ S, x = .ref (Src.ad S) ∧ (∃ xs, SqS K H1 S xs) ∧ R (Isq K S) H1
theorem pi_sq {X : Cx} {tg l : Expr} {tl : TE} (hl : PE X l tl) : PI X tg l (iSq X.K tl) := by
  constructor
  intro pins s σ H R I h
  refine thn (hl.run pins s σ H _ I h) ?_
  rintro v s1 ⟨x, H1, I1, r1, S, rfl, ⟨xs, sq⟩, q⟩
  rcases r1 with rfl
  obtain ⟨its, _, seq, _⟩ := Inv.src I1 sq
  have kept : ∀ o : Obj, Keeps s1.heap (s1.heap.push o) := fun o b u g => Heap.get?_push_of_some _ g
  have own : ∀ b ∈ [s1.heap.objs.size], FpOk X pins H1 b
    | _, .head _ => I1.fpOk (Nat.le_refl _) (I1.hok.fresh (Nat.le_refl _))
  cases S with
  | L a => exact wpAny_pyIter_list (items := its.toArray) seq ⟨_, _, _, _, H1, rfl, I1.kept (t' := s1.toks) (kept _), turn_list a _, ⟨_, Heap.get?_push_size _ rfl, rfl, rfl⟩, own, q⟩
  | T a => exact wpAny_pyIter_tuple (items := its.toArray) seq ⟨_, _, _, _, H1, rfl, I1.kept (t' := s1.toks) (kept _), turn_tuple a _, ⟨_, Heap.get?_push_size _ rfl, rfl, rfl⟩, own, q⟩
end Cor

set_option Elab.async false
set_option linter.all false
set_option maxRecDepth 100000
set_option maxHeartbeats 1200000
/-! SoundI: what is walked, targets, comprehensions. -/
namespace Cor
open PySem PySem.Spec L2
open PyProof.Rows hiding St

/-! ### an object that is being made -/
def Bs.pend (B : Bs) (p : Addr) (o : HO) : Bs := ⟨upd B.H0 p o, fun a => if a = p then none else B.G0 a, B.io⟩
section
variable {g : Gx} {B : Bs} {G G' H H' : Hp} {env : Env} {σ : St}
theorem StOk.pendIn (S : StOk g B G H env σ) {p : Addr} {o : HO} (n : H p = none) (ht : ∀ ps, o ≠ .tbl ps) : StOk g (B.pend p o) G (upd H p o) env σ := by
  have S1 := S.grow (same_upd (o := o) n) (tabs_upd S.tabs n ht)
  refine ⟨⟨S1.sub, S1.notb, fun a u h1 h2 h3 => ?_, fun a h => ?_, fun q hq => ?_, fun a h => ?_, S1.tabs⟩, S1.len, fun i s hi => ?_, S1.dis⟩
  · by_cases z : a = p
    · subst z
      have h1 : upd B.H0 a o a = some u := h1
      rw [upd_same] at h1
      cases h1
      exact upd_same
    · have h1 : upd B.H0 p o a = some u := h1
      rw [upd_ne z] at h1
      exact S1.ent a u h1 h2 h3
  · show G a = if a = p then none else B.G0 a
    by_cases z : a = p
    · rw [if_pos z, z]; exact S.gfree n
    · have h : upd B.H0 p o a ≠ none := h
      rw [upd_ne z] at h
      rw [if_neg z]
      exact S1.gent a h
  · show upd B.H0 p o q ≠ none
    by_cases z : q = p
    · rw [z, upd_same]; exact fun y => nomatch y
    · rw [upd_ne z]; exact S1.hio q hq
  · have h : upd B.H0 p o a ≠ none := h
    by_cases z : a = p
    · rw [z, upd_same]; exact fun y => nomatch y
    · rw [upd_ne z] at h; exact S1.dom a h
  · have k := S1.sl i s hi
    cases s with
    | un => trivial
    | sh d => exact k
    | ow d =>
      obtain ⟨q, e1, e2, e3, w⟩ := S.sl i _ hi
      obtain ⟨_, _, _, w'⟩ := k
      have hq : q ≠ p := fun z => by
        obtain ⟨l, vs, _, e, _⟩ := w
        rw [z, n] at e
        cases e
      exact ⟨q, e1, e2, by show upd B.H0 p o q = none; rw [upd_ne hq]; exact e3, w.mono (.refl G) (upd_ne hq)⟩
    | io d => exact k
theorem StOk.pendNot {p : Addr} {o : HO} (S : StOk g (B.pend p o) G H env σ) (hio : B.io ≠ some p) : NotOwn env σ p := by
  intro i s hi ho e
  have h := S.sl i s hi
  cases s with
  | un => cases ho
  | sh d => cases ho
  | ow d =>
    obtain ⟨q, e1, _, e3, _⟩ := h
    rw [e] at e1
    cases e1
    have e3 : upd B.H0 p o p = none := e3
    rw [upd_same] at e3
    cases e3
  | io d =>
    obtain ⟨q, e1, e2, _⟩ := h
    rw [e] at e1
    cases e1
    exact hio e2
theorem StOk.pendG {p : Addr} {o : HO} (S : StOk g (B.pend p o) G H env σ) : G p = none := by
  have h := S.gent p (by show upd B.H0 p o p ≠ none; rw [upd_same]; exact fun y => nomatch y)
  have h : G p = if p = p then none else B.G0 p := h
  rw [if_pos rfl] at h
  exact h
theorem StOk.pendH {p : Addr} {o : HO} (S : StOk g (B.pend p o) G H env σ) (hio : B.io ≠ some p) (ht : ∀ ps, o ≠ .tbl ps) : H p = some o := S.ent p o upd_same ht hio
theorem StOk.pendOut {p : Addr} {o : HO} (S : StOk g (B.pend p o) G H env σ) (hB : B.H0 p = none) (hio : ∀ q, B.io = some q → B.H0 q ≠ none) : StOk g B G H env σ := by
  have up : ∀ a, B.H0 a ≠ none → a ≠ p ∧ upd B.H0 p o a = B.H0 a := fun a h => by
    have z : a ≠ p := fun z => h (by rw [z]; exact hB)
    exact ⟨z, upd_ne z⟩
  refine ⟨⟨S.sub, S.notb, fun a u h1 h2 h3 => ?_, fun a h => ?_, hio, fun a h => ?_, S.tabs⟩, S.len, fun i s hi => ?_, S.dis⟩
  · obtain ⟨z, e⟩ := up a (by rw [h1]; exact fun y => nomatch y)
    exact S.ent a u (e.trans h1) h2 h3
  · obtain ⟨z, e⟩ := up a h
    have k : G a = if a = p then none else B.G0 a := S.gent a (by show upd B.H0 p o a ≠ none; rw [e]; exact h)
    rw [if_neg z] at k
    exact k
  · obtain ⟨z, e⟩ := up a h
    exact S.dom a (by show upd B.H0 p o a ≠ none; rw [e]; exact h)
  · have k := S.sl i s hi
    cases s with
    | un => trivial
    | sh d => exact k
    | ow d =>
      obtain ⟨q, e1, e2, e3, w⟩ := k
      have e3 : upd B.H0 p o q = none := e3
      have hq : q ≠ p := fun z => by rw [z, upd_same] at e3; cases e3
      rw [upd_ne hq] at e3
      exact ⟨q, e1, e2, e3, w⟩
    | io d => exact k
theorem tabs_put {T : List (Addr × Str)} {p : Addr} {vs0 vs : List V} (t : TabsX T H) (e4 : H p = some (.lst vs0)) : TabsX T (upd H p (.lst vs)) := by
  refine fun q hq => ?_
  obtain ⟨ps, t1, t2, t3⟩ := t q hq
  have n1 : ∀ b o, H b = some o → (∀ vs, o ≠ .lst vs) → upd H p (.lst vs) b = some o := fun b o hb hn => by
    rw [upd_ne (fun z => by rw [z, e4] at hb; cases hb; exact hn _ rfl)]
    exact hb
  refine ⟨ps, n1 _ _ t1 (fun _ z => nomatch z), t2, fun pos cv hc => ?_⟩
  obtain ⟨c, c1, c2⟩ := t3 pos cv hc
  exact ⟨c, c1, n1 _ _ c2 (fun _ z => nomatch z)⟩
theorem StOk.pendPut {p : Addr} {vs0 vs : List V} (S : StOk g (B.pend p (.lst vs0)) G H env σ) (hio : B.io ≠ some p) : StOk g (B.pend p (.lst vs)) G (upd H p (.lst vs)) env σ := by
  have hG := S.pendG
  have hH := S.pendH hio (fun ps z => nomatch z)
  have hn := S.pendNot hio
  have up : ∀ a, a ≠ p → upd B.H0 p (.lst vs) a = upd B.H0 p (.lst vs0) a := fun a z => by rw [upd_ne z, upd_ne z]
  refine ⟨⟨fun a u e => ?_, S.notb, fun a u h1 h2 h3 => ?_, fun a h => ?_, fun q hq => ?_, fun a h => ?_, tabs_put S.tabs hH⟩, S.len, fun i s hi => ?_, S.dis⟩
  · rw [upd_ne (fun z => by rw [z, hG] at e; cases e)]
    exact S.sub a u e
  · by_cases z : a = p
    · subst z
      have h1 : upd B.H0 a (.lst vs) a = some u := h1
      rw [upd_same] at h1 ⊢
      exact h1
    · rw [upd_ne z]
      exact S.ent a u ((up a z).symm.trans h1) h2 h3
  · by_cases z : a = p
    · show G a = if a = p then none else B.G0 a
      rw [if_pos z, z]; exact hG
    · exact S.gent a (fun y => h ((up a z).trans y))
  · show upd B.H0 p (.lst vs) q ≠ none
    by_cases z : q = p
    · rw [z, upd_same]; exact fun y => nomatch y
    · rw [up q z]; exact S.hio q hq
  · by_cases z : a = p
    · rw [z, upd_same]; exact fun y => nomatch y
    · rw [upd_ne z]; exact S.dom a (fun y => h ((up a z).trans y))
  · have k := S.sl i s hi
    cases s with
    | un => trivial
    | sh d => exact k
    | ow d =>
      obtain ⟨q, e1, e2, e3, w⟩ := k
      have hq : q ≠ p := fun z => hn i _ hi rfl (by rw [e1, z])
      exact ⟨q, e1, e2, (up q hq).trans e3, w.mono (.refl G) (upd_ne hq)⟩
    | io d =>
      obtain ⟨q, e1, e2, e3, w⟩ := k
      have hq : q ≠ p := fun z => hn i _ hi rfl (by rw [e1, z])
      exact ⟨q, e1, e2, e3, w.mono (.refl G) (upd_ne hq)⟩
end

/-! ### what is walked -/
structure JOk (g : Gx) (G0 : Hp) (J : L2.It) (tn : Bool) (xs : List D) : Prop where
  stop : ∀ G H, Same G0 G → Same G H → J.stop xs.length H
  go : ∀ (i : Nat) d G H, Same G0 G → Same G H → xs[i]? = some d → J.go i H
  yld : ∀ (i : Nat) d G H v H', Same G0 G → Same G H → xs[i]? = some d → J.yld i H v H' →
    (H' = H ∧ Rep g G d v) ∨ (tn = true ∧ ∃ T v1 v2 d1 d2, v = .ref T ∧ H T = none ∧ H' = upd H T (.tup [v1, v2]) ∧ d = .tup [d1, d2] ∧ Rep g G d1 v1 ∧ Rep g G d2 v2)
/-- an item as its target gets it -/
def IV (g : Gx) (G H : Hp) (tn : Bool) (d : D) (v : V) : Prop :=
  Rep g G d v ∨ (tn = true ∧ ∃ T v1 v2 d1 d2, v = .ref T ∧ H T = some (.tup [v1, v2]) ∧ d = .tup [d1, d2] ∧ Rep g G d1 v1 ∧ Rep g G d2 v2)
def It.tn : It → Bool
  | .zip _ _ => true
  | .enm _ => true
  | _ => false
def SemI (g : Gx) (cf : CF) (W : WX) (it : It) : TI := fun σ H R => ∃ B G env, StOk g B G H env σ ∧ WpR (evI cf it env) (fun r => ∀ J H' G', StOk g B G' H' r.2 σ → Same G G' → JOk g G' J it.tn r.1 → R J H') (ExW g W B σ)
theorem _root_.L2.PI.mono {X : Cx} {tg e : Expr} {t t' : TI} (h : PI X tg e t) (m : ∀ σ H Q, t' σ H Q → t σ H Q) : PI X tg e t' := ⟨fun pins s σ H Q I q => h.run pins s σ H Q I (m σ H Q q)⟩
theorem _root_.L2.PG.mono {X : Cx} {tg : Expr} {t t' : TG} (h : PG X tg t) (m : ∀ v σ H Q, t' v σ H Q → t v σ H Q) : PG X tg t' := ⟨fun pins s σ H v u Q I r q => h.run pins s σ H v u Q I r (m v σ H Q q)⟩
theorem _root_.L2.PGs.mono {X : Cx} {tg : List Expr} {t t' : TGs} (h : PGs X tg t) (m : ∀ v σ H Q, t' v σ H Q → t v σ H Q) : PGs X tg t' := ⟨fun pins s σ H v u Q I r q => h.run pins s σ H v u Q I r (m v σ H Q q)⟩
def SrcAt (G : Hp) : Src → List V → Prop
  | .L a, vs => Rd G a (.lst vs)
  | .T a, vs => TupAt G a vs
theorem SrcAt.sq {K : PySem.W.Frag} {G H : Hp} {S : Src} {vs : List V} (h : SrcAt G S vs) (s : Same G H) : SqS K H S vs := by
  cases S with
  | L a => exact .inl (Rd.mono h s)
  | T a => exact (TupAt.mono h s).sq
theorem SrcAt.mono {G G' : Hp} {S : Src} {vs : List V} (h : SrcAt G S vs) (s : Same G G') : SrcAt G' S vs := by
  cases S with
  | L a => exact Rd.mono h s
  | T a => exact TupAt.mono h s
theorem SqT.inj {K : PySem.W.Frag} {H : Hp} {a : Addr} {xs ys : List V} (h : TupAt H a xs) (h' : SqT K H a ys) : True := trivial
section
variable {X : Cx} {g : Gx} {t : Stc} {cf : CF} {k : Nat} {W : WX}
theorem Rep.src {G : Hp} {d : D} {l : List D} {v : V} (r : Rep g G d v) (e : d.walk? = some l) : ∃ S vs, v = .ref (Src.ad S) ∧ SrcAt G S vs ∧ Reps g G l vs := by
  cases d with
  | lst l' =>
    cases e
    obtain ⟨a, vs, z, h1, h2⟩ := r.lstI
    exact ⟨.L a, vs, z, h1, h2⟩
  | tup l' =>
    cases e
    obtain ⟨a, vs, z, h1, h2⟩ := r.tupI
    exact ⟨.T a, vs, z, h1, h2⟩
  | dct kvs => simp only [Rep] at r
  | non => cases e
  | bl b => cases e
  | int i => cases e
  | str x => cases e
  | fn i => cases e
end
end Cor

set_option Elab.async false
set_option linter.all false
set_option maxRecDepth 100000
set_option maxHeartbeats 1200000
/-! SoundJ: iterables. -/
namespace Cor
open PySem PySem.Spec L2
open PyProof.Rows hiding St
section
variable {X : Cx} {g : Gx} {t : Stc} {cf : CF} {k : Nat} {W : WX}
theorem jok_sq {K : PySem.W.Frag} {G : Hp} {S : Src} {l : List D} {vs : List V} (h : SrcAt G S vs) (r : Reps g G l vs) : JOk g G (Isq K S) false l := by
  have hl := r.length
  cases S with
  | L a =>
    refine ⟨fun G1 H s1 s2 => ⟨vs, h.sq (S := .L a) (s1.trans s2), by omega⟩, fun i d G1 H s1 s2 e => ?_, fun i d G1 H v H' s1 s2 e y => ?_⟩
    · obtain ⟨v, hv, _⟩ := r.get e
      exact ⟨vs, v, h.sq (S := .L a) (s1.trans s2), hv⟩
    · obtain ⟨v', hv, rv⟩ := r.get e
      obtain ⟨e1, e2⟩ := y
      have z := (e2 vs (h.sq (S := .L a) (s1.trans s2))).symm.trans hv
      cases z
      exact .inl ⟨e1, rv.mono s1⟩
  | T a =>
    refine ⟨fun G1 H s1 s2 => ⟨vs, h.sq (S := .T a) (s1.trans s2), by omega⟩, fun i d G1 H s1 s2 e => ?_, fun i d G1 H v H' s1 s2 e y => ?_⟩
    · obtain ⟨v, hv, _⟩ := r.get e
      exact ⟨vs, v, h.sq (S := .T a) (s1.trans s2), hv⟩
    · obtain ⟨v', hv, rv⟩ := r.get e
      obtain ⟨e1, e2⟩ := y
      have z := (e2 vs (h.sq (S := .T a) (s1.trans s2))).symm.trans hv
      cases z
      exact .inl ⟨e1, rv.mono s1⟩
theorem i_seq {tg e : Expr} {ce : CE} (hK : X.K = g.K) (h : PE X e (SemF g cf W ce)) : PI X tg e (SemI g cf W (.seq ce)) :=
  (pi_sq h).mono fun σ H Rk ⟨B, G, env, S, w⟩ => by
    refine ⟨B, G, env, S, ?_⟩
    have w : WpR ((ev cf ce env).bind fun (d, _, env) => (R.opt d.walk?).bind fun l => R.ok (l, env)) _ _ := w
    rw [WpR.bind] at w
    refine w.imp (fun r q v H' G' S' s' rv => ?_) fun _ _ h => h
    obtain ⟨d, fr, env'⟩ := r
    rw [WpR.bind, WpR.opt] at q
    obtain ⟨l, hl, q⟩ := q
    have rv : Rep g G' d v := rv
    obtain ⟨Sr, vs, rfl, h1, h2⟩ := rv.src hl
    exact ⟨Sr, rfl, ⟨vs, h1.sq S'.sub⟩, q _ H' G' S' s' (jok_sq h1 h2)⟩
theorem jok_rng {G : Hp} {lo : Int} {n : Nat} : JOk g G (Itr lo n) false ((List.range n).map fun k => D.int (lo + (k : Nat))) := by
  refine ⟨fun G1 H s1 s2 => ?_, fun i d G1 H s1 s2 e => ?_, fun i d G1 H v H' s1 s2 e y => ?_⟩
  · show n ≤ _
    simp
  · have := (List.getElem?_eq_some_iff.mp e).1
    show i < n
    simpa using this
  · obtain ⟨e1, e2⟩ := y
    have hi : i < n := by simpa using (List.getElem?_eq_some_iff.mp e).1
    have e3 : D.int (lo + (i : Nat)) = d := by
      rw [List.getElem?_map, List.getElem?_range hi] at e
      exact Option.some.inj e
    subst e3 e2
    exact .inl ⟨e1, .int⟩
theorem i_rng1 {tg a : Expr} {ca : CE} {p pos : Pos} (O : XOk g t cf k X W) (hg : Gl X "range") (ha : PA X [a] (SemA g cf W [ca])) (hn : notStar a = true) : PI X tg (.Call (.Name "range" p) [a] [] pos) (SemI g cf W (.rng1 ca)) :=
  (pi_range1 hg (O.wld.bl _ (by decide)) ha (star_cons hn [] X.env)).mono fun σ H Rk ⟨B, G, env, S, w⟩ => by
    refine ⟨B, G, env, S, ?_⟩
    have w : WpR ((ev cf ca env).bind fun (d, _, env) => (R.opt d.int?).bind fun i => if -1000000 ≤ i ∧ i ≤ 1000000 then R.ok ((List.range i.toNat).map fun k => D.int (k : Nat), env) else .bad) _ _ := w
    show WpR ((ev cf ca env).bind fun (d, _, env) => (R.ok ([], env)).bind fun (ds, env) => R.ok (d :: ds, env)) _ _
    rw [WpR.bind] at w ⊢
    refine w.imp (fun r q => ?_) fun _ _ h => h
    obtain ⟨d, fr, env'⟩ := r
    intro vs H' G' S' s' rv
    rw [WpR.bind, WpR.opt] at q
    obtain ⟨i, hi, q⟩ := q
    split at q
    · rename_i hb
      rw [intQ hi] at rv
      simp only [Reps, Rep] at rv
      obtain ⟨v, vs', rfl, rfl, rfl⟩ := rv
      refine ⟨i, rfl, by omega, by omega, q _ H' G' S' s' ?_⟩
      have := jok_rng (g := g) (G := G') (lo := 0) (n := i.toNat)
      show JOk g G' (Itr 0 i.toNat) false (List.map (fun k : Nat => D.int (k : Int)) (List.range i.toNat))
      simpa using this
    · exact q.elim
theorem i_rng2 {tg a b : Expr} {ca cb : CE} {p pos : Pos} (O : XOk g t cf k X W) (hg : Gl X "range") (ha : PA X [a, b] (SemA g cf W [ca, cb])) (hn : notStar a = true) (hn2 : notStar b = true) : PI X tg (.Call (.Name "range" p) [a, b] [] pos) (SemI g cf W (.rng2 ca cb)) :=
  (pi_range2 hg (O.wld.bl _ (by decide)) ha (by rw [star_cons hn, star_cons hn2]; rfl) (star_cons hn2 [] X.env)).mono fun σ H Rk ⟨B, G, env, S, w⟩ => by
    refine ⟨B, G, env, S, ?_⟩
    have w : WpR ((ev cf ca env).bind fun (d, _, env) => (R.opt d.int?).bind fun i => (ev cf cb env).bind fun (d, _, env) => (R.opt d.int?).bind fun j =>
      if -1000000 ≤ i ∧ i ≤ 1000000 ∧ -1000000 ≤ j ∧ j ≤ 1000000 then R.ok ((List.range (j - i).toNat).map fun k => D.int (i + (k : Nat)), env) else .bad) _ _ := w
    show WpR ((ev cf ca env).bind fun (d, _, env) => ((ev cf cb env).bind fun (d', _, env) => (R.ok ([], env)).bind fun (ds, env) => R.ok (d' :: ds, env)).bind fun (ds, env) => R.ok (d :: ds, env)) _ _
    rw [WpR.bind] at w ⊢
    refine w.imp (fun r q => ?_) fun _ _ h => h
    obtain ⟨d, fr, env'⟩ := r
    rw [WpR.bind, WpR.opt] at q
    obtain ⟨i, hi, q⟩ := q
    show WpR (((ev cf cb env').bind fun (d', _, env) => (R.ok ([], env)).bind fun (ds, env) => R.ok (d' :: ds, env)).bind fun (ds, env) => R.ok (d :: ds, env)) _ _
    rw [WpR.bind] at q
    rw [WpR.bind, WpR.bind]
    refine q.imp (fun r q => ?_) fun _ _ h => h
    obtain ⟨d', fr', env''⟩ := r
    rw [WpR.bind, WpR.opt] at q
    obtain ⟨j, hj, q⟩ := q
    intro vs H' G' S' s' rv
    split at q
    · rename_i hb
      rw [intQ hi, intQ hj] at rv
      simp only [Reps, Rep] at rv
      obtain ⟨v, vs', rfl, rfl, v', vs'', rfl, rfl, rfl⟩ := rv
      exact ⟨i, j, rfl, ⟨by omega, by omega, by omega, by omega⟩, q _ H' G' S' s' jok_rng⟩
    · exact q.elim
theorem jok_en {K : PySem.W.Frag} {G : Hp} {S : Src} {l : List D} {vs : List V} (h : SrcAt G S vs) (r : Reps g G l vs) : JOk g G (Ien K S) true (l.zipIdx.map fun p => D.tup [.int (p.2 : Nat), p.1]) := by
  have hl := r.length
  have key : ∀ {i : Nat} {d : D}, (l.zipIdx.map fun p => D.tup [.int (p.2 : Nat), p.1])[i]? = some d → ∃ x, l[i]? = some x ∧ d = .tup [.int (i : Nat), x] := fun {i d} e => by
    rw [List.getElem?_map, List.getElem?_zipIdx] at e
    cases q : l[i]? with
    | none => rw [q] at e; cases e
    | some x => rw [q] at e; simp at e; exact ⟨x, rfl, e.symm⟩
  refine ⟨fun G1 H s1 s2 => ⟨vs, h.sq (s1.trans s2), by simp; omega⟩, fun i d G1 H s1 s2 e => ?_, fun i d G1 H v H' s1 s2 e y => ?_⟩
  · obtain ⟨x, hx, _⟩ := key e
    obtain ⟨v, hv, _⟩ := r.get hx
    exact ⟨vs, v, h.sq (s1.trans s2), hv⟩
  · obtain ⟨x, hx, rfl⟩ := key e
    obtain ⟨v', hv, rv⟩ := r.get hx
    obtain ⟨T, x', e1, e2, e3, e4⟩ := y
    have z := (e4 vs (h.sq (s1.trans s2))).symm.trans hv
    cases z
    exact .inr ⟨rfl, T, _, _, _, _, e1, e2, e3, rfl, .int, rv.mono s1⟩
theorem i_en {a : Expr} {elts : List Expr} {kk : Nat} {tpos : Pos} {ca : CE} {p pos : Pos} (O : XOk g t cf k X W) (hg : Gl X "enumerate") (ha : PA X [a] (SemA g cf W [ca])) (hn : notStar a = true) : PI X (.Tuple elts kk tpos) (.Call (.Name "enumerate" p) [a] [] pos) (SemI g cf W (.enm ca)) :=
  (pi_en hg (O.wld.bl _ (by decide)) ha (star_cons hn [] X.env)).mono fun σ H Rk ⟨B, G, env, S, w⟩ => by
    refine ⟨B, G, env, S, ?_⟩
    have w : WpR ((ev cf ca env).bind fun (d, _, env) => (R.opt d.items?).bind fun l => R.ok (l.zipIdx.map fun p => D.tup [.int (p.2 : Nat), p.1], env)) _ _ := w
    show WpR ((ev cf ca env).bind fun (d, _, env) => (R.ok ([], env)).bind fun (ds, env) => R.ok (d :: ds, env)) _ _
    rw [WpR.bind] at w ⊢
    refine w.imp (fun r q => ?_) fun _ _ h => h
    obtain ⟨d, fr, env'⟩ := r
    intro vs H' G' S' s' rv
    rw [WpR.bind, WpR.opt] at q
    obtain ⟨l, hl, q⟩ := q
    simp only [Reps] at rv
    obtain ⟨v, vs', rfl, rv, rfl⟩ := rv
    have hl' : d.walk? = some l := by cases d <;> first | exact hl | cases hl
    obtain ⟨Sr, vs, rfl, h1, h2⟩ := rv.src hl'
    exact ⟨Sr, vs, rfl, h1.sq S'.sub, q _ H' G' S' s' (jok_en h1 h2)⟩
theorem jok_zp {K : PySem.W.Frag} {G : Hp} {S1 S2 : Src} {l l' : List D} {vs vs' : List V} (h : SrcAt G S1 vs) (h' : SrcAt G S2 vs') (r : Reps g G l vs) (r' : Reps g G l' vs') : JOk g G (Izp K S1 S2) true ((l.zip l').map fun p => D.tup [p.1, p.2]) := by
  have hl := r.length
  have hl' := r'.length
  have key : ∀ {i : Nat} {d : D}, ((l.zip l').map fun p => D.tup [p.1, p.2])[i]? = some d → ∃ x y, l[i]? = some x ∧ l'[i]? = some y ∧ d = .tup [x, y] := fun {i d} e => by
    have hi : i < (l.zip l').length := by simpa using (List.getElem?_eq_some_iff.mp e).1
    rw [List.length_zip] at hi
    have h1 : i < l.length := by omega
    have h2 : i < l'.length := by omega
    refine ⟨l[i], l'[i], List.getElem?_eq_getElem h1, List.getElem?_eq_getElem h2, ?_⟩
    rw [List.getElem?_map, List.getElem?_eq_getElem (by rw [List.length_zip]; omega)] at e
    simp [List.getElem_zip] at e
    exact e.symm
  refine ⟨fun G1 H s1 s2 => ⟨vs, vs', h.sq (s1.trans s2), h'.sq (s1.trans s2), ?_, ?_, ?_⟩, fun i d G1 H s1 s2 e => ?_, fun i d G1 H v H' s1 s2 e y => ?_⟩
  · simp [List.length_zip]; omega
  · simp [List.length_zip]; omega
  · simp [List.length_zip]; omega
  · obtain ⟨x, y, hx, hy, _⟩ := key e
    obtain ⟨v, hv, _⟩ := r.get hx
    obtain ⟨v', hv', _⟩ := r'.get hy
    exact ⟨vs, vs', v, v', h.sq (s1.trans s2), h'.sq (s1.trans s2), hv, hv'⟩
  · obtain ⟨x, y', hx, hy, rfl⟩ := key e
    obtain ⟨v1, hv, rv⟩ := r.get hx
    obtain ⟨v2, hv', rv'⟩ := r'.get hy
    obtain ⟨T, x1, y1, e1, e2, e3, e4, e5⟩ := y
    have z := (e4 vs (h.sq (s1.trans s2))).symm.trans hv
    cases z
    have z := (e5 vs' (h'.sq (s1.trans s2))).symm.trans hv'
    cases z
    exact .inr ⟨rfl, T, _, _, _, _, e1, e2, e3, rfl, rv.mono s1, rv'.mono s1⟩
theorem i_zp {a b : Expr} {elts : List Expr} {kk : Nat} {tpos : Pos} {ca cb : CE} {p pos : Pos} (O : XOk g t cf k X W) (hg : Gl X "zip") (ha : PA X [a, b] (SemA g cf W [ca, cb])) (hn : notStar a = true) (hn2 : notStar b = true) : PI X (.Tuple elts kk tpos) (.Call (.Name "zip" p) [a, b] [] pos) (SemI g cf W (.zip ca cb)) :=
  (pi_zp hg (O.wld.bl _ (by decide)) ha (star_cons hn [b] X.env) (plain_args (by simp [hn2]))).mono fun σ H Rk ⟨B, G, env, S, w⟩ => by
    refine ⟨B, G, env, S, ?_⟩
    have w : WpR ((ev cf ca env).bind fun (d, _, env) => (ev cf cb env).bind fun (d', _, env) => match d, d' with
      | .lst l, .lst l' => R.ok ((l.zip l').map fun p => D.tup [p.1, p.2], env)
      | .tup l, .tup l' => .ok ((l.zip l').map fun p => D.tup [p.1, p.2], env)
      | .tup l, .lst l' => .ok ((l.zip l').map fun p => D.tup [p.1, p.2], env)
      | .lst l, .tup l' => .ok ((l.zip l').map fun p => D.tup [p.1, p.2], env)
      | _, _ => .bad) _ _ := w
    show WpR ((ev cf ca env).bind fun (d, _, env) => ((ev cf cb env).bind fun (d', _, env) => (R.ok ([], env)).bind fun (ds, env) => R.ok (d' :: ds, env)).bind fun (ds, env) => R.ok (d :: ds, env)) _ _
    rw [WpR.bind] at w ⊢
    refine w.imp (fun r q => ?_) fun _ _ h => h
    obtain ⟨d, fr, env'⟩ := r
    show WpR (((ev cf cb env').bind fun (d', _, env) => (R.ok ([], env)).bind fun (ds, env) => R.ok (d' :: ds, env)).bind fun (ds, env) => R.ok (d :: ds, env)) _ _
    rw [WpR.bind] at q
    rw [WpR.bind, WpR.bind]
    refine q.imp (fun r q => ?_) fun _ _ h => h
    obtain ⟨d', fr', env''⟩ := r
    intro vs H' G' S' s' rv
    simp only [Reps] at rv
    obtain ⟨v, vs', rfl, rv, v', vs'', rfl, rv', rfl⟩ := rv
    obtain ⟨l, l', hl, hl', q⟩ : ∃ l l', d.walk? = some l ∧ d'.walk? = some l' ∧ ∀ J H' G', StOk g B G' H' env'' σ → Same G G' → JOk g G' J true ((l.zip l').map fun p => D.tup [p.1, p.2]) → Rk J H' := by
      dsimp only at q
      split at q
      · exact ⟨_, _, rfl, rfl, q⟩
      · exact ⟨_, _, rfl, rfl, q⟩
      · exact ⟨_, _, rfl, rfl, q⟩
      · exact ⟨_, _, rfl, rfl, q⟩
      · exact q.elim
    obtain ⟨S1, ws, rfl, h1, h2⟩ := rv.src hl
    obtain ⟨S2, ws', rfl, h1', h2'⟩ := rv'.src hl'
    exact ⟨S1, S2, ws, ws', rfl, h1.sq S'.sub, h1'.sq S'.sub, q _ H' G' S' s' (jok_zp h1 h1' h2 h2')⟩
end
end Cor

set_option Elab.async false
set_option linter.all false
set_option maxRecDepth 100000
set_option maxHeartbeats 1200000
/-! SoundK: targets, comprehensions. -/
namespace Cor
open PySem PySem.Spec L2
open PyProof.Rows hiding St
mutual
def Tg.slots : Tg → List Nat
  | .name i => [i]
  | .tup l => tslots l
def tslots : List Tg → List Nat
  | [] => []
  | t :: r => t.slots ++ tslots r
end
def Off (l : List Nat) (σ' σ : St) : Prop := σ'.length = σ.length ∧ ∀ j, j ∉ l → σ'[j]? = σ[j]?
section
variable {X : Cx} {g : Gx} {t : Stc} {cf : CF} {k : Nat} {W : WX}
def SemG (g : Gx) (tg : Tg) : TG := fun v σ H Q => ∃ B G env d env', StOk g B G H env σ ∧ Rep g G d v ∧ asgT tg d env = some env' ∧ ∀ σ', StOk g B G H env' σ' → Off tg.slots σ' σ → Q σ' H
def SemGI (g : Gx) (tn : Bool) (tg : Tg) : TG := fun v σ H Q => ∃ B G env d env', StOk g B G H env σ ∧ IV g G H tn d v ∧ asgT tg d env = some env' ∧ ∀ σ', StOk g B G H env' σ' → Off tg.slots σ' σ → Q σ' H
def SemGs (g : Gx) (tgs : List Tg) : TGs := fun vs σ H Q => ∃ B G env ds env', StOk g B G H env σ ∧ Reps g G ds vs ∧ asgTs tgs ds env = some env' ∧ ∀ σ', StOk g B G H env' σ' → Off (tslots tgs) σ' σ → Q σ' H
theorem asgSlot_eq {i : Nat} {s : Sl} {env env' : Env} (h : asgSlot i s env = some env') : env' = env.set i s ∧ ∃ s0, env[i]? = some s0 ∧ ∀ d, s0 ≠ .io d := by
  unfold asgSlot at h
  split at h
  · cases h
  · rename_i s0 n e
    cases h
    exact ⟨rfl, s0, e, fun d z => n d z⟩
  · cases h
theorem g_name {e : Expr} {i : Nat} (h : PG X e (gName i)) : PG X e (SemG g (.name i)) := h.mono fun v σ H Q ⟨B, G, env, d, env', S, r, e, q⟩ => by
  have e : asgSlot i (.sh d) env = some env' := by simpa only [asgT] using e
  obtain ⟨rfl, _⟩ := asgSlot_eq e
  exact q _ (S.setSh r) ⟨by simp, fun j hj => List.getElem?_set_ne (fun z => hj (by simp [Tg.slots, z]))⟩
theorem gs_nil : PGs X [] (SemGs g []) := pgs_nil.mono fun vs σ H Q ⟨B, G, env, ds, env', S, r, e, q⟩ => by
  cases ds with
  | cons d ds => simp only [asgTs] at e; cases e
  | nil =>
    simp only [asgTs] at e
    cases e
    simp only [Reps] at r
    exact ⟨r, q σ S ⟨rfl, fun _ _ => rfl⟩⟩
theorem gs_cons {e : Expr} {es : List Expr} {tg : Tg} {tgs : List Tg} (h : PG X e (SemG g tg)) (hs : PGs X es (SemGs g tgs)) (hm : (assignEach (e :: es) X.env).map (·.2) = assign e X.env :: (assignEach es X.env).map (·.2)) : PGs X (e :: es) (SemGs g (tg :: tgs)) :=
  (pgs_cons h hs hm).mono fun vs σ H Q ⟨B, G, env, ds, env', S, r, e, q⟩ => by
    cases ds with
    | nil => simp only [asgTs] at e; cases e
    | cons d ds =>
      simp only [asgTs, Option.bind_eq_some_iff] at e
      obtain ⟨env1, e1, e2⟩ := e
      simp only [Reps] at r
      obtain ⟨v, vs', rfl, r1, r2⟩ := r
      refine ⟨v, vs', rfl, B, G, env, d, env1, S, r1, e1, fun σ1 S1 k1 => ⟨B, G, env1, ds, env', S1, r2, e2, fun σ2 S2 k2 => q σ2 S2 ⟨k2.1.trans k1.1, fun j hj => ?_⟩⟩⟩
      simp only [tslots, List.mem_append, not_or] at hj
      exact (k2.2 j hj.2).trans (k1.2 j hj.1)
theorem asgTs_len : ∀ {tgs : List Tg} {ds : List D} {env env' : Env}, asgTs tgs ds env = some env' → ds.length = tgs.length
  | [], [], _, _, _ => rfl
  | [], _ :: _, _, _, h => by simp only [asgTs] at h; cases h
  | _ :: _, [], _, _, h => by simp only [asgTs] at h; cases h
  | _ :: tgs, _ :: ds, _, _, h => by
    simp only [asgTs, Option.bind_eq_some_iff] at h
    obtain ⟨_, _, h⟩ := h
    simp [asgTs_len h]
theorem g_tupI {es : List Expr} {kk : Nat} {pos : Pos} {tgs : List Tg} {tn : Bool} (hc : X.calm = true) (h : PGs X es (SemGs g tgs)) (hn : (assignEach es X.env).length = tgs.length) (hst : (assignEach es X.env).findIdx? (·.1) = none) :
    PG X (.Tuple es kk pos) (SemGI g tn (.tup tgs)) := (pg_tup hc h hn hst).mono fun v σ H Q ⟨B, G, env, d, env', S, r, e, q⟩ => by
  simp only [asgT] at e
  split at e
  · rename_i ds
    have hl := asgTs_len e
    rcases r with r | ⟨_, T, v1, v2, d1, d2, rfl, hT, z, r1, r2⟩
    · obtain ⟨a, vs, rfl, h1, h2⟩ := r.tupI
      exact ⟨a, vs, rfl, (h1.mono S.sub).sq, by rw [h2.length, hl], B, G, env, ds, env', S, h2, e, fun σ' S' k' => q σ' S' (by simpa only [Tg.slots] using k')⟩
    · cases z
      have r2 := Reps.cons r1 (Reps.cons r2 .nil)
      exact ⟨T, _, rfl, .inl (.inl hT), by rw [r2.length, hl], B, G, env, _, env', S, r2, e, fun σ' S' k' => q σ' S' (by simpa only [Tg.slots] using k')⟩
  · cases e
theorem g_tup {es : List Expr} {kk : Nat} {pos : Pos} {tgs : List Tg} (hc : X.calm = true) (h : PGs X es (SemGs g tgs)) (hn : (assignEach es X.env).length = tgs.length) (hst : (assignEach es X.env).findIdx? (·.1) = none) :
    PG X (.Tuple es kk pos) (SemG g (.tup tgs)) := (g_tupI (tn := false) hc h hn hst).mono fun v σ H Q ⟨B, G, env, d, env', S, r, e, q⟩ => ⟨B, G, env, d, env', S, .inl r, e, q⟩
theorem g_nameI {e : Expr} {tg : Tg} (h : PG X e (SemG g tg)) : PG X e (SemGI g false tg) := h.mono fun v σ H Q ⟨B, G, env, d, env', S, r, e, q⟩ =>
  ⟨B, G, env, d, env', S, r.elim id (fun z => nomatch z.1), e, q⟩
/-- a clause's tests -/
def SemTs (g : Gx) (cf : CF) (W : WX) (ces : List CE) : TT := fun σ H Q => ∃ B G env, StOk g B G H env σ ∧ WpR (evTs cf ces env) (fun r => ∀ H' G', StOk g B G' H' r.2 σ → Same G G' → Q r.1 H') (ExW g W B σ)
theorem _root_.L2.PTs.mono {X : Cx} {e : List Expr} {t t' : TT} (h : PTs X e t) (m : ∀ σ H Q, t' σ H Q → t σ H Q) : PTs X e t' := ⟨fun pins s σ H Q I q => h.run pins s σ H Q I (m σ H Q q)⟩
theorem ts_nil : PTs X [] (SemTs g cf W []) := pts_nil.mono fun σ H Q ⟨B, G, env, S, w⟩ => w H G S (.refl G)
theorem ts_one {c : Expr} {ce : CE} (h : PT X c (SemT g cf W ce)) : PTs X [c] (SemTs g cf W [ce]) := (pts_one h).mono fun σ H Q ⟨B, G, env, S, w⟩ => by
  refine ⟨B, G, env, S, ?_⟩
  have w : WpR ((ev cf ce env).bind fun (d, _, env) => (R.opt d.truth).bind fun k => if k then R.ok (true, env) else .ok (false, env)) _ _ := w
  rw [WpR.bind] at w
  refine w.imp (fun r q => ?_) fun _ _ h => h
  obtain ⟨d, fr, env'⟩ := r
  rw [WpR.bind, WpR.opt] at q
  obtain ⟨k, hk, q⟩ := q
  refine ⟨k, hk, fun H' G' S' s' => ?_⟩
  cases k with
  | true => exact q H' G' S' s'
  | false => exact q H' G' S' s'

/-! ### comprehensions -/
theorem wipe_get {env : Env} {j : Nat} : ∀ {vs : List Nat}, j ∉ vs → (wipe env vs)[j]? = env[j]?
  | [], _ => rfl
  | v :: vs, h => by
    simp only [List.mem_cons, not_or] at h
    unfold wipe
    rw [List.getElem?_set_ne (fun z => h.1 z.symm)]
    exact wipe_get h.2
theorem wipe_len {env : Env} : ∀ {vs : List Nat}, (wipe env vs).length = env.length
  | [] => rfl
  | v :: vs => by unfold wipe; rw [List.length_set]; exact wipe_len
theorem wipe_in {env : Env} {j : Nat} {s : Sl} : ∀ {vs : List Nat}, j ∈ vs → (wipe env vs)[j]? = some s → s = .un
  | [], h, _ => by cases h
  | v :: vs, h, e => by
    unfold wipe at e
    by_cases z : v = j
    · subst z
      have hv : v < (wipe env vs).length := by simpa using (List.getElem?_eq_some_iff.mp e).1
      rw [List.getElem?_set_self hv] at e
      cases e
      rfl
    · rw [List.getElem?_set_ne z] at e
      exact wipe_in ((List.mem_cons.mp h).resolve_left fun y => z y.symm) e
theorem unwipe_get {env0 env : Env} {j : Nat} : ∀ {vs : List Nat}, j ∉ vs → (unwipe env0 env vs)[j]? = env[j]?
  | [], _ => rfl
  | v :: vs, h => by
    simp only [List.mem_cons, not_or] at h
    unfold unwipe
    rw [List.getElem?_set_ne (fun z => h.1 z.symm)]
    exact unwipe_get h.2
theorem unwipe_len {env0 env : Env} : ∀ {vs : List Nat}, (unwipe env0 env vs).length = env.length
  | [] => rfl
  | v :: vs => by unfold unwipe; rw [List.length_set]; exact unwipe_len
theorem unwipe_in {env0 env : Env} {j : Nat} {s : Sl} : ∀ {vs : List Nat}, j ∈ vs → (unwipe env0 env vs)[j]? = some s → s = .un ∨ ∃ d, s = .sh d ∧ env0[j]? = some (.sh d)
  | [], h, _ => by cases h
  | v :: vs, h, e => by
    unfold unwipe at e
    by_cases z : v = j
    · subst z
      have hv : v < (unwipe env0 env vs).length := by simpa using (List.getElem?_eq_some_iff.mp e).1
      rw [List.getElem?_set_self hv] at e
      cases q : env0[v]? with
      | none => rw [q] at e; cases e; exact .inl rfl
      | some s0 =>
        rw [q] at e
        cases s0 with
        | sh d => cases e; exact .inr ⟨d, rfl, rfl⟩
        | un => cases e; exact .inl rfl
        | ow d => cases e; exact .inl rfl
        | io d => cases e; exact .inl rfl
    · rw [List.getElem?_set_ne z] at e
      exact unwipe_in ((List.mem_cons.mp h).resolve_left fun y => z y.symm) e
/-- names forgotten (other names may have changed places meanwhile) -/
theorem StOk.resl {B : Bs} {G H : Hp} {env env' : Env} {σ σ' : St} (S : StOk g B G H env σ) (hl : env'.length = σ'.length) (h : ∀ (j : Nat) s, env'[j]? = some s → (env[j]? = some s ∧ σ'[j]? = σ[j]?) ∨ s = .un ∨ ∃ d v, s = .sh d ∧ σ'[j]? = some (some v) ∧ Rep g G d v) : StOk g B G H env' σ' := by
  refine ⟨S.toStB, hl, fun i s hi => ?_, fun i j s t p hi hj ho ht e1 e2 => ?_⟩
  · rcases h i s hi with ⟨z, q⟩ | z | ⟨d, v, z, e, r⟩
    · rw [q]; exact S.sl i s z
    · rw [z]; trivial
    · rw [z]; exact ⟨v, e, r⟩
  · rcases h i s hi with ⟨z, q⟩ | z | ⟨d, v, z, e, r⟩
    · rcases h j t hj with ⟨z', q'⟩ | z' | ⟨d, v, z', e, r⟩
      · exact S.dis i j s t p z z' ho ht (q ▸ e1) (q' ▸ e2)
      · rw [z'] at ht; cases ht
      · rw [z'] at ht; cases ht
    · rw [z] at ho; cases ho
    · rw [z] at ho; cases ho
theorem StOk.wipeS {B : Bs} {G H : Hp} {env : Env} {σ : St} (S : StOk g B G H env σ) (own : List Nat) : StOk g B G H (wipe env own) (L2.wipe σ own) :=
  S.resl (by rw [wipe_len, wipe_length]; exact S.len) fun j s e => by
    by_cases h : j ∈ own
    · exact .inr (.inl (wipe_in h e))
    · rw [wipe_get h] at e
      exact .inl ⟨e, wipe_out h⟩
theorem StOk.unwipeS {B B' : Bs} {G0 G H H0 : Hp} {env0 env : Env} {σ σ2 : St} (S0 : StOk g B' G0 H0 env0 σ) (S : StOk g B G H env σ2) (s : Same G0 G) {own : List Nat} (hl : σ2.length = σ.length) (hk : ∀ j, j ∉ own → σ2[j]? = σ[j]?) : StOk g B G H (unwipe env0 env own) σ :=
  S.resl (by rw [unwipe_len, S.len, hl]) fun j s e => by
    by_cases h : j ∈ own
    · rcases unwipe_in h e with z | ⟨d, z, q⟩
      · exact .inr (.inl z)
      · obtain ⟨v, e1, r⟩ := S0.sl j _ q
        exact .inr (.inr ⟨d, v, z, e1, Rep.mono ‹Same G0 G› r⟩)
    · rw [unwipe_get h] at e
      exact .inl ⟨e, (hk j h).symm⟩
end
end Cor

set_option Elab.async false
set_option linter.all false
set_option maxRecDepth 100000
set_option maxHeartbeats 1200000
/-! SoundL: comprehensions. -/
namespace Cor
open PySem PySem.Spec L2
open PyProof.Rows hiding St
section
variable {X : Cx} {g : Gx} {t : Stc} {cf : CF} {k : Nat} {W : WX}
def WF : WX := fun _ _ _ _ => False
theorem WpR.noex {α : Type} {x : R α} {P : α → Prop} {E E' : Exc → Env → Prop} (h : WpR x.noex P E) : WpR x P E' := by
  cases x with
  | ok a => exact h
  | ex x e => exact h.elim
  | bad => exact h
theorem wipe_eq {σ σ2 : St} {vs : List Nat} (h : Off vs σ2 (L2.wipe σ vs)) : L2.wipe σ2 vs = L2.wipe σ vs := by
  refine List.ext_getElem? fun j => ?_
  by_cases hj : j ∈ vs
  · have no : ∀ τ : St, ∀ {vs : List Nat}, j ∈ vs → ∀ x, (L2.wipe τ vs)[j]? = some x → x = none := by
      intro τ vs
      induction vs with
      | nil => intro h; cases h
      | cons v vs ih =>
        intro h x e
        unfold L2.wipe at e
        by_cases z : v = j
        · subst z
          have hv : v < (L2.wipe τ vs).length := by simpa using (List.getElem?_eq_some_iff.mp e).1
          rw [List.getElem?_set_self hv] at e
          cases e
          rfl
        · rw [List.getElem?_set_ne z] at e
          exact ih ((List.mem_cons.mp h).resolve_left fun y => z y.symm) x e
    have l1 : (L2.wipe σ2 vs).length = (L2.wipe σ vs).length := by rw [wipe_length, h.1]
    by_cases hl : j < (L2.wipe σ vs).length
    · have e1 : (L2.wipe σ2 vs)[j]? = some (L2.wipe σ2 vs)[j] := List.getElem?_eq_getElem (by omega)
      have e2 : (L2.wipe σ vs)[j]? = some (L2.wipe σ vs)[j] := List.getElem?_eq_getElem hl
      rw [e1, e2, no σ2 hj _ e1, no σ hj _ e2]
    · rw [List.getElem?_eq_none (by omega), List.getElem?_eq_none (by omega)]
  · rw [wipe_out hj, h.2 j hj]
theorem lc_read {elt : CE} {tg : Tg} {it : It} {ifs : List CE} {own : List Nat} (hsl : ∀ j ∈ tg.slots, j ∈ own) {σ : St} {H : Hp} {Q : VK} (h : SemE g cf W (.comp elt tg it ifs own) σ H Q) :
    tLc (SemI g cf W it) (SemGI g it.tn tg) (SemTs g cf WF ifs) (SemF g cf WF elt) own σ H Q := by
  obtain ⟨B, G, env, S, w⟩ := h
  refine ⟨B, G, env, S, ?_⟩
  have w : WpR ((evI cf it env).bind fun (xs, env) => (compL (asgT tg) (evTs cf ifs) (ev cf elt) own xs env []).bind fun (ds, env) => R.ok (D.lst ds, true, env)) _ _ := w
  rw [WpR.bind] at w
  refine w.imp (fun r q J H1 G1 S1 s1 jok D n => ?_) fun _ _ h => h
  obtain ⟨xs, env1⟩ := r
  rw [WpR.bind] at q
  have hB : B.H0 D = none := S1.bfree n
  have hio : B.io ≠ some D := fun z => S1.hio D z hB
  have nt : ∀ (vs : List V) ps, HO.lst vs ≠ .tbl ps := fun vs ps z => nomatch z
  refine ⟨fun i m Hh => m = xs.length - i ∧ i ≤ xs.length ∧ ∃ G2 env2 acc accv, StOk g (B.pend D (.lst accv)) G2 Hh env2 σ ∧ Same G1 G2 ∧ Reps g G2 acc accv ∧ acc.length ≤ szL ∧
    WpR (compL (asgT tg) (evTs cf ifs) (ev cf elt) own (xs.drop i) env2 acc) (fun r => Out g B G r.2 σ true (.lst r.1) Q) (ExW g W B σ),
    ⟨xs.length, by simp, Nat.zero_le _, G1, env1, [], [], S1.pendIn n (nt []), .refl G1, .nil, Nat.zero_le _, q⟩, ?_⟩
  rintro i m Hh ⟨rfl, hi, G2, env2, acc, accv, S2, s2, ra, hz, q⟩
  by_cases hlt : i < xs.length
  · right
    have hd : xs[i]? = some xs[i] := List.getElem?_eq_getElem hlt
    rw [List.drop_eq_getElem_cons hlt] at q
    unfold compL at q
    rw [WpR.bind, WpR.opt] at q
    obtain ⟨env3, e3, q⟩ := q
    rw [WpR.bind] at q
    refine ⟨jok.go i _ G2 Hh s2 S2.sub hd, fun H' => ∃ G2 env2 acc accv, StOk g (B.pend D (.lst accv)) G2 H' env2 σ ∧ Same G1 G2 ∧ Reps g G2 acc accv ∧ acc.length ≤ szL ∧
      WpR (compL (asgT tg) (evTs cf ifs) (ev cf elt) own (xs.drop (i + 1)) env2 acc) (fun r => Out g B G r.2 σ true (.lst r.1) Q) (ExW g W B σ), fun H' h => ⟨xs.length - (i + 1), by omega, rfl, hlt, h⟩, fun v H3 y => ?_⟩
    obtain ⟨S3, iv⟩ : StOk g (B.pend D (.lst accv)) G2 H3 env2 σ ∧ IV g G2 H3 it.tn xs[i] v := by
      rcases jok.yld i _ G2 Hh v H3 s2 S2.sub hd y with ⟨rfl, r⟩ | ⟨ht, T, v1, v2, d1, d2, ev, nT, rfl, ed, r1, r2⟩
      · exact ⟨S2, .inl r⟩
      · exact ⟨S2.grow (same_upd nT) (tabs_upd S2.tabs nT fun _ z => nomatch z), .inr ⟨ht, T, v1, v2, d1, d2, ev, upd_same, ed, r1, r2⟩⟩
    refine ⟨_, G2, wipe env2 own, xs[i], env3, S3.wipeS own, iv, e3, fun σ2 S4 k4 => ?_⟩
    have k4' : Off own σ2 (L2.wipe σ own) := ⟨k4.1, fun j hj => k4.2 j fun z => hj (hsl j z)⟩
    have k5 : Off own σ2 σ := ⟨k4'.1.trans (wipe_length ..), fun j hj => (k4'.2 j hj).trans (wipe_out hj)⟩
    refine ⟨wipe_eq k4', _, G2, env3, S4, (WpR.noex (E' := fun _ _ => False) q).imp (fun r q H4 G4 S5 s5 => ?_) fun _ _ z => z.elim⟩
    obtain ⟨b, env4⟩ := r
    cases b with
    | false =>
      rw [if_neg Bool.false_ne_true]
      dsimp only at q
      rw [if_neg Bool.false_ne_true] at q
      exact ⟨G4, _, acc, accv, S2.unwipeS S5 s5 k5.1 k5.2, s2.trans s5, ra.mono s5, hz, q⟩
    | true =>
      rw [if_pos rfl]
      dsimp only at q
      rw [if_pos rfl, WpR.bind] at q
      refine ⟨_, G4, env4, S5, (WpR.noex (E' := fun _ _ => False) q).imp (fun r q y H5 G5 S6 s6 ry => ?_) fun _ _ z => z.elim⟩
      obtain ⟨d, fr, env5⟩ := r
      dsimp only at q S6 ry
      have ry : Rep g G5 d y := ry
      split at q
      · rename_i hz2
        have ra' : Reps g G5 (acc ++ [d]) (accv ++ [y]) := (ra.mono (s5.trans s6)).append (.cons ry .nil)
        exact ⟨accv, S6.pendH hio (nt accv), by rw [ra.length, ← szL_eq]; exact hz2, G5, _, _, _, (S2.unwipeS S6 (s5.trans s6) k5.1 k5.2).pendPut hio, (s2.trans s5).trans s6, ra', by simp; omega, q⟩
      · exact q.elim
  · left
    have e : i = xs.length := by omega
    subst e
    rw [List.drop_length] at q
    unfold compL at q
    have q : Out g B G env2 σ true (.lst acc) Q := q
    exact ⟨jok.stop G2 Hh s2 S2.sub, q _ Hh G2 (S2.pendOut hB S1.hio) (s1.trans s2) ⟨D, rfl, S2.pendG, hB, ⟨acc, accv, rfl, S2.pendH hio (nt accv), ra⟩, S2.pendNot hio⟩⟩
theorem s_comp {elt tg iter : Expr} {ifs : List Expr} {scope : Scope} {own : List (Str × Nat)} {pos : Pos} {ce : CE} {ctg : Tg} {it : It} {cifs : List CE} (O : XOk g t cf k X W) (hi : PI X tg iter (SemI g cf W it)) (ok : BlkOk X.N X.env.scope scope own)
    (hsl : ∀ j ∈ ctg.slots, j ∈ own.map (·.2))
    (hg : ∀ (s : Shared) (H : Hp) (C : Addr) (cl : List (Str × Addr)) (fp : List Addr), PG (X.blk s H scope (compEnvC scope cl C X.env) fp) tg (SemGI g it.tn ctg))
    (ht : ∀ (s : Shared) (H : Hp) (C : Addr) (cl : List (Str × Addr)) (fp : List Addr), PTs (X.blk s H scope (compEnvC scope cl C X.env) fp) ifs (SemTs g cf WF cifs))
    (he : ∀ (s : Shared) (H : Hp) (C : Addr) (cl : List (Str × Addr)) (fp : List Addr), PE (X.blk s H scope (compEnvC scope cl C X.env) fp) elt (SemF g cf WF ce)) (hs : ∀ x, foldedSetIterable iter X.env x = pure x) :
    PE X (.ListComp elt [⟨tg, iter, ifs, 0⟩] scope pos) (SemE g cf W (.comp ce ctg it cifs (own.map (·.2)))) :=
  (pe_lc O.calm O.nd hi ok hg ht he hs).mono fun σ H Q h => lc_read hsl h
theorem XOk.blk (O : XOk g t cf k X W) (s : Shared) (H : Hp) (scope : Scope) (cenv : PySem.Env) (fp : List Addr) : XOk g t.noLam cf k (X.blk s H scope cenv fp) WF :=
  ⟨O.calm, O.nd, O.hK, O.room, fun u s' ⟨a, B, sI, pins, σ, H, cls, d, e, I, nb, up, sky, na, os, ag, w⟩ => w.elim, O.wld.noLam, fun z => (nomatch z)⟩
end
end Cor

set_option Elab.async false
set_option linter.all false
set_option maxRecDepth 100000
set_option maxHeartbeats 1200000
/-! SoundS: statements. -/
namespace Cor
open PySem PySem.Spec L2
open PyProof.Rows hiding St
section
variable {X : Cx} {g : Gx} {t : Stc} {cf : CF} {k : Nat} {W : WX} {N : Nat}
def NxW (g : Gx) (B : Bs) (G : Hp) (Z : Ends) (env' : Env) : Prop := ∀ σ' H' G', StOk g B G' H' env' σ' → Same G G' → Z.nx σ' H'
def RtW (g : Gx) (B : Bs) (G : Hp) (Z : Ends) (d : D) (fr : Bool) (env' : Env) : Prop := ∀ v σ' H' G', StOk g B G' H' env' σ' → Same G G' → ResR g B.H0 G' H' fr d v → Z.rt v H'
def ExS (g : Gx) (W : WX) (B : Bs) (x : Exc) (env' : Env) : Prop := ∀ σ' H' G' c dd, StOk g B G' H' env' σ' → ExV g x c dd H' → W c dd σ' H'
def SemS (g : Gx) (cf : CF) (N : Nat) (W : WX) (cs : CS) : TS := fun Z σ H => ∃ B G env, StOk g B G H env σ ∧ WpF (ex cf N cs env) (NxW g B G Z) (RtW g B G Z) (ExS g W B)
def SemSs (g : Gx) (cf : CF) (N : Nat) (W : WX) (cs : List CS) : TS := fun Z σ H => ∃ B G env, StOk g B G H env σ ∧ WpF (exs cf N cs env) (NxW g B G Z) (RtW g B G Z) (ExS g W B)
theorem _root_.L2.PS.mono {st : Stmt} {t t' : TS} (h : PS X st t) (m : ∀ Z σ H, t' Z σ H → t Z σ H) : PS X st t' := ⟨fun pins s σ H Z I q => h.run pins s σ H Z I (m Z σ H q)⟩
theorem _root_.L2.PSs.mono {st : List Stmt} {t t' : TS} (h : PSs X st t) (m : ∀ Z σ H, t' Z σ H → t Z σ H) : PSs X st t' := ⟨fun pins s σ H Z I q => h.run pins s σ H Z I (m Z σ H q)⟩
theorem ExS.w {B : Bs} {σ : St} {x : Exc} {env : Env} (h : ExS g W B x env) : ExW g W B σ x env := fun H' G' c dd S e => h σ H' G' c dd S e
theorem ss_nil : PSs X [] (SemSs g cf N W []) := pss_nil.mono fun Z σ H ⟨B, G, env, S, w⟩ => by
  have w : NxW g B G Z env := w
  exact w σ H G S (.refl G)
theorem ss_cons {s : Stmt} {r : List Stmt} {c : CS} {cs : List CS} (h : PS X s (SemS g cf N W c)) (hs : PSs X r (SemSs g cf N W cs)) : PSs X (s :: r) (SemSs g cf N W (c :: cs)) :=
  (pss_cons h hs).mono fun Z σ H ⟨B, G, env, S, w⟩ => by
    have w : WpF ((ex cf N c env).sq fun env => exs cf N cs env) (NxW g B G Z) (RtW g B G Z) (ExS g W B) := w
    rw [WpF.sq] at w
    exact ⟨B, G, env, S, w.imp (fun env1 q σ1 H1 G1 S1 s1 => ⟨B, G1, env1, S1, q.imp (fun e q σ2 H2 G2 S2 s2 => q σ2 H2 G2 S2 (s1.trans s2)) (fun d fr e q v σ2 H2 G2 S2 s2 => q v σ2 H2 G2 S2 (s1.trans s2)) fun _ _ q => q⟩) (fun _ _ _ q => q) fun _ _ q => q⟩

/-! ### small statements -/
theorem s_exp {e : Expr} {ce : CE} {pos : Pos} (h : PE X e (SemE g cf W ce)) (hs : swapsWith e none pos.line X.env = pure false) : PS X (.Expr e pos) (SemS g cf N W (.exp ce)) :=
  (ps_expr h hs).mono fun Z σ H ⟨B, G, env, S, w⟩ => by
    have w : WpF ((ev cf ce env).st fun (_, _, env) => F.nx env) (NxW g B G Z) (RtW g B G Z) (ExS g W B) := w
    rw [WpF.st] at w
    exact ⟨B, G, env, S, w.imp (fun r q v H1 G1 S1 s1 _ => q σ H1 G1 S1 s1) fun _ _ q => q.w⟩
theorem s_retN {pos : Pos} : PS X (.Return none pos) (SemS g cf N W .retN) := ps_retN.mono fun Z σ H ⟨B, G, env, S, w⟩ => by
  have w : RtW g B G Z .non false env := w
  exact w .non σ H G S (.refl G) (Rep.non (g := g) (G := G))
theorem s_retV {e : Expr} {i : Nat} {pos : Pos} (h : PE X e (tVar i)) : PS X (.Return (some e) pos) (SemS g cf N W (.ret (.var i))) := (ps_ret h).mono fun Z σ H ⟨B, G, env, S, w⟩ => by
  have w : WpF (match env[i]? with
    | some (.ow d) => F.rt d true env
    | some (.sh d) => .rt d false env
    | _ => .bad) (NxW g B G Z) (RtW g B G Z) (ExS g W B) := w
  split at w
  · rename_i d hd
    obtain ⟨p, e1, e2, e3, w'⟩ := S.sl i _ hd
    exact ⟨_, e1, w _ σ H G S (.refl G) ⟨p, rfl, e3, e2, w'⟩⟩
  · rename_i d hd
    obtain ⟨v, e1, r⟩ := S.sl i _ hd
    exact ⟨v, e1, w v σ H G S (.refl G) r⟩
  · exact w.elim
theorem VRep.res {B : Bs} {G H : Hp} {env : Env} {σ : St} {fr : Bool} {d : D} {v : V} (h : VRep g B G H env σ fr d v) : ResR g B.H0 G H fr d v := by
  cases fr with
  | false => exact h
  | true => obtain ⟨p, e, h1, h2, h3, _⟩ := h; exact ⟨p, e, h2, h1, h3⟩
theorem s_ret {e : Expr} {ce : CE} {pos : Pos} (h : PE X e (SemE g cf W ce)) (n : ∀ i, ce ≠ .var i) : PS X (.Return (some e) pos) (SemS g cf N W (.ret ce)) := (ps_ret h).mono fun Z σ H ⟨B, G, env, S, w⟩ => by
  have hr : retE ce (ev cf ce) env = (ev cf ce env).st fun (d, fr, env) => .rt d fr env := by
    cases ce <;> first | rfl | exact absurd rfl (n _)
  have w : WpF (retE ce (ev cf ce) env) (NxW g B G Z) (RtW g B G Z) (ExS g W B) := w
  rw [hr, WpF.st] at w
  exact ⟨B, G, env, S, w.imp (fun r q v H1 G1 S1 s1 rv => q v σ H1 G1 S1 s1 rv.res) fun _ _ q => q.w⟩
theorem s_if {c : Expr} {a b : List Stmt} {cc : CE} {ca cb : List CS} {pos : Pos} (hc : PT X c (SemT g cf W cc)) (ha : PSs X a (SemSs g cf N W ca)) (hb : PSs X b (SemSs g cf N W cb)) : PS X (.If c a b pos) (SemS g cf N W (.ite cc ca cb)) :=
  (ps_if hc ha hb).mono fun Z σ H ⟨B, G, env, S, w⟩ => by
    have w : WpF ((ev cf cc env).st fun (x, _, env) => (R.opt x.truth).st fun k => if k then exs cf N ca env else exs cf N cb env) (NxW g B G Z) (RtW g B G Z) (ExS g W B) := w
    rw [WpF.st] at w
    refine ⟨B, G, env, S, w.imp (fun r q => ?_) fun _ _ q => q.w⟩
    obtain ⟨d, fr, env1⟩ := r
    rw [WpF.st, WpR.opt] at q
    obtain ⟨k, hk, q⟩ := q
    refine ⟨k, hk, fun H1 G1 S1 s1 => ?_⟩
    cases k with
    | true =>
      rw [if_pos rfl] at q ⊢
      exact ⟨B, G1, env1, S1, q.imp (fun e q σ2 H2 G2 S2 s2 => q σ2 H2 G2 S2 (s1.trans s2)) (fun d fr e q v σ2 H2 G2 S2 s2 => q v σ2 H2 G2 S2 (s1.trans s2)) fun _ _ q => q⟩
    | false =>
      rw [if_neg Bool.false_ne_true] at q ⊢
      exact ⟨B, G1, env1, S1, q.imp (fun e q σ2 H2 G2 S2 s2 => q σ2 H2 G2 S2 (s1.trans s2)) (fun d fr e q v σ2 H2 G2 S2 s2 => q v σ2 H2 G2 S2 (s1.trans s2)) fun _ _ q => q⟩
/-! ### stores -/
theorem set_v {B : Bs} {G H : Hp} {env env' : Env} {σ : St} {i : Nat} {fr : Bool} {d : D} {v : V} (S : StOk g B G H env σ) (r : VRep g B G H env σ fr d v) (e : asgSlot i (if fr then .ow d else .sh d) env = some env') : StOk g B G H env' (σ.set i (some v)) := by
  obtain ⟨rfl, _⟩ := asgSlot_eq e
  cases fr with
  | false => exact S.setSh r
  | true => obtain ⟨p, rfl, h1, h2, h3, h4⟩ := r; exact S.setOw h1 h2 h3 h4
theorem asgN_read {ce : CE} {i : Nat} {Z : Ends} {σ : St} {H : Hp} (h : SemS g cf N W (.asg (.name i) ce) Z σ H) : tAsg (SemE g cf W ce) (gName i) Z σ H := by
  obtain ⟨B, G, env, S, w⟩ := h
  have w : WpF ((ev cf ce env).st fun (d, fr, env) => F.opt (asgSlot i (if fr then .ow d else .sh d) env)) (NxW g B G Z) (RtW g B G Z) (ExS g W B) := w
  rw [WpF.st] at w
  refine ⟨B, G, env, S, w.imp (fun r q v H1 G1 S1 s1 rv => ?_) fun _ _ q => q.w⟩
  rw [WpF.opt] at q
  obtain ⟨e, he, q⟩ := q
  exact q _ H1 G1 (set_v S1 rv he) s1
theorem s_asgN {i : Nat} {x : Str} {e : Expr} {ce : CE} {pos pos' : Pos} (O : XOk g t cf k X W) (hi : X.N[i]? = some x) (hx : Loc X.env.scope x) (he : PE X e (SemE g cf W ce)) (hs : swapsWith e (some (.Name x pos')) pos.line X.env = pure false) (hf : X.fn x = true ∨ X.env.scope.names.lookup x = some .local) :
    PS X (.Assign [.Name x pos'] e pos) (SemS g cf N W (.asg (.name i) ce)) := (ps_set O.nd hi hx he hs hf).mono fun Z σ H h => asgN_read h
theorem s_asgT {tg e : Expr} {ce : CE} {tgs : List Tg} {pos : Pos} (he : PE X e (SemF g cf W ce)) (hg : PG X tg (SemG g (.tup tgs))) (hs : swapsWithSole [tg] e pos.line X.env = pure false) (hw : swappedStores [tg] e X.env = pure none) (h1 : (assignEach [tg] X.env).map (·.2) = [assign tg X.env]) :
    PS X (.Assign [tg] e pos) (SemS g cf N W (.asg (.tup tgs) ce)) := (ps_asg he hg hs hw h1).mono fun Z σ H ⟨B, G, env, S, w⟩ => by
  have w : WpF ((ev cf ce env).st fun (d, fr, env) => F.opt (asgT (.tup tgs) d env)) (NxW g B G Z) (RtW g B G Z) (ExS g W B) := w
  rw [WpF.st] at w
  refine ⟨B, G, env, S, w.imp (fun r q v H1 G1 S1 s1 rv => ?_) fun _ _ q => q.w⟩
  rw [WpF.opt] at q
  obtain ⟨e, he, q⟩ := q
  exact ⟨B, G1, r.2.2, r.1, e, S1, rv, he, fun σ' S' _ => q σ' H1 G1 S' s1⟩
theorem s_setLc {i : Nat} {y : Str} {py : Pos} {elt tg iter : Expr} {ifs : List Expr} {scope : Scope} {own : List (Str × Nat)} {pos spos : Pos} {ce : CE} {ctg : Tg} {it : It} {cifs : List CE} (O : XOk g t cf k X W) (hy : X.N[i]? = some y) (hyl : X.env.scope.names.lookup y = some .local)
    (hsw : swapsWith (.ListComp elt [⟨tg, iter, ifs, 0⟩] scope pos) (some (.Name y py)) spos.line X.env = pure true) (hi : PI X tg iter (SemI g cf W it)) (ok : BlkOk X.N X.env.scope scope own)
    (hsl : ∀ j ∈ ctg.slots, j ∈ own.map (·.2))
    (hg : ∀ (s : Shared) (H : Hp) (C : Addr) (cl : List (Str × Addr)) (fp : List Addr), PG (X.blk s H scope (compEnvC scope cl C X.env) fp) tg (SemGI g it.tn ctg))
    (ht : ∀ (s : Shared) (H : Hp) (C : Addr) (cl : List (Str × Addr)) (fp : List Addr), PTs (X.blk s H scope (compEnvC scope cl C X.env) fp) ifs (SemTs g cf WF cifs))
    (he : ∀ (s : Shared) (H : Hp) (C : Addr) (cl : List (Str × Addr)) (fp : List Addr), PE (X.blk s H scope (compEnvC scope cl C X.env) fp) elt (SemF g cf WF ce)) (hs : ∀ x, foldedSetIterable iter X.env x = pure x) :
    PS X (.Assign [.Name y py] (.ListComp elt [⟨tg, iter, ifs, 0⟩] scope pos) spos) (SemS g cf N W (.asg (.name i) (.comp ce ctg it cifs (own.map (·.2))))) :=
  (ps_setLc O.calm O.nd hy hyl hsw hi ok hg ht he hs).mono fun Z σ H h => lc_read hsl (asgN_read h)
/-- a list's item, a list's end -/
theorem up_read {B : Bs} {G H : Hp} {env : Env} {σ : St} {i : Nat} {f : D → Option D} {P : Env → Prop} {T : D → Bool → Env → Prop} {E : Exc → Env → Prop} (S : StOk g B G H env σ) (w : WpF (upSlot i f env) P T E) (hf : ∀ l d', f (.lst l) = some d' → ∃ l', d' = .lst l') :
    ∃ p l vs l', σ[i]? = some (some (.ref p)) ∧ H p = some (.lst vs) ∧ Reps g G l vs ∧ f (.lst l) = some (.lst l') ∧ ∀ vs', Reps g G l' vs' → ∃ env', P env' ∧ StOk g B G (upd H p (.lst vs')) env' σ := by
  unfold upSlot at w
  split at w
  · rename_i d hd
    obtain ⟨p, e1, _, _, l, vs, rfl, e4, e5⟩ := S.sl i _ hd
    split at w
    · rename_i d' he
      obtain ⟨l', rfl⟩ := hf _ _ he
      exact ⟨p, l, vs, l', e1, e4, e5, he, fun vs' r => ⟨_, w, S.write hd rfl e1 r⟩⟩
    · exact w.elim
  · rename_i d hd
    obtain ⟨p, e1, _, _, l, vs, rfl, e4, e5⟩ := S.sl i _ hd
    split at w
    · rename_i d' he
      obtain ⟨l', rfl⟩ := hf _ _ he
      exact ⟨p, l, vs, l', e1, e4, e5, he, fun vs' r => ⟨_, w, S.write hd rfl e1 r⟩⟩
    · exact w.elim
  · exact w.elim
theorem own_read {B : Bs} {G H : Hp} {env : Env} {σ : St} {i : Nat} {P : Unit → Prop} {E : Exc → Env → Prop} (S : StOk g B G H env σ) (w : WpR (ownL i env) P E) : ∃ p vs, σ[i]? = some (some (.ref p)) ∧ H p = some (.lst vs) := by
  unfold ownL at w
  split at w
  · rename_i l hd
    obtain ⟨p, e1, _, _, l, vs, _, e4, _⟩ := S.sl i _ hd
    exact ⟨p, vs, e1, e4⟩
  · rename_i l hd
    obtain ⟨p, e1, _, _, l, vs, _, e4, _⟩ := S.sl i _ hd
    exact ⟨p, vs, e1, e4⟩
  · rename_i l hd
    obtain ⟨p, e1, _, _, l, vs, e3, e4, _⟩ := S.sl i _ hd
    exact ⟨p, vs, e1, e4⟩
  · exact w.elim
theorem ownL_ok {i : Nat} {env : Env} {P : Unit → Prop} {E : Exc → Env → Prop} (w : WpR (ownL i env) P E) : P () := by
  unfold ownL at w
  split at w
  · exact w
  · exact w
  · exact w
  · exact w.elim
theorem s_app {x : Expr} {e : Expr} {i : Nat} {ce : CE} {apos cpos pos : Pos} (hK : X.K = g.K) (hx : PE X x (tVar i)) (he : PE X e (SemF g cf W ce)) (hn : notStar e = true)
    (hbase : attributeBase x "append" X.env (eval x X.env) = eval x X.env) (hline : (apos.endLine == cpos.line) = true)
    (hs : swapsWith (.Call (.Attribute x "append" apos) [e] [] cpos) none pos.line X.env = pure false) : PS X (.Expr (.Call (.Attribute x "append" apos) [e] [] cpos) pos) (SemS g cf N W (.app i ce)) := by
  have ha : PA X [e] (SemA g cf W [ce]) := a_cons he a_nil hn
  have h := pe_bm (name := "append") (apos := apos) (cpos := cpos) PySem.F.plainAttrs_list PySem.F.slot_list_append PySem.F.type_list_append (mt_append (X := X)) hx ha hbase (by rw [star_cons hn]; rfl) hline (star_cons hn [] X.env) rfl
  refine (ps_expr h hs).mono fun Z σ H ⟨B, G, env, S, w⟩ => ?_
  have w : WpF ((ownL i env).st fun _ => (ev cf ce env).st fun (v, _, env) => upSlot i (fun d => match d with
    | .lst l => if l.length < szL then some (.lst (l ++ [v])) else none
    | _ => none) env) (NxW g B G Z) (RtW g B G Z) (ExS g W B) := w
  rw [WpF.st] at w
  obtain ⟨p, vs0, e1, e2⟩ := own_read S w
  have w := ownL_ok w
  rw [WpF.st] at w
  refine ⟨.ref p, e1, ?_, B, G, env, S, ?_⟩
  · show tyV X.K "list" (.ref p) H
    exact .inl ⟨rfl, vs0, .inl (.inl e2)⟩
  · show WpR ((ev cf ce env).bind fun (d, _, env) => (R.ok ([], env)).bind fun (ds, env) => R.ok (d :: ds, env)) _ _
    rw [WpR.bind]
    refine w.imp (fun r q us H1 G1 S1 s1 ru => ?_) fun _ _ q => q.w
    obtain ⟨d, fr, env1⟩ := r
    have ru : Reps g G1 [d] us := ru
    simp only [Reps] at ru
    obtain ⟨v, vs', rfl, rv, rfl⟩ := ru
    obtain ⟨p', l, vs, l', z1, z2, z3, z4, z5⟩ := up_read S1 q (fun l d' z => by
      replace z : (if l.length < szL then some (D.lst (l ++ [d])) else none) = some d' := z
      split at z
      · cases z; exact ⟨_, rfl⟩
      · cases z)
    rw [e1] at z1
    cases z1
    dsimp only at z4
    split at z4
    · rename_i hz
      cases z4
      obtain ⟨env', q', S2⟩ := z5 (vs ++ [v]) (z3.append (.cons rv .nil))
      exact ⟨p, vs, v, rfl, rfl, z2, by rw [z3.length, ← szL_eq]; exact hz, q' σ _ G1 S2 s1⟩
    · cases z4
theorem setD_lst {l : List D} {k v d' : D} (h : setD (.lst l) k v = some d') : ∃ i j, k = .int i ∧ ixN l.length i = some j ∧ d' = .lst (l.set j v) := by
  cases k with
  | int i =>
    have h : (ixN l.length i).map (fun j => D.lst (l.set j v)) = some d' := h
    cases q : ixN l.length i with
    | none => rw [q] at h; cases h
    | some j => rw [q] at h; cases h; exact ⟨i, j, rfl, q, rfl⟩
  | _ => cases h
theorem s_setI {x ix e : Expr} {i : Nat} {cx ce : CE} {tpos pos : Pos} (hx : PE X x (tVar i)) (hix : PE X ix (SemF g cf W cx)) (he : PE X e (SemF g cf W ce))
    (ha : ∀ v, assign (.Subscript x ix tpos) X.env v = (do
      let ov ← holding [v] (eval x X.env)
      let iv ← holding [v, ov] (eval ix X.env)
      standAt tpos
      holding [v, ov, iv] (setItem ov iv v)
      release [v, ov, iv] []))
    (hs : swapsWithSole [.Subscript x ix tpos] e pos.line X.env = pure false) (hw : swappedStores [.Subscript x ix tpos] e X.env = pure none) (h1 : (assignEach [.Subscript x ix tpos] X.env).map (·.2) = [assign (.Subscript x ix tpos) X.env]) :
    PS X (.Assign [.Subscript x ix tpos] e pos) (SemS g cf N W (.setI i cx ce)) :=
  (ps_asg he (pg_sub hx hix set_list ha) hs hw h1).mono fun Z σ H ⟨B, G, env, S, w⟩ => by
    have w : WpF ((ev cf ce env).st fun (v, _, env) => (ownL i env).st fun _ => (ev cf cx env).st fun (k, _, env) => upSlot i (fun d => setD d k v) env) (NxW g B G Z) (RtW g B G Z) (ExS g W B) := w
    rw [WpF.st] at w
    refine ⟨B, G, env, S, w.imp (fun r q v H1 G1 S1 s1 rv => ?_) fun _ _ q => q.w⟩
    obtain ⟨d, fr, env1⟩ := r
    have rv : Rep g G1 d v := rv
    rw [WpF.st] at q
    rw [WpF.st] at q
    obtain ⟨p, vs0, e1, e2⟩ := own_read S1 q
    have q := ownL_ok q
    refine ⟨.ref p, e1, B, G1, env1, S1, q.imp (fun r q y H2 G2 S2 s2 ry => ?_) fun _ _ q => q.w⟩
    obtain ⟨dk, fr2, env2⟩ := r
    have ry : Rep g G2 dk y := ry
    obtain ⟨p', l, vs, l', z1, z2, z3, z4, z5⟩ := up_read S2 q (fun l d' z => by
      obtain ⟨_, _, _, _, e⟩ := setD_lst z
      exact ⟨_, e⟩)
    rw [e1] at z1
    cases z1
    obtain ⟨i0, j, rfl, hj, z4⟩ := setD_lst z4
    cases z4
    rw [ry.intI]
    obtain ⟨env', q', S3⟩ := z5 (vs.set j v) (z3.set j (rv.mono s2))
    exact ⟨p, vs, i0, j, rfl, rfl, z2, by rw [z3.length]; exact hj, q' σ _ G2 S3 (s1.trans s2)⟩
end
end Cor

set_option Elab.async false
set_option linter.all false
set_option maxRecDepth 100000
set_option maxHeartbeats 1200000
/-! SoundT: loops, raise, several values at once. -/
namespace Cor
open PySem PySem.Spec L2
open PyProof.Rows hiding St
section
variable {X : Cx} {g : Gx} {t : Stc} {cf : CF} {k : Nat} {W : WX} {N : Nat}
theorem s_for {tg iter : Expr} {body : List Stmt} {pos : Pos} {ctg : Tg} {it : It} {b : List CS} (O : XOk g t cf k X W) (hp : PassesOwn (model X.prog X.w) X.A X.env X.xe) (hi : PI X tg iter (SemI g cf W it)) (hg : PG X tg (SemGI g it.tn ctg)) (hb : PSs X body (SemSs g cf N W b))
    (hs : ∀ x, foldedSetIterable iter X.env x = pure x) : PS X (.For tg iter body [] pos) (SemS g cf N W (.for_ ctg it b)) :=
  (ps_for hp O.calm hi hg hb hs).mono fun Z σ H ⟨B, G, env, S, w⟩ => by
    have w : WpF ((evI cf it env).st fun (xs, env) => forL (asgT ctg) (exs cf N b) xs env) (NxW g B G Z) (RtW g B G Z) (ExS g W B) := w
    rw [WpF.st] at w
    refine ⟨B, G, env, S, w.imp (fun r q J H1 G1 S1 s1 jok => ?_) fun _ _ q => q.w⟩
    obtain ⟨xs, env1⟩ := r
    refine ⟨fun i m σ H => m = xs.length - i ∧ i ≤ xs.length ∧ ∃ G2 env2, StOk g B G2 H env2 σ ∧ Same G1 G2 ∧ WpF (forL (asgT ctg) (exs cf N b) (xs.drop i) env2) (NxW g B G Z) (RtW g B G Z) (ExS g W B),
      ⟨xs.length, by simp, Nat.zero_le _, G1, env1, S1, .refl G1, q⟩, ?_⟩
    rintro i m σ H ⟨rfl, hi, G2, env2, S2, s2, q⟩
    by_cases hlt : i < xs.length
    · right
      have hd : xs[i]? = some xs[i] := List.getElem?_eq_getElem hlt
      rw [List.drop_eq_getElem_cons hlt] at q
      unfold forL at q
      rw [WpF.sq, WpF.opt] at q
      obtain ⟨env3, e3, q⟩ := q
      rw [WpF.sq] at q
      refine ⟨jok.go i _ G2 H s2 S2.sub hd, fun σ H => ∃ G2 env2, StOk g B G2 H env2 σ ∧ Same G1 G2 ∧ WpF (forL (asgT ctg) (exs cf N b) (xs.drop (i + 1)) env2) (NxW g B G Z) (RtW g B G Z) (ExS g W B),
        fun σ' H' h => ⟨xs.length - (i + 1), by omega, rfl, hlt, h⟩, fun v H3 y => ?_⟩
      obtain ⟨S3, iv⟩ : StOk g B G2 H3 env2 σ ∧ IV g G2 H3 it.tn xs[i] v := by
        rcases jok.yld i _ G2 H v H3 s2 S2.sub hd y with ⟨rfl, r⟩ | ⟨ht, T, v1, v2, d1, d2, ev, nT, rfl, ed, r1, r2⟩
        · exact ⟨S2, .inl r⟩
        · exact ⟨S2.grow (same_upd nT) (tabs_upd S2.tabs nT fun _ z => nomatch z), .inr ⟨ht, T, v1, v2, d1, d2, ev, upd_same, ed, r1, r2⟩⟩
      refine ⟨B, G2, env2, xs[i], env3, S3, iv, e3, fun σ2 S4 k4 => ⟨B, G2, env3, S4, q.imp (fun env4 q σ' H' G' S' s' => ⟨G', env4, S', s2.trans s', q⟩) (fun d fr e q v σ' H' G' S' s' r => q v σ' H' G' S' ((s1.trans s2).trans s') r) fun _ _ q => q⟩⟩
    · left
      have e : i = xs.length := by omega
      subst e
      rw [List.drop_length] at q
      have q : NxW g B G Z env2 := q
      exact ⟨jok.stop G2 H s2 S2.sub, q σ H G2 S2 (s1.trans s2)⟩
theorem s_whl {c : Expr} {body : List Stmt} {pos : Pos} {cc : CE} {b : List CS} (hp : PassesOwn (model X.prog X.w) X.A X.env X.xe) (hc : PT X c (SemT g cf W cc)) (hb : PSs X body (SemSs g cf N W b)) : PS X (.While c body [] pos) (SemS g cf N W (.whl cc b)) :=
  (ps_while hp hc hb).mono fun Z σ H ⟨B, G, env, S, w⟩ => by
    have w : WpF (whlN (fun env => (ev cf cc env).bind fun (x, _, env) => (R.opt x.truth).bind fun k => .ok (k, env)) (exs cf N b) N env) (NxW g B G Z) (RtW g B G Z) (ExS g W B) := w
    refine ⟨fun m σ H => ∃ G2 env2, StOk g B G2 H env2 σ ∧ Same G G2 ∧ WpF (whlN (fun env => (ev cf cc env).bind fun (x, _, env) => (R.opt x.truth).bind fun k => .ok (k, env)) (exs cf N b) m env2) (NxW g B G Z) (RtW g B G Z) (ExS g W B), ⟨N, G, env, S, .refl G, w⟩, ?_⟩
    rintro m σ H ⟨G2, env2, S2, s2, q⟩
    cases m with
    | zero => exact q.elim
    | succ m =>
      unfold whlN at q
      rw [WpF.st, WpR.bind] at q
      refine ⟨B, G2, env2, S2, q.imp (fun r q => ?_) fun _ _ q => q.w⟩
      obtain ⟨d, fr, env3⟩ := r
      rw [WpR.bind, WpR.opt] at q
      obtain ⟨k, hk, q⟩ := q
      refine ⟨k, hk, fun H3 G3 S3 s3 => ?_⟩
      cases k with
      | false =>
        rw [if_neg Bool.false_ne_true]
        exact q σ H3 G3 S3 (s2.trans s3)
      | true =>
        rw [if_pos rfl]
        have q : WpF ((exs cf N b env3).sq fun env => whlN (fun env => (ev cf cc env).bind fun (x, _, env) => (R.opt x.truth).bind fun k => .ok (k, env)) (exs cf N b) m env) (NxW g B G Z) (RtW g B G Z) (ExS g W B) := q
        rw [WpF.sq] at q
        exact ⟨fun σ H => ∃ G2 env2, StOk g B G2 H env2 σ ∧ Same G G2 ∧ WpF (whlN (fun env => (ev cf cc env).bind fun (x, _, env) => (R.opt x.truth).bind fun k => .ok (k, env)) (exs cf N b) m env2) (NxW g B G Z) (RtW g B G Z) (ExS g W B),
          fun σ' H' h => ⟨m, Nat.lt_succ_self m, h⟩, B, G3, env3, S3, q.imp (fun env4 q σ' H' G' S' s' => ⟨G', env4, S', (s2.trans s3).trans s', q⟩) (fun d fr e q v σ' H' G' S' s' r => q v σ' H' G' S' ((s2.trans s3).trans s') r) fun _ _ q => q⟩
theorem s_rse {x m : Str} {j : Nat} {p p2 pos' pos : Pos} (O : XOk g t cf k X W) (hx : x ∈ t.excs) (hg : Gl X x) (hdb : (x == ("__debug__" : Str)) = false) :
    PS X (.Raise (some (.Call (.Name x p) [.Constant (.str m) j p2] [] pos')) none pos) (SemS g cf N W (.rse x [.lit (.str m)])) := by
  obtain ⟨C, bmB, b, newId, initId, F, h1, h2, h3, h4, h5, h6⟩ := O.wld.exc x hx
  have hK := O.hK
  refine (L2N.ps_raise O.calm O.takes (L2N.pmk_own F (by rw [hK]; exact h1) h2 (by rw [hK]; exact h3) (raises_own (by rw [hK]; exact h4) (by rw [hK]; exact h5)) hg hdb)).mono fun Z σ H ⟨B, G, env, S, w⟩ => ?_
  have w : ExS g W B ⟨x, none⟩ env := w
  exact w σ H G (.ref C) none S ⟨C, rfl, h6, rfl⟩

/-! ### a, b = x, y -/
theorem StOk.pendAt {B : Bs} {G H : Hp} {env : Env} {σ : St} (S : StOk g B G H env σ) {p : Addr} {o : HO} (hH : H p = some o) (hG : G p = none) (hn : NotOwn env σ p) : StOk g (B.pend p o) G H env σ := by
  refine ⟨⟨S.sub, S.notb, fun a u h1 h2 h3 => ?_, fun a h => ?_, fun q hq => ?_, fun a h => ?_, S.tabs⟩, S.len, fun i s hi => ?_, S.dis⟩
  · by_cases z : a = p
    · subst z
      have h1 : upd B.H0 a o a = some u := h1
      rw [upd_same] at h1
      cases h1
      exact hH
    · have h1 : upd B.H0 p o a = some u := h1
      rw [upd_ne z] at h1
      exact S.ent a u h1 h2 h3
  · show G a = if a = p then none else B.G0 a
    by_cases z : a = p
    · rw [if_pos z, z]; exact hG
    · have h : upd B.H0 p o a ≠ none := h
      rw [upd_ne z] at h
      rw [if_neg z]
      exact S.gent a h
  · show upd B.H0 p o q ≠ none
    by_cases z : q = p
    · rw [z, upd_same]; exact fun y => nomatch y
    · rw [upd_ne z]; exact S.hio q hq
  · have h : upd B.H0 p o a ≠ none := h
    by_cases z : a = p
    · rw [z, hH]; exact fun y => nomatch y
    · rw [upd_ne z] at h; exact S.dom a h
  · have k := S.sl i s hi
    cases s with
    | un => trivial
    | sh d => exact k
    | ow d =>
      obtain ⟨q, e1, e2, e3, w⟩ := k
      have hq : q ≠ p := fun z => hn i _ hi rfl (by rw [e1, z])
      exact ⟨q, e1, e2, by show upd B.H0 p o q = none; rw [upd_ne hq]; exact e3, w⟩
    | io d => exact k
/-- no fresh one of these is p -/
def NoFr (p : V) : List (D × Bool) → List V → Prop
  | d :: r, v :: vs => (d.2 = true → v ≠ p) ∧ NoFr p r vs
  | _, _ => True
def VReps (g : Gx) (B : Bs) (G H : Hp) (env : Env) (σ : St) : List (D × Bool) → List V → Prop
  | [], vs => vs = []
  | d :: r, vs => ∃ v vs', vs = v :: vs' ∧ VRep g B G H env σ d.2 d.1 v ∧ VReps g B G H env σ r vs' ∧ (d.2 = true → NoFr v r vs')
def SemP (g : Gx) (cf : CF) (W : WX) (ces : List CE) : TA := fun σ H Q => ∃ B G env, StOk g B G H env σ ∧ WpR (evp cf ces env) (fun r => ∀ vs H' G', StOk g B G' H' r.2 σ → Same G G' → VReps g B G' H' r.2 σ r.1 vs → Q vs H') (ExW g W B σ)
theorem p_nil : PA X [] (SemP g cf W []) := pa_nil.mono fun σ H Q ⟨B, G, env, S, w⟩ => w [] H G S (.refl G) rfl
theorem VRep.pend {B : Bs} {G H : Hp} {env : Env} {σ : St} {p : Addr} {o : HO} (hB : B.H0 p = none) {fr : Bool} {d : D} {v : V} (h : VRep g (B.pend p o) G H env σ fr d v) : VRep g B G H env σ fr d v ∧ (fr = true → v ≠ .ref p) := by
  cases fr with
  | false => exact ⟨h, fun z => nomatch z⟩
  | true =>
    obtain ⟨q, rfl, h1, h2, h3, h4⟩ := h
    have h2 : upd B.H0 p o q = none := h2
    have hq : q ≠ p := fun z => by rw [z, upd_same] at h2; cases h2
    rw [upd_ne hq] at h2
    exact ⟨⟨q, rfl, h1, h2, h3, h4⟩, fun _ z => hq (by injection z)⟩
theorem VReps.pend {B : Bs} {G H : Hp} {env : Env} {σ : St} {p : Addr} {o : HO} (hB : B.H0 p = none) : ∀ {ds : List (D × Bool)} {vs : List V}, VReps g (B.pend p o) G H env σ ds vs → VReps g B G H env σ ds vs ∧ NoFr (.ref p) ds vs
  | [], vs, h => by
    have h : vs = [] := h
    subst h
    exact ⟨rfl, trivial⟩
  | d :: r, vs, h => by
    obtain ⟨v, vs', rfl, h1, h2, h3⟩ := h
    obtain ⟨a1, a2⟩ := h1.pend hB
    obtain ⟨b1, b2⟩ := VReps.pend hB h2
    exact ⟨⟨v, vs', rfl, a1, b1, h3⟩, a2, b2⟩
theorem p_cons {e : Expr} {es : List Expr} {ce : CE} {ces : List CE} (h : PE X e (SemE g cf W ce)) (hs : PA X es (SemP g cf W ces)) (n : notStar e = true) : PA X (e :: es) (SemP g cf W (ce :: ces)) :=
  (pa_cons h hs (star_cons n es X.env)).mono fun σ H Q ⟨B, G, env, S, w⟩ => by
    have w : WpR ((ev cf ce env).bind fun (d, fr, env) => (evp cf ces env).bind fun (ds, env) => R.ok ((d, fr) :: ds, env)) _ _ := w
    rw [WpR.bind] at w
    refine ⟨B, G, env, S, w.imp (fun r q v H1 G1 S1 s1 rv => ?_) fun _ _ h => h⟩
    obtain ⟨d, fr, env1⟩ := r
    rw [WpR.bind] at q
    cases fr with
    | false =>
      refine ⟨B, G1, env1, S1, q.imp (fun r q vs H2 G2 S2 s2 rs => ?_) fun _ _ h => h⟩
      exact q (v :: vs) H2 G2 S2 (s1.trans s2) ⟨v, vs, rfl, Rep.mono s2 rv, rs, fun z => nomatch z⟩
    | true =>
      obtain ⟨p, rfl, h1, h2, ⟨l, vs0, e1, h3, h4⟩, h5⟩ := rv
      have hio : B.io ≠ some p := fun z => S1.hio p z h2
      refine ⟨B.pend p (.lst vs0), G1, env1, S1.pendAt h3 h1 h5, q.imp (fun r q vs H2 G2 S2 s2 rs => ?_) fun _ _ h H' G' c dd S' => h H' G' c dd (S'.pendOut h2 S1.hio)⟩
      obtain ⟨r1, r2⟩ := VReps.pend h2 rs
      exact q (.ref p :: vs) H2 G2 (S2.pendOut h2 S1.hio) (s1.trans s2) ⟨.ref p, vs, rfl, ⟨p, rfl, S2.pendG, h2, ⟨l, vs0, e1, S2.pendH hio (fun ps z => nomatch z), h4.mono s2⟩, S2.pendNot hio⟩, r1, fun _ => r2⟩
theorem VRep.set {B : Bs} {G H : Hp} {env : Env} {σ : St} {fr fr' : Bool} {d d' : D} {v v' : V} {i : Nat} (h : VRep g B G H env σ fr d v) (n : fr' = true → fr = true → v ≠ v') : VRep g B G H (env.set i (if fr' then .ow d' else .sh d')) (σ.set i (some v')) fr d v := by
  cases fr with
  | false => exact h
  | true =>
    obtain ⟨p, rfl, h1, h2, h3, h4⟩ := h
    refine ⟨p, rfl, h1, h2, h3, fun j s hj ho e => ?_⟩
    by_cases z : i = j
    · subst z
      have hi : i < env.length := by simpa using (List.getElem?_eq_some_iff.mp hj).1
      have hi2 : i < σ.length := by simpa using (List.getElem?_eq_some_iff.mp e).1
      rw [List.getElem?_set_self hi] at hj
      rw [List.getElem?_set_self hi2] at e
      cases fr' with
      | false => cases hj; cases ho
      | true => exact n rfl rfl (by injection e with e; injection e with e; exact e.symm)
    · rw [List.getElem?_set_ne z] at hj e
      exact h4 j s hj ho e
theorem set_par {B : Bs} {G H : Hp} : ∀ {is : List Nat} {ds : List (D × Bool)} {vs : List V} {env : Env} {σ : St} {P : Env → Prop} {T : D → Bool → Env → Prop} {E : Exc → Env → Prop}, StOk g B G H env σ → VReps g B G H env σ ds vs → WpF (parS is ds env) P T E →
    is.length = vs.length ∧ ∃ env', P env' ∧ StOk g B G H env' ((is.zip vs).foldl (fun σ p => σ.set p.1 (some p.2)) σ)
  | [], [], vs, env, σ, P, T, E, S, r, w => by
    have r : vs = [] := r
    subst r
    exact ⟨rfl, env, w, S⟩
  | [], _ :: _, _, _, _, _, _, _, _, _, w => w.elim
  | _ :: _, [], _, _, _, _, _, _, _, _, w => w.elim
  | i :: is, d :: ds, vs, env, σ, P, T, E, S, r, w => by
    obtain ⟨v, vs', rfl, h1, h2, h3⟩ := r
    have w : WpF ((F.opt (asgSlot i (if d.2 then .ow d.1 else .sh d.1) env)).sq fun env => parS is ds env) P T E := w
    rw [WpF.sq, WpF.opt] at w
    obtain ⟨env1, e1, w⟩ := w
    have S1 := set_v S h1 e1
    obtain ⟨rfl, _⟩ := asgSlot_eq e1
    have r1 : VReps g B G H (env.set i (if d.2 then .ow d.1 else .sh d.1)) (σ.set i (some v)) ds vs' := by
      have key : ∀ {ds : List (D × Bool)} {vs : List V}, VReps g B G H env σ ds vs → (d.2 = true → NoFr v ds vs) → VReps g B G H (env.set i (if d.2 then .ow d.1 else .sh d.1)) (σ.set i (some v)) ds vs := by
        intro ds
        induction ds with
        | nil => intro vs h _; exact h
        | cons a ds ih =>
          intro vs h n
          obtain ⟨u, us, rfl, a1, a2, a3⟩ := h
          exact ⟨u, us, rfl, a1.set fun z z' => (n z).1 z', ih a2 fun z => (n z).2, a3⟩
      exact key h2 h3
    obtain ⟨hl, env', q, S'⟩ := set_par S1 r1 w
    exact ⟨by simp [hl], env', q, S'⟩
/-- plain names, one behind another -/
def gNs : List Nat → TGs
  | [] => gNil
  | i :: is => gCons (gName i) (gNs is)
theorem gNs_read : ∀ {is : List Nat} {vs : List V} {σ : St} {H : Hp} {Q : St → Hp → Prop}, is.length = vs.length → Q ((is.zip vs).foldl (fun σ p => σ.set p.1 (some p.2)) σ) H → gNs is vs σ H Q
  | [], [], _, _, _, _, q => ⟨rfl, q⟩
  | [], _ :: _, _, _, _, h, _ => by cases h
  | _ :: _, [], _, _, _, h, _ => by cases h
  | i :: is, v :: vs, σ, H, Q, h, q => ⟨v, vs, rfl, gNs_read (is := is) (vs := vs) (by simpa using h) q⟩
theorem VRep.grow {B : Bs} {G H : Hp} {env : Env} {σ : St} {p : Addr} {o : HO} (n : H p = none) {fr : Bool} {d : D} {v : V} (h : VRep g B G H env σ fr d v) : VRep g B G (upd H p o) env σ fr d v := by
  cases fr with
  | false => exact h
  | true =>
    obtain ⟨q, rfl, h1, h2, ⟨l, vs, e, h3, h4⟩, h5⟩ := h
    exact ⟨q, rfl, h1, h2, ⟨l, vs, e, by rw [upd_ne (ne_of_none h3 n)]; exact h3, h4⟩, h5⟩
theorem VReps.grow {B : Bs} {G H : Hp} {env : Env} {σ : St} {p : Addr} {o : HO} (n : H p = none) : ∀ {ds : List (D × Bool)} {vs : List V}, VReps g B G H env σ ds vs → VReps g B G (upd H p o) env σ ds vs
  | [], vs, h => h
  | d :: r, vs, h => by
    obtain ⟨v, vs', rfl, h1, h2, h3⟩ := h
    exact ⟨v, vs', rfl, h1.grow n, VReps.grow n h2, h3⟩
/-- a, b = x, y by a tuple -/
theorem s_parT {is : List Nat} {ts vs : List Expr} {ces : List CE} {pt pos : Pos} {kt k2 pt2} (O : XOk g t cf k X W) (hts : PGs X ts (gNs is)) (hsz : is.length ≤ 1000) (hl : (assignEach ts X.env).length = is.length) (hst : (assignEach ts X.env).findIdx? (·.1) = none) (ha : PA X vs (SemP g cf W ces))
    (hs : swapsWithSole [.Tuple ts kt pt] (.Tuple vs k2 pt2) pos.line X.env = pure false) (hw : swappedStores [Expr.Tuple ts kt pt] (.Tuple vs k2 pt2) X.env = pure none) (h1 : (assignEach [.Tuple ts kt pt] X.env).map (·.2) = [assign (.Tuple ts kt pt) X.env]) :
    PS X (.Assign [.Tuple ts kt pt] (.Tuple vs k2 pt2) pos) (SemS g cf N W (.par is ces)) :=
  (ps_asg (pe_tup ha) (pg_tup O.calm hts hl hst) hs hw h1).mono fun Z σ H ⟨B, G, env, S, w⟩ => by
    have w : WpF ((evp cf ces env).st fun (ds, env) => parS is ds env) (NxW g B G Z) (RtW g B G Z) (ExS g W B) := w
    rw [WpF.st] at w
    refine ⟨B, G, env, S, w.imp (fun r q vs H1 G1 S1 s1 rs => ?_) fun _ _ q => q.w⟩
    have hlen := (set_par S1 rs q).1
    refine ⟨by rw [sizeLine_eq]; omega, fun p np => ?_⟩
    have S2 := S1.grow (same_upd (o := .tup vs) np) (tabs_upd S1.tabs np fun _ z => nomatch z)
    obtain ⟨hl, env', q', S'⟩ := set_par S2 (rs.grow np) q
    exact ⟨p, vs, rfl, .inl (.inl upd_same), hl.symm, gNs_read hl (q' _ _ G1 S' s1)⟩
theorem s_par2 {i j : Nat} {x y : Str} {a b : Expr} {ca cb : CE} {px py pt pos : Pos} {kt k2 pt2} (O : XOk g t cf k X W) (hi : X.N[i]? = some x) (hj : X.N[j]? = some y) (hij : i ≠ j)
    (hx : X.env.scope.names.lookup x = some .local) (hy : X.env.scope.names.lookup y = some .local) (ha : PA X [a, b] (SemP g cf W [ca, cb]))
    (hw : swappedStores [Expr.Tuple [.Name x px, .Name y py] kt pt] (.Tuple [a, b] k2 pt2) X.env = pure (some [x, y]))
    (hs : swapsWithSole [.Tuple [.Name x px, .Name y py] kt pt] (.Tuple [a, b] k2 pt2) pos.line X.env = pure false) :
    PS X (.Assign [.Tuple [.Name x px, .Name y py] kt pt] (.Tuple [a, b] k2 pt2) pos) (SemS g cf N W (.par [i, j] [ca, cb])) :=
  (ps_par O.calm O.nd hi hj hij hx hy ha hw hs).mono fun Z σ H ⟨B, G, env, S, w⟩ => by
    have w : WpF ((evp cf [ca, cb] env).st fun (ds, env) => parS [i, j] ds env) (NxW g B G Z) (RtW g B G Z) (ExS g W B) := w
    rw [WpF.st] at w
    refine ⟨B, G, env, S, w.imp (fun r q vs H1 G1 S1 s1 rs => ?_) fun _ _ q => q.w⟩
    obtain ⟨hl, env', q, S'⟩ := set_par S1 rs q
    match vs, hl with
    | [v, w], _ => exact ⟨v, w, rfl, q _ H1 G1 S' s1⟩
theorem s_par3 {i j l : Nat} {x y z : Str} {a b c : Expr} {ca cb cc : CE} {px py pz pt pos : Pos} {kt k2 pt2} (O : XOk g t cf k X W) (hi : X.N[i]? = some x) (hj : X.N[j]? = some y) (hl : X.N[l]? = some z) (hij : i ≠ j) (hil : i ≠ l) (hjl : j ≠ l)
    (hx : X.env.scope.names.lookup x = some .local) (hy : X.env.scope.names.lookup y = some .local) (hz : X.env.scope.names.lookup z = some .local) (ha : PA X [a, b, c] (SemP g cf W [ca, cb, cc]))
    (hw : swappedStores [Expr.Tuple [.Name x px, .Name y py, .Name z pz] kt pt] (.Tuple [a, b, c] k2 pt2) X.env = pure (some [x, y, z]))
    (hs : swapsWithSole [.Tuple [.Name x px, .Name y py, .Name z pz] kt pt] (.Tuple [a, b, c] k2 pt2) pos.line X.env = pure false) :
    PS X (.Assign [.Tuple [.Name x px, .Name y py, .Name z pz] kt pt] (.Tuple [a, b, c] k2 pt2) pos) (SemS g cf N W (.par [i, j, l] [ca, cb, cc])) :=
  (ps_par3 O.calm O.nd hi hj hl hij hil hjl hx hy hz ha hw hs).mono fun Z σ H ⟨B, G, env, S, w⟩ => by
    have w : WpF ((evp cf [ca, cb, cc] env).st fun (ds, env) => parS [i, j, l] ds env) (NxW g B G Z) (RtW g B G Z) (ExS g W B) := w
    rw [WpF.st] at w
    refine ⟨B, G, env, S, w.imp (fun r q vs H1 G1 S1 s1 rs => ?_) fun _ _ q => q.w⟩
    obtain ⟨hl, env', q, S'⟩ := set_par S1 rs q
    match vs, hl with
    | [u, v, w], _ => exact ⟨u, v, w, rfl, q _ H1 G1 S' s1⟩
end
end Cor

set_option Elab.async false
set_option linter.all false
set_option maxRecDepth 100000
set_option maxHeartbeats 1200000
/-! Sset: len(set(x)), sorted(set(x)). -/
namespace Cor
open PySem PySem.Spec L2 HT
open PyProof.Rows hiding St
section
variable {X : Cx} {g : Gx} {t : Stc} {cf : CF} {k : Nat} {W : WX}
theorem ints_of {l : List D} : ∀ {ns : List Int}, D.ints? l = some ns → l = ns.map D.int := by
  induction l with
  | nil => intro ns h; cases h; rfl
  | cons d l ih =>
    intro ns h
    unfold D.ints? at h
    rw [List.mapM_cons] at h
    cases d with
    | int i =>
      have h : ((D.ints? l).bind fun ns => some (i :: ns)) = some ns := h
      rw [Option.bind_eq_some_iff] at h
      obtain ⟨ns', h1, h2⟩ := h
      cases h2
      rw [ih h1]
      rfl
    | _ => cases h
theorem s_lenset {a : Expr} {ca : CE} {p p2 q pos : Pos} (O : XOk g t cf k X W) (hg : Gl X "len") (hg2 : Gl X "set") (ha : PE X a (SemO g cf W ca)) (hn : notStar a = true) :
    PE X (.Call (.Name "len" p) [.Call (.Name "set" p2) [a] [] q] [] pos) (SemE g cf W (.lenset ca)) := by
  refine ⟨fun pins s σ H Q I h => ?_⟩
  have na := star_cons hn [] X.env
  refine Call_ (ld_blt I hg (O.wld.bl _ (by decide)) (blt_boot .len (by decide)) ?_)
  refine PyProof.Rows.callWith_builtin1 (PyProof.Rows.args_cons ?_ rfl) rfl rfl
  refine Call_ (ld_blt I hg2 (O.wld.bl _ (by decide)) boot_set ?_)
  obtain ⟨B, G, env, S, w⟩ := h
  have w : WpR ((opd ca (ev cf ca) env).bind fun (x, env) => (R.opt (x.get env)).bind fun dx => (R.opt (lsetD dx)).bind fun d => R.ok (d, false, env)) (fun r => Out g B G r.2.2 σ r.2.1 r.1 Q) (ExW g W B σ) := w
  rw [WpR.bind] at w
  have h : SemO g cf W ca σ H fun v H1 => ∃ G1 env1 x dx d, StOk g B G1 H1 env1 σ ∧ Same G G1 ∧ OpV g G1 σ x v ∧ x.get env1 = some dx ∧ lsetD dx = some d ∧ Out g B G env1 σ false d Q :=
    ⟨B, G, env, S, w.imp (fun r q v H1 G1 S1 s1 ov => by
      have q : WpR ((R.opt (r.1.get r.2)).bind fun dx => (R.opt (lsetD dx)).bind fun d => R.ok (d, false, r.2)) (fun r => Out g B G r.2.2 σ r.2.1 r.1 Q) (ExW g W B σ) := q
      rw [WpR.bind, WpR.opt] at q
      obtain ⟨dx, h1, q⟩ := q
      rw [WpR.bind, WpR.opt] at q
      obtain ⟨d, h2, q⟩ := q
      exact ⟨G1, r.2, r.1, dx, d, S1, s1, ov, h1, h2, q⟩) fun _ _ h => h⟩
  refine PyProof.Rows.callWith_type1 (PyProof.Rows.args_cons (thn (ha.run pins s σ H _ I h) fun v s1 ⟨x, H1, I1, r1, q1⟩ => PyProof.Rows.args_nil ?_) na) na rfl
  obtain ⟨G1, env1, o, dx, d, S1, s01, ov, ho, h2, q⟩ := q1
  have ob := ov.obs S1 ho
  unfold lsetD at h2
  split at h2
  · rename_i l
    split at h2
    · rename_i ns e1
      split at h2
      · rename_i hz
        cases h2
        cases ints_of e1
        obtain ⟨at_, vs, rfl, rd, rs⟩ := ob.lst S1.sub
        cases reps_ints rs
        rcases r1 with rfl
        obtain ⟨its, rv, list, _⟩ := I1.list (xs := ns.map V.int) (.inl rd)
        have size : its.toArray.size = ns.length := rv.ints.length
        have few : its.toArray.size + 1 < scanBound := by rw [size]; unfold scanBound; omega
        refine call_set_list (I1.ok.hd O.calm) list.isList rv.ints few fun h' tk made kept => PyProof.Rows.args_nil ?_
        rw [size] at made
        have le := PyProof.Rows.firstMet_length_le (fun i => ns.getD i 0) ns.length
        have ⟨_, es, ep, t', there, exact_, data, _, _, _, fits, count⟩ := made
        have J : L2.Inv X pins σ H1 { s1 with heap := h', toks := tk } := I1.kept fun b o e => kept b o (Heap.lt_size e) e
        exact call_len_set there exact_ data fits (by rw [count] <;> omega) ⟨.int _, H1, J.tok _, ⟨_, by rw [count]⟩, q _ H1 G1 S1 s01 (Rep.int (g := g) (G := G1))⟩
      · cases h2
    · cases h2
  · cases h2
/-! ### sorted(set(x)) -/
theorem mem_dedup {α : Type} [DecidableEq α] {x : α} {l : List α} : x ∈ dedup l ↔ x ∈ l := by
  induction l with
  | nil => exact Iff.rfl
  | cons y r ih =>
    unfold dedup
    by_cases h : y ∈ r
    · rw [if_pos h, ih, List.mem_cons]
      exact ⟨.inr, fun z => z.elim (fun e => e ▸ h) id⟩
    · rw [if_neg h, List.mem_cons, List.mem_cons, ih]
theorem nodup_dedup {α : Type} [DecidableEq α] (l : List α) : (dedup l).Nodup := by
  induction l with
  | nil => exact List.nodup_nil
  | cons y r ih =>
    unfold dedup
    by_cases h : y ∈ r
    · rw [if_pos h]; exact ih
    · rw [if_neg h]
      exact List.nodup_cons.mpr ⟨fun z => h (mem_dedup.mp z), ih⟩
/-- a list made behind the program's back -/
theorem list_born {pins : List (Addr × Obj)} {σ : St} {H : Hp} {s t : Shared} {p : Addr} {vs : List V} {out : List Value} {c : Nat} (I : L2.Inv X pins σ H s) (k : Keeps s.heap t.heap) (gn : t.gens = s.gens) (os : t.os = s.os) (le : s.heap.objs.size ≤ p)
    (at_ : t.heap.get? p = some (seqObj "list" out.toArray c)) (v : Vals vs out) (few : vs.length ≤ sizeLine) : H p = none ∧ L2.Inv X pins σ (upd H p (.lst vs)) t := by
  have fresh := I.hok.fresh le
  exact ⟨fresh, I.call' (ch := []) os (Un.laid k le fresh) (I.hok.laid k le ⟨few, out, c, v, at_⟩) (gn ▸ I.bare) fun b m => nomatch m⟩
section
variable {G H : Hp} {env : Env} {σ σ' : St} {B : Bs} {pins : List (Addr × Obj)} {s : Shared} {a : Addr} {Q : VK}
theorem sset_ints {ns : List Int} (calm : X.calm = true) (I : L2.Inv X pins σ' H s) (S : StOk g B G H env σ) (few : ns.length < 64) (hs : SqL X.K H a (ns.map V.int) ∨ SqT X.K H a (ns.map V.int)) (q : Out g B G env σ true (.lst ((isort leI (dedup ns)).map D.int)) Q) :
    wpAny (model X.prog X.w) X.A (call (.type "set") [.ref a]) (fun v t => wpAny (model X.prog X.w) X.A (call (.builtin "sorted") [v]) (EP X pins σ' Q) X.xe t) X.xe s := by
  obtain ⟨its, rv, seq, _⟩ := Inv.isSeq I hs
  refine set_ints (ns := ns) (I.ok.hd calm) (seq.imp id fun z => z) rv.ints (by unfold scanBound; omega) fun h tk c R le k => ?_
  have J : L2.Inv X pins σ' H { s with heap := h, toks := tk } := I.kept k
  refine sorted_set R (J.ok.hd calm) (by omega) fun t p out c ms kt gn os le at_ nums asc mem len => ?_
  have same : ms = isort leI (dedup ns) := by
    refine sorted_uniqI ((List.perm_ext_iff_of_nodup (asc.imp fun z => Int.ne_of_lt z) (nodup_dedup ns)).mpr fun z => ?_) (asc.imp fun z => Int.le_of_lt z)
    rw [mem, mem_dedup, decide_eq_true_eq]
  subst same
  obtain ⟨fresh, J2⟩ := list_born (out := out.toList) J kt gn os le at_ (vals_of_ints nums) (by rw [List.length_map, len, sizeLine_eq]; omega)
  exact ⟨.ref p, _, J2, rfl, q.lst S Reps.ints p fresh⟩
/-- tuples of ints, where they stand -/
theorem tups_at {G : Hp} : ∀ {ts : List (List Int)} {vs : List V}, Reps g G (ts.map tI) vs → ∃ ks : List (Addr × List Int), vs = ks.map (fun p => V.ref p.1) ∧ ks.map (·.2) = ts ∧ ∀ p ∈ ks, TupAt G p.1 (p.2.map V.int)
  | [], _, h => by
    simp only [List.map, Reps] at h
    subst h
    exact ⟨[], rfl, rfl, fun p m => nomatch m⟩
  | t :: r, _, h => by
    simp only [List.map, Reps] at h
    obtain ⟨v, ws, rfl, h1, h2⟩ := h
    obtain ⟨ks, rfl, rfl, at_⟩ := tups_at h2
    obtain ⟨a, us, rfl, h1, r1⟩ := h1.tupI
    rw [reps_ints r1] at h1
    exact ⟨(a, t) :: ks, rfl, rfl, fun p m => by
      cases m with
      | head => exact h1
      | tail _ m => exact at_ p m⟩
theorem reps_at {G : Hp} {ks : List (Addr × List Int)} (h : ∀ p ∈ ks, TupAt G p.1 (p.2.map V.int)) : Reps g G ((ks.map (·.2)).map tI) (ks.map fun p => V.ref p.1) := by
  induction ks with
  | nil => exact .nil
  | cons p r ih => exact .cons (.tup (h p (.head _)) .ints) (ih fun q m => h q (.tail _ m))
/-- some of a row's addresses, as pairs again -/
theorem refs_pairs {L : List (Addr × List Int)} {out : List Value} (h : ∀ v ∈ out, ∃ z ∈ L, v = Value.ref z.1) : ∃ M : List (Addr × List Int), out = M.map (fun z => Value.ref z.1) ∧ ∀ z ∈ M, z ∈ L := by
  induction out with
  | nil => exact ⟨[], rfl, fun z m => nomatch m⟩
  | cons v r ih =>
    obtain ⟨z, m, rfl⟩ := h v (.head _)
    obtain ⟨M, rfl, hM⟩ := ih fun u mu => h u (.tail _ mu)
    exact ⟨z :: M, rfl, fun y my => by
      cases my with
      | head => exact m
      | tail _ my => exact hM y my⟩
theorem sset_tups {ts : List (List Int)} {vs : List V} (calm : X.calm = true) (hu : X.A.units + 64 < cLine) (I : L2.Inv X pins σ' H s) (S : StOk g B G H env σ) (few : ts.length < 64) (hs : SqL X.K H a vs ∨ SqT X.K H a vs) (hr : Reps g G (ts.map tI) vs) (ne : ∀ t ∈ ts, t ≠ [])
    (q : Out g B G env σ true (.lst ((isort leT (dedup ts)).map tI)) Q) :
    wpAny (model X.prog X.w) X.A (call (.type "set") [.ref a]) (fun v t => wpAny (model X.prog X.w) X.A (call (.builtin "sorted") [v]) (EP X pins σ' Q) X.xe t) X.xe s := by
  obtain ⟨ks, rfl, rfl, at_⟩ := tups_at hr
  obtain ⟨its, rv, seq, _⟩ := Inv.isSeq I hs
  refine set_tups (P := X.prog) (w := X.w) ks (I.ok.hd calm) (seq.imp id fun z => z) (refs_of_vals rv) (fun p m => I.isT ((at_ p m).mono S.sub).sq) (by simpa using few) (by omega) fun h tk L es ep t R gt k => ?_
  have J : L2.Inv X pins σ' H { s with heap := h, toks := tk } := I.kept k
  have inL : ∀ z ∈ L, z ∈ ks := fun z m => List.mem_of_mem_take (gt.sub z m)
  refine sorted_setTups (s := { s with heap := h, toks := tk }) R (J.ok.hd calm) (fun z m => ne z.2 (List.mem_map.mpr ⟨z, inL z m, rfl⟩)) fun u p out c ku gn os le at' pm srt => ?_
  obtain ⟨M, rfl, hM⟩ := refs_pairs (L := L) (out := out) fun v m => let ⟨z, hz, e⟩ := List.mem_map.mp (pm.mem_iff.mp m); ⟨z, hz, e.symm⟩
  have told : ∀ {N : List (Addr × List Int)}, (∀ z ∈ N, z ∈ L) → (N.map fun z => Value.ref z.1).map (TS.intsOf h) = N.map (·.2) := fun {N} hN => by
    rw [List.map_map]
    exact List.map_congr_left fun z m => (tupInts_of (P := X.prog) (w := X.w) (R.tup z (hN z m))).ints
  have pm2 : (M.map (·.2)).Perm (L.map (·.2)) := told hM ▸ told (fun z m => m) ▸ pm.map (TS.intsOf h)
  have all : (L.map (·.2)).Perm (dedup (ks.map (·.2))) := (List.perm_ext_iff_of_nodup R.nd (nodup_dedup _)).mpr fun z => by
    rw [mem_dedup]
    refine ⟨fun m => ?_, fun m => ?_⟩ <;> obtain ⟨y, my, rfl⟩ := List.mem_map.mp m
    · exact List.mem_map.mpr ⟨y, inL y my, rfl⟩
    · exact gt.all y (by rw [List.take_length]; exact my)
  have same : M.map (·.2) = isort leT (dedup (ks.map (·.2))) := sorted_uniqT (pm2.trans all) (by
    rw [← told hM, List.pairwise_map]
    exact srt)
  have len : M.length = L.length := by simpa using pm2.length_eq
  have fewL := R.few
  obtain ⟨fresh, J2⟩ := list_born J ku gn os le at' (vals_of_refs M) (by rw [List.length_map, len, sizeLine_eq]; omega)
  rw [← same] at q
  exact ⟨.ref p, _, J2, rfl, q.lst S (reps_at fun z m => at_ z (inL z (hM z m))) p fresh⟩
end
theorem s_sset {a : Expr} {ca : CE} {p p2 q pos : Pos} (O : XOk g t cf k X W) (hu : X.A.units + 64 < cLine) (hg : Gl X "sorted") (hg2 : Gl X "set") (ha : PE X a (SemO g cf W ca)) (hn : notStar a = true) :
    PE X (.Call (.Name "sorted" p) [.Call (.Name "set" p2) [a] [] q] [] pos) (SemE g cf W (.blt .sset [ca])) := by
  refine ⟨fun pins s σ H Q I h => ?_⟩
  have na := star_cons hn [] X.env
  refine Call_ (ld_blt I hg (O.wld.bl _ (by decide)) (blt_boot .sorted (by decide)) ?_)
  refine PyProof.Rows.callWith_builtin1 (PyProof.Rows.args_cons ?_ rfl) rfl rfl
  refine Call_ (ld_blt I hg2 (O.wld.bl _ (by decide)) boot_set ?_)
  obtain ⟨B, G, env, S, w⟩ := h
  have w : WpR (((opd ca (ev cf ca) env).bind fun (x, env) => (R.ok ([], env)).bind fun (ds, env) => R.ok (x :: ds, env)).bind fun (xs, env) => (R.opt (xs.mapM (Opd.get env))).bind fun ds => (R.opt (bltD .sset ds)).bind fun d => ok3 d env) (fun r => Out g B G r.2.2 σ r.2.1 r.1 Q) (ExW g W B σ) := w
  rw [WpR.bind, WpR.bind] at w
  have h : SemO g cf W ca σ H fun v H1 => ∃ G1 env1 x ds d, StOk g B G1 H1 env1 σ ∧ Same G G1 ∧ OpV g G1 σ x v ∧ [x].mapM (Opd.get env1) = some ds ∧ bltD .sset ds = some d ∧ Out g B G env1 σ d.isLst d Q :=
    ⟨B, G, env, S, w.imp (fun r q v H1 G1 S1 s1 ov => by
      have q : WpR ((R.opt ([r.1].mapM (Opd.get r.2))).bind fun ds => (R.opt (bltD .sset ds)).bind fun d => ok3 d r.2) (fun r => Out g B G r.2.2 σ r.2.1 r.1 Q) (ExW g W B σ) := q
      rw [WpR.bind, WpR.opt] at q
      obtain ⟨ds, h1, q⟩ := q
      rw [WpR.bind, WpR.opt] at q
      obtain ⟨d, h2, q⟩ := q
      exact ⟨G1, r.2, r.1, ds, d, S1, s1, ov, h1, h2, q⟩) fun _ _ h => h⟩
  have arg := fun (Z : _ → _ → Prop) z => PyProof.Rows.args_cons (Q := Z) (pos := q) (thn (ha.run pins s σ H _ I h) z) na
  refine PyProof.Rows.callWith_type1 (arg _ fun v s1 z => PyProof.Rows.args_nil ?_) na rfl
  obtain ⟨x, H1, I1, r1, G1, env1, o, ds, d, S1, s01, ov, h1, h2, q⟩ := z
  obtain ⟨dx, ho, rfl⟩ : ∃ dx, o.get env1 = some dx ∧ ds = [dx] := by
    simp only [List.mapM_cons, List.mapM_nil, Option.bind_eq_bind, Option.bind_eq_some_iff] at h1
    obtain ⟨dx, h3, ds', h4, h5⟩ := h1
    cases h4
    cases h5
    exact ⟨dx, h3, rfl⟩
  have ob := ov.obs S1 ho
  obtain ⟨l, hl, h2⟩ : ∃ l, (dx = .lst l ∨ dx = .tup l) ∧ ssetD l = some d := by
    cases dx <;> first | exact ⟨_, .inl rfl, h2⟩ | exact ⟨_, .inr rfl, h2⟩ | cases h2
  obtain ⟨a', vs, rfl, rs, seq⟩ := obs_seq (X := X) S1.sub (hl.imp (fun e => e ▸ ob) fun e => e ▸ ob) O.hK
  cases r1
  have q' : Out g B G1 env1 σ d.isLst d Q := fun v H' G' S' s' r => q v H' G' S' (s01.trans s') r
  suffices hh : wpAny (model X.prog X.w) X.A (call (.type "set") [.ref a']) (fun v s1 => wpAny (model X.prog X.w) X.A (call (.builtin "sorted") [v]) (EP X pins σ Q) X.xe s1) X.xe s1 from
    thn hh fun v s2 h => PyProof.Rows.args_nil h
  unfold ssetD at h2
  split at h2
  · rename_i ns e1
    split at h2
    · rename_i hz
      cases h2
      rw [ints_spec e1] at rs
      rw [reps_ints rs] at seq
      exact sset_ints O.calm I1 S1 hz seq q'
    · cases h2
  · split at h2
    · rename_i ts e1
      split at h2
      · rename_i hz
        cases h2
        rw [tups_spec e1] at rs
        refine sset_tups O.calm hu I1 S1 hz.1 seq rs (fun t ht z => ?_) q'
        have := List.all_eq_true.mp hz.2 t ht
        subst z
        cases this
      · cases h2
    · cases h2
end
end Cor

set_option Elab.async false
set_option linter.all false
set_option maxRecDepth 100000
set_option maxHeartbeats 1200000
/-! Chk: the program's text read as core, and that the reading is right: expressions. -/
namespace Cor
open PySem PySem.Spec L2
open PyProof.Rows hiding St
structure Ck where
  N : List Str
  sc : Scope
  fn : Str → Bool
  t : Stc
structure CkOk (c : Ck) (X : Cx) : Prop where
  N : X.N = c.N
  sc : X.env.scope = c.sc
  fn : X.fn = c.fn
def Ck.look (c : Ck) (x : Str) : Option NameKind := c.sc.names.lookup x
def dbgN (x : Str) : Bool := (x == ("__debug__" : Str)) || (x == ("__classdict__" : Str))
def Ck.ix (c : Ck) (x : Str) : Option Nat := let i := c.N.findIdx (· == x); if c.N[i]? = some x then some i else none
def Ck.slot (c : Ck) (x : Str) : Option Nat := if dbgN x then none else match c.look x with
  | some .local => c.ix x
  | some .cell => c.ix x
  | some .free => c.ix x
  | _ => none
def Ck.sto (c : Ck) (x : Str) : Option Nat := match c.look x with
  | some .local => c.ix x
  | some .cell => if c.fn x then c.ix x else none
  | _ => none
def Ck.gl (c : Ck) (x : Str) : Bool := !dbgN x && decide (c.look x = some .globalImplicit)
def Ck.sig (c : Ck) (x : Str) : Option (Nat × Bool) := let i := c.t.sig.findIdx (fun s => s.1 == x); match c.t.sig[i]? with
  | some (y, _, io) => if y = x then some (i, io) else none
  | none => none
theorem Ck.ix_ok {c : Ck} {x : Str} {i : Nat} (h : c.ix x = some i) : c.N[i]? = some x := by
  unfold Ck.ix at h
  dsimp only at h
  split at h
  · rename_i q; cases h; exact q
  · cases h
theorem dbgN_ok {x : Str} (h : dbgN x = false) : (x == ("__debug__" : Str)) = false ∧ (x == ("__classdict__" : Str)) = false := by
  unfold dbgN at h
  exact Bool.or_eq_false_iff.mp h
section
variable {X : Cx} {c : Ck} {x : Str} {i : Nat}
theorem Ck.slot_ok (h : c.slot x = some i) (K : CkOk c X) : PE X (.Name x p) (tVar i) := by
  unfold Ck.slot at h
  split at h
  · cases h
  · rename_i hd
    obtain ⟨d1, d2⟩ := dbgN_ok (x := x) (by simpa using hd)
    have e : X.env.scope.names.lookup x = c.look x := by rw [K.sc]; rfl
    split at h
    · rename_i q; exact pe_var (by rw [K.N]; exact Ck.ix_ok h) (.inl (e.trans q)) d1 d2
    · rename_i q; exact pe_var (by rw [K.N]; exact Ck.ix_ok h) (.inr (.inl (e.trans q))) d1 d2
    · rename_i q; exact pe_var (by rw [K.N]; exact Ck.ix_ok h) (.inr (.inr (e.trans q))) d1 d2
    · cases h
theorem Ck.sto_ok (h : c.sto x = some i) (K : CkOk c X) : X.N[i]? = some x ∧ Loc X.env.scope x ∧ (X.fn x = true ∨ X.env.scope.names.lookup x = some .local) := by
  unfold Ck.sto at h
  have e : X.env.scope.names.lookup x = c.look x := by rw [K.sc]; rfl
  split at h
  · rename_i q; exact ⟨by rw [K.N]; exact Ck.ix_ok h, .inl (e.trans q), .inr (e.trans q)⟩
  · rename_i q
    split at h
    · rename_i f; exact ⟨by rw [K.N]; exact Ck.ix_ok h, .inr (e.trans q), .inl (by rw [K.fn]; exact f)⟩
    · cases h
  · cases h
theorem Ck.gl_ok (h : c.gl x = true) (K : CkOk c X) : Gl X x ∧ (x == ("__debug__" : Str)) = false := by
  unfold Ck.gl at h
  simp only [Bool.and_eq_true, Bool.not_eq_true', decide_eq_true_eq] at h
  refine ⟨?_, (dbgN_ok h.1).1⟩
  show X.env.scope.names.lookup x = some .globalImplicit
  rw [K.sc]
  exact h.2
theorem Ck.sig_ok {io : Bool} (h : c.sig x = some (i, io)) : ∃ np, c.t.sig[i]? = some (x, np, io) := by
  unfold Ck.sig at h
  dsimp only at h
  split at h
  · rename_i y np io' q
    split at h
    · rename_i z
      cases h
      exact ⟨np, by rw [q, z]⟩
    · cases h
  · cases h
end
def bop? : Operator → Option BOp
  | .Add => some .add | .Sub => some .sub | .Mult => some .mul | .FloorDiv => some .fdiv | .Mod => some .mod | .Pow => some .pow | _ => none
theorem bop_ok {op : Operator} {o : BOp} (h : bop? op = some o) : op = opOf o := by
  cases op <;> first | cases h; rfl | cases h
def cop? : CmpOp → COp
  | .Lt => .lt | .LtE => .le | .Gt => .gt | .GtE => .ge | .Eq => .eq | .NotEq => .ne | .In => .mem | .NotIn => .nmem | .Is => .is | .IsNot => .isn
theorem cop_ok (op : CmpOp) : op = copOf (cop? op) := by cases op <;> rfl
def kd? (x : Str) : Option Kd := [Kd.bool, .int, .str, .list, .tuple].find? fun k => decide (Str.ofString (kdNm k) = x)
theorem kd_ok {x : Str} {k : Kd} (h : kd? x = some k) : x = Str.ofString (kdNm k) := by
  have := List.find?_some h
  exact (of_decide_eq_true this).symm
def blt? (x : Str) : Option Blt := [Blt.len, .all, .any, .sum, .sorted, .tuple, .list, .min, .max, .int, .str, .bool].find? fun k => decide (Str.ofString (bltN k) = x)
theorem blt_ok {x : Str} {k : Blt} (h : blt? x = some k) : x = Str.ofString (bltN k) ∧ k ≠ .sset ∧ k ≠ .dict := by
  have h1 := List.find?_some h
  have h2 := List.mem_of_find?_eq_some h
  refine ⟨(of_decide_eq_true h1).symm, ?_⟩
  simp at h2
  rcases h2 with h2 | h2 | h2 | h2 | h2 | h2 | h2 | h2 | h2 | h2 | h2 | h2 <;> (subst h2; exact ⟨by decide, by decide⟩)
def plainIx : Expr → Bool
  | .Slice .. => false
  | _ => true
theorem plainIx_ok {b : Expr} (h : plainIx b = true) : PlainIx b := by
  intro o i
  cases b <;> first | rfl | cases h
def notFold : Expr → Bool
  | .Set .. => false
  | _ => true
theorem notFold_ok {X : Cx} {b : Expr} (h : notFold b = true) : ∀ x, foldedSetIterable b X.env x = pure x := by
  intro x
  cases b <;> first | rfl | cases h
def isTup : Expr → Bool
  | .Tuple .. => true
  | _ => false
def bAnd : List CE → Option CE
  | [] => none
  | [c] => some c
  | c :: r => (bAnd r).map (.band c)
def bOr : List CE → Option CE
  | [] => none
  | [c] => some c
  | c :: r => (bOr r).map (.bor c)
def kdEs : List Expr → Option (List (Kd × Pos))
  | [] => some []
  | .Name x p :: r => (kd? x).bind fun k => (kdEs r).map ((k, p) :: ·)
  | _ => none
theorem kdEs_ok : ∀ {es : List Expr} {ks : List (Kd × Pos)}, kdEs es = some ks → es = ks.map fun q => .Name (Str.ofString (kdNm q.1)) q.2
  | [], ks, h => by cases h; rfl
  | e :: r, ks, h => by
    unfold kdEs at h
    split at h
    · cases h; contradiction
    · rename_i x p r' e1
      cases e1
      simp only [Option.bind_eq_some_iff, Option.map_eq_some_iff] at h
      obtain ⟨k, hk, ks', h', e⟩ := h
      subst e
      rw [kd_ok hk, kdEs_ok h']
      rfl
    · cases h
/-- the own names of a comprehension's block, with their slots -/
def ownOf (N : List Str) (names : List (Str × NameKind)) : List (Str × Nat) := isort (fun a b => decide (a.2 ≤ b.2)) (names.filterMap fun y => match y.2 with
  | .local => (let i := N.findIdx (· == y.1); if N[i]? = some y.1 then some (y.1, i) else none)
  | .cell => (let i := N.findIdx (· == y.1); if N[i]? = some y.1 then some (y.1, i) else none)
  | _ => none)
def Ck.blk (c : Ck) (scope : Scope) : Ck := { c with sc := relS scope c.sc, fn := fun x => scope.names.lookup x == some .cell, t := c.t.noLam }
/-- a lambda's body -/
def Ck.lamC (c : Ck) (scope : Scope) : Ck := { c with sc := scope, fn := fun _ => false, t := c.t.noLam }
mutual
def cG : Nat → Ck → Expr → Option Tg
  | 0, _, _ => none
  | n + 1, c, e => match e with
    | .Name x _ => (c.sto x).map .name
    | .Tuple es _ _ => (cGs n c es).map .tup
    | _ => none
def cGs : Nat → Ck → List Expr → Option (List Tg)
  | 0, _, _ => none
  | n + 1, c, es => match es with
    | [] => some []
    | e :: r => if notStar e then (cG n c e).bind fun t => (cGs n c r).map (t :: ·) else none
end
mutual
def cE : Nat → Ck → Expr → Option CE
  | 0, _, _ => none
  | n + 1, c, e => match e with
    | .Name x _ => (match c.slot x with
      | some i => some (.var i)
      | none => if c.gl x then (match c.t.nums.lookup x with
        | some k => some (.glo x (.int k))
        | none => (c.sig x).bind fun s => if s.2 then none else some (.glo x (.fn s.1))) else none)
    | .Constant (.int i) _ _ => some (.lit (.int i))
    | .Constant (.bool b) _ _ => some (.lit (.bl b))
    | .Constant (.str x) _ _ => some (.lit (.str x))
    | .Constant .none _ _ => some (.lit .non)
    | .BinOp a op b _ => (bop? op).bind fun o => (cE n c a).bind fun ca => (cE n c b).bind fun cb => some (.bin o ca cb)
    | .UnaryOp .USub a _ => (cE n c a).bind fun ca => some (.neg ca)
    | .UnaryOp .Not a _ => (cE n c a).bind fun ca => some (.bnot ca)
    | .BoolOp .And vs _ => (cEs n c vs).bind bAnd
    | .BoolOp .Or vs _ => (cEs n c vs).bind bOr
    | .Compare a [o] [b] _ => (cE n c a).bind fun ca => (cE n c b).bind fun cb => if behindInMarks o b then none else some (.cmp (cop? o) ca cb)
    | .Compare a [o, p] [b, d] _ => (cE n c a).bind fun ca => (cE n c b).bind fun cb => (cE n c d).bind fun cd => if lastMarks [o, p] [b, d] then none else some (.chn (cop? o) (cop? p) ca cb cd)
    | .Compare a [o, p, q] [b, d, f] _ => (cE n c a).bind fun ca => (cE n c b).bind fun cb => (cE n c d).bind fun cd => (cE n c f).bind fun cf => if lastMarks [o, p, q] [b, d, f] then none else some (.chn3 (cop? o) (cop? p) (cop? q) ca cb cd cf)
    | .IfExp t a b _ => (cE n c t).bind fun ct => (cE n c a).bind fun ca => (cE n c b).bind fun cb => some (.ife ct ca cb)
    | .Tuple es _ _ => (cEs n c es).bind fun ces => some (.tup ces)
    | .List es _ => (cEs n c es).bind fun ces => some (.lst ces)
    | .Subscript a (.Slice (some lo) none none _) _ => (cE n c a).bind fun ca => (cE n c lo).bind fun cl => some (.slL ca cl)
    | .Subscript a (.Slice none (some hi) none _) _ => (cE n c a).bind fun ca => (cE n c hi).bind fun cl => some (.slU ca cl)
    | .Subscript a (.Slice (some lo) (some hi) none _) _ => (cE n c a).bind fun ca => (cE n c lo).bind fun cl => (cE n c hi).bind fun ch => some (.slB ca cl ch)
    | .Subscript a (.Slice none none (some (.UnaryOp .USub (.Constant (.int 1) _ _) _)) _) _ => (cE n c a).bind fun ca => some (.rvs ca)
    | .Subscript a b _ => if plainIx b then (cE n c a).bind fun ca => (cE n c b).bind fun cb => some (.idx ca cb) else none
    | .ListComp elt [⟨tg, iter, ifs, 0⟩] scope _ => (cC n c elt tg iter ifs scope).map fun r => .comp r.1 r.2.1 r.2.2.1 r.2.2.2.1 r.2.2.2.2
    | .Call (.Name x _) args [] _ => if c.gl x then (match args with
      | [.Lambda params body scope _] => if c.t.lam = true ∧ x = ("_law_try" : Str) ∧ LamX.lamSB c.sc scope = true ∧ noPar params = true then (cE n (c.lamC scope) body).map .tryl else none
      | [a, .Name y _] => if x = ("isinstance" : Str) then (if c.gl y && notStar a then (kd? y).bind fun k => (cE n c a).bind fun ca => some (.isi ca [k]) else none) else cCall n c x args
      | [a, .Tuple ks z _] => if x = ("isinstance" : Str) then (if notStar a then (kdEs ks).bind fun ks => if ks.all (fun q => c.gl (Str.ofString (kdNm q.1))) && decide (ks.length ≤ 8) then (cE n c a).bind fun ca => some (.isi ca (ks.map (·.1))) else none else none) else cCall n c x args
      | [.Call (.Name y _) [a] [] _] => if x = ("sorted" : Str) ∧ y = ("set" : Str) then (if c.gl y && notStar a then (cE n c a).bind fun ca => some (.blt .sset [ca]) else none)
        else if x = ("len" : Str) ∧ y = ("set" : Str) then (if c.gl y && notStar a then (cE n c a).bind fun ca => some (.lenset ca) else none) else cCall n c x args
      | _ => cCall n c x args) else (match c.slot x, args with
      | some i, e :: es => (cEs n c (e :: es)).bind fun ces => some (.cval i ces)
      | _, _ => none)
    | _ => none
def cEs : Nat → Ck → List Expr → Option (List CE)
  | 0, _, _ => none
  | n + 1, c, es => match es with
    | [] => some []
    | e :: r => if notStar e then (cE n c e).bind fun t => (cEs n c r).map (t :: ·) else none
def cCall : Nat → Ck → Str → List Expr → Option CE
  | 0, _, _, _ => none
  | n + 1, c, x, args => match c.sig x with
    | some (i, false) => (cEs n c args).bind fun ces => some (.call i ces)
    | some (i, true) => (match args with
      | .Name y _ :: r => (c.slot y).bind fun j => (cEs n c r).bind fun ces => some (.cio i j ces)
      | _ => none)
    | none => (blt? x).bind fun b => (match args with
      | [] => none
      | _ => (cEs n c args).bind fun ces => some (.blt b ces))
def cI : Nat → Ck → Bool → Expr → Option It
  | 0, _, _, _ => none
  | n + 1, c, tup, e => match e with
    | .Call (.Name x _) [a] [] _ => if x = ("range" : Str) ∧ c.gl x = true then (if notStar a then (cE n c a).bind fun ca => some (.rng1 ca) else none)
      else if x = ("enumerate" : Str) ∧ c.gl x = true ∧ tup = true then (if notStar a then (cE n c a).bind fun ca => some (.enm ca) else none) else (cE n c e).bind fun ce => some (.seq ce)
    | .Call (.Name x _) [a, b] [] _ => if x = ("range" : Str) ∧ c.gl x = true then (if notStar a && notStar b then (cE n c a).bind fun ca => (cE n c b).bind fun cb => some (.rng2 ca cb) else none)
      else if x = ("zip" : Str) ∧ c.gl x = true ∧ tup = true then (if notStar a && notStar b then (cE n c a).bind fun ca => (cE n c b).bind fun cb => some (.zip ca cb) else none) else (cE n c e).bind fun ce => some (.seq ce)
    | e => (cE n c e).bind fun ce => some (.seq ce)
def cC : Nat → Ck → Expr → Expr → Expr → List Expr → Scope → Option (CE × Tg × It × List CE × List Nat)
  | 0, _, _, _, _, _, _ => none
  | n + 1, c, elt, tg, iter, ifs, scope => let own := ownOf c.N scope.names; let c' := c.blk scope
    if blkC c.N c.sc scope own && notFold iter && decide (ifs.length ≤ 1) then
      (cG n c' tg).bind fun ctg => (cI n c (isTup tg) iter).bind fun it => (cEs n c' ifs).bind fun cifs => (cE n c' elt).bind fun ce =>
        if ctg.slots.all (fun j => decide (j ∈ own.map (·.2))) then some (ce, ctg, it, cifs, own.map (·.2)) else none
    else none
end
end Cor

set_option Elab.async false
set_option linter.all false
set_option maxRecDepth 100000
set_option maxHeartbeats 4200000
/-! ChkA: the reading is right: expressions. -/
namespace Cor
open PySem PySem.Spec L2
open PyProof.Rows hiding St
structure Ok3 (X : Cx) (g : Gx) (cf : CF) (W : WX) (e : Expr) (ce : CE) : Prop where
  e1 : PE X e (SemE g cf W ce)
  o : PE X e (SemO g cf W ce)
  t : PT X e (SemT g cf W ce)
structure CompOk (X : Cx) (g : Gx) (cf : CF) (W : WX) (elt tg iter : Expr) (ifs : List Expr) (scope : Scope) (own : List (Str × Nat)) (ce : CE) (ctg : Tg) (it : It) (cifs : List CE) : Prop where
  hi : PI X tg iter (SemI g cf W it)
  ok : BlkOk X.N X.env.scope scope own
  hsl : ∀ j ∈ ctg.slots, j ∈ own.map (·.2)
  hg : ∀ (s : Shared) (H : Hp) (C : Addr) (cl : List (Str × Addr)) (fp : List Addr), PG (X.blk s H scope (compEnvC scope cl C X.env) fp) tg (SemGI g it.tn ctg)
  ht : ∀ (s : Shared) (H : Hp) (C : Addr) (cl : List (Str × Addr)) (fp : List Addr), PTs (X.blk s H scope (compEnvC scope cl C X.env) fp) ifs (SemTs g cf WF cifs)
  he : ∀ (s : Shared) (H : Hp) (C : Addr) (cl : List (Str × Addr)) (fp : List Addr), PE (X.blk s H scope (compEnvC scope cl C X.env) fp) elt (SemF g cf WF ce)
  hs : ∀ x, foldedSetIterable iter X.env x = pure x
section
variable {g : Gx} {cf : CF} {k : Nat}
theorem units_ok {t : Stc} {X : Cx} {W : WX} (O : XOk g t cf k X W) : X.A.units + 65 < cLine ∧ X.A.units + 64 < cLine := by
  have := O.room.un
  omega
theorem ok3_of {X : Cx} {W : WX} {e : Expr} {ce : CE} (hK : X.K = g.K) (h : PE X e (SemE g cf W ce)) (nv : ∀ i, ce ≠ .var i) (he : ∀ whole, isTrue e X.env whole = (do let v ← whole; standAt e.pos; holding [v] (truthy v))) : Ok3 X g cf W e ce :=
  ⟨h, semO_of (semF h) (fun env => by cases ce <;> first | rfl | exact absurd rfl (nv _)), t_any hK (semF h) he⟩
theorem ok3_t {X : Cx} {W : WX} {e : Expr} {ce : CE} (h : PE X e (SemE g cf W ce)) (nv : ∀ i, ce ≠ .var i) (t : PT X e (SemT g cf W ce)) : Ok3 X g cf W e ce :=
  ⟨h, semO_of (semF h) (fun env => by cases ce <;> first | rfl | exact absurd rfl (nv _)), t⟩
theorem Ok3.f {X : Cx} {W : WX} {e : Expr} {ce : CE} (h : Ok3 X g cf W e ce) : PE X e (SemF g cf W ce) := semF h.e1
theorem ok_A {X : Cx} {W : WX} : ∀ {es : List Expr} {ces : List CE}, es.all notStar = true → Paired (Ok3 X g cf W) es ces → PA X es (SemA g cf W ces)
  | _, _, _, .nil => a_nil
  | _, _, n, .cons h r => by
    rw [List.all_cons, Bool.and_eq_true] at n
    exact a_cons h.f (ok_A n.2 r) n.1
theorem ok_AO {X : Cx} {W : WX} : ∀ {es : List Expr} {ces : List CE}, es.all notStar = true → Paired (Ok3 X g cf W) es ces → PA X es (SemAO g cf W ces)
  | _, _, _, .nil => o_nil
  | _, _, n, .cons h r => by
    rw [List.all_cons, Bool.and_eq_true] at n
    exact o_cons h.o (ok_AO n.2 r) n.1
theorem ok_P {X : Cx} {W : WX} : ∀ {es : List Expr} {ces : List CE}, es.all notStar = true → Paired (Ok3 X g cf W) es ces → PA X es (SemP g cf W ces)
  | _, _, _, .nil => p_nil
  | _, _, n, .cons h r => by
    rw [List.all_cons, Bool.and_eq_true] at n
    exact p_cons h.e1 (ok_P n.2 r) n.1
theorem ok_and {X : Cx} {W : WX} {pos : Pos} : ∀ {es : List Expr} {ces : List CE} {ce : CE}, Paired (Ok3 X g cf W) es ces → bAnd ces = some ce → Ok3 X g cf W (.BoolOp .And es pos) ce ∧ PW X (.BoolOp .And es pos) (SemT g cf W ce)
  | [], _, _, .nil, h => by cases h
  | [e], _, _, .cons h .nil, q => by
    cases q
    exact ⟨⟨⟨fun pins s σ H Q I q => h.e1.run pins s σ H Q I q⟩, ⟨fun pins s σ H Q I q => h.o.run pins s σ H Q I q⟩, (pw_and1 h.t).pt⟩, pw_and1 h.t⟩
  | e :: e2 :: es, _, _, .cons h (.cons h2 r2), q => by
    unfold bAnd at q
    simp only [Option.map_eq_some_iff] at q
    obtain ⟨cb, e1, rfl⟩ := q
    obtain ⟨i1, i2⟩ := ok_and (pos := pos) (.cons h2 r2) e1
    exact ⟨ok3_t (s_band h.f i1.e1) (fun _ z => nomatch z) (t_band h.t i2).pt, t_band h.t i2⟩
theorem ok_or {X : Cx} {W : WX} {pos : Pos} : ∀ {es : List Expr} {ces : List CE} {ce : CE}, Paired (Ok3 X g cf W) es ces → bOr ces = some ce → Ok3 X g cf W (.BoolOp .Or es pos) ce ∧ PW X (.BoolOp .Or es pos) (SemT g cf W ce)
  | [], _, _, .nil, h => by cases h
  | [e], _, _, .cons h .nil, q => by
    cases q
    exact ⟨⟨⟨fun pins s σ H Q I q => h.e1.run pins s σ H Q I q⟩, ⟨fun pins s σ H Q I q => h.o.run pins s σ H Q I q⟩, (pw_or1 h.t).pt⟩, pw_or1 h.t⟩
  | e :: e2 :: es, _, _, .cons h (.cons h2 r2), q => by
    unfold bOr at q
    simp only [Option.map_eq_some_iff] at q
    obtain ⟨cb, e1, rfl⟩ := q
    obtain ⟨i1, i2⟩ := ok_or (pos := pos) (.cons h2 r2) e1
    exact ⟨ok3_t (s_bor h.f i1.e1) (fun _ z => nomatch z) (t_bor h.t i2).pt, t_bor h.t i2⟩
theorem asg_cons {e : Expr} (h : notStar e = true) (es : List Expr) (env : PySem.Env) : assignEach (e :: es) env = (false, assign e env) :: assignEach es env := by
  cases e <;> first | rfl | cases h
theorem asg_ok : ∀ {es : List Expr} {env : PySem.Env}, es.all notStar = true → (assignEach es env).length = es.length ∧ (assignEach es env).findIdx? (·.1) = none
  | [], _, _ => ⟨rfl, rfl⟩
  | e :: es, env, h => by
    rw [List.all_cons, Bool.and_eq_true] at h
    rw [asg_cons h.1]
    obtain ⟨h1, h2⟩ := asg_ok (env := env) h.2
    refine ⟨by rw [List.length_cons, List.length_cons, h1], ?_⟩
    rw [List.findIdx?_cons, h2]
    rfl
theorem cG_ok {X : Cx} {c : Ck} (K : CkOk c X) (hN : X.N.Nodup) (hc : X.calm = true) : ∀ n, (∀ e tg, cG n c e = some tg → PG X e (SemG g tg) ∧ notStar e = true) ∧ (∀ es tgs, cGs n c es = some tgs → PGs X es (SemGs g tgs) ∧ es.all notStar = true ∧ es.length = tgs.length)
  | 0 => ⟨fun _ _ h => (by simp only [cG] at h; cases h), fun _ _ h => (by simp only [cGs] at h; cases h)⟩
  | n + 1 => by
    obtain ⟨i1, i2⟩ := cG_ok K hN hc n
    refine ⟨fun e tg h => ?_, fun es tgs h => ?_⟩
    · unfold cG at h
      split at h
      · rename_i x p
        simp only [Option.map_eq_some_iff] at h
        obtain ⟨i, hi, rfl⟩ := h
        obtain ⟨a1, a2, a3⟩ := Ck.sto_ok hi K
        exact ⟨g_name (pg_name hN a1 a2 a3), rfl⟩
      · rename_i es k p
        simp only [Option.map_eq_some_iff] at h
        obtain ⟨tgs, hi, rfl⟩ := h
        obtain ⟨a1, a2, a3⟩ := i2 _ _ hi
        obtain ⟨b1, b2⟩ := asg_ok (env := X.env) a2
        exact ⟨g_tup hc a1 (by rw [b1, a3]) b2, rfl⟩
      · cases h
    · unfold cGs at h
      split at h
      · cases h
        exact ⟨gs_nil, rfl, rfl⟩
      · rename_i e r
        split at h
        · rename_i hn
          simp only [Option.bind_eq_some_iff, Option.map_eq_some_iff] at h
          obtain ⟨tg, h1, tgs, h2, rfl⟩ := h
          obtain ⟨a1, a2⟩ := i1 _ _ h1
          obtain ⟨b1, b2, b3⟩ := i2 _ _ h2
          exact ⟨gs_cons a1 b1 (by rw [asg_cons hn]; rfl), by rw [List.all_cons, hn, b2]; rfl, by simp [b3]⟩
        · cases h
/-- for an iterator that hands out its own tuples the target is a tuple -/
theorem cG_okI {X : Cx} {c : Ck} (K : CkOk c X) (hN : X.N.Nodup) (hc : X.calm = true) {n : Nat} {e : Expr} {tg : Tg} (h : cG n c e = some tg) {tn : Bool} (ht : tn = true → isTup e = true) : PG X e (SemGI g tn tg) := by
  cases tn with
  | false => exact g_nameI ((cG_ok K hN hc n).1 _ _ h).1
  | true =>
    have ht := ht rfl
    cases n with
    | zero => simp only [cG] at h; cases h
    | succ n =>
      unfold cG at h
      split at h
      · cases ht
      · rename_i es k p
        simp only [Option.map_eq_some_iff] at h
        obtain ⟨tgs, hi, rfl⟩ := h
        obtain ⟨a1, a2, a3⟩ := (cG_ok (g := g) K hN hc n).2 _ _ hi
        obtain ⟨b1, b2⟩ := asg_ok (env := X.env) a2
        exact g_tupI hc a1 (by rw [b1, a3]) b2
      · cases h
structure AllOk (g : Gx) (cf : CF) (k : Nat) (n : Nat) : Prop where
  e : ∀ c e ce, cE n c e = some ce → ∀ X W, CkOk c X → XOk g c.t cf k X W → Ok3 X g cf W e ce
  es : ∀ c es ces, cEs n c es = some ces → es.all notStar = true ∧ ∀ X W, CkOk c X → XOk g c.t cf k X W → Paired (Ok3 X g cf W) es ces
  cl : ∀ c x args ce, cCall n c x args = some ce → c.gl x = true → (∀ i, ce ≠ .var i) ∧ ∀ X W p pos, CkOk c X → XOk g c.t cf k X W → PE X (.Call (.Name x p) args [] pos) (SemE g cf W ce)
  i : ∀ c tup e it, cI n c tup e = some it → (it.tn = true → tup = true) ∧ ∀ X W tg, (tup = true → ∃ elts kk tpos, tg = .Tuple elts kk tpos) → CkOk c X → XOk g c.t cf k X W → PI X tg e (SemI g cf W it)
  c : ∀ c elt tg iter ifs scope r, cC n c elt tg iter ifs scope = some r → ∃ own, r.2.2.2.2 = own.map (·.2) ∧ ∀ X W, CkOk c X → XOk g c.t cf k X W → CompOk X g cf W elt tg iter ifs scope own r.1 r.2.1 r.2.2.1 r.2.2.2.1
theorem ckBlk {X : Cx} {c : Ck} (K : CkOk c X) (scope : Scope) (s : Shared) (H : Hp) (C : Addr) (cl : List (Str × Addr)) (fp : List Addr) : CkOk (c.blk scope) (X.blk s H scope (compEnvC scope cl C X.env) fp) :=
  ⟨K.N, by show relS scope X.env.scope = relS scope c.sc; rw [K.sc], rfl⟩
theorem glo_ok {X : Cx} {c : Ck} {W : WX} {x : Str} {p : Pos} {kk : Int} (O : XOk g c.t cf k X W) (K : CkOk c X) (hg : c.gl x = true) (h : c.t.nums.lookup x = some kk) : PE X (.Name x p) (SemE g cf W (.glo x (.int kk))) := by
  obtain ⟨u, hm⟩ := O.wld.nums _ _ h
  obtain ⟨a1, a2⟩ := Ck.gl_ok hg K
  exact s_glo (v := .int kk) (pe_glob a1 hm ⟨u, rfl⟩ a2) fun G => .int
theorem fn_ok {X : Cx} {c : Ck} {W : WX} {x : Str} {p : Pos} {i : Nat} (O : XOk g c.t cf k X W) (K : CkOk c X) (hg : c.gl x = true) (h : c.sig x = some (i, false)) : PE X (.Name x p) (SemE g cf W (.glo x (.fn i))) := by
  obtain ⟨np, hs⟩ := Ck.sig_ok h
  obtain ⟨a, ha, hm, _⟩ := O.wld.fns i x np false hs
  have ha := ha rfl
  obtain ⟨a1, a2⟩ := Ck.gl_ok hg K
  exact s_glo (v := .ref a) (pe_glob a1 hm rfl a2) fun G => by simp only [Rep]; exact ⟨a, rfl, ha⟩
theorem all_ok_e {n : Nat} (IH : AllOk g cf k n) : ∀ c e ce, cE (n + 1) c e = some ce → ∀ X W, CkOk c X → XOk g c.t cf k X W → Ok3 X g cf W e ce := by
  intro c e ce h X W K O
  have hK := O.hK
  obtain ⟨u1, u2⟩ := units_ok O
  have E1 : ∀ {e ce}, cE n c e = some ce → Ok3 X g cf W e ce := fun h => IH.e _ _ _ h X W K O
  unfold cE at h
  split at h
  case h_1 =>
    split at h
    · rename_i i hs
      cases h
      have hv := Ck.slot_ok (p := ‹Pos›) hs K
      exact ⟨s_var hv, semO_var hv, t_any hK (semF (s_var hv)) fun _ => rfl⟩
    · split at h
      · rename_i hg
        split at h
        · rename_i kk hk
          cases h
          exact ok3_of hK (glo_ok O K hg hk) (fun _ z => nomatch z) fun _ => rfl
        · simp only [Option.bind_eq_some_iff] at h
          obtain ⟨⟨i, io⟩, hs, h⟩ := h
          cases io with
          | true => cases h
          | false =>
            cases h
            exact ok3_of hK (fn_ok O K hg hs) (fun _ z => nomatch z) fun _ => rfl
      · cases h
  case h_2 => cases h; exact ok3_of hK (s_lit pe_int fun G => .int) (fun _ z => nomatch z) fun _ => rfl
  case h_3 => cases h; exact ok3_of hK (s_lit pe_bl fun G => .bl) (fun _ z => nomatch z) fun _ => rfl
  case h_4 => cases h; exact ok3_of hK (s_lit pe_str fun G => .str) (fun _ z => nomatch z) fun _ => rfl
  case h_5 => cases h; exact ok3_of hK (s_lit pe_non fun G => .non) (fun _ z => nomatch z) fun _ => rfl
  case h_6 =>
    simp only [Option.bind_eq_some_iff] at h
    obtain ⟨o, h0, ca, h1, cb, h2, e⟩ := h
    cases e
    rw [bop_ok h0]
    exact ok3_of hK (s_bin hK o (E1 h1).o (E1 h2).o) (fun _ z => nomatch z) fun _ => rfl
  case h_7 =>
    simp only [Option.bind_eq_some_iff] at h
    obtain ⟨ca, h1, e⟩ := h
    cases e
    exact ok3_of hK (s_neg (E1 h1).f) (fun _ z => nomatch z) fun _ => rfl
  case h_8 =>
    simp only [Option.bind_eq_some_iff] at h
    obtain ⟨ca, h1, e⟩ := h
    cases e
    exact ok3_t (s_bnot hK (E1 h1).f) (fun _ z => nomatch z) (t_bnot (E1 h1).t)
  case h_9 =>
    simp only [Option.bind_eq_some_iff] at h
    obtain ⟨ces, h1, e⟩ := h
    exact (ok_and ((IH.es _ _ _ h1).2 X W K O) e).1
  case h_10 =>
    simp only [Option.bind_eq_some_iff] at h
    obtain ⟨ces, h1, e⟩ := h
    exact (ok_or ((IH.es _ _ _ h1).2 X W K O) e).1
  case h_11 =>
    rename_i o b p
    simp only [Option.bind_eq_some_iff] at h
    obtain ⟨ca, h1, cb, h2, e⟩ := h
    split at e
    · cases e
    · rename_i hm
      cases e
      have eo := cop_ok o
      generalize cop? o = o' at eo ⊢
      subst eo
      have hm := eq_false_of_ne_true hm
      exact ok3_t (s_cmp hK u1 o' (E1 h1).o (E1 h2).o hm) (fun _ z => nomatch z) (t_cmp hK u1 o' (E1 h1).o (E1 h2).o hm)
  case h_12 =>
    rename_i o q b d p
    simp only [Option.bind_eq_some_iff] at h
    obtain ⟨ca, h1, cb, h2, cd, h3, e⟩ := h
    split at e
    · cases e
    · rename_i hm
      cases e
      have eo := cop_ok o
      generalize cop? o = o' at eo ⊢
      subst eo
      have eo := cop_ok q
      generalize cop? q = q' at eo ⊢
      subst eo
      have hm := eq_false_of_ne_true hm
      exact ok3_t (s_chn hK u1 o' q' (E1 h1).f (E1 h2).f (E1 h3).f hm) (fun _ z => nomatch z) (t_chn hK u1 o' q' (E1 h1).f (E1 h2).f (E1 h3).f hm)
  case h_13 =>
    rename_i o q r b d f p
    simp only [Option.bind_eq_some_iff] at h
    obtain ⟨ca, h1, cb, h2, cd, h3, ce', h4, e⟩ := h
    split at e
    · cases e
    · rename_i hm
      cases e
      have eo := cop_ok o
      generalize cop? o = o' at eo ⊢
      subst eo
      have eo := cop_ok q
      generalize cop? q = q' at eo ⊢
      subst eo
      have eo := cop_ok r
      generalize cop? r = r' at eo ⊢
      subst eo
      have hm := eq_false_of_ne_true hm
      exact ok3_t (s_chn3 hK u1 o' q' r' (E1 h1).f (E1 h2).f (E1 h3).f (E1 h4).f hm) (fun _ z => nomatch z) (t_chn3 hK u1 o' q' r' (E1 h1).f (E1 h2).f (E1 h3).f (E1 h4).f hm)
  case h_14 =>
    simp only [Option.bind_eq_some_iff] at h
    obtain ⟨ct, h1, ca, h2, cb, h3, e⟩ := h
    cases e
    exact ok3_t (s_ife (E1 h1).t (E1 h2).f (E1 h3).f) (fun _ z => nomatch z) (t_ife (E1 h1).t (E1 h2).t (E1 h3).t)
  case h_15 =>
    simp only [Option.bind_eq_some_iff] at h
    obtain ⟨ces, h1, e⟩ := h
    cases e
    obtain ⟨a1, a2⟩ := IH.es _ _ _ h1
    exact ok3_of hK (s_tup (ok_A a1 (a2 X W K O))) (fun _ z => nomatch z) fun _ => rfl
  case h_16 =>
    simp only [Option.bind_eq_some_iff] at h
    obtain ⟨ces, h1, e⟩ := h
    cases e
    obtain ⟨a1, a2⟩ := IH.es _ _ _ h1
    exact ok3_of hK (s_lst (ok_A a1 (a2 X W K O))) (fun _ z => nomatch z) fun _ => rfl
  case h_17 =>
    simp only [Option.bind_eq_some_iff] at h
    obtain ⟨ca, h1, cl, h2, e⟩ := h
    cases e
    exact ok3_of hK (s_slL hK (E1 h1).o (E1 h2).f) (fun _ z => nomatch z) fun _ => rfl
  case h_18 =>
    simp only [Option.bind_eq_some_iff] at h
    obtain ⟨ca, h1, cl, h2, e⟩ := h
    cases e
    exact ok3_of hK (s_slU hK (E1 h1).o (E1 h2).f) (fun _ z => nomatch z) fun _ => rfl
  case h_19 =>
    simp only [Option.bind_eq_some_iff] at h
    obtain ⟨ca, h1, cl, h2, ch, h3, e⟩ := h
    cases e
    exact ok3_of hK (s_slB hK (E1 h1).o (E1 h2).f (E1 h3).f) (fun _ z => nomatch z) fun _ => rfl
  case h_20 =>
    simp only [Option.bind_eq_some_iff] at h
    obtain ⟨ca, h1, e⟩ := h
    cases e
    exact ok3_of hK (s_rvs (E1 h1).o) (fun _ z => nomatch z) fun _ => rfl
  case h_21 =>
    split at h
    · rename_i hp
      simp only [Option.bind_eq_some_iff] at h
      obtain ⟨ca, h1, cb, h2, e⟩ := h
      cases e
      exact ok3_of hK (s_idx hK (E1 h1).o (E1 h2).f (plainIx_ok hp)) (fun _ z => nomatch z) fun _ => rfl
    · cases h
  case h_22 =>
    simp only [Option.map_eq_some_iff] at h
    obtain ⟨r, h1, rfl⟩ := h
    obtain ⟨own, e, q⟩ := IH.c _ _ _ _ _ _ _ h1
    have q := q X W K O
    rw [e]
    exact ok3_of hK (s_comp O q.hi q.ok q.hsl q.hg q.ht q.he q.hs) (fun _ z => nomatch z) fun _ => rfl
  case h_23 =>
    rename_i x p args pos
    split at h
    · rename_i hg
      have CC : ∀ {args}, cCall n c x args = some ce → Ok3 X g cf W (.Call (.Name x p) args [] pos) ce := fun h => by
        obtain ⟨a1, a2⟩ := IH.cl _ _ _ _ h hg
        exact ok3_of hK (a2 X W p pos K O) a1 fun _ => rfl
      split at h
      · split at h
        · rename_i params body scope lpos hx
          obtain ⟨c1, rfl, c2, c3⟩ := hx
          simp only [Option.map_eq_some_iff] at h
          obtain ⟨cb, h1, rfl⟩ := h
          exact ok3_of hK (O.lam c1 params body scope cb p lpos pos (Ck.gl_ok hg K).1 (by rw [K.sc]; exact LamX.lamS_by c2) c3 fun A outer s H E f c' hr => (IH.e (c.lamC scope) body cb h1 (lamCxN X A outer s H E scope f c') (fun cls d _ H => E cls d H) ⟨K.N, rfl, rfl⟩ (O.lamX hr)).e1) (fun _ z => nomatch z) fun _ => rfl
        · cases h
      · split at h
        · rename_i hx
          subst hx
          split at h
          · rename_i hg2
            rw [Bool.and_eq_true] at hg2
            simp only [Option.bind_eq_some_iff] at h
            obtain ⟨j, hj, ca, h1, e⟩ := h
            cases e
            have ey := kd_ok hj
            subst ey
            exact ok3_of hK (s_isi1 O j (Ck.gl_ok hg K).1 (Ck.gl_ok hg2.1 K).1 (E1 h1).o hg2.2) (fun _ z => nomatch z) fun _ => rfl
          · cases h
        · exact CC h
      · split at h
        · rename_i hx
          subst hx
          split at h
          · rename_i hn
            simp only [Option.bind_eq_some_iff] at h
            obtain ⟨ks, hk, h⟩ := h
            split at h
            · rename_i hz
              rw [Bool.and_eq_true, decide_eq_true_eq] at hz
              simp only [Option.bind_eq_some_iff] at h
              obtain ⟨ca, h1, e⟩ := h
              cases e
              rw [kdEs_ok hk]
              exact ok3_of hK (s_isiN O ks hz.2 (Ck.gl_ok hg K).1 (fun q hq => (Ck.gl_ok (List.all_eq_true.mp hz.1 q hq) K).1) (E1 h1).o hn) (fun _ z => nomatch z) fun _ => rfl
            · cases h
          · cases h
        · exact CC h
      · split at h
        · rename_i hx
          obtain ⟨hx, hy⟩ := hx
          subst hx hy
          split at h
          · rename_i hg2
            rw [Bool.and_eq_true] at hg2
            simp only [Option.bind_eq_some_iff] at h
            obtain ⟨ca, h1, e⟩ := h
            cases e
            exact ok3_of hK (s_sset O u2 (Ck.gl_ok hg K).1 (Ck.gl_ok hg2.1 K).1 (E1 h1).o hg2.2) (fun _ z => nomatch z) fun _ => rfl
          · cases h
        · split at h
          · rename_i hx
            obtain ⟨hx, hy⟩ := hx
            subst hx hy
            split at h
            · rename_i hg2
              rw [Bool.and_eq_true] at hg2
              simp only [Option.bind_eq_some_iff] at h
              obtain ⟨ca, h1, e⟩ := h
              cases e
              exact ok3_of hK (s_lenset O (Ck.gl_ok hg K).1 (Ck.gl_ok hg2.1 K).1 (E1 h1).o hg2.2) (fun _ z => nomatch z) fun _ => rfl
            · cases h
          · exact CC h
      · exact CC h
    · split at h
      · rename_i i e es hs
        simp only [Option.bind_eq_some_iff] at h
        obtain ⟨ces, h1, e⟩ := h
        cases e
        obtain ⟨b1, b2⟩ := IH.es _ _ _ h1
        exact ok3_of hK (s_cval O (Ck.slot_ok hs K) (ok_A b1 (b2 X W K O)) b1) (fun _ z => nomatch z) fun _ => rfl
      · cases h
  case h_24 => cases h
theorem all_ok_es {n : Nat} (IH : AllOk g cf k n) : ∀ c es ces, cEs (n + 1) c es = some ces → es.all notStar = true ∧ ∀ X W, CkOk c X → XOk g c.t cf k X W → Paired (Ok3 X g cf W) es ces := by
  intro c es ces h
  unfold cEs at h
  split at h
  · cases h
    exact ⟨rfl, fun _ _ _ _ => .nil⟩
  · rename_i e r
    split at h
    · rename_i hn
      simp only [Option.bind_eq_some_iff, Option.map_eq_some_iff] at h
      obtain ⟨ce, h1, ces', h2, rfl⟩ := h
      obtain ⟨b1, b2⟩ := IH.es _ _ _ h2
      exact ⟨by rw [List.all_cons, hn, b1]; rfl, fun X W K O => .cons (IH.e _ _ _ h1 X W K O) (b2 X W K O)⟩
    · cases h
theorem all_ok_cl {n : Nat} (IH : AllOk g cf k n) : ∀ c x args ce, cCall (n + 1) c x args = some ce → c.gl x = true → (∀ i, ce ≠ .var i) ∧ ∀ X W p pos, CkOk c X → XOk g c.t cf k X W → PE X (.Call (.Name x p) args [] pos) (SemE g cf W ce) := by
  intro c x args ce h hg
  unfold cCall at h
  split at h
  · rename_i i hs
    obtain ⟨np, hs⟩ := Ck.sig_ok hs
    simp only [Option.bind_eq_some_iff] at h
    obtain ⟨ces, h1, e⟩ := h
    cases e
    obtain ⟨b1, b2⟩ := IH.es _ _ _ h1
    refine ⟨fun _ z => (nomatch z), fun X W p pos K O => ?_⟩
    obtain ⟨a1, a2⟩ := Ck.gl_ok hg K
    cases args with
    | nil =>
      cases b2 X W K O
      exact s_call0 O hs a1 a2
    | cons e es => exact s_call O hs a1 a2 (ok_A b1 (b2 X W K O)) b1
  · rename_i i hs
    obtain ⟨np, hs⟩ := Ck.sig_ok hs
    split at h
    · rename_i y py r
      simp only [Option.bind_eq_some_iff] at h
      obtain ⟨j, hj, ces, h1, e⟩ := h
      cases e
      obtain ⟨b1, b2⟩ := IH.es _ _ _ h1
      refine ⟨fun _ z => (nomatch z), fun X W p pos K O => ?_⟩
      obtain ⟨a1, a2⟩ := Ck.gl_ok hg K
      exact s_cio O hs a1 a2 (Ck.slot_ok hj K) (ok_A b1 (b2 X W K O)) b1
    · cases h
  · simp only [Option.bind_eq_some_iff] at h
    obtain ⟨b, hb, h⟩ := h
    obtain ⟨ex, hb'⟩ := blt_ok hb
    subst ex
    split at h
    · cases h
    · rename_i hne
      simp only [Option.bind_eq_some_iff] at h
      obtain ⟨ces, h1, e⟩ := h
      cases e
      obtain ⟨b1, b2⟩ := IH.es _ _ _ h1
      refine ⟨fun _ z => (nomatch z), fun X W p pos K O => ?_⟩
      obtain ⟨a1, a2⟩ := Ck.gl_ok hg K
      cases args with
      | nil => exact (hne rfl).elim
      | cons e es => exact s_blt O b hb' a1 (ok_AO b1 (b2 X W K O)) b1
theorem all_ok_i {n : Nat} (IH : AllOk g cf k n) : ∀ c tup e it, cI (n + 1) c tup e = some it → (it.tn = true → tup = true) ∧ ∀ X W tg, (tup = true → ∃ elts kk tpos, tg = .Tuple elts kk tpos) → CkOk c X → XOk g c.t cf k X W → PI X tg e (SemI g cf W it) := by
  intro c tup e it h
  have SQ : ∀ {e}, (cE n c e).bind (fun ce => some (It.seq ce)) = some it → (it.tn = true → tup = true) ∧ ∀ X W tg, (tup = true → ∃ elts kk tpos, tg = .Tuple elts kk tpos) → CkOk c X → XOk g c.t cf k X W → PI X tg e (SemI g cf W it) := fun h => by
    simp only [Option.bind_eq_some_iff] at h
    obtain ⟨ce, h1, e⟩ := h
    cases e
    refine ⟨fun z => (by cases z), fun X W tg _ K O => i_seq O.hK (IH.e _ _ _ h1 X W K O).f⟩
  unfold cI at h
  split at h
  · rename_i x p a pos
    split at h
    · rename_i hx
      obtain ⟨rfl, hg⟩ := hx
      split at h
      · rename_i hn
        simp only [Option.bind_eq_some_iff] at h
        obtain ⟨ca, h1, e⟩ := h
        cases e
        refine ⟨fun z => (by cases z), fun X W tg _ K O => i_rng1 O (Ck.gl_ok hg K).1 (a_cons (IH.e _ _ _ h1 X W K O).f a_nil hn) hn⟩
      · cases h
    · split at h
      · rename_i hx
        obtain ⟨rfl, hg, ht⟩ := hx
        split at h
        · rename_i hn
          simp only [Option.bind_eq_some_iff] at h
          obtain ⟨ca, h1, e⟩ := h
          cases e
          refine ⟨fun _ => ht, fun X W tg q K O => ?_⟩
          obtain ⟨elts, kk, tpos, rfl⟩ := q ht
          exact i_en O (Ck.gl_ok hg K).1 (a_cons (IH.e _ _ _ h1 X W K O).f a_nil hn) hn
        · cases h
      · exact SQ h
  · rename_i x p a b pos
    split at h
    · rename_i hx
      obtain ⟨rfl, hg⟩ := hx
      split at h
      · rename_i hn
        rw [Bool.and_eq_true] at hn
        simp only [Option.bind_eq_some_iff] at h
        obtain ⟨ca, h1, cb, h2, e⟩ := h
        cases e
        refine ⟨fun z => (by cases z), fun X W tg _ K O => i_rng2 O (Ck.gl_ok hg K).1 (a_cons (IH.e _ _ _ h1 X W K O).f (a_cons (IH.e _ _ _ h2 X W K O).f a_nil hn.2) hn.1) hn.1 hn.2⟩
      · cases h
    · split at h
      · rename_i hx
        obtain ⟨rfl, hg, ht⟩ := hx
        split at h
        · rename_i hn
          rw [Bool.and_eq_true] at hn
          simp only [Option.bind_eq_some_iff] at h
          obtain ⟨ca, h1, cb, h2, e⟩ := h
          cases e
          refine ⟨fun _ => ht, fun X W tg q K O => ?_⟩
          obtain ⟨elts, kk, tpos, rfl⟩ := q ht
          exact i_zp O (Ck.gl_ok hg K).1 (a_cons (IH.e _ _ _ h1 X W K O).f (a_cons (IH.e _ _ _ h2 X W K O).f a_nil hn.2) hn.1) hn.1 hn.2
        · cases h
      · exact SQ h
  · exact SQ h
theorem all_ok_c {n : Nat} (IH : AllOk g cf k n) : ∀ c elt tg iter ifs scope r, cC (n + 1) c elt tg iter ifs scope = some r → ∃ own, r.2.2.2.2 = own.map (·.2) ∧ ∀ X W, CkOk c X → XOk g c.t cf k X W → CompOk X g cf W elt tg iter ifs scope own r.1 r.2.1 r.2.2.1 r.2.2.2.1 := by
  intro c elt tg iter ifs scope r h
  unfold cC at h
  dsimp only at h
  split at h
  · rename_i hb
    simp only [Bool.and_eq_true, decide_eq_true_eq] at hb
    obtain ⟨⟨hb1, hb2⟩, hb3⟩ := hb
    simp only [Option.bind_eq_some_iff] at h
    obtain ⟨ctg, h1, it, h2, cifs, h3, ce, h4, h⟩ := h
    split at h
    · rename_i hsl
      cases h
      obtain ⟨i1, i2⟩ := IH.i _ _ _ _ h2
      obtain ⟨j1, j2⟩ := IH.es _ _ _ h3
      refine ⟨ownOf c.N scope.names, rfl, fun X W K O => ⟨?_, ?_, ?_, ?_, ?_, ?_, notFold_ok hb2⟩⟩
      · refine i2 X W tg (fun z => ?_) K O
        cases tg <;> first | exact ⟨_, _, _, rfl⟩ | cases z
      · rw [K.N, K.sc]; exact blkOk_by hb1
      · intro j hj
        exact of_decide_eq_true (List.all_eq_true.mp hsl j hj)
      · intro s H C cl fp
        exact cG_okI (ckBlk K scope s H C cl fp) O.nd O.calm h1 i1
      · intro s H C cl fp
        have P := j2 _ WF (ckBlk K scope s H C cl fp) (O.blk s H scope _ fp)
        match ifs, cifs, P, hb3 with
        | [], [], .nil, _ => exact ts_nil
        | [e], [ce], .cons a .nil, _ => exact ts_one a.t
        | _ :: _ :: _, _, _, h => simp at h
      · intro s H C cl fp
        exact (IH.e _ _ _ h4 _ WF (ckBlk K scope s H C cl fp) (O.blk s H scope _ fp)).f
    · cases h
  · cases h
theorem all_ok : ∀ n, AllOk g cf k n
  | 0 => ⟨fun _ _ _ h => (by simp only [cE] at h; cases h), fun _ _ _ h => (by simp only [cEs] at h; cases h), fun _ _ _ _ h => (by simp only [cCall] at h; cases h), fun _ _ _ _ h => (by simp only [cI] at h; cases h), fun _ _ _ _ _ _ _ h => (by simp only [cC] at h; cases h)⟩
  | n + 1 => let IH := all_ok n; ⟨all_ok_e IH, all_ok_es IH, all_ok_cl IH, all_ok_i IH, all_ok_c IH⟩
end
end Cor

set_option Elab.async false
set_option linter.all false
set_option maxRecDepth 100000
set_option maxHeartbeats 4200000
/-! ChkS: the program's text read as core: statements. -/
namespace Cor
open PySem PySem.Spec L2
open PyProof.Rows hiding St
def noComp : Expr → Bool
  | .ListComp .. => false
  | .SetComp .. => false
  | .DictComp .. => false
  | _ => true
theorem noComp_ok {e : Expr} {tg : Option Expr} {l : Nat} {env : PySem.Env} (h : noComp e = true) : swapsWith e tg l env = pure false := by
  cases e <;> first | rfl | cases h
def isSlice : Expr → Bool
  | .Slice .. => true
  | _ => false
def isNm : CE → Bool
  | .var _ => true
  | _ => false
theorem isNm_ok {ce : CE} (h : isNm ce = false) : ∀ i, ce ≠ .var i := fun i z => by subst z; cases h
/-- a, b = x, y and a, b, c = x, y, z by plain local names -/
def parC (c : Ck) (ts vs : List Expr) : Option (List Nat) := match ts, vs with
  | [.Name x px, .Name y py], [a, b] => if py.line = px.line ∧ x ≠ y ∧ c.look x = some .local ∧ c.look y = some .local ∧ [a, b].all (foldedForSure 8) = false ∧ [a, b].all (constantsAlone 8) = false then
      (c.ix x).bind fun i => (c.ix y).map fun j => [i, j] else none
  | [.Name x px, .Name y py, .Name z pz], [a, b, d] => if py.line = px.line ∧ pz.line = px.line ∧ x ≠ y ∧ x ≠ z ∧ y ≠ z ∧ c.look x = some .local ∧ c.look y = some .local ∧ c.look z = some .local ∧ [a, b, d].all (foldedForSure 8) = false ∧ [a, b, d].all (constantsAlone 8) = false then
      (c.ix x).bind fun i => (c.ix y).bind fun j => (c.ix z).map fun l => [i, j, l] else none
  | _, _ => none
/-- a, b = x, y whose names are not stored crosswise: constants, a captured name, many -/
def capt (c : Ck) : Expr → Bool
  | .Name x _ => decide (c.look x = some .cell)
  | _ => false
def namesS (c : Ck) : List Expr → Option (List Nat)
  | [] => some []
  | .Name x _ :: r => (c.sto x).bind fun i => (namesS c r).map (i :: ·)
  | _ => none
def plainT (c : Ck) (ts vs : List Expr) : Bool := vs.all (foldedForSure 8) || ts.any (capt c) || !(ts.length == 2 || ts.length == 3)
mutual
def cS : Nat → Ck → Stmt → Option CS
  | 0, _, _ => none
  | n + 1, c, s => match s with
    | .Assign [.Name x p] (.ListComp elt [⟨tg, iter, ifs, 0⟩] scope vp) pos => if c.look x = some .local ∧ (p.line == vp.line) = true ∧ (scope.names.any fun (n, k) => n == x && (k == .local || k == .cell)) = false then
        (c.ix x).bind fun i => (cC n c elt tg iter ifs scope).map fun r => .asg (.name i) (.comp r.1 r.2.1 r.2.2.1 r.2.2.2.1 r.2.2.2.2) else none
    | .Assign [.Name x _] e _ => if noComp e then (c.sto x).bind fun i => (cE n c e).map fun ce => .asg (.name i) ce else none
    | .Assign [.Tuple ts _ _] (.Tuple vs _ _) _ => if plainT c ts vs && !vs.all (foldedForSure 8) then (namesS c ts).bind fun is => (cEs n c vs).bind fun ces => if is.length ≤ 1000 then some (.par is ces) else none
      else if plainT c ts vs then ((cGs n c ts).bind fun tgs => (cEs n c vs).bind fun ces => some (.asg (.tup tgs) (.tup ces)))
      else (parC c ts vs).bind fun is => (cEs n c vs).map fun ces => .par is ces
    | .Assign [.Tuple ts _ _] e _ => if noComp e then (cGs n c ts).bind fun tgs => (cE n c e).map fun ce => .asg (.tup tgs) ce else none
    | .Assign [.Subscript (.Name y _) ix _] e _ => if noComp e && !isSlice ix then (c.slot y).bind fun i => (cE n c ix).bind fun cx => (cE n c e).map fun ce => .setI i cx ce else none
    | .Expr (.Call (.Attribute (.Name x _) m ap) [e] [] cp) _ => if m = ("append" : Str) ∧ (ap.endLine == cp.line) = true ∧ notStar e = true then (c.slot x).bind fun i => (cE n c e).map fun ce => .app i ce else none
    | .Expr e _ => if noComp e then (cE n c e).map .exp else none
    | .Return none _ => some .retN
    | .Return (some (.Name x p)) _ => (match c.slot x with
      | some i => some (.ret (.var i))
      | none => (cE n c (.Name x p)).bind fun ce => if isNm ce then none else some (.ret ce))
    | .Return (some e) _ => (cE n c e).bind fun ce => if isNm ce then none else some (.ret ce)
    | .If t a b _ => (cE n c t).bind fun ct => (cSs n c a).bind fun ca => (cSs n c b).map fun cb => .ite ct ca cb
    | .For tg iter b [] _ => if notFold iter then (cG n c tg).bind fun ctg => (cI n c (isTup tg) iter).bind fun it => (cSs n c b).map fun cb => .for_ ctg it cb else none
    | .While t b [] _ => (cE n c t).bind fun ct => (cSs n c b).map fun cb => .whl ct cb
    | .Raise (some (.Call (.Name x _) [.Constant (.str m) _ _] [] _)) none _ => if c.gl x && decide (x ∈ c.t.excs) then some (.rse x [.lit (.str m)]) else none
    | _ => none
def cSs : Nat → Ck → List Stmt → Option (List CS)
  | 0, _, _ => none
  | n + 1, c, ss => match ss with
    | [] => some []
    | s :: r => (cS n c s).bind fun t => (cSs n c r).map (t :: ·)
end
section
variable {X : Cx}
theorem blockFn {c : Ck} (K : CkOk c X) (hk : c.sc.kind = .function) : X.env.scope.kind = .function := by rw [K.sc]; exact hk
theorem any_star : ∀ {es : List Expr} (f : Expr → Bool), (∀ e, notStar e = true → f e = false) → es.all notStar = true → es.any f = false
  | [], _, _, _ => rfl
  | e :: es, f, hf, h => by
    rw [List.all_cons, Bool.and_eq_true] at h
    rw [List.any_cons, any_star f hf h.2, hf e h.1]
    rfl
theorem sw_none {tg e : Expr} (h : ∀ ts k p vs k2 p2, tg = .Tuple ts k p → e = .Tuple vs k2 p2 → vs.all (foldedForSure 8) = true) (hl : ∀ ts p, tg ≠ .List ts p) : swappedStores [tg] e X.env = pure none := by
  have tup : ∀ ts k p vs k2 p2, vs.all (foldedForSure 8) = true → swappedStores [.Tuple ts k p] (.Tuple vs k2 p2) X.env = pure none := fun ts k p vs k2 p2 h => by
    unfold swappedStores
    by_cases c1 : (!(ts.length == 2 || ts.length == 3) || vs.length != ts.length || X.env.blockKind != .function) = true
    · exact if_pos c1
    · refine (if_neg c1).trans ?_
      by_cases c2 : (vs.any fun | .Starred .. => true | _ => false) = true
      · exact if_pos c2
      · refine (if_neg c2).trans ?_
        dsimp only
        split
        · rfl
        · first
          | exact if_pos h
          | rfl
          | (rw [if_pos h]; rfl)
          | (split <;> first | rfl | contradiction)
  cases tg with
  | Tuple ts k p =>
    cases e with
    | Tuple vs k2 p2 => exact tup ts k p vs k2 p2 (h _ _ _ _ _ _ rfl rfl)
    | _ => rfl
  | List ts p => exact absurd rfl (hl _ _)
  | _ => rfl
theorem fm_ne {α β : Type} {f : α → Option β} : ∀ {l : List α}, (∃ x ∈ l, f x = none) → (l.filterMap f).length ≠ l.length
  | [], h => by obtain ⟨x, hx, _⟩ := h; cases hx
  | y :: l, h => by
    have hle := List.length_filterMap_le f l
    rw [List.filterMap_cons]
    cases q : f y with
    | none =>
      show (l.filterMap f).length ≠ (y :: l).length
      rw [List.length_cons]
      omega
    | some b =>
      show (b :: l.filterMap f).length ≠ (y :: l).length
      obtain ⟨x, hx, hn⟩ := h
      rcases List.mem_cons.mp hx with rfl | hx
      · rw [q] at hn; cases hn
      · have := fm_ne (f := f) (l := l) ⟨x, hx, hn⟩
        rw [List.length_cons, List.length_cons]
        omega
theorem sw_capt {ts vs : List Expr} {k k2 : Nat} {p p2 : Pos} (h : ∃ x q, Expr.Name x q ∈ ts ∧ X.env.scope.names.lookup x = some .cell) : swappedStores [.Tuple ts k p] (.Tuple vs k2 p2) X.env = pure none := by
  unfold swappedStores
  by_cases c1 : (!(ts.length == 2 || ts.length == 3) || vs.length != ts.length || X.env.blockKind != .function) = true
  · exact if_pos c1
  · refine (if_neg c1).trans ?_
    by_cases c2 : (vs.any fun | .Starred .. => true | _ => false) = true
    · exact if_pos c2
    · refine (if_neg c2).trans ?_
      refine if_pos ?_
      obtain ⟨x, q, hm, hk⟩ := h
      have hk' : X.env.kindOf x = some .cell := hk
      rw [Bool.or_eq_true]
      left
      rw [bne_iff_ne]
      exact fm_ne ⟨_, hm, by simp [hk']⟩
theorem sw_plain {c : Ck} {ts vs : List Expr} {k k2 : Nat} {p p2 : Pos} (hs : X.env.scope = c.sc) (h : plainT c ts vs = true) : swappedStores [.Tuple ts k p] (.Tuple vs k2 p2) X.env = pure none := by
  unfold plainT at h
  rw [Bool.or_eq_true, Bool.or_eq_true] at h
  rcases h with (h | h) | h
  · exact sw_none (fun _ _ _ _ _ _ _ z => by cases z; exact h) fun _ _ z => nomatch z
  · obtain ⟨e, he, hc⟩ := List.any_eq_true.mp h
    cases e with
    | Name x q => exact sw_capt ⟨x, q, he, by rw [hs]; exact of_decide_eq_true hc⟩
    | _ => cases hc
  · unfold swappedStores
    refine if_pos ?_
    simp only [Bool.or_eq_true]
    exact .inl (.inl h)
theorem sw_some {ts vs : List Expr} {k k2 : Nat} {p p2 : Pos} {ns : List Str} (hk : X.env.scope.kind = .function) (hl : (ts.length == 2 || ts.length == 3) = true) (hv : vs.length = ts.length) (hn : vs.all notStar = true)
    (h1 : vs.all (foldedForSure 8) = false) (h2 : vs.all (constantsAlone 8) = false) (he : ns.length = ts.length) (hd : ns.eraseDups.length = ns.length)
    (hm : (ts.filterMap fun
      | .Name id pos => if X.env.kindOf id == some .local && pos.line == (ts.head?.map (·.pos.line)).getD 0 then some id else none
      | _ => none) = ns) : swappedStores [.Tuple ts k p] (.Tuple vs k2 p2) X.env = pure (some ns) := by
  have hb' : X.env.blockKind = .function := by unfold PySem.Env.blockKind; rw [hk]; rfl
  unfold swappedStores
  refine (if_neg (by rw [hl, hv, hb']; simp)).trans ?_
  refine (if_neg ?_).trans ?_
  · rw [any_star _ (fun e he => by cases e <;> first | rfl | exact nomatch he) hn]
    exact Bool.false_ne_true
  generalize hF : (ts.filterMap fun
      | .Name id pos => if X.env.kindOf id == some .local && pos.line == (ts.head?.map (·.pos.line)).getD 0 then some id else none
      | _ => none) = F at hm
  refine (if_neg (show ¬(((ts.filterMap fun
      | .Name id pos => if X.env.kindOf id == some .local && pos.line == (ts.head?.map (·.pos.line)).getD 0 then some id else none
      | _ => none).length != ts.length || (ts.filterMap fun
      | .Name id pos => if X.env.kindOf id == some .local && pos.line == (ts.head?.map (·.pos.line)).getD 0 then some id else none
      | _ => none).eraseDups.length != (ts.filterMap fun
      | .Name id pos => if X.env.kindOf id == some .local && pos.line == (ts.head?.map (·.pos.line)).getD 0 then some id else none
      | _ => none).length) = true) from by rw [hF, hm, hd, he]; simp)).trans ?_
  refine (if_neg (by rw [h1]; exact Bool.false_ne_true)).trans ?_
  refine (if_neg (by rw [h2]; exact Bool.false_ne_true)).trans ?_
  show pure (some (ts.filterMap fun
      | .Name id pos => if X.env.kindOf id == some .local && pos.line == (ts.head?.map (·.pos.line)).getD 0 then some id else none
      | _ => none)) = _
  rw [hF, hm]
theorem sw_par2 {x y : Str} {a b : Expr} {px py pt : Pos} {kt k2 : Nat} {pt2 : Pos} (hk : X.env.scope.kind = .function) (hl : py.line = px.line) (hx : X.env.scope.names.lookup x = some .local) (hy : X.env.scope.names.lookup y = some .local) (hne : x ≠ y)
    (hn : [a, b].all notStar = true) (h1 : [a, b].all (foldedForSure 8) = false) (h2 : [a, b].all (constantsAlone 8) = false) : swappedStores [.Tuple [.Name x px, .Name y py] kt pt] (.Tuple [a, b] k2 pt2) X.env = pure (some [x, y]) := by
  have kx : X.env.kindOf x = some .local := hx
  have ky : X.env.kindOf y = some .local := hy
  refine sw_some hk rfl rfl hn h1 h2 rfl ?_ ?_
  · simp [List.eraseDups_cons, Ne.symm hne, hne]
  · simp [kx, ky, Expr.pos, hl]
theorem sw_par3 {x y z : Str} {a b d : Expr} {px py pz pt : Pos} {kt k2 : Nat} {pt2 : Pos} (hk : X.env.scope.kind = .function) (hl : py.line = px.line) (hl2 : pz.line = px.line) (hx : X.env.scope.names.lookup x = some .local) (hy : X.env.scope.names.lookup y = some .local) (hz : X.env.scope.names.lookup z = some .local) (hne : x ≠ y) (hne2 : x ≠ z) (hne3 : y ≠ z)
    (hn : [a, b, d].all notStar = true) (h1 : [a, b, d].all (foldedForSure 8) = false) (h2 : [a, b, d].all (constantsAlone 8) = false) : swappedStores [.Tuple [.Name x px, .Name y py, .Name z pz] kt pt] (.Tuple [a, b, d] k2 pt2) X.env = pure (some [x, y, z]) := by
  have kx : X.env.kindOf x = some .local := hx
  have ky : X.env.kindOf y = some .local := hy
  have kz : X.env.kindOf z = some .local := hz
  refine sw_some hk rfl rfl hn h1 h2 rfl ?_ ?_
  · simp [List.eraseDups_cons, Ne.symm hne, hne, Ne.symm hne2, hne2, Ne.symm hne3, hne3]
  · simp [kx, ky, kz, Expr.pos, hl, hl2]
end
end Cor

set_option Elab.async false
set_option linter.all false
set_option maxRecDepth 100000
set_option maxHeartbeats 4200000
/-! ChkT: the reading is right: statements. -/
namespace Cor
open PySem PySem.Spec L2
open PyProof.Rows hiding St
section
variable {g : Gx} {cf : CF} {k : Nat} {N : Nat}
structure StmtOk (g : Gx) (cf : CF) (k N n : Nat) : Prop where
  s : ∀ c s cs, cS n c s = some cs → c.sc.kind = .function → ∀ X W, CkOk c X → XOk g c.t cf k X W → PassesOwn (model X.prog X.w) X.A X.env X.xe → PS X s (SemS g cf N W cs)
  ss : ∀ c ss css, cSs n c ss = some css → c.sc.kind = .function → ∀ X W, CkOk c X → XOk g c.t cf k X W → PassesOwn (model X.prog X.w) X.A X.env X.xe → PSs X ss (SemSs g cf N W css)
theorem setI_assign {X : Cx} {x ix : Expr} {tpos : Pos} (h : isSlice ix = false) : ∀ v, assign (.Subscript x ix tpos) X.env v = (do
      let ov ← holding [v] (eval x X.env)
      let iv ← holding [v, ov] (eval ix X.env)
      standAt tpos
      holding [v, ov, iv] (setItem ov iv v)
      release [v, ov, iv] []) := by
  intro v
  cases ix <;> first | rfl | cases h
theorem swS_none {X : Cx} {tg e : Expr} {l : Nat} (h : noComp e = true) : swapsWithSole [tg] e l X.env = pure false := noComp_ok h
theorem assignEach_one {X : Cx} {tg : Expr} (h : notStar tg = true) : (assignEach [tg] X.env).map (·.2) = [assign tg X.env] := by
  rw [asg_cons h]
  rfl
theorem namesS_ok {X : Cx} {c : Ck} (K : CkOk c X) (hN : X.N.Nodup) : ∀ {ts : List Expr} {is : List Nat}, namesS c ts = some is → PGs X ts (gNs is) ∧ ts.all notStar = true ∧ ts.length = is.length
  | [], is, h => by cases h; exact ⟨pgs_nil, rfl, rfl⟩
  | e :: r, is, h => by
    unfold namesS at h
    split at h
    · rename_i z; cases z
    · rename_i x p r' z
      cases z
      simp only [Option.bind_eq_some_iff, Option.map_eq_some_iff] at h
      obtain ⟨i, hi, is', h1, rfl⟩ := h
      obtain ⟨a1, a2, a3⟩ := Ck.sto_ok hi K
      obtain ⟨b1, b2, b3⟩ := namesS_ok K hN h1
      exact ⟨pgs_cons (pg_name hN a1 a2 a3) b1 (by rw [asg_cons (by rfl)]; rfl), by rw [List.all_cons, b2]; rfl, by simp [b3]⟩
    · cases h
theorem stmt_s {n : Nat} (IH : StmtOk g cf k N n) : ∀ c s cs, cS (n + 1) c s = some cs → c.sc.kind = .function → ∀ X W, CkOk c X → XOk g c.t cf k X W → PassesOwn (model X.prog X.w) X.A X.env X.xe → PS X s (SemS g cf N W cs) := by
  intro c s cs h hk X W K O hp
  have hK := O.hK
  have EA := all_ok (g := g) (cf := cf) (k := k) n
  have E1 : ∀ {e ce}, cE n c e = some ce → Ok3 X g cf W e ce := fun h => EA.e _ _ _ h X W K O
  have lk : ∀ x, X.env.scope.names.lookup x = c.look x := fun x => by rw [K.sc]; rfl
  have fk := blockFn K hk
  unfold cS at h
  split at h
  case h_1 =>
    rename_i x p elt tg iter ifs scope vp pos
    split at h
    · rename_i hc
      obtain ⟨c1, c2, c3⟩ := hc
      simp only [Option.bind_eq_some_iff, Option.map_eq_some_iff] at h
      obtain ⟨i, hi, r, h1, rfl⟩ := h
      obtain ⟨own, e, q⟩ := EA.c _ _ _ _ _ _ _ h1
      have q := q X W K O
      have hl : X.env.scope.names.lookup x = some .local := (lk x).trans c1
      rw [e]
      exact s_setLc O (by rw [K.N]; exact Ck.ix_ok hi) hl (sw_true fk hl c2 c3) q.hi q.ok q.hsl q.hg q.ht q.he q.hs
    · cases h
  case h_2 =>
    split at h
    · rename_i hn
      simp only [Option.bind_eq_some_iff, Option.map_eq_some_iff] at h
      obtain ⟨i, hi, ce, h1, rfl⟩ := h
      obtain ⟨a1, a2, a3⟩ := Ck.sto_ok hi K
      exact s_asgN O a1 a2 (E1 h1).e1 (noComp_ok hn) a3
    · cases h
  case h_3 =>
    rename_i ts tk tp vs vk vp pos
    split at h
    · rename_i hf
      rw [Bool.and_eq_true] at hf
      simp only [Option.bind_eq_some_iff] at h
      obtain ⟨is, h1, ces, h2, h⟩ := h
      split at h
      · rename_i hz
        cases h
        obtain ⟨a1, a2, a3⟩ := namesS_ok K O.nd h1
        obtain ⟨b1, b2⟩ := asg_ok (env := X.env) a2
        obtain ⟨d1, d2⟩ := EA.es _ _ _ h2
        exact s_parT O a1 hz (by rw [b1, a3]) b2 (ok_P d1 (d2 X W K O)) rfl (sw_plain K.sc hf.1) rfl
      · cases h
    split at h
    · rename_i hf
      simp only [Option.bind_eq_some_iff] at h
      obtain ⟨tgs, h1, ces, h2, e⟩ := h
      cases e
      obtain ⟨a1, a2, a3⟩ := (cG_ok (g := g) K O.nd O.calm n).2 _ _ h1
      obtain ⟨b1, b2⟩ := asg_ok (env := X.env) a2
      obtain ⟨d1, d2⟩ := EA.es _ _ _ h2
      refine s_asgT (semF (s_tup (ok_A d1 (d2 X W K O)))) (g_tup O.calm a1 (by rw [b1, a3]) b2) rfl (sw_plain K.sc hf) rfl
    · rename_i hf
      have hf := eq_false_of_ne_true hf
      simp only [Option.bind_eq_some_iff, Option.map_eq_some_iff] at h
      obtain ⟨is, h1, ces, h2, rfl⟩ := h
      obtain ⟨d1, d2⟩ := EA.es _ _ _ h2
      have d2 := d2 X W K O
      unfold parC at h1
      split at h1
      · rename_i x px y py a b
        split at h1
        · rename_i hc
          obtain ⟨c1, c2, c3, c4, c5, c6⟩ := hc
          simp only [Option.bind_eq_some_iff, Option.map_eq_some_iff] at h1
          obtain ⟨i, hi, j, hj, rfl⟩ := h1
          have hi := Ck.ix_ok hi
          have hj := Ck.ix_ok hj
          match ces, d2 with
          | [ca, cb], d2 =>
            exact s_par2 O (by rw [K.N]; exact hi) (by rw [K.N]; exact hj) (fun z => c2 (by rw [z, hj] at hi; cases hi; rfl)) ((lk _).trans c3) ((lk _).trans c4) (ok_P d1 d2) (sw_par2 fk c1 ((lk _).trans c3) ((lk _).trans c4) c2 d1 c5 c6) rfl
        · cases h1
      · rename_i x px y py z pz a b d
        split at h1
        · rename_i hc
          obtain ⟨c1, c1', c2, c2', c2'', c3, c4, c4', c5, c6⟩ := hc
          simp only [Option.bind_eq_some_iff, Option.map_eq_some_iff] at h1
          obtain ⟨i, hi, j, hj, l, hl, rfl⟩ := h1
          have hi := Ck.ix_ok hi
          have hj := Ck.ix_ok hj
          have hl := Ck.ix_ok hl
          match ces, d2 with
          | [ca, cb, cc], d2 =>
            exact s_par3 O (by rw [K.N]; exact hi) (by rw [K.N]; exact hj) (by rw [K.N]; exact hl) (fun w => c2 (by rw [w, hj] at hi; cases hi; rfl)) (fun w => c2' (by rw [w, hl] at hi; cases hi; rfl)) (fun w => c2'' (by rw [w, hl] at hj; cases hj; rfl))
              ((lk _).trans c3) ((lk _).trans c4) ((lk _).trans c4') (ok_P d1 d2) (sw_par3 fk c1 c1' ((lk _).trans c3) ((lk _).trans c4) ((lk _).trans c4') c2 c2' c2'' d1 c5 c6) rfl
        · cases h1
      · cases h1
  case h_4 =>
    rename_i ts tk tp e pos hne
    split at h
    · rename_i hn
      simp only [Option.bind_eq_some_iff, Option.map_eq_some_iff] at h
      obtain ⟨tgs, h1, ce, h2, rfl⟩ := h
      obtain ⟨a1, a2, a3⟩ := (cG_ok (g := g) K O.nd O.calm n).2 _ _ h1
      obtain ⟨b1, b2⟩ := asg_ok (env := X.env) a2
      exact s_asgT (E1 h2).f (g_tup O.calm a1 (by rw [b1, a3]) b2) (swS_none hn) (sw_none (fun _ _ _ _ _ _ _ z => (hne _ _ _ z).elim) fun _ _ z => nomatch z) rfl
    · cases h
  case h_5 =>
    rename_i y py ix sp e pos
    split at h
    · rename_i hn
      rw [Bool.and_eq_true, Bool.not_eq_true'] at hn
      simp only [Option.bind_eq_some_iff, Option.map_eq_some_iff] at h
      obtain ⟨i, hi, cx, h1, ce, h2, rfl⟩ := h
      exact s_setI (Ck.slot_ok hi K) (E1 h1).f (E1 h2).f (setI_assign hn.2) (swS_none hn.1) (sw_none (fun _ _ _ _ _ _ z => nomatch z) fun _ _ z => nomatch z) rfl
    · cases h
  case h_6 =>
    split at h
    · rename_i hc
      obtain ⟨rfl, c2, c3⟩ := hc
      simp only [Option.bind_eq_some_iff, Option.map_eq_some_iff] at h
      obtain ⟨i, hi, ce, h1, rfl⟩ := h
      exact s_app hK (Ck.slot_ok hi K) (E1 h1).f c3 rfl c2 rfl
    · cases h
  case h_7 =>
    split at h
    · rename_i hn
      simp only [Option.map_eq_some_iff] at h
      obtain ⟨ce, h1, rfl⟩ := h
      exact s_exp (E1 h1).e1 (noComp_ok hn)
    · cases h
  case h_8 => cases h; exact s_retN
  case h_9 =>
    split at h
    · rename_i i hs
      cases h
      exact s_retV (Ck.slot_ok hs K)
    · simp only [Option.bind_eq_some_iff] at h
      obtain ⟨ce, h1, h⟩ := h
      split at h
      · cases h
      · rename_i hn
        cases h
        exact s_ret (E1 h1).e1 (isNm_ok (eq_false_of_ne_true hn))
  case h_10 =>
    simp only [Option.bind_eq_some_iff] at h
    obtain ⟨ce, h1, h⟩ := h
    split at h
    · cases h
    · rename_i hn
      cases h
      exact s_ret (E1 h1).e1 (isNm_ok (eq_false_of_ne_true hn))
  case h_11 =>
    simp only [Option.bind_eq_some_iff, Option.map_eq_some_iff] at h
    obtain ⟨ct, h1, ca, h2, cb, h3, rfl⟩ := h
    exact s_if (E1 h1).t (IH.ss _ _ _ h2 hk X W K O hp) (IH.ss _ _ _ h3 hk X W K O hp)
  case h_12 =>
    split at h
    · rename_i hn
      simp only [Option.bind_eq_some_iff, Option.map_eq_some_iff] at h
      obtain ⟨ctg, h1, it, h2, cb, h3, rfl⟩ := h
      obtain ⟨i1, i2⟩ := EA.i _ _ _ _ h2
      rename_i tg iter b pos
      refine s_for O hp (i2 X W tg (fun z => ?_) K O) (cG_okI K O.nd O.calm h1 i1) (IH.ss _ _ _ h3 hk X W K O hp) (notFold_ok hn)
      cases tg <;> first | exact ⟨_, _, _, rfl⟩ | cases z
    · cases h
  case h_13 =>
    simp only [Option.bind_eq_some_iff, Option.map_eq_some_iff] at h
    obtain ⟨ct, h1, cb, h2, rfl⟩ := h
    exact s_whl hp (E1 h1).t (IH.ss _ _ _ h2 hk X W K O hp)
  case h_14 =>
    split at h
    · rename_i hc
      rw [Bool.and_eq_true, decide_eq_true_eq] at hc
      cases h
      obtain ⟨a1, a2⟩ := Ck.gl_ok hc.1 K
      exact s_rse O hc.2 a1 a2
    · cases h
  case h_15 => cases h
theorem stmt_ok : ∀ n, StmtOk g cf k N n
  | 0 => ⟨fun _ _ _ h => (by simp only [cS] at h; cases h), fun _ _ _ h => (by simp only [cSs] at h; cases h)⟩
  | n + 1 => by
    have IH := stmt_ok n
    refine ⟨stmt_s IH, fun c ss css h hk X W K O hp => ?_⟩
    unfold cSs at h
    split at h
    · cases h
      exact ss_nil
    · simp only [Option.bind_eq_some_iff, Option.map_eq_some_iff] at h
      obtain ⟨t, h1, r, h2, rfl⟩ := h
      exact ss_cons (IH.s _ _ _ h1 hk X W K O hp) (IH.ss _ _ _ h2 hk X W K O hp)
end
end Cor

set_option Elab.async false
set_option linter.all false
set_option maxRecDepth 100000
set_option maxHeartbeats 1200000
/-! Def: a def keeps its promise. -/
namespace Cor
open PySem PySem.Spec L2
open PyProof.Rows hiding St
def ckOf (t : Stc) (N : List Str) (sc : Scope) : Ck := ⟨N, sc, fun _ => true, t⟩
section
variable {g : Gx} {t : Stc} {P : Program} {w : World} {mg : Str → Option Value} {base : Heap}
theorem reps_get {G : Hp} {ds : List D} {vs : List V} (r : Reps g G ds vs) {i : Nat} {d : D} (h : ds[i]? = some d) : ∃ v, vs[i]? = some v ∧ Rep g G d v := r.get h
theorem init_sh {ds : List D} {n i : Nat} {s : Sl} (h : (ds.map Sl.sh ++ List.replicate n Sl.un)[i]? = some s) : s = .un ∨ ∃ d, s = .sh d ∧ ds[i]? = some d := by
  rw [List.getElem?_append] at h
  split at h
  · rw [List.getElem?_map] at h
    cases q : ds[i]? with
    | none => rw [q] at h; cases h
    | some d => rw [q] at h; cases h; exact .inr ⟨d, rfl, rfl⟩
  · rw [List.getElem?_replicate] at h
    split at h
    · cases h; exact .inl rfl
    · cases h
theorem start_get {N : List Str} {vs : List V} {i : Nat} {v : V} (h : vs[i]? = some v) : (L2.start N vs)[i]? = some (some v) := by
  unfold L2.start
  have hi := (List.getElem?_eq_some_iff.mp h).1
  rw [List.getElem?_append_left (by simpa using hi), List.getElem?_map, h]
  rfl
theorem start_len {N : List Str} {vs : List V} (h : vs.length ≤ N.length) : (L2.start N vs).length = N.length := by
  unfold L2.start
  simp
  omega
theorem init_ok {G H : Hp} {ioa : Option Addr} {ds : List D} {vs : List V} {fd : FD} {N : List Str} (E : Ent g G H) (A : EntA g G H ioa ds vs) (hio : ioa.isSome = fd.io) (hl : ds.length = fd.np) (hn : fd.ns = N.length) (hle : fd.np ≤ fd.ns) :
    StOk g ⟨H, G, ioa⟩ G H (initEnv fd ds) (L2.start N vs) := by
  have sb : StB g ⟨H, G, ioa⟩ G H := ⟨E.sub, E.notb, fun a o h _ _ => h, fun a _ => rfl, fun p hp => (by
    have hp : ioa = some p := hp
    subst hp
    obtain ⟨d0, ds', vs', _, _, _, ⟨l, ws, _, e, _⟩, _⟩ := A
    show H p ≠ none
    rw [e]
    exact fun z => (nomatch z)), fun a h => h, E.tabs⟩
  cases ioa with
  | none =>
    have A : Reps g G ds vs := A
    have hf : fd.io = false := hio.symm
    have e : initEnv fd ds = ds.map Sl.sh ++ List.replicate (fd.ns - fd.np) Sl.un := by unfold initEnv; rw [hf]
    rw [e]
    have hv := A.length
    refine ⟨sb, ?_, fun i s hi => ?_, fun i j s u p hi hj ho _ _ _ => ?_⟩
    · rw [start_len (by omega)]
      simp
      omega
    · rcases init_sh hi with rfl | ⟨d, rfl, hd⟩
      · trivial
      · obtain ⟨v, h1, h2⟩ := A.get hd
        exact ⟨v, start_get h1, h2⟩
    · rcases init_sh hi with rfl | ⟨d, rfl, hd⟩ <;> cases ho
  | some p =>
    obtain ⟨d0, ds', vs', rfl, rfl, hG, hw, A⟩ := A
    have hf : fd.io = true := hio.symm
    have e : initEnv fd (d0 :: ds') = .io d0 :: (ds'.map Sl.sh ++ List.replicate (fd.ns - fd.np) Sl.un) := by unfold initEnv; rw [hf]; rfl
    rw [e]
    have hv := A.length
    rw [List.length_cons] at hl
    have own : ∀ (i : Nat) s, (Sl.io d0 :: (ds'.map Sl.sh ++ List.replicate (fd.ns - fd.np) Sl.un))[i]? = some s → s.own = true → i = 0 := fun i s hi ho => by
      cases i with
      | zero => rfl
      | succ i =>
        rw [List.getElem?_cons_succ] at hi
        rcases init_sh hi with rfl | ⟨d, rfl, hd⟩ <;> cases ho
    refine ⟨sb, ?_, fun i s hi => ?_, fun i j s u q hi hj ho hu _ _ => (own i s hi ho).trans (own j u hj hu).symm⟩
    · rw [start_len (by rw [List.length_cons]; omega)]
      simp
      omega
    · cases i with
      | zero =>
        cases hi
        exact ⟨p, start_get rfl, rfl, hG, hw⟩
      | succ i =>
        rw [List.getElem?_cons_succ] at hi
        rcases init_sh hi with rfl | ⟨d, rfl, hd⟩
        · trivial
        · obtain ⟨v, h1, h2⟩ := A.get hd
          exact ⟨v, start_get (by rw [List.getElem?_cons_succ]; exact h1), h2⟩
theorem entA_len {G H : Hp} {ioa : Option Addr} {ds : List D} {vs : List V} (A : EntA g G H ioa ds vs) : vs.length = ds.length := by
  cases ioa with
  | none => exact Reps.length A
  | some p =>
    obtain ⟨d0, ds', vs', rfl, rfl, _, _, A⟩ := A
    simp [A.length]
theorem fin_ok {B : Bs} {G H G' H' : Hp} {env : Env} {σ : St} {d : D} {fr io : Bool} {v : V} {Q : VK} {E : XK} (hio : B.io.isSome = io) (S : StOk g B G' H' env σ) (r : ResR g B.H0 G' H' fr d v) (h : PostR g G H B.io (fin io d fr env) Q E) (e0 : B.H0 = H) (e1 : B.G0 = G) : Q v H' := by
  obtain ⟨H0, G0, ioa⟩ := B
  subst e0 e1
  cases ioa with
  | none =>
    have hf : io = false := hio.symm
    subst hf
    exact h v H' G' S.toStB r trivial
  | some p =>
    have hf : io = true := hio.symm
    subst hf
    unfold fin at h
    dsimp only at h
    split at h
    · rename_i d0 e
      obtain ⟨q, z1, z2, z3, z4⟩ := S.sl 0 _ e
      cases z2
      exact h v H' G' S.toStB r z4
    · exact h.elim
theorem def_ok {T : List FD} {Nf k i : Nat} {x qual : Str} {st : Stmt} {a : Addr} {fd : FuncData} {N ps : List Str} {body : List CS} {np ns : Nat} {io : Bool} {m : Nat} (F : FunD g.K x qual (defArgs st) (defBody st) (defScope st) [] [] a fd) (S : FnScope N ps (defScope st)) (hT : T[i]? = some ⟨np, ns, io, body⟩)
    (hc : cSs m (ckOf t N (defScope st)) (defBody st) = some body) (hp : np = ps.length) (hn : ns = N.length) (Wd : Wld g t P w mg base (evC T Nf k) k)
    (hlam : t.lam = true → ∀ X W, X.prog = P → X.w = w → X.K = g.K → X.mg = mg → X.base = base → X.env.qual = qual ++ ".<locals>." → X.env.code = fd.code → Room (3 * k + 2) X.A → LamRule g (evC T Nf k) k X W) : FnOk P w g.K mg base (L2N.CX P w) (3 * (k + 1)) a fd ps (spF g (evC T Nf (k + 1)) i np io) := by
  have hev : ∀ ds, evC T Nf (k + 1) i ds = runF Nf (evC T Nf k) ⟨np, ns, io, body⟩ ds := fun ds => by
    show (match T[i]? with
      | some fd => runF Nf (evC T Nf k) fd ds
      | none => .bad) = _
    rw [hT]
  have hlen : ∀ {G H : Hp} {ds : List D} {ioa : Option Addr} {Q : VK} {E : XK}, PostR g G H ioa (evC T Nf (k + 1) i ds) Q E → ds.length = np := fun {G H ds ioa Q E} h => by
    rw [hev] at h
    unfold runF at h
    split at h
    · assumption
    · exact h.elim
  have hle : np ≤ ns := by
    have := congrArg List.length S.pre
    rw [List.length_take] at this
    omega
  show FnOk P w g.K mg base (L2N.CX P w) (3 * k + 2 + 1) a fd ps (spF g (evC T Nf (k + 1)) i np io)
  obtain ⟨oc, od, dV, kV, doc, pm, an, cdv, ct, osl, rfl, lk, hcd, _, _⟩ := F.ex
  refine fn_of lk hcd S (fun vs H Q E ⟨G, ds, ioa, _, _, A, h⟩ => by rw [entA_len A, hlen h, hp]) fun A outer s H vs Q E hr ⟨G, ds, ioa, En, hio, EA, h⟩ => ?_
  have hl := hlen h
  have O : XOk g t (evC T Nf k) k (cxOf (L2N.CX P w) P w g.K mg base N qual (defScope st) a cdv A outer s H E) (fun cls d _ H => E cls d H) :=
    ⟨rfl, S.nd, rfl, hr.mono (by omega), L2N.takes_of rfl rfl rfl rfl, Wd, fun z => hlam z _ _ rfl rfl rfl rfl rfl rfl rfl hr⟩
  have K : CkOk (ckOf t N (defScope st)) (cxOf (L2N.CX P w) P w g.K mg base N qual (defScope st) a cdv A outer s H E) := ⟨rfl, rfl, rfl⟩
  refine ⟨_, (stmt_ok (g := g) (cf := evC T Nf k) (k := k) (N := Nf) m).ss _ _ _ hc S.kind _ _ K O (passes_of rfl), ⟨H, G, ioa⟩, G, initEnv ⟨np, ns, io, body⟩ ds, init_ok En EA hio hl hn hle, ?_⟩
  rw [hev] at h
  unfold runF at h
  rw [if_pos hl] at h
  dsimp only at h
  generalize exs (evC T Nf k) Nf body (initEnv ⟨np, ns, io, body⟩ ds) = r at h ⊢
  cases r with
  | nx env => exact fun σ' H' G' S' s' => fin_ok (B := ⟨H, G, ioa⟩) (fr := false) (d := .non) hio S' (show Rep g G' .non .non from Rep.non) h rfl rfl
  | rt d fr env => exact fun v σ' H' G' S' s' r => fin_ok (B := ⟨H, G, ioa⟩) hio S' r h rfl rfl
  | ex x env =>
    intro σ' H' G' c dd S' xv
    cases io with
    | true => exact h.elim
    | false =>
      cases ioa with
      | some p => cases hio
      | none => exact h H' G' c dd S'.toStB xv
  | bad => exact h.elim
/-- nothing is promised at depth 0 -/
theorem def_ok0 {T : List FD} {Nf i : Nat} {a : Addr} {fd : FuncData} {ps : List Str} {np : Nat} {io : Bool} : FnOk P w g.K mg base (L2N.CX P w) 0 a fd ps (spF g (evC T Nf 0) i np io) :=
  ⟨fun vs H Q E ⟨G, ds, ioa, _, _, _, h⟩ => h.elim, fun A outer s H args us vs Q E hr he hb hv ⟨G, ds, ioa, _, _, _, h⟩ => h.elim⟩
/-- what the head tells of the top -/
structure Top (g : Gx) (t : Stc) (P : Program) (w : World) (mg : Str → Option Value) (base : Heap) (T : List FD) (Nf : Nat) : Prop where
  bl : ∀ x ∈ bltNames, mg x = none
  nums : ∀ x n, t.nums.lookup x = some n → ∃ u, mg x = some (.int n u)
  fnb : ∀ (i : Nat) a, g.fa i = some a → ∃ x np, t.sig[i]? = some (x, np, false) ∧ mg x = some (.ref a)
  fns : ∀ (i : Nat) x np io, t.sig[i]? = some (x, np, io) → ∃ a, (io = false → g.fa i = some a) ∧ mg x = some (.ref a) ∧ PySem.W.keepIn g.K (.ref a) = true ∧
    ∃ fd ps, Binds g.K fd ps [] ∧ ∀ k, Wld g t P w mg base (evC T Nf k) k → FnOk P w g.K mg base (L2N.CX P w) (3 * (k + 1)) a fd ps (spF g (evC T Nf (k + 1)) i np io)
  exc : ∀ x ∈ t.excs, ∃ C bmB b newId initId, ExcBaseFacts b newId initId bmB ∧ PySem.W.excIn g.K C bmB newId = true ∧ mg x = some (.ref C) ∧ PySem.W.keepIn g.K (.ref C) = true ∧
    PySem.W.subIn g.K (.ref C) (.type "BaseException") = some true ∧ PySem.W.typeIn g.K (.ref C) = some (.type "type") ∧ g.cls x = some C
theorem wld_all {T : List FD} {Nf : Nat} (H : Top g t P w mg base T Nf) : ∀ k, Wld g t P w mg base (evC T Nf k) k
  | 0 => ⟨H.bl, H.nums, H.fnb, fun i x np io h => by
      obtain ⟨a, h1, h2, h3, fd, ps, h4, _⟩ := H.fns i x np io h
      exact ⟨a, h1, h2, h3, fd, ps, h4, def_ok0⟩, H.exc⟩
  | k + 1 => ⟨H.bl, H.nums, H.fnb, fun i x np io h => by
      obtain ⟨a, h1, h2, h3, fd, ps, h4, h5⟩ := H.fns i x np io h
      exact ⟨a, h1, h2, h3, fd, ps, h4, h5 k (wld_all H k)⟩, H.exc⟩
end
end Cor

set_option Elab.async false
set_option linter.all false
set_option maxRecDepth 100000
set_option maxHeartbeats 2000000
/-! Hot0: ends of lists and tuples, zip and unpacking while an exception is handled. -/
namespace Cor
open PySem PySem.Spec PyProof.Rows HotX
section
variable {prog : Program} {w : World} {A : Around} {E : Value → Shared → Prop} {s : Shared}
theorem _root_.HotX.HotAt.keep {x1 : Addr} {h h' : Heap} (H : HotAt A x1 h) (k : ∀ o, h.get? x1 = some o → h'.get? x1 = some o) : HotAt A x1 h' := by
  obtain ⟨hh, o, vs, h1, d1, c1⟩ := H
  exact ⟨hh, o, vs, k o h1, d1, c1⟩
theorem _root_.HotX.HotAt.lt {x1 : Addr} {h : Heap} (H : HotAt A x1 h) : x1 < h.objs.size := by
  obtain ⟨hh, o, vs, h1, d1, c1⟩ := H
  exact Heap.lt_size h1
/-- StopIteration raised; what stood stays -/
theorem stops_hot {α : Type} {x1 : Addr} {Q : α → Shared → Prop} (hot : HotAt A x1 s.heap) (q : ∀ h e, Keeps s.heap h → (∃ o, h.get? e = some o ∧ o.cls = .type "StopIteration") → E (.ref e) { s with heap := h }) :
    wpAny (model prog w) A (Builtin.SmallTypes.stopIteration : Sem α) Q E s := by
  unfold Builtin.SmallTypes.stopIteration newExc newTuple
  refine wpAny_bind (wpAny_bind (wpAny_newObj_type (wpAny_bind (m := firstArgMember _ _) (wpAny_of_eq (a := Value.none) ?one (wpAny_newObj_type ?two (by size_fits)))) (by size_fits)))
  case one => simp only [firstArgMember]; rfl
  case two =>
    have kept : ∀ o1 o2 : Obj, Keeps s.heap ((s.heap.push o1).push o2) := fun o1 o2 b u g => Heap.get?_push_of_some _ (Heap.get?_push_of_some _ g)
    have hot2 := fun o1 o2 : Obj => hot.keep (kept o1 o2 x1)
    have there := Nat.ne_of_lt (hot.lt)
    refine raiseNew_hot (hot2 _ _) (Nat.ne_of_lt (by rw [Heap.size_push]; exact Nat.lt_succ_of_lt hot.lt)) (Heap.get?_push_size _ rfl) rfl (by simp; omega) (q _ _ (fun b u g => ?_) ⟨_, Heap.get?_update_self _ (Heap.get?_push_size _ rfl) rfl, rfl⟩)
    have lt : b < (s.heap.push { cls := .type "tuple", data := .seq ([] : List Value).toArray }).objs.size := by rw [Heap.size_push]; exact Nat.lt_succ_of_lt (Heap.lt_size g)
    exact (Heap.get?_update_ne _ _ _ _ (Nat.ne_of_lt lt)).trans (kept _ _ b u g)
/-- the next of a list's or tuple's iterator, at its end -/
theorem rising_end_hot {b : Builtin} (hb : b = Builtin.«list_iterator.__next__» ∨ b = Builtin.«tuple_iterator.__next__») {it l x1 : Addr} {i n : Nat} {items : Array Value} {o ol : Obj} {Q : Fin → Shared → Prop} (hot : HotAt A x1 s.heap) (ne : x1 ≠ it)
    (at_ : s.heap.get? it = some o) (fs : o.data = .fields #[.ref l, .int i 0]) (seq : s.heap.get? l = some ol) (sd : ol.data = .seq items n) (over : items[i]? = none)
    (q : ∀ h e, Heap.ExtBut it s.heap h → (∃ o, h.get? e = some o ∧ o.cls = .type "StopIteration") → E (.ref e) { s with heap := h }) : wpAny (model prog w) A (b ⟨[.ref it], []⟩) Q E s := by
  have last : wpAny (model prog w) A (setField (.ref it) 0 .none >>= fun _ => (Builtin.SmallTypes.stopIteration : Sem Fin)) Q E s :=
    wpAny_bind (wpAny_setField at_ fs (by simp) (stops_hot (s := { s with heap := s.heap.update it (Obj.mapFields (·.setIfInBounds 0 .none)) }) (hot.keep fun u g => (Heap.get?_update_ne _ _ _ _ ne).trans g)
      fun h e k x => q h e (fun c u nc g => k c u ((Heap.get?_update_ne _ _ _ _ nc).trans g)) x))
  have place : items[((i : Nat) : Int).toNat]? = none := over
  rcases hb with rfl | rfl <;>
  · refine wpAny_bind (m := field (.ref it) 0) (wpAny_field at_ fs (x := .ref l) rfl (wpAny_bind (m := field (.ref it) 1) (wpAny_field at_ fs (x := .int i 0) rfl (wpAny_bind (m := seqItems? (.ref l)) (wpAny_seqItems seq sd ?_)))))
    simp only [place]
    exact wpAny_bind (wpAny_rule last)
theorem nextOf_list_end_hot {it l x1 : Addr} {i : Nat} {items} {Q : Value → Shared → Prop} (hot : HotAt A x1 s.heap) (hne : x1 ≠ it) (hit : s.heap.IsListIter it l i) (hl : s.heap.IsList l items) (hx : items[i]? = none)
    (hE : ∀ g1 e, Heap.ExtBut it s.heap g1 → (∃ o, g1.get? e = some o ∧ o.cls = .type "StopIteration") → E (.ref e) { s with heap := g1 }) : wpAny (model prog w) A (Builtin.SmallTypes.nextOf (.ref it)) Q E s := by
  have ⟨o, at_, _, fs⟩ := hit
  have ⟨ol, seq, _, n, sd⟩ := hl
  exact wpAny_bind (wpAny_callSpecial?_slot (name := Str.ofString "__next__") hit.typeIs slot_listiter_next (wpAny_call_entry slot_listiter_next hit.typeIs entry_listiter_next (rising_end_hot (.inl rfl) hot hne at_ fs seq sd hx hE) (args_listiter_next _)))
theorem draws_list_hot {it l x1 : Addr} (h1 : x1 ≠ it) (hne : l ≠ it) (items : Array Value) :
    Draws prog w A it [it, l, x1] items.size (fun i v => items[i]? = some v) (fun i h => h.IsListIter it l i ∧ h.IsList l items ∧ HotAt A x1 h) where
  live := fun _ _ ⟨⟨o, g, _⟩, _⟩ => ⟨o, g⟩
  frame := fun _ _ _ ⟨a, b, c⟩ k => ⟨a.at (k it (.head _)), b.at (k l (.tail _ (.head _))), c.keep (k x1 (.tail _ (.tail _ (.head _))))⟩
  item := fun i s Q E lt ⟨a, b, c⟩ q => wpAny_nextOf_list_item a b (x := items[i]) (Array.getElem?_eq_getElem lt) fun h a' same =>
    q _ h s.toks (Array.getElem?_eq_getElem lt) ⟨a', b.extBut same.extBut hne, c.keep fun o g => (same.2 x1 h1).trans g⟩ same
  done := fun s Q E ⟨a, b, c⟩ q => nextOf_list_end_hot c h1 a b (Array.getElem?_eq_none (Nat.le_refl _)) q
theorem next_tuple_end_hot {it t x1 : Addr} {i : Nat} {items} {Q : Option Value → Shared → Prop} (hot : HotAt A x1 s.heap) (hne : x1 ≠ it) (hit : IsTupIter s.heap it t i) (ht : IsTup s.heap t items) (hx : items[i]? = none)
    (hQ : ∀ g1, Heap.ExtBut it s.heap g1 → Q none { s with heap := g1 }) : wpAny (model prog w) A (pyNext (.ref it)) Q E s := by
  have ⟨o, at_, _, fs⟩ := hit
  have ⟨ol, seq, _, n, sd⟩ := ht
  refine wpAny_bind (wpAny_attempt (wpAny_callSpecial?_slot (name := Str.ofString "__next__") hit.typeIs slot_tupleiter_next (wpAny_call_entry slot_tupleiter_next hit.typeIs entry_tupleiter_next (rising_end_hot (.inr rfl) hot hne at_ fs seq sd hx ?_) (args_tupleiter_next _))))
  rintro h e k ⟨oe, ge, ce⟩
  exact wpAny_bind (wpAny_isInstance (T := "StopIteration") (b := true) ⟨oe, ge, ce⟩ isSubtype_stop (wpAny_pure (hQ h k)))
theorem unpackItems_tuple_hot {t x1 : Addr} {items : Array Value} {Q : List Value → Shared → Prop} (hot : HotAt A x1 s.heap) (ht : IsTup s.heap t items)
    (hQ : ∀ g1, Heap.ExtBut s.heap.objs.size s.heap g1 → Q items.toList { s with heap := g1 }) : wpAny (model prog w) A (unpackItems (.ref t) items.size none) Q E s := by
  have old : ∀ {c o}, s.heap.get? c = some o → c ≠ s.heap.objs.size := fun g => Nat.ne_of_lt (Heap.lt_size g)
  have apart : t ≠ s.heap.objs.size := let ⟨_, g, _⟩ := ht; old g
  have iterable : wpAny (model prog w) A (notIterableAtAll (.ref t)) (fun b s' => b = false ∧ s' = s) E s := by
    unfold notIterableAtAll
    exact wpAny_bind (wpAny_specialOf ht.typeIs slot_tuple_iter.lookup (wpAny_pure ⟨rfl, rfl⟩))
  unfold unpackItems
  refine wpAny_bind (wpAny_mono iterable (fun b s' z => ?_) fun _ _ z => z)
  obtain ⟨rfl, rfl⟩ := z
  refine wpAny_bind (wpAny_holding (iter_tuple ht (wpAny_bind (wpAny_holding (draw_tuple apart items.size 0 _ _ ⟨_, Heap.get?_push_size _ rfl, rfl, rfl⟩ (ht.push _) (by omega) fun h1 it1 same => ?_)))))
  have whole : (items.toList.drop 0).take items.size = items.toList := List.take_of_length_le (Nat.le_refl _)
  have kept : ∀ {c o}, s'.heap.get? c = some o → h1.get? c = some o := fun g => (same.2 _ (old g)).trans (Heap.get?_push_of_some _ g)
  rw [whole, if_neg (by simp)]
  refine wpAny_bind (wpAny_holding (next_tuple_end_hot (s := { s' with heap := h1 }) (hot.keep fun o => kept) (Nat.ne_of_lt hot.lt) it1 ((ht.push _).extBut same.extBut apart) (Array.getElem?_eq_none (by omega)) fun h2 ext => ?_))
  exact wpAny_pure (hQ h2 fun c o nc g => ext c o nc (kept g))
theorem assign_Tuple_tuple_hot {env : PySem.Env} {elts : List Expr} {k} {pos : Pos} {t x1 : Addr} {items : Array Value} {Q : Unit → Shared → Prop} (hot : HotAt A x1 s.heap) (ht : IsTup s.heap t items)
    (hstar : (assignEach elts env).findIdx? (·.1) = none) (hn : (assignEach elts env).length = items.size)
    (h : ∀ g1, Heap.ExtBut s.heap.objs.size s.heap g1 → wpAny (model prog w) A (assignInOrder ((assignEach elts env).map (·.2)) items.toList) Q E { s with heap := g1 }) :
    wpAny (model prog w) A (assign (.Tuple elts k pos) env (.ref t)) Q E s := by
  rw [assign_Tuple]
  refine wpAny_bind (wpAny_standAt (A := A) ?_)
  unfold unpack
  rw [hstar, hn]
  exact wpAny_bind (wpAny_holding (unpackItems_tuple_hot hot ht h))
end
section
open L2
variable {X : L2.Cx}
/-- (a, b, ..) = a tuple, while an exception is handled -/
theorem pg_tupH {es : List Expr} {k : Nat} {t : TGs} {n : Nat} {pos : Pos} (hc : L2H.HotC X) (h : L2.PGs X es t) (hn : (assignEach es X.env).length = n) (hst : (assignEach es X.env).findIdx? (·.1) = none) : PG X (.Tuple es k pos) (gTup X.K n t) := by
  constructor
  rintro pins s σ H _ u Q I r ⟨a, xs, rfl, sq, len, w⟩
  rcases r with rfl
  have ⟨x1, hot⟩ := hc.at I
  obtain ⟨its, rv, tup, _⟩ := I.tuple sq
  have as_many : (assignEach es X.env).length = its.toArray.size := hn.trans (len.symm.trans rv.length)
  refine assign_Tuple_tuple_hot hot tup hst as_many fun h' ext => ?_
  have J := I.kept (t' := s.toks) fun b o g => ext b o (Nat.ne_of_lt (Heap.lt_size g)) g
  exact h.run pins _ σ H xs its Q J rv w
end
end Cor

set_option Elab.async false
set_option linter.all false
set_option maxRecDepth 100000
set_option maxHeartbeats 2000000
/-! Hot1: a list comprehension and zip while an exception is handled. -/
namespace Cor
open PySem PySem.Spec L2 HotX
open PyProof.Rows hiding St
open L2H (HotC TurnH PIH PIEH)
/-- a block's context that keeps what is pinned -/
abbrev blkH (X : Cx) (s : Shared) (H : Hp) (scope : Scope) (cenv : PySem.Env) (fp : List Addr) : Cx := { X.blk s H scope cenv fp with pn := X.pn }
section
variable {X : Cx} {pins : List (Addr × Obj)}
variable {σ : L2.St} {H : Hp} {s : Shared}
theorem hot_blk {s : Shared} {H : Hp} {scope : Scope} {cenv : PySem.Env} {fp : List Addr} (h : HotC X) : HotC (blkH X s H scope cenv fp) := h
theorem block_startH {scope : Scope} {own : List (Str × Nat)} {fp : List Addr} (I : L2.Inv X pins σ H s) (ok : BlkOk X.N X.env.scope scope own) (hN : X.N.Nodup) (hfp : ∀ b ∈ fp, FpOk X pins H b ∧ b < s.heap.objs.size) :
    L2.Inv (blkH X s H scope (compEnvC scope (cellsFrom (s.heap.objs.size + 1) scope.names (cloFrom X.env.cells scope.names [])) s.heap.objs.size X.env) fp) [] (L2.wipe σ (own.map (·.2))) H { s with heap := pushCells (s.heap.push { cls := .type "dict", data := .dict #[] }) scope.names } := by
  have J := block_start I ok hN hfp
  have kp : ∀ c u, s.heap.get? c = some u → (pushCells (s.heap.push { cls := .type "dict", data := .dict #[] }) scope.names).get? c = some u := fun c u e => pushCells_keeps _ _ _ _ (Heap.get?_push_of_some _ e)
  refine ⟨⟨J.ok.mod, J.ok.kind, J.ok.glob, J.ok.blt, J.ok.above, J.ok.inj, J.ok.has, J.ok.cab, J.ok.hd, J.ok.frames, J.ok.stk, J.ok.exf, J.ok.bs, J.ok.bsz, J.ok.noex, J.ok.exfs, J.ok.funs, J.ok.frf⟩, J.os, J.bare, J.base, J.loc, J.cell, J.free, J.freeC, fun p hp => ?_, J.hok, J.len⟩
  have hp : p ∈ X.pn := by
    have hp : p ∈ X.pn ++ [] := hp
    simpa using hp
  obtain ⟨h1, h2, h3, h4, h5⟩ := I.pin p (List.mem_append_left _ hp)
  refine ⟨kp _ _ h1, h2, Nat.ne_of_lt (Heap.lt_size h1), fun z => ?_, h5⟩
  rcases List.mem_cons.mp (I.stkSub p.1 z) with z | z
  · exact h3 z
  · exact h4 z
/-- a comprehension under way: the world around (s, H), the block's environment ce, the iterator's own objects fp -/
structure Way (X : Cx) (pins : List (Addr × Obj)) (σ : L2.St) (tg : Expr) (own : List Nat) where
  (s : Shared) (H : Hp) (scope : Scope) (ce : PySem.Env) (fp : List Addr) (it : Addr) (tn : Nat → Heap → Prop) (J : L2.It) (W : Nat → Nat → Hp → Prop)
  around : L2.Inv X pins σ H s
  turn : TurnH X.prog X.w X.K tg J fp it tn
  apart : ∀ b ∈ fp, FpOk X pins H b ∧ b < s.heap.objs.size
  loc : ce.locals = s.heap.objs.size
namespace Way
variable {tg : Expr} {own : List Nat} (Y : Way X pins σ tg own)
abbrev C : Cx := blkH X Y.s Y.H Y.scope Y.ce Y.fp
/-- between two turns, n more to come at most -/
def Mid (n : Nat) (s' : Shared) : Prop := ∃ i H', L2.Inv Y.C [] (L2.wipe σ own) H' s' ∧ Y.tn i s'.heap ∧ (∀ b ∈ Y.fp, H' b = none) ∧ Y.W i n H'
theorem pn {p : Addr × Obj} (h : p ∈ X.pn ++ []) : p ∈ X.pn := List.append_nil X.pn ▸ h
theorem still {σ' : L2.St} {H' : Hp} {s' : Shared} (I : L2.Inv Y.C [] σ' H' s') (free : ∀ b ∈ Y.fp, H' b = none) : ∀ b ∈ Y.fp, FpOk Y.C [] H' b := fun b m =>
  have ⟨e1, e2⟩ := I.ok.exf b m
  ⟨free b m, e1, I.ok.exfs b m, .inl m, e2, fun p hp => (Y.apart b m).1.2.2.2.2.2 p (List.mem_append_left _ (pn hp))⟩
/-- the end: the world around again -/
theorem ended {n : Nat} {s' : Shared} {H' : Hp} (I : L2.Inv Y.C [] (L2.wipe σ own) H' s') : L2.Inv X pins σ H' s' ∧ (∃ m, s'.heap.Ns Y.s.heap.objs.size m) ∧ FpOk X pins H' Y.s.heap.objs.size := by
  have out : ∀ b ∈ Y.fp, _ ∧ _ ∧ _ ∧ _ := fun b m => let ⟨_, g1, _, g3, g4, g5⟩ := (Y.apart b m).1; ⟨g3, g1, g4, g5⟩
  have free : H' Y.ce.locals = none := I.free
  obtain ⟨m, ns, _⟩ := I.loc
  have ns : s'.heap.Ns Y.ce.locals m := ns
  rw [Y.loc] at free ns
  exact ⟨Y.around.call' (ch := Y.fp) I.os I.base I.hok I.bare out, ⟨m, ns⟩, Y.around.fpOk (Nat.le_refl _) free⟩
/-- a turn's end, over the pins of its start -/
theorem again {n i : Nat} {s0 s' : Shared} {H' : Hp} {σ' : L2.St} {Nx : Hp → Prop} (wiped : L2.wipe σ' own = L2.wipe σ own) (st : Y.tn (i + 1) s0.heap) (I : L2.Inv Y.C ([] ++ pinsAt Y.fp s0.heap) σ' H' s') (nx : ∀ H, Nx H → ∃ m, m < n ∧ Y.W (i + 1) m H) (x : Nx H') : ∃ m, m < n ∧ Y.Mid m s' := by
  obtain ⟨m, lt, w⟩ := nx H' x
  have pinned : ∀ b ∈ Y.fp, ∀ o, s0.heap.get? b = some o → s'.heap.get? b = some o ∧ H' b = none := fun b mb o g => by
    have z := I.pin (b, o) (List.mem_append_right _ (List.mem_append_right _ (mem_pinsAt mb g)))
    exact ⟨z.1, z.2.1⟩
  have len : (L2.wipe σ own).length = σ'.length := by rw [← wiped, wipe_length]
  refine ⟨m, lt, i + 1, H', (I.unpinned (pins := [])).weak len fun k v e => (wipe_some (wiped ▸ e)).1, Y.turn.keep _ _ _ st fun b mb o g => (pinned b mb o g).1, fun b mb => ?_, w⟩
  obtain ⟨o, g, _⟩ := Y.turn.obj _ _ st b mb
  exact (pinned b mb o g).2
end Way
theorem lc_coreH {Q : VK} {elt tg iter : Expr} {ifs : List Expr} {scope : Scope} {own : List (Str × Nat)} {pos pos' : Pos} {wi : TI} {g : TG} {tt : TT} {te : TE} {use : Option (Value → Sem Unit)} {Qf : Value → Shared → Prop}
    (hc : HotC X) (hN : X.N.Nodup) (I : L2.Inv X pins σ H s) (hi : PIH X tg iter wi) (ok : BlkOk X.N X.env.scope scope own)
    (hg : ∀ (s : Shared) (H : Hp) (C : Addr) (cl : List (Str × Addr)) (fp : List Addr), PG (blkH X s H scope (compEnvC scope cl C X.env) fp) tg g) (ht : ∀ (s : Shared) (H : Hp) (C : Addr) (cl : List (Str × Addr)) (fp : List Addr), PTs (blkH X s H scope (compEnvC scope cl C X.env) fp) ifs tt)
    (he : ∀ (s : Shared) (H : Hp) (C : Addr) (cl : List (Str × Addr)) (fp : List Addr), PE (blkH X s H scope (compEnvC scope cl C X.env) fp) elt te) (hs : ∀ x, foldedSetIterable iter X.env x = pure x)
    (h : (tLc wi g tt te (own.map (·.2))) σ H Q)
    (hRR : ∀ D C s' m H', L2.Inv X pins σ H' s' → Q (.ref D) H' → s'.heap.Ns C m → FpOk X pins H' C → compPost (model X.prog X.w) X.A X.xe use Qf (.ref D) C (.ok .next) s') :
    wpAny (model X.prog X.w) X.A (comprehension (Expr.ListComp elt [⟨tg, iter, ifs, 0⟩] scope pos) scope X.env pos' (newList []) false (eval iter X.env) use) Qf X.xe s := by
  have free : ∀ y ∈ scope.names, y.2 = .free → ∃ c, X.env.cells.lookup y.1 = some c := fun y m e => (ok.free y m e).elim (fun k => I.ok.has _ (.inl k)) fun k => I.ok.has _ (.inr k)
  apply wpAny_comprehension_free (use := use) rfl hs (closure_ok free) ok.kind (fun y m e => by rw [ok.uniq y m, e])
  refine thn (hi.run pins s σ H _ I h) fun xv s1 came => thn came ?_
  rintro _ s2 ⟨it, fp, tn, J, H2, rfl, I2, T, st2, f2, q⟩
  refine wpAny_newObj_type (newEnv_comp (show codeAny _ _ _ _ _ from ?_)) (Nat.zero_le _)
  -- the list at D, the block's names
  let D := s2.heap.objs.size
  let s3 : Shared := { s2 with heap := s2.heap.push { cls := .type "list", data := .seq ([] : List Value).toArray } }
  have grown : Keeps s2.heap s3.heap := fun b o g => Heap.get?_push_of_some _ g
  have newD : H2 D = none := I2.hok.fresh (Nat.le_refl _)
  obtain ⟨W, ⟨m0, w0⟩, turn⟩ := q D newD
  have I3 : L2.Inv X pins σ (upd H2 D (.lst [])) s3 := I2.laid (t' := s2.toks) grown (Nat.le_refl _) ⟨Nat.zero_le _, [], 0, .nil, Heap.get?_push_size _ rfl⟩
  have small : ∀ b ∈ fp, b < s2.heap.objs.size := fun b m => let ⟨o, g, _⟩ := T.obj _ _ st2 b m; Heap.lt_size g
  have apart : ∀ b ∈ fp, FpOk X pins (upd H2 D (.lst [])) b ∧ b < s3.heap.objs.size := fun b m =>
    ⟨⟨(upd_ne (Nat.ne_of_lt (small b m))).trans (f2 b m).1, (f2 b m).2⟩, (Heap.size_push s2.heap _).symm ▸ Nat.lt_succ_of_lt (small b m)⟩
  let cl := cellsFrom (s3.heap.objs.size + 1) scope.names (cloFrom X.env.cells scope.names [])
  let Y : Way X pins σ tg (own.map (·.2)) := ⟨s3, upd H2 D (.lst []), scope, compEnvC scope cl s3.heap.objs.size X.env, fp, it, tn, J, W, I3, T, apart, rfl⟩
  let s4 : Shared := { s3 with heap := pushCells (s3.heap.push { cls := .type "dict", data := .dict #[] }) scope.names }
  have I4 : L2.Inv Y.C [] (L2.wipe σ (own.map (·.2))) Y.H s4 := block_startH I3 ok hN apart
  have st4 : tn 0 s4.heap := T.keep _ _ _ st2 fun b _ o e => pushCells_keeps _ _ _ _ (Heap.get?_push_of_some _ (grown b o e))
  have loop : codeAny (model X.prog X.w) X.A (.compLoop (.ListComp elt [⟨tg, iter, ifs, 0⟩] scope pos) 0 (.ref it) (.ref D) Y.ce) (compPost (model X.prog X.w) X.A X.xe use Qf (.ref D) s3.heap.objs.size) s4 := by
    refine compLoop_any (fun n s' => Y.Mid n s') ?_ m0 ⟨0, Y.H, I4, st4, fun b m => (apart b m).1.1, w0⟩
    rintro n s5 ⟨i, H5, ⟨I5, st5, n5, w5⟩⟩
    rcases turn i n H5 w5 with ⟨stop, qq⟩ | ⟨go, Nx, nx, step⟩
    · refine thnF (T.done Y.C rfl rfl rfl hc i [] s5 _ H5 (fun _ _ => False) I5 (Y.still I5 n5) st5 stop) ?_
      rintro _ s6 ⟨rfl, I6⟩
      obtain ⟨I7, ⟨m, ns⟩, f⟩ := Y.ended (n := n) I6
      exact hRR D s3.heap.objs.size s6 m H5 I7 qq ns f
    · refine thnF (T.item Y.C rfl rfl rfl hc i [] s5 _ H5 (fun _ _ => False) I5 (Y.still I5 n5) st5 go) ?_
      rintro _ s6 ⟨u, rfl, h6⟩
      refine thnF h6 ?_
      rintro _ s7 ⟨x, H7, I7, r7, y7, st7, n7⟩
      have P7 := I7.pinned (Y.still I7 n7) (T.obj _ _ st7)
      refine thnF ((hg s3 Y.H s3.heap.objs.size cl fp).run _ s7 _ H7 x u _ P7 r7 (step x H7 y7)) ?_
      rintro _ s8 ⟨σ8, H8, I8, wiped, q8⟩
      refine thnF ((ht s3 Y.H s3.heap.objs.size cl fp).run _ s8 σ8 H8 _ I8 q8) ?_
      rintro b s9 ⟨H9, I9, q9⟩
      have next : ∀ {s' : Shared} {H' : Hp}, L2.Inv Y.C ([] ++ pinsAt fp s7.heap) σ8 H' s' → Nx H' → ∃ m, m < n ∧ Y.Mid m s' := fun J x => Y.again wiped st7 J nx x
      cases b
      · exact next I9 q9
      · refine thnF ((he s3 Y.H s3.heap.objs.size cl fp).run _ s9 σ8 H9 _ I9 q9) ?_
        rintro z s10 ⟨v, H10, I10, r10, acc, at10, few, x10⟩
        exact app_ok (X := Y.C) I10 at10 few r10 fun s11 I11 => next I11 x10
  refine codeAny_compStart_list loop (T.self X.A 0 _ _ _ st4 loop)
/-- as a value -/
theorem pe_lcH {elt tg iter : Expr} {ifs : List Expr} {scope : Scope} {own : List (Str × Nat)} {pos : Pos} {wi : TI} {g : TG} {tt : TT} {te : TE} (hc : HotC X) (hN : X.N.Nodup) (hi : PIH X tg iter wi) (ok : BlkOk X.N X.env.scope scope own)
    (hg : ∀ (s : Shared) (H : Hp) (C : Addr) (cl : List (Str × Addr)) (fp : List Addr), PG (blkH X s H scope (compEnvC scope cl C X.env) fp) tg g) (ht : ∀ (s : Shared) (H : Hp) (C : Addr) (cl : List (Str × Addr)) (fp : List Addr), PTs (blkH X s H scope (compEnvC scope cl C X.env) fp) ifs tt)
    (he : ∀ (s : Shared) (H : Hp) (C : Addr) (cl : List (Str × Addr)) (fp : List Addr), PE (blkH X s H scope (compEnvC scope cl C X.env) fp) elt te) (hs : ∀ x, foldedSetIterable iter X.env x = pure x) :
    PE X (Expr.ListComp elt [⟨tg, iter, ifs, 0⟩] scope pos) (tLc wi g tt te (own.map (·.2))) := by
  constructor
  intro pins s σ H Q I h
  rw [eval_ListComp]
  exact lc_coreH hc hN I hi ok hg ht he hs h fun D C s' m H' J q ns ⟨f0, f1, _, f3, f4, f5⟩ =>
    ⟨m, ns, fun h'' but => ⟨.ref D, H', J.turned (t' := s'.toks) (fun b o nb e => (but.2 b nb).trans e) f0 f1 f3 f4 f5, rfl, q⟩⟩
end
end Cor

set_option Elab.async false
set_option linter.all false
set_option maxRecDepth 100000
set_option maxHeartbeats 2000000
/-! Hot2: zip of two lists while an exception is handled. -/
namespace Cor
open PySem PySem.Spec L2 HotX
open PyProof.Rows hiding St
open L2H (HotC TurnH PIH PIEH)
theorem sep_hot {z TI TO i1 i2 x1 a b : Addr} (D : ZipSep2 z TI TO i1 i2 [i1, a] [i2, b]) (hz : x1 ≠ z) (hT : x1 ≠ TO) (h1 : x1 ≠ i1) (h2 : x1 ≠ i2) : ZipSep2 z TI TO i1 i2 [i1, a, x1] [i2, b, x1] := by
  have ext : ∀ {c i l : Addr}, c ∉ [i, l] → x1 ≠ c → c ∉ [i, l, x1] := fun {c i l} h n m => by
    have e : c = i ∨ c = l ∨ c = x1 := by simpa using m
    rcases e with e | e | e
    · exact h (by simp [e])
    · exact h (by simp [e])
    · exact n e.symm
  exact ⟨D.TIz, D.TOz, D.TITO, D.TIi1, by simp, ext D.zf1 hz, ext D.Tf1 hT, D.TIi2, by simp, ext D.zf2 hz, ext D.Tf2 hT, ext D.sep1_2 h1, ext D.sep2_1 h2⟩
/-- a list's iterator draws while an exception is handled, too -/
theorem draws_by_hot {X : Cx} {pins : List (Addr × Obj)} {σ : L2.St} {H : Hp} {s : Shared} {it l : Addr} {q0 : Addr × Obj} (I : L2.Inv X pins σ H s) (hh : HotAt X.A.in1 q0.1 s.heap) (n1 : q0.1 ≠ it) (n2 : l ≠ it) :
    DrawsBy X it (.L l) [it, l, q0.1] (fun its i h => h.IsListIter it l i ∧ h.IsList l its.toArray ∧ HotAt X.A.in1 q0.1 h) s.heap where
  run := fun its => by simpa using draws_list_hot (prog := X.prog) (w := X.w) (A := X.A.in1) n1 n2 its.toArray
  now := fun its i a b => ⟨a, b, hh⟩
  tell := fun its i h a => a.1
theorem turn_zpH {P : Program} {w : World} {K : PySem.W.Frag} {elts : List Expr} {kk : Nat} {tpos : Pos} {l1 l2 : Addr} {z TI TO i1 i2 : Addr} (D : ZAp z TI TO i1 i2 (.L l1) (.L l2)) :
    TurnH P w K (.Tuple elts kk tpos) (Izp K (.L l1) (.L l2)) [z, TI, TO, i1, i2] z (tnZ z TI TO i1 i2 (.L l1) (.L l2)) := by
  have hot : ∀ {X : Cx} {pins : List (Addr × Obj)} {σ : L2.St} {H : Hp} {s : Shared}, HotC X → L2.Inv X pins σ H s → (∀ b ∈ [z, TI, TO, i1, i2], FpOk X pins H b) → ∃ q0 : Addr × Obj, HotAt X.A.in1 q0.1 s.heap ∧ ∀ b ∈ [z, TI, TO, i1, i2], q0.1 ≠ b :=
    fun {X pins σ H s} ⟨q0, ⟨hh, v, e, c⟩, m⟩ I hf => ⟨q0, ⟨hh, q0.2, v, (I.pin q0 (List.mem_append_left _ m)).1, e, c⟩, fun b mb => (hf b mb).2.2.2.2.2 q0 (List.mem_append_left _ m)⟩
  have sep : ∀ {x1 : Addr}, (∀ b ∈ [z, TI, TO, i1, i2], x1 ≠ b) → ZipSep2 z TI TO i1 i2 [i1, l1, x1] [i2, l2, x1] := fun ne =>
    sep_hot D.sep (ne z (by simp)) (ne TO (by simp)) (ne i1 (by simp)) (ne i2 (by simp))
  exact {
    mem := .head _
    obj := fun i h st => st.own
    keep := fun i h h' st k => st.keep k
    item := fun X hP hw hK hc i pins s σ H E I hf st go => by
      subst hP hw hK
      obtain ⟨q0, hh, ne⟩ := hot hc I hf
      exact zp_item (sep ne) D (draws_by_hot I hh (ne i1 (by simp)) D.n1) (draws_by_hot I hh (ne i2 (by simp)) D.n2) I hf st go
    done := fun X hP hw hK hc i pins s σ H E I hf st stop => by
      subst hP hw hK
      obtain ⟨q0, hh, ne⟩ := hot hc I hf
      exact zp_done (sep ne) (draws_by_hot I hh (ne i1 (by simp)) D.n1) (draws_by_hot I hh (ne i2 (by simp)) D.n2) I hf st stop
    self := fun A i s Q E st q => wpAny_pyIter_zip st.1 q }
def iZpL (K : PySem.W.Frag) (ta : TA) : TI := fun σ H R => ta σ H fun vs H1 => ∃ l1 l2 xs ys, vs = [.ref l1, .ref l2] ∧ SqL K H1 l1 xs ∧ SqL K H1 l2 ys ∧ R (Izp K (.L l1) (.L l2)) H1
theorem pi_zpH {X : Cx} {e e2 : Expr} {ta : TA} {p pos tpos : Pos} {elts : List Expr} {kk : Nat} (hg : Gl X "zip") (hm : X.mg "zip" = none) (ha : PA X [e, e2] ta)
    (hs : starEach [e, e2] X.env = (false, eval e X.env) :: starEach [e2] X.env) (hpl : (backTo pos (starEach [e2] X.env)).any (·.1) = false) :
    PIH X (.Tuple elts kk tpos) (.Call (.Name "zip" p) [e, e2] [] pos) (iZpL X.K ta) := by
  constructor
  intro pins s σ H R I h
  refine Call_ (ld_blt I hg hm PyProof.Rows.boot_zip (PyProof.Rows.callWith_type1 (thn (ha.run pos pins s σ H _ I h) ?_) hs hpl))
  rintro us s1 ⟨vs, H1, I1, r1, l1, l2, xs, ys, rfl, sx, sy, q⟩
  obtain ⟨u1, u2, rfl, ru, rv⟩ := vals2 r1
  rcases ru, rv with ⟨rfl, rfl⟩
  obtain ⟨a1, _, p1, _⟩ := Inv.src I1 (S := .L l1) sx
  obtain ⟨a2, _, p2, _⟩ := Inv.src I1 (S := .L l2) sy
  refine zip_begins2 (beginsS (.L l1) a1) (beginsS (.L l2) a2) p1 p2 fun h z TI TO it1 it2 _ kept => wpAny_pyIter_zip z ?_
  have new : ∀ b ∈ [s1.heap.objs.size + 4, s1.heap.objs.size + 2, s1.heap.objs.size + 3, s1.heap.objs.size, s1.heap.objs.size + 1], s1.heap.objs.size ≤ b :=
    fun b m => five (P := fun b => s1.heap.objs.size ≤ b) m ⟨Nat.le_add_right .., Nat.le_add_right .., Nat.le_add_right .., Nat.le_refl _, Nat.le_add_right ..⟩
  exact ⟨_, _, _, _, H1, rfl, I1.kept (t' := s1.toks) kept, turn_zpH (zap_new p1.lt p2.lt), ⟨z, TI, ⟨_, _, TO⟩, ItS.new (S := .L l1) it1, ItS.new (S := .L l2) it2⟩, fun b m => I1.fpOk (new b m) (I1.hok.fresh (new b m)), q⟩
end Cor

set_option Elab.async false
set_option linter.all false
set_option maxRecDepth 100000
set_option maxHeartbeats 2000000
/-! TryAs: several clauses «except X as n», one name. -/
namespace Cor
open PySem PySem.Spec L2
open PyProof.Rows hiding St
open L2N (Zn)
/-- a suite's ends: the name goes -/
def goneE (i : Nat) (Z : Ends) : Ends := { nx := fun σ' H' => Z.nx (σ'.set i none) H', rt := Z.rt, bk := fun σ' H' => Z.bk (σ'.set i none) H', ct := fun σ' H' => Z.ct (σ'.set i none) H' }
def wManyAs (K : PySem.W.Frag) (i : Nat) (Wout : WX) (Z : Ends) : List (Value × (Addr → Value → Option Addr → TS)) → WX
  | [] => Wout
  | (c, ts) :: r => fun cls d σ H => ∃ b, PySem.W.exmOne K cls c = some b ∧ (b = true → ∀ a, H a = none → ts a cls d (goneE i Z) (σ.set i (some (.ref a))) H) ∧ (b = false → wManyAs K i Wout Z r cls d σ H)
inductive HdsAs (X : Cx) (n : Str) : List ExceptHandler → List (Value × (Addr → Value → Option Addr → TS)) → Prop
  | nil : HdsAs X n [] []
  | cons {x : Str} {c : Value} {ts : Addr → Value → Option Addr → TS} {b₀ : Stmt} {suite : List Stmt} {np pos' : Pos}
      {hds : List ExceptHandler} {l : List (Value × (Addr → Value → Option Addr → TS))} (hc : Names X x c)
      (hsu : ∀ (a : Addr) (oe : Obj) (cls : Value) (d : Option Addr) (pn : List (Addr × Obj)), Zn cls d oe → (∃ vs, oe.data = .fields vs) → PSs (X.suite a ((a, oe) :: pn)) (b₀ :: suite) (ts a cls d)) (r : HdsAs X n hds l) :
      HdsAs X n (.ExceptHandler (some (.Name x np)) (some n) (b₀ :: suite) pos' :: hds) ((c, ts) :: l)
section
variable {X : Cx} {body : List Stmt} {h₀ : ExceptHandler} {hds : List ExceptHandler} {l : List (Value × (Addr → Value → Option Addr → TS))} {pos : Pos} {tb : WX → TS} {Wout : WX} {i : Nat} {n : Str}
/-- the exception at a has been caught in t; sI was the world when it was raised -/
structure Caught (X : Cx) (pins : List (Addr × Obj)) (B : Heap) (a : Addr) (cls : Value) (d : Option Addr) (σ : L2.St) (H : Hp) (sI t : Shared) : Prop where
  inv : L2.Inv X pins σ H sI
  nb : ∀ b o, sI.heap.get? b = some o → b ∉ frs X.stack → B.get? b = some o
  up : sI.heap.UpToSlots t.heap
  os : t.os = sI.os
  ag : AllBare t.gens
  new : H a = none
  fly : HandSPX.FlyingZ B (X.env :: X.outer) a (Zn cls d) t.heap
section
variable {pins : List (Addr × Obj)} {B : Heap} {a : Addr} {cls : Value} {d : Option Addr} {σ : L2.St} {H : Hp} {sI t : Shared}
theorem Caught.now (c : Caught X pins B a cls d σ H sI t) : L2.Inv X pins σ H t := c.inv.landed c.nb c.fly.1 c.up c.os c.ag
theorem Caught.on (c : Caught X pins B a cls d σ H sI t) {h : Heap} (f : HandSPX.FlyingZ B (X.env :: X.outer) a (Zn cls d) h) (u : t.heap.UpToSlots h) : Caught X pins B a cls d σ H sI { t with heap := h } :=
  ⟨c.inv, c.nb, c.up.trans u, c.os, c.ag, c.new, f⟩
/-- it is no frame -/
theorem Caught.noFrame (c : Caught X pins B a cls d σ H sI t) : a ∉ frs (X.env :: X.outer) := fun m => by
  obtain ⟨o, vs, g, _, dd⟩ := c.fly.there
  obtain ⟨_, o', g', bad⟩ := c.fly.2.2.1.mem m
  cases g.symm.trans g'
  exact bad _ dd
theorem Caught.suite (c : Caught X pins B a cls d σ H sI t) (hf : X.env.frame = some X.env.locals) : ∃ oe, t.heap.get? a = some oe ∧ Zn cls d oe ∧ (∃ vs, oe.data = .fields vs) ∧ L2.Inv (X.suite a ((a, oe) :: (X.pn ++ pins))) [] σ H t := by
  obtain ⟨oe, vs, g, z, dd⟩ := c.fly.there
  have mine : a ≠ X.env.locals := fun e => c.noFrame (List.mem_filterMap.mpr ⟨X.env, .head _, hf.trans (congrArg some e.symm)⟩)
  have others : a ∉ X.fs := fun m => let ⟨e, me, q⟩ := List.mem_filterMap.mp m; c.noFrame (List.mem_filterMap.mpr ⟨e, .tail _ me, q⟩)
  exact ⟨oe, g, z, ⟨vs, dd⟩, c.now.suite g dd c.new mine others⟩
/-- no clause is left -/
theorem Caught.out (c : Caught X pins B a cls d σ H sI t) (hs : X.stack = X.env :: X.outer) (hf : X.env.frame = some X.env.locals) (tk : L2N.Takes X Wout) {Z : Ends} (w : Wout cls d σ H) : wpAny (model X.prog X.w) X.A (handleBy (.ref a) X.env []) (SP X pins Z) X.xe t := by
  have leaves : wpAny (model X.prog X.w) X.A (setFlight (.ref a) X.env.frame) (fun _ t' => wpAny (model X.prog X.w) X.A (throw (.ref a) : Sem Flow) (SP X pins Z) X.xe t') X.xe t :=
    hf ▸ HandSPX.setFlight_upZ c.fly fun h held u => wpAny_throw (tk _ _ ⟨a, B, sI, pins, σ, H, cls, d, rfl, c.inv, c.nb, c.up.trans u, .inr (.inr (hs.symm ▸ held)), c.new, c.os, c.ag, w⟩)
  have ⟨_, _, _, oe, vs, T, oT, ts, g, _, dd, h1, _⟩ := c.fly
  refine wpAny_handleBy_nil ?_
  unfold PySem.passOn
  refine wpAny_bind (wpAny_field g dd h1 ?_)
  rw [if_neg (by simp)]
  exact wpAny_bind leaves
/-- behind a suite the name goes -/
theorem suite_ends {oe : Obj} {Z : Ends} {f : Flow} {t : Shared} {p : Pos} (ok : X.Ok) (hN : X.N.Nodup) (hi : X.N[i]? = some n) (hln : X.env.kindOf n = some .local) (e : SP (X.suite a ((a, oe) :: (X.pn ++ pins))) [] (goneE i Z) f t) :
    wpAny (model X.prog X.w) X.A (do bindName X.env n .none; unbindBehindTheSuite X.env n p) (fun _ t' => SP X pins Z f t') X.xe t := by
  cases f
  case ret u =>
    obtain ⟨v, σ', H', J, r, q⟩ := e
    exact gone_ok (J.unsuite ok) hN hi hln fun t' J' => ⟨v, _, H', J', r, q⟩
  all_goals
    obtain ⟨σ', H', J, q⟩ := e
    exact gone_ok (J.unsuite ok) hN hi hln fun t' J' => ⟨_, H', J', q⟩
theorem Caught.handled (hs : X.stack = X.env :: X.outer) (hf : X.env.frame = some X.env.locals) (hN : X.N.Nodup) (hi : X.N[i]? = some n) (hln : X.env.kindOf n = some .local) (tk : L2N.Takes X Wout) (ok : X.Ok) {Z : Ends} (c : Caught X pins B a cls d σ H sI t) {hds : List ExceptHandler}
    {l : List (Value × (Addr → Value → Option Addr → TS))} (hh : HdsAs X n hds l) : wManyAs X.K i Wout Z l cls d σ H → wpAny (model X.prog X.w) X.A (handleBy (.ref a) X.env hds) (SP X pins Z) X.xe t := by
  induction hh with
  | nil => exact fun w => c.out hs hf tk w
  | @cons x cv ts b₀ suite np p hds2 l2 named run _ rest =>
    rintro ⟨b, exm, yes, no⟩
    obtain ⟨oe, g, z, _, S⟩ := c.suite hf
    have class_of : PySem.W.Looks (model X.prog X.w) t.heap (typeOf (.ref a)) cls := fun A Q E s k q => wpAny_typeOf_ref (k _ _ g) (by rw [z.1]; exact q)
    have asks := PySem.W.exm_one (M := model X.prog X.w) c.now.kIn class_of exm
    have name : ∀ {Q E : Value → Shared → Prop}, Q cv t → wpAny (model X.prog X.w) (X.A.mark (some (.ref a))) (eval (.Name x np) X.env) Q E t := fun q => by
      rcases named with ⟨gl, db, m | ⟨m, v, nn⟩⟩
      · exact ld_glob S gl m q db
      · exact ld_blt S gl m v q nn db
    refine wpAny_handleBy_cons (codeAny_handlers_test (name (asks.here ?_))) (fun q => nomatch q)
    cases b
    · exact rest (no rfl)
    · refine codeAny_handlers_suite_as (HandSPX.lands_againZ c.fly fun h f u => ?_)
      obtain ⟨oe, _, z, dd, S⟩ := (c.on f u).suite hf
      refine store_ok (X := X.suite a ((a, oe) :: (X.pn ++ pins))) (v := .ref a) S hN hi (.inl hln) rfl (fun t1 S1 => ?_) (.inr hln)
      exact wpAny_mono ((run a oe cls d (X.pn ++ pins) z dd).run [] t1 _ H _ S1 (yes rfl a c.new)) (fun fl t2 e => suite_ends ok hN hi hln e) fun _ _ z => z.elim
end
theorem ps_try_many_as (hs : X.stack = X.env :: X.outer) (hf : X.env.frame = some X.env.locals) (hN : X.N.Nodup) (hi : X.N[i]? = some n) (hln : X.env.kindOf n = some .local) (tk : L2N.Takes X Wout)
    (hb : ∀ (W : WX) (pn : List (Addr × Obj)) (xe : Value → Shared → Prop), L2N.Takes (X.tr pn xe) W → PassesOwn (model X.prog X.w) X.A X.env xe → PSs (X.tr pn xe) body (tb W))
    (hh : HdsAs X n (h₀ :: hds) l) : PS X (.Try body (h₀ :: hds) [] [] pos) (fun Z σ H => tb (wManyAs X.K i Wout Z l) Z σ H) := by
  constructor
  intro pins s σ H Z I h
  have ok := I.ok
  have frames : X.A.frames = some (X.env :: X.outer) := ok.frames.trans (congrArg some hs)
  let xe : Value → Shared → Prop := fun e t => wpAny (model X.prog X.w) X.A (noteFrame e X.env) (fun _ t1 => wpAny (model X.prog X.w) X.A (setFlight e none) (fun _ t2 => wpAny (model X.prog X.w) X.A (handleBy e X.env (h₀ :: hds)) (SP X pins Z) X.xe t2) X.xe t1) X.xe t
  have takes : L2N.Takes (X.tr (X.pn ++ pins) xe) (wManyAs X.K i Wout Z l) := by
    rintro _ t ⟨a, B, sI, pins', σ', H', cls, d, rfl, J, nb, up, sky, new, os, ag, w⟩
    refine L2N.Sky.land L2N.Zn.steady frames hf (hs ▸ sky) fun h fly u => ?_
    have c : Caught X pins B a cls d σ' H' sI { t with heap := h } := ⟨J.ofTry ok, nb, up.trans u, os, ag, new, fly⟩
    exact c.handled hs hf hN hi hln tk ok hh w
  refine wpAny_Try_except (wpAny_mono ((hb _ (X.pn ++ pins) xe takes PassesOwn.looking).run [] s σ H Z (I.toTry _) h) (fun f t e => ?_) fun _ _ z => z)
  cases f
  case next =>
    obtain ⟨σ', H', J, q⟩ := e
    exact wpAny_execs_nil ⟨σ', H', J.ofTry ok, q⟩
  case ret u =>
    obtain ⟨v, σ', H', J, r, q⟩ := e
    exact ⟨v, σ', H', J.ofTry ok, r, q⟩
  all_goals
    obtain ⟨σ', H', J, q⟩ := e
    exact ⟨σ', H', J.ofTry ok, q⟩
end
end Cor

set_option Elab.async false
set_option linter.all false
set_option maxRecDepth 100000
set_option maxHeartbeats 2000000
/-! LamN: a lambda handed to a def, the exceptions without a context (as LamX.pe_act and LamX.pe_lamcall, over L2N). -/
namespace Cor
open PySem PySem.Spec L2 LamX
open PyProof.Rows hiding St
/-- the context of the def g, called in s with the one argument a -/
abbrev CxG (X : Cx) (Ng : List Str) (x : Str) (sg : Scope) (g : Addr) (cdg : Value) (s : Shared) (H : Hp) : Cx := cxOf C8.CX0 X.prog X.w X.K X.mg X.base Ng x sg g cdg X.A X.stack s H C8.E0
/-- the def g, handed a function f, gives what TT says of f's own call -/
def GivesToN (X : Cx) (Ng : List Str) (x : Str) (sg : Scope) (g : Addr) (cdg : Value) (bg : List Stmt) (a : Str) (q : Str) (TT : (XK → Hp → VK → Prop) → Hp → VK → Prop) : Prop :=
  ∀ f c' s H Q (tl : XK → Hp → VK → Prop),
    (∀ W pn xe (E : XK) p1 p2, L2N.Takes ((CxG X Ng x sg g cdg s H).tr pn xe) W →
      PE ((CxG X Ng x sg g cdg s H).tr pn xe) (.Call (.Name a p1) [] [] p2) (fun σZ HZ Q => σZ[0]? = some (some (.ref f)) ∧ HZ c' = some (CodeO c' q) ∧ (∀ cls d H', E cls d H' → W cls d σZ H') ∧ tl E HZ Q)) →
    H c' = some (CodeO c' q) → TT tl H Q → Room 1 (X.A.deeper (envOfC x sg s.heap.objs.size g cdg)) → ∃ t, PSs (CxG X Ng x sg g cdg s H).nox bg t ∧ t { nx := fun _ H' => Q .non H', rt := Q } (L2.start Ng [.ref f]) H
/-- the lambda's object -/
abbrev lamO (X : Cx) (params : Arguments) (body : Expr) (scope : Scope) (pm : Value) (c' : Addr) (ctv : Value) : Obj := PySem.W.kla_obj "<lambda>" (X.env.qual ++ "<lambda>") params body scope (cloFrom X.env.cells scope.names []) pm c' ctv
/-- its name -/
abbrev lamQ (X : Cx) : Str := X.env.qual ++ "<lambda>"
/-- the context of a def's body, where a function's exceptions are let out -/
abbrev inDef (X : Cx) (CXg : CXT) (Eg : XK) (Ng : List Str) (qg : Str) (sg : Scope) (g : Addr) (cdg : Value) (s : Shared) (H : Hp) (pn : List (Addr × Obj)) (xe : Value → Shared → Prop) : Cx := (cxOf CXg X.prog X.w X.K X.mg X.base Ng qg sg g cdg X.A X.stack s H Eg).tr pn xe
section
variable {pins : List (Addr × Obj)} {X : Cx} {s s1 : Shared} {σ : L2.St} {HZ H : Hp}
theorem pe_actN {CXg : CXT} {Eg : XK} {Ng : List Str} {qg : Str} {sg : Scope} {g f c' : Addr} {cdg pm ctv : Value} {params : Arguments} {body : Expr} {scope : Scope} {k i : Nat} {a : Str} {pn : List (Addr × Obj)} {xe : Value → Shared → Prop} {W : WX} {E : XK} {tb : TE} {p1 p2 : Pos}
    (I : L2.Inv X pins σ H s) (L : LamS X.env.scope scope) (hf : s.heap.get? f = some (lamO X params body scope pm c' ctv)) (hfn : H f = none) (hfr : f ∉ frs X.stack)
    (hbind : bindArgs (PySem.W.kla_fn "<lambda>" (lamQ X) params body scope (cloFrom X.env.cells scope.names []) pm (.ref c') ctv) ⟨[], []⟩ = pure [])
    (tk : L2N.Takes (inDef X CXg Eg Ng qg sg g cdg s H pn xe) W) (hr : Room (k + 1) (X.A.deeper (envOfC qg sg s.heap.objs.size g cdg)))
    (hbody : ∀ (A : Around) (outer : List PySem.Env) (s : Shared) (H : Hp), Room k (A.deeper (lamEnv X scope s.heap.objs.size f c')) → PE (lamCxN X A outer s H E scope f c') body tb)
    (hN : Ng[i]? = some a) (hv : Vis sg a) (hd : (a == ("__debug__" : Str)) = false) (hcd : (a == ("__classdict__" : Str)) = false) :
    PE (inDef X CXg Eg Ng qg sg g cdg s H pn xe) (.Call (.Name a p1) [] [] p2)
      (fun σZ HZ Q => σZ[i]? = some (some (.ref f)) ∧ HZ c' = some (CodeO c' (X.env.qual ++ "<lambda>")) ∧ (∀ cls d H', E cls d H' → W cls d σZ H') ∧ tb σ HZ Q) := by
  constructor
  rintro pinsZ sZ σZ HZ Q IZ ⟨slot, rec_, reach, told⟩
  have name := (pe_var (pos := p1) (i := i) hN hv hd hcd).run pinsZ sZ σZ HZ (fun v H1 => v = .ref f ∧ H1 = HZ) IZ ⟨.ref f, slot, rfl, rfl⟩
  refine wpAny_Call_Name_kw (thn name ?_)
  rintro u s1 ⟨_, H1, I1, r1, rfl, same⟩
  rw [same] at I1
  rcases r1 with rfl
  -- the function stands where it was made
  have stands := I1.base.keep f _ hf hfn hfr (fun z => nomatch (show f ∈ ([] : List Addr) from z))
  have ⟨⟨oc, vs, t, hoc, dc, vc⟩, _, _⟩ := I1.hok c' _ rec_
  have un := (show Un (frs X.stack) [] H HZ s.heap s1.heap from I1.base)
  let eg := envOfC qg sg s.heap.objs.size g cdg
  have runs : codeAny (model X.prog X.w) (X.A.deeper eg) (.call (.ref f) ⟨[], []⟩) (CR (L2N.CX X.prog X.w) (eg :: X.stack) X.prog X.w HZ s1 Q E) s1 := by
    refine PySem.W.kla_callFunE hr.depth stands rfl L.co L.gen rfl ⟨c', oc, vs, t, rfl, hoc, dc, vc⟩ (hbind ▸ wpAny_pure ?_)
    refine wpAny_newFunctionEnv (fun y m => (L.own y m).2) (fun y m => nomatch m) (fun h1 ns but => ⟨I1.nolimit.fresh _ but, ?_⟩) L.kind
    have kept : Keeps s1.heap h1 := fun b o e => but.extBut b o (Nat.ne_of_lt (Heap.lt_size e)) (Heap.get?_push_of_some _ e)
    have J0 := lam_start2 (E := E) (f := f) (c' := c') (tk := s1.toks + ([] : List (Str × Value)).length) I L I1.env0 hr.hd un ns kept
    have J : L2.Inv (lamCxN X (X.A.deeper eg) (eg :: X.stack) s1 HZ E scope f c') [] σ HZ { s1 with heap := h1, toks := s1.toks + ([] : List (Str × Value)).length } := J0.wish _
    refine PySem.W.kla_codeExpr (wpAny_mono ((hbody _ (eg :: X.stack) s1 HZ (hr.deeper _)).run [] _ _ HZ Q J told) (fun v t ⟨w', H', J', rv, q⟩ => ?_) fun _ _ z => z)
    exact ⟨w', H', ⟨J'.os, J'.bare, J'.base, J'.hok, rv, q⟩⟩
  refine PySem.W.callWith_F0 ⟨_, _, _, _, stands⟩ (wpAny_call (codeAny_mono runs fun r t q => ?_))
  match r, q with
  | .error e, q => exact tk _ _ (L2N.XE.of_call (W := W) I1 reach q)
  | .ok (.ret u), q => exact I1.after q
/-- a table grown by one row, and the new row's record -/
theorem tabs_more {T : List (Addr × Str)} {H : Hp} {P c' : Addr} {q : Str} {ps : Array Value} {pos : Pos} (hT : Tabs T H) (one : ∀ p ∈ T, p.1 = P → p.2 = q) (tab : H P = some (.tbl ps)) (new : H c' = none) (ok : TriplesOk ps.toList) (ha : ∀ p cv, codeAmong p ps.toList = some cv → ∃ c0, cv = .ref c0 ∧ H c0 = some (CodeO c0 q)) :
    let H1 := upd (upd H P (.tbl (ps ++ #[rawInt pos.line, rawInt pos.col, .ref c']))) c' (CodeO c' q)
    ExtN H H1 ∧ Tabs T H1 ∧ ∀ a, H a ≠ none → H1 a ≠ none := by
  intro H1
  have away : ∀ {b o}, H b = some o → b ≠ c' := fun e z => by rw [z, new] at e; cases e
  have ext : ExtN H H1 := fun b o e no => (upd_ne (away e)).trans ((upd_ne fun z => no ps (Option.some.inj (e.symm.trans ((congrArg H z).trans tab)))).trans e)
  have rows : (ps ++ #[rawInt pos.line, rawInt pos.col, .ref c']).toList = ps.toList ++ [rawInt pos.line, rawInt pos.col, .ref c'] := Array.toList_append
  refine ⟨ext, fun p m => ?_, fun a e => ?_⟩
  · cases Decidable.em (p.1 = P) with
    | inl here =>
      refine ⟨ps ++ #[rawInt pos.line, rawInt pos.col, .ref c'], (upd_ne (away (here ▸ tab))).trans (here ▸ upd_same), rows ▸ PySem.TriplesOk_snoc _ _ _ _ ok, fun p' cv found => ?_⟩
      rw [one p m here]
      rcases among_app _ ok (rows ▸ found) with old | rfl
      · have ⟨c0, e1, e2⟩ := ha p' cv old
        exact ⟨c0, e1, ext _ _ e2 codeO_ne⟩
      · exact ⟨c', rfl, upd_same⟩
    | inr other =>
      have ⟨ps', a1, a2, a3⟩ := hT p m
      exact ⟨ps', (upd_ne (away a1)).trans ((upd_ne other).trans a1), a2, fun p' cv found => let ⟨c0, e1, e2⟩ := a3 p' cv found; ⟨c0, e1, ext _ _ e2 codeO_ne⟩⟩
  · intro z
    show False
    have z : upd (upd H P (.tbl (ps ++ #[rawInt pos.line, rawInt pos.col, .ref c']))) c' (CodeO c' q) a = none := z
    unfold upd at z
    split at z
    · cases z
    · split at z
      · cases z
      · exact e z
/-- the lambda is made; no table is new -/
theorem lam_makeN {T : List (Addr × Str)} {c P : Addr} {params : Arguments} {body : Expr} {scope : Scope} {pos : Pos} {E : Value → Shared → Prop} {Q : Value → Shared → Prop} (I : L2.Inv X pins σ H s) (TB : TabB X.base X.mg c P) (hcode : X.env.code = .ref c)
    (hm : (P, lamQ X) ∈ T) (hu : ∀ p ∈ T, p.1 = P → p.2 = lamQ X) (hT : Tabs T H) (hdef : defaultsOf params X.env = ([], [])) (hfree : ∀ y ∈ scope.names, y.2 = .free → ∃ c, X.env.cells.lookup y.1 = some c)
    (h : ∀ (f c' : Addr) (pm ctv : Value) (H1 : Hp) (s' : Shared), L2.Inv X pins σ H1 s' → ExtN H H1 → Tabs T H1 → (∀ a, H a ≠ none → H1 a ≠ none) →
      s'.heap.get? f = some (lamO X params body scope pm c' ctv) → H1 f = none → f ∉ frs X.stack → H1 c' = some (CodeO c' (X.env.qual ++ "<lambda>")) → Q (.ref f) s') :
    wpAny (model X.prog X.w) X.A (eval (Expr.Lambda params body scope pos) X.env) Q E s := by
  obtain ⟨ps, tab, ok, ha⟩ := hT _ hm
  have bP := TB.bm.keeps I.bk
  have tab' := I.hok P _ tab
  have noFrame : ∀ f, s.heap.objs.size ≤ f → f ∉ frs X.stack := fun f le m => (List.mem_cons.mp (I.stkSub _ m)).elim (fun e => Nat.lt_irrefl _ (Nat.lt_of_lt_of_le (e ▸ I.lt) le)) (I.nofs le)
  apply PySem.W.kla_eval hdef
  cases found : codeAmong pos ps.toList with
  | some cv =>
    obtain ⟨c', rfl, rec_⟩ := ha pos cv found
    refine PySem.W.kla_makeFunctionHit (mg := X.mg) (c := c) (P := P) (ps := ps) (closure_ok hfree) I.ok.glob (I.mod.glob.keeps I.bk) hcode (TB.code.keeps I.bk) tab' ok found bP fun ctv h' tk kept le => ?_
    have J := I.kept (t' := tk) (h' := h'.push (lamO X params body scope ((X.mg "__name__").getD .none) c' ctv)) fun b o e => Heap.get?_push_of_some _ (kept b o e)
    exact h h'.objs.size c' _ ctv H _ J (ExtN.refl H) hT (fun a e => e) (Heap.get?_push_size _ rfl) (I.hok.fresh le) (noFrame _ le) rec_
  | none =>
    refine PySem.W.kla_makeFunction (mg := X.mg) (c := c) (P := P) (ps := ps) (closure_ok hfree) I.ok.glob (I.mod.glob.keeps I.bk) hcode (TB.code.keeps I.bk) tab' ok found TB.gP bP fun c' ctv h' tk kept ge lt rec_ tab1 => ?_
    obtain ⟨_, oc, vs, t, e2, hoc, dc, vc⟩ := rec_
    cases e2
    have new : H c' = none := I.hok.fresh ge
    have le : s.heap.objs.size ≤ h'.objs.size := Nat.le_trans ge (Nat.le_of_lt lt)
    have far : h'.objs.size ≠ P := Nat.ne_of_gt (Nat.lt_of_lt_of_le (Heap.lt_size tab') le)
    obtain ⟨ext, tabs, dom⟩ := tabs_more (pos := pos) hT hu tab new ok ha
    have J := inv_table (t' := tk) (more := #[rawInt pos.line, rawInt pos.col, .ref c']) (h' := h'.push (lamO X params body scope ((X.mg "__name__").getD .none) c' ctv)) I tab
      (fun b o nb e => Heap.get?_push_of_some _ (kept b o nb e)) (Heap.get?_push_of_some _ tab1) ge ⟨oc, vs, t, Heap.get?_push_of_some _ hoc, dc, vc⟩
    exact h h'.objs.size c' _ ctv _ _ J ext tabs dom (Heap.get?_push_size _ rfl) ((upd_ne (Nat.ne_of_gt lt)).trans ((upd_ne far).trans (I.hok.fresh le))) (noFrame _ le) upd_same
def tLamN (T : List (Addr × Str)) (TT : (XK → Hp → VK → Prop) → Hp → VK → Prop) (t : XK → TE) : TE := fun σ H Q => Tabs T H ∧ ∀ H1, ExtN H H1 → Tabs T H1 → (∀ a, H a ≠ none → H1 a ≠ none) → TT (fun E H' Q' => t E σ H' Q') H1 Q
/-- x(lambda: body) -/
theorem pe_lamcallN {T : List (Addr × Str)} {TT : (XK → Hp → VK → Prop) → Hp → VK → Prop} {x a : Str} {g c P : Addr} {pg : Arguments} {bg : List Stmt} {sg : Scope} {dV kV doc pm cdv ct oc : Value} {an od : Option Addr} {osl : Array (Option Value)} {Ng : List Str} {k : Nat}
    {scope : Scope} {body : Expr} {params : Arguments} {p lpos pos : Pos} {t : XK → TE} (hg : Gl X x) (hm : X.mg x = some (.ref g)) (hk : PySem.W.keepIn X.K (.ref g) = true)
    (hcg : PySem.W.codeIn X.K cdv x = true) (lk : X.K.lookup g = some ⟨oc, od, .func (PySem.W.fnOf x x pg bg sg dV kV doc pm an cdv ct), osl⟩) (hb : L2.Binds X.K (PySem.W.fnOf x x pg bg sg dV kV doc pm an cdv ct) [a] []) (Sg : FnScope Ng [a] sg) (hNg : Ng[0]? = some a) (hva : Vis sg a)
    (hG : GivesToN X Ng x sg g cdv bg a (X.env.qual ++ "<lambda>") TT)
    (TB : TabB X.base X.mg c P) (hcode : X.env.code = .ref c) (hmT : (P, lamQ X) ∈ T) (hu : ∀ p ∈ T, p.1 = P → p.2 = lamQ X) (hr : Room (k + 2) X.A) (L : LamS X.env.scope scope) (hdef : defaultsOf params X.env = ([], []))
    (hbind : ∀ (q : Str) (cells : List (Str × Addr)) (pm cv ctv : Value), bindArgs (PySem.W.kla_fn "<lambda>" q params body scope cells pm cv ctv) ⟨[], []⟩ = pure [])
    (hbody : ∀ (A : Around) (outer : List PySem.Env) (s : Shared) (H : Hp) (E : XK) (f c' : Addr), Room k (A.deeper (lamEnv X scope s.heap.objs.size f c')) → PE (lamCxN X A outer s H E scope f c') body (t E))
    (hdb : (x == ("__debug__" : Str)) = false) (hd : (a == ("__debug__" : Str)) = false) (hcd : (a == ("__classdict__" : Str)) = false) :
    PE X (.Call (.Name x p) [.Lambda params body scope lpos] [] pos) (tLamN T TT t) := by
  constructor
  rintro pins s σ H Q I ⟨hT, told⟩
  have call : ∀ (f c' : Addr) (pm' ctv : Value) (H1 : Hp) (s' : Shared), L2.Inv X pins σ H1 s' → ExtN H H1 → Tabs T H1 → (∀ a, H a ≠ none → H1 a ≠ none) → s'.heap.get? f = some (lamO X params body scope pm' c' ctv) → H1 f = none → f ∉ frs X.stack → H1 c' = some (CodeO c' (X.env.qual ++ "<lambda>")) →
      wpAny (model X.prog X.w) X.A (call (.ref g) [.ref f]) (EP X pins σ Q) X.xe s' := fun f c' pm' ctv H1 s' I1 ext tabs dom made no noFr rec_ => by
    have runs : codeAny (model X.prog X.w) X.A (.call (.ref g) ⟨[.ref f], []⟩) (CR C8.CX0 X.stack X.prog X.w H1 s' Q C8.E0) s' := by
      refine run_ofS (N := Ng) (ps := [a]) (us := [.ref f]) (vs := [.ref f]) lk hcg Sg hr I1.env0 (hb s' [.ref f] I1.kIn rfl) (.cons rfl .nil) rfl fun room => ?_
      have act := fun W pn xe (E : XK) p1 p2 tk => pe_actN (CXg := C8.CX0) (Eg := C8.E0) (i := 0) (p1 := p1) (p2 := p2) (pn := pn) (xe := xe) (W := W) I1 L made no noFr (hbind _ _ _ _ _) tk room (fun A outer s H r => hbody A outer s H E f c' r) hNg hva hd hcd
      have ⟨t', body', q⟩ := hG f c' s' H1 Q (fun E H' Q' => t E σ H' Q') act rec_ (told H1 ext tabs dom) (room.mono (Nat.le_add_left 1 k))
      exact ⟨t', body'.nox, q⟩
    refine wpAny_call (codeAny_mono runs fun r t q => ?_)
    match r, q with
    | .ok (.ret u), q => exact I1.after q
  refine wpAny_Call_Name_kw (ld_glob I hg hm (PySem.W.callWith_K (h₀ := X.base) I.ok.mod.kin hk ?_ (by rfl) (by rfl)) hdb)
  have args : backTo pos (starEach [.Lambda params body scope lpos] X.env) = (false, eval (.Lambda params body scope lpos) X.env) :: backTo pos (starEach [] X.env) := rfl
  rw [args]
  exact Calls.spliced_cons (lam_makeN I TB hcode hmT hu hT hdef (L.has I.ok) fun f c' pm' ctv H1 s' I1 ext tabs dom made no noFr rec_ => Calls.spliced_nil ⟨I1.kIn, call f c' pm' ctv H1 s' I1 ext tabs dom made no noFr rec_⟩)
end
end Cor

set_option Elab.async false
set_option linter.all false
set_option maxRecDepth 100000
set_option maxHeartbeats 2000000
/-! KinCall: a def called with the exception that is handled; isinstance of it there. -/
namespace Cor
open PySem PySem.Spec L2
open PyProof.Rows hiding St
open L2H (HotC Hot1 PinOk RoomH cxH inv_startH)
abbrev cx0 : CXT := fun _ _ _ _ _ _ => False
abbrev e0x : XK := fun _ _ _ => False
theorem call_isK {X : Cx} {a D : Addr} {oe : Obj} (hp : (a, oe) ∈ X.pn) (C : ExcC X.K D) (hz : Zc (.ref D) none oe) (hf : ∃ vs, oe.data = .fields vs) : CallR X (.builtin "isinstance") (rIsE X.K D a) := by
  rintro pins s σ H _ us Q I r ⟨c, cv, b, rfl, hcv, e, q⟩
  obtain ⟨u, v, rfl, ru, rv⟩ := vals2 r
  rcases ru with rfl
  cases hcv _ rv
  have there := (I.pin (a, oe) (List.mem_append_left _ hp)).1
  have ⟨vs, data⟩ := hf
  have inst : PySem.W.InstAt s.heap a oe D none := by
    rcases oe with ⟨oc, od, oda, osl⟩
    have ⟨cl, no⟩ := hz
    cases cl
    cases no
    cases data
    exact ⟨there, rfl, rfl, trivial⟩
  exact PySem.W.kia_one (PySem.W.handS_kitx_exc C.hg C.hk C.hs C.hd C.ha C.hn C.ht C.hm) I.kIn inst e (fun z => nomatch z) fun tk => ⟨.bl b, H, I.kept (t' := tk) fun _ _ g => g, rfl, q⟩
section
variable {X : Cx} {k : Nat} {f : Addr} {ps N : List Str} {x : Str} {q pos : Pos} {e : Expr} {es : List Expr} {t : TA} {params : Arguments} {body : List Stmt} {scope : Scope} {dV kV doc pm cdv ct oc : Value} {an od : Option Addr} {osl : Array (Option Value)} {pp : Addr × Obj}
/-- a call within the suite of a def that lets nothing out, with pp the exception that is handled -/
theorem pe_callHot (hot : Hot1 X.A pp) (hp : pp ∈ X.pn) (lk : X.K.lookup f = some ⟨oc, od, .func (PySem.W.fnOf x x params body scope dV kV doc pm an cdv ct), osl⟩) (hcd : PySem.W.codeIn X.K cdv x = true) (S : FnScope N ps scope) (hr : RoomH (k + 1) X.A) (hg : Gl X x) (hm : X.mg x = some (.ref f)) (hk : PySem.W.keepIn X.K (.ref f) = true)
    (hb : L2.Binds X.K (PySem.W.fnOf x x params body scope dV kV doc pm an cdv ct) ps []) (sp : List V → Hp → VK → Prop) (hlen : ∀ vs H Q, sp vs H Q → vs.length = ps.length)
    (hbody : ∀ (s : Shared) (H : Hp) (vs : List V) (Q : VK), RoomH k (X.A.deeper (envOfC x scope s.heap.objs.size f cdv)) → sp vs H Q →
      ∃ t, PSs (cxH cx0 X.prog X.w X.K X.mg X.base N x scope f cdv X.A X.stack s H e0x pp) body t ∧ t { nx := fun _ H' => Q .non H', rt := Q } (L2.start N vs) H)
    (ha : PA X (e :: es) t) (hdb : (x == ("__debug__" : Str)) = false) (he : starEach (e :: es) X.env = (false, eval e X.env) :: starEach es X.env) (hpl : (backTo pos (starEach es X.env)).any (·.1) = false) :
    PE X (.Call (.Name x q) (e :: es) [] pos) (fun σ H Q => t σ H fun vs H1 => sp vs H1 Q) := by
  constructor
  intro pins s σ H Q I h
  have called : ∀ (us : List Value) (s1 : Shared) (vs : List V) (H1 : Hp), L2.Inv X pins σ H1 s1 → Vals vs us → sp vs H1 Q → wpAny (model X.prog X.w) X.A (call (.ref f) us) (EP X pins σ Q) X.xe s1 := fun us s1 vs H1 I1 r q => by
    have many : vs.length = ps.length := hlen _ _ _ q
    have binds := hb s1 us I1.kIn (by rw [List.append_nil, ← r.length]; exact many)
    rw [List.append_nil] at binds
    have old := I1.env0
    have kin : X.K.In s1.heap := old.mod.kin.keeps fun b o e => (old.bs b o e).1
    have lim : s1.heap.NoLimit := old.mod.nolimit.keeps fun b o e => (old.bs b o e).1
    have pin : PinOk X.stack H1 s1 pp := by
      have ⟨p1, p2, p3, p4, p5⟩ := I1.pin pp (List.mem_append_left _ hp)
      exact ⟨p1, p2, fun m => (List.mem_cons.mp (I1.stkSub pp.1 m)).elim p3 p4, p5⟩
    have kinds : ∀ y ∈ ps.zip us, scope.names.lookup y.1 = some .local ∨ (scope.names.lookup y.1 = some .cell ∧ ((cellsFrom (s1.heap.objs.size + 1) scope.names []).lookup y.1).isSome = true) := fun y m =>
      (S.par y.1 (List.of_mem_zip (a := y.1) (b := y.2) m).1).imp id fun z => ⟨z, PySem.W.cellsFrom_some _ _ _ (.inl z)⟩
    have runs : codeAny (model X.prog X.w) X.A (.call (.ref f) ⟨us, []⟩) (CR cx0 X.stack X.prog X.w H1 s1 Q e0x) s1 := by
      refine codeAny_call_function hr.depth (kin _ _ lk) rfl S.co S.gen rfl (PySem.W.codeRec_of kin hcd) (binds _ _ _ _ (wpAny_newFunctionEnv_cells S.kind kinds ?_))
      rintro _ rfl t into
      refine ⟨lim.keeps into.toInCall.keep, codeAny_func ?_⟩
      have ⟨tb, run, ends⟩ := hbody s1 H1 vs Q (hr.deeper _) q
      have J : L2.Inv (cxH cx0 X.prog X.w X.K X.mg X.base N x scope f cdv X.A X.stack s1 H1 e0x pp) [] (L2.start N vs) H1 t := inv_startH S pin old many r into
      refine wpAny_mono (run.run [] t (L2.start N vs) H1 _ J ends) (fun fl t' z => ?_) fun _ _ z => z
      cases fl
      case next =>
        obtain ⟨σ', H', K, q⟩ := z
        exact ⟨.non, H', K.os, K.bare, K.base, K.hok, rfl, q⟩
      case ret u =>
        obtain ⟨v, σ', H', K, rv, q⟩ := z
        exact ⟨v, H', K.os, K.bare, K.base, K.hok, rv, q⟩
      all_goals
        obtain ⟨_, _, _, bad⟩ := z
        exact bad.elim
    refine wpAny_call (codeAny_mono runs fun r t q => ?_)
    match r, q with
    | .ok (.ret u), q => exact I1.after q
  have args := thn (ha.run pos pins s σ H _ I h) fun us s1 ⟨vs, H1, I1, r, q⟩ => (⟨I1.kIn, called us s1 vs H1 I1 r q⟩ : X.K.In s1.heap ∧ _)
  exact wpAny_Call_Name_kw (ld_glob I hg hm (PySem.W.callWith_K (h₀ := X.base) I.ok.mod.kin hk args he hpl) hdb)
end
end Cor

set_option Elab.async false
set_option linter.all false
set_option maxRecDepth 100000
set_option maxHeartbeats 2000000
/-! Kin1: what the law's def of kinds makes of the exception that is handled: readings. -/
namespace Cor
open PySem PySem.Spec L2
open PyProof.Rows hiding St
/-- isinstance(e, X), e in slot 0 -/
def tIs (a : Addr) (b : Bool) : TE := fun σ H Q => σ[0]? = some (some (.ref a)) ∧ Q (.bl b) H
theorem pe_isK {X : Cx} {a D : Addr} {oe : Obj} {y : Str} {ex : Expr} {c : V} {cv : Value} {b : Bool} {p1 p2 p4 : Pos} (hp : (a, oe) ∈ X.pn) (C : ExcC X.K D) (hz : Zc (.ref D) none oe) (hf : ∃ vs, oe.data = .fields vs) (hg : Gl X "isinstance") (hm : X.mg "isinstance" = none)
    (hy : PE X (.Name y p2) (tVar 0)) (hx : PE X ex (tC c)) (hn : notStar ex = true) (hc : ∀ u, L2.RelV c u → u = cv) (hb : PySem.W.kitOne X.K (.ref D) cv = some b) : PE X (.Call (.Name "isinstance" p1) [.Name y p2, ex] [] p4) (tIs a b) :=
  (pe_callB (call_isK hp C hz hf) hg hm boot_isinstance (pa_cons hy (pa_cons hx pa_nil (star_cons hn [] X.env)) rfl) (by decide +kernel) (by decide +kernel) rfl (plain_args (by simp [hn]))).mono
    fun σ H Q ⟨h1, h2⟩ => ⟨_, h1, c, cv, b, rfl, hc, hb, h2⟩
def kinAt (L : List Str) (bs : List Bool) (i : Nat) : List Str := (((L.zip bs).take i).filter (·.2)).map (·.1)
theorem kinAt_succ {L : List Str} {bs : List Bool} {i : Nat} {x : Str} {b : Bool} (h1 : L[i]? = some x) (h2 : bs[i]? = some b) : kinAt L bs (i + 1) = kinAt L bs i ++ if b then [x] else [] := by
  unfold kinAt
  have e : (L.zip bs)[i]? = some (x, b) := by
    rw [List.getElem?_zip_eq_some]
    exact ⟨h1, h2⟩
  rw [List.take_add_one, e]
  simp only [Option.toList_some, List.filter_append, List.map_append]
  cases b <;> rfl
/-- H' is H with new lists and tuples -/
def Ex0 (H H' : Hp) : Prop := Same H H' ∧ ∀ a ps, H' a = some (.tbl ps) → H a = some (.tbl ps)
theorem Ex0.refl (H : Hp) : Ex0 H H := ⟨.refl H, fun _ _ h => h⟩
theorem Ex0.trans {H H1 H2 : Hp} (a : Ex0 H H1) (b : Ex0 H1 H2) : Ex0 H H2 := ⟨a.1.trans b.1, fun x ps h => a.2 x ps (b.2 x ps h)⟩
/-- a place that is new to H is written -/
theorem Ex0.put {H H1 : Hp} (e : Ex0 H H1) {p : Addr} {o : HO} (n : H p = none) (ho : ∀ ps, o ≠ .tbl ps) : Ex0 H (upd H1 p o) := ⟨fun b u h => by
  rw [upd_ne (ne_of_none h n)]; exact e.1 b u h, fun a ps h => by
  by_cases z : a = p
  · rw [z, upd_same] at h; exact absurd (Option.some.inj h) (ho ps)
  · rw [upd_ne z] at h; exact e.2 a ps h⟩
theorem Ex0.new {H H1 : Hp} (e : Ex0 H H1) {p : Addr} (n : H1 p = none) : H p = none := e.1.free n
def tTru (K : PySem.W.Frag) (te : TE) : TT := fun σ H Q => te σ H fun x H' => ∃ k, TruV K x H' k ∧ Q k H'
/-- [label for label, good in zip(labels, sorts) if good]: the names in slots 3 and 4 -/
theorem kin_lc {K : PySem.W.Frag} {L : List Str} {bs : List Bool} (hl : L.length = bs.length) (hz : L.length < sizeLine) {σ : L2.St} {H1 : Hp} {l1 l2 : Addr} (h1 : H1 l1 = some (.lst (L.map V.str))) (h2 : H1 l2 = some (.lst (bs.map V.bl))) (hσ : 4 < σ.length) {Q : VK}
    (hQ : ∀ D H, Ex0 H1 H → H D = some (.lst ((kinAt L bs L.length).map V.str)) → Q (.ref D) H) :
    ∀ D, H1 D = none → ∃ W : Nat → Nat → Hp → Prop, (∃ m, W 0 m (upd H1 D (.lst []))) ∧ ∀ i m H, W i m H →
      ((Izp K (.L l1) (.L l2)).stop i H ∧ Q (.ref D) H) ∨ ((Izp K (.L l1) (.L l2)).go i H ∧ ∃ Nx : Hp → Prop, (∀ H', Nx H' → ∃ m', m' < m ∧ W (i + 1) m' H') ∧ ∀ x H', (Izp K (.L l1) (.L l2)).yld i H x H' →
        gTup K 2 (gCons (gName 3) (gCons (gName 4) gNil)) x (L2.wipe σ [3, 4]) H' fun σ2 H2 => L2.wipe σ2 [3, 4] = L2.wipe σ [3, 4] ∧ tTru K (tVar 4) σ2 H2 fun b H3 =>
          if b = true then tVar 3 σ2 H3 fun y H4 => ∃ acc, H4 D = some (.lst acc) ∧ acc.length < sizeLine ∧ Nx (upd H4 D (.lst (acc ++ [y]))) else Nx H3) := by
  intro D hD
  have n1 : l1 ≠ D := fun z => by rw [z, hD] at h1; cases h1
  have n2 : l2 ≠ D := fun z => by rw [z, hD] at h2; cases h2
  refine ⟨fun i m H => m = L.length - i ∧ i ≤ L.length ∧ Ex0 H1 H ∧ H l1 = some (.lst (L.map V.str)) ∧ H l2 = some (.lst (bs.map V.bl)) ∧ H D = some (.lst ((kinAt L bs i).map V.str)),
    ⟨L.length, by simp, Nat.zero_le _, (Ex0.refl H1).put hD fun _ z => (nomatch z), by rw [upd_ne n1]; exact h1, by rw [upd_ne n2]; exact h2, by rw [upd_same]; simp [kinAt]⟩, ?_⟩
  rintro i m H ⟨rfl, hi, ex0, e1, e2, eD⟩
  by_cases hlt : i < L.length
  · right
    have g1 : L[i]? = some L[i] := List.getElem?_eq_getElem hlt
    have g2 : bs[i]? = some bs[i] := List.getElem?_eq_getElem (by omega)
    have m1 : (L.map V.str)[i]? = some (V.str L[i]) := by rw [List.getElem?_map, g1]; rfl
    have m2 : (bs.map V.bl)[i]? = some (V.bl bs[i]) := by rw [List.getElem?_map, g2]; rfl
    refine ⟨⟨_, _, _, _, .inl (.inl e1), .inl (.inl e2), m1, m2⟩, fun H' => Ex0 H1 H' ∧ H' l1 = some (.lst (L.map V.str)) ∧ H' l2 = some (.lst (bs.map V.bl)) ∧ H' D = some (.lst ((kinAt L bs (i + 1)).map V.str)),
      fun H' h => ⟨L.length - (i + 1), by omega, rfl, hlt, h⟩, fun v H' y => ?_⟩
    obtain ⟨T, x, z, rfl, nT, rfl, hx, hz'⟩ := y
    have ex : x = V.str L[i] := Option.some.inj ((hx _ (.inl (.inl e1))).symm.trans m1)
    have ez : z = V.bl bs[i] := Option.some.inj ((hz' _ (.inl (.inl e2))).symm.trans m2)
    subst ex ez
    have t1 : l1 ≠ T := fun q => by rw [← q, e1] at nT; cases nT
    have t2 : l2 ≠ T := fun q => by rw [← q, e2] at nT; cases nT
    have tD : D ≠ T := fun q => by rw [← q, eD] at nT; cases nT
    have s4 : (((L2.wipe σ [3, 4]).set 3 (some (V.str L[i]))).set 4 (some (V.bl bs[i])))[4]? = some (some (V.bl bs[i])) := by
      rw [List.getElem?_set_self (by rw [List.length_set, wipe_length]; exact hσ)]
    have s3 : (((L2.wipe σ [3, 4]).set 3 (some (V.str L[i]))).set 4 (some (V.bl bs[i])))[3]? = some (some (V.str L[i])) := by
      rw [List.getElem?_set_ne (by decide), List.getElem?_set_self (by rw [wipe_length]; omega)]
    have eD' : upd H T (.tup [V.str L[i], V.bl bs[i]]) D = some (.lst ((kinAt L bs i).map V.str)) := by rw [upd_ne tD]; exact eD
    have e1' : upd H T (.tup [V.str L[i], V.bl bs[i]]) l1 = some (.lst (L.map V.str)) := by rw [upd_ne t1]; exact e1
    have e2' : upd H T (.tup [V.str L[i], V.bl bs[i]]) l2 = some (.lst (bs.map V.bl)) := by rw [upd_ne t2]; exact e2
    refine ⟨T, [V.str L[i], V.bl bs[i]], rfl, .inl (.inl upd_same), rfl, _, _, rfl, _, _, rfl, rfl, wipe_eq ⟨by simp, fun j hj => ?_⟩, _, s4, bs[i], rfl, ?_⟩
    · simp only [List.mem_cons, List.not_mem_nil, or_false, not_or] at hj
      rw [List.getElem?_set_ne (fun q => hj.2 q.symm), List.getElem?_set_ne (fun q => hj.1 q.symm)]
    · have hk := kinAt_succ g1 g2
      dsimp only
      split
      · rename_i hb
        rw [hb, if_pos rfl] at hk
        refine ⟨_, s3, _, eD', ?_, (ex0.put (o := .tup [V.str L[i], V.bl bs[i]]) (ex0.new nT) fun _ z => (nomatch z)).put hD fun _ z => (nomatch z), ?_, ?_, ?_⟩
        · have h3 : (kinAt L bs i).length ≤ L.length := by
            unfold kinAt
            rw [List.length_map]
            refine Nat.le_trans (List.length_filter_le _ _) ?_
            rw [List.length_take, List.length_zip]
            omega
          rw [List.length_map]
          omega
        · rw [upd_ne n1]; exact e1'
        · rw [upd_ne n2]; exact e2'
        · rw [upd_same, hk, List.map_append]; rfl
      · rename_i hb
        have hb := eq_false_of_ne_true hb
        rw [hb, if_neg Bool.false_ne_true, List.append_nil] at hk
        exact ⟨ex0.put (o := .tup [V.str L[i], V.bl bs[i]]) (ex0.new nT) fun _ z => (nomatch z), e1', e2', by rw [hk]; exact eD'⟩
  · left
    have e : i = L.length := by omega
    subst e
    exact ⟨⟨_, _, .inl (.inl e1), .inl (.inl e2), by simp, by simp [hl], .inl (by simp)⟩, hQ D H ex0 eD⟩
end Cor

set_option Elab.async false
set_option linter.all false
set_option maxRecDepth 100000
set_option maxHeartbeats 2000000
/-! Kin2: the reading of the law's def of kinds. -/
namespace Cor
open PySem PySem.Spec L2
open PyProof.Rows hiding St
def kinLabels : Str := "web line node walk numbers number habit side task machines facts text done undo many +"
def tL3 (a : Addr) (b c d : Bool) : TE := tLst (tCons (tIs a b) (tCons (tIs a c) (tCons (tIs a d) tNil)))
def rSpl : V → List V → Hp → VK → Prop := fun x xs H Q => ∃ a b, x = .str a ∧ xs = [.str b] ∧ (b.length == 0) = false ∧ a.length + 2 ≤ sizeLine ∧ rNewStrs (Txt.split a b) H Q
def rJoi (K : PySem.W.Frag) : V → List V → Hp → VK → Prop := fun x xs H Q => ∃ a p, ∃ ys : List Str, x = .str a ∧ xs = [.ref p] ∧ (SqL K H p (ys.map V.str) ∨ SqT K H p (ys.map V.str)) ∧ (ys.map (·.length)).sum + ys.length * a.length ≤ 16777216 ∧ Q (.str (Txt.join a ys)) H
def tKin (K : PySem.W.Frag) (a : Addr) (b : Nat → Bool) : TS :=
  tSeq (tAsg (tL3 a (b 0) (b 1) (b 2)) (gName 1)) <|
  tSeq (tAsg (tOp rCat (tVar 1) (tL3 a (b 3) (b 4) (b 5))) (gName 1)) <|
  tSeq (tAsg (tOp rCat (tVar 1) (tL3 a (b 6) (b 7) (b 8))) (gName 1)) <|
  tSeq (tAsg (tOp rCat (tVar 1) (tL3 a (b 9) (b 10) (b 11))) (gName 1)) <|
  tSeq (tAsg (tOp rCat (tVar 1) (tL3 a (b 12) (b 13) (b 14))) (gName 1)) <|
  tSeq (tDrop (tBM K "list" rAppend (tVar 1) (tCons (tIs a (b 15)) tNil))) <|
  tSeq (tAsg (tC (.str kinLabels)) (gName 2)) <|
  tRet (tM1 (rJoi K) (tC (.str " ")) (tLc (iZpL K (tCons (tM1 rSpl (tVar 2) (tC (.str " "))) (tCons (tVar 1) tNil))) (gTup K 2 (gCons (gName 3) (gCons (gName 4) gNil))) (tTru K (tVar 4)) (tVar 3) [3, 4]))
def kinBs (b : Nat → Bool) : List Bool := [b 0, b 1, b 2, b 3, b 4, b 5, b 6, b 7, b 8, b 9, b 10, b 11, b 12, b 13, b 14, b 15]
def kinL : List Str := Txt.split kinLabels " "
def kinStr (b : Nat → Bool) : Str := Txt.join " " (kinAt kinL (kinBs b) 16)
theorem kinL_len : kinL.length = 16 := by decide +kernel
theorem kinLab_len : kinLabels.length = 86 ∨ kinLabels.length + 2 ≤ sizeLine := .inr (by decide +kernel)
theorem tL3_read {a : Addr} {b c d : Bool} {σ : L2.St} {H : Hp} {Q : VK} (h0 : σ[0]? = some (some (.ref a))) (h : ∀ p, H p = none → Q (.ref p) (upd H p (.lst [.bl b, .bl c, .bl d]))) : tL3 a b c d σ H Q :=
  ⟨h0, h0, h0, by show 3 ≤ sizeLine; decide, h⟩
theorem tCat_read {a : Addr} {b c d : Bool} {σ : L2.St} {H : Hp} {Q : VK} {l : Addr} {xs : List V} (h0 : σ[0]? = some (some (.ref a))) (h1 : σ[1]? = some (some (.ref l))) (hl : H l = some (.lst xs)) (hz : xs.length ≤ 100)
    (h : ∀ p H', Ex0 H H' → H' p = some (.lst (xs ++ [.bl b, .bl c, .bl d])) → (∀ q, H q ≠ none → q ≠ p) → Q (.ref p) H') : tOp rCat (tVar 1) (tL3 a b c d) σ H Q := by
  refine ⟨_, h1, tL3_read h0 fun q nq => ⟨l, q, xs, _, rfl, rfl, ?_, upd_same, ?_, fun p np => ?_⟩⟩
  · rw [upd_ne (fun z => by rw [z, nq] at hl; cases hl)]; exact hl
  · show xs.length + 3 ≤ sizeLine
    rw [sizeLine_eq]; omega
  · have e1 := (Ex0.refl H).put (o := .lst [.bl b, .bl c, .bl d]) nq fun _ z => nomatch z
    exact h p _ (e1.put (e1.new np) fun _ z => nomatch z) upd_same fun q hq z => hq (by rw [z]; exact e1.new np)
theorem kin_sum : ∀ (L : List Str) (bs : List Bool) (i : Nat), ((kinAt L bs i).map (·.length)).sum + (kinAt L bs i).length ≤ (L.map (·.length)).sum + L.length
  | [], bs, i => by simp [kinAt]
  | x :: L, [], i => by simp [kinAt]
  | x :: L, b :: bs, 0 => by simp [kinAt]
  | x :: L, b :: bs, i + 1 => by
    have ih := kin_sum L bs i
    have e : kinAt (x :: L) (b :: bs) (i + 1) = (if b then [x] else []) ++ kinAt L bs i := by
      cases b <;> simp [kinAt]
    rw [e]
    cases b
    · simp
      omega
    · simp
      omega
theorem kinL_sum : (kinL.map (·.length)).sum + kinL.length ≤ 1000 := by decide +kernel
theorem kin_sp : (Str.length " ") = 1 := by decide +kernel
theorem tKin_read {K : PySem.W.Frag} {a : Addr} {b : Nat → Bool} {N : List Str} (hN : N.length = 5) {H : Hp} {nx : L2.St → Hp → Prop} {Q : VK} (hQ : ∀ H', Ex0 H H' → Q (.str (kinStr b)) H') : tKin K a b { nx := nx, rt := Q } (L2.start N [.ref a]) H := by
  have es : L2.start N [.ref a] = [some (.ref a), none, none, none, none] := by
    unfold L2.start
    rw [hN]
    rfl
  rw [es]
  dsimp only [tKin, tSeq, tAsg, tDrop, tRet, gName, tC]
  refine tL3_read rfl fun p1 n1 => ?_
  have x1 := (Ex0.refl H).put (o := .lst [.bl (b 0), .bl (b 1), .bl (b 2)]) n1 fun _ z => nomatch z
  refine tCat_read rfl rfl upd_same (by simp) fun p2 H2 x2 h2 _ => ?_
  refine tCat_read rfl rfl h2 (by simp) fun p3 H3 x3 h3 _ => ?_
  refine tCat_read rfl rfl h3 (by simp) fun p4 H4 x4 h4 _ => ?_
  refine tCat_read rfl rfl h4 (by simp) fun p5 H5 x5 h5 n5 => ?_
  have x04 := ((x1.trans x2).trans x3).trans x4
  have hp5 : H p5 = none := by
    cases e : H p5 with
    | none => rfl
    | some o => exact absurd rfl (n5 p5 (by rw [x04.1 _ _ e]; exact fun z => nomatch z))
  have x05 := x04.trans x5
  refine ⟨_, rfl, .inl ⟨rfl, _, .inl (.inl h5)⟩, rfl, p5, _, _, rfl, rfl, h5, by simp [sizeLine_eq], ?_⟩
  have x06 := x05.put (o := .lst [.bl (b 0), .bl (b 1), .bl (b 2), .bl (b 3), .bl (b 4), .bl (b 5), .bl (b 6), .bl (b 7), .bl (b 8), .bl (b 9), .bl (b 10), .bl (b 11), .bl (b 12), .bl (b 13), .bl (b 14), .bl (b 15)]) hp5 fun _ z => nomatch z
  refine ⟨⟨_, rfl⟩, ⟨.str kinLabels, rfl, ⟨_, rfl⟩, kinLabels, " ", rfl, rfl, by decide +kernel, by decide +kernel, fun p np => ⟨.ref p5, rfl, p, p5, _, (kinBs b).map V.bl, rfl, .inl (.inl upd_same), .inl (.inl ?_), ?_⟩⟩⟩
  · rw [upd_ne (fun z => by rw [← z, upd_same] at np; cases np)]
    exact upd_same
  · have x07 := x06.put (o := .lst (kinL.map V.str)) (x06.new np) fun _ z => nomatch z
    dsimp only
    simp only [List.set_cons_succ, List.set_cons_zero]
    refine kin_lc (K := K) (L := kinL) (bs := kinBs b) (l1 := p) (l2 := p5) (Q := fun y H2 => rJoi K (.str " ") [y] H2 Q) (by rw [kinL_len]; rfl) (by rw [kinL_len]; decide) upd_same ?_ ?_ fun D H' x8 hD => ?_
    · rw [upd_ne (fun z => by rw [← z, upd_same] at np; cases np)]
      exact upd_same
    · exact Nat.lt_succ_self 4
    · rw [kinL_len] at hD
      refine ⟨" ", D, _, rfl, rfl, .inl (.inl (.inl hD)), ?_, hQ H' (x07.trans x8)⟩
      have h1 := kin_sum kinL (kinBs b) 16
      have h2 := kinL_sum
      rw [kin_sp]
      omega
def kinNames : List Str := ["InvalidWeb", "InvalidLine", "InvalidNode", "InvalidWalk", "InvalidNumbers", "InvalidNumber", "InvalidHabit", "InvalidSide", "InvalidTask", "InvalidMachines", "InvalidFacts", "InvalidText", "Done", "NothingToUndo", "TooMany"]
structure KinF (K : PySem.W.Frag) (mg : Str → Option Value) (D : Addr) (b : Nat → Bool) : Prop where
  exc : ExcC K D
  cl : ∀ (j : Nat) x, kinNames[j]? = some x → ∃ C, mg x = some (.ref C) ∧ PySem.W.kitOne K (.ref D) (.ref C) = some (b j)
  ve : mg "ValueError" = none ∧ PySem.W.kitOne K (.ref D) (.type "ValueError") = some (b 15)
  isn : mg "isinstance" = none
  zp : mg "zip" = none
/-- what the law's def that tries makes of its lambda -/
def ETry (K : PySem.W.Frag) (mg : Str → Option Value) (TM CEa : Addr) (Q : VK) : XK := fun cls dd H => ∃ D b, cls = .ref D ∧ dd = none ∧ KinF K mg D b ∧ PySem.W.exmOne K cls (.ref TM) = some false ∧ PySem.W.exmOne K cls (.ref CEa) = some true ∧ ∀ H', Ex0 H H' → Q (.str (kinStr b)) H'
def TTry (K : PySem.W.Frag) (mg : Str → Option Value) (TM CEa : Addr) : (XK → Hp → VK → Prop) → Hp → VK → Prop := fun tl H Q => ∀ Q' : VK, (∀ x H, Q x H → Q' x H) → tl (ETry K mg TM CEa Q) H fun v H' => [V.str "told", v].length ≤ sizeLine ∧ NewT H' [.str "told", v] Q'
def tsKin (K : PySem.W.Frag) (mg : Str → Option Value) : Addr → Value → Option Addr → TS := fun a cls d => tAsg (fun σ H Q => tCons (tVar 2) tNil σ H fun vs H1 => ∃ D b, vs = [.ref a] ∧ cls = .ref D ∧ d = none ∧ KinF K mg D b ∧ ∀ H', Ex0 H1 H' → Q (.str (kinStr b)) H') (gName 1)
end Cor

set_option Elab.async false
set_option linter.all false
set_option maxRecDepth 100000
set_option maxHeartbeats 1200000
/-! SoundZ: a lambda tried. -/
namespace Cor
open PySem PySem.Spec L2
open PyProof.Rows hiding St
section
variable {g : Gx} {B : Bs} {G H H1 : Hp} {env : Env} {σ : St}
theorem StOk.growN (S : StOk g B G H env σ) (e : LamX.ExtN H H1) (T1 : LamX.Tabs g.tabs H1) (dm : ∀ a, H a ≠ none → H1 a ≠ none) : StOk g B G H1 env σ where
  len := S.len
  sl := fun i x hx => by
    have h := S.sl i x hx
    cases x with
    | un => trivial
    | sh d => exact h
    | ow d =>
      obtain ⟨q, e1, e2, e3, l, vs, e4, e5, e6⟩ := h
      exact ⟨q, e1, e2, e3, l, vs, e4, e _ _ e5 fun _ z => (nomatch z), e6⟩
    | io d =>
      obtain ⟨q, e1, e2, e3, l, vs, e4, e5, e6⟩ := h
      exact ⟨q, e1, e2, e3, l, vs, e4, e _ _ e5 fun _ z => (nomatch z), e6⟩
  dis := S.dis
  sub := fun a u h => e _ _ (S.sub a u h) fun ps z => S.notb a ps (by rw [h, z])
  notb := S.notb
  ent := fun a o h1 h2 h3 => e _ _ (S.ent a o h1 h2 h3) h2
  gent := S.gent
  hio := S.hio
  dom := fun a h => dm a (S.dom a h)
  tabs := T1
theorem Ex0.stOk (S : StOk g B G H env σ) (e : Ex0 H H1) : StOk g B G H1 env σ :=
  S.grow e.1 (LamX.Tabs.ext S.tabs e.1)
/-- the shared part belongs to the entry from now on -/
def Bs.frz (B : Bs) (G : Hp) : Bs := ⟨fun a => match B.H0 a with
  | some o => some o
  | none => G a, fun a => match B.H0 a with
  | some _ => B.G0 a
  | none => G a, B.io⟩
theorem StOk.frzIn (S : StOk g B G H env σ) : StOk g (B.frz G) G H env σ := by
  refine ⟨⟨S.sub, S.notb, fun a u h1 h2 h3 => ?_, fun a h => ?_, fun q hq => ?_, fun a h => ?_, S.tabs⟩, S.len, fun i s hi => ?_, S.dis⟩
  · have h1 : (match B.H0 a with | some o => some o | none => G a) = some u := h1
    cases q : B.H0 a with
    | some o => rw [q] at h1; cases h1; exact S.ent a _ q h2 h3
    | none => rw [q] at h1; exact S.sub a u h1
  · show G a = (match B.H0 a with | some _ => B.G0 a | none => G a)
    cases q : B.H0 a with
    | some o => exact S.gent a (by rw [q]; exact fun z => nomatch z)
    | none => rfl
  · show (match B.H0 q with | some o => some o | none => G q) ≠ none
    cases e : B.H0 q with
    | some o => exact fun z => nomatch z
    | none => exact absurd e (S.hio q hq)
  · have h : (match B.H0 a with | some o => some o | none => G a) ≠ none := h
    cases q : B.H0 a with
    | some o => exact S.dom a (by rw [q]; exact fun z => nomatch z)
    | none =>
      rw [q] at h
      cases e : G a with
      | none => exact absurd e h
      | some u => rw [S.sub a u e]; exact fun z => nomatch z
  · have k := S.sl i s hi
    cases s with
    | un => trivial
    | sh d => exact k
    | ow d =>
      obtain ⟨p, e1, e2, e3, w⟩ := k
      exact ⟨p, e1, e2, by show (match B.H0 p with | some o => some o | none => G p) = none; rw [e3]; exact e2, w⟩
    | io d => exact k
theorem Bs.frz_none {p : Addr} (h : (B.frz G).H0 p = none) : B.H0 p = none := by
  have h : (match B.H0 p with | some o => some o | none => G p) = none := h
  cases q : B.H0 p with
  | none => rfl
  | some o => rw [q] at h; cases h
theorem StOk.frzOut {G' H' : Hp} {env' : Env} (S0 : StOk g B G H env σ) (S : StOk g (B.frz G) G' H' env' σ) : StOk g B G' H' env' σ ∧ Same G G' := by
  have up : ∀ a, B.H0 a ≠ none → (B.frz G).H0 a = B.H0 a ∧ (B.frz G).G0 a = B.G0 a := fun a h => by
    cases q : B.H0 a with
    | none => exact absurd q h
    | some o =>
      refine ⟨?_, ?_⟩
      · show (match B.H0 a with | some o => some o | none => G a) = _
        rw [q]
      · show (match B.H0 a with | some _ => B.G0 a | none => G a) = _
        rw [q]
  refine ⟨⟨⟨S.sub, S.notb, fun a u h1 h2 h3 => S.ent a u ((up a (by rw [h1]; exact fun z => nomatch z)).1.trans h1) h2 h3, fun a h => ?_, S0.hio, fun a h => S.dom a (by rw [(up a h).1]; exact h), S.tabs⟩, S.len, fun i s hi => ?_, S.dis⟩, fun a u h => ?_⟩
  · rw [S.gent a (by rw [(up a h).1]; exact h), (up a h).2]
  · have k := S.sl i s hi
    cases s with
    | un => trivial
    | sh d => exact k
    | ow d =>
      obtain ⟨p, e1, e2, e3, w⟩ := k
      exact ⟨p, e1, e2, Bs.frz_none e3, w⟩
    | io d => exact k
  · cases q : B.H0 a with
    | some o =>
      have n : B.H0 a ≠ none := by rw [q]; exact fun z => nomatch z
      rw [S.gent a (by rw [(up a n).1]; exact n), (up a n).2, ← S0.gent a n]
      exact h
    | none =>
      have e : (B.frz G).H0 a = G a := by
        show (match B.H0 a with | some o => some o | none => G a) = _
        rw [q]
      have e2 : (B.frz G).G0 a = G a := by
        show (match B.H0 a with | some _ => B.G0 a | none => G a) = _
        rw [q]
      rw [S.gent a (by rw [e, h]; exact fun z => nomatch z), e2]
      exact h
end
/-- what is known of the classes that are raised -/
def TryF (g : Gx) (K : PySem.W.Frag) (mg : Str → Option Value) (TM CEa : Addr) : Prop := ∀ x s C, kin x = some s → g.cls x = some C → ∃ b, KinF K mg C b ∧ kinStr b = s ∧ PySem.W.exmOne K (.ref C) (.ref TM) = some false ∧ PySem.W.exmOne K (.ref C) (.ref CEa) = some true
theorem try_read {g : Gx} {cf : CF} {W : WX} {K : PySem.W.Frag} {mg : Str → Option Value} {TM CEa : Addr} {cb : CE} {σ : St} {H : Hp} {Q : VK} (F : TryF g K mg TM CEa) (h : SemE g cf W (.tryl cb) σ H Q) : tLamN g.tabs (TTry K mg TM CEa) (fun E => SemE g cf (fun cls d _ H => E cls d H) cb) σ H Q := by
  obtain ⟨B, G, env, S, w⟩ := h
  refine ⟨S.tabs, fun H1 e T1 nT Q' hQ' => ?_⟩
  have S1 := S.growN e T1 nT
  refine ⟨B.frz G, G, env, S1.frzIn, ?_⟩
  have w : WpR (match ev cf cb env with
    | .ok (d, _, env) => R.ok (D.tup [.str "told", d], false, env)
    | .ex x env => (R.opt (if x.arg.isNone then excD x else none)).bind fun d => .ok (d, false, env)
    | .bad => .bad) (fun r => Out g B G r.2.2 σ r.2.1 r.1 Q) (ExW g W B σ) := w
  generalize ev cf cb env = r at w ⊢
  cases r with
  | bad => exact w
  | ok a =>
    obtain ⟨d, fr, env'⟩ := a
    have w : Out g B G env' σ false (.tup [.str "told", d]) Q := w
    intro v H' G' S' s' rv
    obtain ⟨S2, s2⟩ := S1.frzOut S'
    refine ⟨by show 2 ≤ sizeLine; decide, fun p o np hd => ?_⟩
    have rv' : VRep g B G' H' env' σ fr d v := by
      cases fr with
      | false => exact rv
      | true => obtain ⟨p, e1, e2, e3, e4, e5⟩ := rv; exact ⟨p, e1, e2, Bs.frz_none e3, e4, e5⟩
    obtain ⟨G3, S3, s3, r3⟩ := S2.freeze rv'
    obtain ⟨S4, s4, r4⟩ := S3.newTup (o := o) np hd (Reps.cons (.str (x := "told")) (Reps.cons r3 .nil))
    exact hQ' _ _ (w _ _ _ S4 ((s2.trans s3).trans s4) r4)
  | ex x env' =>
    have w : WpR ((R.opt (if x.arg.isNone then excD x else none)).bind fun d => R.ok (d, false, env')) (fun r => Out g B G r.2.2 σ r.2.1 r.1 Q) (ExW g W B σ) := w
    rw [WpR.bind, WpR.opt] at w
    obtain ⟨d, hd, w⟩ := w
    have w : Out g B G env' σ false d Q := w
    intro H' G' c dd S' xv
    obtain ⟨S2, s2⟩ := S1.frzOut S'
    obtain ⟨cls, arg⟩ := x
    cases arg with
    | some n => cases hd
    | none =>
      obtain ⟨C, rfl, hC, hdd⟩ := xv
      have hd : (kin cls).map (fun s => D.str s) = some d := hd
      simp only [Option.map_eq_some_iff] at hd
      obtain ⟨s, hs, rfl⟩ := hd
      obtain ⟨b, f1, f2, f3, f4⟩ := F cls s C hs hC
      exact ⟨C, b, rfl, hdd, f1, f3, f4, fun H'' ex => w _ _ _ (Ex0.stOk S2 ex) s2 (by rw [f2]; exact Rep.str (g := g) (G := G'))⟩
theorem noPar_def {params : Arguments} (h : noPar params = true) (env : PySem.Env) : defaultsOf params env = ([], []) := by
  unfold noPar at h
  split at h
  · rfl
  · cases h
theorem noPar_bind {params : Arguments} (h : noPar params = true) {body : Expr} {scope : Scope} (q : Str) (cl : List (Str × Addr)) (pm cv ctv : Value) : bindArgs (PySem.W.kla_fn "<lambda>" q params body scope cl pm cv ctv) ⟨[], []⟩ = pure [] := by
  unfold noPar at h
  split at h
  · rfl
  · cases h
/-- what the program tells of its def that tries -/
structure TryW (g : Gx) (mg : Str → Option Value) : Prop where
  ex : ∃ (fT TM CEa : Addr) (oc dV kV doc pm cdv ct : Value) (an od : Option Addr) (osl : Array (Option Value)) (pg : Arguments) (bg : List Stmt) (sg : Scope) (Ng : List Str),
    mg "_law_try" = some (.ref fT) ∧ PySem.W.keepIn g.K (.ref fT) = true ∧ g.K.lookup fT = some ⟨oc, od, .func (PySem.W.fnOf "_law_try" "_law_try" pg bg sg dV kV doc pm an cdv ct), osl⟩ ∧ PySem.W.codeIn g.K cdv "_law_try" = true ∧
    L2.Binds g.K (PySem.W.fnOf "_law_try" "_law_try" pg bg sg dV kV doc pm an cdv ct) ["_law_call_so"] [] ∧ FnScope Ng ["_law_call_so"] sg ∧ Ng[0]? = some ("_law_call_so" : Str) ∧ Vis sg "_law_call_so" ∧
    (∀ (X : Cx) (q : Str), X.K = g.K → X.mg = mg → GivesToN X Ng "_law_try" sg fT cdv bg "_law_call_so" q (TTry X.K X.mg TM CEa)) ∧ TryF g g.K mg TM CEa
theorem lam_rule {g : Gx} {cf : CF} {k : Nat} {mg : Str → Option Value} {X : Cx} {W : WX} {c P : Addr} (T : TryW g mg) (hK : X.K = g.K) (hmg : X.mg = mg) (TB : LamX.TabB X.base X.mg c P) (hcode : X.env.code = .ref c) (hmT : (P, X.env.qual ++ "<lambda>") ∈ g.tabs)
    (hu : ∀ p ∈ g.tabs, p.1 = P → p.2 = X.env.qual ++ "<lambda>") (hr : Room (3 * k + 2) X.A) : LamRule g cf k X W := by
  intro params body scope cb p lpos pos hg L np hbody
  obtain ⟨fT, TM, CEa, oc, dV, kV, doc, pm, cdv, ct, an, od, osl, pg, bg, sg, Ng, hm, hk, lk, hcg, hb, Sg, hNg, hva, hG, F⟩ := T.ex
  rw [← hmg] at hm F
  rw [← hK] at hk lk hcg hb F
  exact (pe_lamcallN (k := 3 * k) (T := g.tabs) (TT := TTry X.K X.mg TM CEa) hg hm hk hcg lk hb Sg hNg hva (hG X _ hK hmg) TB hcode hmT hu hr L (noPar_def np _) (noPar_bind np) hbody (by decide +kernel) (by decide +kernel) (by decide +kernel)).mono fun σ H Q h => try_read F h
end Cor

set_option Elab.async false
set_option linter.all false
set_option maxRecDepth 100000
set_option maxHeartbeats 1200000
/-! HeadX: a law's end: what the head tells, the script handed in. -/
namespace Cor
open PySem PySem.Spec L2
open PyProof.Rows hiding St
def excNames : List Str := ["InvalidWeb", "InvalidLine", "InvalidNode", "InvalidWalk", "InvalidNumbers", "InvalidNumber", "InvalidHabit", "InvalidSide", "InvalidTask", "InvalidMachines", "InvalidFacts", "InvalidText", "Done", "NothingToUndo"]
def eO (a b : Option (Option Value)) : Bool := decide (a = b)
def eB (a b : Option Bool) : Bool := decide (a = b)
theorem eO_ok {a b : Option (Option Value)} (h : eO a b = true) : a = b := of_decide_eq_true h
theorem eB_ok {a b : Option Bool} (h : eB a b = true) : a = b := of_decide_eq_true h
def excCB (K : PySem.W.Frag) (D : Addr) : Bool :=
  eO (PySem.W.findIn K (.ref D) "__getattribute__") (some (some (.builtin "BaseException.__getattribute__"))) && (eO (PySem.W.findIn K (.ref D) "__getattr__") (some none) &&
  (eB (PySem.W.subIn K (.ref D) (.type "BaseException")) (some true) && (PySem.W.hasDictIn K D && (eO (PySem.W.findIn K (.ref D) "__class__") (some (some (.builtin "object.__class__"))) &&
  (eO (PySem.W.specialIn K (.builtin "object.__class__") "__get__") (some (some (.builtin "getset_descriptor.__get__"))) && (eB (PySem.W.takesIn K (.builtin "object.__class__")) (some true) && eB (PySem.W.mroIn K D (.type "object")) (some true)))))))
theorem excCB_ok {K : PySem.W.Frag} {D : Addr} (h : excCB K D = true) : ExcC K D := by
  unfold excCB at h
  simp only [Bool.and_eq_true] at h
  obtain ⟨h1, h2, h3, h4, h5, h6, h7, h8⟩ := h
  exact ⟨eO_ok h1, eO_ok h2, eB_ok h3, h4, eO_ok h5, eO_ok h6, eB_ok h7, eB_ok h8⟩
def excB (K : PySem.W.Frag) (x : Str) : Bool :=
  excCB K (He.ga K x) && (eB (PySem.W.kitOne K (.ref (He.ga K x)) (.type "ValueError")) (some true) && (eB (PySem.W.exmOne K (.ref (He.ga K x)) (.ref (He.ga K "TooMany"))) (some false) &&
  (eB (PySem.W.exmOne K (.ref (He.ga K x)) (.ref (He.ga K "ComingError"))) (some true) && kinNames.all fun y => eB (PySem.W.kitOne K (.ref (He.ga K x)) (.ref (He.ga K y))) (some (decide (x = y))))))
def noLst (K : PySem.W.Frag) : Bool := K.all fun q => !decide (q.2.cls = .type "list")
def exB (K : PySem.W.Frag) : Bool := noLst K && excNames.all (excB K)
def kinB (x : Str) (j : Nat) : Bool := match kinNames[j]? with
  | some y => decide (x = y)
  | none => true
def freeNames : List Str := bltNames ++ ([("ValueError" : Str)] : List Str)
def gloNames : List Str := excNames ++ (["TooMany", "ComingError"] : List Str)
def gxOf (t : Stc) (tabs : PySem.W.Frag → List (Addr × Str)) (K : PySem.W.Frag) : Gx := ⟨K, fun i => (t.sig[i]?).bind fun s => if s.2.2 = true then none else some (He.ga K s.1), tabs K, fun x => if x ∈ excNames then some (He.ga K x) else none⟩
theorem kin_mem {x s : Str} (h : kin x = some s) : x ∈ excNames ∨ x = "TooMany" := by
  have h := PySem.mem_of_lookup h
  simp only [List.mem_cons, List.not_mem_nil, or_false, Prod.mk.injEq] at h
  unfold excNames
  simp only [List.mem_cons, List.not_mem_nil, or_false]
  rcases h with h | h | h | h | h | h | h | h | h | h | h | h | h | h | h <;> (rw [h.1]; simp)
theorem kinStr_ok : ∀ x ∈ excNames, kin x = some (kinStr (kinB x)) := by decide +kernel
theorem TooMany_not : ("TooMany" : Str) ∉ excNames := by decide +kernel
theorem tryF_of {K : PySem.W.Frag} {mg : Str → Option Value} {t : Stc} {tabs : PySem.W.Frag → List (Addr × Str)} (hx : exB K = true) (hg : ∀ x ∈ gloNames, mg x = some (.ref (He.ga K x))) (hf : ∀ x ∈ freeNames, mg x = none) :
    TryF (gxOf t tabs K) K mg (He.ga K "TooMany") (He.ga K "ComingError") := by
  intro x s C hk hc
  have hc : (if x ∈ excNames then some (He.ga K x) else none) = some C := hc
  split at hc
  · rename_i hm
    cases hc
    unfold exB at hx
    rw [Bool.and_eq_true] at hx
    have h := List.all_eq_true.mp hx.2 x hm
    unfold excB at h
    simp only [Bool.and_eq_true] at h
    obtain ⟨h1, h2, h3, h4, h5⟩ := h
    refine ⟨kinB x, ⟨excCB_ok h1, fun j y hj => ?_, ⟨hf _ (by decide +kernel), eB_ok h2⟩, hf _ (by decide +kernel), hf _ (by decide +kernel)⟩, ?_, eB_ok h3, eB_ok h4⟩
    · have hy : y ∈ kinNames := List.mem_of_getElem? hj
      refine ⟨_, hg y ?_, ?_⟩
      · exact (by decide +kernel : ∀ z ∈ kinNames, z ∈ gloNames) y hy
      · rw [eB_ok (List.all_eq_true.mp h5 y hy)]
        unfold kinB
        rw [hj]
    · have := kinStr_ok x hm
      rw [this] at hk
      exact Option.some.inj hk
  · cases hc
theorem gx_fnb {t : Stc} {tabs : PySem.W.Frag → List (Addr × Str)} {K : PySem.W.Frag} {mg : Str → Option Value} (h : ∀ s ∈ t.sig, mg s.1 = some (.ref (He.ga K s.1))) : ∀ (i : Nat) a, (gxOf t tabs K).fa i = some a → ∃ x np, t.sig[i]? = some (x, np, false) ∧ mg x = some (.ref a) := by
  intro i a e
  have e : ((t.sig[i]?).bind fun s => if s.2.2 = true then none else some (He.ga K s.1)) = some a := e
  cases q : t.sig[i]? with
  | none => rw [q] at e; cases e
  | some s =>
    rw [q] at e
    obtain ⟨x, np, io⟩ := s
    have e : (if io = true then none else some (He.ga K x)) = some a := e
    cases io with
    | true => cases e
    | false =>
      cases e
      exact ⟨x, np, rfl, h _ (List.mem_of_getElem? q)⟩
/-- the script is handed in -/
theorem law_sp {g : Gx} {T : List FD} {Nf k i : Nat} {H : Hp} {a : Addr} {ns : List Int} (ev : evC T Nf k i [.lst (ns.map D.int)] = .ok (.bl true) false none) (nl : noLst g.K = true) (ht : ∀ p ∈ g.tabs, H p.1 = some (.tbl #[])) (S : SqL g.K H a (ns.map V.int)) :
    spF g (evC T Nf k) i 1 false [.ref a] H (fun v _ => v = .bl true) fun _ _ _ => False := by
  have rd : Rd H a (.lst (ns.map V.int)) := by
    rcases S with S | ⟨o, its, n, h1, h2, _⟩
    · exact S
    · have hm := He.lookup_mem h1
      have := List.all_eq_true.mp nl _ hm
      simp [h2] at this
  have nt : ∀ ps, H a ≠ some (.tbl ps) := fun ps e => by
    rcases rd with q | ⟨o, q⟩ <;> (rw [e] at q; cases q)
  refine ⟨fun b => if b = a then H a else none, [.lst (ns.map D.int)], none, ⟨fun b o e => ?_, fun b ps e => ?_, fun p hp => LamX.TabS.nil (ht p hp)⟩, rfl, ?_, ?_⟩
  · by_cases h : b = a
    · rw [if_pos h] at e; rw [h]; exact e
    · rw [if_neg h] at e; cases e
  · have e : (if b = a then H a else none) = some (.tbl ps) := e
    by_cases h : b = a
    · rw [if_pos h] at e; exact nt ps e
    · rw [if_neg h] at e; cases e
  · refine Reps.cons (.lst (vs := ns.map V.int) ?_ Reps.ints) .nil
    rcases rd with q | ⟨o, q⟩
    · exact .inl (by show (if a = a then H a else none) = _; rw [if_pos rfl]; exact q)
    · exact .inr ⟨o, by show (if a = a then H a else none) = _; rw [if_pos rfl]; exact q⟩
  · rw [ev]
    intro v H' G' _ r _
    exact Rep.blI (g := g) (G := G') r
end Cor

set_option Elab.async false
set_option linter.all false
set_option maxRecDepth 100000
set_option maxHeartbeats 1000000
/-! Sim: running the core by rewriting. -/
namespace Cor
open PySem (Str)
/-- a mark that keeps the rewriting out of what it marks -/
structure Dep {A : Type} (a : A) : Type where
  mk ::
@[irreducible] def WR {α : Type} (x : R α) (P : α → Prop) (E : Exc → Env → Prop) (_ : Dep P := ⟨⟩) (_ : Dep E := ⟨⟩) : Prop := WpR x P E
@[irreducible] def WS (x : F) (N : Env → Prop) (T : D → Bool → Env → Prop) (E : Exc → Env → Prop) (_ : Dep N := ⟨⟩) (_ : Dep T := ⟨⟩) (_ : Dep E := ⟨⟩) : Prop := WpF x N T E
def R.bnd {α β : Type} (x : R α) (f : α → R β) (_ : Dep f := ⟨⟩) : R β := x.bind f
def R.stt {α : Type} (x : R α) (f : α → F) (_ : Dep f := ⟨⟩) : F := x.st f
def F.sqq (x : F) (f : Env → F) (_ : Dep f := ⟨⟩) : F := x.sq f
theorem WR.imp {α : Type} {x : R α} {P P' : α → Prop} {E E' : Exc → Env → Prop} (h : WR x P E) (hp : ∀ a, P a → P' a) (he : ∀ x e, E x e → E' x e) : WR x P' E' := by
  unfold WR at h ⊢
  exact WpR.imp h hp he
theorem WS.imp {x : F} {N N' : Env → Prop} {T T' : D → Bool → Env → Prop} {E E' : Exc → Env → Prop} (h : WS x N T E) (hn : ∀ e, N e → N' e) (ht : ∀ d fr e, T d fr e → T' d fr e) (he : ∀ x e, E x e → E' x e) : WS x N' T' E' := by
  unfold WS at h ⊢
  exact WpF.imp h hn ht he

theorem ok_int {i : Int} : (D.int i).ok = true := by unfold D.ok D.toPy; rfl
theorem ok_bl {i : Bool} : (D.bl i).ok = true := by unfold D.ok D.toPy; rfl
theorem ok_non : D.non.ok = true := by unfold D.ok D.toPy; rfl
theorem eqD_int {i j : Int} : eqD (.int i) (.int j) = decide (i = j) := by
  unfold eqD
  simp only [D.toPy]
  simp [PySem.PyData.eqv]
  by_cases h : i = j <;> simp [h]
section
variable {α β : Type}
theorem wpR_ok {a : α} {P : α → Prop} {E : Exc → Env → Prop} {dP : Dep P} {dE : Dep E} : WR (.ok a) P E dP dE = P a := by unfold WR; rfl
theorem wpR_ex {x : Exc} {e : Env} {P : α → Prop} {E : Exc → Env → Prop} {dP : Dep P} {dE : Dep E} : WR (.ex x e : R α) P E dP dE = E x e := by unfold WR; rfl
theorem wpR_bad {P : α → Prop} {E : Exc → Env → Prop} {dP : Dep P} {dE : Dep E} : WR (.bad : R α) P E dP dE = False := by unfold WR; rfl
theorem wpR_bind {x : R α} {f : α → R β} {d : Dep f} {P : β → Prop} {E : Exc → Env → Prop} {dP : Dep P} {dE : Dep E} : WR (x.bnd f d) P E dP dE = WR x (fun a => WR (f a) P E) E := by unfold WR; exact propext WpR.bind
theorem bind_ok {a : α} {f : α → R β} {d : Dep f} : (R.ok a).bnd f d = f a := rfl
theorem bind_ex {x : Exc} {e : Env} {f : α → R β} {d : Dep f} : (R.ex x e : R α).bnd f d = .ex x e := rfl
theorem bind_bad {f : α → R β} {d : Dep f} : (R.bad : R α).bnd f d = .bad := rfl
theorem bind_bind {γ : Type} {x : R α} {f : α → R β} {d : Dep f} {g : β → R γ} {e : Dep g} : (x.bnd f d).bnd g e = x.bnd fun a => (f a).bnd g := by cases x <;> rfl
theorem st_ok {a : α} {f : α → F} {d : Dep f} : (R.ok a).stt f d = f a := rfl
theorem st_ex {x : Exc} {e : Env} {f : α → F} {d : Dep f} : (R.ex x e : R α).stt f d = .ex x e := rfl
theorem st_bad {f : α → F} {d : Dep f} : (R.bad : R α).stt f d = .bad := rfl
theorem opt_some {a : α} : R.opt (some a) = .ok a := rfl
theorem opt_none  : R.opt (none : Option α) = .bad := rfl
theorem sq_nx {e : Env} {f : Env → F} {d : Dep f} : (F.nx e).sqq f d = f e := rfl
theorem sq_rt {v : D} {fr : Bool} {e : Env} {f : Env → F} {d : Dep f} : (F.rt v fr e).sqq f d = .rt v fr e := rfl
theorem sq_ex {x : Exc} {e : Env} {f : Env → F} {d : Dep f} : (F.ex x e).sqq f d = .ex x e := rfl
theorem sq_bad {f : Env → F} {d : Dep f} : F.bad.sqq f d = .bad := rfl
theorem wpF_nx {e : Env} {N : Env → Prop} {T : D → Bool → Env → Prop} {E : Exc → Env → Prop} {dN : Dep N} {dT : Dep T} {dE : Dep E} : WS (.nx e) N T E dN dT dE = N e := by unfold WS; rfl
theorem wpF_rt {d : D} {fr : Bool} {e : Env} {N : Env → Prop} {T : D → Bool → Env → Prop} {E : Exc → Env → Prop} {dN : Dep N} {dT : Dep T} {dE : Dep E} : WS (.rt d fr e) N T E dN dT dE = T d fr e := by unfold WS; rfl
theorem wpF_ex {x : Exc} {e : Env} {N : Env → Prop} {T : D → Bool → Env → Prop} {E : Exc → Env → Prop} {dN : Dep N} {dT : Dep T} {dE : Dep E} : WS (.ex x e) N T E dN dT dE = E x e := by unfold WS; rfl
theorem wpF_bad {N : Env → Prop} {T : D → Bool → Env → Prop} {E : Exc → Env → Prop} {dN : Dep N} {dT : Dep T} {dE : Dep E} : WS .bad N T E dN dT dE = False := by unfold WS; rfl
theorem wpF_st {x : R α} {f : α → F} {d : Dep f} {N : Env → Prop} {T : D → Bool → Env → Prop} {E : Exc → Env → Prop} {dN : Dep N} {dT : Dep T} {dE : Dep E} : WS (x.stt f d) N T E dN dT dE = WR x (fun a => WS (f a) N T E) E := by unfold WS WR; exact propext WpF.st
theorem wpF_sq {x : F} {f : Env → F} {d : Dep f} {N : Env → Prop} {T : D → Bool → Env → Prop} {E : Exc → Env → Prop} {dN : Dep N} {dT : Dep T} {dE : Dep E} : WS (x.sqq f d) N T E dN dT dE = WS x (fun e => WS (f e) N T E) T E := by unfold WS; exact propext WpF.sq
theorem fopt_some {e : Env} : F.opt (some e) = .nx e := rfl
theorem fopt_none  : F.opt none = .bad := rfl
theorem noex_ok {a : α} : (R.ok a).noex = .ok a := rfl
theorem wpR_noex {x : R α} {P : α → Prop} {E : Exc → Env → Prop} {dP : Dep P} {dE : Dep E} : WR x.noex P E dP dE = WR x P (fun _ _ => False) := by unfold WR; cases x <;> rfl
theorem if_tt {x y : α} : (if true = true then x else y) = x := rfl
theorem if_ff {x y : α} : (if false = true then x else y) = y := rfl
theorem if_T {x y : α} : (if True then x else y) = x := rfl
theorem if_F {x y : α} : (if False then x else y) = y := rfl
theorem and_T {p : Prop} : (True ∧ p) = p := by simp
theorem andT {p : Prop} : (p ∧ True) = p := by simp
theorem dec_T  : decide True = true := rfl
theorem dec_F  : decide False = false := rfl
theorem eqs {a : α} : (a = a) = True := by simp
theorem wpR_if {k : Bool} {x y : R α} {P : α → Prop} {E : Exc → Env → Prop} {dP : Dep P} {dE : Dep E} : WR (if k = true then x else y) P E dP dE = if k = true then WR x P E else WR y P E := by cases k <;> rfl
theorem wpF_if {k : Bool} {x y : F} {N : Env → Prop} {T : D → Bool → Env → Prop} {E : Exc → Env → Prop} {dN : Dep N} {dT : Dep T} {dE : Dep E} : WS (if k = true then x else y) N T E dN dT dE = if k = true then WS x N T E else WS y N T E := by cases k <;> rfl
theorem obind_some {a : α} {f : α → Option β} : (some a).bind f = f a := rfl
theorem obind_none {f : α → Option β} : (none : Option α).bind f = none := rfl
theorem omap_some {a : α} {f : α → β} : (some a).map f = some (f a) := rfl
theorem omap_none {f : α → β} : (none : Option α).map f = none := rfl
end
theorem get_z {α : Type} {a : α} {l : List α} : (a :: l)[0]? = some a := rfl
theorem get_s {α : Type} {a : α} {l : List α} {n : Nat} : (a :: l)[n + 1]? = l[n]? := rfl
theorem set_z {α : Type} {a b : α} {l : List α} : (a :: l).set 0 b = b :: l := rfl
theorem set_s {α : Type} {a b : α} {l : List α} {n : Nat} : (a :: l).set (n + 1) b = a :: l.set n b := rfl
theorem rdVar_d {i : Nat} {env : Env} : rdVar i env = (match env[i]? with | some (.sh d) => .ok (d, false, env) | some (.ow d) => .ok (d, false, env.set i (.sh d)) | _ => .bad) := rfl
theorem rdOpd_d {i : Nat} {env : Env} : rdOpd i env = (match env[i]? with | some (.sh d) => .ok (.v d, env) | some (.ow _) => .ok (.s i, env) | some (.io _) => .ok (.s i, env) | _ => .bad) := rfl
theorem get_v {env : Env} {d : D} : Opd.get env (.v d) = some d := rfl
theorem get_i {env : Env} {i : Nat} : Opd.get env (.s i) = (match env[i]? with | some (.ow d) => some d | some (.io d) => some d | some (.sh d) => some d | _ => none) := rfl
def asK (o : Option Sl) (e : Env) : Option Env := match o with
  | some (.io _) => none
  | some _ => some e
  | none => none
/-- a place that may be stored to -/
def NI (s : Sl) : Prop := ∀ d, s ≠ .io d
theorem NI.un : NI .un := fun _ z => nomatch z
theorem NI.sh {d : D} : NI (.sh d) := fun _ z => nomatch z
theorem NI.ow {d : D} : NI (.ow d) := fun _ z => nomatch z
theorem asK_ni {s : Sl} {e : Env} (h : NI s) : asK (some s) e = some e := by
  cases s with
  | io d => exact (h d rfl).elim
  | _ => rfl
theorem asgSlot_d {i : Nat} {s : Sl} {env : Env} : asgSlot i s env = asK env[i]? (env.set i s) := by
  unfold asgSlot asK
  rfl
theorem asK_un {e : Env} : asK (some .un) e = some e := rfl
theorem asK_sh {d : D} {e : Env} : asK (some (.sh d)) e = some e := rfl
theorem asK_ow {d : D} {e : Env} : asK (some (.ow d)) e = some e := rfl
theorem asgT_n {i : Nat} {d : D} {env : Env} : asgT (.name i) d env = asgSlot i (.sh d) env := by unfold asgT; rfl
theorem asgT_t {l : List Tg} {ds : List D} {env : Env} : asgT (.tup l) (.tup ds) env = asgTs l ds env := by
  conv => lhs; unfold asgT
  first | done | rfl
theorem asgTs_n {env : Env} : asgTs [] [] env = some env := by unfold asgTs; rfl
theorem asgTs_c {t : Tg} {ts : List Tg} {d : D} {ds : List D} {env : Env} : asgTs (t :: ts) (d :: ds) env = (asgT t d env).bind fun e => asgTs ts ds e := by
  conv => lhs; unfold asgTs
  first | done | rfl
theorem asgV_n {i : Nat} {d : D} {fr : Bool} {env : Env} : asgV (.name i) d fr env = F.opt (asgSlot i (if fr = true then .ow d else .sh d) env) := rfl
theorem asgV_t {l : List Tg} {d : D} {fr : Bool} {env : Env} : asgV (.tup l) d fr env = F.opt (asgT (.tup l) d env) := rfl
theorem parS_n {env : Env} : parS [] [] env = .nx env := rfl
theorem parS_c {i : Nat} {is : List Nat} {d : D} {fr : Bool} {ds : List (D × Bool)} {env : Env} : parS (i :: is) ((d, fr) :: ds) env = (F.opt (asgSlot i (if fr = true then .ow d else .sh d) env)).sqq fun env => parS is ds env := rfl
theorem ownL_d {i : Nat} {env : Env} : ownL i env = (match env[i]? with | some (.ow (.lst _)) => .ok () | some (.io (.lst _)) => .ok () | some (.ow (.dct _)) => .ok () | _ => .bad) := rfl
theorem upSlot_d {i : Nat} {f : D → Option D} {env : Env} : upSlot i f env = (match env[i]? with | some (.ow d) => (match f d with | some d2 => .nx (env.set i (.ow d2)) | none => .bad) | some (.io d) => (match f d with | some d2 => .nx (env.set i (.io d2)) | none => .bad) | _ => .bad) := rfl
theorem wipe_n {env : Env} : wipe env [] = env := rfl
theorem wipe_c {env : Env} {v : Nat} {vs : List Nat} : wipe env (v :: vs) = (wipe env vs).set v .un := rfl
theorem unwipe_n {env0 env : Env} : unwipe env0 env [] = env := rfl
theorem unwipe_c {env0 env : Env} {v : Nat} {vs : List Nat} : unwipe env0 env (v :: vs) = (unwipe env0 env vs).set v (match env0[v]? with | some (.sh d) => .sh d | _ => .un) := rfl
theorem callR_d {cf : CF} {f : Nat} {ds : List D} {env : Env} : callR cf f ds env = (match cf f ds with | .ok d fr none => .ok (d, fr, env) | .ok _ _ (some _) => .bad | .ex x => .ex x env | .bad => .bad) := rfl
theorem callIO_d {cf : CF} {f i : Nat} {ds : List D} {env : Env} : callIO cf f i ds env = (match env[i]? with | some (.ow d0) => (match cf f (d0 :: ds) with | .ok d fr (some d1) => .ok (d, fr, env.set i (.ow d1)) | _ => .bad) | some (.io d0) => (match cf f (d0 :: ds) with | .ok d fr (some d1) => .ok (d, fr, env.set i (.io d1)) | _ => .bad) | _ => .bad) := rfl
theorem ok3_d {d : D} {env : Env} : ok3 d env = .ok (d, d.isLst, env) := rfl
theorem isLst_l {l : List D} : (D.lst l).isLst = true := rfl
theorem isLst_t {l : List D} : (D.tup l).isLst = false := rfl
theorem isLst_i {i : Int} : (D.int i).isLst = false := rfl
theorem isLst_b {b : Bool} : (D.bl b).isLst = false := rfl
theorem isLst_s {x : Str} : (D.str x).isLst = false := rfl
theorem ev_var {cf : CF} {env : Env} {i : Nat} : ev cf (.var i) env = rdVar i env := by
  conv => lhs; unfold ev
  first | done | rfl
theorem ev_lit {cf : CF} {env : Env} {d : D} : ev cf (.lit d) env = .ok (d, false, env) := by
  conv => lhs; unfold ev
  first | done | rfl
theorem ev_glo {cf : CF} {env : Env} {x : Str} {d : D} : ev cf (.glo x d) env = .ok (d, false, env) := by
  conv => lhs; unfold ev
  first | done | rfl
theorem ev_bin {cf : CF} {env : Env} {o : BOp} {a b : CE} : ev cf (.bin o a b) env = (opd a (ev cf a) env).bnd fun (x, env) => (opd b (ev cf b) env).bnd fun (y, env) => (R.opt (x.get env)).bnd fun dx => (R.opt (y.get env)).bnd fun dy => (R.opt (binD o dx dy)).bnd fun d => ok3 d env := by
  conv => lhs; unfold ev
  first | done | rfl
theorem ev_neg {cf : CF} {env : Env} {a : CE} : ev cf (.neg a) env = (ev cf a env).bnd fun (x, _, env) => match x with | .int i => .ok (.int (-i), false, env) | _ => .bad := by
  conv => lhs; unfold ev
  first | done | rfl
theorem ev_cmp {cf : CF} {env : Env} {o : COp} {a b : CE} : ev cf (.cmp o a b) env = (opd a (ev cf a) env).bnd fun (x, env) => (opd b (ev cf b) env).bnd fun (y, env) => (R.opt (x.get env)).bnd fun dx => (R.opt (y.get env)).bnd fun dy => (R.opt (cmpD o dx dy)).bnd fun k => .ok (.bl k, false, env) := by
  conv => lhs; unfold ev
  first | done | rfl
theorem ev_chn {cf : CF} {env : Env} {o p : COp} {a b c : CE} : ev cf (.chn o p a b c) env = (ev cf a env).bnd fun (x, _, env) => (ev cf b env).bnd fun (y, _, env) => (R.opt (cmpD o x y)).bnd fun k => if k = true then (ev cf c env).bnd fun (z, _, env) => (R.opt (cmpD p y z)).bnd fun k => .ok (.bl k, false, env) else .ok (.bl false, false, env) := by
  conv => lhs; unfold ev
  first | done | rfl
theorem ev_chn3 {cf : CF} {env : Env} {o p q : COp} {a b c d : CE} : ev cf (.chn3 o p q a b c d) env = (ev cf a env).bnd fun (x, _, env) => (ev cf b env).bnd fun (y, _, env) => (R.opt (cmpD o x y)).bnd fun k => if k = true then (ev cf c env).bnd fun (z, _, env) => (R.opt (cmpD p y z)).bnd fun k => if k = true then (ev cf d env).bnd fun (u, _, env) => (R.opt (cmpD q z u)).bnd fun k => .ok (.bl k, false, env) else .ok (.bl false, false, env) else .ok (.bl false, false, env) := by
  conv => lhs; unfold ev
  first | done | rfl
/-- the second of two tests -/
def andK (x : D) (y : R (D × Bool × Env)) (env : Env) (_ : Dep y := ⟨⟩) : R (D × Bool × Env) := match x with
  | .bl true => y
  | .bl false => .ok (.bl false, false, env)
  | _ => .bad
def orK (x : D) (y : R (D × Bool × Env)) (env : Env) (_ : Dep y := ⟨⟩) : R (D × Bool × Env) := match x with
  | .bl true => .ok (.bl true, false, env)
  | .bl false => y
  | _ => .bad
theorem andK_d {k : Bool} {y : R (D × Bool × Env)} {env : Env} {dy : Dep y} : andK (.bl k) y env dy = if k = true then y else .ok (.bl false, false, env) := by cases k <;> rfl
theorem orK_d {k : Bool} {y : R (D × Bool × Env)} {env : Env} {dy : Dep y} : orK (.bl k) y env dy = if k = true then .ok (.bl true, false, env) else y := by cases k <;> rfl
theorem ev_band {cf : CF} {env : Env} {a b : CE} : ev cf (.band a b) env = (ev cf a env).bnd fun (x, _, env) => andK x (ev cf b env) env := by
  conv => lhs; unfold ev
  first | done | rfl
theorem ev_bor {cf : CF} {env : Env} {a b : CE} : ev cf (.bor a b) env = (ev cf a env).bnd fun (x, _, env) => orK x (ev cf b env) env := by
  conv => lhs; unfold ev
  first | done | rfl
theorem ev_bnot {cf : CF} {env : Env} {a : CE} : ev cf (.bnot a) env = (ev cf a env).bnd fun (x, _, env) => (R.opt x.truth).bnd fun k => .ok (.bl (!k), false, env) := by
  conv => lhs; unfold ev
  first | done | rfl
theorem ev_ife {cf : CF} {env : Env} {a b c : CE} : ev cf (.ife c a b) env = (ev cf c env).bnd fun (x, _, env) => (R.opt x.truth).bnd fun k => if k = true then (ev cf a env).bnd fun (d, _, env) => .ok (d, false, env) else (ev cf b env).bnd fun (d, _, env) => .ok (d, false, env) := by
  conv => lhs; unfold ev
  first | done | rfl
theorem ev_tup {cf : CF} {env : Env} {es : List CE} : ev cf (.tup es) env = (evs cf es env).bnd fun (ds, env) => if ds.length ≤ szL then .ok (.tup ds, false, env) else .bad := by
  conv => lhs; unfold ev
  first | done | rfl
theorem ev_lst {cf : CF} {env : Env} {es : List CE} : ev cf (.lst es) env = (evs cf es env).bnd fun (ds, env) => if ds.length ≤ szL then .ok (.lst ds, true, env) else .bad := by
  conv => lhs; unfold ev
  first | done | rfl
theorem ev_idx {cf : CF} {env : Env} {a b : CE} : ev cf (.idx a b) env = (opd a (ev cf a) env).bnd fun (x, env) => (ev cf b env).bnd fun (y, _, env) => (R.opt (x.get env)).bnd fun dx => (R.opt (idxD dx y)).bnd fun d => .ok (d, false, env) := by
  conv => lhs; unfold ev
  first | done | rfl
theorem ev_slL {cf : CF} {env : Env} {a b : CE} : ev cf (.slL a b) env = (opd a (ev cf a) env).bnd fun (x, env) => (ev cf b env).bnd fun (y, _, env) => (R.opt (x.get env)).bnd fun dx => (R.opt y.int?).bnd fun i => (R.opt (slcD dx (some i) none)).bnd fun d => ok3 d env := by
  conv => lhs; unfold ev
  first | done | rfl
theorem ev_slU {cf : CF} {env : Env} {a b : CE} : ev cf (.slU a b) env = (opd a (ev cf a) env).bnd fun (x, env) => (ev cf b env).bnd fun (y, _, env) => (R.opt (x.get env)).bnd fun dx => (R.opt y.int?).bnd fun i => (R.opt (slcD dx none (some i))).bnd fun d => ok3 d env := by
  conv => lhs; unfold ev
  first | done | rfl
theorem ev_slB {cf : CF} {env : Env} {a lo hi : CE} : ev cf (.slB a lo hi) env = (opd a (ev cf a) env).bnd fun (x, env) => (ev cf lo env).bnd fun (y, _, env) => (R.opt y.int?).bnd fun i => (ev cf hi env).bnd fun (z, _, env) => (R.opt z.int?).bnd fun j => (R.opt (x.get env)).bnd fun dx => (R.opt (slcD dx (some i) (some j))).bnd fun d => ok3 d env := by
  conv => lhs; unfold ev
  first | done | rfl
theorem ev_rvs {cf : CF} {env : Env} {a : CE} : ev cf (.rvs a) env = (opd a (ev cf a) env).bnd fun (x, env) => (R.opt (x.get env)).bnd fun dx => (R.opt (rvsD dx)).bnd fun d => ok3 d env := by
  conv => lhs; unfold ev
  first | done | rfl
theorem ev_comp {cf : CF} {env : Env} {elt : CE} {tg : Tg} {it : It} {ifs : List CE} {own : List Nat} : ev cf (.comp elt tg it ifs own) env = (evI cf it env).bnd fun (xs, env) => (compL (asgT tg) (evTs cf ifs) (ev cf elt) own xs env []).bnd fun (ds, env) => .ok (.lst ds, true, env) := by
  conv => lhs; unfold ev
  first | done | rfl
theorem ev_call {cf : CF} {env : Env} {f : Nat} {es : List CE} : ev cf (.call f es) env = (evs cf es env).bnd fun (ds, env) => callR cf f ds env := by
  conv => lhs; unfold ev
  first | done | rfl
theorem ev_cio {cf : CF} {env : Env} {f i : Nat} {es : List CE} : ev cf (.cio f i es) env = (rdOpd i env).bnd fun (_, env) => (evs cf es env).bnd fun (ds, env) => callIO cf f i ds env := by
  conv => lhs; unfold ev
  first | done | rfl
theorem ev_cval {cf : CF} {env : Env} {i : Nat} {es : List CE} : ev cf (.cval i es) env = (rdVar i env).bnd fun (g, _, env) => match g with | .fn f => (evs cf es env).bnd fun (ds, env) => callR cf f ds env | _ => .bad := by
  conv => lhs; unfold ev
  first | done | rfl
theorem ev_blt {cf : CF} {env : Env} {b : Blt} {es : List CE} : ev cf (.blt b es) env = (evOs cf es env).bnd fun (xs, env) => (R.opt (xs.mapM (Opd.get env))).bnd fun ds => (R.opt (bltD b ds)).bnd fun d => ok3 d env := by
  conv => lhs; unfold ev
  first | done | rfl
theorem ev_isi {cf : CF} {env : Env} {a : CE} {ks : List Kd} : ev cf (.isi a ks) env = (opd a (ev cf a) env).bnd fun (x, env) => (R.opt (x.get env)).bnd fun d => (R.opt (isiD d ks)).bnd fun b => .ok (.bl b, false, env) := by
  conv => lhs; unfold ev
  first | done | rfl
theorem ev_lenset {cf : CF} {env : Env} {a : CE} : ev cf (.lenset a) env = (opd a (ev cf a) env).bnd fun (x, env) => (R.opt (x.get env)).bnd fun dx => (R.opt (lsetD dx)).bnd fun d => .ok (d, false, env) := by
  conv => lhs; unfold ev
  first | done | rfl
theorem ev_mth {cf : CF} {env : Env} {m : Mth} {a : CE} {es : List CE} : ev cf (.mth m a es) env = (opd a (ev cf a) env).bnd fun (x, env) => (evs cf es env).bnd fun (ds, env) => (R.opt (x.get env)).bnd fun dx => (R.opt (mthD m dx ds)).bnd fun d => .ok (d, false, env) := by
  conv => lhs; unfold ev
  first | done | rfl
theorem ev_mut {cf : CF} {env : Env} {m : Mth} {i : Nat} {es : List CE} : ev cf (.mut m i es) env = (evs cf es env).bnd fun (ds, env) => mutS m i ds env := by
  conv => lhs; unfold ev
  first | done | rfl
def tryK : R (D × Bool × Env) → R (D × Bool × Env)
  | .ok (d, _, env) => .ok (.tup [.str "told", d], false, env)
  | .ex x env => (R.opt (if x.arg.isNone then excD x else none)).bnd fun d => .ok (d, false, env)
  | .bad => .bad
theorem ev_tryl {cf : CF} {env : Env} {e : CE} : ev cf (.tryl e) env = tryK (ev cf e env) := by
  conv => lhs; unfold ev
  first | done | rfl
theorem tryK_ok {d : D} {fr : Bool} {env : Env} : tryK (.ok (d, fr, env)) = .ok (.tup [.str "told", d], false, env) := rfl
theorem tryK_ex {c : Str} {env : Env} : tryK (.ex ⟨c, none⟩ env) = (R.opt ((kin c).map fun s => D.str s)).bnd fun d => .ok (d, false, env) := rfl
theorem evp_n {cf : CF} {env : Env} : evp cf [] env = .ok ([], env) := by unfold evp; rfl
theorem evp_c {cf : CF} {env : Env} {e : CE} {r : List CE} : evp cf (e :: r) env = (ev cf e env).bnd fun (d, fr, env) => (evp cf r env).bnd fun (ds, env) => .ok ((d, fr) :: ds, env) := by
  conv => lhs; unfold evp
  first | done | rfl
theorem evs_n {cf : CF} {env : Env} : evs cf [] env = .ok ([], env) := by unfold evs; rfl
theorem evs_c {cf : CF} {env : Env} {e : CE} {r : List CE} : evs cf (e :: r) env = (ev cf e env).bnd fun (d, _, env) => (evs cf r env).bnd fun (ds, env) => .ok (d :: ds, env) := by
  conv => lhs; unfold evs
  first | done | rfl
theorem evOs_n {cf : CF} {env : Env} : evOs cf [] env = .ok ([], env) := by unfold evOs; rfl
theorem evOs_c {cf : CF} {env : Env} {e : CE} {r : List CE} : evOs cf (e :: r) env = (opd e (ev cf e) env).bnd fun (d, env) => (evOs cf r env).bnd fun (ds, env) => .ok (d :: ds, env) := by
  conv => lhs; unfold evOs
  first | done | rfl
theorem evTs_n {cf : CF} {env : Env} : evTs cf [] env = .ok (true, env) := by unfold evTs; rfl
theorem evTs_c {cf : CF} {env : Env} {e : CE} {r : List CE} : evTs cf (e :: r) env = (ev cf e env).bnd fun (d, _, env) => (R.opt d.truth).bnd fun k => if k = true then evTs cf r env else .ok (false, env) := by
  conv => lhs; unfold evTs
  first | done | rfl
theorem evI_seq {cf : CF} {env : Env} {e : CE} : evI cf (.seq e) env = (ev cf e env).bnd fun (d, _, env) => (R.opt d.walk?).bnd fun l => .ok (l, env) := by
  conv => lhs; unfold evI
  first | done | rfl
theorem evI_r1 {cf : CF} {env : Env} {a : CE} : evI cf (.rng1 a) env = (ev cf a env).bnd fun (d, _, env) => (R.opt d.int?).bnd fun i => if -1000000 ≤ i ∧ i ≤ 1000000 then .ok ((List.range i.toNat).map fun k => D.int (k : Nat), env) else .bad := by
  conv => lhs; unfold evI
  first | done | rfl
theorem evI_r2 {cf : CF} {env : Env} {a b : CE} : evI cf (.rng2 a b) env = (ev cf a env).bnd fun (d, _, env) => (R.opt d.int?).bnd fun i => (ev cf b env).bnd fun (d, _, env) => (R.opt d.int?).bnd fun j => if -1000000 ≤ i ∧ i ≤ 1000000 ∧ -1000000 ≤ j ∧ j ≤ 1000000 then .ok ((List.range (j - i).toNat).map fun k => D.int (i + (k : Nat)), env) else .bad := by
  conv => lhs; unfold evI
  first | done | rfl
def zipD : D → D → Option (List D)
  | .lst l, .lst l' => some ((l.zip l').map fun p => D.tup [p.1, p.2])
  | .tup l, .tup l' => some ((l.zip l').map fun p => D.tup [p.1, p.2])
  | .tup l, .lst l' => some ((l.zip l').map fun p => D.tup [p.1, p.2])
  | .lst l, .tup l' => some ((l.zip l').map fun p => D.tup [p.1, p.2])
  | _, _ => none
theorem evI_zip {cf : CF} {env : Env} {a b : CE} : evI cf (.zip a b) env = (ev cf a env).bnd fun (d, _, env) => (ev cf b env).bnd fun (d', _, env) => (R.opt (zipD d d')).bnd fun l => .ok (l, env) := by
  conv => lhs; unfold evI
  show R.bind _ _ = R.bind _ _
  generalize ev cf a env = r
  cases r with
  | ok r =>
    obtain ⟨d, fr, e⟩ := r
    show R.bind (ev cf b e) _ = R.bind (ev cf b e) _
    generalize ev cf b e = r
    cases r with
    | ok r =>
      obtain ⟨d', fr', e'⟩ := r
      cases d <;> cases d' <;> rfl
    | ex x e => rfl
    | bad => rfl
  | ex x e => rfl
  | bad => rfl
theorem zipD_ll {l l' : List D} : zipD (.lst l) (.lst l') = some ((l.zip l').map fun p => D.tup [p.1, p.2]) := rfl
theorem zipD_lt {l l' : List D} : zipD (.lst l) (.tup l') = some ((l.zip l').map fun p => D.tup [p.1, p.2]) := rfl
theorem zipD_tl {l l' : List D} : zipD (.tup l) (.lst l') = some ((l.zip l').map fun p => D.tup [p.1, p.2]) := rfl
theorem zipD_tt {l l' : List D} : zipD (.tup l) (.tup l') = some ((l.zip l').map fun p => D.tup [p.1, p.2]) := rfl
theorem evI_enm {cf : CF} {env : Env} {a : CE} : evI cf (.enm a) env = (ev cf a env).bnd fun (d, _, env) => (R.opt d.items?).bnd fun l => .ok (l.zipIdx.map fun p => D.tup [.int (p.2 : Nat), p.1], env) := by
  conv => lhs; unfold evI
  first | done | rfl
theorem opd_var {i : Nat} {f : Env → R (D × Bool × Env)} {env : Env} : opd (.var i) f env = rdOpd i env := rfl
theorem opd_lit {d : D} {f : Env → R (D × Bool × Env)} {env : Env} : opd (.lit d) f env = (f env).bnd fun (d, _, env) => .ok (.v d, env) := rfl
theorem opd_glo {x : Str} {d : D} {f : Env → R (D × Bool × Env)} {env : Env} : opd (.glo x d) f env = (f env).bnd fun (d, _, env) => .ok (.v d, env) := rfl
theorem opd_bin {o : BOp} {a b : CE} {f : Env → R (D × Bool × Env)} {env : Env} : opd (.bin o a b) f env = (f env).bnd fun (d, _, env) => .ok (.v d, env) := rfl
theorem opd_neg {a : CE} {f : Env → R (D × Bool × Env)} {env : Env} : opd (.neg a) f env = (f env).bnd fun (d, _, env) => .ok (.v d, env) := rfl
theorem opd_cmp {o : COp} {a b : CE} {f : Env → R (D × Bool × Env)} {env : Env} : opd (.cmp o a b) f env = (f env).bnd fun (d, _, env) => .ok (.v d, env) := rfl
theorem opd_ife {a b c : CE} {f : Env → R (D × Bool × Env)} {env : Env} : opd (.ife c a b) f env = (f env).bnd fun (d, _, env) => .ok (.v d, env) := rfl
theorem opd_tup {es : List CE} {f : Env → R (D × Bool × Env)} {env : Env} : opd (.tup es) f env = (f env).bnd fun (d, _, env) => .ok (.v d, env) := rfl
theorem opd_lst {es : List CE} {f : Env → R (D × Bool × Env)} {env : Env} : opd (.lst es) f env = (f env).bnd fun (d, _, env) => .ok (.v d, env) := rfl
theorem opd_idx {a b : CE} {f : Env → R (D × Bool × Env)} {env : Env} : opd (.idx a b) f env = (f env).bnd fun (d, _, env) => .ok (.v d, env) := rfl
theorem opd_slL {a b : CE} {f : Env → R (D × Bool × Env)} {env : Env} : opd (.slL a b) f env = (f env).bnd fun (d, _, env) => .ok (.v d, env) := rfl
theorem opd_slU {a b : CE} {f : Env → R (D × Bool × Env)} {env : Env} : opd (.slU a b) f env = (f env).bnd fun (d, _, env) => .ok (.v d, env) := rfl
theorem opd_slB {a b c : CE} {f : Env → R (D × Bool × Env)} {env : Env} : opd (.slB a b c) f env = (f env).bnd fun (d, _, env) => .ok (.v d, env) := rfl
theorem opd_rvs {a : CE} {f : Env → R (D × Bool × Env)} {env : Env} : opd (.rvs a) f env = (f env).bnd fun (d, _, env) => .ok (.v d, env) := rfl
theorem opd_comp {elt : CE} {tg : Tg} {it : It} {ifs : List CE} {own : List Nat} {f : Env → R (D × Bool × Env)} {env : Env} : opd (.comp elt tg it ifs own) f env = (f env).bnd fun (d, _, env) => .ok (.v d, env) := rfl
theorem opd_call {g : Nat} {es : List CE} {f : Env → R (D × Bool × Env)} {env : Env} : opd (.call g es) f env = (f env).bnd fun (d, _, env) => .ok (.v d, env) := rfl
theorem opd_cio {g i : Nat} {es : List CE} {f : Env → R (D × Bool × Env)} {env : Env} : opd (.cio g i es) f env = (f env).bnd fun (d, _, env) => .ok (.v d, env) := rfl
theorem opd_cval {i : Nat} {es : List CE} {f : Env → R (D × Bool × Env)} {env : Env} : opd (.cval i es) f env = (f env).bnd fun (d, _, env) => .ok (.v d, env) := rfl
theorem opd_blt {b : Blt} {es : List CE} {f : Env → R (D × Bool × Env)} {env : Env} : opd (.blt b es) f env = (f env).bnd fun (d, _, env) => .ok (.v d, env) := rfl
theorem opd_isi {a : CE} {ks : List Kd} {f : Env → R (D × Bool × Env)} {env : Env} : opd (.isi a ks) f env = (f env).bnd fun (d, _, env) => .ok (.v d, env) := rfl
theorem opd_mth {m : Mth} {a : CE} {es : List CE} {f : Env → R (D × Bool × Env)} {env : Env} : opd (.mth m a es) f env = (f env).bnd fun (d, _, env) => .ok (.v d, env) := rfl
theorem opd_mut {m : Mth} {i : Nat} {es : List CE} {f : Env → R (D × Bool × Env)} {env : Env} : opd (.mut m i es) f env = (f env).bnd fun (d, _, env) => .ok (.v d, env) := rfl
theorem opd_tryl {a : CE} {f : Env → R (D × Bool × Env)} {env : Env} : opd (.tryl a) f env = (f env).bnd fun (d, _, env) => .ok (.v d, env) := rfl
theorem opd_lenset {a : CE} {f : Env → R (D × Bool × Env)} {env : Env} : opd (.lenset a) f env = (f env).bnd fun (d, _, env) => .ok (.v d, env) := rfl
theorem opd_bnot {a : CE} {f : Env → R (D × Bool × Env)} {env : Env} : opd (.bnot a) f env = (f env).bnd fun (d, _, env) => .ok (.v d, env) := rfl
theorem opd_band {a b : CE} {f : Env → R (D × Bool × Env)} {env : Env} : opd (.band a b) f env = (f env).bnd fun (d, _, env) => .ok (.v d, env) := rfl
theorem opd_bor {a b : CE} {f : Env → R (D × Bool × Env)} {env : Env} : opd (.bor a b) f env = (f env).bnd fun (d, _, env) => .ok (.v d, env) := rfl
theorem opd_chn {o p : COp} {a b c : CE} {f : Env → R (D × Bool × Env)} {env : Env} : opd (.chn o p a b c) f env = (f env).bnd fun (d, _, env) => .ok (.v d, env) := rfl
theorem b_add {i j : Int} : binD .add (.int i) (.int j) = some (.int (i + j)) := rfl
theorem b_sub {i j : Int} : binD .sub (.int i) (.int j) = some (.int (i - j)) := rfl
theorem b_mul {i j : Int} : binD .mul (.int i) (.int j) = if mulOk i j = true then some (.int (i * j)) else none := rfl
theorem b_fdiv {i j : Int} : binD .fdiv (.int i) (.int j) = if divOk i j = true then some (.int (i / j)) else none := rfl
theorem b_mod {i j : Int} : binD .mod (.int i) (.int j) = if 0 < j then some (.int (i % j)) else none := rfl
theorem b_pow {i j : Int} : binD .pow (.int i) (.int j) = if powOk i j = true then some (.int (i ^ j.toNat)) else none := rfl
theorem b_addL {a b : List D} : binD .add (.lst a) (.lst b) = if a.length + b.length ≤ szL then some (.lst (a ++ b)) else none := rfl
theorem b_addT {a b : List D} : binD .add (.tup a) (.tup b) = if a.length + b.length ≤ szL then some (.tup (a ++ b)) else none := rfl
theorem b_mulT {a : List D} {k : Int} : binD .mul (.tup a) (.int k) = if 0 < a.length ∧ 2 ≤ k ∧ k ≤ 1000 ∧ a.length ≤ 1000 then some (.tup (repL a k)) else none := rfl
theorem b_mulL {a : List D} {k : Int} : binD .mul (.lst a) (.int k) = if 0 ≤ k ∧ k ≤ 1000 ∧ a.length ≤ 1000 then some (.lst (repL a k)) else none := rfl
theorem c_lt {i j : Int} : cmpD .lt (.int i) (.int j) = some (decide (i < j)) := rfl
theorem c_le {i j : Int} : cmpD .le (.int i) (.int j) = some (decide (i ≤ j)) := rfl
theorem c_gt {i j : Int} : cmpD .gt (.int i) (.int j) = some (decide (j < i)) := rfl
theorem c_ge {i j : Int} : cmpD .ge (.int i) (.int j) = some (decide (j ≤ i)) := rfl
theorem isi_bl {b : Bool} {ks : List Kd} : isiD (.bl b) ks = some (ks.any (isKd (.bl b))) := rfl
theorem isk_bl_bool {b : Bool} : isKd (.bl b) .bool = true := rfl
theorem isk_bl_int {b : Bool} : isKd (.bl b) .int = true := rfl
theorem isk_bl_str {b : Bool} : isKd (.bl b) .str = false := rfl
theorem isk_bl_list {b : Bool} : isKd (.bl b) .list = false := rfl
theorem isk_bl_tuple {b : Bool} : isKd (.bl b) .tuple = false := rfl
theorem isi_int {b : Int} {ks : List Kd} : isiD (.int b) ks = some (ks.any (isKd (.int b))) := rfl
theorem isk_int_bool {b : Int} : isKd (.int b) .bool = false := rfl
theorem isk_int_int {b : Int} : isKd (.int b) .int = true := rfl
theorem isk_int_str {b : Int} : isKd (.int b) .str = false := rfl
theorem isk_int_list {b : Int} : isKd (.int b) .list = false := rfl
theorem isk_int_tuple {b : Int} : isKd (.int b) .tuple = false := rfl
theorem isi_str {b : Str} {ks : List Kd} : isiD (.str b) ks = some (ks.any (isKd (.str b))) := rfl
theorem isk_str_bool {b : Str} : isKd (.str b) .bool = false := rfl
theorem isk_str_int {b : Str} : isKd (.str b) .int = false := rfl
theorem isk_str_str {b : Str} : isKd (.str b) .str = true := rfl
theorem isk_str_list {b : Str} : isKd (.str b) .list = false := rfl
theorem isk_str_tuple {b : Str} : isKd (.str b) .tuple = false := rfl
theorem isi_tup {b : List D} {ks : List Kd} : isiD (.tup b) ks = some (ks.any (isKd (.tup b))) := rfl
theorem isk_tup_bool {b : List D} : isKd (.tup b) .bool = false := rfl
theorem isk_tup_int {b : List D} : isKd (.tup b) .int = false := rfl
theorem isk_tup_str {b : List D} : isKd (.tup b) .str = false := rfl
theorem isk_tup_list {b : List D} : isKd (.tup b) .list = false := rfl
theorem isk_tup_tuple {b : List D} : isKd (.tup b) .tuple = true := rfl
theorem isi_lst {b : List D} {ks : List Kd} : isiD (.lst b) ks = some (ks.any (isKd (.lst b))) := rfl
theorem isk_lst_bool {b : List D} : isKd (.lst b) .bool = false := rfl
theorem isk_lst_int {b : List D} : isKd (.lst b) .int = false := rfl
theorem isk_lst_str {b : List D} : isKd (.lst b) .str = false := rfl
theorem isk_lst_list {b : List D} : isKd (.lst b) .list = true := rfl
theorem isk_lst_tuple {b : List D} : isKd (.lst b) .tuple = false := rfl
theorem isi_non  {ks : List Kd} : isiD (.non) ks = some (ks.any (isKd (.non))) := rfl
theorem isk_non_bool  : isKd (.non) .bool = false := rfl
theorem isk_non_int  : isKd (.non) .int = false := rfl
theorem isk_non_str  : isKd (.non) .str = false := rfl
theorem isk_non_list  : isKd (.non) .list = false := rfl
theorem isk_non_tuple  : isKd (.non) .tuple = false := rfl
theorem any_n {α : Type} {f : α → Bool} : ([] : List α).any f = false := rfl
theorem any_c {α : Type} {f : α → Bool} {a : α} {l : List α} : (a :: l).any f = (f a || l.any f) := rfl
theorem or_tt {b : Bool} : (true || b) = true := rfl
theorem or_ff {b : Bool} : (false || b) = b := rfl
theorem or_t {b : Bool} : (b || true) = true := Bool.or_true b
theorem or_f {b : Bool} : (b || false) = b := Bool.or_false b
theorem and_tt {b : Bool} : (true && b) = b := rfl
theorem and_ff {b : Bool} : (false && b) = false := rfl
theorem and_t {b : Bool} : (b && true) = b := Bool.and_true b
theorem and_f {b : Bool} : (b && false) = false := Bool.and_false b
theorem not_t  : (!true) = false := rfl
theorem not_f  : (!false) = true := rfl
theorem notnot {b : Bool} : (!!b) = b := Bool.not_not b
theorem eqv_i {i j : Int} : eqD (.int i) (.int j) = decide (i = j) := eqD_int
theorem okI {i : Int} : (D.int i).ok = true := ok_int
theorem okB {b : Bool} : (D.bl b).ok = true := ok_bl
theorem okN  : D.non.ok = true := ok_non
theorem c_eqI {i j : Int} : cmpD .eq (.int i) (.int j) = some (decide (i = j)) := by show (if (D.int i).ok && (D.int j).ok then some (eqD (.int i) (.int j)) else none) = _; rw [ok_int, ok_int, eqD_int]; rfl
theorem c_neI {i j : Int} : cmpD .ne (.int i) (.int j) = some (!decide (i = j)) := by show (if (D.int i).ok && (D.int j).ok then some (!eqD (.int i) (.int j)) else none) = _; rw [ok_int, ok_int, eqD_int]; rfl
theorem c_isN {a : D} : cmpD .is a .non = some a.isNon := by cases a <;> rfl
theorem c_isnN {a : D} : cmpD .isn a .non = some (!a.isNon) := by cases a <;> rfl
theorem isNon_n  : D.non.isNon = true := rfl
theorem isNon_bl {b : Bool} : (D.bl b).isNon = false := rfl
theorem isNon_int {b : Int} : (D.int b).isNon = false := rfl
theorem isNon_str {b : Str} : (D.str b).isNon = false := rfl
theorem isNon_tup {b : List D} : (D.tup b).isNon = false := rfl
theorem isNon_lst {b : List D} : (D.lst b).isNon = false := rfl
theorem tr_b {b : Bool} : (D.bl b).truth = some b := rfl
theorem tr_i {i : Int} : (D.int i).truth = some (i != 0) := rfl
theorem tr_l {l : List D} : (D.lst l).truth = some (!l.isEmpty) := rfl
theorem tr_t {l : List D} : (D.tup l).truth = some (!l.isEmpty) := rfl
theorem tr_n  : D.non.truth = some false := rfl
theorem ix_l {l : List D} {i : Int} : idxD (.lst l) (.int i) = atI l i := rfl
theorem ix_t {l : List D} {i : Int} : idxD (.tup l) (.int i) = atI l i := rfl
theorem int_i {i : Int} : (D.int i).int? = some i := rfl
theorem sl_l {l : List D} {lo hi : Option Int} : slcD (.lst l) lo hi = some (.lst (cut l lo hi)) := rfl
theorem sl_t {l : List D} {lo hi : Option Int} : slcD (.tup l) lo hi = some (.tup (cut l lo hi)) := rfl
theorem rv_l {l : List D} : rvsD (.lst l) = some (.lst l.reverse) := rfl
theorem rv_t {l : List D} : rvsD (.tup l) = some (.tup l.reverse) := rfl
theorem wk_l {l : List D} : (D.lst l).walk? = some l := rfl
theorem wk_t {l : List D} : (D.tup l).walk? = some l := rfl
theorem it_l {l : List D} : (D.lst l).items? = some l := rfl
theorem it_t {l : List D} : (D.tup l).items? = some l := rfl
theorem len_l {l : List D} : bltD .len [.lst l] = some (.int l.length) := rfl
theorem len_t {l : List D} : bltD .len [.tup l] = some (.int l.length) := rfl
theorem tuple_l {l : List D} : bltD .tuple [.lst l] = some (.tup l) := rfl
theorem tuple_t {l : List D} : bltD .tuple [.tup l] = some (.tup l) := rfl
theorem list_l {l : List D} : bltD .list [.lst l] = some (.lst l) := rfl
theorem list_t {l : List D} : bltD .list [.tup l] = some (.lst l) := rfl
theorem min_i {i j : Int} : bltD .min [.int i, .int j] = some (.int (if j < i then j else i)) := rfl
theorem max_i {i j : Int} : bltD .max [.int i, .int j] = some (.int (if j > i then j else i)) := rfl
theorem min_l {l : List D} : bltD .min [.lst l] = ((D.ints? l).bind minI).map D.int := rfl
theorem max_l {l : List D} : bltD .max [.lst l] = ((D.ints? l).bind maxI).map D.int := rfl
theorem int_ii {i : Int} : bltD .int [.int i] = some (.int i) := rfl
theorem int_bb {b : Bool} : bltD .int [.bl b] = some (.int (b2i b)) := rfl
theorem all_l {l : List D} : bltD .all [.lst l] = (l.mapM D.bl?).map fun bs => .bl (bs.all id) := rfl
theorem any_l {l : List D} : bltD .any [.lst l] = (l.mapM D.bl?).map fun bs => .bl (bs.any id) := rfl
theorem sorted_l {l : List D} : bltD .sorted [.lst l] = sortD l := rfl
theorem sset_l {l : List D} : bltD .sset [.lst l] = ssetD l := rfl
theorem sset_t {l : List D} : bltD .sset [.tup l] = ssetD l := rfl
theorem mM_n {α β : Type} {f : α → Option β} : ([] : List α).mapM f = some [] := rfl
theorem mM_c {α β : Type} {f : α → Option β} {a : α} {l : List α} : (a :: l).mapM f = (f a).bind fun b => (l.mapM f).bind fun bs => some (b :: bs) := by rw [List.mapM_cons]; rfl
theorem blq_b {b : Bool} : (D.bl b).bl? = some b := rfl
theorem allq_n  : ([] : List Bool).all id = true := rfl
theorem allq_c {b : Bool} {l : List Bool} : (b :: l).all id = (b && l.all id) := rfl
theorem anyq_n  : ([] : List Bool).any id = false := rfl
theorem anyq_c {b : Bool} {l : List Bool} : (b :: l).any id = (b || l.any id) := rfl
theorem ex_asg {cf : CF} {M : Nat} {env : Env} {tg : Tg} {e : CE} : ex cf M (.asg tg e) env = (ev cf e env).stt fun (d, fr, env) => asgV tg d fr env := by
  conv => lhs; unfold ex
  first | done | rfl
theorem ex_par {cf : CF} {M : Nat} {env : Env} {is : List Nat} {es : List CE} : ex cf M (.par is es) env = (evp cf es env).stt fun (ds, env) => parS is ds env := by
  conv => lhs; unfold ex
  first | done | rfl
theorem ex_setI {cf : CF} {M : Nat} {env : Env} {i : Nat} {ix e : CE} : ex cf M (.setI i ix e) env = (ev cf e env).stt fun (v, _, env) => (ownL i env).stt fun _ => (ev cf ix env).stt fun (k, _, env) => upSlot i (fun d => setD d k v) env := by
  conv => lhs; unfold ex
  first | done | rfl
def appD (v d : D) : Option D := match d with
  | .lst l => if l.length < szL then some (.lst (l ++ [v])) else none
  | _ => none
theorem appD_l {v : D} {l : List D} : appD v (.lst l) = if l.length < szL then some (.lst (l ++ [v])) else none := rfl
theorem ex_app {cf : CF} {M : Nat} {env : Env} {i : Nat} {e : CE} : ex cf M (.app i e) env = (ownL i env).stt fun _ => (ev cf e env).stt fun (v, _, env) => upSlot i (appD v) env := by
  conv => lhs; unfold ex
  first | done | rfl
theorem setD_l {l : List D} {i : Int} {v : D} : setD (.lst l) (.int i) v = (ixN l.length i).map fun j => .lst (l.set j v) := rfl
theorem ex_exp {cf : CF} {M : Nat} {env : Env} {e : CE} : ex cf M (.exp e) env = (ev cf e env).stt fun (_, _, env) => .nx env := by
  conv => lhs; unfold ex
  first | done | rfl
theorem ex_retN {cf : CF} {M : Nat} {env : Env}  : ex cf M (.retN) env = .rt .non false env := by
  conv => lhs; unfold ex
  first | done | rfl
theorem ex_retV {cf : CF} {M : Nat} {env : Env} {i : Nat} : ex cf M (.ret (.var i)) env = (match env[i]? with | some (.ow d) => .rt d true env | some (.sh d) => .rt d false env | _ => .bad) := by
  conv => lhs; unfold ex
  rfl
theorem ret_lit {cf : CF} {M : Nat} {env : Env} {d : D} : ex cf M (.ret (.lit d)) env = (ev cf (.lit d) env).stt fun (d, fr, env) => .rt d fr env := by
  conv => lhs; unfold ex
  first | done | rfl
theorem ret_bin {cf : CF} {M : Nat} {env : Env} {o : BOp} {a b : CE} : ex cf M (.ret (.bin o a b)) env = (ev cf (.bin o a b) env).stt fun (d, fr, env) => .rt d fr env := by
  conv => lhs; unfold ex
  first | done | rfl
theorem ret_cmp {cf : CF} {M : Nat} {env : Env} {o : COp} {a b : CE} : ex cf M (.ret (.cmp o a b)) env = (ev cf (.cmp o a b) env).stt fun (d, fr, env) => .rt d fr env := by
  conv => lhs; unfold ex
  first | done | rfl
theorem ret_ife {cf : CF} {M : Nat} {env : Env} {a b c : CE} : ex cf M (.ret (.ife c a b)) env = (ev cf (.ife c a b) env).stt fun (d, fr, env) => .rt d fr env := by
  conv => lhs; unfold ex
  first | done | rfl
theorem ret_tup {cf : CF} {M : Nat} {env : Env} {es : List CE} : ex cf M (.ret (.tup es)) env = (ev cf (.tup es) env).stt fun (d, fr, env) => .rt d fr env := by
  conv => lhs; unfold ex
  first | done | rfl
theorem ret_lst {cf : CF} {M : Nat} {env : Env} {es : List CE} : ex cf M (.ret (.lst es)) env = (ev cf (.lst es) env).stt fun (d, fr, env) => .rt d fr env := by
  conv => lhs; unfold ex
  first | done | rfl
theorem ret_idx {cf : CF} {M : Nat} {env : Env} {a b : CE} : ex cf M (.ret (.idx a b)) env = (ev cf (.idx a b) env).stt fun (d, fr, env) => .rt d fr env := by
  conv => lhs; unfold ex
  first | done | rfl
theorem ret_slL {cf : CF} {M : Nat} {env : Env} {a b : CE} : ex cf M (.ret (.slL a b)) env = (ev cf (.slL a b) env).stt fun (d, fr, env) => .rt d fr env := by
  conv => lhs; unfold ex
  first | done | rfl
theorem ret_slU {cf : CF} {M : Nat} {env : Env} {a b : CE} : ex cf M (.ret (.slU a b)) env = (ev cf (.slU a b) env).stt fun (d, fr, env) => .rt d fr env := by
  conv => lhs; unfold ex
  first | done | rfl
theorem ret_slB {cf : CF} {M : Nat} {env : Env} {a b c : CE} : ex cf M (.ret (.slB a b c)) env = (ev cf (.slB a b c) env).stt fun (d, fr, env) => .rt d fr env := by
  conv => lhs; unfold ex
  first | done | rfl
theorem ret_rvs {cf : CF} {M : Nat} {env : Env} {a : CE} : ex cf M (.ret (.rvs a)) env = (ev cf (.rvs a) env).stt fun (d, fr, env) => .rt d fr env := by
  conv => lhs; unfold ex
  first | done | rfl
theorem ret_comp {cf : CF} {M : Nat} {env : Env} {elt : CE} {tg : Tg} {it : It} {ifs : List CE} {own : List Nat} : ex cf M (.ret (.comp elt tg it ifs own)) env = (ev cf (.comp elt tg it ifs own) env).stt fun (d, fr, env) => .rt d fr env := by
  conv => lhs; unfold ex
  first | done | rfl
theorem ret_call {cf : CF} {M : Nat} {env : Env} {g : Nat} {es : List CE} : ex cf M (.ret (.call g es)) env = (ev cf (.call g es) env).stt fun (d, fr, env) => .rt d fr env := by
  conv => lhs; unfold ex
  first | done | rfl
theorem ret_cio {cf : CF} {M : Nat} {env : Env} {g i : Nat} {es : List CE} : ex cf M (.ret (.cio g i es)) env = (ev cf (.cio g i es) env).stt fun (d, fr, env) => .rt d fr env := by
  conv => lhs; unfold ex
  first | done | rfl
theorem ret_blt {cf : CF} {M : Nat} {env : Env} {b : Blt} {es : List CE} : ex cf M (.ret (.blt b es)) env = (ev cf (.blt b es) env).stt fun (d, fr, env) => .rt d fr env := by
  conv => lhs; unfold ex
  first | done | rfl
theorem ret_isi {cf : CF} {M : Nat} {env : Env} {a : CE} {ks : List Kd} : ex cf M (.ret (.isi a ks)) env = (ev cf (.isi a ks) env).stt fun (d, fr, env) => .rt d fr env := by
  conv => lhs; unfold ex
  first | done | rfl
theorem ret_mth {cf : CF} {M : Nat} {env : Env} {m : Mth} {a : CE} {es : List CE} : ex cf M (.ret (.mth m a es)) env = (ev cf (.mth m a es) env).stt fun (d, fr, env) => .rt d fr env := by
  conv => lhs; unfold ex
  first | done | rfl
theorem ret_bnot {cf : CF} {M : Nat} {env : Env} {a : CE} : ex cf M (.ret (.bnot a)) env = (ev cf (.bnot a) env).stt fun (d, fr, env) => .rt d fr env := by
  conv => lhs; unfold ex
  first | done | rfl
theorem ret_band {cf : CF} {M : Nat} {env : Env} {a b : CE} : ex cf M (.ret (.band a b)) env = (ev cf (.band a b) env).stt fun (d, fr, env) => .rt d fr env := by
  conv => lhs; unfold ex
  first | done | rfl
theorem ret_bor {cf : CF} {M : Nat} {env : Env} {a b : CE} : ex cf M (.ret (.bor a b)) env = (ev cf (.bor a b) env).stt fun (d, fr, env) => .rt d fr env := by
  conv => lhs; unfold ex
  first | done | rfl
theorem ret_chn {cf : CF} {M : Nat} {env : Env} {o p : COp} {a b c : CE} : ex cf M (.ret (.chn o p a b c)) env = (ev cf (.chn o p a b c) env).stt fun (d, fr, env) => .rt d fr env := by
  conv => lhs; unfold ex
  first | done | rfl
theorem ret_neg {cf : CF} {M : Nat} {env : Env} {a : CE} : ex cf M (.ret (.neg a)) env = (ev cf (.neg a) env).stt fun (d, fr, env) => .rt d fr env := by
  conv => lhs; unfold ex
  first | done | rfl
theorem ex_ite {cf : CF} {M : Nat} {env : Env} {c : CE} {t e : List CS} : ex cf M (.ite c t e) env = (ev cf c env).stt fun (x, _, env) => (R.opt x.truth).stt fun k => if k = true then exs cf M t env else exs cf M e env := by
  conv => lhs; unfold ex
  first | done | rfl
theorem ex_for {cf : CF} {M : Nat} {env : Env} {tg : Tg} {it : It} {b : List CS} : ex cf M (.for_ tg it b) env = (evI cf it env).stt fun (xs, env) => forL (asgT tg) (exs cf M b) xs env := by
  conv => lhs; unfold ex
  first | done | rfl
theorem ex_whl {cf : CF} {M : Nat} {env : Env} {c : CE} {b : List CS} : ex cf M (.whl c b) env = whlN (fun env => (ev cf c env).bnd fun (x, _, env) => (R.opt x.truth).bnd fun k => .ok (k, env)) (exs cf M b) M env := by
  conv => lhs; unfold ex
  first | done | rfl
def rseK (cls : Str) (ds : List D) (env : Env) : F := match ds with
  | [.int n] => .ex ⟨cls, some n⟩ env
  | [.str _] => .ex ⟨cls, none⟩ env
  | _ => .bad
theorem ex_rse {cf : CF} {M : Nat} {env : Env} {cls : Str} {es : List CE} : ex cf M (.rse cls es) env = (evs cf es env).stt fun (ds, env) => rseK cls ds env := by
  conv => lhs; unfold ex
  first | done | rfl
theorem rseK_s {cls x : Str} {env : Env} : rseK cls [.str x] env = .ex ⟨cls, none⟩ env := rfl
theorem rseK_i {cls : Str} {n : Int} {env : Env} : rseK cls [.int n] env = .ex ⟨cls, some n⟩ env := rfl
theorem exs_n {cf : CF} {M : Nat} {env : Env} : exs cf M [] env = .nx env := by unfold exs; rfl
theorem exs_c {cf : CF} {M : Nat} {env : Env} {s : CS} {r : List CS} : exs cf M (s :: r) env = (ex cf M s env).sqq fun env => exs cf M r env := by
  conv => lhs; unfold exs
  first | done | rfl
theorem forL_n {asg : D → Env → Option Env} {body : Env → F} {env : Env} : forL asg body [] env = .nx env := rfl
theorem compL_n {asg : D → Env → Option Env} {tst : Env → R (Bool × Env)} {elt : Env → R (D × Bool × Env)} {own : List Nat} {env : Env} {acc : List D} : compL asg tst elt own [] env acc = .ok (acc, env) := rfl
theorem compL_c {asg : D → Env → Option Env} {tst : Env → R (Bool × Env)} {elt : Env → R (D × Bool × Env)} {own : List Nat} {x : D} {r : List D} {env : Env} {acc : List D} : compL asg tst elt own (x :: r) env acc = (R.opt (asg x (wipe env own))).bnd fun env1 => (tst env1).noex.bnd fun (k, env2) =>
    if k = true then (elt env2).noex.bnd fun (d, _, env3) => if acc.length < szL then compL asg tst elt own r (unwipe env env3 own) (acc ++ [d]) else .bad
    else compL asg tst elt own r (unwipe env env2 own) acc := by
  conv => lhs; unfold compL
  rfl
theorem forL_c {asg : D → Env → Option Env} {body : Env → F} {x : D} {r : List D} {env : Env} : forL asg body (x :: r) env = (F.opt (asg x env)).sqq fun env => (body env).sqq fun env => forL asg body r env := rfl
theorem take_z {α : Type} {l : List α} : l.take 0 = [] := by simp
theorem take_s {α : Type} {a : α} {l : List α} {n : Nat} : (a :: l).take (n + 1) = a :: l.take n := rfl
theorem drop_z {α : Type} {l : List α} : l.drop 0 = l := rfl
theorem drop_s {α : Type} {a : α} {l : List α} {n : Nat} : (a :: l).drop (n + 1) = l.drop n := rfl
theorem app_n {α : Type} {l : List α} : ([] : List α) ++ l = l := rfl
theorem app_c {α : Type} {a : α} {l m : List α} : (a :: l) ++ m = a :: (l ++ m) := rfl
theorem szL_le {n : Nat} : (n ≤ szL) = (n ≤ 16777216) := rfl
theorem szL_lt {n : Nat} : (n < szL) = (n < 16777216) := rfl
/-! ### tests that split -/
theorem iteB {k : Bool} {p q : Prop} (h1 : k = true → p) (h2 : k = false → q) : if k = true then p else q := by
  cases k
  · exact h2 rfl
  · exact h1 rfl
/-! ### loops -/
theorem WS.forL {asg : D → Env → Option Env} {body : Env → F} {N : Env → Prop} {T : D → Bool → Env → Prop} {E : Exc → Env → Prop} (I : List D → Env → Prop) {xs : List D} {env : Env} (h0 : I xs env)
    (step : ∀ x r env, I (x :: r) env → WS ((F.opt (asg x env)).sqq body) (I r) T E) (done : ∀ env, I [] env → N env) : WS (forL asg body xs env) N T E := by
  induction xs generalizing env with
  | nil => rw [forL_n, wpF_nx]; exact done env h0
  | cons x r ih =>
    have h := step x r env h0
    rw [forL_c]
    rw [wpF_sq] at h ⊢
    refine h.imp (fun e he => ?_) (fun _ _ _ z => z) fun _ _ z => z
    rw [wpF_sq]
    exact he.imp (fun e he => ih he) (fun _ _ _ z => z) fun _ _ z => z
theorem WS.asg1 {asg : D → Env → Option Env} {body : Env → F} {x : D} {env : Env} {N : Env → Prop} {T : D → Bool → Env → Prop} {E : Exc → Env → Prop} (e : Env) (h : asg x env = some e) (h2 : WS (body e) N T E) : WS ((F.opt (asg x env)).sqq body) N T E := by
  rw [wpF_sq, h, fopt_some, wpF_nx]
  exact h2
theorem WR.compL {asg : D → Env → Option Env} {tst : Env → R (Bool × Env)} {elt : Env → R (D × Bool × Env)} {own : List Nat} {P : List D × Env → Prop} {E : Exc → Env → Prop} (I : List D → Env → List D → Prop) {xs acc : List D} {env : Env} (h0 : I xs env acc)
    (step : ∀ x r env acc, I (x :: r) env acc → WR (R.opt (asg x (wipe env own))) (fun e1 => WR (tst e1) (fun k => if k.1 = true then WR (elt k.2) (fun d => acc.length < szL ∧ I r (unwipe env d.2.2 own) (acc ++ [d.1])) (fun _ _ => False) else I r (unwipe env k.2 own) acc) (fun _ _ => False)) (fun _ _ => False))
    (done : ∀ env acc, I [] env acc → P (acc, env)) : WR (compL asg tst elt own xs env acc) P E := by
  induction xs generalizing env acc with
  | nil => rw [compL_n, wpR_ok]; exact done env acc h0
  | cons x r ih =>
    have h := step x r env acc h0
    rw [compL_c, wpR_bind]
    refine h.imp (fun e1 h => ?_) fun _ _ z => z.elim
    rw [wpR_bind, wpR_noex]
    refine h.imp (fun k h => ?_) fun _ _ z => z
    obtain ⟨k, e2⟩ := k
    cases k with
    | false => exact ih h
    | true =>
      have h : WR (elt e2) (fun d => acc.length < szL ∧ I r (unwipe env d.2.2 own) (acc ++ [d.1])) (fun _ _ => False) := h
      show WR ((elt e2).noex.bnd _) _ _
      rw [wpR_bind, wpR_noex]
      refine h.imp (fun d h => ?_) fun _ _ z => z
      obtain ⟨d, fr, e3⟩ := d
      show WR (if acc.length < szL then Cor.compL asg tst elt own r (unwipe env e3 own) (acc ++ [d]) else .bad) P E
      rw [if_pos h.1]
      exact ih h.2
theorem find_at {β : Type} {g : Nat → Option β} {i n : Nat} {d : β} (h : ∀ j, j < i → g j = none) (hd : g i = some d) (hi : i < n) : (List.range n).findSome? g = some d := by
  induction n with
  | zero => omega
  | succ n ih =>
    rw [List.range_succ, List.findSome?_append]
    by_cases q : i < n
    · rw [ih q]; rfl
    · have e : i = n := by omega
      subst e
      have : (List.range i).findSome? g = none := List.findSome?_eq_none_iff.mpr fun j hj => h j (List.mem_range.mp hj)
      rw [this]
      simp [hd]
/-- a for that goes till something is found -/
theorem WS.forIx {asg : D → Env → Option Env} {body : Env → F} {N : Env → Prop} {T : D → Bool → Env → Prop} {E : Exc → Env → Prop} {n : Nat} {xs : List D} {env : Env} (hx : xs.length = n) (g : Nat → Option D) (I : Nat → Env → Prop) (R : Env → Prop) (h0 : I 0 env)
    (step : ∀ i env, i < n → I i env → ∀ x, xs[i]? = some x → WS ((F.opt (asg x env)).sqq body) (fun e => g i = none ∧ I (i + 1) e) (fun d fr e => g i = some d ∧ fr = false ∧ R e) E)
    (done : (List.range n).findSome? g = none → ∀ env, I n env → N env) (ret : ∀ d e, (List.range n).findSome? g = some d → R e → T d false e) : WS (Cor.forL asg body xs env) N T E := by
  refine WS.forL (fun rest env => ∃ i, xs.drop i = rest ∧ i ≤ n ∧ I i env ∧ ∀ j, j < i → g j = none) ⟨0, rfl, Nat.zero_le n, h0, fun j hj => by omega⟩ ?_ ?_
  · rintro x r env ⟨i, hr, hi, hI, hn⟩
    have hlt : i < n := by
      by_cases q : i < n
      · exact q
      · rw [List.drop_of_length_le (by omega)] at hr; cases hr
    have hxi : xs[i]? = some x := by
      have := congrArg (fun l => l[0]?) hr
      simpa using this
    refine (step i env hlt hI x hxi).imp (fun e ⟨h1, h2⟩ => ⟨i + 1, ?_, hlt, h2, fun j hj => ?_⟩) (fun d fr e ⟨h1, h2, h3⟩ => ?_) fun _ _ z => z
    · rw [← List.drop_drop, hr]
      rfl
    · by_cases q : j = i
      · rw [q]; exact h1
      · exact hn j (by omega)
    · subst h2
      exact ret d e (find_at hn h1 hlt) h3
  · rintro env ⟨i, hr, hi, hI, hn⟩
    have e : i = n := by
      have := congrArg List.length hr
      rw [List.length_drop] at this
      simp at this
      omega
    subst e
    exact done (List.findSome?_eq_none_iff.mpr fun j hj => hn j (List.mem_range.mp hj)) env hI
/-- a while loop, by a measure -/
theorem WS.whlN {c : Env → R (Bool × Env)} {body : Env → F} {N : Env → Prop} {T : D → Bool → Env → Prop} {E : Exc → Env → Prop} (I : Nat → Env → Prop)
    (step : ∀ m env, I m env → WR (c env) (fun k => if k.1 = true then WS (body k.2) (fun e => ∃ m', m' < m ∧ I m' e) T E else N k.2) E) : ∀ (n m : Nat) {env : Env}, I m env → m < n → WS (whlN c body n env) N T E
  | 0, m, _, _, h => absurd h (Nat.not_lt_zero m)
  | n + 1, m, env, h0, h => by
    have h1 := step m env h0
    show WS ((c env).stt fun (k, env) => if k = true then (body env).sqq fun env => Cor.whlN c body n env else .nx env) N T E
    rw [wpF_st]
    refine h1.imp (fun k hk => ?_) fun _ _ z => z
    obtain ⟨k, e⟩ := k
    cases k with
    | false =>
      show WS (.nx e) N T E
      rw [wpF_nx]
      exact hk
    | true =>
      have hk : WS (body e) (fun e => ∃ m', m' < m ∧ I m' e) T E := hk
      show WS ((body e).sqq _) _ _ _
      rw [wpF_sq]
      exact hk.imp (fun e ⟨m', l, hi⟩ => WS.whlN I step n m' hi (by omega)) (fun _ _ _ z => z) fun _ _ z => z
theorem WS.whlT {body : Env → F} {K : Nat} {env : Env} {N : Env → Prop} {T : D → Bool → Env → Prop} {E : Exc → Env → Prop} (I : Nat → Env → Prop) (m : Nat) (h0 : I m env) (hm : m < K)
    (step : ∀ m env, I m env → WS (body env) (fun e => ∃ m', m' < m ∧ I m' e) T E) : WS (Cor.whlN (fun env => R.ok (true, env)) body K env) N T E :=
  WS.whlN (c := fun env => R.ok (true, env)) (body := body) (N := N) (T := T) (E := E) I (fun m env h => by
    rw [wpR_ok]
    exact step m env h) K m h0 hm
theorem exs_app {cf : CF} {M : Nat} : ∀ {a b : List CS} {env : Env}, exs cf M (a ++ b) env = (exs cf M a env).sqq fun env => exs cf M b env
  | [], b, env => by rw [exs_n]; rfl
  | s :: a, b, env => by
    rw [List.cons_append, exs_c, exs_c]
    cases ex cf M s env with
    | nx e => exact exs_app
    | rt d fr e => rfl
    | ex x e => rfl
    | bad => rfl
/-- the first n statements, then the others -/
theorem WS.cutN {cf : CF} {K : Nat} {l : List CS} {env : Env} {N : Env → Prop} {T : D → Bool → Env → Prop} {E : Exc → Env → Prop} (n : Nat) (M : Env → Prop) (h1 : WS (exs cf K (l.take n) env) M T E) (h2 : ∀ env, M env → WS (exs cf K (l.drop n) env) N T E) : WS (exs cf K l env) N T E := by
  rw [← List.take_append_drop n l, exs_app, wpF_sq]
  exact h1.imp (fun e h => h2 e h) (fun _ _ _ z => z) fun _ _ z => z
/-! ### a def's run -/
def WpRF (r : RF) (P : D → Bool → Option D → Prop) (E : Exc → Prop) : Prop := match r with
  | .ok d fr io => P d fr io
  | .ex x => E x
  | .bad => False
theorem WpRF.get {r : RF} {P : D → Bool → Option D → Prop} (h : WpRF r P fun _ => False) : ∃ d fr io, r = .ok d fr io ∧ P d fr io := by
  cases r with
  | ok d fr io => exact ⟨d, fr, io, rfl, h⟩
  | ex x => exact h.elim
  | bad => exact h.elim
theorem runF_wp {M : Nat} {cf : CF} {fd : FD} {ds : List D} {P : D → Bool → Option D → Prop} {E : Exc → Prop} (hl : ds.length = fd.np)
    (h : WS (exs cf M fd.body (initEnv fd ds)) (fun env => WpRF (fin fd.io .non false env) P E) (fun d fr env => WpRF (fin fd.io d fr env) P E) (fun x _ => if fd.io = true then False else E x)) : WpRF (runF M cf fd ds) P E := by
  unfold WS at h
  unfold runF
  rw [if_pos hl]
  generalize exs cf M fd.body (initEnv fd ds) = r at h ⊢
  cases r with
  | nx env => exact h
  | rt d fr env => exact h
  | ex x env =>
    cases hf : fd.io with
    | true => rw [hf] at h; exact h.elim
    | false => rw [hf] at h; exact h
  | bad => exact h
/-- a def without a list of the caller's -/
theorem runF_eq {M : Nat} {cf : CF} {fd : FD} {ds : List D} {v : D} {fr : Bool} (hl : ds.length = fd.np) (hio : fd.io = false)
    (h : WS (exs cf M fd.body (initEnv fd ds)) (fun env => D.non = v ∧ false = fr) (fun d f env => d = v ∧ f = fr) (fun x _ => False)) : runF M cf fd ds = .ok v fr none := by
  obtain ⟨d, f, io, e, rfl, rfl, rfl⟩ := WpRF.get (runF_wp (M := M) (cf := cf) (fd := fd) (ds := ds) (P := fun d f io => d = v ∧ f = fr ∧ io = none) (E := fun _ => False) hl (by
    rw [hio]
    exact h.imp (fun env q => ⟨q.1, q.2, rfl⟩) (fun d f env q => ⟨q.1, q.2, rfl⟩) fun _ _ z => z.elim))
  exact e
theorem runF_ex {M : Nat} {cf : CF} {fd : FD} {ds : List D} {x : Exc} (hl : ds.length = fd.np) (hio : fd.io = false)
    (h : WS (exs cf M fd.body (initEnv fd ds)) (fun env => False) (fun d f env => False) (fun y _ => y = x)) : runF M cf fd ds = .ex x := by
  have h := runF_wp (M := M) (cf := cf) (fd := fd) (ds := ds) (P := fun d f io => False) (E := fun y => y = x) hl (by
    rw [hio]
    exact h.imp (fun env q => q.elim) (fun d f env q => q.elim) fun _ _ z => z)
  generalize runF M cf fd ds = r at h ⊢
  cases r with
  | ok _ _ _ => exact h.elim
  | ex y => have h : y = x := h; rw [h]
  | bad => exact h.elim
/-- a def that changes the caller's list -/
theorem runF_io {M : Nat} {cf : CF} {fd : FD} {ds : List D} {P : D → Bool → D → Prop} (hl : ds.length = fd.np) (hio : fd.io = true)
    (h : WS (exs cf M fd.body (initEnv fd ds)) (fun env => ∃ d0, env[0]? = some (.io d0) ∧ P .non false d0) (fun d f env => ∃ d0, env[0]? = some (.io d0) ∧ P d f d0) (fun x _ => False)) : ∃ v fr d0, runF M cf fd ds = .ok v fr (some d0) ∧ P v fr d0 := by
  have fi : ∀ (d : D) (f : Bool) (env : Env) (d0 : D), env[0]? = some (.io d0) → fin true d f env = .ok d f (some d0) := fun d f env d0 e => by
    unfold fin
    dsimp only
    rw [e]
  obtain ⟨d, f, io, e, d0, rfl, q⟩ := WpRF.get (runF_wp (M := M) (cf := cf) (fd := fd) (ds := ds) (P := fun d f io => ∃ d0, io = some d0 ∧ P d f d0) (E := fun _ => False) hl (by
    rw [hio]
    exact h.imp (fun env ⟨d0, e, q⟩ => by rw [fi _ _ _ _ e]; exact ⟨d0, rfl, q⟩) (fun d f env ⟨d0, e, q⟩ => by rw [fi _ _ _ _ e]; exact ⟨d0, rfl, q⟩) fun _ _ z => z.elim))
  exact ⟨d, f, d0, e, q⟩
def rtOf (x : F) : Option (D × Bool) := match x with
  | .rt d fr _ => some (d, fr)
  | _ => none
theorem WS.rtOf {x : F} {d : D} {fr : Bool} (h : rtOf x = some (d, fr)) {N : Env → Prop} {E : Exc → Env → Prop} : WS x N (fun d' fr' _ => d' = d ∧ fr' = fr) E := by
  unfold WS
  cases x with
  | rt d' fr' env => cases h; exact ⟨rfl, rfl⟩
  | nx e => cases h
  | ex x e => cases h
  | bad => cases h
/-! ### the rules, in lots -/
def S0 := And.intro @wpR_ok (And.intro @wpR_ex (And.intro @wpR_bad (And.intro @wpR_bind (And.intro @bind_ok (And.intro @bind_ex (And.intro @bind_bad (And.intro @bind_bind (And.intro @st_ok (And.intro @st_ex (And.intro @st_bad (And.intro @opt_some (And.intro @opt_none (And.intro @sq_nx (And.intro @sq_rt (And.intro @sq_ex (And.intro @sq_bad (@wpF_nx)))))))))))))))))
def S1 := And.intro @wpF_rt (And.intro @wpF_ex (And.intro @wpF_bad (And.intro @wpF_st (And.intro @wpF_sq (And.intro @fopt_some (And.intro @fopt_none (And.intro @noex_ok (And.intro @wpR_noex (And.intro @if_tt (And.intro @if_ff (And.intro @if_T (And.intro @if_F (And.intro @and_T (And.intro @andT (And.intro @dec_T (And.intro @dec_F (@eqs)))))))))))))))))
def S2 := And.intro @wpR_if (And.intro @wpF_if (And.intro @obind_some (And.intro @obind_none (And.intro @omap_some (And.intro @omap_none (And.intro @get_z (And.intro @get_s (And.intro @set_z (And.intro @set_s (And.intro @rdVar_d (And.intro @rdOpd_d (And.intro @get_v (And.intro @get_i (And.intro @asgSlot_d (And.intro @asK_un (And.intro @asK_sh (@asK_ow)))))))))))))))))
def S3 := And.intro @asgT_n (And.intro @asgT_t (And.intro @asgTs_n (And.intro @asgTs_c (And.intro @asgV_n (And.intro @asgV_t (And.intro @parS_n (And.intro @parS_c (And.intro @ownL_d (And.intro @upSlot_d (And.intro @wipe_n (And.intro @wipe_c (And.intro @unwipe_n (And.intro @unwipe_c (And.intro @callR_d (And.intro @callIO_d (And.intro @ok3_d (@isLst_l)))))))))))))))))
def S4 := And.intro @isLst_t (And.intro @isLst_i (And.intro @isLst_b (And.intro @isLst_s (And.intro @ev_var (And.intro @ev_lit (And.intro @ev_glo (And.intro @ev_bin (And.intro @ev_neg (And.intro @ev_cmp (And.intro @ev_chn (And.intro @ev_chn3 (And.intro @andK_d (And.intro @orK_d (And.intro @ev_band (And.intro @ev_bor (And.intro @ev_bnot (@ev_ife)))))))))))))))))
def S5 := And.intro @ev_tup (And.intro @ev_lst (And.intro @ev_idx (And.intro @ev_slL (And.intro @ev_slU (And.intro @ev_slB (And.intro @ev_rvs (And.intro @ev_comp (And.intro @ev_call (And.intro @ev_cio (And.intro @ev_cval (And.intro @ev_blt (And.intro @ev_isi (And.intro @ev_lenset (And.intro @ev_mth (And.intro @ev_mut (And.intro @ev_tryl (@tryK_ok)))))))))))))))))
def S6 := And.intro @tryK_ex (And.intro @evp_n (And.intro @evp_c (And.intro @evs_n (And.intro @evs_c (And.intro @evOs_n (And.intro @evOs_c (And.intro @evTs_n (And.intro @evTs_c (And.intro @evI_seq (And.intro @evI_r1 (And.intro @evI_r2 (And.intro @evI_zip (And.intro @zipD_ll (And.intro @zipD_lt (And.intro @zipD_tl (And.intro @zipD_tt (@evI_enm)))))))))))))))))
def S7 := And.intro @opd_var (And.intro @opd_lit (And.intro @opd_glo (And.intro @opd_bin (And.intro @opd_neg (And.intro @opd_cmp (And.intro @opd_ife (And.intro @opd_tup (And.intro @opd_lst (And.intro @opd_idx (And.intro @opd_slL (And.intro @opd_slU (And.intro @opd_slB (And.intro @opd_rvs (And.intro @opd_comp (And.intro @opd_call (And.intro @opd_cio (@opd_cval)))))))))))))))))
def S8 := And.intro @opd_blt (And.intro @opd_isi (And.intro @opd_mth (And.intro @opd_mut (And.intro @opd_tryl (And.intro @opd_lenset (And.intro @opd_bnot (And.intro @opd_band (And.intro @opd_bor (And.intro @opd_chn (And.intro @b_add (And.intro @b_sub (And.intro @b_mul (And.intro @b_fdiv (And.intro @b_mod (And.intro @b_pow (And.intro @b_addL (@b_addT)))))))))))))))))
def S9 := And.intro @b_mulT (And.intro @b_mulL (And.intro @c_lt (And.intro @c_le (And.intro @c_gt (And.intro @c_ge (And.intro @isi_bl (And.intro @isk_bl_bool (And.intro @isk_bl_int (And.intro @isk_bl_str (And.intro @isk_bl_list (And.intro @isk_bl_tuple (And.intro @isi_int (And.intro @isk_int_bool (And.intro @isk_int_int (And.intro @isk_int_str (And.intro @isk_int_list (@isk_int_tuple)))))))))))))))))
def S10 := And.intro @isi_str (And.intro @isk_str_bool (And.intro @isk_str_int (And.intro @isk_str_str (And.intro @isk_str_list (And.intro @isk_str_tuple (And.intro @isi_tup (And.intro @isk_tup_bool (And.intro @isk_tup_int (And.intro @isk_tup_str (And.intro @isk_tup_list (And.intro @isk_tup_tuple (And.intro @isi_lst (And.intro @isk_lst_bool (And.intro @isk_lst_int (And.intro @isk_lst_str (And.intro @isk_lst_list (@isk_lst_tuple)))))))))))))))))
def S11 := And.intro @isi_non (And.intro @isk_non_bool (And.intro @isk_non_int (And.intro @isk_non_str (And.intro @isk_non_list (And.intro @isk_non_tuple (And.intro @any_n (And.intro @any_c (And.intro @or_tt (And.intro @or_ff (And.intro @or_t (And.intro @or_f (And.intro @and_tt (And.intro @and_ff (And.intro @and_t (And.intro @and_f (And.intro @not_t (@not_f)))))))))))))))))
def S12 := And.intro @notnot (And.intro @eqv_i (And.intro @okI (And.intro @okB (And.intro @okN (And.intro @c_eqI (And.intro @c_neI (And.intro @c_isN (And.intro @c_isnN (And.intro @isNon_n (And.intro @isNon_bl (And.intro @isNon_int (And.intro @isNon_str (And.intro @isNon_tup (And.intro @isNon_lst (And.intro @tr_b (And.intro @tr_i (@tr_l)))))))))))))))))
def S13 := And.intro @tr_t (And.intro @tr_n (And.intro @ix_l (And.intro @ix_t (And.intro @int_i (And.intro @sl_l (And.intro @sl_t (And.intro @rv_l (And.intro @rv_t (And.intro @wk_l (And.intro @wk_t (And.intro @it_l (And.intro @it_t (And.intro @len_l (And.intro @len_t (And.intro @tuple_l (And.intro @tuple_t (@list_l)))))))))))))))))
def S14 := And.intro @list_t (And.intro @min_i (And.intro @max_i (And.intro @min_l (And.intro @max_l (And.intro @int_ii (And.intro @int_bb (And.intro @all_l (And.intro @any_l (And.intro @sorted_l (And.intro @sset_l (And.intro @sset_t (And.intro @mM_n (And.intro @mM_c (And.intro @blq_b (And.intro @allq_n (And.intro @allq_c (@anyq_n)))))))))))))))))
def S15 := And.intro @anyq_c (And.intro @ex_asg (And.intro @ex_par (And.intro @ex_setI (And.intro @appD_l (And.intro @ex_app (And.intro @setD_l (And.intro @ex_exp (And.intro @ex_retN (And.intro @ex_retV (And.intro @ret_lit (And.intro @ret_bin (And.intro @ret_cmp (And.intro @ret_ife (And.intro @ret_tup (And.intro @ret_lst (And.intro @ret_idx (@ret_slL)))))))))))))))))
def S16 := And.intro @ret_slU (And.intro @ret_slB (And.intro @ret_rvs (And.intro @ret_comp (And.intro @ret_call (And.intro @ret_cio (And.intro @ret_blt (And.intro @ret_isi (And.intro @ret_mth (And.intro @ret_bnot (And.intro @ret_band (And.intro @ret_bor (And.intro @ret_chn (And.intro @ret_neg (And.intro @ex_ite (And.intro @ex_for (And.intro @ex_whl (@ex_rse)))))))))))))))))
def S17 := And.intro @rseK_s (And.intro @rseK_i (And.intro @exs_n (And.intro @exs_c (And.intro @forL_n (And.intro @take_z (And.intro @take_s (And.intro @drop_z (And.intro @drop_s (And.intro @app_n (And.intro @app_c (And.intro @szL_le (@szL_lt))))))))))))
end Cor

set_option Elab.async false
set_option linter.all false
set_option maxRecDepth 100000
set_option maxHeartbeats 1200000
/-! Dat: plain data. -/
namespace Cor
open PySem (Str)
/-- data without defs and dicts, lists and tuples of at most L items, n deep -/
def PlN (L : Nat) : Nat → D → Prop
  | _, .non => True
  | _, .bl _ => True
  | _, .int _ => True
  | _, .str x => (D.str x).ok = true
  | 0, .tup l => l = []
  | 0, .lst l => l = []
  | n + 1, .tup l => l.length ≤ L ∧ ∀ x ∈ l, PlN L n x
  | n + 1, .lst l => l.length ≤ L ∧ ∀ x ∈ l, PlN L n x
  | _, .dct _ => False
  | _, .fn _ => False
theorem PlN.mono {L M : Nat} (h : L ≤ M) : ∀ {n m : Nat} {d : D}, n ≤ m → PlN L n d → PlN M m d := by
  intro n
  induction n with
  | zero =>
    intro m d hm hd
    cases d with
    | non => unfold PlN; trivial
    | bl b => unfold PlN; trivial
    | int i => unfold PlN; trivial
    | str x => unfold PlN at hd ⊢; exact hd
    | tup l =>
      unfold PlN at hd
      subst hd
      cases m with
      | zero => unfold PlN; rfl
      | succ m => unfold PlN; exact ⟨Nat.zero_le _, fun x hx => by cases hx⟩
    | lst l =>
      unfold PlN at hd
      subst hd
      cases m with
      | zero => unfold PlN; rfl
      | succ m => unfold PlN; exact ⟨Nat.zero_le _, fun x hx => by cases hx⟩
    | dct l => unfold PlN at hd; exact hd.elim
    | fn i => unfold PlN at hd; exact hd.elim
  | succ n ih =>
    intro m d hm hd
    cases m with
    | zero => omega
    | succ m =>
      cases d with
      | non => unfold PlN; trivial
      | bl b => unfold PlN; trivial
      | int i => unfold PlN; trivial
      | str x => unfold PlN at hd ⊢; exact hd
      | tup l =>
        unfold PlN at hd ⊢
        exact ⟨by omega, fun x hx => ih (by omega) (hd.2 x hx)⟩
      | lst l =>
        unfold PlN at hd ⊢
        exact ⟨by omega, fun x hx => ih (by omega) (hd.2 x hx)⟩
      | dct l => unfold PlN at hd; exact hd.elim
      | fn i => unfold PlN at hd; exact hd.elim
def plnB (L : Nat) : Nat → D → Bool
  | _, .non => true
  | _, .bl _ => true
  | _, .int _ => true
  | _, .str x => (D.str x).ok
  | 0, .tup l => l.isEmpty
  | 0, .lst l => l.isEmpty
  | n + 1, .tup l => decide (l.length ≤ L) && l.all (plnB L n)
  | n + 1, .lst l => decide (l.length ≤ L) && l.all (plnB L n)
  | _, .dct _ => false
  | _, .fn _ => false
theorem plnB_ok {L : Nat} : ∀ {n : Nat} {d : D}, plnB L n d = true → PlN L n d := by
  intro n
  induction n with
  | zero =>
    intro d h
    cases d with
    | non => unfold PlN; trivial
    | bl b => unfold PlN; trivial
    | int i => unfold PlN; trivial
    | str x => unfold PlN; exact h
    | tup l => unfold PlN; exact List.isEmpty_iff.mp h
    | lst l => unfold PlN; exact List.isEmpty_iff.mp h
    | dct l => cases h
    | fn i => cases h
  | succ n ih =>
    intro d h
    cases d with
    | non => unfold PlN; trivial
    | bl b => unfold PlN; trivial
    | int i => unfold PlN; trivial
    | str x => unfold PlN; exact h
    | tup l =>
      have h : (decide (l.length ≤ L) && l.all (plnB L n)) = true := h
      rw [Bool.and_eq_true, decide_eq_true_eq, List.all_eq_true] at h
      unfold PlN
      exact ⟨h.1, fun x hx => ih (h.2 x hx)⟩
    | lst l =>
      have h : (decide (l.length ≤ L) && l.all (plnB L n)) = true := h
      rw [Bool.and_eq_true, decide_eq_true_eq, List.all_eq_true] at h
      unfold PlN
      exact ⟨h.1, fun x hx => ih (h.2 x hx)⟩
    | dct l => cases h
    | fn i => cases h
/-- a class of plain data at the top -/
def pl : D → Bool
  | .dct _ => false
  | .fn _ => false
  | _ => true
theorem PlN.pl {L n : Nat} {d : D} (h : PlN L n d) : pl d = true := by
  cases d with
  | dct l => cases n <;> (unfold PlN at h; exact h.elim)
  | fn i => cases n <;> (unfold PlN at h; exact h.elim)
  | _ => rfl
theorem PlN.tupI {L n : Nat} {l : List D} (h : PlN L n (.tup l)) : (l.length ≤ L ∧ ∀ x ∈ l, PlN L (n - 1) x) := by
  cases n with
  | zero => unfold PlN at h; subst h; exact ⟨Nat.zero_le _, fun x hx => by cases hx⟩
  | succ n => unfold PlN at h; exact h
theorem PlN.lstI {L n : Nat} {l : List D} (h : PlN L n (.lst l)) : (l.length ≤ L ∧ ∀ x ∈ l, PlN L (n - 1) x) := by
  cases n with
  | zero => unfold PlN at h; subst h; exact ⟨Nat.zero_le _, fun x hx => by cases hx⟩
  | succ n => unfold PlN at h; exact h
theorem PlN.tup {L n : Nat} {l : List D} (h : l.length ≤ L) (h2 : ∀ x ∈ l, PlN L n x) : PlN L (n + 1) (.tup l) := by unfold PlN; exact ⟨h, h2⟩
theorem PlN.lst {L n : Nat} {l : List D} (h : l.length ≤ L) (h2 : ∀ x ∈ l, PlN L n x) : PlN L (n + 1) (.lst l) := by unfold PlN; exact ⟨h, h2⟩
theorem PlN.int {L n : Nat} {i : Int} : PlN L n (.int i) := by cases n <;> (unfold PlN; trivial)
theorem PlN.bl {L n : Nat} {i : Bool} : PlN L n (.bl i) := by cases n <;> (unfold PlN; trivial)
theorem PlN.non {L n : Nat} : PlN L n .non := by cases n <;> (unfold PlN; trivial)
theorem PlN.str {L n : Nat} {x : Str} (h : (D.str x).ok = true) : PlN L n (.str x) := by cases n <;> (unfold PlN; exact h)
theorem PlN.strI {L n : Nat} {x : Str} (h : PlN L n (.str x)) : (D.str x).ok = true := by cases n <;> (unfold PlN at h; exact h)
/-! ### what may be compared -/
open PySem in
theorem canLay_pl {L : Nat} : ∀ {n : Nat} {d : D}, PlN L n d → d.toPy.canLay0 = true ∧ d.toPy.depth ≤ n + 1 := by
  intro n
  induction n with
  | zero =>
    intro d h
    cases d with
    | non => simp only [D.toPy]; exact ⟨rfl, by decide⟩
    | bl b => simp only [D.toPy]; exact ⟨rfl, Nat.zero_le _⟩
    | int i => simp only [D.toPy]; exact ⟨rfl, Nat.zero_le _⟩
    | str x =>
      have := h.strI
      unfold D.ok at this
      simp only [SeqAt.shaped, Bool.and_eq_true, decide_eq_true_eq, D.toPy] at this ⊢
      exact ⟨this.1, Nat.zero_le _⟩
    | tup l => unfold PlN at h; subst h; simp only [D.toPy, D.toPys]; exact ⟨rfl, by decide⟩
    | lst l => unfold PlN at h; subst h; simp only [D.toPy, D.toPys]; exact ⟨rfl, by decide⟩
    | dct l => unfold PlN at h; exact h.elim
    | fn i => unfold PlN at h; exact h.elim
  | succ n ih =>
    have al : ∀ {l : List D}, (∀ x ∈ l, PlN L n x) → PyData.canLayAll0 (D.toPys l) = true ∧ PyData.depthAll (D.toPys l) ≤ n + 1 := by
      intro l
      induction l with
      | nil => intro _; simp only [D.toPys]; exact ⟨rfl, Nat.zero_le _⟩
      | cons d r ihl =>
        intro h
        obtain ⟨h1, h2⟩ := ih (h d (List.mem_cons_self ..))
        obtain ⟨h3, h4⟩ := ihl fun x hx => h x (List.mem_cons_of_mem _ hx)
        simp only [D.toPys, PyData.canLayAll0, Bool.and_eq_true, PyData.depthAll]
        exact ⟨⟨h1, h3⟩, by omega⟩
    intro d h
    cases d with
    | non => simp only [D.toPy]; exact ⟨rfl, Nat.zero_le _⟩
    | bl b => simp only [D.toPy]; exact ⟨rfl, Nat.zero_le _⟩
    | int i => simp only [D.toPy]; exact ⟨rfl, Nat.zero_le _⟩
    | str x =>
      have := h.strI
      unfold D.ok at this
      simp only [SeqAt.shaped, Bool.and_eq_true, decide_eq_true_eq, D.toPy] at this ⊢
      exact ⟨this.1, Nat.zero_le _⟩
    | tup l =>
      unfold PlN at h
      obtain ⟨h1, h2⟩ := al h.2
      simp only [D.toPy, PyData.canLay0, PyData.depth]
      exact ⟨h1, by omega⟩
    | lst l =>
      unfold PlN at h
      obtain ⟨h1, h2⟩ := al h.2
      simp only [D.toPy, PyData.canLay0, PyData.depth]
      exact ⟨h1, by omega⟩
    | dct l => unfold PlN at h; exact h.elim
    | fn i => unfold PlN at h; exact h.elim
theorem ok_pl {L n : Nat} {d : D} (h : PlN L n d) (hn : n < 64) : d.ok = true := by
  obtain ⟨h1, h2⟩ := canLay_pl h
  unfold D.ok PySem.SeqAt.shaped
  rw [h1, decide_eq_true (show d.toPy.depth ≤ 64 by omega)]
  rfl
/-- plain data, by looking -/
def plB : Nat → D → Bool
  | _, .non => true
  | _, .bl _ => true
  | _, .int _ => true
  | _, .str x => (D.str x).ok
  | 0, .tup l => l.isEmpty
  | 0, .lst l => l.isEmpty
  | n + 1, .tup l => l.all (plB n)
  | n + 1, .lst l => l.all (plB n)
  | _, .dct _ => false
  | _, .fn _ => false
open PySem in
theorem canLay_plB : ∀ {n : Nat} {d : D}, plB n d = true → d.toPy.canLay0 = true ∧ d.toPy.depth ≤ n + 1 := by
  intro n
  induction n with
  | zero =>
    intro d h
    cases d with
    | non => simp only [D.toPy]; exact ⟨rfl, by decide⟩
    | bl b => simp only [D.toPy]; exact ⟨rfl, Nat.zero_le _⟩
    | int i => simp only [D.toPy]; exact ⟨rfl, Nat.zero_le _⟩
    | str x =>
      have : (D.str x).ok = true := h
      unfold D.ok at this
      simp only [SeqAt.shaped, Bool.and_eq_true, decide_eq_true_eq, D.toPy] at this ⊢
      exact ⟨this.1, Nat.zero_le _⟩
    | tup l => unfold plB at h; rw [List.isEmpty_iff] at h; subst h; simp only [D.toPy, D.toPys]; exact ⟨rfl, by decide⟩
    | lst l => unfold plB at h; rw [List.isEmpty_iff] at h; subst h; simp only [D.toPy, D.toPys]; exact ⟨rfl, by decide⟩
    | dct l => cases h
    | fn i => cases h
  | succ n ih =>
    have al : ∀ {l : List D}, l.all (plB n) = true → PyData.canLayAll0 (D.toPys l) = true ∧ PyData.depthAll (D.toPys l) ≤ n + 1 := by
      intro l
      induction l with
      | nil => intro _; simp only [D.toPys]; exact ⟨rfl, Nat.zero_le _⟩
      | cons d r ihl =>
        intro h
        rw [List.all_cons, Bool.and_eq_true] at h
        obtain ⟨h1, h2⟩ := ih h.1
        obtain ⟨h3, h4⟩ := ihl h.2
        simp only [D.toPys, PyData.canLayAll0, Bool.and_eq_true, PyData.depthAll]
        exact ⟨⟨h1, h3⟩, by omega⟩
    intro d h
    cases d with
    | non => simp only [D.toPy]; exact ⟨rfl, Nat.zero_le _⟩
    | bl b => simp only [D.toPy]; exact ⟨rfl, Nat.zero_le _⟩
    | int i => simp only [D.toPy]; exact ⟨rfl, Nat.zero_le _⟩
    | str x =>
      have : (D.str x).ok = true := h
      unfold D.ok at this
      simp only [SeqAt.shaped, Bool.and_eq_true, decide_eq_true_eq, D.toPy] at this ⊢
      exact ⟨this.1, Nat.zero_le _⟩
    | tup l =>
      obtain ⟨h1, h2⟩ := al (l := l) h
      simp only [D.toPy, PyData.canLay0, PyData.depth]
      exact ⟨h1, by omega⟩
    | lst l =>
      obtain ⟨h1, h2⟩ := al (l := l) h
      simp only [D.toPy, PyData.canLay0, PyData.depth]
      exact ⟨h1, by omega⟩
    | dct l => cases h
    | fn i => cases h
theorem ok_plB {d : D} (n : Nat) (h : plB n d = true) (hn : n < 64) : d.ok = true := by
  obtain ⟨h1, h2⟩ := canLay_plB h
  unfold D.ok PySem.SeqAt.shaped
  rw [h1, decide_eq_true (show d.toPy.depth ≤ 64 by omega)]
  rfl
theorem eqD_refl {d : D} (h : d.ok = true) : eqD d d = true := by
  unfold D.ok PySem.SeqAt.shaped at h
  rw [Bool.and_eq_true] at h
  exact PySem.SeqAt.eqv_refl _ h.1
def eqDs : List D → List D → Bool
  | [], [] => true
  | a :: r, b :: s => eqD a b && eqDs r s
  | _, _ => false
theorem eqvAll_D : ∀ (a b : List D), PySem.PyData.eqvAll (D.toPys a) (D.toPys b) = eqDs a b
  | [], [] => by simp only [D.toPys, PySem.PyData.eqvAll, eqDs]
  | [], b :: s => by simp only [D.toPys, PySem.PyData.eqvAll, eqDs]
  | a :: r, [] => by simp only [D.toPys, PySem.PyData.eqvAll, eqDs]
  | a :: r, b :: s => by simp only [D.toPys, PySem.PyData.eqvAll, eqDs, eqvAll_D r s]; rfl
theorem eqD_tt {a b : List D} : eqD (.tup a) (.tup b) = eqDs a b := by
  unfold eqD
  simp only [D.toPy, PySem.PyData.eqv]
  exact eqvAll_D a b
theorem eqD_ll {a b : List D} : eqD (.lst a) (.lst b) = eqDs a b := by
  unfold eqD
  simp only [D.toPy, PySem.PyData.eqv]
  exact eqvAll_D a b
theorem eqD_tl {a b : List D} : eqD (.tup a) (.lst b) = false := by unfold eqD; simp only [D.toPy, PySem.PyData.eqv]
theorem eqD_lt {a b : List D} : eqD (.lst a) (.tup b) = false := by unfold eqD; simp only [D.toPy, PySem.PyData.eqv]
theorem eqD_bb {a b : Bool} : eqD (.bl a) (.bl b) = (a == b) := by unfold eqD; simp only [D.toPy, PySem.PyData.eqv]
theorem eqD_ss {a b : Str} : eqD (.str a) (.str b) = (a == b) := by unfold eqD; simp only [D.toPy, PySem.PyData.eqv]
theorem eqD_nn : eqD .non .non = true := by unfold eqD; simp only [D.toPy, PySem.PyData.eqv]
theorem eqDs_n : eqDs [] [] = true := rfl
theorem eqDs_c {a b : D} {r s : List D} : eqDs (a :: r) (b :: s) = (eqD a b && eqDs r s) := rfl
theorem eqDs_nc {b : D} {s : List D} : eqDs [] (b :: s) = false := rfl
theorem eqDs_cn {b : D} {s : List D} : eqDs (b :: s) [] = false := rfl
theorem dctd_ok {l : List (D × D)} : (D.dct l).ok = false := by unfold D.ok; simp only [D.toPy]; rfl
theorem fnd_ok {i : Nat} : (D.fn i).ok = false := by unfold D.ok; simp only [D.toPy]; rfl
theorem c_eq {a b : D} (ha : a.ok = true) (hb : b.ok = true) : cmpD .eq a b = some (eqD a b) := by
  cases a with
  | dct l => rw [dctd_ok] at ha; cases ha
  | fn i => rw [fnd_ok] at ha; cases ha
  | _ =>
    show (if _ && _ then some (eqD _ _) else none) = _
    rw [ha, hb]
    rfl
theorem c_ne {a b : D} (ha : a.ok = true) (hb : b.ok = true) : cmpD .ne a b = some (!eqD a b) := by
  show (if _ && _ then some (!eqD _ _) else none) = _
  rw [ha, hb]
  rfl
theorem c_memT {a : D} {l : List D} (ha : a.ok = true) (hb : (D.tup l).ok = true) : cmpD .mem a (.tup l) = some (l.any fun z => eqD z a) := by
  show (if _ && _ then some _ else none) = _
  rw [ha, hb]
  rfl
theorem c_nmemT {a : D} {l : List D} (ha : a.ok = true) (hb : (D.tup l).ok = true) : cmpD .nmem a (.tup l) = some (!l.any fun z => eqD z a) := by
  show (if _ && _ then some _ else none) = _
  rw [ha, hb]
  rfl
theorem c_memL {a : D} {l : List D} (ha : a.ok = true) (hb : (D.lst l).ok = true) : cmpD .mem a (.lst l) = some (l.any fun z => eqD z a) := by
  show (if _ && _ then some _ else none) = _
  rw [ha, hb]
  rfl
theorem c_nmemL {a : D} {l : List D} (ha : a.ok = true) (hb : (D.lst l).ok = true) : cmpD .nmem a (.lst l) = some (!l.any fun z => eqD z a) := by
  show (if _ && _ then some _ else none) = _
  rw [ha, hb]
  rfl
/-! ### places in lists -/
theorem ixN_ok {n : Nat} {i : Int} (h0 : 0 ≤ i) (h1 : i < n) : ixN n i = some i.toNat := by
  unfold ixN L2.ixN
  rw [if_pos h0, if_pos h1]
theorem atI_ok {α : Type} {l : List α} {i : Int} (h0 : 0 ≤ i) (h1 : i < l.length) : atI l i = l[i.toNat]? := by
  show (ixN l.length i).bind (fun j => l[j]?) = _
  rw [ixN_ok h0 h1]
  rfl
theorem atI_get {α : Type} {l : List α} {i : Int} (h0 : 0 ≤ i) (h1 : i < l.length) : ∃ x, x ∈ l ∧ atI l i = some x ∧ l[i.toNat]? = some x := by
  rw [atI_ok h0 h1]
  have : i.toNat < l.length := by omega
  exact ⟨l[i.toNat], List.getElem_mem this, List.getElem?_eq_getElem this, List.getElem?_eq_getElem this⟩
theorem atI_0 {α : Type} {a : α} {l : List α} : atI (a :: l) 0 = some a := by
  rw [atI_ok (by omega) (by simp only [List.length_cons]; omega)]
  rfl
theorem atI_1 {α : Type} {a b : α} {l : List α} : atI (a :: b :: l) 1 = some b := by
  rw [atI_ok (by omega) (by simp only [List.length_cons]; omega)]
  rfl
theorem atI_2 {α : Type} {a b c : α} {l : List α} : atI (a :: b :: c :: l) 2 = some c := by
  rw [atI_ok (by omega) (by simp only [List.length_cons]; omega)]
  rfl
theorem len_c {α : Type} {a : α} {l : List α} : (a :: l).length = l.length + 1 := rfl
theorem len_n {α : Type} : ([] : List α).length = 0 := rfl
theorem drop_min {α : Type} (l : List α) (i : Nat) : l.drop (min i l.length) = l.drop i := by
  by_cases h : i ≤ l.length
  · rw [Nat.min_eq_left h]
  · rw [Nat.min_eq_right (by omega), List.drop_of_length_le (Nat.le_refl _), List.drop_of_length_le (by omega)]
theorem sIx_nn {n d i : Nat} : sIx n d (some (i : Int)) = min i n := by
  show (if (i : Int) < 0 then ((i : Int) + (n : Int)).toNat else min (i : Int).toNat n) = _
  rw [if_neg (by omega), Int.toNat_natCast]
theorem cut_lo {α : Type} (l : List α) (i : Nat) : cut l (some (i : Int)) none = l.drop i := by
  show (l.drop (sIx l.length 0 (some (i : Int)))).take (l.length - sIx l.length 0 (some (i : Int))) = _
  rw [sIx_nn, drop_min, List.take_of_length_le]
  rw [List.length_drop]
  omega
theorem cut_hi {α : Type} (l : List α) (i : Nat) : cut l none (some (i : Int)) = l.take i := by
  show (l.drop 0).take (sIx l.length l.length (some (i : Int)) - 0) = _
  rw [sIx_nn, List.drop_zero, Nat.sub_zero]
  by_cases h : i ≤ l.length
  · rw [Nat.min_eq_left h]
  · rw [Nat.min_eq_right (by omega), List.take_of_length_le (Nat.le_refl _), List.take_of_length_le (by omega)]
theorem cut_both {α : Type} (l : List α) (i j : Nat) : cut l (some (i : Int)) (some (j : Int)) = (l.drop i).take (j - i) := by
  show (l.drop (sIx l.length 0 (some (i : Int)))).take (sIx l.length l.length (some (j : Int)) - sIx l.length 0 (some (i : Int))) = _
  rw [sIx_nn, sIx_nn, drop_min]
  by_cases h : j ≤ l.length
  · rw [Nat.min_eq_left h]
    by_cases h2 : i ≤ l.length
    · rw [Nat.min_eq_left h2]
    · rw [List.drop_of_length_le (by omega)]; simp
  · rw [Nat.min_eq_right (by omega)]
    by_cases h2 : i ≤ l.length
    · rw [Nat.min_eq_left h2, List.take_of_length_le (by rw [List.length_drop]; omega), List.take_of_length_le (by rw [List.length_drop]; omega)]
    · rw [List.drop_of_length_le (by omega)]; simp
theorem cut1 {α : Type} {l : List α} : cut l (some 1) none = l.drop 1 := cut_lo l 1
theorem cut2 {α : Type} {l : List α} : cut l (some 2) none = l.drop 2 := cut_lo l 2
theorem cutU1 {α : Type} {l : List α} : cut l none (some 1) = l.take 1 := cut_hi l 1
theorem cutU10 {α : Type} {l : List α} : cut l none (some 10) = l.take 10 := cut_hi l 10
def SD0 := And.intro @eqD_tt (And.intro @eqD_ll (And.intro @eqD_tl (And.intro @eqD_lt (And.intro @eqD_bb (And.intro @eqD_ss (And.intro @eqD_nn (And.intro @eqDs_n (And.intro @eqDs_c (And.intro @eqDs_nc (And.intro @eqDs_cn (And.intro @atI_0 (And.intro @atI_1 (And.intro @atI_2 (And.intro @len_c (@len_n)))))))))))))))
def SD1 := And.intro @cut1 (And.intro @cut2 (And.intro @cutU1 (@cutU10)))
end Cor

set_option Elab.async false
set_option linter.all false
set_option maxRecDepth 100000
set_option maxHeartbeats 0
namespace Cor.L07
open PySem L2 Cor
def top (i : Nat) : Stmt := PySem.Challenge.pw_onlycoming_k07_whole_sides_and_tasks.main.body.getD i (.Pass ⟨0, 0, 0, 0⟩)
def t : Stc := ⟨[], [("is_within", 3, false), ("has_items", 3, false), ("is_habit_value", 1, false), ("is_side", 1, false), ("is_task", 3, false), ("need_all", 3, false), ("pair_at", 2, false), ("ends_of", 2, false), ("first_mistake", 3, false), ("came_to", 5, false), ("are_right", 3, false), ("mistake", 3, false), ("alike_runs", 3, false), ("_law_deck", 2, false), ("_law_pick", 2, true), ("_law_one", 2, true), ("_law_sort", 1, false), ("_law_same", 2, false), ("_law_a_habit", 1, true), ("_law_at_end", 3, true), ("_law_mistake", 4, true), ("_law_alike", 4, true), ("_law_a_task", 3, true), ("_law_good", 4, true), ("law", 1, false)], ["InvalidWeb", "InvalidLine", "InvalidNode", "InvalidWalk", "InvalidNumbers", "InvalidNumber", "InvalidHabit", "InvalidSide", "InvalidTask", "InvalidMachines", "InvalidFacts", "InvalidText", "Done", "NothingToUndo"], false⟩
def tl : Stc := { t with lam := true }
abbrev f_is_within : Nat := 0
abbrev f_has_items : Nat := 1
abbrev f_is_habit_value : Nat := 2
abbrev f_is_side : Nat := 3
abbrev f_is_task : Nat := 4
abbrev f_need_all : Nat := 5
abbrev f_pair_at : Nat := 6
abbrev f_ends_of : Nat := 7
abbrev f_first_mistake : Nat := 8
abbrev f_came_to : Nat := 9
abbrev f_are_right : Nat := 10
abbrev f_mistake : Nat := 11
abbrev f_alike_runs : Nat := 12
abbrev f__law_deck : Nat := 13
abbrev f__law_pick : Nat := 14
abbrev f__law_one : Nat := 15
abbrev f__law_sort : Nat := 16
abbrev f__law_same : Nat := 17
abbrev f__law_a_habit : Nat := 18
abbrev f__law_at_end : Nat := 19
abbrev f__law_mistake : Nat := 20
abbrev f__law_alike : Nat := 21
abbrev f__law_a_task : Nat := 22
abbrev f__law_good : Nat := 23
abbrev f_law : Nat := 24
def N_is_within : List Str := ["value", "low", "high"]
def c_is_within : FD := ⟨3, 3, false,
  [.ret (.band (.isi (.var 0) [.int]) (.band (.bnot (.isi (.var 0) [.bool])) (.chn .le .le (.var 1) (.var 0) (.var 2))))]⟩
def N_has_items : List Str := ["value", "low", "high"]
def c_has_items : FD := ⟨3, 3, false,
  [.ret (.band (.isi (.var 0) [.tuple]) (.chn .le .le (.var 1) (.blt .len [.var 0]) (.var 2)))]⟩
def N_is_habit_value : List Str := ["value", "pair", "sent", "answer", "more", "later"]
def c_is_habit_value : FD := ⟨1, 6, false,
  [.ite (.bnot (.call f_has_items [.var 0, .lit (.int 1), .lit (.int 12)])) [.ret (.lit (.bl false))] [], .for_ (.name 1) (.seq (.var 0)) [.ite (.bor (.bnot (.call f_has_items [.var 1, .lit (.int 2), .lit (.int 2)])) (.bor (.bnot (.call f_is_within [.idx (.var 1) (.lit (.int 0)), .lit (.int 0), .lit (.int 12)])) (.bnot (.call f_is_within [.idx (.var 1) (.lit (.int 1)), .neg (.lit (.int 1)), .lit (.int 9)])))) [.ret (.lit (.bl false))] []], .for_ (.tup [.tup [.name 2, .name 3], .tup [.name 4, .name 5]]) (.zip (.var 0) (.slL (.var 0) (.lit (.int 1)))) [.ite (.bor (.cmp .lt (.var 4) (.var 2)) (.band (.cmp .ne (.var 3) (.neg (.lit (.int 1)))) (.cmp .ne (.var 5) (.var 3)))) [.ret (.lit (.bl false))] []], .ret (.lit (.bl true))]⟩
def N_is_side : List Str := ["value", "habit"]
def c_is_side : FD := ⟨1, 2, false,
  [.ret (.band (.call f_has_items [.var 0, .lit (.int 1), .lit (.int 4)]) (.blt .all [.comp (.call f_is_habit_value [.var 1]) (.name 1) (.seq (.var 0)) [] [1]]))]⟩
def N_is_task : List Str := ["side", "against", "value", "row", "due"]
def c_is_task : FD := ⟨3, 5, false,
  [.ite (.bnot (.call f_has_items [.var 2, .blt .len [.var 0], .blt .len [.var 0]])) [.ret (.lit (.bl false))] [], .for_ (.name 3) (.seq (.var 2)) [.ite (.bor (.bnot (.call f_has_items [.var 3, .blt .len [.var 1], .blt .len [.var 1]])) (.bnot (.blt .all [.comp (.call f_is_within [.var 4, .lit (.int 0), .lit (.int 9)]) (.name 4) (.seq (.var 3)) [] [4]]))) [.ret (.lit (.bl false))] []], .ret (.lit (.bl true))]⟩
def N_need_all : List Str := ["side", "against", "task"]
def c_need_all : FD := ⟨3, 3, false,
  [.ite (.bor (.bnot (.call f_is_side [.var 0])) (.bnot (.call f_is_side [.var 1]))) [.rse "InvalidSide" [.lit (.str "not a side")]] [], .ite (.bnot (.call f_is_task [.var 0, .var 1, .var 2])) [.rse "InvalidTask" [.lit (.str "not such a task")]] []]⟩
def N_pair_at : List Str := ["habit", "came"]
def c_pair_at : FD := ⟨2, 2, false,
  [.ret (.idx (.var 0) (.blt .min [.var 1, .bin .sub (.blt .len [.var 0]) (.lit (.int 1))]))]⟩
def N_ends_of : List Str := ["one", "other", "mine", "yours"]
def c_ends_of : FD := ⟨2, 4, false,
  [.asg (.tup [.name 2, .name 3]) (.tup [.lit (.int 0), .lit (.int 0)]), .whl (.cmp .ne (.tup [.var 2, .var 3]) (.tup [.idx (.call f_pair_at [.var 1, .var 3]) (.lit (.int 0)), .idx (.call f_pair_at [.var 0, .var 2]) (.lit (.int 0))])) [.par [2, 3] [.idx (.call f_pair_at [.var 1, .var 3]) (.lit (.int 0)), .idx (.call f_pair_at [.var 0, .var 2]) (.lit (.int 0))]], .ret (.tup [.var 2, .var 3, .idx (.call f_pair_at [.var 0, .var 2]) (.lit (.int 1)), .idx (.call f_pair_at [.var 1, .var 3]) (.lit (.int 1))])]⟩
def N_first_mistake : List Str := ["side", "against", "task", "index", "habit", "place", "other", "answers", "end"]
def c_first_mistake : FD := ⟨3, 9, false,
  [.for_ (.tup [.name 3, .name 4]) (.enm (.var 0)) [.for_ (.tup [.name 5, .name 6]) (.enm (.var 1)) [.asg (.name 7) (.slL (.call f_ends_of [.var 4, .var 6]) (.lit (.int 2))), .for_ (.name 8) (.seq (.tup [.lit (.int 0), .lit (.int 1)])) [.ite (.cmp .ne (.idx (.var 7) (.var 8)) (.idx (.idx (.var 2) (.var 3)) (.var 5))) [.ret (.tup [.var 3, .var 5, .var 8])] []]]], .ret (.lit .non)]⟩
def N_came_to : List Str := ["side", "against", "end", "own", "far"]
def c_came_to : FD := ⟨5, 5, false,
  [.ret (.ife (.cmp .eq (.var 2) (.lit (.int 0))) (.idx (.call f_ends_of [.idx (.var 0) (.var 3), .idx (.var 1) (.var 4)]) (.lit (.int 0))) (.idx (.call f_ends_of [.idx (.var 0) (.var 4), .idx (.var 1) (.var 3)]) (.lit (.int 1))))]⟩
def N_are_right : List Str := ["side", "against", "task"]
def c_are_right : FD := ⟨3, 3, false,
  [.exp (.call f_need_all [.var 0, .var 1, .var 2]), .ret (.cmp .is (.call f_first_mistake [.var 0, .var 1, .var 2]) (.lit .non))]⟩
def N_mistake : List Str := ["side", "against", "task"]
def c_mistake : FD := ⟨3, 3, false,
  [.exp (.call f_need_all [.var 0, .var 1, .var 2]), .ret (.call f_first_mistake [.var 0, .var 1, .var 2])]⟩
def N_alike_runs : List Str := ["side", "against", "task", "end", "dues", "own", "row", "first", "due", "second", "place", "some", "far"]
def c_alike_runs : FD := ⟨3, 13, false,
  [.exp (.call f_need_all [.var 0, .var 1, .var 2]), .for_ (.name 3) (.seq (.tup [.lit (.int 0), .lit (.int 1)])) [.asg (.name 4) (.ife (.cmp .eq (.var 3) (.lit (.int 0))) (.var 2) (.comp (.comp (.idx (.var 6) (.var 10)) (.name 6) (.seq (.var 2)) [] [6]) (.name 10) (.rng1 (.blt .len [.var 1])) [] [10])), .for_ (.tup [.name 5, .name 6]) (.enm (.var 4)) [.for_ (.tup [.name 7, .name 8]) (.enm (.var 6)) [.for_ (.name 9) (.rng2 (.bin .add (.var 7) (.lit (.int 1))) (.blt .len [.var 6])) [.ite (.cmp .ne (.var 8) (.idx (.var 6) (.var 9))) [.asg (.name 11) (.comp (.call f_came_to [.var 0, .var 1, .var 3, .var 5, .var 12]) (.name 12) (.seq (.tup [.var 7, .var 9])) [] [12]), .ret (.tup [.var 3, .var 5, .var 7, .var 9, .blt .min [.var 11]])] []]]]], .ret (.lit .non)]⟩
def N__law_deck : List Str := ["_law_cell", "_law_turn"]
def c__law_deck : FD := ⟨2, 2, false,
  [.ite (.cmp .ge (.var 0) (.bin .pow (.lit (.int 10)) (.lit (.int 18)))) [.ret (.lst [.bin .sub (.var 0) (.bin .pow (.lit (.int 10)) (.lit (.int 18))), .bin .mod (.var 0) (.lit (.int 2147483579)), .var 1])] [], .ret (.lst [.lit (.int 0), .bin .mod (.var 0) (.lit (.int 2147483579)), .var 1])]⟩
def N__law_pick : List Str := ["_law_deck_here", "_law_size", "_law_number", "_law_found"]
def c__law_pick : FD := ⟨2, 4, true,
  [.ite (.cmp .gt (.idx (.var 0) (.lit (.int 0))) (.lit (.int 1))) [.asg (.name 3) (.bin .mod (.blt .int [.idx (.var 0) (.lit (.int 0))]) (.var 1)), .setI 0 (.lit (.int 0)) (.bin .fdiv (.idx (.var 0) (.lit (.int 0))) (.var 1)), .ret (.var 3)] [], .setI 0 (.lit (.int 2)) (.bin .add (.idx (.var 0) (.lit (.int 2))) (.lit (.int 1))), .asg (.name 2) (.bin .mod (.bin .pow (.bin .add (.idx (.var 0) (.lit (.int 1))) (.bin .mul (.lit (.int 15485867)) (.idx (.var 0) (.lit (.int 2))))) (.lit (.int 5))) (.lit (.int 2147483647))), .asg (.name 3) (.bin .fdiv (.bin .mod (.bin .pow (.bin .add (.var 2) (.bin .mul (.lit (.int 7919)) (.idx (.var 0) (.lit (.int 2))))) (.lit (.int 3))) (.lit (.int 2147483629))) (.lit (.int 32))), .ret (.bin .mod (.blt .int [.var 3]) (.var 1))]⟩
def N__law_one : List Str := ["_law_deck_here", "_law_some"]
def c__law_one : FD := ⟨2, 2, true,
  [.ret (.idx (.var 1) (.cio f__law_pick 0 [.blt .len [.var 1]]))]⟩
def N__law_sort : List Str := ["_law_thing"]
def c__law_sort : FD := ⟨1, 1, false,
  [.ite (.isi (.var 0) [.bool]) [.ret (.lit (.int 1))] [], .ite (.isi (.var 0) [.int]) [.ret (.lit (.int 2))] [], .ite (.isi (.var 0) [.str]) [.ret (.lit (.int 3))] [], .ite (.isi (.var 0) [.list]) [.ret (.lit (.int 4))] [], .ret (.ife (.isi (.var 0) [.tuple]) (.lit (.int 5)) (.lit (.int 6)))]⟩
def N__law_same : List Str := ["_law_told", "_law_due", "_law_k", "_law_part"]
def c__law_same : FD := ⟨2, 4, false,
  [.ite (.cmp .ne (.call f__law_sort [.var 0]) (.call f__law_sort [.var 1])) [.ret (.lit (.bl false))] [], .ite (.band (.cmp .gt (.call f__law_sort [.var 0]) (.lit (.int 3))) (.cmp .lt (.call f__law_sort [.var 0]) (.lit (.int 6)))) [.ite (.cmp .ne (.blt .len [.var 0]) (.blt .len [.var 1])) [.ret (.lit (.bl false))] [], .ret (.cmp .eq (.comp (.var 2) (.tup [.name 2, .name 3]) (.enm (.var 0)) [.bnot (.call f__law_same [.var 3, .idx (.var 1) (.var 2)])] [2, 3]) (.lst []))] [], .ret (.cmp .eq (.var 0) (.var 1))]⟩
def N__law_a_habit : List Str := ["_law_deck_here", "_law_turn", "_law_found", "_law_sent_so", "_law_answer_so"]
def c__law_a_habit : FD := ⟨1, 5, true,
  [.par [2, 3, 4] [.lst [], .lit (.int 0), .neg (.lit (.int 1))], .for_ (.name 1) (.rng1 (.bin .add (.lit (.int 1)) (.cio f__law_pick 0 [.lit (.int 5)]))) [.asg (.name 3) (.blt .min [.lit (.int 12), .bin .add (.var 3) (.cio f__law_one 0 [.lst [.lit (.int 0), .lit (.int 0), .lit (.int 1), .lit (.int 1), .lit (.int 2), .lit (.int 4)]])]), .ite (.band (.cmp .lt (.var 4) (.lit (.int 0))) (.cmp .eq (.cio f__law_pick 0 [.lit (.int 3)]) (.lit (.int 0)))) [.asg (.name 4) (.cio f__law_pick 0 [.lit (.int 3)])] [], .app 2 (.tup [.var 3, .var 4])], .ret (.blt .tuple [.var 2])]⟩
def N__law_at_end : List Str := ["_law_deck_here", "_law_one_here", "_law_other", "_law_came_so", "_law_both_so", "_law_some", "_law_end", "_law_far", "_law_rows"]
def c__law_at_end : FD := ⟨3, 9, true,
  [.asg (.name 3) (.lst [.lit (.int 0), .lit (.int 0)]), .asg (.name 4) (.lst [.var 1, .var 2]), .whl (.lit (.bl true)) [.asg (.name 5) (.lst []), .for_ (.name 6) (.seq (.tup [.lit (.int 0), .lit (.int 1)])) [.asg (.name 7) (.idx (.idx (.var 4) (.bin .sub (.lit (.int 1)) (.var 6))) (.blt .min [.idx (.var 3) (.bin .sub (.lit (.int 1)) (.var 6)), .bin .sub (.blt .len [.idx (.var 4) (.bin .sub (.lit (.int 1)) (.var 6))]) (.lit (.int 1))])), .ite (.cmp .gt (.idx (.var 7) (.lit (.int 0))) (.idx (.var 3) (.var 6))) [.app 5 (.var 6)] []], .ite (.cmp .eq (.var 5) (.lst [])) [.asg (.name 8) (.comp (.idx (.idx (.var 4) (.var 6)) (.blt .min [.idx (.var 3) (.var 6), .bin .sub (.blt .len [.idx (.var 4) (.var 6)]) (.lit (.int 1))])) (.name 6) (.seq (.tup [.lit (.int 0), .lit (.int 1)])) [] [6]), .ret (.tup [.idx (.var 3) (.lit (.int 0)), .idx (.var 3) (.lit (.int 1)), .idx (.idx (.var 8) (.lit (.int 0))) (.lit (.int 1)), .idx (.idx (.var 8) (.lit (.int 1))) (.lit (.int 1))])] [], .asg (.name 6) (.cio f__law_one 0 [.var 5]), .setI 3 (.var 6) (.bin .add (.idx (.var 3) (.var 6)) (.lit (.int 1)))]]⟩
def N__law_mistake : List Str := ["_law_deck_here", "_law_side", "_law_against", "_law_task_so", "_law_own", "_law_far", "_law_told", "_law_end"]
def c__law_mistake : FD := ⟨4, 8, true,
  [.for_ (.name 4) (.rng1 (.blt .len [.var 1])) [.for_ (.name 5) (.rng1 (.blt .len [.var 2])) [.asg (.name 6) (.slL (.cio f__law_at_end 0 [.idx (.var 1) (.var 4), .idx (.var 2) (.var 5)]) (.lit (.int 2))), .for_ (.name 7) (.seq (.tup [.lit (.int 0), .lit (.int 1)])) [.ite (.cmp .ne (.idx (.var 6) (.var 7)) (.idx (.idx (.var 3) (.var 4)) (.var 5))) [.ret (.tup [.var 4, .var 5, .var 7])] []]]], .ret (.lit .non)]⟩
def N__law_alike : List Str := ["_law_deck_here", "_law_side", "_law_against", "_law_task_so", "_law_own", "_law_first", "_law_second", "_law_some", "_law_far"]
def c__law_alike : FD := ⟨4, 9, true,
  [.for_ (.name 4) (.rng1 (.blt .len [.var 1])) [.for_ (.name 5) (.rng1 (.blt .len [.var 2])) [.for_ (.name 6) (.rng2 (.bin .add (.var 5) (.lit (.int 1))) (.blt .len [.var 2])) [.ite (.cmp .ne (.idx (.idx (.var 3) (.var 4)) (.var 5)) (.idx (.idx (.var 3) (.var 4)) (.var 6))) [.asg (.name 7) (.comp (.idx (.cio f__law_at_end 0 [.idx (.var 1) (.var 4), .idx (.var 2) (.var 8)]) (.lit (.int 0))) (.name 8) (.seq (.tup [.var 5, .var 6])) [] [8]), .ret (.tup [.lit (.int 0), .var 4, .var 5, .var 6, .blt .min [.var 7]])] []]]], .for_ (.name 4) (.rng1 (.blt .len [.var 2])) [.for_ (.name 5) (.rng1 (.blt .len [.var 1])) [.for_ (.name 6) (.rng2 (.bin .add (.var 5) (.lit (.int 1))) (.blt .len [.var 1])) [.ite (.cmp .ne (.idx (.idx (.var 3) (.var 5)) (.var 4)) (.idx (.idx (.var 3) (.var 6)) (.var 4))) [.asg (.name 7) (.comp (.idx (.cio f__law_at_end 0 [.idx (.var 1) (.var 8), .idx (.var 2) (.var 4)]) (.lit (.int 1))) (.name 8) (.seq (.tup [.var 5, .var 6])) [] [8]), .ret (.tup [.lit (.int 1), .var 4, .var 5, .var 6, .blt .min [.var 7]])] []]]], .ret (.lit .non)]⟩
def N__law_a_task : List Str := ["_law_deck_here", "_law_side", "_law_against", "_law_habit", "_law_one_here", "_law_way", "_law_rows", "_law_row", "_law_far"]
def c__law_a_task : FD := ⟨3, 9, true,
  [.par [4, 5, 6] [.cio f__law_pick 0 [.lit (.int 3)], .cio f__law_pick 0 [.lit (.int 3)], .lst []], .for_ (.name 3) (.seq (.var 1)) [.asg (.name 7) (.comp (.ife (.cmp .eq (.var 5) (.lit (.int 0))) (.cio f__law_pick 0 [.lit (.int 3)]) (.var 4)) (.name 8) (.seq (.var 2)) [] [8]), .ite (.cmp .eq (.var 5) (.lit (.int 2))) [.asg (.name 7) (.comp (.blt .max [.lit (.int 0), .idx (.cio f__law_at_end 0 [.var 3, .var 8]) (.lit (.int 2))]) (.name 8) (.seq (.var 2)) [] [8])] [], .app 6 (.blt .tuple [.var 7])], .ret (.blt .tuple [.var 6])]⟩
def N__law_good : List Str := ["_law_deck_here", "_law_side", "_law_against", "_law_task_so", "_law_told", "_law_every", "_law_row", "_law_due", "_law_runs_so"]
def c__law_good : FD := ⟨4, 9, true,
  [.par [7, 8] [.cio f__law_mistake 0 [.var 1, .var 2, .var 3], .cio f__law_alike 0 [.var 1, .var 2, .var 3]], .asg (.name 4) (.lst [.call f_mistake [.var 1, .var 2, .var 3], .call f_are_right [.var 1, .var 2, .var 3]]), .ite (.bnot (.call f__law_same [.var 4, .lst [.var 7, .cmp .is (.var 7) (.lit .non)]])) [.ret (.lit (.bl false))] [], .ite (.bnot (.call f__law_same [.call f_alike_runs [.var 1, .var 2, .var 3], .var 8])) [.ret (.lit (.bl false))] [], .asg (.name 5) (.lst []), .for_ (.name 6) (.seq (.var 3)) [.asg (.name 5) (.bin .add (.var 5) (.blt .list [.var 6]))], .ret (.bor (.cmp .lt (.lenset (.var 5)) (.lit (.int 2))) (.band (.cmp .isn (.var 7) (.lit .non)) (.cmp .isn (.var 8) (.lit .non))))]⟩
def N_law : List Str := ["_law_script", "_law_cell", "_law_both_so", "_law_deck_here", "_law_turn", "_law_call_so", "_law_f", "_law_g", "_law_e", "_law_side", "_law_against", "_law_task_so", "_law_odd", "_law_wide_so", "_law_own", "_law_far", "_law_row"]
def c_law : FD := ⟨1, 17, false,
  [.for_ (.name 1) (.seq (.slU (.bin .add (.lst [.lit (.int 0)]) (.var 0)) (.lit (.int 10)))) [.asg (.name 3) (.call f__law_deck [.var 1, .lit (.int 7)]), .for_ (.name 4) (.rng1 (.lit (.int 6))) [.asg (.name 9) (.blt .tuple [.comp (.cio f__law_a_habit 3 []) (.name 14) (.rng1 (.bin .add (.lit (.int 1)) (.cio f__law_pick 3 [.lit (.int 4)]))) [] [14]]), .asg (.name 10) (.blt .tuple [.comp (.cio f__law_a_habit 3 []) (.name 15) (.rng1 (.bin .add (.lit (.int 1)) (.cio f__law_pick 3 [.lit (.int 4)]))) [] [15]]), .asg (.name 11) (.cio f__law_a_task 3 [.var 9, .var 10]), .ite (.bnot (.cio f__law_good 3 [.var 9, .var 10, .var 11])) [.ret (.lit (.bl false))] []], .for_ (.name 5) (.seq (.tup [.glo "are_right" (.fn f_are_right), .glo "mistake" (.fn f_mistake), .glo "alike_runs" (.fn f_alike_runs)])) [.for_ (.name 12) (.seq (.lst [.lit .non, .tup [], .idx (.var 9) (.lit (.int 0)), .blt .list [.var 9], .bin .mul (.var 9) (.lit (.int 5)), .tup [.tup []]])) [.ite (.cmp .ne (.tryl (.cval 5 [.var 12, .lit .non, .lit .non])) (.lit (.str "side +"))) [.ret (.lit (.bl false))] [], .ite (.cmp .ne (.tryl (.cval 5 [.var 9, .var 12, .lit .non])) (.lit (.str "side +"))) [.ret (.lit (.bl false))] []], .asg (.name 13) (.blt .tuple [.comp (.bin .add (.var 16) (.tup [.lit (.int 0)])) (.name 16) (.seq (.var 11)) [] [16]]), .for_ (.name 12) (.seq (.lst [.lit .non, .tup [], .bin .add (.var 11) (.tup [.tup [.lit (.int 0)]]), .blt .list [.var 11], .var 13, .tup [.tup [.lit (.int 10)]]])) [.ite (.cmp .ne (.tryl (.cval 5 [.var 9, .var 10, .var 12])) (.lit (.str "task +"))) [.ret (.lit (.bl false))] []]]], .asg (.tup [.name 6, .name 7, .name 8]) (.tup [.tup [.tup [.lit (.int 0), .neg (.lit (.int 1))], .tup [.lit (.int 0), .lit (.int 0)]], .tup [.tup [.lit (.int 1), .lit (.int 1)]], .tup [.tup [.lit (.int 1), .neg (.lit (.int 1))], .tup [.lit (.int 2), .neg (.lit (.int 1))], .tup [.lit (.int 3), .lit (.int 3)]]]), .asg (.name 2) (.tup [.tup [.lit (.int 0), .lit (.int 0)], .tup [.lit (.int 0), .lit (.int 1)]]), .ite (.bor (.call f_are_right [.tup [.var 7, .var 8], .tup [.var 6, .var 7], .var 2]) (.cmp .ne (.call f_mistake [.tup [.var 7, .var 8], .tup [.var 6, .var 7], .tup [.tup [.lit (.int 1), .lit (.int 1)], .tup [.lit (.int 1), .lit (.int 1)]]]) (.tup [.lit (.int 0), .lit (.int 0), .lit (.int 1)]))) [.ret (.lit (.bl false))] [], .ite (.bor (.cmp .isn (.call f_mistake [.tup [.var 7], .tup [.var 7], .tup [.tup [.lit (.int 1)]]]) (.lit .non)) (.bnot (.call f_are_right [.tup [.var 7], .tup [.var 7], .tup [.tup [.lit (.int 1)]]]))) [.ret (.lit (.bl false))] [], .ite (.cmp .ne (.call f_alike_runs [.tup [.var 7, .var 8], .tup [.var 6, .var 7], .var 2]) (.tup [.lit (.int 0), .lit (.int 1), .lit (.int 0), .lit (.int 1), .lit (.int 0)])) [.ret (.lit (.bl false))] [], .ite (.cmp .isn (.call f_alike_runs [.tup [.var 7, .var 8], .tup [.var 6, .var 7], .tup [.tup [.lit (.int 1), .lit (.int 1)], .tup [.lit (.int 1), .lit (.int 1)]]]) (.lit .non)) [.ret (.lit (.bl false))] [], .ite (.cmp .ne (.call f_alike_runs [.tup [.var 7, .var 6], .tup [.var 7], .tup [.tup [.lit (.int 0)], .tup [.lit (.int 1)]]]) (.tup [.lit (.int 1), .lit (.int 0), .lit (.int 0), .lit (.int 1), .lit (.int 0)])) [.ret (.lit (.bl false))] [], .ite (.cmp .ne (.call f_mistake [.tup [.var 7], .tup [.var 7], .tup [.tup [.lit (.int 2)]]]) (.tup [.lit (.int 0), .lit (.int 0), .lit (.int 0)])) [.ret (.lit (.bl false))] [], .ite (.cmp .ne (.call f_alike_runs [.tup [.var 6], .tup [.var 7, .var 8], .tup [.tup [.lit (.int 3), .lit (.int 4)]]]) (.tup [.lit (.int 0), .lit (.int 0), .lit (.int 0), .lit (.int 1), .lit (.int 1)])) [.ret (.lit (.bl false))] [], .ret (.call f_are_right [.tup [.var 7, .var 7], .tup [.var 7, .var 7, .var 7], .tup [.tup [.lit (.int 1), .lit (.int 1), .lit (.int 1)], .tup [.lit (.int 1), .lit (.int 1), .lit (.int 1)]]])]⟩
def T : List FD := [c_is_within, c_has_items, c_is_habit_value, c_is_side, c_is_task, c_need_all, c_pair_at, c_ends_of, c_first_mistake, c_came_to, c_are_right, c_mistake, c_alike_runs, c__law_deck, c__law_pick, c__law_one, c__law_sort, c__law_same, c__law_a_habit, c__law_at_end, c__law_mistake, c__law_alike, c__law_a_task, c__law_good, c_law]
section
theorem k_is_within : cSs 60 (ckOf t N_is_within (defScope (top 18))) (defBody (top 18)) = some c_is_within.body := by kernel_rfl
theorem k_has_items : cSs 60 (ckOf t N_has_items (defScope (top 19))) (defBody (top 19)) = some c_has_items.body := by kernel_rfl
theorem k_is_habit_value : cSs 60 (ckOf t N_is_habit_value (defScope (top 21))) (defBody (top 21)) = some c_is_habit_value.body := by kernel_rfl
theorem k_is_side : cSs 60 (ckOf t N_is_side (defScope (top 22))) (defBody (top 22)) = some c_is_side.body := by kernel_rfl
theorem k_is_task : cSs 60 (ckOf t N_is_task (defScope (top 23))) (defBody (top 23)) = some c_is_task.body := by kernel_rfl
theorem k_need_all : cSs 60 (ckOf t N_need_all (defScope (top 24))) (defBody (top 24)) = some c_need_all.body := by kernel_rfl
theorem k_pair_at : cSs 60 (ckOf t N_pair_at (defScope (top 25))) (defBody (top 25)) = some c_pair_at.body := by kernel_rfl
theorem k_ends_of : cSs 60 (ckOf t N_ends_of (defScope (top 26))) (defBody (top 26)) = some c_ends_of.body := by kernel_rfl
theorem k_first_mistake : cSs 60 (ckOf t N_first_mistake (defScope (top 27))) (defBody (top 27)) = some c_first_mistake.body := by kernel_rfl
theorem k_came_to : cSs 60 (ckOf t N_came_to (defScope (top 28))) (defBody (top 28)) = some c_came_to.body := by kernel_rfl
theorem k_are_right : cSs 60 (ckOf t N_are_right (defScope (top 29))) (defBody (top 29)) = some c_are_right.body := by kernel_rfl
theorem k_mistake : cSs 60 (ckOf t N_mistake (defScope (top 30))) (defBody (top 30)) = some c_mistake.body := by kernel_rfl
theorem k_alike_runs : cSs 60 (ckOf t N_alike_runs (defScope (top 31))) (defBody (top 31)) = some c_alike_runs.body := by kernel_rfl
theorem k__law_deck : cSs 60 (ckOf t N__law_deck (defScope (top 33))) (defBody (top 33)) = some c__law_deck.body := by kernel_rfl
theorem k__law_pick : cSs 60 (ckOf t N__law_pick (defScope (top 34))) (defBody (top 34)) = some c__law_pick.body := by kernel_rfl
theorem k__law_one : cSs 60 (ckOf t N__law_one (defScope (top 35))) (defBody (top 35)) = some c__law_one.body := by kernel_rfl
theorem k__law_sort : cSs 60 (ckOf t N__law_sort (defScope (top 36))) (defBody (top 36)) = some c__law_sort.body := by kernel_rfl
theorem k__law_same : cSs 60 (ckOf t N__law_same (defScope (top 37))) (defBody (top 37)) = some c__law_same.body := by kernel_rfl
theorem k__law_a_habit : cSs 60 (ckOf t N__law_a_habit (defScope (top 40))) (defBody (top 40)) = some c__law_a_habit.body := by kernel_rfl
theorem k__law_at_end : cSs 60 (ckOf t N__law_at_end (defScope (top 41))) (defBody (top 41)) = some c__law_at_end.body := by kernel_rfl
theorem k__law_mistake : cSs 60 (ckOf t N__law_mistake (defScope (top 42))) (defBody (top 42)) = some c__law_mistake.body := by kernel_rfl
theorem k__law_alike : cSs 60 (ckOf t N__law_alike (defScope (top 43))) (defBody (top 43)) = some c__law_alike.body := by kernel_rfl
theorem k__law_a_task : cSs 60 (ckOf t N__law_a_task (defScope (top 44))) (defBody (top 44)) = some c__law_a_task.body := by kernel_rfl
theorem k__law_good : cSs 60 (ckOf t N__law_good (defScope (top 45))) (defBody (top 45)) = some c__law_good.body := by kernel_rfl
theorem k_law : cSs 60 (ckOf tl N_law (defScope (top 46))) (defBody (top 46)) = some c_law.body := by kernel_rfl
end
end Cor.L07

set_option Elab.async false
set_option linter.all false
set_option maxRecDepth 100000
set_option maxHeartbeats 1200000
/-! C: what the law's own helpers do. -/
namespace Cor.L07
open Cor
open PySem (Str)
abbrev EV (k : Nat) : CF := evC T 1000000 k
/-! ### the deck -/
def DeckOk (m : Nat) (d : D) : Prop := ∃ a b c : Int, d = .lst [.int a, .int b, .int c] ∧ 0 ≤ b ∧ b < 2147483579 ∧ 0 ≤ c ∧ c ≤ m
theorem DeckOk.mono {m n : Nat} {d : D} (h : DeckOk m d) (l : m ≤ n) : DeckOk n d := by
  obtain ⟨a, b, c, e, h1, h2, h3, h4⟩ := h
  exact ⟨a, b, c, e, h1, h2, h3, by omega⟩
theorem deck_ok {k : Nat} {c : Int} {t : Nat} : ∃ d, EV (k + 1) f__law_deck [.int c, .int t] = .ok d true none ∧ DeckOk t d := by
  have h1 : 0 ≤ c % 2147483579 := Int.emod_nonneg _ (by decide)
  have h2 : c % 2147483579 < 2147483579 := Int.emod_lt_of_pos _ (by decide)
  have hp : powOk 10 18 = true := by decide
  by_cases h : (10 : Int) ^ 18 ≤ c
  · refine ⟨.lst [.int (c - 10 ^ 18), .int (c % 2147483579), .int t], ?_, _, _, _, rfl, h1, h2, by omega, by omega⟩
    refine runF_eq (fd := c__law_deck) rfl rfl ?_
    show WS (exs _ _ c__law_deck.body [.sh (.int c), .sh (.int t)]) _ _ _
    unfold c__law_deck
    simp only [S0, S1, S2, S3, S4, S5, S6, S7, S8, S9, S10, S11, S12, S13, S14, S15, S16, S17, SD0, SD1, List.map_cons, List.map_nil, List.map_append, List.length_append, Int.reduceLT, Int.reduceLE, Int.reduceGT, Int.reduceGE, Int.reduceAdd, Int.reduceSub, Int.reduceNeg, Int.reduceToNat, Int.reduceEq, Int.reduceMul, Int.reduceNe, Nat.reduceLeDiff, Nat.reduceLT, Nat.reduceAdd, Nat.reduceSub, Nat.reduceEqDiff, Int.cast_ofNat_Int, reduceCtorEq, hp, h]
  · refine ⟨.lst [.int 0, .int (c % 2147483579), .int t], ?_, _, _, _, rfl, h1, h2, by omega, by omega⟩
    refine runF_eq (fd := c__law_deck) rfl rfl ?_
    show WS (exs _ _ c__law_deck.body [.sh (.int c), .sh (.int t)]) _ _ _
    unfold c__law_deck
    simp only [S0, S1, S2, S3, S4, S5, S6, S7, S8, S9, S10, S11, S12, S13, S14, S15, S16, S17, SD0, SD1, List.map_cons, List.map_nil, List.map_append, List.length_append, Int.reduceLT, Int.reduceLE, Int.reduceGT, Int.reduceGE, Int.reduceAdd, Int.reduceSub, Int.reduceNeg, Int.reduceToNat, Int.reduceEq, Int.reduceMul, Int.reduceNe, Nat.reduceLeDiff, Nat.reduceLT, Nat.reduceAdd, Nat.reduceSub, Nat.reduceEqDiff, Int.cast_ofNat_Int, reduceCtorEq, hp, h]
theorem pick_ok {k m : Nat} {d : D} {size : Int} (hd : DeckOk m d) (hm : m ≤ 2 ^ 38) (h0 : 0 < size) (h1 : size < 2 ^ 30) : ∃ v d', EV (k + 1) f__law_pick [d, .int size] = .ok (.int v) false (some d') ∧ 0 ≤ v ∧ v < size ∧ DeckOk (m + 1) d' := by
  obtain ⟨a, b, c, rfl, hb0, hb1, hc0, hc1⟩ := hd
  have hr : ∀ x : Int, 0 ≤ x % size ∧ x % size < size := fun x => ⟨Int.emod_nonneg _ (by omega), Int.emod_lt_of_pos _ h0⟩
  have key : ∃ v fr d', EV (k + 1) f__law_pick [.lst [.int a, .int b, .int c], .int size] = .ok v fr (some d') ∧ fr = false ∧ ∃ x : Int, v = .int x ∧ 0 ≤ x ∧ x < size ∧ DeckOk (m + 1) d' := by
    refine runF_io (fd := c__law_pick) (P := fun v fr d' => fr = false ∧ ∃ x : Int, v = .int x ∧ 0 ≤ x ∧ x < size ∧ DeckOk (m + 1) d') rfl rfl ?_
    show WS (exs _ _ c__law_pick.body [.io (.lst [.int a, .int b, .int c]), .sh (.int size), .un, .un]) _ _ _
    unfold c__law_pick
    have hdiv : divOk a size = true := by unfold divOk; exact decide_eq_true ⟨h0, h1⟩
    have hdiv2 : ∀ x, divOk x 32 = true := fun x => by unfold divOk; exact decide_eq_true (by decide)
    have hm1 : ∀ x, mulOk 15485867 x = true := fun x => by unfold mulOk; exact decide_eq_true (.inl (by decide))
    have hm2 : ∀ x, mulOk 7919 x = true := fun x => by unfold mulOk; exact decide_eq_true (.inl (by decide))
    have hi0 : ixN 3 0 = some 0 := by decide
    have hi2 : ixN 3 2 = some 2 := by decide
    by_cases ha : 1 < a
    · simp only [S0, S1, S2, S3, S4, S5, S6, S7, S8, S9, S10, S11, S12, S13, S14, S15, S16, S17, SD0, SD1, List.map_cons, List.map_nil, List.map_append, List.length_append, Int.reduceLT, Int.reduceLE, Int.reduceGT, Int.reduceGE, Int.reduceAdd, Int.reduceSub, Int.reduceNeg, Int.reduceToNat, Int.reduceEq, Int.reduceMul, Int.reduceNe, Nat.reduceLeDiff, Nat.reduceLT, Nat.reduceAdd, Nat.reduceSub, Nat.reduceEqDiff, Int.cast_ofNat_Int, reduceCtorEq, ha, hdiv, h0, hi0]
      refine ⟨_, rfl, _, rfl, (hr _).1, (hr _).2, _, _, _, rfl, hb0, hb1, hc0, by omega⟩
    · have hp1 : powOk (b + 15485867 * (c + 1)) 5 = true := by
        unfold powOk
        refine decide_eq_true ⟨by decide, by decide, ?_⟩
        have : (2 : Int) ^ 38 = 274877906944 := by decide
        omega
      have hp2 : powOk ((b + 15485867 * (c + 1)) ^ 5 % 2147483647 + 7919 * (c + 1)) 3 = true := by
        unfold powOk
        have q0 := Int.emod_nonneg ((b + 15485867 * (c + 1)) ^ 5) (show (2147483647 : Int) ≠ 0 by decide)
        have q1 := Int.emod_lt_of_pos ((b + 15485867 * (c + 1)) ^ 5) (show (0 : Int) < 2147483647 by decide)
        generalize (b + 15485867 * (c + 1)) ^ 5 % 2147483647 = z at q0 q1
        refine decide_eq_true ⟨by decide, by decide, ?_⟩
        omega
      have l1 : (0 : Int) < 2147483647 := by decide
      have l2 : (0 : Int) < 2147483629 := by decide
      simp only [S0, S1, S2, S3, S4, S5, S6, S7, S8, S9, S10, S11, S12, S13, S14, S15, S16, S17, SD0, SD1, List.map_cons, List.map_nil, List.map_append, List.length_append, Int.reduceLT, Int.reduceLE, Int.reduceGT, Int.reduceGE, Int.reduceAdd, Int.reduceSub, Int.reduceNeg, Int.reduceToNat, Int.reduceEq, Int.reduceMul, Int.reduceNe, Nat.reduceLeDiff, Nat.reduceLT, Nat.reduceAdd, Nat.reduceSub, Nat.reduceEqDiff, Int.cast_ofNat_Int, reduceCtorEq, ha, hm1, hm2, hdiv2, h0, hi0, hi2, hp1, hp2, l1, l2]
      refine ⟨_, rfl, _, rfl, (hr _).1, (hr _).2, _, _, _, rfl, hb0, hb1, by omega, by omega⟩
  obtain ⟨v, fr, d', e, rfl, x, rfl, h2, h3, h4⟩ := key
  exact ⟨x, d', e, h2, h3, h4⟩
theorem one_ok {k m : Nat} {d : D} {l : List D} (hd : DeckOk m d) (hm : m ≤ 2 ^ 38) (h0 : 0 < l.length) (h1 : l.length < 2 ^ 30) : ∃ v d', EV (k + 2) f__law_one [d, .lst l] = .ok v false (some d') ∧ v ∈ l ∧ DeckOk (m + 1) d' := by
  have key : ∃ v fr d', EV (k + 2) f__law_one [d, .lst l] = .ok v fr (some d') ∧ fr = false ∧ v ∈ l ∧ DeckOk (m + 1) d' := by
    refine runF_io (fd := c__law_one) (P := fun v fr d' => fr = false ∧ v ∈ l ∧ DeckOk (m + 1) d') rfl rfl ?_
    show WS (exs _ _ c__law_one.body [.io d, .sh (.lst l)]) _ _ _
    unfold c__law_one
    obtain ⟨i, d', e, i0, i1, hd'⟩ := pick_ok (k := k) (size := l.length) hd hm (by omega) (by omega)
    obtain ⟨x, hx, ex, _⟩ := atI_get (l := l) i0 (by omega)
    simp only [S0, S1, S2, S3, S4, S5, S6, S7, S8, S9, S10, S11, S12, S13, S14, S15, S16, S17, SD0, SD1, List.map_cons, List.map_nil, List.map_append, List.length_append, Int.reduceLT, Int.reduceLE, Int.reduceGT, Int.reduceGE, Int.reduceAdd, Int.reduceSub, Int.reduceNeg, Int.reduceToNat, Int.reduceEq, Int.reduceMul, Int.reduceNe, Nat.reduceLeDiff, Nat.reduceLT, Nat.reduceAdd, Nat.reduceSub, Nat.reduceEqDiff, Int.cast_ofNat_Int, reduceCtorEq, e, ex]
    exact ⟨_, rfl, hx, hd'⟩
  obtain ⟨v, fr, d', e, rfl, h2, h3⟩ := key
  exact ⟨v, d', e, h2, h3⟩
/-! ### things compared -/
def srt : D → Int
  | .bl _ => 1
  | .int _ => 2
  | .str _ => 3
  | .lst _ => 4
  | .tup _ => 5
  | _ => 6
theorem sort_ok {k : Nat} {d : D} (h : pl d = true) : EV (k + 1) f__law_sort [d] = .ok (.int (srt d)) false none := by
  refine runF_eq (fd := c__law_sort) rfl rfl ?_
  show WS (exs _ _ c__law_sort.body [.sh d]) _ _ _
  unfold c__law_sort
  cases d with
  | dct l => cases h
  | fn i => cases h
  | _ => simp only [S0, S1, S2, S3, S4, S5, S6, S7, S8, S9, S10, S11, S12, S13, S14, S15, S16, S17, SD0, SD1, List.map_cons, List.map_nil, List.map_append, List.length_append, Int.reduceLT, Int.reduceLE, Int.reduceGT, Int.reduceGE, Int.reduceAdd, Int.reduceSub, Int.reduceNeg, Int.reduceToNat, Int.reduceEq, Int.reduceMul, Int.reduceNe, Nat.reduceLeDiff, Nat.reduceLT, Nat.reduceAdd, Nat.reduceSub, Nat.reduceEqDiff, Int.cast_ofNat_Int, reduceCtorEq, srt]
theorem same_ok {L n k : Nat} {d : D} (h : PlN L n d) (hn : n < 60) (hk : n + 2 ≤ k) : EV k f__law_same [d, d] = .ok (.bl true) false none := by
  induction n using Nat.strongRecOn generalizing d k with
  | _ n ih =>
    obtain ⟨k, rfl⟩ : ∃ k', k = k' + 2 := ⟨k - 2, by omega⟩
    refine runF_eq (fd := c__law_same) rfl rfl ?_
    show WS (exs _ _ c__law_same.body [.sh d, .sh d, .un, .un]) _ _ _
    unfold c__law_same
    have es := sort_ok (k := k) h.pl
    have ok := ok_pl h (by omega)
    have seq : ∀ l : List D, (d = .tup l ∨ d = .lst l) → (∀ x ∈ l, PlN L (n - 1) x) → (0 < n ∨ l = []) → WR (compL (asgT (.tup [.name 2, .name 3])) (evTs (EV (k + 1)) [.bnot (.call f__law_same [.var 3, .idx (.var 1) (.var 2)])]) (ev (EV (k + 1)) (.var 2)) [2, 3] (l.zipIdx.map fun p => D.tup [.int (p.2 : Nat), p.1]) [.sh d, .sh d, .un, .un] [])
        (fun r => r.1 = [] ∧ r.2 = [.sh d, .sh d, .un, .un]) (fun _ _ => False) := by
      intro l hd hl hn0
      refine WR.compL (fun rest env acc => env = [.sh d, .sh d, .un, .un] ∧ acc = [] ∧ ∀ x ∈ rest, ∃ (i : Nat) (p : D), x = .tup [.int i, p] ∧ l[i]? = some p) ⟨rfl, rfl, fun x hx => ?_⟩ ?_ (fun env acc ⟨h1, h2, _⟩ => ⟨h2, h1⟩)
      · obtain ⟨⟨p, i⟩, hp, rfl⟩ := List.mem_map.mp hx
        exact ⟨i, p, rfl, by simpa using List.mem_zipIdx_iff_getElem?.mp hp⟩
      · rintro x r env acc ⟨rfl, rfl, hr⟩
        obtain ⟨i, p, rfl, hp⟩ := hr x (List.mem_cons_self ..)
        have hi : i < l.length := (List.getElem?_eq_some_iff.mp hp).1
        have hat : atI l (i : Int) = some p := by rw [atI_ok (by omega) (by omega)]; simpa using hp
        have hm : p ∈ l := List.mem_of_getElem? hp
        have hn1 : 0 < n := by
          rcases hn0 with z | rfl
          · exact z
          · cases hm
        have e := ih (n - 1) (by omega) (hl p hm) (by omega) (k := k + 1) (by omega)
        rcases hd with rfl | rfl
        · simp only [S0, S1, S2, S3, S4, S5, S6, S7, S8, S9, S10, S11, S12, S13, S14, S15, S16, S17, SD0, SD1, List.map_cons, List.map_nil, List.map_append, List.length_append, Int.reduceLT, Int.reduceLE, Int.reduceGT, Int.reduceGE, Int.reduceAdd, Int.reduceSub, Int.reduceNeg, Int.reduceToNat, Int.reduceEq, Int.reduceMul, Int.reduceNe, Nat.reduceLeDiff, Nat.reduceLT, Nat.reduceAdd, Nat.reduceSub, Nat.reduceEqDiff, Int.cast_ofNat_Int, reduceCtorEq, hat, e]
          exact fun x hx => hr x (List.mem_cons_of_mem _ hx)
        · simp only [S0, S1, S2, S3, S4, S5, S6, S7, S8, S9, S10, S11, S12, S13, S14, S15, S16, S17, SD0, SD1, List.map_cons, List.map_nil, List.map_append, List.length_append, Int.reduceLT, Int.reduceLE, Int.reduceGT, Int.reduceGE, Int.reduceAdd, Int.reduceSub, Int.reduceNeg, Int.reduceToNat, Int.reduceEq, Int.reduceMul, Int.reduceNe, Nat.reduceLeDiff, Nat.reduceLT, Nat.reduceAdd, Nat.reduceSub, Nat.reduceEqDiff, Int.cast_ofNat_Int, reduceCtorEq, hat, e]
          exact fun x hx => hr x (List.mem_cons_of_mem _ hx)
    have nz : ∀ l : List D, (d = .tup l ∨ d = .lst l) → 0 < n ∨ l = [] := fun l hd => by
      cases n with
      | zero => rcases hd with rfl | rfl <;> (unfold PlN at h; exact .inr h)
      | succ n => exact .inl (by omega)
    cases d with
    | dct l => cases h.pl
    | fn i => cases h.pl
    | tup l =>
      simp only [S0, S1, S2, S3, S4, S5, S6, S7, S8, S9, S10, S11, S12, S13, S14, S15, S16, S17, SD0, SD1, List.map_cons, List.map_nil, List.map_append, List.length_append, Int.reduceLT, Int.reduceLE, Int.reduceGT, Int.reduceGE, Int.reduceAdd, Int.reduceSub, Int.reduceNeg, Int.reduceToNat, Int.reduceEq, Int.reduceMul, Int.reduceNe, Nat.reduceLeDiff, Nat.reduceLT, Nat.reduceAdd, Nat.reduceSub, Nat.reduceEqDiff, Int.cast_ofNat_Int, reduceCtorEq, es, srt]
      refine (seq l (.inl rfl) h.tupI.2 (nz l (.inl rfl))).imp (fun r ⟨h1, h2⟩ => ?_) fun _ _ z => z
      obtain ⟨a, b⟩ := r
      dsimp only at h1 h2
      subst h1 h2
      have e1 : cmpD .eq (.lst []) (.lst []) = some true := rfl
      simp only [S0, S1, S2, S3, S4, S5, S6, S7, S8, S9, S10, S11, S12, S13, S14, S15, S16, S17, SD0, SD1, List.map_cons, List.map_nil, List.map_append, List.length_append, Int.reduceLT, Int.reduceLE, Int.reduceGT, Int.reduceGE, Int.reduceAdd, Int.reduceSub, Int.reduceNeg, Int.reduceToNat, Int.reduceEq, Int.reduceMul, Int.reduceNe, Nat.reduceLeDiff, Nat.reduceLT, Nat.reduceAdd, Nat.reduceSub, Nat.reduceEqDiff, Int.cast_ofNat_Int, reduceCtorEq, e1]
    | lst l =>
      simp only [S0, S1, S2, S3, S4, S5, S6, S7, S8, S9, S10, S11, S12, S13, S14, S15, S16, S17, SD0, SD1, List.map_cons, List.map_nil, List.map_append, List.length_append, Int.reduceLT, Int.reduceLE, Int.reduceGT, Int.reduceGE, Int.reduceAdd, Int.reduceSub, Int.reduceNeg, Int.reduceToNat, Int.reduceEq, Int.reduceMul, Int.reduceNe, Nat.reduceLeDiff, Nat.reduceLT, Nat.reduceAdd, Nat.reduceSub, Nat.reduceEqDiff, Int.cast_ofNat_Int, reduceCtorEq, es, srt]
      refine (seq l (.inr rfl) h.lstI.2 (nz l (.inr rfl))).imp (fun r ⟨h1, h2⟩ => ?_) fun _ _ z => z
      obtain ⟨a, b⟩ := r
      dsimp only at h1 h2
      subst h1 h2
      have e1 : cmpD .eq (.lst []) (.lst []) = some true := rfl
      simp only [S0, S1, S2, S3, S4, S5, S6, S7, S8, S9, S10, S11, S12, S13, S14, S15, S16, S17, SD0, SD1, List.map_cons, List.map_nil, List.map_append, List.length_append, Int.reduceLT, Int.reduceLE, Int.reduceGT, Int.reduceGE, Int.reduceAdd, Int.reduceSub, Int.reduceNeg, Int.reduceToNat, Int.reduceEq, Int.reduceMul, Int.reduceNe, Nat.reduceLeDiff, Nat.reduceLT, Nat.reduceAdd, Nat.reduceSub, Nat.reduceEqDiff, Int.cast_ofNat_Int, reduceCtorEq, e1]
    | _ => simp only [S0, S1, S2, S3, S4, S5, S6, S7, S8, S9, S10, S11, S12, S13, S14, S15, S16, S17, SD0, SD1, List.map_cons, List.map_nil, List.map_append, List.length_append, Int.reduceLT, Int.reduceLE, Int.reduceGT, Int.reduceGE, Int.reduceAdd, Int.reduceSub, Int.reduceNeg, Int.reduceToNat, Int.reduceEq, Int.reduceMul, Int.reduceNe, Nat.reduceLeDiff, Nat.reduceLT, Nat.reduceAdd, Nat.reduceSub, Nat.reduceEqDiff, Int.cast_ofNat_Int, reduceCtorEq, es, srt, c_eq ok ok, eqD_refl ok]
end Cor.L07

set_option Elab.async false
set_option linter.all false
set_option maxRecDepth 100000
set_option maxHeartbeats 1200000
/-! HA: habits and their ends. -/
namespace Cor.L07
open Cor
open PySem (Str)
def within (d : D) (lo hi : Int) : Bool := match d with
  | .int i => decide (lo ≤ i) && decide (i ≤ hi)
  | _ => false
theorem is_within_ok {k : Nat} {d : D} {lo hi : Int} (h : pl d = true) : EV (k + 1) f_is_within [d, .int lo, .int hi] = .ok (.bl (within d lo hi)) false none := by
  refine runF_eq (fd := c_is_within) rfl rfl ?_
  show WS (exs _ _ c_is_within.body [.sh d, .sh (.int lo), .sh (.int hi)]) _ _ _
  unfold c_is_within
  cases d with
  | dct l => cases h
  | fn i => cases h
  | int i =>
    by_cases h1 : lo ≤ i
    · simp only [S0, S1, S2, S3, S4, S5, S6, S7, S8, S9, S10, S11, S12, S13, S14, S15, S16, S17, SD0, SD1, List.map_cons, List.map_nil, List.map_append, List.length_append, Int.reduceLT, Int.reduceLE, Int.reduceGT, Int.reduceGE, Int.reduceAdd, Int.reduceSub, Int.reduceNeg, Int.reduceToNat, Int.reduceEq, Int.reduceMul, Int.reduceNe, Nat.reduceLeDiff, Nat.reduceLT, Nat.reduceAdd, Nat.reduceSub, Nat.reduceEqDiff, Int.cast_ofNat_Int, reduceCtorEq, within, h1]
    · simp only [S0, S1, S2, S3, S4, S5, S6, S7, S8, S9, S10, S11, S12, S13, S14, S15, S16, S17, SD0, SD1, List.map_cons, List.map_nil, List.map_append, List.length_append, Int.reduceLT, Int.reduceLE, Int.reduceGT, Int.reduceGE, Int.reduceAdd, Int.reduceSub, Int.reduceNeg, Int.reduceToNat, Int.reduceEq, Int.reduceMul, Int.reduceNe, Nat.reduceLeDiff, Nat.reduceLT, Nat.reduceAdd, Nat.reduceSub, Nat.reduceEqDiff, Int.cast_ofNat_Int, reduceCtorEq, within, h1]
  | _ => simp only [S0, S1, S2, S3, S4, S5, S6, S7, S8, S9, S10, S11, S12, S13, S14, S15, S16, S17, SD0, SD1, List.map_cons, List.map_nil, List.map_append, List.length_append, Int.reduceLT, Int.reduceLE, Int.reduceGT, Int.reduceGE, Int.reduceAdd, Int.reduceSub, Int.reduceNeg, Int.reduceToNat, Int.reduceEq, Int.reduceMul, Int.reduceNe, Nat.reduceLeDiff, Nat.reduceLT, Nat.reduceAdd, Nat.reduceSub, Nat.reduceEqDiff, Int.cast_ofNat_Int, reduceCtorEq, within]
def hasItems (d : D) (lo hi : Int) : Bool := match d with
  | .tup l => decide (lo ≤ l.length) && decide (l.length ≤ hi)
  | _ => false
theorem has_items_ok {k : Nat} {d : D} {lo hi : Int} (h : pl d = true) : EV (k + 1) f_has_items [d, .int lo, .int hi] = .ok (.bl (hasItems d lo hi)) false none := by
  refine runF_eq (fd := c_has_items) rfl rfl ?_
  show WS (exs _ _ c_has_items.body [.sh d, .sh (.int lo), .sh (.int hi)]) _ _ _
  unfold c_has_items
  cases d with
  | dct l => cases h
  | fn i => cases h
  | tup l =>
    by_cases h1 : lo ≤ l.length
    · simp only [S0, S1, S2, S3, S4, S5, S6, S7, S8, S9, S10, S11, S12, S13, S14, S15, S16, S17, SD0, SD1, List.map_cons, List.map_nil, List.map_append, List.length_append, Int.reduceLT, Int.reduceLE, Int.reduceGT, Int.reduceGE, Int.reduceAdd, Int.reduceSub, Int.reduceNeg, Int.reduceToNat, Int.reduceEq, Int.reduceMul, Int.reduceNe, Nat.reduceLeDiff, Nat.reduceLT, Nat.reduceAdd, Nat.reduceSub, Nat.reduceEqDiff, Int.cast_ofNat_Int, reduceCtorEq, hasItems, h1]
    · simp only [S0, S1, S2, S3, S4, S5, S6, S7, S8, S9, S10, S11, S12, S13, S14, S15, S16, S17, SD0, SD1, List.map_cons, List.map_nil, List.map_append, List.length_append, Int.reduceLT, Int.reduceLE, Int.reduceGT, Int.reduceGE, Int.reduceAdd, Int.reduceSub, Int.reduceNeg, Int.reduceToNat, Int.reduceEq, Int.reduceMul, Int.reduceNe, Nat.reduceLeDiff, Nat.reduceLT, Nat.reduceAdd, Nat.reduceSub, Nat.reduceEqDiff, Int.cast_ofNat_Int, reduceCtorEq, hasItems, h1]
  | _ => simp only [S0, S1, S2, S3, S4, S5, S6, S7, S8, S9, S10, S11, S12, S13, S14, S15, S16, S17, SD0, SD1, List.map_cons, List.map_nil, List.map_append, List.length_append, Int.reduceLT, Int.reduceLE, Int.reduceGT, Int.reduceGE, Int.reduceAdd, Int.reduceSub, Int.reduceNeg, Int.reduceToNat, Int.reduceEq, Int.reduceMul, Int.reduceNe, Nat.reduceLeDiff, Nat.reduceLT, Nat.reduceAdd, Nat.reduceSub, Nat.reduceEqDiff, Int.cast_ofNat_Int, reduceCtorEq, hasItems]
/-! ### habits -/
abbrev Hab := List (Int × Int)
def pD (p : Int × Int) : D := .tup [.int p.1, .int p.2]
def hD (h : Hab) : D := .tup (h.map pD)
def pairB (d : D) : Bool := match d with
  | .tup [a, b] => within a 0 12 && within b (-1) 9
  | _ => false
def dPair (d : D) : Int × Int := match d with
  | .tup [.int a, .int b] => (a, b)
  | _ => (0, 0)
def adj2 (p q : Int × Int) : Bool := !(decide (q.1 < p.1) || (!decide (p.2 = -1) && !decide (q.2 = p.2)))
def adjB : Hab → Bool
  | p :: q :: r => adj2 p q && adjB (q :: r)
  | _ => true
def habitB (d : D) : Bool := match d with
  | .tup l => decide (1 ≤ l.length ∧ l.length ≤ 12) && (l.all pairB && adjB (l.map dPair))
  | _ => false
theorem pairB_ok {d : D} (h : pairB d = true) : d = pD (dPair d) ∧ 0 ≤ (dPair d).1 ∧ (dPair d).1 ≤ 12 ∧ -1 ≤ (dPair d).2 ∧ (dPair d).2 ≤ 9 := by
  unfold pairB at h
  split at h
  · rename_i a b
    rw [Bool.and_eq_true] at h
    obtain ⟨h1, h2⟩ := h
    unfold within at h1 h2
    split at h1
    · split at h2
      · rw [Bool.and_eq_true, decide_eq_true_eq, decide_eq_true_eq] at h1 h2
        exact ⟨rfl, h1.1, h1.2, h2.1, h2.2⟩
      · cases h2
    · cases h1
  · cases h
theorem zip_adj : ∀ (l : List D), (∀ x ∈ l, pairB x = true) → adjB (l.map dPair) = (l.zip (l.drop 1)).all fun p => adj2 (dPair p.1) (dPair p.2)
  | [], _ => rfl
  | [x], _ => rfl
  | x :: y :: r, h => by
    show (adj2 (dPair x) (dPair y) && adjB ((y :: r).map dPair)) = ((x, y) :: (y :: r).zip r).all _
    rw [List.all_cons, zip_adj (y :: r) fun z hz => h z (List.mem_cons_of_mem _ hz)]
    rfl
theorem hasItems2 {x : D} (h : hasItems x 2 2 = true) : ∃ a b, x = .tup [a, b] := by
  unfold hasItems at h
  split at h
  · rename_i l
    rw [Bool.and_eq_true, decide_eq_true_eq, decide_eq_true_eq] at h
    match l, h with
    | [a, b], _ => exact ⟨a, b, rfl⟩
    | [], h => simp at h
    | [a], h => simp at h
    | a :: b :: c :: r, h => simp at h; omega
  · cases h
theorem pairB_items {x : D} (h : hasItems x 2 2 = false) : pairB x = false := by
  cases q : pairB x with
  | false => rfl
  | true =>
    rw [(pairB_ok q).1] at h
    cases h
theorem is_habit_value_ok {k L n : Nat} {d : D} (h : PlN L n d) : EV (k + 2) f_is_habit_value [d] = .ok (.bl (habitB d)) false none := by
  refine runF_eq (fd := c_is_habit_value) rfl rfl ?_
  show WS (exs _ _ c_is_habit_value.body [.sh d, .un, .un, .un, .un, .un]) _ _ _
  unfold c_is_habit_value
  have e1 := has_items_ok (k := k) (d := d) (lo := 1) (hi := 12) h.pl
  simp only [S0, S1, S2, S3, S4, S5, S6, S7, S8, S9, S10, S11, S12, S13, S14, S15, S16, S17, SD0, SD1, List.map_cons, List.map_nil, List.map_append, List.length_append, Int.reduceLT, Int.reduceLE, Int.reduceGT, Int.reduceGE, Int.reduceAdd, Int.reduceSub, Int.reduceNeg, Int.reduceToNat, Int.reduceEq, Int.reduceMul, Int.reduceNe, Nat.reduceLeDiff, Nat.reduceLT, Nat.reduceAdd, Nat.reduceSub, Nat.reduceEqDiff, Int.cast_ofNat_Int, reduceCtorEq, e1]
  refine iteB (fun hb => ?_) fun hb => ?_
  · cases d with
    | tup l =>
      have hb : (decide (1 ≤ (l.length : Int)) && decide ((l.length : Int) ≤ 12)) = false := (Bool.not_eq_true' _).mp hb
      show D.bl false = D.bl (decide (1 ≤ l.length ∧ l.length ≤ 12) && _)
      have : decide (1 ≤ l.length ∧ l.length ≤ 12) = false := by
        simp only [Bool.and_eq_false_iff, decide_eq_false_iff_not] at hb
        rw [decide_eq_false_iff_not]
        omega
      rw [this]
      rfl
    | _ => rfl
  · cases d with
    | tup l =>
      have hb : (decide (1 ≤ (l.length : Int)) && decide ((l.length : Int) ≤ 12)) = true := (Bool.not_eq_false' _).mp hb
      rw [Bool.and_eq_true, decide_eq_true_eq, decide_eq_true_eq] at hb
      have hlen : decide (1 ≤ l.length ∧ l.length ≤ 12) = true := by rw [decide_eq_true_eq]; omega
      have hv : habitB (.tup l) = (l.all pairB && adjB (l.map dPair)) := by
        show (decide (1 ≤ l.length ∧ l.length ≤ 12) && _) = _
        rw [hlen]
        rfl
      rw [hv]
      simp only [S0, S1, S2, S3, S4, S5, S6, S7, S8, S9, S10, S11, S12, S13, S14, S15, S16, S17, SD0, SD1, List.map_cons, List.map_nil, List.map_append, List.length_append, Int.reduceLT, Int.reduceLE, Int.reduceGT, Int.reduceGE, Int.reduceAdd, Int.reduceSub, Int.reduceNeg, Int.reduceToNat, Int.reduceEq, Int.reduceMul, Int.reduceNe, Nat.reduceLeDiff, Nat.reduceLT, Nat.reduceAdd, Nat.reduceSub, Nat.reduceEqDiff, Int.cast_ofNat_Int, reduceCtorEq]
      refine WS.forL (fun rest env => ∃ s, NI s ∧ env = [.sh (.tup l), s, .un, .un, .un, .un] ∧ ∃ done, l = done ++ rest ∧ done.all pairB = true) ⟨_, NI.un, rfl, [], rfl, rfl⟩ ?_ ?_
      · rintro x r env ⟨s, hs, rfl, done, hl, hd⟩
        have hx : PlN L (n - 1) x := h.tupI.2 x (by rw [hl]; simp)
        have e2 := has_items_ok (k := k) (d := x) (lo := 2) (hi := 2) hx.pl
        have fin : pairB x = false → D.bl false = D.bl (l.all pairB && adjB (l.map dPair)) := fun q => by
          rw [hl, List.all_append, List.all_cons, q]
          simp
        simp only [S0, S1, S2, S3, S4, S5, S6, S7, S8, S9, S10, S11, S12, S13, S14, S15, S16, S17, SD0, SD1, List.map_cons, List.map_nil, List.map_append, List.length_append, Int.reduceLT, Int.reduceLE, Int.reduceGT, Int.reduceGE, Int.reduceAdd, Int.reduceSub, Int.reduceNeg, Int.reduceToNat, Int.reduceEq, Int.reduceMul, Int.reduceNe, Nat.reduceLeDiff, Nat.reduceLT, Nat.reduceAdd, Nat.reduceSub, Nat.reduceEqDiff, Int.cast_ofNat_Int, reduceCtorEq, e2, asK_ni hs]
        refine iteB (fun q => fin (pairB_items ((Bool.not_eq_true' _).mp q))) fun q => ?_
        obtain ⟨a, b, rfl⟩ := hasItems2 (x := x) ((Bool.not_eq_false' _).mp q)
        have ha := (hx.tupI.2 a (by simp)).pl
        have hb' := (hx.tupI.2 b (by simp)).pl
        have e3 := is_within_ok (k := k) (d := a) (lo := 0) (hi := 12) ha
        have e4 := is_within_ok (k := k) (d := b) (lo := -1) (hi := 9) hb'
        simp only [S0, S1, S2, S3, S4, S5, S6, S7, S8, S9, S10, S11, S12, S13, S14, S15, S16, S17, SD0, SD1, List.map_cons, List.map_nil, List.map_append, List.length_append, Int.reduceLT, Int.reduceLE, Int.reduceGT, Int.reduceGE, Int.reduceAdd, Int.reduceSub, Int.reduceNeg, Int.reduceToNat, Int.reduceEq, Int.reduceMul, Int.reduceNe, Nat.reduceLeDiff, Nat.reduceLT, Nat.reduceAdd, Nat.reduceSub, Nat.reduceEqDiff, Int.cast_ofNat_Int, reduceCtorEq, e3, e4]
        have step : pairB (.tup [a, b]) = true → ∃ s, NI s ∧ [Sl.sh (.tup l), .sh (.tup [a, b]), .un, .un, .un, .un] = [.sh (.tup l), s, .un, .un, .un, .un] ∧ ∃ done, l = done ++ r ∧ done.all pairB = true := fun q => ⟨_, NI.sh, rfl, done ++ [.tup [a, b]], by rw [hl]; simp, by rw [List.all_append, hd]; simp [q]⟩
        refine iteB (fun q => fin ?_) fun q => iteB (fun q2 => fin ?_) fun q2 => step ?_
        · show (within a 0 12 && within b (-1) 9) = false
          rw [Bool.not_eq_true'] at q
          rw [q]
          rfl
        · show (within a 0 12 && within b (-1) 9) = false
          rw [Bool.not_eq_true'] at q2
          rw [q2, Bool.and_false]
        · show (within a 0 12 && within b (-1) 9) = true
          rw [Bool.not_eq_false'] at q q2
          rw [q, q2]
          rfl
      · rintro env ⟨s, hs, rfl, done, hl, hd⟩
        rw [List.append_nil] at hl
        subst hl
        have hp : ∀ x ∈ l, pairB x = true := List.all_eq_true.mp hd
        rw [hd, zip_adj l hp]
        simp only [S0, S1, S2, S3, S4, S5, S6, S7, S8, S9, S10, S11, S12, S13, S14, S15, S16, S17, SD0, SD1, List.map_cons, List.map_nil, List.map_append, List.length_append, Int.reduceLT, Int.reduceLE, Int.reduceGT, Int.reduceGE, Int.reduceAdd, Int.reduceSub, Int.reduceNeg, Int.reduceToNat, Int.reduceEq, Int.reduceMul, Int.reduceNe, Nat.reduceLeDiff, Nat.reduceLT, Nat.reduceAdd, Nat.reduceSub, Nat.reduceEqDiff, Int.cast_ofNat_Int, reduceCtorEq]
        refine WS.forL (fun rest env => ∃ s1 s2 s3 s4, NI s1 ∧ NI s2 ∧ NI s3 ∧ NI s4 ∧ env = [.sh (.tup l), s, s1, s2, s3, s4] ∧ ∃ done rst, rest = rst.map (fun p => D.tup [p.1, p.2]) ∧ l.zip (l.drop 1) = done ++ rst ∧ (done.all fun p => adj2 (dPair p.1) (dPair p.2)) = true) ⟨_, _, _, _, NI.un, NI.un, NI.un, NI.un, rfl, [], _, rfl, rfl, rfl⟩ ?_ ?_
        · rintro x r env ⟨s1, s2, s3, s4, n1, n2, n3, n4, rfl, done, rst, hrest, hz, hdn⟩
          match rst, hrest with
          | p :: rst, hrest =>
            injection hrest with hx hr
            subst hx
            have hm : p ∈ l.zip (l.drop 1) := by rw [hz]; simp
            obtain ⟨p1, p2⟩ := p
            obtain ⟨⟨u1, u2⟩, hu⟩ : ∃ u, p1 = pD u := ⟨_, (pairB_ok (hp p1 (List.of_mem_zip hm).1)).1⟩
            obtain ⟨⟨v1, v2⟩, hv'⟩ : ∃ u, p2 = pD u := ⟨_, (pairB_ok (hp p2 (List.mem_of_mem_drop (List.of_mem_zip hm).2))).1⟩
            subst hu hv'
            have fin : adj2 (u1, u2) (v1, v2) = false → D.bl false = D.bl (true && (l.zip (l.drop 1)).all fun p => adj2 (dPair p.1) (dPair p.2)) := fun q => by
              rw [hz, List.all_append, List.all_cons]
              show _ = D.bl (true && (_ && (adj2 (u1, u2) (v1, v2) && _)))
              rw [q]
              simp
            have step : adj2 (u1, u2) (v1, v2) = true → ∀ a b c d, ∃ s1 s2 s3 s4, NI s1 ∧ NI s2 ∧ NI s3 ∧ NI s4 ∧ [Sl.sh (.tup l), s, .sh a, .sh b, .sh c, .sh d] = [.sh (.tup l), s, s1, s2, s3, s4] ∧ ∃ done rst', r = rst'.map (fun p => D.tup [p.1, p.2]) ∧ l.zip (l.drop 1) = done ++ rst' ∧ (done.all fun p => adj2 (dPair p.1) (dPair p.2)) = true := fun q a b c d =>
              ⟨_, _, _, _, NI.sh, NI.sh, NI.sh, NI.sh, rfl, done ++ [(pD (u1, u2), pD (v1, v2))], rst, hr, by rw [hz]; simp, by
                rw [List.all_append, hdn, List.all_cons]
                show (true && (adj2 (u1, u2) (v1, v2) && _)) = true
                rw [q]
                rfl⟩
            unfold adj2 at fin step
            dsimp only at fin step
            simp only [S0, S1, S2, S3, S4, S5, S6, S7, S8, S9, S10, S11, S12, S13, S14, S15, S16, S17, SD0, SD1, List.map_cons, List.map_nil, List.map_append, List.length_append, Int.reduceLT, Int.reduceLE, Int.reduceGT, Int.reduceGE, Int.reduceAdd, Int.reduceSub, Int.reduceNeg, Int.reduceToNat, Int.reduceEq, Int.reduceMul, Int.reduceNe, Nat.reduceLeDiff, Nat.reduceLT, Nat.reduceAdd, Nat.reduceSub, Nat.reduceEqDiff, Int.cast_ofNat_Int, reduceCtorEq, pD, asK_ni n1, asK_ni n2, asK_ni n3, asK_ni n4]
            refine iteB (fun q => fin ?_) fun q => iteB (fun q2 => iteB (fun q3 => fin ?_) fun q3 => step ?_ _ _ _ _) fun q2 => step ?_ _ _ _ _
            all_goals simp_all
        · rintro env ⟨s1, s2, s3, s4, n1, n2, n3, n4, rfl, done, rst, hrest, hz, hdn⟩
          match rst, hrest with
          | [], _ =>
            rw [List.append_nil] at hz
            rw [hz, hdn]
            simp only [S0, S1, S2, S3, S4, S5, S6, S7, S8, S9, S10, S11, S12, S13, S14, S15, S16, S17, SD0, SD1, List.map_cons, List.map_nil, List.map_append, List.length_append, Int.reduceLT, Int.reduceLE, Int.reduceGT, Int.reduceGE, Int.reduceAdd, Int.reduceSub, Int.reduceNeg, Int.reduceToNat, Int.reduceEq, Int.reduceMul, Int.reduceNe, Nat.reduceLeDiff, Nat.reduceLT, Nat.reduceAdd, Nat.reduceSub, Nat.reduceEqDiff, Int.cast_ofNat_Int, reduceCtorEq]
    | _ => cases hb
/-! ### the ends, in plain numbers -/
def HabOk (h : Hab) : Prop := 1 ≤ h.length ∧ h.length ≤ 12 ∧ (∀ p ∈ h, 0 ≤ p.1 ∧ p.1 ≤ 12 ∧ -1 ≤ p.2 ∧ p.2 ≤ 9) ∧ adjB h = true
/-- the pair behind so many pulses -/
def at_ (h : Hab) (c : Int) : Int × Int := h.getD (min c (h.length - 1)).toNat (0, 0)
theorem at_mem {h : Hab} {c : Int} (hk : HabOk h) (hc : 0 ≤ c) : at_ h c ∈ h := by
  obtain ⟨h1, _⟩ := hk
  unfold at_
  have : (min c ((h.length : Int) - 1)).toNat < h.length := by omega
  rw [List.getD_eq_getElem?_getD, List.getElem?_eq_getElem this]
  exact List.getElem_mem this
theorem adj_le : ∀ {h : Hab}, adjB h = true → ∀ {i j : Nat} {p q : Int × Int}, i ≤ j → h[i]? = some p → h[j]? = some q → p.1 ≤ q.1
  | [], _, i, j, p, q, _, e, _ => by simp at e
  | [a], _, i, j, p, q, hij, e, e2 => by
    have hj := (List.getElem?_eq_some_iff.mp e2).1
    simp at hj
    subst hj
    have : i = 0 := by omega
    subst this
    rw [e] at e2
    cases e2
    omega
  | a :: b :: r, had, i, j, p, q, hij, e, e2 => by
    unfold adjB at had
    rw [Bool.and_eq_true] at had
    have hab : a.1 ≤ b.1 := by
      have := had.1
      unfold adj2 at this
      simp only [Bool.not_eq_true', Bool.or_eq_false_iff, decide_eq_false_iff_not] at this
      omega
    cases j with
    | zero =>
      have : i = 0 := by omega
      subst this
      rw [e] at e2
      cases e2
      omega
    | succ j =>
      cases i with
      | zero =>
        simp at e
        subst e
        have := adj_le had.2 (Nat.zero_le j) (show (b :: r)[0]? = some b from rfl) (by simpa using e2)
        omega
      | succ i => exact adj_le had.2 (show i ≤ j by omega) (by simpa using e) (by simpa using e2)
theorem at_mono {h : Hab} {c d : Int} (hk : HabOk h) (hc : 0 ≤ c) (hcd : c ≤ d) : (at_ h c).1 ≤ (at_ h d).1 := by
  have h1 := hk.1
  have l1 : (min c ((h.length : Int) - 1)).toNat < h.length := by omega
  have l2 : (min d ((h.length : Int) - 1)).toNat < h.length := by omega
  refine adj_le hk.2.2.2 (i := (min c ((h.length : Int) - 1)).toNat) (j := (min d ((h.length : Int) - 1)).toNat) (by omega) ?_ ?_
  · unfold at_
    rw [List.getD_eq_getElem?_getD, List.getElem?_eq_getElem l1]
    rfl
  · unfold at_
    rw [List.getD_eq_getElem?_getD, List.getElem?_eq_getElem l2]
    rfl
/-- what both come to: the least pulses at which nothing is under way -/
structure Fix (one other : Hab) (m y : Int) : Prop where
  m0 : 0 ≤ m
  y0 : 0 ≤ y
  em : m = (at_ other y).1
  ey : y = (at_ one m).1
  least : ∀ a b, 0 ≤ a → 0 ≤ b → (at_ other b).1 ≤ a → (at_ one a).1 ≤ b → m ≤ a ∧ y ≤ b
theorem Fix.uniq {one other : Hab} {m y m' y' : Int} (h : Fix one other m y) (h' : Fix one other m' y') : m = m' ∧ y = y' := by
  have a := h.least m' y' h'.m0 h'.y0 (by rw [← h'.em]; omega) (by rw [← h'.ey]; omega)
  have b := h'.least m y h.m0 h.y0 (by rw [← h.em]; omega) (by rw [← h.ey]; omega)
  omega
/-- on the way up -/
structure Up (one other : Hab) (m y : Int) : Prop where
  m0 : 0 ≤ m
  y0 : 0 ≤ y
  m1 : m ≤ 12
  y1 : y ≤ 12
  am : m ≤ (at_ other y).1
  ay : y ≤ (at_ one m).1
  least : ∀ a b, 0 ≤ a → 0 ≤ b → (at_ other b).1 ≤ a → (at_ one a).1 ≤ b → m ≤ a ∧ y ≤ b
theorem Up.zero {one other : Hab} (h1 : HabOk one) (h2 : HabOk other) : Up one other 0 0 :=
  ⟨by omega, by omega, by omega, by omega, (h2.2.2.1 _ (at_mem h2 (by omega))).1, (h1.2.2.1 _ (at_mem h1 (by omega))).1, fun a b ha hb _ _ => ⟨ha, hb⟩⟩
theorem Up.step {one other : Hab} {m y : Int} (h1 : HabOk one) (h2 : HabOk other) (u : Up one other m y) : Up one other (at_ other y).1 (at_ one m).1 := by
  have b1 := h2.2.2.1 _ (at_mem h2 u.y0)
  have b2 := h1.2.2.1 _ (at_mem h1 u.m0)
  refine ⟨by omega, by omega, by omega, by omega, at_mono h2 u.y0 u.ay, at_mono h1 u.m0 u.am, fun a b ha hb e1 e2 => ?_⟩
  obtain ⟨l1, l2⟩ := u.least a b ha hb e1 e2
  have := at_mono h2 u.y0 l2
  have := at_mono h1 u.m0 l1
  omega
theorem Up.fix {one other : Hab} {m y : Int} (u : Up one other m y) (e1 : m = (at_ other y).1) (e2 : y = (at_ one m).1) : Fix one other m y := ⟨u.m0, u.y0, e1, e2, u.least⟩
/-- what ends tells -/
def endD (one other : Hab) (m y : Int) : D := .tup [.int m, .int y, .int (at_ one m).2, .int (at_ other y).2]
/-! ### the program's ends -/
theorem pair_at_ok {k : Nat} {h : Hab} {c : Int} (hk : HabOk h) (hc : 0 ≤ c) : EV (k + 1) f_pair_at [hD h, .int c] = .ok (pD (at_ h c)) false none := by
  refine runF_eq (fd := c_pair_at) rfl rfl ?_
  show WS (exs _ _ c_pair_at.body [.sh (hD h), .sh (.int c)]) _ _ _
  unfold c_pair_at hD
  have e : atI (h.map pD) (if (h.length : Int) - 1 < c then (h.length : Int) - 1 else c) = some (pD (at_ h c)) := by
    have h1 := hk.1
    have em : (if (h.length : Int) - 1 < c then (h.length : Int) - 1 else c) = min c ((h.length : Int) - 1) := by
      split <;> omega
    rw [em, atI_ok (by omega) (by rw [List.length_map]; omega)]
    have l1 : (min c ((h.length : Int) - 1)).toNat < h.length := by omega
    unfold at_
    rw [List.getElem?_map, List.getD_eq_getElem?_getD, List.getElem?_eq_getElem l1]
    rfl
  simp only [S0, S1, S2, S3, S4, S5, S6, S7, S8, S9, S10, S11, S12, S13, S14, S15, S16, S17, SD0, SD1, List.map_cons, List.map_nil, List.map_append, List.length_append, Int.reduceLT, Int.reduceLE, Int.reduceGT, Int.reduceGE, Int.reduceAdd, Int.reduceSub, Int.reduceNeg, Int.reduceToNat, Int.reduceEq, Int.reduceMul, Int.reduceNe, Nat.reduceLeDiff, Nat.reduceLT, Nat.reduceAdd, Nat.reduceSub, Nat.reduceEqDiff, Int.cast_ofNat_Int, reduceCtorEq, List.length_map, e]
theorem ends_of_ok {k : Nat} {one other : Hab} (h1 : HabOk one) (h2 : HabOk other) : ∃ m y, Fix one other m y ∧ EV (k + 2) f_ends_of [hD one, hD other] = .ok (endD one other m y) false none := by
  have key : WpRF (runF 1000000 (EV (k + 1)) c_ends_of [hD one, hD other]) (fun d fr io => (∃ m y, Fix one other m y ∧ d = endD one other m y) ∧ fr = false ∧ io = none) (fun _ => False) := by
    refine runF_wp rfl ?_
    show WS (exs _ _ c_ends_of.body [.sh (hD one), .sh (hD other), .un, .un]) _ _ _
    unfold c_ends_of
    simp only [S0, S1, S2, S3, S4, S5, S6, S7, S8, S9, S10, S11, S12, S13, S14, S15, S16, S17, SD0, SD1, List.map_cons, List.map_nil, List.map_append, List.length_append, Int.reduceLT, Int.reduceLE, Int.reduceGT, Int.reduceGE, Int.reduceAdd, Int.reduceSub, Int.reduceNeg, Int.reduceToNat, Int.reduceEq, Int.reduceMul, Int.reduceNe, Nat.reduceLeDiff, Nat.reduceLT, Nat.reduceAdd, Nat.reduceSub, Nat.reduceEqDiff, Int.cast_ofNat_Int, reduceCtorEq]
    refine WS.whlN (fun r env => ∃ m y, env = [.sh (hD one), .sh (hD other), .sh (.int m), .sh (.int y)] ∧ Up one other m y ∧ (r : Int) = 24 - m - y) ?_ 1000000 24 ⟨0, 0, rfl, Up.zero h1 h2, by omega⟩ (by decide)
    rintro r env ⟨m, y, rfl, u, hr⟩
    have e1 := pair_at_ok (k := k) h2 u.y0
    have e2 := pair_at_ok (k := k) h1 u.m0
    have ec : cmpD .ne (.tup [.int m, .int y]) (.tup [.int (at_ other y).1, .int (at_ one m).1]) = some (!(decide (m = (at_ other y).1) && decide (y = (at_ one m).1))) := by
      rw [c_ne (ok_plB 1 rfl (by decide)) (ok_plB 1 rfl (by decide))]
      simp only [S0, S1, S2, S3, S4, S5, S6, S7, S8, S9, S10, S11, S12, S13, S14, S15, S16, S17, SD0, SD1, List.map_cons, List.map_nil, List.map_append, List.length_append, Int.reduceLT, Int.reduceLE, Int.reduceGT, Int.reduceGE, Int.reduceAdd, Int.reduceSub, Int.reduceNeg, Int.reduceToNat, Int.reduceEq, Int.reduceMul, Int.reduceNe, Nat.reduceLeDiff, Nat.reduceLT, Nat.reduceAdd, Nat.reduceSub, Nat.reduceEqDiff, Int.cast_ofNat_Int, reduceCtorEq]
    simp only [S0, S1, S2, S3, S4, S5, S6, S7, S8, S9, S10, S11, S12, S13, S14, S15, S16, S17, SD0, SD1, List.map_cons, List.map_nil, List.map_append, List.length_append, Int.reduceLT, Int.reduceLE, Int.reduceGT, Int.reduceGE, Int.reduceAdd, Int.reduceSub, Int.reduceNeg, Int.reduceToNat, Int.reduceEq, Int.reduceMul, Int.reduceNe, Nat.reduceLeDiff, Nat.reduceLT, Nat.reduceAdd, Nat.reduceSub, Nat.reduceEqDiff, Int.cast_ofNat_Int, reduceCtorEq, e1, e2, pD, ec]
    refine iteB (fun q => ?_) fun q => ?_
    · have u' := u.step h1 h2
      refine ⟨(24 - (at_ other y).1 - (at_ one m).1).toNat, ?_, _, _, rfl, u', ?_⟩
      · have := u.am
        have := u.ay
        have := u'.m1
        have := u'.y1
        simp only [Bool.not_eq_true', Bool.and_eq_false_iff, decide_eq_false_iff_not] at q
        omega
      · have := u'.m1
        have := u'.y1
        omega
    · simp only [Bool.not_eq_false', Bool.and_eq_true, decide_eq_true_eq] at q
      exact ⟨⟨m, y, u.fix q.1 q.2, rfl⟩, rfl, rfl⟩
  obtain ⟨d, fr, io, e, ⟨m, y, hf, rfl⟩, rfl, rfl⟩ := WpRF.get key
  exact ⟨m, y, hf, e⟩
theorem at_idx {h : Hab} {c : Int} (hk : HabOk h) (hc : 0 ≤ c) : atI (h.map pD) (if (h.length : Int) - 1 < c then (h.length : Int) - 1 else c) = some (pD (at_ h c)) := by
  have h1 := hk.1
  have em : (if (h.length : Int) - 1 < c then (h.length : Int) - 1 else c) = min c ((h.length : Int) - 1) := by
    split <;> omega
  rw [em, atI_ok (by omega) (by rw [List.length_map]; omega)]
  have l1 : (min c ((h.length : Int) - 1)).toNat < h.length := by omega
  unfold at_
  rw [List.getElem?_map, List.getD_eq_getElem?_getD, List.getElem?_eq_getElem l1]
  rfl
theorem habitB_hD {h : Hab} (hk : HabOk h) : habitB (hD h) = true := by
  unfold habitB hD
  have e1 : (h.map pD).all pairB = true := by
    rw [List.all_eq_true]
    intro x hx
    obtain ⟨p, hp, rfl⟩ := List.mem_map.mp hx
    have := hk.2.2.1 p hp
    show (within (.int p.1) 0 12 && within (.int p.2) (-1) 9) = true
    unfold within
    simp
    omega
  have e2 : (h.map pD).map dPair = h := by
    rw [List.map_map]
    exact List.map_id h
  show (decide (1 ≤ (h.map pD).length ∧ (h.map pD).length ≤ 12) && ((h.map pD).all pairB && adjB ((h.map pD).map dPair))) = true
  rw [e1, e2, hk.2.2.2, List.length_map, decide_eq_true ⟨hk.1, hk.2.1⟩]
  rfl
theorem pl_hD {h : Hab} (hl : h.length ≤ 12) : PlN 12 2 (hD h) := by
  refine PlN.tup (by rw [List.length_map]; exact hl) fun x hx => ?_
  obtain ⟨p, hp, rfl⟩ := List.mem_map.mp hx
  refine PlN.tup (by show 2 ≤ 12; decide) fun x hx => ?_
  simp only [List.not_mem_nil, List.mem_cons, or_false] at hx
  rcases hx with rfl | rfl <;> exact PlN.int
/-! ### the law's ends: pulses one by one -/
theorem at_end_ok {k md : Nat} {dk : D} {one other : Hab} {m y : Int} (hd : DeckOk md dk) (hm : md + 24 ≤ 2 ^ 38) (h1 : HabOk one) (h2 : HabOk other) (f : Fix one other m y) :
    ∃ dk', EV (k + 3) f__law_at_end [dk, hD one, hD other] = .ok (endD one other m y) false (some dk') ∧ DeckOk (md + 24) dk' := by
  have fm := h2.2.2.1 _ (at_mem h2 f.y0)
  have fy := h1.2.2.1 _ (at_mem h1 f.m0)
  rw [← f.em] at fm
  rw [← f.ey] at fy
  have key : ∃ v fr d', EV (k + 3) f__law_at_end [dk, hD one, hD other] = .ok v fr (some d') ∧ v = endD one other m y ∧ fr = false ∧ DeckOk (md + 24) d' := by
    refine runF_io (fd := c__law_at_end) (P := fun v fr d' => v = endD one other m y ∧ fr = false ∧ DeckOk (md + 24) d') rfl rfl ?_
    show WS (exs _ _ c__law_at_end.body [.io dk, .sh (hD one), .sh (hD other), .un, .un, .un, .un, .un, .un]) _ _ _
    unfold c__law_at_end
    refine WS.cutN 2 (fun env => env = [.io dk, .sh (hD one), .sh (hD other), .ow (.lst [.int 0, .int 0]), .ow (.lst [hD one, hD other]), .un, .un, .un, .un]) (by simp only [S0, S1, S2, S3, S4, S5, S6, S7, S8, S9, S10, S11, S12, S13, S14, S15, S16, S17, SD0, SD1, List.map_cons, List.map_nil, List.map_append, List.length_append, Int.reduceLT, Int.reduceLE, Int.reduceGT, Int.reduceGE, Int.reduceAdd, Int.reduceSub, Int.reduceNeg, Int.reduceToNat, Int.reduceEq, Int.reduceMul, Int.reduceNe, Nat.reduceLeDiff, Nat.reduceLT, Nat.reduceAdd, Nat.reduceSub, Nat.reduceEqDiff, Int.cast_ofNat_Int, reduceCtorEq]) ?_
    rintro env rfl
    simp only [S0, S1, S2, S3, S4, S5, S6, S7, S8, S9, S10, S11, S12, S13, S14, S15, S16, S17, SD0, SD1, List.map_cons, List.map_nil, List.map_append, List.length_append, Int.reduceLT, Int.reduceLE, Int.reduceGT, Int.reduceGE, Int.reduceAdd, Int.reduceSub, Int.reduceNeg, Int.reduceToNat, Int.reduceEq, Int.reduceMul, Int.reduceNe, Nat.reduceLeDiff, Nat.reduceLT, Nat.reduceAdd, Nat.reduceSub, Nat.reduceEqDiff, Int.cast_ofNat_Int, reduceCtorEq]
    refine WS.whlT (fun r env => ∃ (a b : Int) (dk : D) (s5 s6 s7 s8 : Sl), NI s5 ∧ NI s6 ∧ NI s7 ∧ NI s8 ∧ env = [.io dk, .sh (hD one), .sh (hD other), .ow (.lst [.int a, .int b]), .ow (.lst [hD one, hD other]), s5, s6, s7, s8] ∧ 0 ≤ a ∧ 0 ≤ b ∧ a ≤ m ∧ b ≤ y ∧ (r : Int) = m + y - a - b ∧ DeckOk (md + (a + b).toNat) dk) (m + y).toNat
      ⟨0, 0, dk, _, _, _, _, NI.un, NI.un, NI.un, NI.un, rfl, by omega, by omega, f.m0, f.y0, by have := f.m0; have := f.y0; omega, hd⟩ (by omega) ?_
    rintro r env ⟨a, b, dk, s5, s6, s7, s8, n5, n6, n7, n8, rfl, a0, b0, am, bm, hr, hdk⟩
    have i1 := at_idx h2 b0
    have i2 := at_idx h1 a0
    refine WS.cutN 2 (fun env => ∃ (s6 s7 : Sl) (fl : List D), NI s6 ∧ NI s7 ∧ env = [.io dk, .sh (hD one), .sh (hD other), .ow (.lst [.int a, .int b]), .ow (.lst [hD one, hD other]), .ow (.lst fl), s6, s7, s8] ∧ fl.length ≤ 2 ∧ (fl = [] → (at_ other b).1 ≤ a ∧ (at_ one a).1 ≤ b) ∧ ∀ v ∈ fl, (v = .int 0 ∧ a < (at_ other b).1) ∨ (v = .int 1 ∧ b < (at_ one a).1)) ?_ ?_
    · simp only [S0, S1, S2, S3, S4, S5, S6, S7, S8, S9, S10, S11, S12, S13, S14, S15, S16, S17, SD0, SD1, List.map_cons, List.map_nil, List.map_append, List.length_append, Int.reduceLT, Int.reduceLE, Int.reduceGT, Int.reduceGE, Int.reduceAdd, Int.reduceSub, Int.reduceNeg, Int.reduceToNat, Int.reduceEq, Int.reduceMul, Int.reduceNe, Nat.reduceLeDiff, Nat.reduceLT, Nat.reduceAdd, Nat.reduceSub, Nat.reduceEqDiff, Int.cast_ofNat_Int, reduceCtorEq, forL_c, hD, pD, i1, i2, asK_ni n5, asK_ni n6, asK_ni n7, asK_ni n8, List.length_map]
      refine iteB (fun q1 => iteB (fun q2 => ?_) fun q2 => ?_) fun q1 => iteB (fun q2 => ?_) fun q2 => ?_
      all_goals
        simp only [decide_eq_true_eq, decide_eq_false_iff_not] at q1 q2
        refine ⟨_, _, _, NI.sh, NI.sh, rfl, by simp, fun z => ?_, fun v hv => ?_⟩
      · cases z
      · simp only [List.nil_append, List.cons_append, List.mem_cons, List.not_mem_nil, or_false] at hv
        rcases hv with rfl | rfl
        · exact .inl ⟨rfl, q1⟩
        · exact .inr ⟨rfl, q2⟩
      · cases z
      · simp only [List.nil_append, List.mem_cons, List.not_mem_nil, or_false] at hv
        subst hv
        exact .inl ⟨rfl, q1⟩
      · cases z
      · simp only [List.nil_append, List.mem_cons, List.not_mem_nil, or_false] at hv
        subst hv
        exact .inr ⟨rfl, q2⟩
      · omega
      · cases hv
    · rintro env ⟨s6, s7, fl, n6, n7, rfl, hfl, hz, hv⟩
      have plf : (D.lst fl).ok = true := by
        refine ok_pl (L := 2) (n := 1) (PlN.lst hfl fun x hx => ?_) (by decide)
        rcases hv x hx with ⟨rfl, _⟩ | ⟨rfl, _⟩ <;> exact PlN.int
      have ec : cmpD .eq (.lst fl) (.lst []) = some (decide (fl = [])) := by
        rw [c_eq plf (ok_plB 1 rfl (by decide))]
        cases fl <;> rfl
      by_cases hf : fl = []
      · have hz' := hz hf
        have hfin := f.least a b a0 b0 hz'.1 hz'.2
        have ea : a = m := by omega
        have eb : b = y := by omega
        subst ea eb
        subst hf
        simp only [S0, S1, S2, S3, S4, S5, S6, S7, S8, S9, S10, S11, S12, S13, S14, S15, S16, S17, SD0, SD1, List.map_cons, List.map_nil, List.map_append, List.length_append, Int.reduceLT, Int.reduceLE, Int.reduceGT, Int.reduceGE, Int.reduceAdd, Int.reduceSub, Int.reduceNeg, Int.reduceToNat, Int.reduceEq, Int.reduceMul, Int.reduceNe, Nat.reduceLeDiff, Nat.reduceLT, Nat.reduceAdd, Nat.reduceSub, Nat.reduceEqDiff, Int.cast_ofNat_Int, reduceCtorEq, ec, compL_c, compL_n, hD, pD, i1, i2, asK_ni n8, List.length_map]
        exact ⟨_, rfl, rfl, hdk.mono (by omega)⟩
      · have h0 : 0 < fl.length := by
          cases fl with
          | nil => exact (hf rfl).elim
          | cons _ _ => exact Nat.succ_pos _
        obtain ⟨v, dk', e, hv', hdk'⟩ := one_ok (k := k) (l := fl) hdk (by omega) h0 (by omega)
        have x0 : ixN 2 0 = some 0 := rfl
        have x1 : ixN 2 1 = some 1 := rfl
        rcases hv v hv' with ⟨rfl, q⟩ | ⟨rfl, q⟩
        · have := at_mono h2 b0 bm
          rw [← f.em] at this
          simp only [S0, S1, S2, S3, S4, S5, S6, S7, S8, S9, S10, S11, S12, S13, S14, S15, S16, S17, SD0, SD1, List.map_cons, List.map_nil, List.map_append, List.length_append, Int.reduceLT, Int.reduceLE, Int.reduceGT, Int.reduceGE, Int.reduceAdd, Int.reduceSub, Int.reduceNeg, Int.reduceToNat, Int.reduceEq, Int.reduceMul, Int.reduceNe, Nat.reduceLeDiff, Nat.reduceLT, Nat.reduceAdd, Nat.reduceSub, Nat.reduceEqDiff, Int.cast_ofNat_Int, reduceCtorEq, ec, hf, e, asK_ni n6, x0]
          exact ⟨r - 1, by omega, a + 1, b, dk', _, _, _, _, NI.sh, NI.sh, n7, n8, rfl, by omega, b0, by omega, bm, by omega, hdk'.mono (by omega)⟩
        · have := at_mono h1 a0 am
          rw [← f.ey] at this
          simp only [S0, S1, S2, S3, S4, S5, S6, S7, S8, S9, S10, S11, S12, S13, S14, S15, S16, S17, SD0, SD1, List.map_cons, List.map_nil, List.map_append, List.length_append, Int.reduceLT, Int.reduceLE, Int.reduceGT, Int.reduceGE, Int.reduceAdd, Int.reduceSub, Int.reduceNeg, Int.reduceToNat, Int.reduceEq, Int.reduceMul, Int.reduceNe, Nat.reduceLeDiff, Nat.reduceLT, Nat.reduceAdd, Nat.reduceSub, Nat.reduceEqDiff, Int.cast_ofNat_Int, reduceCtorEq, ec, hf, e, asK_ni n6, x1]
          exact ⟨r - 1, by omega, a, b + 1, dk', _, _, _, _, NI.sh, NI.sh, n7, n8, rfl, a0, by omega, am, by omega, by omega, hdk'.mono (by omega)⟩
  obtain ⟨v, fr, d', e, rfl, rfl, h3⟩ := key
  exact ⟨d', e, h3⟩
/-! ### drawn habits -/
theorem adjB_snoc : ∀ {h : Hab} {p : Int × Int}, adjB h = true → (∀ q, h.getLast? = some q → adj2 q p = true) → adjB (h ++ [p]) = true
  | [], p, _, _ => rfl
  | [a], p, _, h2 => by
    show (adj2 a p && adjB [p]) = true
    rw [h2 a rfl]
    rfl
  | a :: b :: r, p, h1, h2 => by
    have h1 : (adj2 a b && adjB (b :: r)) = true := h1
    rw [Bool.and_eq_true] at h1
    show (adj2 a b && adjB ((b :: r) ++ [p])) = true
    rw [h1.1, adjB_snoc h1.2 fun q hq => h2 q (by rw [List.getLast?_cons_cons]; exact hq)]
    rfl
/-- a habit under way -/
structure Pre (h : Hab) (s a : Int) : Prop where
  s0 : 0 ≤ s
  s1 : s ≤ 12
  a0 : -1 ≤ a
  a1 : a ≤ 2
  all : ∀ p ∈ h, 0 ≤ p.1 ∧ p.1 ≤ 12 ∧ -1 ≤ p.2 ∧ p.2 ≤ 9
  adj : adjB h = true
  last : ∀ q, h.getLast? = some q → q = (s, a)
theorem Pre.nil : Pre [] 0 (-1) := ⟨by omega, by omega, by omega, by omega, fun p hp => (by cases hp), rfl, fun q hq => (by cases hq)⟩
theorem Pre.snoc {h : Hab} {s a s' a' : Int} (p : Pre h s a) (hs : s ≤ s') (hs1 : s' ≤ 12) (ha : a = -1 ∨ a' = a) (ha0 : -1 ≤ a') (ha1 : a' ≤ 2) : Pre (h ++ [(s', a')]) s' a' := by
  have := p.s0
  refine ⟨by omega, hs1, ha0, ha1, fun q hq => ?_, adjB_snoc p.adj fun q hq => ?_, fun q hq => ?_⟩
  · rcases List.mem_append.mp hq with hq | hq
    · exact p.all q hq
    · simp only [List.mem_singleton] at hq
      subst hq
      dsimp only
      omega
  · rw [p.last q hq]
    unfold adj2
    have e1 : decide (s' < s) = false := decide_eq_false (by omega)
    rw [e1]
    rcases ha with rfl | rfl <;> simp
  · rw [List.getLast?_append] at hq
    simp at hq
    exact hq.symm
theorem a_habit_ok {k md : Nat} {dk : D} (hd : DeckOk md dk) (hm : md + 16 ≤ 2 ^ 38) : ∃ h dk', EV (k + 3) f__law_a_habit [dk] = .ok (hD h) false (some dk') ∧ HabOk h ∧ DeckOk (md + 16) dk' := by
  have key : ∃ v fr d', EV (k + 3) f__law_a_habit [dk] = .ok v fr (some d') ∧ fr = false ∧ ∃ h, v = hD h ∧ HabOk h ∧ DeckOk (md + 16) d' := by
    refine runF_io (fd := c__law_a_habit) (P := fun v fr d' => fr = false ∧ ∃ h, v = hD h ∧ HabOk h ∧ DeckOk (md + 16) d') rfl rfl ?_
    show WS (exs _ _ c__law_a_habit.body [.io dk, .un, .un, .un, .un]) _ _ _
    unfold c__law_a_habit
    obtain ⟨n, dk1, e1, n0, n1, hd1⟩ := pick_ok (k := k + 1) (size := 5) hd (by omega) (by omega) (by omega)
    have hn : -1000000 ≤ 1 + n ∧ 1 + n ≤ 1000000 := by omega
    refine WS.cutN 2 (fun env => ∃ dk s1 h s a, NI s1 ∧ env = [.io dk, s1, .ow (.lst (h.map pD)), .sh (.int s), .sh (.int a)] ∧ HabOk h ∧ DeckOk (md + 16) dk) ?_ ?_
    · simp only [S0, S1, S2, S3, S4, S5, S6, S7, S8, S9, S10, S11, S12, S13, S14, S15, S16, S17, SD0, SD1, List.map_cons, List.map_nil, List.map_append, List.length_append, Int.reduceLT, Int.reduceLE, Int.reduceGT, Int.reduceGE, Int.reduceAdd, Int.reduceSub, Int.reduceNeg, Int.reduceToNat, Int.reduceEq, Int.reduceMul, Int.reduceNe, Nat.reduceLeDiff, Nat.reduceLT, Nat.reduceAdd, Nat.reduceSub, Nat.reduceEqDiff, Int.cast_ofNat_Int, reduceCtorEq, e1, hn]
      refine WS.forL (fun rest env => ∃ dk s1 h s a, NI s1 ∧ env = [.io dk, s1, .ow (.lst (h.map pD)), .sh (.int s), .sh (.int a)] ∧ Pre h s a ∧ (h.length : Int) + rest.length = 1 + n ∧ DeckOk (md + 1 + 3 * h.length) dk) ⟨dk1, _, [], 0, -1, NI.un, rfl, Pre.nil, ?_, hd1⟩ ?_ ?_
      · simp only [List.length_nil, List.length_map, List.length_range]
        omega
      · rintro x r env ⟨dk, s1, h, s, a, n1', rfl, hp, hl, hdk⟩
        simp only [List.length_cons] at hl
        obtain ⟨v, dk1, e1, hv, hd1⟩ := one_ok (k := k) (l := [.int 0, .int 0, .int 1, .int 1, .int 2, .int 4]) hdk (by omega) (by decide) (by decide)
        obtain ⟨i, rfl, i0, i4⟩ : ∃ i : Int, v = .int i ∧ 0 ≤ i ∧ i ≤ 4 := by
          simp only [List.mem_cons, List.not_mem_nil, or_false] at hv
          rcases hv with rfl | rfl | rfl | rfl | rfl | rfl <;> exact ⟨_, rfl, by omega, by omega⟩
        obtain ⟨u, dk2, e2, u0, u1, hd2⟩ := pick_ok (k := k + 1) (size := 3) hd1 (by omega) (by omega) (by omega)
        obtain ⟨w, dk3, e3, w0, w1, hd3⟩ := pick_ok (k := k + 1) (size := 3) hd2 (by omega) (by omega) (by omega)
        have hs := hp.s0
        have hs1 := hp.s1
        have ha0 := hp.a0
        have ha1 := hp.a1
        have hlen : h.length < 16777216 := by omega
        obtain ⟨m, hm1⟩ : ∃ m : Int, m = (if s + i < 12 then s + i else 12) := ⟨_, rfl⟩
        have hm2 : s ≤ m ∧ m ≤ 12 := by
          rw [hm1]
          split <;> omega
        refine WS.asg1 [.io dk, .sh x, .ow (.lst (h.map pD)), .sh (.int s), .sh (.int a)] (by simp only [S0, S1, S2, S3, S4, S5, S6, S7, S8, S9, S10, S11, S12, S13, S14, S15, S16, S17, SD0, SD1, List.map_cons, List.map_nil, List.map_append, List.length_append, Int.reduceLT, Int.reduceLE, Int.reduceGT, Int.reduceGE, Int.reduceAdd, Int.reduceSub, Int.reduceNeg, Int.reduceToNat, Int.reduceEq, Int.reduceMul, Int.reduceNe, Nat.reduceLeDiff, Nat.reduceLT, Nat.reduceAdd, Nat.reduceSub, Nat.reduceEqDiff, Int.cast_ofNat_Int, reduceCtorEq, asK_ni n1']) ?_
        refine WS.cutN 1 (fun env => env = [.io dk1, .sh x, .ow (.lst (h.map pD)), .sh (.int m), .sh (.int a)]) ?_ ?_
        · simp only [S0, S1, S2, S3, S4, S5, S6, S7, S8, S9, S10, S11, S12, S13, S14, S15, S16, S17, SD0, SD1, List.map_cons, List.map_nil, List.map_append, List.length_append, Int.reduceLT, Int.reduceLE, Int.reduceGT, Int.reduceGE, Int.reduceAdd, Int.reduceSub, Int.reduceNeg, Int.reduceToNat, Int.reduceEq, Int.reduceMul, Int.reduceNe, Nat.reduceLeDiff, Nat.reduceLT, Nat.reduceAdd, Nat.reduceSub, Nat.reduceEqDiff, Int.cast_ofNat_Int, reduceCtorEq, e1, hm1]
        · rintro env rfl
          refine WS.cutN 1 (fun env => ∃ dk a', env = [.io dk, .sh x, .ow (.lst (h.map pD)), .sh (.int m), .sh (.int a')] ∧ (a = -1 ∨ a' = a) ∧ -1 ≤ a' ∧ a' ≤ 2 ∧ DeckOk (md + 1 + 3 * (h.length + 1)) dk) ?_ ?_
          · simp only [S0, S1, S2, S3, S4, S5, S6, S7, S8, S9, S10, S11, S12, S13, S14, S15, S16, S17, SD0, SD1, List.map_cons, List.map_nil, List.map_append, List.length_append, Int.reduceLT, Int.reduceLE, Int.reduceGT, Int.reduceGE, Int.reduceAdd, Int.reduceSub, Int.reduceNeg, Int.reduceToNat, Int.reduceEq, Int.reduceMul, Int.reduceNe, Nat.reduceLeDiff, Nat.reduceLT, Nat.reduceAdd, Nat.reduceSub, Nat.reduceEqDiff, Int.cast_ofNat_Int, reduceCtorEq, e2]
            refine iteB (fun q => iteB (fun q2 => ?_) fun q2 => ?_) fun q => ?_
            · simp only [S0, S1, S2, S3, S4, S5, S6, S7, S8, S9, S10, S11, S12, S13, S14, S15, S16, S17, SD0, SD1, List.map_cons, List.map_nil, List.map_append, List.length_append, Int.reduceLT, Int.reduceLE, Int.reduceGT, Int.reduceGE, Int.reduceAdd, Int.reduceSub, Int.reduceNeg, Int.reduceToNat, Int.reduceEq, Int.reduceMul, Int.reduceNe, Nat.reduceLeDiff, Nat.reduceLT, Nat.reduceAdd, Nat.reduceSub, Nat.reduceEqDiff, Int.cast_ofNat_Int, reduceCtorEq, e3]
              have q := of_decide_eq_true q
              exact ⟨dk3, w, rfl, .inl (by omega), by omega, by omega, hd3.mono (by omega)⟩
            · exact ⟨dk2, a, rfl, .inr rfl, by omega, by omega, hd2.mono (by omega)⟩
            · exact ⟨dk1, a, rfl, .inr rfl, by omega, by omega, hd1.mono (by omega)⟩
          · rintro env ⟨dk, a', rfl, ha, ha0', ha1', hdk⟩
            simp only [S0, S1, S2, S3, S4, S5, S6, S7, S8, S9, S10, S11, S12, S13, S14, S15, S16, S17, SD0, SD1, List.map_cons, List.map_nil, List.map_append, List.length_append, Int.reduceLT, Int.reduceLE, Int.reduceGT, Int.reduceGE, Int.reduceAdd, Int.reduceSub, Int.reduceNeg, Int.reduceToNat, Int.reduceEq, Int.reduceMul, Int.reduceNe, Nat.reduceLeDiff, Nat.reduceLT, Nat.reduceAdd, Nat.reduceSub, Nat.reduceEqDiff, Int.cast_ofNat_Int, reduceCtorEq, List.length_map, hlen]
            exact ⟨dk, _, h ++ [(m, a')], m, a', NI.sh, by rw [List.map_append]; rfl, hp.snoc hm2.1 hm2.2 ha ha0' ha1', by simp; omega, by rw [List.length_append]; exact hdk⟩
      · rintro env ⟨dk, s1, h, s, a, n1', rfl, hp, hl, hdk⟩
        simp only [List.length_nil] at hl
        simp only [S0, S1, S2, S3, S4, S5, S6, S7, S8, S9, S10, S11, S12, S13, S14, S15, S16, S17, SD0, SD1, List.map_cons, List.map_nil, List.map_append, List.length_append, Int.reduceLT, Int.reduceLE, Int.reduceGT, Int.reduceGE, Int.reduceAdd, Int.reduceSub, Int.reduceNeg, Int.reduceToNat, Int.reduceEq, Int.reduceMul, Int.reduceNe, Nat.reduceLeDiff, Nat.reduceLT, Nat.reduceAdd, Nat.reduceSub, Nat.reduceEqDiff, Int.cast_ofNat_Int, reduceCtorEq]
        exact ⟨dk, s1, h, s, a, n1', rfl, ⟨by omega, by omega, hp.all, hp.adj⟩, hdk.mono (by omega)⟩
    · rintro env ⟨dk, s1, h, s, a, n1', rfl, hh, hdk⟩
      simp only [S0, S1, S2, S3, S4, S5, S6, S7, S8, S9, S10, S11, S12, S13, S14, S15, S16, S17, SD0, SD1, List.map_cons, List.map_nil, List.map_append, List.length_append, Int.reduceLT, Int.reduceLE, Int.reduceGT, Int.reduceGE, Int.reduceAdd, Int.reduceSub, Int.reduceNeg, Int.reduceToNat, Int.reduceEq, Int.reduceMul, Int.reduceNe, Nat.reduceLeDiff, Nat.reduceLT, Nat.reduceAdd, Nat.reduceSub, Nat.reduceEqDiff, Int.cast_ofNat_Int, reduceCtorEq]
      exact ⟨_, rfl, h, rfl, hh, hdk⟩
  obtain ⟨v, fr, d', e, rfl, h, rfl, hh, h3⟩ := key
  exact ⟨h, d', e, hh, h3⟩
end Cor.L07

set_option Elab.async false
set_option linter.all false
set_option maxRecDepth 100000
set_option maxHeartbeats 1200000
/-! M07: sides and tasks, the program. -/
namespace Cor.L07
open Cor
open PySem (Str)
/-! ### sides -/
abbrev Side := List Hab
def sD (s : Side) : D := .tup (s.map hD)
def SideOk (s : Side) : Prop := 1 ≤ s.length ∧ s.length ≤ 4 ∧ ∀ h ∈ s, HabOk h
def sideB (d : D) : Bool := match d with
  | .tup l => decide (1 ≤ l.length ∧ l.length ≤ 4) && l.all habitB
  | _ => false
theorem pl_sD {s : Side} (hs : SideOk s) : PlN 12 3 (sD s) := by
  refine PlN.tup (by rw [List.length_map]; have := hs.2.1; omega) fun x hx => ?_
  obtain ⟨h, hh, rfl⟩ := List.mem_map.mp hx
  exact pl_hD (hs.2.2 h hh).2.1
theorem sideB_sD {s : Side} (hs : SideOk s) : sideB (sD s) = true := by
  show (decide (1 ≤ (s.map hD).length ∧ (s.map hD).length ≤ 4) && (s.map hD).all habitB) = true
  rw [List.length_map, decide_eq_true ⟨hs.1, hs.2.1⟩, Bool.true_and, List.all_eq_true]
  intro x hx
  obtain ⟨h, hh, rfl⟩ := List.mem_map.mp hx
  exact habitB_hD (hs.2.2 h hh)
/-- a list of truth values made by a comprehension over l -/
theorem bls_ok (l : List Bool) : (l.map D.bl).mapM D.bl? = some l := by
  induction l with
  | nil => rfl
  | cons b l ih => rw [List.map_cons, List.mapM_cons, ih]; rfl
theorem all_id (l : List Bool) : l.all id = l.all (fun b => b) := rfl
theorem is_side_ok {k L n : Nat} {d : D} (h : PlN L n d) (hL : L ≤ 1000) : EV (k + 3) f_is_side [d] = .ok (.bl (sideB d)) false none := by
  refine runF_eq (fd := c_is_side) rfl rfl ?_
  show WS (exs _ _ c_is_side.body [.sh d, .un]) _ _ _
  unfold c_is_side
  have e1 := has_items_ok (k := k + 1) (d := d) (lo := 1) (hi := 4) h.pl
  simp only [S0, S1, S2, S3, S4, S5, S6, S7, S8, S9, S10, S11, S12, S13, S14, S15, S16, S17, SD0, SD1, List.map_cons, List.map_nil, List.map_append, List.length_append, Int.reduceLT, Int.reduceLE, Int.reduceGT, Int.reduceGE, Int.reduceAdd, Int.reduceSub, Int.reduceNeg, Int.reduceToNat, Int.reduceEq, Int.reduceMul, Int.reduceNe, Nat.reduceLeDiff, Nat.reduceLT, Nat.reduceAdd, Nat.reduceSub, Nat.reduceEqDiff, Int.cast_ofNat_Int, reduceCtorEq, e1]
  refine iteB (fun q => ?_) fun q => ?_
  · cases d with
    | tup l =>
      have q : (decide (1 ≤ (l.length : Int)) && decide ((l.length : Int) ≤ 4)) = true := q
      rw [Bool.and_eq_true, decide_eq_true_eq, decide_eq_true_eq] at q
      have hv : sideB (.tup l) = l.all habitB := by
        show (decide (1 ≤ l.length ∧ l.length ≤ 4) && _) = _
        rw [decide_eq_true (by omega)]
        rfl
      rw [hv]
      simp only [S0, S1, S2, S3, S4, S5, S6, S7, S8, S9, S10, S11, S12, S13, S14, S15, S16, S17, SD0, SD1, List.map_cons, List.map_nil, List.map_append, List.length_append, Int.reduceLT, Int.reduceLE, Int.reduceGT, Int.reduceGE, Int.reduceAdd, Int.reduceSub, Int.reduceNeg, Int.reduceToNat, Int.reduceEq, Int.reduceMul, Int.reduceNe, Nat.reduceLeDiff, Nat.reduceLT, Nat.reduceAdd, Nat.reduceSub, Nat.reduceEqDiff, Int.cast_ofNat_Int, reduceCtorEq]
      refine (WR.compL (P := fun r => r.1 = l.map (fun x => D.bl (habitB x)) ∧ r.2 = [.sh (.tup l), .un]) (I := fun rest env acc => env = [.sh (.tup l), .un] ∧ ∃ done, l = done ++ rest ∧ acc = done.map fun x => D.bl (habitB x)) ⟨rfl, [], rfl, rfl⟩ ?_ ?_).imp ?_ (fun _ _ z => z)
      · rintro x r env acc ⟨rfl, done, hl, rfl⟩
        have hx := h.tupI.2 x (by rw [hl]; simp)
        have hlen : done.length < 16777216 := by
          have := h.tupI.1
          rw [hl, List.length_append] at this
          omega
        simp only [S0, S1, S2, S3, S4, S5, S6, S7, S8, S9, S10, S11, S12, S13, S14, S15, S16, S17, SD0, SD1, List.map_cons, List.map_nil, List.map_append, List.length_append, Int.reduceLT, Int.reduceLE, Int.reduceGT, Int.reduceGE, Int.reduceAdd, Int.reduceSub, Int.reduceNeg, Int.reduceToNat, Int.reduceEq, Int.reduceMul, Int.reduceNe, Nat.reduceLeDiff, Nat.reduceLT, Nat.reduceAdd, Nat.reduceSub, Nat.reduceEqDiff, Int.cast_ofNat_Int, reduceCtorEq, is_habit_value_ok (k := k) hx, List.length_map, hlen]
        exact ⟨done ++ [x], by rw [hl]; simp, by simp⟩
      · rintro env acc ⟨rfl, done, hl, rfl⟩
        rw [List.append_nil] at hl
        subst hl
        exact ⟨rfl, rfl⟩
      · rintro ⟨ds, env⟩ ⟨h1, h2⟩
        dsimp only at h1 h2
        subst h1 h2
        have e2 : (l.map fun x => D.bl (habitB x)).mapM D.bl? = some (l.map habitB) := by
          rw [← bls_ok (l.map habitB), List.map_map]
          rfl
        simp only [S0, S1, S2, S3, S4, S5, S6, S7, S8, S9, S10, S11, S12, S13, S14, S15, S16, S17, SD0, SD1, List.map_cons, List.map_nil, List.map_append, List.length_append, Int.reduceLT, Int.reduceLE, Int.reduceGT, Int.reduceGE, Int.reduceAdd, Int.reduceSub, Int.reduceNeg, Int.reduceToNat, Int.reduceEq, Int.reduceMul, Int.reduceNe, Nat.reduceLeDiff, Nat.reduceLT, Nat.reduceAdd, Nat.reduceSub, Nat.reduceEqDiff, Int.cast_ofNat_Int, reduceCtorEq, e2]
        rw [List.all_map]
        rfl
    | _ => cases q
  · cases d with
    | tup l =>
      have q : (decide (1 ≤ (l.length : Int)) && decide ((l.length : Int) ≤ 4)) = false := q
      show D.bl false = D.bl (decide (1 ≤ l.length ∧ l.length ≤ 4) && _)
      have : decide (1 ≤ l.length ∧ l.length ≤ 4) = false := by
        simp only [Bool.and_eq_false_iff, decide_eq_false_iff_not] at q
        rw [decide_eq_false_iff_not]
        omega
      rw [this]
      rfl
    | _ => rfl
/-! ### tasks -/
abbrev Task := List (List Int)
def tD (t : Task) : D := .tup (t.map tI)
def TaskOk (m n : Nat) (t : Task) : Prop := t.length = m ∧ ∀ r ∈ t, r.length = n ∧ ∀ v ∈ r, 0 ≤ v ∧ v ≤ 9
def rowB (n : Nat) (d : D) : Bool := match d with
  | .tup l => decide (l.length = n) && l.all fun x => within x 0 9
  | _ => false
def taskB (m n : Nat) (d : D) : Bool := match d with
  | .tup l => decide (l.length = m) && l.all (rowB n)
  | _ => false
theorem hasItems_eq {d : D} {n : Nat} : hasItems d n n = (match d with | .tup l => decide (l.length = n) | _ => false) := by
  unfold hasItems
  cases d with
  | tup l =>
    show (decide ((n : Int) ≤ l.length) && decide ((l.length : Int) ≤ n)) = decide (l.length = n)
    rw [← Bool.decide_and]
    exact decide_eq_decide.mpr (by omega)
  | _ => rfl
theorem is_task_ok {k L n : Nat} {ls la : List D} {d : D} (h : PlN L n d) (hL : L ≤ 1000) : EV (k + 2) f_is_task [.tup ls, .tup la, d] = .ok (.bl (taskB ls.length la.length d)) false none := by
  refine runF_eq (fd := c_is_task) rfl rfl ?_
  show WS (exs _ _ c_is_task.body [.sh (.tup ls), .sh (.tup la), .sh d, .un, .un]) _ _ _
  unfold c_is_task
  have e1 := has_items_ok (k := k) (d := d) (lo := ls.length) (hi := ls.length) h.pl
  rw [hasItems_eq] at e1
  simp only [S0, S1, S2, S3, S4, S5, S6, S7, S8, S9, S10, S11, S12, S13, S14, S15, S16, S17, SD0, SD1, List.map_cons, List.map_nil, List.map_append, List.length_append, Int.reduceLT, Int.reduceLE, Int.reduceGT, Int.reduceGE, Int.reduceAdd, Int.reduceSub, Int.reduceNeg, Int.reduceToNat, Int.reduceEq, Int.reduceMul, Int.reduceNe, Nat.reduceLeDiff, Nat.reduceLT, Nat.reduceAdd, Nat.reduceSub, Nat.reduceEqDiff, Int.cast_ofNat_Int, reduceCtorEq, e1]
  cases d with
  | tup l =>
    refine iteB (fun q => ?_) fun q => ?_
    · have q : decide (l.length = ls.length) = false := (Bool.not_eq_true' _).mp q
      show D.bl false = D.bl (decide (l.length = ls.length) && _)
      rw [q]
      rfl
    · have q : decide (l.length = ls.length) = true := (Bool.not_eq_false' _).mp q
      have hv : taskB ls.length la.length (.tup l) = l.all (rowB la.length) := by
        show (decide (l.length = ls.length) && _) = _
        rw [q]
        rfl
      rw [hv]
      simp only [S0, S1, S2, S3, S4, S5, S6, S7, S8, S9, S10, S11, S12, S13, S14, S15, S16, S17, SD0, SD1, List.map_cons, List.map_nil, List.map_append, List.length_append, Int.reduceLT, Int.reduceLE, Int.reduceGT, Int.reduceGE, Int.reduceAdd, Int.reduceSub, Int.reduceNeg, Int.reduceToNat, Int.reduceEq, Int.reduceMul, Int.reduceNe, Nat.reduceLeDiff, Nat.reduceLT, Nat.reduceAdd, Nat.reduceSub, Nat.reduceEqDiff, Int.cast_ofNat_Int, reduceCtorEq]
      refine WS.forL (fun rest env => ∃ s3, NI s3 ∧ env = [.sh (.tup ls), .sh (.tup la), .sh (.tup l), s3, .un] ∧ ∃ done, l = done ++ rest ∧ done.all (rowB la.length) = true) ⟨_, NI.un, rfl, [], rfl, rfl⟩ ?_ ?_
      · rintro x r env ⟨s3, n3, rfl, done, hl, hd⟩
        have hx := h.tupI.2 x (by rw [hl]; simp)
        have fin : rowB la.length x = false → D.bl false = D.bl (l.all (rowB la.length)) := fun z => by
          rw [hl, List.all_append, List.all_cons, z]
          simp
        have e2 := has_items_ok (k := k) (d := x) (lo := la.length) (hi := la.length) hx.pl
        rw [hasItems_eq] at e2
        refine WS.asg1 [.sh (.tup ls), .sh (.tup la), .sh (.tup l), .sh x, .un] (by simp only [S0, S1, S2, S3, S4, S5, S6, S7, S8, S9, S10, S11, S12, S13, S14, S15, S16, S17, SD0, SD1, List.map_cons, List.map_nil, List.map_append, List.length_append, Int.reduceLT, Int.reduceLE, Int.reduceGT, Int.reduceGE, Int.reduceAdd, Int.reduceSub, Int.reduceNeg, Int.reduceToNat, Int.reduceEq, Int.reduceMul, Int.reduceNe, Nat.reduceLeDiff, Nat.reduceLT, Nat.reduceAdd, Nat.reduceSub, Nat.reduceEqDiff, Int.cast_ofNat_Int, reduceCtorEq, asK_ni n3]) ?_
        cases x with
        | tup xs =>
          cases q2 : decide (xs.length = la.length) with
          | false =>
            simp only [S0, S1, S2, S3, S4, S5, S6, S7, S8, S9, S10, S11, S12, S13, S14, S15, S16, S17, SD0, SD1, List.map_cons, List.map_nil, List.map_append, List.length_append, Int.reduceLT, Int.reduceLE, Int.reduceGT, Int.reduceGE, Int.reduceAdd, Int.reduceSub, Int.reduceNeg, Int.reduceToNat, Int.reduceEq, Int.reduceMul, Int.reduceNe, Nat.reduceLeDiff, Nat.reduceLT, Nat.reduceAdd, Nat.reduceSub, Nat.reduceEqDiff, Int.cast_ofNat_Int, reduceCtorEq, e2, q2]
            exact fin (by show (decide (xs.length = la.length) && _) = false; rw [q2]; rfl)
          | true =>
            simp only [S0, S1, S2, S3, S4, S5, S6, S7, S8, S9, S10, S11, S12, S13, S14, S15, S16, S17, SD0, SD1, List.map_cons, List.map_nil, List.map_append, List.length_append, Int.reduceLT, Int.reduceLE, Int.reduceGT, Int.reduceGE, Int.reduceAdd, Int.reduceSub, Int.reduceNeg, Int.reduceToNat, Int.reduceEq, Int.reduceMul, Int.reduceNe, Nat.reduceLeDiff, Nat.reduceLT, Nat.reduceAdd, Nat.reduceSub, Nat.reduceEqDiff, Int.cast_ofNat_Int, reduceCtorEq, e2, q2]
            refine (WR.compL (P := fun r => r.1 = xs.map (fun x => D.bl (within x 0 9)) ∧ r.2 = [.sh (.tup ls), .sh (.tup la), .sh (.tup l), .sh (.tup xs), .un]) (I := fun rest env acc => env = [.sh (.tup ls), .sh (.tup la), .sh (.tup l), .sh (.tup xs), .un] ∧ ∃ done, xs = done ++ rest ∧ acc = done.map fun x => D.bl (within x 0 9)) ⟨rfl, [], rfl, rfl⟩ ?_ ?_).imp ?_ (fun _ _ z => z)
            · rintro y r' env acc ⟨rfl, dn, hl', rfl⟩
              have hy := hx.tupI.2 y (by rw [hl']; simp)
              have hlen : dn.length < 16777216 := by
                have := hx.tupI.1
                rw [hl', List.length_append] at this
                omega
              simp only [S0, S1, S2, S3, S4, S5, S6, S7, S8, S9, S10, S11, S12, S13, S14, S15, S16, S17, SD0, SD1, List.map_cons, List.map_nil, List.map_append, List.length_append, Int.reduceLT, Int.reduceLE, Int.reduceGT, Int.reduceGE, Int.reduceAdd, Int.reduceSub, Int.reduceNeg, Int.reduceToNat, Int.reduceEq, Int.reduceMul, Int.reduceNe, Nat.reduceLeDiff, Nat.reduceLT, Nat.reduceAdd, Nat.reduceSub, Nat.reduceEqDiff, Int.cast_ofNat_Int, reduceCtorEq, is_within_ok (k := k) (lo := 0) (hi := 9) hy.pl, List.length_map, hlen]
              exact ⟨dn ++ [y], by rw [hl']; simp, by simp⟩
            · rintro env acc ⟨rfl, dn, hl', rfl⟩
              rw [List.append_nil] at hl'
              subst hl'
              exact ⟨rfl, rfl⟩
            · rintro ⟨ds, env⟩ ⟨h1, h2⟩
              dsimp only at h1 h2
              subst h1 h2
              have e3 : (xs.map fun x => D.bl (within x 0 9)).mapM D.bl? = some (xs.map fun x => within x 0 9) := by
                rw [← bls_ok (xs.map fun x => within x 0 9), List.map_map]
                rfl
              have e4 : (xs.map fun x => within x 0 9).all id = xs.all fun x => within x 0 9 := by rw [List.all_map]; rfl
              simp only [S0, S1, S2, S3, S4, S5, S6, S7, S8, S9, S10, S11, S12, S13, S14, S15, S16, S17, SD0, SD1, List.map_cons, List.map_nil, List.map_append, List.length_append, Int.reduceLT, Int.reduceLE, Int.reduceGT, Int.reduceGE, Int.reduceAdd, Int.reduceSub, Int.reduceNeg, Int.reduceToNat, Int.reduceEq, Int.reduceMul, Int.reduceNe, Nat.reduceLeDiff, Nat.reduceLT, Nat.reduceAdd, Nat.reduceSub, Nat.reduceEqDiff, Int.cast_ofNat_Int, reduceCtorEq, e3, e4]
              have rv : rowB la.length (.tup xs) = xs.all fun x => within x 0 9 := by
                show (decide (xs.length = la.length) && _) = _
                rw [q2]
                rfl
              refine iteB (fun z => fin ?_) fun z => ⟨_, NI.sh, rfl, done ++ [.tup xs], by rw [hl]; simp, ?_⟩
              · rw [rv]; exact (Bool.not_eq_true' _).mp z
              · rw [List.all_append, hd]
                show (true && (rowB la.length (.tup xs) && true)) = true
                rw [rv, (Bool.not_eq_false' _).mp z]
                rfl
        | _ =>
          simp only [S0, S1, S2, S3, S4, S5, S6, S7, S8, S9, S10, S11, S12, S13, S14, S15, S16, S17, SD0, SD1, List.map_cons, List.map_nil, List.map_append, List.length_append, Int.reduceLT, Int.reduceLE, Int.reduceGT, Int.reduceGE, Int.reduceAdd, Int.reduceSub, Int.reduceNeg, Int.reduceToNat, Int.reduceEq, Int.reduceMul, Int.reduceNe, Nat.reduceLeDiff, Nat.reduceLT, Nat.reduceAdd, Nat.reduceSub, Nat.reduceEqDiff, Int.cast_ofNat_Int, reduceCtorEq, e2]
          exact fin rfl
      · rintro env ⟨s3, n3, rfl, done, hl, hd⟩
        rw [List.append_nil] at hl
        subst hl
        rw [hd]
        simp only [S0, S1, S2, S3, S4, S5, S6, S7, S8, S9, S10, S11, S12, S13, S14, S15, S16, S17, SD0, SD1, List.map_cons, List.map_nil, List.map_append, List.length_append, Int.reduceLT, Int.reduceLE, Int.reduceGT, Int.reduceGE, Int.reduceAdd, Int.reduceSub, Int.reduceNeg, Int.reduceToNat, Int.reduceEq, Int.reduceMul, Int.reduceNe, Nat.reduceLeDiff, Nat.reduceLT, Nat.reduceAdd, Nat.reduceSub, Nat.reduceEqDiff, Int.cast_ofNat_Int, reduceCtorEq]
  | _ => simp only [S0, S1, S2, S3, S4, S5, S6, S7, S8, S9, S10, S11, S12, S13, S14, S15, S16, S17, SD0, SD1, List.map_cons, List.map_nil, List.map_append, List.length_append, Int.reduceLT, Int.reduceLE, Int.reduceGT, Int.reduceGE, Int.reduceAdd, Int.reduceSub, Int.reduceNeg, Int.reduceToNat, Int.reduceEq, Int.reduceMul, Int.reduceNe, Nat.reduceLeDiff, Nat.reduceLT, Nat.reduceAdd, Nat.reduceSub, Nat.reduceEqDiff, Int.cast_ofNat_Int, reduceCtorEq, taskB]
theorem taskB_ok {m n : Nat} {t : Task} (h : TaskOk m n t) : taskB m n (tD t) = true := by
  show (decide ((t.map tI).length = m) && (t.map tI).all (rowB n)) = true
  rw [List.length_map, decide_eq_true h.1, Bool.true_and, List.all_eq_true]
  intro x hx
  obtain ⟨r, hr, rfl⟩ := List.mem_map.mp hx
  obtain ⟨h1, h2⟩ := h.2 r hr
  show (decide ((r.map D.int).length = n) && (r.map D.int).all fun x => within x 0 9) = true
  rw [List.length_map, decide_eq_true h1, Bool.true_and, List.all_eq_true]
  intro y hy
  obtain ⟨v, hv, rfl⟩ := List.mem_map.mp hy
  have := h2 v hv
  show (decide (0 ≤ v) && decide (v ≤ 9)) = true
  rw [decide_eq_true this.1, decide_eq_true this.2]
  rfl
theorem pl_tD {m n : Nat} {t : Task} (h : TaskOk m n t) (hm : m ≤ 12) (hn : n ≤ 12) : PlN 12 3 (tD t) := by
  refine PlN.tup (by rw [List.length_map, h.1]; exact hm) fun x hx => ?_
  obtain ⟨r, hr, rfl⟩ := List.mem_map.mp hx
  refine PlN.tup (n := 1) (by rw [List.length_map, (h.2 r hr).1]; exact hn) fun x hx => ?_
  obtain ⟨v, hv, rfl⟩ := List.mem_map.mp hx
  exact PlN.int
theorem need_all_ok {k : Nat} {s a : Side} {t : Task} (hs : SideOk s) (ha : SideOk a) (ht : TaskOk s.length a.length t) : EV (k + 4) f_need_all [sD s, sD a, tD t] = .ok .non false none := by
  refine runF_eq (fd := c_need_all) rfl rfl ?_
  show WS (exs _ _ c_need_all.body [.sh (sD s), .sh (sD a), .sh (tD t)]) _ _ _
  unfold c_need_all
  have e1 := is_side_ok (k := k) (pl_sD hs) (by omega)
  have e2 := is_side_ok (k := k) (pl_sD ha) (by omega)
  have e3 := is_task_ok (k := k + 1) (ls := s.map hD) (la := a.map hD) (pl_tD ht (by have := hs.2.1; omega) (by have := ha.2.1; omega)) (by omega)
  have e3 : EV (k + 3) f_is_task [sD s, sD a, tD t] = .ok (.bl true) false none := by
    rw [List.length_map, List.length_map, taskB_ok ht] at e3
    exact e3
  simp only [S0, S1, S2, S3, S4, S5, S6, S7, S8, S9, S10, S11, S12, S13, S14, S15, S16, S17, SD0, SD1, List.map_cons, List.map_nil, List.map_append, List.length_append, Int.reduceLT, Int.reduceLE, Int.reduceGT, Int.reduceGE, Int.reduceAdd, Int.reduceSub, Int.reduceNeg, Int.reduceToNat, Int.reduceEq, Int.reduceMul, Int.reduceNe, Nat.reduceLeDiff, Nat.reduceLT, Nat.reduceAdd, Nat.reduceSub, Nat.reduceEqDiff, Int.cast_ofNat_Int, reduceCtorEq, e1, e2, e3, sideB_sD hs, sideB_sD ha]
theorem need_all_side {k L n : Nat} {d1 d2 d3 : D} (p1 : PlN L n d1) (p2 : PlN L n d2) (hL : L ≤ 1000) (h : sideB d1 = false ∨ sideB d2 = false) : EV (k + 4) f_need_all [d1, d2, d3] = .ex ⟨"InvalidSide", none⟩ := by
  refine runF_ex (fd := c_need_all) rfl rfl ?_
  show WS (exs _ _ c_need_all.body [.sh d1, .sh d2, .sh d3]) _ _ _
  unfold c_need_all
  have e1 := is_side_ok (k := k) p1 hL
  have e2 := is_side_ok (k := k) p2 hL
  cases q : sideB d1 with
  | false => simp only [S0, S1, S2, S3, S4, S5, S6, S7, S8, S9, S10, S11, S12, S13, S14, S15, S16, S17, SD0, SD1, List.map_cons, List.map_nil, List.map_append, List.length_append, Int.reduceLT, Int.reduceLE, Int.reduceGT, Int.reduceGE, Int.reduceAdd, Int.reduceSub, Int.reduceNeg, Int.reduceToNat, Int.reduceEq, Int.reduceMul, Int.reduceNe, Nat.reduceLeDiff, Nat.reduceLT, Nat.reduceAdd, Nat.reduceSub, Nat.reduceEqDiff, Int.cast_ofNat_Int, reduceCtorEq, e1, q]
  | true =>
    have q2 : sideB d2 = false := by
      rcases h with h | h
      · rw [q] at h; cases h
      · exact h
    simp only [S0, S1, S2, S3, S4, S5, S6, S7, S8, S9, S10, S11, S12, S13, S14, S15, S16, S17, SD0, SD1, List.map_cons, List.map_nil, List.map_append, List.length_append, Int.reduceLT, Int.reduceLE, Int.reduceGT, Int.reduceGE, Int.reduceAdd, Int.reduceSub, Int.reduceNeg, Int.reduceToNat, Int.reduceEq, Int.reduceMul, Int.reduceNe, Nat.reduceLeDiff, Nat.reduceLT, Nat.reduceAdd, Nat.reduceSub, Nat.reduceEqDiff, Int.cast_ofNat_Int, reduceCtorEq, e1, e2, q, q2]
theorem need_all_task {k L n : Nat} {s a : Side} {d : D} (hs : SideOk s) (ha : SideOk a) (p : PlN L n d) (hL : L ≤ 1000) (h : taskB s.length a.length d = false) : EV (k + 4) f_need_all [sD s, sD a, d] = .ex ⟨"InvalidTask", none⟩ := by
  refine runF_ex (fd := c_need_all) rfl rfl ?_
  show WS (exs _ _ c_need_all.body [.sh (sD s), .sh (sD a), .sh d]) _ _ _
  unfold c_need_all
  have e1 := is_side_ok (k := k) (pl_sD hs) (by omega)
  have e2 := is_side_ok (k := k) (pl_sD ha) (by omega)
  have e3 := is_task_ok (k := k + 1) (ls := s.map hD) (la := a.map hD) p hL
  have e3 : EV (k + 3) f_is_task [sD s, sD a, d] = .ok (.bl false) false none := by
    rw [List.length_map, List.length_map, h] at e3
    exact e3
  simp only [S0, S1, S2, S3, S4, S5, S6, S7, S8, S9, S10, S11, S12, S13, S14, S15, S16, S17, SD0, SD1, List.map_cons, List.map_nil, List.map_append, List.length_append, Int.reduceLT, Int.reduceLE, Int.reduceGT, Int.reduceGE, Int.reduceAdd, Int.reduceSub, Int.reduceNeg, Int.reduceToNat, Int.reduceEq, Int.reduceMul, Int.reduceNe, Nat.reduceLeDiff, Nat.reduceLT, Nat.reduceAdd, Nat.reduceSub, Nat.reduceEqDiff, Int.cast_ofNat_Int, reduceCtorEq, e1, e2, e3, sideB_sD hs, sideB_sD ha]
end Cor.L07

set_option Elab.async false
set_option linter.all false
set_option maxRecDepth 100000
set_option maxHeartbeats 2000000
/-! M07b: mistakes and alike runs. -/
namespace Cor.L07
open Cor
open PySem (Str)
/-! ### the ends as a function -/
noncomputable def fx (one other : Hab) : Int × Int := by
  classical
  exact if h : ∃ p : Int × Int, Fix one other p.1 p.2 then h.choose else (0, 0)
theorem fx_ok {one other : Hab} (h1 : HabOk one) (h2 : HabOk other) : Fix one other (fx one other).1 (fx one other).2 := by
  classical
  obtain ⟨m, y, f, _⟩ := ends_of_ok (k := 0) h1 h2
  have h : ∃ p : Int × Int, Fix one other p.1 p.2 := ⟨(m, y), f⟩
  unfold fx
  rw [dif_pos h]
  exact h.choose_spec
noncomputable def eD (one other : Hab) : D := endD one other (fx one other).1 (fx one other).2
noncomputable def an0 (one other : Hab) : Int := (at_ one (fx one other).1).2
noncomputable def an1 (one other : Hab) : Int := (at_ other (fx one other).2).2
theorem eD_eq (one other : Hab) : eD one other = .tup [.int (fx one other).1, .int (fx one other).2, .int (an0 one other), .int (an1 one other)] := rfl
theorem ends_of_fx {k : Nat} {one other : Hab} (h1 : HabOk one) (h2 : HabOk other) : EV (k + 2) f_ends_of [hD one, hD other] = .ok (eD one other) false none := by
  obtain ⟨m, y, f, e⟩ := ends_of_ok (k := k) h1 h2
  obtain ⟨rfl, rfl⟩ := (fx_ok h1 h2).uniq f
  exact e
theorem at_end_fx {k md : Nat} {dk : D} {one other : Hab} (hd : DeckOk md dk) (hm : md + 24 ≤ 2 ^ 38) (h1 : HabOk one) (h2 : HabOk other) : ∃ dk', EV (k + 3) f__law_at_end [dk, hD one, hD other] = .ok (eD one other) false (some dk') ∧ DeckOk (md + 24) dk' := at_end_ok hd hm h1 h2 (fx_ok h1 h2)
/-! ### places -/
theorem enm_get {l : List D} {i : Nat} {x : D} (h : (l.zipIdx.map fun p => D.tup [.int (p.2 : Nat), p.1])[i]? = some x) : ∃ d, l[i]? = some d ∧ x = .tup [.int i, d] := by
  rw [List.getElem?_map, List.getElem?_zipIdx] at h
  cases q : l[i]? with
  | none => rw [q] at h; cases h
  | some d =>
    rw [q] at h
    simp at h
    exact ⟨d, rfl, h.symm⟩
theorem rng_get {n i : Nat} {x : D} (h : ((List.range n).map fun k => D.int (k : Nat))[i]? = some x) : x = .int i := by
  simp only [List.getElem?_map, Option.map_eq_some_iff] at h
  obtain ⟨a, h1, rfl⟩ := h
  obtain ⟨h2, h3⟩ := List.getElem?_eq_some_iff.mp h1
  rw [List.getElem_range] at h3
  rw [h3]
theorem rng2_get {n i : Nat} {b : Int} {x : D} (h : ((List.range n).map fun k => D.int (b + (k : Nat)))[i]? = some x) : x = .int (b + i) := by
  simp only [List.getElem?_map, Option.map_eq_some_iff] at h
  obtain ⟨a, h1, rfl⟩ := h
  obtain ⟨h2, h3⟩ := List.getElem?_eq_some_iff.mp h1
  rw [List.getElem_range] at h3
  rw [h3]
theorem atI_nat {α : Type} {l : List α} {i : Nat} {x : α} (h : l[i]? = some x) : atI l (i : Int) = some x := by
  have hi := (List.getElem?_eq_some_iff.mp h).1
  rw [atI_ok (by omega) (by omega)]
  simpa using h
theorem side_get {s : Side} {i : Nat} (hs : SideOk s) (hi : i < s.length) : ∃ h, s[i]? = some h ∧ HabOk h ∧ s.getD i [] = h := by
  refine ⟨s[i], List.getElem?_eq_getElem hi, hs.2.2 _ (List.getElem_mem hi), ?_⟩
  rw [List.getD_eq_getElem?_getD, List.getElem?_eq_getElem hi]
  rfl
/-- the due answer -/
def due (t : Task) (i j : Nat) : Int := (t.getD i []).getD j 0
theorem due_get {m n : Nat} {t : Task} (ht : TaskOk m n t) {i j : Nat} (hi : i < m) (hj : j < n) : ∃ r, t[i]? = some r ∧ r[j]? = some (due t i j) ∧ r.length = n := by
  have h1 : i < t.length := by rw [ht.1]; exact hi
  have hl := (ht.2 _ (List.getElem_mem h1)).1
  refine ⟨t[i], List.getElem?_eq_getElem h1, ?_, hl⟩
  have e : t.getD i [] = t[i] := by rw [List.getD_eq_getElem?_getD, List.getElem?_eq_getElem h1]; rfl
  unfold due
  rw [e]
  have h2 : j < t[i].length := by rw [hl]; exact hj
  rw [List.getD_eq_getElem?_getD, List.getElem?_eq_getElem h2]
  rfl
theorem due_row {m n : Nat} {t : Task} (ht : TaskOk m n t) {i j : Nat} (hi : i < m) (hj : j < n) : atI (t.map tI) (i : Int) = some (tI (t.getD i [])) ∧ atI ((t.getD i []).map D.int) (j : Int) = some (.int (due t i j)) := by
  obtain ⟨r, h1, h2, h3⟩ := due_get ht hi hj
  have e : t.getD i [] = r := by rw [List.getD_eq_getElem?_getD, h1]; rfl
  rw [e]
  exact ⟨atI_nat (by rw [List.getElem?_map, h1]; rfl), atI_nat (by rw [List.getElem?_map, h2]; rfl)⟩
/-! ### the first mistake -/
noncomputable def cellO (s a : Side) (t : Task) (i j : Nat) : Option D :=
  if an0 (s.getD i []) (a.getD j []) = due t i j then (if an1 (s.getD i []) (a.getD j []) = due t i j then none else some (.tup [.int i, .int j, .int 1])) else some (.tup [.int i, .int j, .int 0])
noncomputable def misO (s a : Side) (t : Task) : Option D := (List.range s.length).findSome? fun i => (List.range a.length).findSome? fun j => cellO s a t i j
noncomputable def misD (s a : Side) (t : Task) : D := (misO s a t).getD .non
theorem first_mistake_ok {k : Nat} {s a : Side} {t : Task} (hs : SideOk s) (ha : SideOk a) (ht : TaskOk s.length a.length t) : EV (k + 3) f_first_mistake [sD s, sD a, tD t] = .ok (misD s a t) false none := by
  refine runF_eq (fd := c_first_mistake) rfl rfl ?_
  show WS (exs _ _ c_first_mistake.body [.sh (sD s), .sh (sD a), .sh (tD t), .un, .un, .un, .un, .un, .un]) _ _ _
  unfold c_first_mistake sD
  simp only [S0, S1, S2, S3, S4, S5, S6, S7, S8, S9, S10, S11, S12, S13, S14, S15, S16, S17, SD0, SD1, List.map_cons, List.map_nil, List.map_append, List.length_append, Int.reduceLT, Int.reduceLE, Int.reduceGT, Int.reduceGE, Int.reduceAdd, Int.reduceSub, Int.reduceNeg, Int.reduceToNat, Int.reduceEq, Int.reduceMul, Int.reduceNe, Nat.reduceLeDiff, Nat.reduceLT, Nat.reduceAdd, Nat.reduceSub, Nat.reduceEqDiff, Int.cast_ofNat_Int, reduceCtorEq]
  refine WS.forIx (n := s.length) (by simp) (fun i => (List.range a.length).findSome? fun j => cellO s a t i j) (fun i env => ∃ s3 s4 s5 s6 s7 s8, NI s3 ∧ NI s4 ∧ NI s5 ∧ NI s6 ∧ NI s7 ∧ NI s8 ∧ env = [.sh (.tup (s.map hD)), .sh (.tup (a.map hD)), .sh (tD t), s3, s4, s5, s6, s7, s8]) (fun _ => True) ⟨_, _, _, _, _, _, NI.un, NI.un, NI.un, NI.un, NI.un, NI.un, rfl⟩ ?_ ?_ ?_
  · rintro i env hi ⟨s3, s4, s5, s6, s7, s8, n3, n4, n5, n6, n7, n8, rfl⟩ x hx
    obtain ⟨d, hd, rfl⟩ := enm_get hx
    obtain ⟨one, h1, k1, g1⟩ := side_get hs hi
    have ed : d = hD one := by rw [List.getElem?_map, h1] at hd; exact (Option.some.inj hd).symm
    subst ed
    refine WS.asg1 [.sh (.tup (s.map hD)), .sh (.tup (a.map hD)), .sh (tD t), .sh (.int i), .sh (hD one), s5, s6, s7, s8] (by simp only [S0, S1, S2, S3, S4, S5, S6, S7, S8, S9, S10, S11, S12, S13, S14, S15, S16, S17, SD0, SD1, List.map_cons, List.map_nil, List.map_append, List.length_append, Int.reduceLT, Int.reduceLE, Int.reduceGT, Int.reduceGE, Int.reduceAdd, Int.reduceSub, Int.reduceNeg, Int.reduceToNat, Int.reduceEq, Int.reduceMul, Int.reduceNe, Nat.reduceLeDiff, Nat.reduceLT, Nat.reduceAdd, Nat.reduceSub, Nat.reduceEqDiff, Int.cast_ofNat_Int, reduceCtorEq, asK_ni n3, asK_ni n4]) ?_
    simp only [S0, S1, S2, S3, S4, S5, S6, S7, S8, S9, S10, S11, S12, S13, S14, S15, S16, S17, SD0, SD1, List.map_cons, List.map_nil, List.map_append, List.length_append, Int.reduceLT, Int.reduceLE, Int.reduceGT, Int.reduceGE, Int.reduceAdd, Int.reduceSub, Int.reduceNeg, Int.reduceToNat, Int.reduceEq, Int.reduceMul, Int.reduceNe, Nat.reduceLeDiff, Nat.reduceLT, Nat.reduceAdd, Nat.reduceSub, Nat.reduceEqDiff, Int.cast_ofNat_Int, reduceCtorEq]
    refine WS.forIx (n := a.length) (by simp) (fun j => cellO s a t i j) (fun j env => ∃ s5 s6 s7 s8, NI s5 ∧ NI s6 ∧ NI s7 ∧ NI s8 ∧ env = [.sh (.tup (s.map hD)), .sh (.tup (a.map hD)), .sh (tD t), .sh (.int i), .sh (hD one), s5, s6, s7, s8]) (fun _ => True) ⟨_, _, _, _, n5, n6, n7, n8, rfl⟩ ?_ ?_ ?_
    · rintro j env hj ⟨s5, s6, s7, s8, n5, n6, n7, n8, rfl⟩ x hx
      obtain ⟨d, hd, rfl⟩ := enm_get hx
      obtain ⟨other, h2, k2, g2⟩ := side_get ha hj
      have ed : d = hD other := by rw [List.getElem?_map, h2] at hd; exact (Option.some.inj hd).symm
      subst ed
      obtain ⟨d1, d2⟩ := due_row ht hi hj
      have e := ends_of_fx (k := k) k1 k2
      rw [eD_eq] at e
      have hc : cellO s a t i j = if an0 one other = due t i j then (if an1 one other = due t i j then none else some (.tup [.int i, .int j, .int 1])) else some (.tup [.int i, .int j, .int 0]) := by
        unfold cellO
        rw [g1, g2]
      rw [hc]
      refine WS.asg1 [.sh (.tup (s.map hD)), .sh (.tup (a.map hD)), .sh (tD t), .sh (.int i), .sh (hD one), .sh (.int j), .sh (hD other), s7, s8] (by simp only [S0, S1, S2, S3, S4, S5, S6, S7, S8, S9, S10, S11, S12, S13, S14, S15, S16, S17, SD0, SD1, List.map_cons, List.map_nil, List.map_append, List.length_append, Int.reduceLT, Int.reduceLE, Int.reduceGT, Int.reduceGE, Int.reduceAdd, Int.reduceSub, Int.reduceNeg, Int.reduceToNat, Int.reduceEq, Int.reduceMul, Int.reduceNe, Nat.reduceLeDiff, Nat.reduceLT, Nat.reduceAdd, Nat.reduceSub, Nat.reduceEqDiff, Int.cast_ofNat_Int, reduceCtorEq, asK_ni n5, asK_ni n6]) ?_
      by_cases q0 : an0 one other = due t i j
      · by_cases q1 : an1 one other = due t i j
        · simp only [S0, S1, S2, S3, S4, S5, S6, S7, S8, S9, S10, S11, S12, S13, S14, S15, S16, S17, SD0, SD1, List.map_cons, List.map_nil, List.map_append, List.length_append, Int.reduceLT, Int.reduceLE, Int.reduceGT, Int.reduceGE, Int.reduceAdd, Int.reduceSub, Int.reduceNeg, Int.reduceToNat, Int.reduceEq, Int.reduceMul, Int.reduceNe, Nat.reduceLeDiff, Nat.reduceLT, Nat.reduceAdd, Nat.reduceSub, Nat.reduceEqDiff, Int.cast_ofNat_Int, reduceCtorEq, e, asK_ni n7, asK_ni n8, forL_c, tD, tI, d1, d2, q0, q1]
          exact ⟨_, _, _, _, NI.sh, NI.sh, NI.sh, NI.sh, rfl⟩
        · simp only [S0, S1, S2, S3, S4, S5, S6, S7, S8, S9, S10, S11, S12, S13, S14, S15, S16, S17, SD0, SD1, List.map_cons, List.map_nil, List.map_append, List.length_append, Int.reduceLT, Int.reduceLE, Int.reduceGT, Int.reduceGE, Int.reduceAdd, Int.reduceSub, Int.reduceNeg, Int.reduceToNat, Int.reduceEq, Int.reduceMul, Int.reduceNe, Nat.reduceLeDiff, Nat.reduceLT, Nat.reduceAdd, Nat.reduceSub, Nat.reduceEqDiff, Int.cast_ofNat_Int, reduceCtorEq, e, asK_ni n7, asK_ni n8, forL_c, tD, tI, d1, d2, q0, q1]
      · simp only [S0, S1, S2, S3, S4, S5, S6, S7, S8, S9, S10, S11, S12, S13, S14, S15, S16, S17, SD0, SD1, List.map_cons, List.map_nil, List.map_append, List.length_append, Int.reduceLT, Int.reduceLE, Int.reduceGT, Int.reduceGE, Int.reduceAdd, Int.reduceSub, Int.reduceNeg, Int.reduceToNat, Int.reduceEq, Int.reduceMul, Int.reduceNe, Nat.reduceLeDiff, Nat.reduceLT, Nat.reduceAdd, Nat.reduceSub, Nat.reduceEqDiff, Int.cast_ofNat_Int, reduceCtorEq, e, asK_ni n7, asK_ni n8, forL_c, tD, tI, d1, d2, q0]
    · rintro hn env ⟨s5, s6, s7, s8, n5, n6, n7, n8, rfl⟩
      simp only [S0, S1, S2, S3, S4, S5, S6, S7, S8, S9, S10, S11, S12, S13, S14, S15, S16, S17, SD0, SD1, List.map_cons, List.map_nil, List.map_append, List.length_append, Int.reduceLT, Int.reduceLE, Int.reduceGT, Int.reduceGE, Int.reduceAdd, Int.reduceSub, Int.reduceNeg, Int.reduceToNat, Int.reduceEq, Int.reduceMul, Int.reduceNe, Nat.reduceLeDiff, Nat.reduceLT, Nat.reduceAdd, Nat.reduceSub, Nat.reduceEqDiff, Int.cast_ofNat_Int, reduceCtorEq]
      exact ⟨hn, _, _, _, _, _, _, NI.sh, NI.sh, n5, n6, n7, n8, rfl⟩
    · rintro d e hd _
      exact ⟨hd, rfl, trivial⟩
  · rintro hn env ⟨s3, s4, s5, s6, s7, s8, n3, n4, n5, n6, n7, n8, rfl⟩
    have : misD s a t = .non := by unfold misD misO; rw [hn]; rfl
    rw [this]
    simp only [S0, S1, S2, S3, S4, S5, S6, S7, S8, S9, S10, S11, S12, S13, S14, S15, S16, S17, SD0, SD1, List.map_cons, List.map_nil, List.map_append, List.length_append, Int.reduceLT, Int.reduceLE, Int.reduceGT, Int.reduceGE, Int.reduceAdd, Int.reduceSub, Int.reduceNeg, Int.reduceToNat, Int.reduceEq, Int.reduceMul, Int.reduceNe, Nat.reduceLeDiff, Nat.reduceLT, Nat.reduceAdd, Nat.reduceSub, Nat.reduceEqDiff, Int.cast_ofNat_Int, reduceCtorEq]
  · rintro d e hd _
    have : misD s a t = d := by unfold misD misO; rw [hd]; rfl
    exact ⟨this.symm, rfl⟩
/-- the law's first mistake -/
theorem law_mistake_ok {k md : Nat} {dk : D} {s a : Side} {t : Task} (hd : DeckOk md dk) (hm : md + 400 ≤ 2 ^ 38) (hs : SideOk s) (ha : SideOk a) (ht : TaskOk s.length a.length t) : ∃ dk', EV (k + 4) f__law_mistake [dk, sD s, sD a, tD t] = .ok (misD s a t) false (some dk') ∧ DeckOk (md + 400) dk' := by
  have key : ∃ v fr d', EV (k + 4) f__law_mistake [dk, sD s, sD a, tD t] = .ok v fr (some d') ∧ v = misD s a t ∧ fr = false ∧ DeckOk (md + 400) d' := by
    refine runF_io (fd := c__law_mistake) (P := fun v fr d' => v = misD s a t ∧ fr = false ∧ DeckOk (md + 400) d') rfl rfl ?_
    show WS (exs _ _ c__law_mistake.body [.io dk, .sh (sD s), .sh (sD a), .sh (tD t), .un, .un, .un, .un]) _ _ _
    unfold c__law_mistake sD
    have hb1 : (-1000000 : Int) ≤ s.length ∧ (s.length : Int) ≤ 1000000 := by have := hs.2.1; omega
    have hb2 : (-1000000 : Int) ≤ a.length ∧ (a.length : Int) ≤ 1000000 := by have := ha.2.1; omega
    simp only [S0, S1, S2, S3, S4, S5, S6, S7, S8, S9, S10, S11, S12, S13, S14, S15, S16, S17, SD0, SD1, List.map_cons, List.map_nil, List.map_append, List.length_append, Int.reduceLT, Int.reduceLE, Int.reduceGT, Int.reduceGE, Int.reduceAdd, Int.reduceSub, Int.reduceNeg, Int.reduceToNat, Int.reduceEq, Int.reduceMul, Int.reduceNe, Nat.reduceLeDiff, Nat.reduceLT, Nat.reduceAdd, Nat.reduceSub, Nat.reduceEqDiff, Int.cast_ofNat_Int, reduceCtorEq, List.length_map, hb1]
    refine WS.forIx (n := s.length) (by simp) (fun i => (List.range a.length).findSome? fun j => cellO s a t i j) (fun i env => ∃ dk s4 s5 s6 s7, NI s4 ∧ NI s5 ∧ NI s6 ∧ NI s7 ∧ env = [.io dk, .sh (.tup (s.map hD)), .sh (.tup (a.map hD)), .sh (tD t), s4, s5, s6, s7] ∧ DeckOk (md + 100 * i) dk) (fun e => ∃ dk, e[0]? = some (.io dk) ∧ DeckOk (md + 400) dk) ⟨dk, _, _, _, _, NI.un, NI.un, NI.un, NI.un, rfl, hd⟩ ?_ ?_ ?_
    · rintro i env hi ⟨dk, s4, s5, s6, s7, n4, n5, n6, n7, rfl, hdk⟩ x hx
      have ex := rng_get (n := s.length) (by simpa using hx)
      subst ex
      obtain ⟨one, h1, k1, g1⟩ := side_get hs hi
      have at1 : atI (s.map hD) (i : Int) = some (hD one) := atI_nat (by rw [List.getElem?_map, h1]; rfl)
      have hi4 : i < 4 := by have := hs.2.1; omega
      refine WS.asg1 [.io dk, .sh (.tup (s.map hD)), .sh (.tup (a.map hD)), .sh (tD t), .sh (.int i), s5, s6, s7] (by simp only [S0, S1, S2, S3, S4, S5, S6, S7, S8, S9, S10, S11, S12, S13, S14, S15, S16, S17, SD0, SD1, List.map_cons, List.map_nil, List.map_append, List.length_append, Int.reduceLT, Int.reduceLE, Int.reduceGT, Int.reduceGE, Int.reduceAdd, Int.reduceSub, Int.reduceNeg, Int.reduceToNat, Int.reduceEq, Int.reduceMul, Int.reduceNe, Nat.reduceLeDiff, Nat.reduceLT, Nat.reduceAdd, Nat.reduceSub, Nat.reduceEqDiff, Int.cast_ofNat_Int, reduceCtorEq, asK_ni n4]) ?_
      simp only [S0, S1, S2, S3, S4, S5, S6, S7, S8, S9, S10, S11, S12, S13, S14, S15, S16, S17, SD0, SD1, List.map_cons, List.map_nil, List.map_append, List.length_append, Int.reduceLT, Int.reduceLE, Int.reduceGT, Int.reduceGE, Int.reduceAdd, Int.reduceSub, Int.reduceNeg, Int.reduceToNat, Int.reduceEq, Int.reduceMul, Int.reduceNe, Nat.reduceLeDiff, Nat.reduceLT, Nat.reduceAdd, Nat.reduceSub, Nat.reduceEqDiff, Int.cast_ofNat_Int, reduceCtorEq, List.length_map, hb2]
      refine WS.forIx (n := a.length) (by simp) (fun j => cellO s a t i j) (fun j env => ∃ dk s5 s6 s7, NI s5 ∧ NI s6 ∧ NI s7 ∧ env = [.io dk, .sh (.tup (s.map hD)), .sh (.tup (a.map hD)), .sh (tD t), .sh (.int i), s5, s6, s7] ∧ DeckOk (md + 100 * i + 24 * j) dk) (fun e => ∃ dk, e[0]? = some (.io dk) ∧ DeckOk (md + 400) dk) ⟨dk, _, _, _, n5, n6, n7, rfl, hdk⟩ ?_ ?_ ?_
      · rintro j env hj ⟨dk, s5, s6, s7, n5, n6, n7, rfl, hdk⟩ x hx
        have ex := rng_get (n := a.length) (by simpa using hx)
        subst ex
        obtain ⟨other, h2, k2, g2⟩ := side_get ha hj
        have at2 : atI (a.map hD) (j : Int) = some (hD other) := atI_nat (by rw [List.getElem?_map, h2]; rfl)
        have hj4 : j < 4 := by have := ha.2.1; omega
        obtain ⟨d1, d2⟩ := due_row ht hi hj
        obtain ⟨dk', e, hdk'⟩ := at_end_fx (k := k) hdk (by omega) k1 k2
        rw [eD_eq] at e
        have hc : cellO s a t i j = if an0 one other = due t i j then (if an1 one other = due t i j then none else some (.tup [.int i, .int j, .int 1])) else some (.tup [.int i, .int j, .int 0]) := by
          unfold cellO
          rw [g1, g2]
        rw [hc]
        refine WS.asg1 [.io dk, .sh (.tup (s.map hD)), .sh (.tup (a.map hD)), .sh (tD t), .sh (.int i), .sh (.int j), s6, s7] (by simp only [S0, S1, S2, S3, S4, S5, S6, S7, S8, S9, S10, S11, S12, S13, S14, S15, S16, S17, SD0, SD1, List.map_cons, List.map_nil, List.map_append, List.length_append, Int.reduceLT, Int.reduceLE, Int.reduceGT, Int.reduceGE, Int.reduceAdd, Int.reduceSub, Int.reduceNeg, Int.reduceToNat, Int.reduceEq, Int.reduceMul, Int.reduceNe, Nat.reduceLeDiff, Nat.reduceLT, Nat.reduceAdd, Nat.reduceSub, Nat.reduceEqDiff, Int.cast_ofNat_Int, reduceCtorEq, asK_ni n5]) ?_
        by_cases q0 : an0 one other = due t i j
        · by_cases q1 : an1 one other = due t i j
          · simp only [S0, S1, S2, S3, S4, S5, S6, S7, S8, S9, S10, S11, S12, S13, S14, S15, S16, S17, SD0, SD1, List.map_cons, List.map_nil, List.map_append, List.length_append, Int.reduceLT, Int.reduceLE, Int.reduceGT, Int.reduceGE, Int.reduceAdd, Int.reduceSub, Int.reduceNeg, Int.reduceToNat, Int.reduceEq, Int.reduceMul, Int.reduceNe, Nat.reduceLeDiff, Nat.reduceLT, Nat.reduceAdd, Nat.reduceSub, Nat.reduceEqDiff, Int.cast_ofNat_Int, reduceCtorEq, at1, at2, e, asK_ni n6, asK_ni n7, forL_c, tD, tI, d1, d2, q0, q1]
            exact ⟨dk', _, _, _, NI.sh, NI.sh, NI.sh, rfl, hdk'.mono (by omega)⟩
          · simp only [S0, S1, S2, S3, S4, S5, S6, S7, S8, S9, S10, S11, S12, S13, S14, S15, S16, S17, SD0, SD1, List.map_cons, List.map_nil, List.map_append, List.length_append, Int.reduceLT, Int.reduceLE, Int.reduceGT, Int.reduceGE, Int.reduceAdd, Int.reduceSub, Int.reduceNeg, Int.reduceToNat, Int.reduceEq, Int.reduceMul, Int.reduceNe, Nat.reduceLeDiff, Nat.reduceLT, Nat.reduceAdd, Nat.reduceSub, Nat.reduceEqDiff, Int.cast_ofNat_Int, reduceCtorEq, at1, at2, e, asK_ni n6, asK_ni n7, forL_c, tD, tI, d1, d2, q0, q1]
            exact ⟨dk', rfl, hdk'.mono (by omega)⟩
        · simp only [S0, S1, S2, S3, S4, S5, S6, S7, S8, S9, S10, S11, S12, S13, S14, S15, S16, S17, SD0, SD1, List.map_cons, List.map_nil, List.map_append, List.length_append, Int.reduceLT, Int.reduceLE, Int.reduceGT, Int.reduceGE, Int.reduceAdd, Int.reduceSub, Int.reduceNeg, Int.reduceToNat, Int.reduceEq, Int.reduceMul, Int.reduceNe, Nat.reduceLeDiff, Nat.reduceLT, Nat.reduceAdd, Nat.reduceSub, Nat.reduceEqDiff, Int.cast_ofNat_Int, reduceCtorEq, at1, at2, e, asK_ni n6, asK_ni n7, forL_c, tD, tI, d1, d2, q0]
          exact ⟨dk', rfl, hdk'.mono (by omega)⟩
      · rintro hn env ⟨dk, s5, s6, s7, n5, n6, n7, rfl, hdk⟩
        have := ha.2.1
        simp only [S0, S1, S2, S3, S4, S5, S6, S7, S8, S9, S10, S11, S12, S13, S14, S15, S16, S17, SD0, SD1, List.map_cons, List.map_nil, List.map_append, List.length_append, Int.reduceLT, Int.reduceLE, Int.reduceGT, Int.reduceGE, Int.reduceAdd, Int.reduceSub, Int.reduceNeg, Int.reduceToNat, Int.reduceEq, Int.reduceMul, Int.reduceNe, Nat.reduceLeDiff, Nat.reduceLT, Nat.reduceAdd, Nat.reduceSub, Nat.reduceEqDiff, Int.cast_ofNat_Int, reduceCtorEq]
        exact ⟨hn, dk, _, _, _, _, NI.sh, n5, n6, n7, rfl, hdk.mono (by omega)⟩
      · rintro d e hd ⟨dk, h1, h2⟩
        exact ⟨hd, rfl, dk, h1, h2⟩
    · rintro hn env ⟨dk, s4, s5, s6, s7, n4, n5, n6, n7, rfl, hdk⟩
      have : misD s a t = .non := by unfold misD misO; rw [hn]; rfl
      rw [this]
      have := hs.2.1
      simp only [S0, S1, S2, S3, S4, S5, S6, S7, S8, S9, S10, S11, S12, S13, S14, S15, S16, S17, SD0, SD1, List.map_cons, List.map_nil, List.map_append, List.length_append, Int.reduceLT, Int.reduceLE, Int.reduceGT, Int.reduceGE, Int.reduceAdd, Int.reduceSub, Int.reduceNeg, Int.reduceToNat, Int.reduceEq, Int.reduceMul, Int.reduceNe, Nat.reduceLeDiff, Nat.reduceLT, Nat.reduceAdd, Nat.reduceSub, Nat.reduceEqDiff, Int.cast_ofNat_Int, reduceCtorEq]
      exact ⟨dk, rfl, hdk.mono (by omega)⟩
    · rintro d e hd ⟨dk, h1, h2⟩
      have : misD s a t = d := by unfold misD misO; rw [hd]; rfl
      exact ⟨dk, h1, this.symm, rfl, h2⟩
  obtain ⟨v, fr, d', e, rfl, rfl, h3⟩ := key
  exact ⟨d', e, h3⟩
/-! ### alike runs -/
theorem came_to_ok {k : Nat} {s a : Side} (hs : SideOk s) (ha : SideOk a) {own far : Nat} :
    (own < s.length → far < a.length → EV (k + 3) f_came_to [sD s, sD a, .int 0, .int own, .int far] = .ok (.int (fx (s.getD own []) (a.getD far [])).1) false none) ∧
    (own < a.length → far < s.length → EV (k + 3) f_came_to [sD s, sD a, .int 1, .int own, .int far] = .ok (.int (fx (s.getD far []) (a.getD own [])).2) false none) := by
  constructor
  · intro h1 h2
    obtain ⟨one, a1, k1, g1⟩ := side_get hs h1
    obtain ⟨other, a2, k2, g2⟩ := side_get ha h2
    have e := ends_of_fx (k := k) k1 k2
    rw [eD_eq] at e
    have b1 : atI (s.map hD) (own : Int) = some (hD one) := atI_nat (by rw [List.getElem?_map, a1]; rfl)
    have b2 : atI (a.map hD) (far : Int) = some (hD other) := atI_nat (by rw [List.getElem?_map, a2]; rfl)
    rw [g1, g2]
    refine runF_eq (fd := c_came_to) rfl rfl ?_
    show WS (exs _ _ c_came_to.body [.sh (sD s), .sh (sD a), .sh (.int 0), .sh (.int own), .sh (.int far)]) _ _ _
    unfold c_came_to sD
    simp only [S0, S1, S2, S3, S4, S5, S6, S7, S8, S9, S10, S11, S12, S13, S14, S15, S16, S17, SD0, SD1, List.map_cons, List.map_nil, List.map_append, List.length_append, Int.reduceLT, Int.reduceLE, Int.reduceGT, Int.reduceGE, Int.reduceAdd, Int.reduceSub, Int.reduceNeg, Int.reduceToNat, Int.reduceEq, Int.reduceMul, Int.reduceNe, Nat.reduceLeDiff, Nat.reduceLT, Nat.reduceAdd, Nat.reduceSub, Nat.reduceEqDiff, Int.cast_ofNat_Int, reduceCtorEq, b1, b2, e]
  · intro h1 h2
    obtain ⟨other, a1, k1, g1⟩ := side_get ha h1
    obtain ⟨one, a2, k2, g2⟩ := side_get hs h2
    have e := ends_of_fx (k := k) k2 k1
    rw [eD_eq] at e
    have b1 : atI (a.map hD) (own : Int) = some (hD other) := atI_nat (by rw [List.getElem?_map, a1]; rfl)
    have b2 : atI (s.map hD) (far : Int) = some (hD one) := atI_nat (by rw [List.getElem?_map, a2]; rfl)
    rw [g1, g2]
    refine runF_eq (fd := c_came_to) rfl rfl ?_
    show WS (exs _ _ c_came_to.body [.sh (sD s), .sh (sD a), .sh (.int 1), .sh (.int own), .sh (.int far)]) _ _ _
    unfold c_came_to sD
    simp only [S0, S1, S2, S3, S4, S5, S6, S7, S8, S9, S10, S11, S12, S13, S14, S15, S16, S17, SD0, SD1, List.map_cons, List.map_nil, List.map_append, List.length_append, Int.reduceLT, Int.reduceLE, Int.reduceGT, Int.reduceGE, Int.reduceAdd, Int.reduceSub, Int.reduceNeg, Int.reduceToNat, Int.reduceEq, Int.reduceMul, Int.reduceNe, Nat.reduceLeDiff, Nat.reduceLT, Nat.reduceAdd, Nat.reduceSub, Nat.reduceEqDiff, Int.cast_ofNat_Int, reduceCtorEq, b1, b2, e]
end Cor.L07

set_option Elab.async false
set_option linter.all false
set_option maxRecDepth 100000
set_option maxHeartbeats 2000000
/-! M07c: alike runs. -/
namespace Cor.L07
open Cor
open PySem (Str)
def alkCell (e own : Int) (vs : List Int) (cm : Nat → Int) (f k : Nat) : Option D :=
  if vs.getD f 0 = vs.getD (f + 1 + k) 0 then none else some (.tup [.int e, .int own, .int f, .int ((f : Int) + 1 + k), .int (if cm (f + 1 + k) < cm f then cm (f + 1 + k) else cm f)])
def alkRow (e own : Int) (vs : List Int) (cm : Nat → Int) : Option D := (List.range vs.length).findSome? fun f => (List.range (vs.length - (f + 1))).findSome? fun k => alkCell e own vs cm f k
def col (t : Task) (own : Nat) : List Int := t.map fun r => r.getD own 0
noncomputable def alk0 (s a : Side) (t : Task) : Option D := (List.range s.length).findSome? fun (own : Nat) => alkRow 0 own (t.getD own []) (fun far => (fx (s.getD own []) (a.getD far [])).1)
noncomputable def alk1 (s a : Side) (t : Task) : Option D := (List.range a.length).findSome? fun (own : Nat) => alkRow 1 own (col t own) (fun far => (fx (s.getD far []) (a.getD own [])).2)
noncomputable def alkD (s a : Side) (t : Task) : D := ((alk0 s a t).or (alk1 s a t)).getD .non
theorem min2 (x y : Int) : ((D.ints? [.int x, .int y]).bind minI).map D.int = some (.int (if y < x then y else x)) := rfl
theorem getD_at {vs : List Int} {i : Nat} (h : i < vs.length) : (vs.map D.int)[i]? = some (.int (vs.getD i 0)) := by
  rw [List.getElem?_map, List.getD_eq_getElem?_getD, List.getElem?_eq_getElem h]
  rfl
/-- one row -/
theorem prog_row {k : Nat} {s a t : D} {e own : Int} {s4 row : D} {vs : List Int} {cm : Nat → Int} (hrow : row = .tup (vs.map D.int) ∨ row = .lst (vs.map D.int)) (hl : vs.length ≤ 100) (hcm : ∀ far, far < vs.length → EV k f_came_to [s, a, .int e, .int own, .int far] = .ok (.int (cm far)) false none)
    {s7 s8 s9 s10 s11 s12 : Sl} (n7 : NI s7) (n8 : NI s8) (n9 : NI s9) (n11 : NI s11) {N : Env → Prop} {T : D → Bool → Env → Prop} {E : Exc → Env → Prop}
    (done : alkRow e own vs cm = none → ∀ s7 s8 s9, NI s7 → NI s8 → NI s9 → N [.sh s, .sh a, .sh t, .sh (.int e), .sh s4, .sh (.int own), .sh row, s7, s8, s9, s10, s11, s12]) (ret : ∀ d env, alkRow e own vs cm = some d → T d false env) :
    WS (exs (EV k) 1000000 [.for_ (.tup [.name 7, .name 8]) (.enm (.var 6)) [.for_ (.name 9) (.rng2 (.bin .add (.var 7) (.lit (.int 1))) (.blt .len [.var 6])) [.ite (.cmp .ne (.var 8) (.idx (.var 6) (.var 9))) [.asg (.name 11) (.comp (.call f_came_to [.var 0, .var 1, .var 3, .var 5, .var 12]) (.name 12) (.seq (.tup [.var 7, .var 9])) [] [12]), .ret (.tup [.var 3, .var 5, .var 7, .var 9, .blt .min [.var 11]])] []]]]
      [.sh s, .sh a, .sh t, .sh (.int e), .sh s4, .sh (.int own), .sh row, s7, s8, s9, s10, s11, s12]) N T E := by
  have it : row.items? = some (vs.map D.int) := by rcases hrow with rfl | rfl <;> rfl
  have ln : bltD .len [row] = some (.int vs.length) := by
    rcases hrow with rfl | rfl
    · show some (D.int (vs.map D.int).length) = _; rw [List.length_map]
    · show some (D.int (vs.map D.int).length) = _; rw [List.length_map]
  have ix : ∀ i : Int, idxD row (.int i) = atI (vs.map D.int) i := fun i => by rcases hrow with rfl | rfl <;> rfl
  simp only [S0, S1, S2, S3, S4, S5, S6, S7, S8, S9, S10, S11, S12, S13, S14, S15, S16, S17, SD0, SD1, List.map_cons, List.map_nil, List.map_append, List.length_append, Int.reduceLT, Int.reduceLE, Int.reduceGT, Int.reduceGE, Int.reduceAdd, Int.reduceSub, Int.reduceNeg, Int.reduceToNat, Int.reduceEq, Int.reduceMul, Int.reduceNe, Nat.reduceLeDiff, Nat.reduceLT, Nat.reduceAdd, Nat.reduceSub, Nat.reduceEqDiff, Int.cast_ofNat_Int, reduceCtorEq, it]
  refine WS.forIx (n := vs.length) (by simp) (fun f => (List.range (vs.length - (f + 1))).findSome? fun k => alkCell e own vs cm f k) (fun f env => ∃ s7 s8 s9, NI s7 ∧ NI s8 ∧ NI s9 ∧ env = [.sh s, .sh a, .sh t, .sh (.int e), .sh s4, .sh (.int own), .sh row, s7, s8, s9, s10, s11, s12]) (fun _ => True) ⟨_, _, _, n7, n8, n9, rfl⟩ ?_ ?_ ?_
  · rintro f env hf ⟨s7, s8, s9, n7, n8, n9, rfl⟩ x hx
    obtain ⟨d, hd, rfl⟩ := enm_get hx
    rw [getD_at hf] at hd
    cases hd
    refine WS.asg1 [.sh s, .sh a, .sh t, .sh (.int e), .sh s4, .sh (.int own), .sh row, .sh (.int f), .sh (.int (vs.getD f 0)), s9, s10, s11, s12] (by simp only [S0, S1, S2, S3, S4, S5, S6, S7, S8, S9, S10, S11, S12, S13, S14, S15, S16, S17, SD0, SD1, List.map_cons, List.map_nil, List.map_append, List.length_append, Int.reduceLT, Int.reduceLE, Int.reduceGT, Int.reduceGE, Int.reduceAdd, Int.reduceSub, Int.reduceNeg, Int.reduceToNat, Int.reduceEq, Int.reduceMul, Int.reduceNe, Nat.reduceLeDiff, Nat.reduceLT, Nat.reduceAdd, Nat.reduceSub, Nat.reduceEqDiff, Int.cast_ofNat_Int, reduceCtorEq, asK_ni n7, asK_ni n8]) ?_
    have hb : -1000000 ≤ (f : Int) + 1 ∧ (f : Int) + 1 ≤ 1000000 ∧ (-1000000 : Int) ≤ vs.length ∧ (vs.length : Int) ≤ 1000000 := by omega
    simp only [S0, S1, S2, S3, S4, S5, S6, S7, S8, S9, S10, S11, S12, S13, S14, S15, S16, S17, SD0, SD1, List.map_cons, List.map_nil, List.map_append, List.length_append, Int.reduceLT, Int.reduceLE, Int.reduceGT, Int.reduceGE, Int.reduceAdd, Int.reduceSub, Int.reduceNeg, Int.reduceToNat, Int.reduceEq, Int.reduceMul, Int.reduceNe, Nat.reduceLeDiff, Nat.reduceLT, Nat.reduceAdd, Nat.reduceSub, Nat.reduceEqDiff, Int.cast_ofNat_Int, reduceCtorEq, ln, hb]
    refine WS.forIx (n := vs.length - (f + 1)) (by rw [List.length_map, List.length_range]; omega) (fun k => alkCell e own vs cm f k) (fun i env => ∃ s9, NI s9 ∧ env = [.sh s, .sh a, .sh t, .sh (.int e), .sh s4, .sh (.int own), .sh row, .sh (.int f), .sh (.int (vs.getD f 0)), s9, s10, s11, s12]) (fun _ => True) ⟨_, n9, rfl⟩ ?_ ?_ ?_
    · rintro j env hj ⟨s9, n9, rfl⟩ x hx
      have ex := rng2_get hx
      subst ex
      have hj2 : f + 1 + j < vs.length := by omega
      have ec : (f : Int) + 1 + j = ((f + 1 + j : Nat) : Int) := by omega
      have e1 := hcm f hf
      have e2 := hcm (f + 1 + j) hj2
      rw [← ec] at e2
      have i2 : atI (vs.map D.int) ((f : Int) + 1 + j) = some (.int (vs.getD (f + 1 + j) 0)) := by rw [ec]; exact atI_nat (getD_at hj2)
      refine WS.asg1 [.sh s, .sh a, .sh t, .sh (.int e), .sh s4, .sh (.int own), .sh row, .sh (.int f), .sh (.int (vs.getD f 0)), .sh (.int ((f : Int) + 1 + j)), s10, s11, s12] (by simp only [S0, S1, S2, S3, S4, S5, S6, S7, S8, S9, S10, S11, S12, S13, S14, S15, S16, S17, SD0, SD1, List.map_cons, List.map_nil, List.map_append, List.length_append, Int.reduceLT, Int.reduceLE, Int.reduceGT, Int.reduceGE, Int.reduceAdd, Int.reduceSub, Int.reduceNeg, Int.reduceToNat, Int.reduceEq, Int.reduceMul, Int.reduceNe, Nat.reduceLeDiff, Nat.reduceLT, Nat.reduceAdd, Nat.reduceSub, Nat.reduceEqDiff, Int.cast_ofNat_Int, reduceCtorEq, asK_ni n9]) ?_
      unfold alkCell
      by_cases q : vs.getD f 0 = vs.getD (f + 1 + j) 0
      · simp only [S0, S1, S2, S3, S4, S5, S6, S7, S8, S9, S10, S11, S12, S13, S14, S15, S16, S17, SD0, SD1, List.map_cons, List.map_nil, List.map_append, List.length_append, Int.reduceLT, Int.reduceLE, Int.reduceGT, Int.reduceGE, Int.reduceAdd, Int.reduceSub, Int.reduceNeg, Int.reduceToNat, Int.reduceEq, Int.reduceMul, Int.reduceNe, Nat.reduceLeDiff, Nat.reduceLT, Nat.reduceAdd, Nat.reduceSub, Nat.reduceEqDiff, Int.cast_ofNat_Int, reduceCtorEq, ix, i2, q]
        exact ⟨_, NI.sh, rfl⟩
      · simp only [S0, S1, S2, S3, S4, S5, S6, S7, S8, S9, S10, S11, S12, S13, S14, S15, S16, S17, SD0, SD1, List.map_cons, List.map_nil, List.map_append, List.length_append, Int.reduceLT, Int.reduceLE, Int.reduceGT, Int.reduceGE, Int.reduceAdd, Int.reduceSub, Int.reduceNeg, Int.reduceToNat, Int.reduceEq, Int.reduceMul, Int.reduceNe, Nat.reduceLeDiff, Nat.reduceLT, Nat.reduceAdd, Nat.reduceSub, Nat.reduceEqDiff, Int.cast_ofNat_Int, reduceCtorEq, ix, i2, q, compL_c, compL_n, e1, e2, asK_ni n11, min2]
    · rintro hn env ⟨s9, n9, rfl⟩
      simp only [S0, S1, S2, S3, S4, S5, S6, S7, S8, S9, S10, S11, S12, S13, S14, S15, S16, S17, SD0, SD1, List.map_cons, List.map_nil, List.map_append, List.length_append, Int.reduceLT, Int.reduceLE, Int.reduceGT, Int.reduceGE, Int.reduceAdd, Int.reduceSub, Int.reduceNeg, Int.reduceToNat, Int.reduceEq, Int.reduceMul, Int.reduceNe, Nat.reduceLeDiff, Nat.reduceLT, Nat.reduceAdd, Nat.reduceSub, Nat.reduceEqDiff, Int.cast_ofNat_Int, reduceCtorEq]
      exact ⟨hn, _, _, _, NI.sh, NI.sh, n9, rfl⟩
    · rintro d env hd _
      exact ⟨hd, rfl, trivial⟩
  · rintro hn env ⟨s7, s8, s9, n7, n8, n9, rfl⟩
    simp only [S0, S1, S2, S3, S4, S5, S6, S7, S8, S9, S10, S11, S12, S13, S14, S15, S16, S17, SD0, SD1, List.map_cons, List.map_nil, List.map_append, List.length_append, Int.reduceLT, Int.reduceLE, Int.reduceGT, Int.reduceGE, Int.reduceAdd, Int.reduceSub, Int.reduceNeg, Int.reduceToNat, Int.reduceEq, Int.reduceMul, Int.reduceNe, Nat.reduceLeDiff, Nat.reduceLT, Nat.reduceAdd, Nat.reduceSub, Nat.reduceEqDiff, Int.cast_ofNat_Int, reduceCtorEq]
    exact done hn _ _ _ n7 n8 n9
  · rintro d env hd _
    exact ret d env hd
theorem row_len {m n : Nat} {t : Task} (ht : TaskOk m n t) {i : Nat} (hi : i < m) : t[i]? = some (t.getD i []) ∧ (t.getD i []).length = n := by
  have h1 : i < t.length := by rw [ht.1]; exact hi
  have e : t.getD i [] = t[i] := by rw [List.getD_eq_getElem?_getD, List.getElem?_eq_getElem h1]; rfl
  rw [e]
  exact ⟨List.getElem?_eq_getElem h1, (ht.2 _ (List.getElem_mem h1)).1⟩
theorem col_comp {k m n j : Nat} {t : Task} (ht : TaskOk m n t) (hj : j < n) (hm : m ≤ 100) {s0 s1 s3 s4 s5 s6 s7 s8 s9 s11 s12 : Sl} (m6 : NI s6) :
    WR (compL (asgT (.name 6)) (evTs (EV k) []) (ev (EV k) (.idx (.var 6) (.var 10))) [6] (t.map tI) [s0, s1, .sh (tD t), s3, s4, s5, s6, s7, s8, s9, .sh (.int j), s11, s12] [])
      (fun r => r.1 = (col t j).map D.int ∧ ∃ s6', NI s6' ∧ r.2 = [s0, s1, .sh (tD t), s3, s4, s5, s6', s7, s8, s9, .sh (.int j), s11, s12]) (fun _ _ => False) := by
  refine WR.compL (I := fun rest env acc => ∃ s6, NI s6 ∧ env = [s0, s1, .sh (tD t), s3, s4, s5, s6, s7, s8, s9, .sh (.int j), s11, s12] ∧ ∃ done rst, t = done ++ rst ∧ rest = rst.map tI ∧ acc = done.map fun r => D.int (r.getD j 0)) ⟨_, m6, rfl, [], t, rfl, rfl, rfl⟩ ?_ ?_
  · rintro x r env acc ⟨s6, m6, rfl, done, rst, hl, hr, rfl⟩
    match rst, hr with
    | w :: rst, hr =>
      injection hr with hx hr'
      subst hx hr'
      have hw : w ∈ t := by rw [hl]; simp
      have hlen := (ht.2 w hw).1
      have hd : done.length < 16777216 := by
        have := ht.1
        rw [hl, List.length_append] at this
        omega
      have ia : atI (w.map D.int) (j : Int) = some (.int (w.getD j 0)) := atI_nat (getD_at (by omega))
      simp only [S0, S1, S2, S3, S4, S5, S6, S7, S8, S9, S10, S11, S12, S13, S14, S15, S16, S17, SD0, SD1, List.map_cons, List.map_nil, List.map_append, List.length_append, Int.reduceLT, Int.reduceLE, Int.reduceGT, Int.reduceGE, Int.reduceAdd, Int.reduceSub, Int.reduceNeg, Int.reduceToNat, Int.reduceEq, Int.reduceMul, Int.reduceNe, Nat.reduceLeDiff, Nat.reduceLT, Nat.reduceAdd, Nat.reduceSub, Nat.reduceEqDiff, Int.cast_ofNat_Int, reduceCtorEq, tI, ia, List.length_map, hd]
      refine ⟨_, ?_, rfl, done ++ [w], rst, by rw [hl]; simp, rfl, by simp⟩
      cases s6 <;> first | exact NI.un | exact NI.sh
  · rintro env acc ⟨s6, m6, rfl, done, rst, hl, hr, rfl⟩
    match rst, hr with
    | [], _ =>
      rw [List.append_nil] at hl
      subst hl
      exact ⟨by unfold col; rw [List.map_map]; rfl, _, m6, rfl⟩
theorem alike_runs_ok {k : Nat} {s a : Side} {t : Task} (hs : SideOk s) (ha : SideOk a) (ht : TaskOk s.length a.length t) : EV (k + 5) f_alike_runs [sD s, sD a, tD t] = .ok (alkD s a t) false none := by
  refine runF_eq (fd := c_alike_runs) rfl rfl ?_
  show WS (exs (EV (k + 4)) _ c_alike_runs.body [.sh (sD s), .sh (sD a), .sh (tD t), .un, .un, .un, .un, .un, .un, .un, .un, .un, .un]) _ _ _
  unfold c_alike_runs
  have hsl := hs.2.1
  have hal := ha.2.1
  have n1 := need_all_ok (k := k) hs ha ht
  have itD : (tD t).items? = some (t.map tI) := rfl
  refine WS.cutN 1 (fun env => env = [.sh (sD s), .sh (sD a), .sh (tD t), .un, .un, .un, .un, .un, .un, .un, .un, .un, .un]) (by simp only [S0, S1, S2, S3, S4, S5, S6, S7, S8, S9, S10, S11, S12, S13, S14, S15, S16, S17, SD0, SD1, List.map_cons, List.map_nil, List.map_append, List.length_append, Int.reduceLT, Int.reduceLE, Int.reduceGT, Int.reduceGE, Int.reduceAdd, Int.reduceSub, Int.reduceNeg, Int.reduceToNat, Int.reduceEq, Int.reduceMul, Int.reduceNe, Nat.reduceLeDiff, Nat.reduceLT, Nat.reduceAdd, Nat.reduceSub, Nat.reduceEqDiff, Int.cast_ofNat_Int, reduceCtorEq, n1]) ?_
  rintro env rfl
  simp only [S0, S1, S2, S3, S4, S5, S6, S7, S8, S9, S10, S11, S12, S13, S14, S15, S16, S17, SD0, SD1, List.map_cons, List.map_nil, List.map_append, List.length_append, Int.reduceLT, Int.reduceLE, Int.reduceGT, Int.reduceGE, Int.reduceAdd, Int.reduceSub, Int.reduceNeg, Int.reduceToNat, Int.reduceEq, Int.reduceMul, Int.reduceNe, Nat.reduceLeDiff, Nat.reduceLT, Nat.reduceAdd, Nat.reduceSub, Nat.reduceEqDiff, Int.cast_ofNat_Int, reduceCtorEq, forL_c, itD]
  -- the one end: all rows
  refine (?_ : WS _ (fun env => alk0 s a t = none ∧ ∃ s5 s6 s7 s8 s9, NI s5 ∧ NI s6 ∧ NI s7 ∧ NI s8 ∧ NI s9 ∧ env = [.sh (sD s), .sh (sD a), .sh (tD t), .sh (.int 0), .sh (tD t), s5, s6, s7, s8, s9, .un, .un, .un]) (fun d f _ => d = alkD s a t ∧ f = false) _).imp ?_ (fun _ _ _ z => z) fun _ _ z => z
  · refine WS.forIx (n := s.length) (by rw [List.length_map, List.length_zipIdx, List.length_map, ht.1]) (fun (own : Nat) => alkRow 0 own (t.getD own []) (fun far => (fx (s.getD own []) (a.getD far [])).1)) (fun i env => ∃ s5 s6 s7 s8 s9, NI s5 ∧ NI s6 ∧ NI s7 ∧ NI s8 ∧ NI s9 ∧ env = [.sh (sD s), .sh (sD a), .sh (tD t), .sh (.int 0), .sh (tD t), s5, s6, s7, s8, s9, .un, .un, .un]) (fun _ => True) ⟨_, _, _, _, _, NI.un, NI.un, NI.un, NI.un, NI.un, rfl⟩ ?_ ?_ ?_
    · rintro i env hi ⟨s5, s6, s7, s8, s9, m5, m6, m7, m8, m9, rfl⟩ x hx
      obtain ⟨d, hd, rfl⟩ := enm_get hx
      obtain ⟨r1, r2⟩ := row_len ht hi
      have ed : d = tI (t.getD i []) := by rw [List.getElem?_map, r1] at hd; exact (Option.some.inj hd).symm
      subst ed
      refine WS.asg1 [.sh (sD s), .sh (sD a), .sh (tD t), .sh (.int 0), .sh (tD t), .sh (.int i), .sh (tI (t.getD i [])), s7, s8, s9, .un, .un, .un] (by simp only [S0, S1, S2, S3, S4, S5, S6, S7, S8, S9, S10, S11, S12, S13, S14, S15, S16, S17, SD0, SD1, List.map_cons, List.map_nil, List.map_append, List.length_append, Int.reduceLT, Int.reduceLE, Int.reduceGT, Int.reduceGE, Int.reduceAdd, Int.reduceSub, Int.reduceNeg, Int.reduceToNat, Int.reduceEq, Int.reduceMul, Int.reduceNe, Nat.reduceLeDiff, Nat.reduceLT, Nat.reduceAdd, Nat.reduceSub, Nat.reduceEqDiff, Int.cast_ofNat_Int, reduceCtorEq, asK_ni m5, asK_ni m6]) ?_
      refine prog_row (vs := t.getD i []) (cm := fun far => (fx (s.getD i []) (a.getD far [])).1) (.inl rfl) (by omega) (fun far hf => (came_to_ok (k := k + 1) hs ha).1 hi (by omega)) m7 m8 m9 NI.un (fun hn s7 s8 s9 m7 m8 m9 => ⟨hn, _, _, _, _, _, NI.sh, NI.sh, m7, m8, m9, rfl⟩) fun d env hd => ⟨hd, rfl, trivial⟩
    · rintro hn env h
      exact ⟨hn, h⟩
    · rintro d env hd _
      have : alkD s a t = d := by unfold alkD alk0; rw [hd]; rfl
      exact ⟨this.symm, rfl⟩
  rintro env ⟨hn0, s5, s6, s7, s8, s9, m5, m6, m7, m8, m9, rfl⟩
  have hb : (-1000000 : Int) ≤ a.length ∧ (a.length : Int) ≤ 1000000 := by omega
  have lnA : bltD .len [sD a] = some (.int a.length) := by show some (D.int (a.map hD).length) = _; rw [List.length_map]
  simp only [S0, S1, S2, S3, S4, S5, S6, S7, S8, S9, S10, S11, S12, S13, S14, S15, S16, S17, SD0, SD1, List.map_cons, List.map_nil, List.map_append, List.length_append, Int.reduceLT, Int.reduceLE, Int.reduceGT, Int.reduceGE, Int.reduceAdd, Int.reduceSub, Int.reduceNeg, Int.reduceToNat, Int.reduceEq, Int.reduceMul, Int.reduceNe, Nat.reduceLeDiff, Nat.reduceLT, Nat.reduceAdd, Nat.reduceSub, Nat.reduceEqDiff, Int.cast_ofNat_Int, reduceCtorEq, lnA, hb]
  refine (WR.compL (P := fun r => r.1 = (List.range a.length).map (fun j => D.lst ((col t j).map D.int)) ∧ ∃ s6 s10, NI s6 ∧ NI s10 ∧ r.2 = [.sh (sD s), .sh (sD a), .sh (tD t), .sh (.int 1), .sh (tD t), s5, s6, s7, s8, s9, s10, .un, .un])
    (I := fun rest env acc => ∃ s6 s10, NI s6 ∧ NI s10 ∧ env = [.sh (sD s), .sh (sD a), .sh (tD t), .sh (.int 1), .sh (tD t), s5, s6, s7, s8, s9, s10, .un, .un] ∧ ∃ i, i ≤ a.length ∧ rest = ((List.range a.length).map fun k => D.int (k : Nat)).drop i ∧ acc = (List.range i).map (fun j => D.lst ((col t j).map D.int))) ⟨_, _, m6, NI.un, rfl, 0, Nat.zero_le _, rfl, rfl⟩ ?_ ?_).imp ?_ (fun _ _ z => z)
  · rintro x r env acc ⟨s6, s10, m6, m10, rfl, i, hi, hr, rfl⟩
    have hlt : i < a.length := by
      by_cases q : i < a.length
      · exact q
      · rw [List.drop_of_length_le (by simp; omega)] at hr; cases hr
    have hx : ((List.range a.length).map fun k => D.int (k : Nat))[i]? = some x := by
      have := congrArg (fun l => l[0]?) hr
      simpa using this.symm
    have ex := rng_get hx
    subst ex
    have hr2 : r = ((List.range a.length).map fun k => D.int (k : Nat)).drop (i + 1) := by rw [← List.drop_drop, ← hr]; rfl
    have wT : (tD t).walk? = some (t.map tI) := rfl
    have hc : i < 16777216 := by omega
    simp only [S0, S1, S2, S3, S4, S5, S6, S7, S8, S9, S10, S11, S12, S13, S14, S15, S16, S17, SD0, SD1, List.map_cons, List.map_nil, List.map_append, List.length_append, Int.reduceLT, Int.reduceLE, Int.reduceGT, Int.reduceGE, Int.reduceAdd, Int.reduceSub, Int.reduceNeg, Int.reduceToNat, Int.reduceEq, Int.reduceMul, Int.reduceNe, Nat.reduceLeDiff, Nat.reduceLT, Nat.reduceAdd, Nat.reduceSub, Nat.reduceEqDiff, Int.cast_ofNat_Int, reduceCtorEq, asK_ni m10, wT]
    refine (col_comp (k := k + 4) (j := i) ht hlt (by omega) m6).imp ?_ (fun _ _ z => z)
    rintro ⟨ds, env⟩ ⟨h1, s6', m6', h2⟩
    dsimp only at h1 h2
    subst h1 h2
    simp only [S0, S1, S2, S3, S4, S5, S6, S7, S8, S9, S10, S11, S12, S13, S14, S15, S16, S17, SD0, SD1, List.map_cons, List.map_nil, List.map_append, List.length_append, Int.reduceLT, Int.reduceLE, Int.reduceGT, Int.reduceGE, Int.reduceAdd, Int.reduceSub, Int.reduceNeg, Int.reduceToNat, Int.reduceEq, Int.reduceMul, Int.reduceNe, Nat.reduceLeDiff, Nat.reduceLT, Nat.reduceAdd, Nat.reduceSub, Nat.reduceEqDiff, Int.cast_ofNat_Int, reduceCtorEq, List.length_map, List.length_range, hc]
    refine ⟨_, _, m6', ?_, rfl, i + 1, hlt, hr2, by rw [List.range_succ, List.map_append]; rfl⟩
    cases s10 <;> first | exact NI.un | exact NI.sh
  · rintro env acc ⟨s6, s10, m6, m10, rfl, i, hi, hr, rfl⟩
    have e : i = a.length := by
      have := congrArg List.length hr
      simp at this
      omega
    subst e
    exact ⟨rfl, _, _, m6, m10, rfl⟩
  rintro ⟨ds, env⟩ ⟨h1, s6, s10, m6, m10, h2⟩
  dsimp only at h1 h2
  subst h1 h2
  simp only [S0, S1, S2, S3, S4, S5, S6, S7, S8, S9, S10, S11, S12, S13, S14, S15, S16, S17, SD0, SD1, List.map_cons, List.map_nil, List.map_append, List.length_append, Int.reduceLT, Int.reduceLE, Int.reduceGT, Int.reduceGE, Int.reduceAdd, Int.reduceSub, Int.reduceNeg, Int.reduceToNat, Int.reduceEq, Int.reduceMul, Int.reduceNe, Nat.reduceLeDiff, Nat.reduceLT, Nat.reduceAdd, Nat.reduceSub, Nat.reduceEqDiff, Int.cast_ofNat_Int, reduceCtorEq]
  refine (?_ : WS _ (fun env => alk1 s a t = none) (fun d f _ => d = alkD s a t ∧ f = false) _).imp ?_ (fun _ _ _ z => z) fun _ _ z => z
  · refine WS.forIx (n := a.length) (by simp) (fun (own : Nat) => alkRow 1 own (col t own) (fun far => (fx (s.getD far []) (a.getD own [])).2)) (fun i env => ∃ s5 s6 s7 s8 s9 s10, NI s5 ∧ NI s6 ∧ NI s7 ∧ NI s8 ∧ NI s9 ∧ env = [.sh (sD s), .sh (sD a), .sh (tD t), .sh (.int 1), .sh (.lst ((List.range a.length).map (fun j => D.lst ((col t j).map D.int)))), s5, s6, s7, s8, s9, s10, .un, .un]) (fun _ => True) ⟨_, _, _, _, _, _, m5, m6, m7, m8, m9, rfl⟩ ?_ ?_ ?_
    · rintro i env hi ⟨s5, s6, s7, s8, s9, s10, m5, m6, m7, m8, m9, rfl⟩ x hx
      obtain ⟨d, hd, rfl⟩ := enm_get hx
      have ed : d = .lst ((col t i).map D.int) := by
        rw [List.getElem?_map, List.getElem?_range hi] at hd
        exact (Option.some.inj hd).symm
      subst ed
      have hcl : (col t i).length = s.length := by unfold col; rw [List.length_map, ht.1]
      refine WS.asg1 [.sh (sD s), .sh (sD a), .sh (tD t), .sh (.int 1), .sh (.lst ((List.range a.length).map (fun j => D.lst ((col t j).map D.int)))), .sh (.int i), .sh (.lst ((col t i).map D.int)), s7, s8, s9, s10, .un, .un] (by simp only [S0, S1, S2, S3, S4, S5, S6, S7, S8, S9, S10, S11, S12, S13, S14, S15, S16, S17, SD0, SD1, List.map_cons, List.map_nil, List.map_append, List.length_append, Int.reduceLT, Int.reduceLE, Int.reduceGT, Int.reduceGE, Int.reduceAdd, Int.reduceSub, Int.reduceNeg, Int.reduceToNat, Int.reduceEq, Int.reduceMul, Int.reduceNe, Nat.reduceLeDiff, Nat.reduceLT, Nat.reduceAdd, Nat.reduceSub, Nat.reduceEqDiff, Int.cast_ofNat_Int, reduceCtorEq, asK_ni m5, asK_ni m6]) ?_
      refine prog_row (vs := col t i) (cm := fun far => (fx (s.getD far []) (a.getD i [])).2) (.inr rfl) (by omega) (fun far hf => (came_to_ok (k := k + 1) hs ha).2 hi (by omega)) m7 m8 m9 NI.un (fun hn s7 s8 s9 m7 m8 m9 => ⟨hn, _, _, _, _, _, _, NI.sh, NI.sh, m7, m8, m9, rfl⟩) fun d env hd => ⟨hd, rfl, trivial⟩
    · rintro hn env h
      exact hn
    · rintro d env hd _
      have : alkD s a t = d := by unfold alkD alk1; rw [hn0, hd]; rfl
      exact ⟨this.symm, rfl⟩
  rintro env hn1
  have : alkD s a t = .non := by unfold alkD; rw [hn0, hn1]; rfl
  rw [this]
  simp only [S0, S1, S2, S3, S4, S5, S6, S7, S8, S9, S10, S11, S12, S13, S14, S15, S16, S17, SD0, SD1, List.map_cons, List.map_nil, List.map_append, List.length_append, Int.reduceLT, Int.reduceLE, Int.reduceGT, Int.reduceGE, Int.reduceAdd, Int.reduceSub, Int.reduceNeg, Int.reduceToNat, Int.reduceEq, Int.reduceMul, Int.reduceNe, Nat.reduceLeDiff, Nat.reduceLT, Nat.reduceAdd, Nat.reduceSub, Nat.reduceEqDiff, Int.cast_ofNat_Int, reduceCtorEq]
end Cor.L07

set_option Elab.async false
set_option linter.all false
set_option maxRecDepth 100000
set_option maxHeartbeats 2000000
/-! M07d: the law's alike runs. -/
namespace Cor.L07
open Cor
open PySem (Str)
theorem col_get {m n : Nat} {t : Task} (ht : TaskOk m n t) {own i : Nat} (hi : i < m) : (col t own).getD i 0 = due t i own := by
  have h1 : i < t.length := by rw [ht.1]; exact hi
  have e : t.getD i [] = t[i] := by rw [List.getD_eq_getElem?_getD, List.getElem?_eq_getElem h1]; rfl
  unfold due
  rw [e]
  unfold col
  rw [List.getD_eq_getElem?_getD, List.getElem?_map, List.getElem?_eq_getElem h1]
  rfl
theorem law_row0 {k md : Nat} {dk : D} {s a : Side} {t : Task} (hd : DeckOk md dk) (hm : md + 48 ≤ 2 ^ 38) (hs : SideOk s) (ha : SideOk a) (ht : TaskOk s.length a.length t) {own : Nat} (ho : own < s.length) {s5 s6 s7 s8 : Sl} (n5 : NI s5) (n6 : NI s6) (n7 : NI s7) {N : Env → Prop} {T : D → Bool → Env → Prop} {E : Exc → Env → Prop}
    (done : alkRow 0 own (t.getD own []) (fun far => (fx (s.getD own []) (a.getD far [])).1) = none → ∀ s5 s6 s7, NI s5 → NI s6 → NI s7 → N [.io dk, .sh (sD s), .sh (sD a), .sh (tD t), .sh (.int own), s5, s6, s7, s8]) (ret : ∀ d env dk', alkRow 0 own (t.getD own []) (fun far => (fx (s.getD own []) (a.getD far [])).1) = some d → env[0]? = some (.io dk') → DeckOk (md + 48) dk' → T d false env) :
    WS (exs (EV (k + 3)) 1000000 [.for_ (.name 5) (.rng1 (.blt .len [.var 2])) [.for_ (.name 6) (.rng2 (.bin .add (.var 5) (.lit (.int 1))) (.blt .len [.var 2])) [.ite (.cmp .ne (.idx (.idx (.var 3) (.var 4)) (.var 5)) (.idx (.idx (.var 3) (.var 4)) (.var 6))) [.asg (.name 7) (.comp (.idx (.cio f__law_at_end 0 [.idx (.var 1) (.var 4), .idx (.var 2) (.var 8)]) (.lit (.int 0))) (.name 8) (.seq (.tup [.var 5, .var 6])) [] [8]), .ret (.tup [.lit (.int 0), .var 4, .var 5, .var 6, .blt .min [.var 7]])] []]]]
      [.io dk, .sh (sD s), .sh (sD a), .sh (tD t), .sh (.int own), s5, s6, s7, s8]) N T E := by
  have hsl := hs.2.1
  have hal := ha.2.1
  have hb : (-1000000 : Int) ≤ a.length ∧ (a.length : Int) ≤ 1000000 := by omega
  have lnF : bltD .len [sD a] = some (.int a.length) := by show some (D.int (a.map hD).length) = _; rw [List.length_map]
  have hvl : (t.getD own []).length = a.length := (row_len ht ho).2
  simp only [S0, S1, S2, S3, S4, S5, S6, S7, S8, S9, S10, S11, S12, S13, S14, S15, S16, S17, SD0, SD1, List.map_cons, List.map_nil, List.map_append, List.length_append, Int.reduceLT, Int.reduceLE, Int.reduceGT, Int.reduceGE, Int.reduceAdd, Int.reduceSub, Int.reduceNeg, Int.reduceToNat, Int.reduceEq, Int.reduceMul, Int.reduceNe, Nat.reduceLeDiff, Nat.reduceLT, Nat.reduceAdd, Nat.reduceSub, Nat.reduceEqDiff, Int.cast_ofNat_Int, reduceCtorEq, lnF, hb]
  refine WS.forIx (n := a.length) (by simp) (fun f => (List.range (a.length - (f + 1))).findSome? fun k => alkCell 0 own (t.getD own []) (fun far => (fx (s.getD own []) (a.getD far [])).1) f k) (fun f env => ∃ s5 s6 s7, NI s5 ∧ NI s6 ∧ NI s7 ∧ env = [.io dk, .sh (sD s), .sh (sD a), .sh (tD t), .sh (.int own), s5, s6, s7, s8]) (fun e => ∃ dk', e[0]? = some (.io dk') ∧ DeckOk (md + 48) dk') ⟨_, _, _, n5, n6, n7, rfl⟩ ?_ ?_ ?_
  · rintro f env hf ⟨s5, s6, s7, n5, n6, n7, rfl⟩ x hx
    have ex := rng_get (n := a.length) (by simpa using hx)
    subst ex
    refine WS.asg1 [.io dk, .sh (sD s), .sh (sD a), .sh (tD t), .sh (.int own), .sh (.int f), s6, s7, s8] (by simp only [S0, S1, S2, S3, S4, S5, S6, S7, S8, S9, S10, S11, S12, S13, S14, S15, S16, S17, SD0, SD1, List.map_cons, List.map_nil, List.map_append, List.length_append, Int.reduceLT, Int.reduceLE, Int.reduceGT, Int.reduceGE, Int.reduceAdd, Int.reduceSub, Int.reduceNeg, Int.reduceToNat, Int.reduceEq, Int.reduceMul, Int.reduceNe, Nat.reduceLeDiff, Nat.reduceLT, Nat.reduceAdd, Nat.reduceSub, Nat.reduceEqDiff, Int.cast_ofNat_Int, reduceCtorEq, asK_ni n5]) ?_
    have hb2 : -1000000 ≤ (f : Int) + 1 ∧ (f : Int) + 1 ≤ 1000000 ∧ (-1000000 : Int) ≤ a.length ∧ (a.length : Int) ≤ 1000000 := by omega
    simp only [S0, S1, S2, S3, S4, S5, S6, S7, S8, S9, S10, S11, S12, S13, S14, S15, S16, S17, SD0, SD1, List.map_cons, List.map_nil, List.map_append, List.length_append, Int.reduceLT, Int.reduceLE, Int.reduceGT, Int.reduceGE, Int.reduceAdd, Int.reduceSub, Int.reduceNeg, Int.reduceToNat, Int.reduceEq, Int.reduceMul, Int.reduceNe, Nat.reduceLeDiff, Nat.reduceLT, Nat.reduceAdd, Nat.reduceSub, Nat.reduceEqDiff, Int.cast_ofNat_Int, reduceCtorEq, lnF, hb2]
    refine WS.forIx (n := a.length - (f + 1)) (by rw [List.length_map, List.length_range]; omega) (fun k => alkCell 0 own (t.getD own []) (fun far => (fx (s.getD own []) (a.getD far [])).1) f k) (fun i env => ∃ s6 s7, NI s6 ∧ NI s7 ∧ env = [.io dk, .sh (sD s), .sh (sD a), .sh (tD t), .sh (.int own), .sh (.int f), s6, s7, s8]) (fun e => ∃ dk', e[0]? = some (.io dk') ∧ DeckOk (md + 48) dk') ⟨_, _, n6, n7, rfl⟩ ?_ ?_ ?_
    · rintro j env hj ⟨s6, s7, n6, n7, rfl⟩ x hx
      have ex := rng2_get hx
      subst ex
      have hj2 : f + 1 + j < a.length := by omega
      have ec : (f : Int) + 1 + j = ((f + 1 + j : Nat) : Int) := by omega
      obtain ⟨oh, o1, ok1, og⟩ := side_get hs ho
      obtain ⟨fh, f1, fk1, fg⟩ := side_get ha hf
      obtain ⟨gh, g1, gk1, gg⟩ := side_get ha hj2
      have bo : atI (s.map hD) (own : Int) = some (hD oh) := atI_nat (by rw [List.getElem?_map, o1]; rfl)
      have bf : atI (a.map hD) (f : Int) = some (hD fh) := atI_nat (by rw [List.getElem?_map, f1]; rfl)
      have bg : atI (a.map hD) ((f : Int) + 1 + j) = some (hD gh) := by rw [ec]; exact atI_nat (by rw [List.getElem?_map, g1]; rfl)
      obtain ⟨dk1, e1, hd1⟩ := at_end_fx (k := k) hd (by omega) ok1 fk1
      obtain ⟨dk2, e2, hd2⟩ := at_end_fx (k := k) hd1 (by omega) ok1 gk1
      rw [eD_eq] at e1 e2
      obtain ⟨c1, c2⟩ := due_row ht ho hf
      obtain ⟨_, c3⟩ := due_row ht ho hj2
      rw [← ec] at c3
      have v1 : (t.getD own []).getD f 0 = due t own f := rfl
      have v2 : (t.getD own []).getD (f + 1 + j) 0 = due t own (f + 1 + j) := rfl
      refine WS.asg1 [.io dk, .sh (sD s), .sh (sD a), .sh (tD t), .sh (.int own), .sh (.int f), .sh (.int ((f : Int) + 1 + j)), s7, s8] (by simp only [S0, S1, S2, S3, S4, S5, S6, S7, S8, S9, S10, S11, S12, S13, S14, S15, S16, S17, SD0, SD1, List.map_cons, List.map_nil, List.map_append, List.length_append, Int.reduceLT, Int.reduceLE, Int.reduceGT, Int.reduceGE, Int.reduceAdd, Int.reduceSub, Int.reduceNeg, Int.reduceToNat, Int.reduceEq, Int.reduceMul, Int.reduceNe, Nat.reduceLeDiff, Nat.reduceLT, Nat.reduceAdd, Nat.reduceSub, Nat.reduceEqDiff, Int.cast_ofNat_Int, reduceCtorEq, asK_ni n6]) ?_
      have hc : alkCell 0 own (t.getD own []) (fun far => (fx (s.getD own []) (a.getD far [])).1) f j = if due t own f = due t own (f + 1 + j) then none else some (.tup [.int 0, .int own, .int f, .int ((f : Int) + 1 + j), .int (if (fx oh gh).1 < (fx oh fh).1 then (fx oh gh).1 else (fx oh fh).1)]) := by
        unfold alkCell
        simp only [v1, v2, og, fg, gg]
      rw [hc]
      by_cases q : due t own f = due t own (f + 1 + j)
      · simp only [S0, S1, S2, S3, S4, S5, S6, S7, S8, S9, S10, S11, S12, S13, S14, S15, S16, S17, SD0, SD1, List.map_cons, List.map_nil, List.map_append, List.length_append, Int.reduceLT, Int.reduceLE, Int.reduceGT, Int.reduceGE, Int.reduceAdd, Int.reduceSub, Int.reduceNeg, Int.reduceToNat, Int.reduceEq, Int.reduceMul, Int.reduceNe, Nat.reduceLeDiff, Nat.reduceLT, Nat.reduceAdd, Nat.reduceSub, Nat.reduceEqDiff, Int.cast_ofNat_Int, reduceCtorEq, tD, tI, c1, c2, c3, q]
        exact ⟨_, _, NI.sh, n7, rfl⟩
      · simp only [S0, S1, S2, S3, S4, S5, S6, S7, S8, S9, S10, S11, S12, S13, S14, S15, S16, S17, SD0, SD1, List.map_cons, List.map_nil, List.map_append, List.length_append, Int.reduceLT, Int.reduceLE, Int.reduceGT, Int.reduceGE, Int.reduceAdd, Int.reduceSub, Int.reduceNeg, Int.reduceToNat, Int.reduceEq, Int.reduceMul, Int.reduceNe, Nat.reduceLeDiff, Nat.reduceLT, Nat.reduceAdd, Nat.reduceSub, Nat.reduceEqDiff, Int.cast_ofNat_Int, reduceCtorEq, tD, tI, sD, c1, c2, c3, q, compL_c, compL_n, bo, bf, bg, e1, e2, asK_ni n7, min2]
        exact ⟨dk2, rfl, hd2.mono (by omega)⟩
    · rintro hn env ⟨s6, s7, n6, n7, rfl⟩
      simp only [S0, S1, S2, S3, S4, S5, S6, S7, S8, S9, S10, S11, S12, S13, S14, S15, S16, S17, SD0, SD1, List.map_cons, List.map_nil, List.map_append, List.length_append, Int.reduceLT, Int.reduceLE, Int.reduceGT, Int.reduceGE, Int.reduceAdd, Int.reduceSub, Int.reduceNeg, Int.reduceToNat, Int.reduceEq, Int.reduceMul, Int.reduceNe, Nat.reduceLeDiff, Nat.reduceLT, Nat.reduceAdd, Nat.reduceSub, Nat.reduceEqDiff, Int.cast_ofNat_Int, reduceCtorEq]
      exact ⟨hn, _, _, _, NI.sh, n6, n7, rfl⟩
    · rintro d env hd ⟨dk', h1, h2⟩
      exact ⟨hd, rfl, dk', h1, h2⟩
  · rintro hn env ⟨s5, s6, s7, n5, n6, n7, rfl⟩
    simp only [S0, S1, S2, S3, S4, S5, S6, S7, S8, S9, S10, S11, S12, S13, S14, S15, S16, S17, SD0, SD1, List.map_cons, List.map_nil, List.map_append, List.length_append, Int.reduceLT, Int.reduceLE, Int.reduceGT, Int.reduceGE, Int.reduceAdd, Int.reduceSub, Int.reduceNeg, Int.reduceToNat, Int.reduceEq, Int.reduceMul, Int.reduceNe, Nat.reduceLeDiff, Nat.reduceLT, Nat.reduceAdd, Nat.reduceSub, Nat.reduceEqDiff, Int.cast_ofNat_Int, reduceCtorEq]
    exact done (by unfold alkRow; rw [hvl]; exact hn) _ _ _ n5 n6 n7
  · rintro d env hd ⟨dk', h1, h2⟩
    exact ret d env dk' (by unfold alkRow; rw [hvl]; exact hd) h1 h2
theorem law_row1 {k md : Nat} {dk : D} {s a : Side} {t : Task} (hd : DeckOk md dk) (hm : md + 48 ≤ 2 ^ 38) (hs : SideOk s) (ha : SideOk a) (ht : TaskOk s.length a.length t) {own : Nat} (ho : own < a.length) {s5 s6 s7 s8 : Sl} (n5 : NI s5) (n6 : NI s6) (n7 : NI s7) {N : Env → Prop} {T : D → Bool → Env → Prop} {E : Exc → Env → Prop}
    (done : alkRow 1 own (col t own) (fun far => (fx (s.getD far []) (a.getD own [])).2) = none → ∀ s5 s6 s7, NI s5 → NI s6 → NI s7 → N [.io dk, .sh (sD s), .sh (sD a), .sh (tD t), .sh (.int own), s5, s6, s7, s8]) (ret : ∀ d env dk', alkRow 1 own (col t own) (fun far => (fx (s.getD far []) (a.getD own [])).2) = some d → env[0]? = some (.io dk') → DeckOk (md + 48) dk' → T d false env) :
    WS (exs (EV (k + 3)) 1000000 [.for_ (.name 5) (.rng1 (.blt .len [.var 1])) [.for_ (.name 6) (.rng2 (.bin .add (.var 5) (.lit (.int 1))) (.blt .len [.var 1])) [.ite (.cmp .ne (.idx (.idx (.var 3) (.var 5)) (.var 4)) (.idx (.idx (.var 3) (.var 6)) (.var 4))) [.asg (.name 7) (.comp (.idx (.cio f__law_at_end 0 [.idx (.var 1) (.var 8), .idx (.var 2) (.var 4)]) (.lit (.int 1))) (.name 8) (.seq (.tup [.var 5, .var 6])) [] [8]), .ret (.tup [.lit (.int 1), .var 4, .var 5, .var 6, .blt .min [.var 7]])] []]]]
      [.io dk, .sh (sD s), .sh (sD a), .sh (tD t), .sh (.int own), s5, s6, s7, s8]) N T E := by
  have hsl := hs.2.1
  have hal := ha.2.1
  have hb : (-1000000 : Int) ≤ s.length ∧ (s.length : Int) ≤ 1000000 := by omega
  have lnF : bltD .len [sD s] = some (.int s.length) := by show some (D.int (s.map hD).length) = _; rw [List.length_map]
  have hvl : (col t own).length = s.length := by unfold col; rw [List.length_map, ht.1]
  simp only [S0, S1, S2, S3, S4, S5, S6, S7, S8, S9, S10, S11, S12, S13, S14, S15, S16, S17, SD0, SD1, List.map_cons, List.map_nil, List.map_append, List.length_append, Int.reduceLT, Int.reduceLE, Int.reduceGT, Int.reduceGE, Int.reduceAdd, Int.reduceSub, Int.reduceNeg, Int.reduceToNat, Int.reduceEq, Int.reduceMul, Int.reduceNe, Nat.reduceLeDiff, Nat.reduceLT, Nat.reduceAdd, Nat.reduceSub, Nat.reduceEqDiff, Int.cast_ofNat_Int, reduceCtorEq, lnF, hb]
  refine WS.forIx (n := s.length) (by simp) (fun f => (List.range (s.length - (f + 1))).findSome? fun k => alkCell 1 own (col t own) (fun far => (fx (s.getD far []) (a.getD own [])).2) f k) (fun f env => ∃ s5 s6 s7, NI s5 ∧ NI s6 ∧ NI s7 ∧ env = [.io dk, .sh (sD s), .sh (sD a), .sh (tD t), .sh (.int own), s5, s6, s7, s8]) (fun e => ∃ dk', e[0]? = some (.io dk') ∧ DeckOk (md + 48) dk') ⟨_, _, _, n5, n6, n7, rfl⟩ ?_ ?_ ?_
  · rintro f env hf ⟨s5, s6, s7, n5, n6, n7, rfl⟩ x hx
    have ex := rng_get (n := s.length) (by simpa using hx)
    subst ex
    refine WS.asg1 [.io dk, .sh (sD s), .sh (sD a), .sh (tD t), .sh (.int own), .sh (.int f), s6, s7, s8] (by simp only [S0, S1, S2, S3, S4, S5, S6, S7, S8, S9, S10, S11, S12, S13, S14, S15, S16, S17, SD0, SD1, List.map_cons, List.map_nil, List.map_append, List.length_append, Int.reduceLT, Int.reduceLE, Int.reduceGT, Int.reduceGE, Int.reduceAdd, Int.reduceSub, Int.reduceNeg, Int.reduceToNat, Int.reduceEq, Int.reduceMul, Int.reduceNe, Nat.reduceLeDiff, Nat.reduceLT, Nat.reduceAdd, Nat.reduceSub, Nat.reduceEqDiff, Int.cast_ofNat_Int, reduceCtorEq, asK_ni n5]) ?_
    have hb2 : -1000000 ≤ (f : Int) + 1 ∧ (f : Int) + 1 ≤ 1000000 ∧ (-1000000 : Int) ≤ s.length ∧ (s.length : Int) ≤ 1000000 := by omega
    simp only [S0, S1, S2, S3, S4, S5, S6, S7, S8, S9, S10, S11, S12, S13, S14, S15, S16, S17, SD0, SD1, List.map_cons, List.map_nil, List.map_append, List.length_append, Int.reduceLT, Int.reduceLE, Int.reduceGT, Int.reduceGE, Int.reduceAdd, Int.reduceSub, Int.reduceNeg, Int.reduceToNat, Int.reduceEq, Int.reduceMul, Int.reduceNe, Nat.reduceLeDiff, Nat.reduceLT, Nat.reduceAdd, Nat.reduceSub, Nat.reduceEqDiff, Int.cast_ofNat_Int, reduceCtorEq, lnF, hb2]
    refine WS.forIx (n := s.length - (f + 1)) (by rw [List.length_map, List.length_range]; omega) (fun k => alkCell 1 own (col t own) (fun far => (fx (s.getD far []) (a.getD own [])).2) f k) (fun i env => ∃ s6 s7, NI s6 ∧ NI s7 ∧ env = [.io dk, .sh (sD s), .sh (sD a), .sh (tD t), .sh (.int own), .sh (.int f), s6, s7, s8]) (fun e => ∃ dk', e[0]? = some (.io dk') ∧ DeckOk (md + 48) dk') ⟨_, _, n6, n7, rfl⟩ ?_ ?_ ?_
    · rintro j env hj ⟨s6, s7, n6, n7, rfl⟩ x hx
      have ex := rng2_get hx
      subst ex
      have hj2 : f + 1 + j < s.length := by omega
      have ec : (f : Int) + 1 + j = ((f + 1 + j : Nat) : Int) := by omega
      obtain ⟨oh, o1, ok1, og⟩ := side_get ha ho
      obtain ⟨fh, f1, fk1, fg⟩ := side_get hs hf
      obtain ⟨gh, g1, gk1, gg⟩ := side_get hs hj2
      have bo : atI (a.map hD) (own : Int) = some (hD oh) := atI_nat (by rw [List.getElem?_map, o1]; rfl)
      have bf : atI (s.map hD) (f : Int) = some (hD fh) := atI_nat (by rw [List.getElem?_map, f1]; rfl)
      have bg : atI (s.map hD) ((f : Int) + 1 + j) = some (hD gh) := by rw [ec]; exact atI_nat (by rw [List.getElem?_map, g1]; rfl)
      obtain ⟨dk1, e1, hd1⟩ := at_end_fx (k := k) hd (by omega) fk1 ok1
      obtain ⟨dk2, e2, hd2⟩ := at_end_fx (k := k) hd1 (by omega) gk1 ok1
      rw [eD_eq] at e1 e2
      obtain ⟨c1, c2⟩ := due_row ht hf ho
      obtain ⟨c3, c4⟩ := due_row ht hj2 ho
      rw [← ec] at c3
      have v1 := col_get ht (own := own) hf
      have v2 := col_get ht (own := own) hj2
      refine WS.asg1 [.io dk, .sh (sD s), .sh (sD a), .sh (tD t), .sh (.int own), .sh (.int f), .sh (.int ((f : Int) + 1 + j)), s7, s8] (by simp only [S0, S1, S2, S3, S4, S5, S6, S7, S8, S9, S10, S11, S12, S13, S14, S15, S16, S17, SD0, SD1, List.map_cons, List.map_nil, List.map_append, List.length_append, Int.reduceLT, Int.reduceLE, Int.reduceGT, Int.reduceGE, Int.reduceAdd, Int.reduceSub, Int.reduceNeg, Int.reduceToNat, Int.reduceEq, Int.reduceMul, Int.reduceNe, Nat.reduceLeDiff, Nat.reduceLT, Nat.reduceAdd, Nat.reduceSub, Nat.reduceEqDiff, Int.cast_ofNat_Int, reduceCtorEq, asK_ni n6]) ?_
      have hc : alkCell 1 own (col t own) (fun far => (fx (s.getD far []) (a.getD own [])).2) f j = if due t f own = due t (f + 1 + j) own then none else some (.tup [.int 1, .int own, .int f, .int ((f : Int) + 1 + j), .int (if (fx gh oh).2 < (fx fh oh).2 then (fx gh oh).2 else (fx fh oh).2)]) := by
        unfold alkCell
        simp only [v1, v2, og, fg, gg]
      rw [hc]
      by_cases q : due t f own = due t (f + 1 + j) own
      · simp only [S0, S1, S2, S3, S4, S5, S6, S7, S8, S9, S10, S11, S12, S13, S14, S15, S16, S17, SD0, SD1, List.map_cons, List.map_nil, List.map_append, List.length_append, Int.reduceLT, Int.reduceLE, Int.reduceGT, Int.reduceGE, Int.reduceAdd, Int.reduceSub, Int.reduceNeg, Int.reduceToNat, Int.reduceEq, Int.reduceMul, Int.reduceNe, Nat.reduceLeDiff, Nat.reduceLT, Nat.reduceAdd, Nat.reduceSub, Nat.reduceEqDiff, Int.cast_ofNat_Int, reduceCtorEq, tD, tI, c1, c2, c3, c4, q]
        exact ⟨_, _, NI.sh, n7, rfl⟩
      · simp only [S0, S1, S2, S3, S4, S5, S6, S7, S8, S9, S10, S11, S12, S13, S14, S15, S16, S17, SD0, SD1, List.map_cons, List.map_nil, List.map_append, List.length_append, Int.reduceLT, Int.reduceLE, Int.reduceGT, Int.reduceGE, Int.reduceAdd, Int.reduceSub, Int.reduceNeg, Int.reduceToNat, Int.reduceEq, Int.reduceMul, Int.reduceNe, Nat.reduceLeDiff, Nat.reduceLT, Nat.reduceAdd, Nat.reduceSub, Nat.reduceEqDiff, Int.cast_ofNat_Int, reduceCtorEq, tD, tI, sD, c1, c2, c3, c4, q, compL_c, compL_n, bo, bf, bg, e1, e2, asK_ni n7, min2]
        exact ⟨dk2, rfl, hd2.mono (by omega)⟩
    · rintro hn env ⟨s6, s7, n6, n7, rfl⟩
      simp only [S0, S1, S2, S3, S4, S5, S6, S7, S8, S9, S10, S11, S12, S13, S14, S15, S16, S17, SD0, SD1, List.map_cons, List.map_nil, List.map_append, List.length_append, Int.reduceLT, Int.reduceLE, Int.reduceGT, Int.reduceGE, Int.reduceAdd, Int.reduceSub, Int.reduceNeg, Int.reduceToNat, Int.reduceEq, Int.reduceMul, Int.reduceNe, Nat.reduceLeDiff, Nat.reduceLT, Nat.reduceAdd, Nat.reduceSub, Nat.reduceEqDiff, Int.cast_ofNat_Int, reduceCtorEq]
      exact ⟨hn, _, _, _, NI.sh, n6, n7, rfl⟩
    · rintro d env hd ⟨dk', h1, h2⟩
      exact ⟨hd, rfl, dk', h1, h2⟩
  · rintro hn env ⟨s5, s6, s7, n5, n6, n7, rfl⟩
    simp only [S0, S1, S2, S3, S4, S5, S6, S7, S8, S9, S10, S11, S12, S13, S14, S15, S16, S17, SD0, SD1, List.map_cons, List.map_nil, List.map_append, List.length_append, Int.reduceLT, Int.reduceLE, Int.reduceGT, Int.reduceGE, Int.reduceAdd, Int.reduceSub, Int.reduceNeg, Int.reduceToNat, Int.reduceEq, Int.reduceMul, Int.reduceNe, Nat.reduceLeDiff, Nat.reduceLT, Nat.reduceAdd, Nat.reduceSub, Nat.reduceEqDiff, Int.cast_ofNat_Int, reduceCtorEq]
    exact done (by unfold alkRow; rw [hvl]; exact hn) _ _ _ n5 n6 n7
  · rintro d env hd ⟨dk', h1, h2⟩
    exact ret d env dk' (by unfold alkRow; rw [hvl]; exact hd) h1 h2
theorem law_alike_ok {k md : Nat} {dk : D} {s a : Side} {t : Task} (hd : DeckOk md dk) (hm : md + 100 ≤ 2 ^ 38) (hs : SideOk s) (ha : SideOk a) (ht : TaskOk s.length a.length t) : ∃ dk', EV (k + 4) f__law_alike [dk, sD s, sD a, tD t] = .ok (alkD s a t) false (some dk') ∧ DeckOk (md + 100) dk' := by
  have key : ∃ v fr d', EV (k + 4) f__law_alike [dk, sD s, sD a, tD t] = .ok v fr (some d') ∧ v = alkD s a t ∧ fr = false ∧ DeckOk (md + 100) d' := by
    refine runF_io (fd := c__law_alike) (P := fun v fr d' => v = alkD s a t ∧ fr = false ∧ DeckOk (md + 100) d') rfl rfl ?_
    show WS (exs (EV (k + 3)) _ c__law_alike.body [.io dk, .sh (sD s), .sh (sD a), .sh (tD t), .un, .un, .un, .un, .un]) _ _ _
    unfold c__law_alike
    have hsl := hs.2.1
    have hal := ha.2.1
    have hb1 : (-1000000 : Int) ≤ s.length ∧ (s.length : Int) ≤ 1000000 := by omega
    have hb2 : (-1000000 : Int) ≤ a.length ∧ (a.length : Int) ≤ 1000000 := by omega
    have lnS : bltD .len [sD s] = some (.int s.length) := by show some (D.int (s.map hD).length) = _; rw [List.length_map]
    have lnA : bltD .len [sD a] = some (.int a.length) := by show some (D.int (a.map hD).length) = _; rw [List.length_map]
    refine WS.cutN 1 (fun env => alk0 s a t = none ∧ ∃ s4 s5 s6 s7, NI s4 ∧ NI s5 ∧ NI s6 ∧ NI s7 ∧ env = [.io dk, .sh (sD s), .sh (sD a), .sh (tD t), s4, s5, s6, s7, .un]) ?_ ?_
    · simp only [S0, S1, S2, S3, S4, S5, S6, S7, S8, S9, S10, S11, S12, S13, S14, S15, S16, S17, SD0, SD1, List.map_cons, List.map_nil, List.map_append, List.length_append, Int.reduceLT, Int.reduceLE, Int.reduceGT, Int.reduceGE, Int.reduceAdd, Int.reduceSub, Int.reduceNeg, Int.reduceToNat, Int.reduceEq, Int.reduceMul, Int.reduceNe, Nat.reduceLeDiff, Nat.reduceLT, Nat.reduceAdd, Nat.reduceSub, Nat.reduceEqDiff, Int.cast_ofNat_Int, reduceCtorEq, lnS, hb1]
      refine WS.forIx (n := s.length) (by simp) (fun (own : Nat) => alkRow 0 own (t.getD own []) (fun far => (fx (s.getD own []) (a.getD far [])).1)) (fun i env => ∃ s4 s5 s6 s7, NI s4 ∧ NI s5 ∧ NI s6 ∧ NI s7 ∧ env = [.io dk, .sh (sD s), .sh (sD a), .sh (tD t), s4, s5, s6, s7, .un]) (fun e => ∃ dk', e[0]? = some (.io dk') ∧ DeckOk (md + 48) dk') ⟨_, _, _, _, NI.un, NI.un, NI.un, NI.un, rfl⟩ ?_ ?_ ?_
      · rintro i env hi ⟨s4, s5, s6, s7, n4, n5, n6, n7, rfl⟩ x hx
        have ex := rng_get (n := s.length) (by simpa using hx)
        subst ex
        refine WS.asg1 [.io dk, .sh (sD s), .sh (sD a), .sh (tD t), .sh (.int i), s5, s6, s7, .un] (by simp only [S0, S1, S2, S3, S4, S5, S6, S7, S8, S9, S10, S11, S12, S13, S14, S15, S16, S17, SD0, SD1, List.map_cons, List.map_nil, List.map_append, List.length_append, Int.reduceLT, Int.reduceLE, Int.reduceGT, Int.reduceGE, Int.reduceAdd, Int.reduceSub, Int.reduceNeg, Int.reduceToNat, Int.reduceEq, Int.reduceMul, Int.reduceNe, Nat.reduceLeDiff, Nat.reduceLT, Nat.reduceAdd, Nat.reduceSub, Nat.reduceEqDiff, Int.cast_ofNat_Int, reduceCtorEq, asK_ni n4]) ?_
        exact law_row0 (k := k) hd (by omega) hs ha ht hi n5 n6 n7 (fun hn s5 s6 s7 n5 n6 n7 => ⟨hn, _, _, _, _, NI.sh, n5, n6, n7, rfl⟩) fun d env dk' h0 h1 h2 => ⟨h0, rfl, dk', h1, h2⟩
      · rintro hn env ⟨s4, s5, s6, s7, n4, n5, n6, n7, rfl⟩
        simp only [S0, S1, S2, S3, S4, S5, S6, S7, S8, S9, S10, S11, S12, S13, S14, S15, S16, S17, SD0, SD1, List.map_cons, List.map_nil, List.map_append, List.length_append, Int.reduceLT, Int.reduceLE, Int.reduceGT, Int.reduceGE, Int.reduceAdd, Int.reduceSub, Int.reduceNeg, Int.reduceToNat, Int.reduceEq, Int.reduceMul, Int.reduceNe, Nat.reduceLeDiff, Nat.reduceLT, Nat.reduceAdd, Nat.reduceSub, Nat.reduceEqDiff, Int.cast_ofNat_Int, reduceCtorEq]
        exact ⟨hn, _, _, _, _, n4, n5, n6, n7, rfl⟩
      · rintro d env hd ⟨dk', h1, h2⟩
        have : alkD s a t = d := by unfold alkD alk0; rw [hd]; rfl
        exact ⟨dk', h1, this.symm, rfl, h2.mono (by omega)⟩
    · rintro env ⟨hn0, s4, s5, s6, s7, n4, n5, n6, n7, rfl⟩
      simp only [S0, S1, S2, S3, S4, S5, S6, S7, S8, S9, S10, S11, S12, S13, S14, S15, S16, S17, SD0, SD1, List.map_cons, List.map_nil, List.map_append, List.length_append, Int.reduceLT, Int.reduceLE, Int.reduceGT, Int.reduceGE, Int.reduceAdd, Int.reduceSub, Int.reduceNeg, Int.reduceToNat, Int.reduceEq, Int.reduceMul, Int.reduceNe, Nat.reduceLeDiff, Nat.reduceLT, Nat.reduceAdd, Nat.reduceSub, Nat.reduceEqDiff, Int.cast_ofNat_Int, reduceCtorEq, lnA, hb2]
      refine WS.forIx (n := a.length) (by simp) (fun (own : Nat) => alkRow 1 own (col t own) (fun far => (fx (s.getD far []) (a.getD own [])).2)) (fun i env => ∃ s4 s5 s6 s7, NI s4 ∧ NI s5 ∧ NI s6 ∧ NI s7 ∧ env = [.io dk, .sh (sD s), .sh (sD a), .sh (tD t), s4, s5, s6, s7, .un]) (fun e => ∃ dk', e[0]? = some (.io dk') ∧ DeckOk (md + 48) dk') ⟨_, _, _, _, n4, n5, n6, n7, rfl⟩ ?_ ?_ ?_
      · rintro i env hi ⟨s4, s5, s6, s7, n4, n5, n6, n7, rfl⟩ x hx
        have ex := rng_get (n := a.length) (by simpa using hx)
        subst ex
        refine WS.asg1 [.io dk, .sh (sD s), .sh (sD a), .sh (tD t), .sh (.int i), s5, s6, s7, .un] (by simp only [S0, S1, S2, S3, S4, S5, S6, S7, S8, S9, S10, S11, S12, S13, S14, S15, S16, S17, SD0, SD1, List.map_cons, List.map_nil, List.map_append, List.length_append, Int.reduceLT, Int.reduceLE, Int.reduceGT, Int.reduceGE, Int.reduceAdd, Int.reduceSub, Int.reduceNeg, Int.reduceToNat, Int.reduceEq, Int.reduceMul, Int.reduceNe, Nat.reduceLeDiff, Nat.reduceLT, Nat.reduceAdd, Nat.reduceSub, Nat.reduceEqDiff, Int.cast_ofNat_Int, reduceCtorEq, asK_ni n4]) ?_
        exact law_row1 (k := k) hd (by omega) hs ha ht hi n5 n6 n7 (fun hn s5 s6 s7 n5 n6 n7 => ⟨hn, _, _, _, _, NI.sh, n5, n6, n7, rfl⟩) fun d env dk' h0 h1 h2 => ⟨h0, rfl, dk', h1, h2⟩
      · rintro hn env ⟨s4, s5, s6, s7, n4, n5, n6, n7, rfl⟩
        have : alkD s a t = .non := by unfold alkD; rw [hn0]; unfold alk1; rw [hn]; rfl
        rw [this]
        simp only [S0, S1, S2, S3, S4, S5, S6, S7, S8, S9, S10, S11, S12, S13, S14, S15, S16, S17, SD0, SD1, List.map_cons, List.map_nil, List.map_append, List.length_append, Int.reduceLT, Int.reduceLE, Int.reduceGT, Int.reduceGE, Int.reduceAdd, Int.reduceSub, Int.reduceNeg, Int.reduceToNat, Int.reduceEq, Int.reduceMul, Int.reduceNe, Nat.reduceLeDiff, Nat.reduceLT, Nat.reduceAdd, Nat.reduceSub, Nat.reduceEqDiff, Int.cast_ofNat_Int, reduceCtorEq]
        exact ⟨dk, rfl, hd.mono (by omega)⟩
      · rintro d env hd ⟨dk', h1, h2⟩
        have : alkD s a t = d := by unfold alkD; rw [hn0]; unfold alk1; rw [hd]; rfl
        exact ⟨dk', h1, this.symm, rfl, h2.mono (by omega)⟩
  obtain ⟨v, fr, d', e, rfl, rfl, h3⟩ := key
  exact ⟨d', e, h3⟩
theorem mistake_ok {k : Nat} {s a : Side} {t : Task} (hs : SideOk s) (ha : SideOk a) (ht : TaskOk s.length a.length t) : EV (k + 5) f_mistake [sD s, sD a, tD t] = .ok (misD s a t) false none := by
  refine runF_eq (fd := c_mistake) rfl rfl ?_
  show WS (exs _ _ c_mistake.body [.sh (sD s), .sh (sD a), .sh (tD t)]) _ _ _
  unfold c_mistake
  simp only [S0, S1, S2, S3, S4, S5, S6, S7, S8, S9, S10, S11, S12, S13, S14, S15, S16, S17, SD0, SD1, List.map_cons, List.map_nil, List.map_append, List.length_append, Int.reduceLT, Int.reduceLE, Int.reduceGT, Int.reduceGE, Int.reduceAdd, Int.reduceSub, Int.reduceNeg, Int.reduceToNat, Int.reduceEq, Int.reduceMul, Int.reduceNe, Nat.reduceLeDiff, Nat.reduceLT, Nat.reduceAdd, Nat.reduceSub, Nat.reduceEqDiff, Int.cast_ofNat_Int, reduceCtorEq, need_all_ok (k := k) hs ha ht, first_mistake_ok (k := k + 1) hs ha ht]
theorem are_right_ok {k : Nat} {s a : Side} {t : Task} (hs : SideOk s) (ha : SideOk a) (ht : TaskOk s.length a.length t) : EV (k + 5) f_are_right [sD s, sD a, tD t] = .ok (.bl (misD s a t).isNon) false none := by
  refine runF_eq (fd := c_are_right) rfl rfl ?_
  show WS (exs _ _ c_are_right.body [.sh (sD s), .sh (sD a), .sh (tD t)]) _ _ _
  unfold c_are_right
  simp only [S0, S1, S2, S3, S4, S5, S6, S7, S8, S9, S10, S11, S12, S13, S14, S15, S16, S17, SD0, SD1, List.map_cons, List.map_nil, List.map_append, List.length_append, Int.reduceLT, Int.reduceLE, Int.reduceGT, Int.reduceGE, Int.reduceAdd, Int.reduceSub, Int.reduceNeg, Int.reduceToNat, Int.reduceEq, Int.reduceMul, Int.reduceNe, Nat.reduceLeDiff, Nat.reduceLT, Nat.reduceAdd, Nat.reduceSub, Nat.reduceEqDiff, Int.cast_ofNat_Int, reduceCtorEq, need_all_ok (k := k) hs ha ht, first_mistake_ok (k := k + 1) hs ha ht]
/-- the three calls, of what is no side, no task -/
theorem three_bad {k : Nat} {d1 d2 d3 : D} {x : Exc} (h : EV (k + 4) f_need_all [d1, d2, d3] = .ex x) : ∀ f, f = f_are_right ∨ f = f_mistake ∨ f = f_alike_runs → EV (k + 5) f [d1, d2, d3] = .ex x := by
  rintro f (rfl | rfl | rfl)
  · refine runF_ex (fd := c_are_right) rfl rfl ?_
    show WS (exs _ _ c_are_right.body [.sh d1, .sh d2, .sh d3]) _ _ _
    unfold c_are_right
    simp only [S0, S1, S2, S3, S4, S5, S6, S7, S8, S9, S10, S11, S12, S13, S14, S15, S16, S17, SD0, SD1, List.map_cons, List.map_nil, List.map_append, List.length_append, Int.reduceLT, Int.reduceLE, Int.reduceGT, Int.reduceGE, Int.reduceAdd, Int.reduceSub, Int.reduceNeg, Int.reduceToNat, Int.reduceEq, Int.reduceMul, Int.reduceNe, Nat.reduceLeDiff, Nat.reduceLT, Nat.reduceAdd, Nat.reduceSub, Nat.reduceEqDiff, Int.cast_ofNat_Int, reduceCtorEq, h]
  · refine runF_ex (fd := c_mistake) rfl rfl ?_
    show WS (exs _ _ c_mistake.body [.sh d1, .sh d2, .sh d3]) _ _ _
    unfold c_mistake
    simp only [S0, S1, S2, S3, S4, S5, S6, S7, S8, S9, S10, S11, S12, S13, S14, S15, S16, S17, SD0, SD1, List.map_cons, List.map_nil, List.map_append, List.length_append, Int.reduceLT, Int.reduceLE, Int.reduceGT, Int.reduceGE, Int.reduceAdd, Int.reduceSub, Int.reduceNeg, Int.reduceToNat, Int.reduceEq, Int.reduceMul, Int.reduceNe, Nat.reduceLeDiff, Nat.reduceLT, Nat.reduceAdd, Nat.reduceSub, Nat.reduceEqDiff, Int.cast_ofNat_Int, reduceCtorEq, h]
  · refine runF_ex (fd := c_alike_runs) rfl rfl ?_
    show WS (exs _ _ c_alike_runs.body [.sh d1, .sh d2, .sh d3, .un, .un, .un, .un, .un, .un, .un, .un, .un, .un]) _ _ _
    unfold c_alike_runs
    simp only [S0, S1, S2, S3, S4, S5, S6, S7, S8, S9, S10, S11, S12, S13, S14, S15, S16, S17, SD0, SD1, List.map_cons, List.map_nil, List.map_append, List.length_append, Int.reduceLT, Int.reduceLE, Int.reduceGT, Int.reduceGE, Int.reduceAdd, Int.reduceSub, Int.reduceNeg, Int.reduceToNat, Int.reduceEq, Int.reduceMul, Int.reduceNe, Nat.reduceLeDiff, Nat.reduceLT, Nat.reduceAdd, Nat.reduceSub, Nat.reduceEqDiff, Int.cast_ofNat_Int, reduceCtorEq, h]
end Cor.L07

set_option Elab.async false
set_option linter.all false
set_option maxRecDepth 100000
set_option maxHeartbeats 2000000
/-! M07e: a task with unlike due answers has a mistake and alike runs; drawn tasks; the law's judging. -/
namespace Cor.L07
open Cor
open PySem (Str)
/-! ### once told it stays -/
theorem adj_stay : ∀ {h : Hab}, adjB h = true → ∀ {i j : Nat} {p q : Int × Int}, i ≤ j → h[i]? = some p → h[j]? = some q → p.2 ≠ -1 → q.2 = p.2
  | [], _, i, j, p, q, _, e, _, _ => by simp at e
  | [a], _, i, j, p, q, hij, e, e2, _ => by
    have hj := (List.getElem?_eq_some_iff.mp e2).1
    simp at hj
    subst hj
    have : i = 0 := by omega
    subst this
    rw [e] at e2
    cases e2
    rfl
  | a :: b :: r, had, i, j, p, q, hij, e, e2, hp => by
    have had : (adj2 a b && adjB (b :: r)) = true := had
    rw [Bool.and_eq_true] at had
    cases j with
    | zero =>
      have : i = 0 := by omega
      subst this
      rw [e] at e2
      cases e2
      rfl
    | succ j =>
      cases i with
      | zero =>
        simp at e
        subst e
        have hb : b.2 = a.2 := by
          have := had.1
          unfold adj2 at this
          simp only [Bool.not_eq_true', Bool.or_eq_false_iff, decide_eq_false_iff_not, Bool.and_eq_false_iff, Bool.not_eq_false', decide_eq_true_eq] at this
          rcases this.2 with z | z
          · exact absurd z hp
          · exact z
        have := adj_stay had.2 (Nat.zero_le j) (show (b :: r)[0]? = some b from rfl) (by simpa using e2) (by rw [hb]; exact hp)
        rw [this, hb]
      | succ i => exact adj_stay had.2 (show i ≤ j by omega) (by simpa using e) (by simpa using e2) hp
theorem at_stay {h : Hab} {c d : Int} (hk : HabOk h) (hc : 0 ≤ c) (hcd : c ≤ d) (hv : 0 ≤ (at_ h c).2) : (at_ h d).2 = (at_ h c).2 := by
  have h1 := hk.1
  have l1 : (min c ((h.length : Int) - 1)).toNat < h.length := by omega
  have l2 : (min d ((h.length : Int) - 1)).toNat < h.length := by omega
  refine adj_stay hk.2.2.2 (i := (min c ((h.length : Int) - 1)).toNat) (j := (min d ((h.length : Int) - 1)).toNat) (by omega) ?_ ?_ (by omega)
  · unfold at_
    rw [List.getD_eq_getElem?_getD, List.getElem?_eq_getElem l1]
    rfl
  · unfold at_
    rw [List.getD_eq_getElem?_getD, List.getElem?_eq_getElem l2]
    rfl
theorem at_same {h : Hab} {c d : Int} (hk : HabOk h) (hc : 0 ≤ c) (hd : 0 ≤ d) (h1 : 0 ≤ (at_ h c).2) (h2 : 0 ≤ (at_ h d).2) : (at_ h c).2 = (at_ h d).2 := by
  by_cases q : c ≤ d
  · exact (at_stay hk hc q h1).symm
  · exact at_stay hk hd (by omega) h2
theorem due_pos {m n : Nat} {t : Task} (ht : TaskOk m n t) {i j : Nat} (hi : i < m) (hj : j < n) : 0 ≤ due t i j := by
  obtain ⟨r, h1, h2, _⟩ := due_get ht hi hj
  exact ((ht.2 r (List.mem_of_getElem? h1)).2 _ (List.mem_of_getElem? h2)).1
/-- all due answers are one -/
def OneDue (m n : Nat) (t : Task) : Prop := ∀ i j, i < m → j < n → due t i j = due t 0 0
theorem one_of {m n : Nat} {t : Task} (hm : 0 < m) (hn : 0 < n) (hr : ∀ i j j', i < m → j < n → j' < n → due t i j = due t i j') (hc : ∀ i i' j, i < m → i' < m → j < n → due t i j = due t i' j) : OneDue m n t := fun i j hi hj => by
  rw [hr i j 0 hi hj hn, hc i 0 0 hi hm hn]
theorem mis_one {s a : Side} {t : Task} (hs : SideOk s) (ha : SideOk a) (ht : TaskOk s.length a.length t) (h : misO s a t = none) : OneDue s.length a.length t := by
  have cell : ∀ i j, i < s.length → j < a.length → an0 (s.getD i []) (a.getD j []) = due t i j ∧ an1 (s.getD i []) (a.getD j []) = due t i j := fun i j hi hj => by
    have h1 := List.findSome?_eq_none_iff.mp h i (List.mem_range.mpr hi)
    have h2 := List.findSome?_eq_none_iff.mp h1 j (List.mem_range.mpr hj)
    unfold cellO at h2
    split at h2
    · split at h2
      · exact ⟨by assumption, by assumption⟩
      · cases h2
    · cases h2
  refine one_of (by have := hs.1; omega) (by have := ha.1; omega) (fun i j j' hi hj hj' => ?_) fun i i' j hi hi' hj => ?_
  · obtain ⟨one, _, k1, g1⟩ := side_get hs hi
    obtain ⟨o1, _, k2, g2⟩ := side_get ha hj
    obtain ⟨o2, _, k3, g3⟩ := side_get ha hj'
    have c1 := (cell i j hi hj).1
    have c2 := (cell i j' hi hj').1
    rw [g1, g2] at c1
    rw [g1, g3] at c2
    rw [← c1, ← c2]
    have p1 := due_pos ht hi hj
    have p2 := due_pos ht hi hj'
    rw [← c1] at p1
    rw [← c2] at p2
    exact at_same k1 (fx_ok k1 k2).m0 (fx_ok k1 k3).m0 p1 p2
  · obtain ⟨o1, _, k1, g1⟩ := side_get hs hi
    obtain ⟨o2, _, k2, g2⟩ := side_get hs hi'
    obtain ⟨other, _, k3, g3⟩ := side_get ha hj
    have c1 := (cell i j hi hj).2
    have c2 := (cell i' j hi' hj).2
    rw [g1, g3] at c1
    rw [g2, g3] at c2
    rw [← c1, ← c2]
    have p1 := due_pos ht hi hj
    have p2 := due_pos ht hi' hj
    rw [← c1] at p1
    rw [← c2] at p2
    exact at_same k3 (fx_ok k1 k3).y0 (fx_ok k2 k3).y0 p1 p2
theorem row_const {e own : Int} {vs : List Int} {cm : Nat → Int} (h : alkRow e own vs cm = none) {j : Nat} (hj : j < vs.length) : vs.getD j 0 = vs.getD 0 0 := by
  cases j with
  | zero => rfl
  | succ j =>
    have h1 := List.findSome?_eq_none_iff.mp h 0 (List.mem_range.mpr (by omega))
    have h2 := List.findSome?_eq_none_iff.mp h1 j (List.mem_range.mpr (by omega))
    unfold alkCell at h2
    split at h2
    · rename_i q
      rw [q]
      congr 1
      omega
    · cases h2
theorem alk_one {s a : Side} {t : Task} (hs : SideOk s) (ha : SideOk a) (ht : TaskOk s.length a.length t) (h0 : alk0 s a t = none) (h1 : alk1 s a t = none) : OneDue s.length a.length t := by
  refine one_of (by have := hs.1; omega) (by have := ha.1; omega) (fun i j j' hi hj hj' => ?_) fun i i' j hi hi' hj => ?_
  · have r := List.findSome?_eq_none_iff.mp h0 i (List.mem_range.mpr hi)
    have l := (row_len ht hi).2
    have e1 := row_const r (j := j) (by omega)
    have e2 := row_const r (j := j') (by omega)
    show (t.getD i []).getD j 0 = (t.getD i []).getD j' 0
    rw [e1, e2]
  · have r := List.findSome?_eq_none_iff.mp h1 j (List.mem_range.mpr hj)
    have l : (col t j).length = s.length := by unfold col; rw [List.length_map, ht.1]
    have e1 := row_const r (j := i) (by omega)
    have e2 := row_const r (j := i') (by omega)
    rw [← col_get ht (own := j) hi, ← col_get ht (own := j) hi', e1, e2]
theorem firstMet_one {val : Nat → Int} {x : Int} : ∀ (i : Nat), (∀ j, j < i → val j = x) → PyProof.Rows.firstMet val i = if i = 0 then [] else [x]
  | 0, _ => rfl
  | i + 1, h => by
    rw [PyProof.Rows.firstMet_succ, firstMet_one i fun j hj => h j (by omega), h i (by omega)]
    cases i with
    | zero => rfl
    | succ i =>
      show PyProof.Rows.step_dedup [x] x = [x]
      unfold PyProof.Rows.step_dedup
      simp
theorem one_len {m n : Nat} {t : Task} (ht : TaskOk m n t) (h : OneDue m n t) : (PyProof.Rows.firstMet (fun i => t.flatten.getD i 0) t.flatten.length).length < 2 := by
  rw [firstMet_one (x := due t 0 0) t.flatten.length fun j hj => ?_]
  · split <;> simp
  · rw [List.getD_eq_getElem?_getD, List.getElem?_eq_getElem hj]
    show t.flatten[j] = due t 0 0
    obtain ⟨r, hr, hv⟩ := List.mem_flatten.mp (List.getElem_mem hj)
    obtain ⟨i, hi, ei⟩ := List.mem_iff_getElem.mp hr
    obtain ⟨l, hl, el⟩ := List.mem_iff_getElem.mp hv
    have hi' : i < m := by rw [← ht.1]; exact hi
    have hl' : l < n := by rw [← (ht.2 r hr).1]; exact hl
    rw [← h i l hi' hl', ← el]
    unfold due
    have e : t.getD i [] = r := by rw [List.getD_eq_getElem?_getD, List.getElem?_eq_getElem hi]; exact ei
    rw [e, List.getD_eq_getElem?_getD, List.getElem?_eq_getElem hl]
    rfl
theorem alkCell_int {e own : Int} {vs : List Int} {cm : Nat → Int} {f k : Nat} {d : D} (h : alkCell e own vs cm f k = some d) : PlN 12 1 d ∧ d.isNon = false := by
  unfold alkCell at h
  split at h
  · cases h
  · cases h
    exact ⟨plnB_ok rfl, rfl⟩
theorem alkRow_int {e own : Int} {vs : List Int} {cm : Nat → Int} {d : D} (h : alkRow e own vs cm = some d) : PlN 12 1 d ∧ d.isNon = false := by
  obtain ⟨f, _, h1⟩ := List.exists_of_findSome?_eq_some h
  obtain ⟨k, _, h2⟩ := List.exists_of_findSome?_eq_some h1
  exact alkCell_int h2
theorem alk0_int {s a : Side} {t : Task} {d : D} (h : alk0 s a t = some d) : PlN 12 1 d ∧ d.isNon = false := by
  obtain ⟨f, _, h1⟩ := List.exists_of_findSome?_eq_some h
  exact alkRow_int h1
theorem alk1_int {s a : Side} {t : Task} {d : D} (h : alk1 s a t = some d) : PlN 12 1 d ∧ d.isNon = false := by
  obtain ⟨f, _, h1⟩ := List.exists_of_findSome?_eq_some h
  exact alkRow_int h1
theorem mis_int {s a : Side} {t : Task} {d : D} (h : misO s a t = some d) : PlN 12 1 d ∧ d.isNon = false := by
  obtain ⟨f, _, h1⟩ := List.exists_of_findSome?_eq_some h
  obtain ⟨k, _, h2⟩ := List.exists_of_findSome?_eq_some h1
  unfold cellO at h2
  split at h2
  · split at h2
    · cases h2
    · cases h2
      exact ⟨plnB_ok rfl, rfl⟩
  · cases h2
    exact ⟨plnB_ok rfl, rfl⟩
theorem alkD_pl (s a : Side) (t : Task) : PlN 12 1 (alkD s a t) := by
  unfold alkD
  cases q0 : alk0 s a t with
  | some d => exact (alk0_int q0).1
  | none =>
    cases q1 : alk1 s a t with
    | some d => exact (alk1_int q1).1
    | none => exact PlN.non
theorem misD_pl (s a : Side) (t : Task) : PlN 12 1 (misD s a t) := by
  unfold misD
  cases q0 : misO s a t with
  | some d => exact (mis_int q0).1
  | none => exact PlN.non
/-- unlike due answers: a mistake, and alike runs -/
theorem judged {s a : Side} {t : Task} (hs : SideOk s) (ha : SideOk a) (ht : TaskOk s.length a.length t) : (PyProof.Rows.firstMet (fun i => t.flatten.getD i 0) t.flatten.length).length < 2 ∨ ((misD s a t).isNon = false ∧ (alkD s a t).isNon = false) := by
  unfold misD alkD
  cases q : misO s a t with
  | none => exact .inl (one_len ht (mis_one hs ha ht q))
  | some d =>
    cases q0 : alk0 s a t with
    | some d' => exact .inr ⟨(mis_int q).2, (alk0_int q0).2⟩
    | none =>
      cases q1 : alk1 s a t with
      | some d' => exact .inr ⟨(mis_int q).2, (alk1_int q1).2⟩
      | none => exact .inl (one_len ht (alk_one hs ha ht q0 q1))
end Cor.L07

set_option Elab.async false
set_option linter.all false
set_option maxRecDepth 100000
set_option maxHeartbeats 2000000
/-! M07f: drawn tasks, the law's judging. -/
namespace Cor.L07
open Cor
open PySem (Str)
theorem an0_le {one other : Hab} (h1 : HabOk one) (h2 : HabOk other) : an0 one other ≤ 9 := (h1.2.2.1 _ (at_mem h1 (fx_ok h1 h2).m0)).2.2.2
theorem a_task_ok {k md : Nat} {dk : D} {s a : Side} (hd : DeckOk md dk) (hm : md + 500 ≤ 2 ^ 38) (hs : SideOk s) (ha : SideOk a) : ∃ t dk', EV (k + 4) f__law_a_task [dk, sD s, sD a] = .ok (tD t) false (some dk') ∧ TaskOk s.length a.length t ∧ DeckOk (md + 500) dk' := by
  have key : ∃ v fr d', EV (k + 4) f__law_a_task [dk, sD s, sD a] = .ok v fr (some d') ∧ fr = false ∧ ∃ t, v = tD t ∧ TaskOk s.length a.length t ∧ DeckOk (md + 500) d' := by
    refine runF_io (fd := c__law_a_task) (P := fun v fr d' => fr = false ∧ ∃ t, v = tD t ∧ TaskOk s.length a.length t ∧ DeckOk (md + 500) d') rfl rfl ?_
    show WS (exs (EV (k + 3)) _ c__law_a_task.body [.io dk, .sh (sD s), .sh (sD a), .un, .un, .un, .un, .un, .un]) _ _ _
    unfold c__law_a_task
    have hsl := hs.2.1
    have hal := ha.2.1
    obtain ⟨u, dk1, e1, u0, u1, hd1⟩ := pick_ok (k := k + 2) (size := 3) hd (by omega) (by omega) (by omega)
    obtain ⟨w, dk2, e2, w0, w1, hd2⟩ := pick_ok (k := k + 2) (size := 3) hd1 (by omega) (by omega) (by omega)
    have wS : (sD s).walk? = some (s.map hD) := rfl
    have wA : (sD a).walk? = some (a.map hD) := rfl
    refine WS.cutN 1 (fun env => env = [.io dk2, .sh (sD s), .sh (sD a), .un, .sh (.int u), .sh (.int w), .ow (.lst []), .un, .un]) (by simp only [S0, S1, S2, S3, S4, S5, S6, S7, S8, S9, S10, S11, S12, S13, S14, S15, S16, S17, SD0, SD1, List.map_cons, List.map_nil, List.map_append, List.length_append, Int.reduceLT, Int.reduceLE, Int.reduceGT, Int.reduceGE, Int.reduceAdd, Int.reduceSub, Int.reduceNeg, Int.reduceToNat, Int.reduceEq, Int.reduceMul, Int.reduceNe, Nat.reduceLeDiff, Nat.reduceLT, Nat.reduceAdd, Nat.reduceSub, Nat.reduceEqDiff, Int.cast_ofNat_Int, reduceCtorEq, e1, e2]) ?_
    rintro env rfl
    refine WS.cutN 1 (fun env => ∃ dk s3 s7 s8 t, env = [.io dk, .sh (sD s), .sh (sD a), s3, .sh (.int u), .sh (.int w), .ow (.lst (t.map tI)), s7, s8] ∧ TaskOk s.length a.length t ∧ DeckOk (md + 500) dk) ?_ ?_
    · simp only [S0, S1, S2, S3, S4, S5, S6, S7, S8, S9, S10, S11, S12, S13, S14, S15, S16, S17, SD0, SD1, List.map_cons, List.map_nil, List.map_append, List.length_append, Int.reduceLT, Int.reduceLE, Int.reduceGT, Int.reduceGE, Int.reduceAdd, Int.reduceSub, Int.reduceNeg, Int.reduceToNat, Int.reduceEq, Int.reduceMul, Int.reduceNe, Nat.reduceLeDiff, Nat.reduceLT, Nat.reduceAdd, Nat.reduceSub, Nat.reduceEqDiff, Int.cast_ofNat_Int, reduceCtorEq, wS]
      refine WS.forL (fun rest env => ∃ dk s3 s7 s8 t, NI s3 ∧ NI s7 ∧ NI s8 ∧ env = [.io dk, .sh (sD s), .sh (sD a), s3, .sh (.int u), .sh (.int w), .ow (.lst (t.map tI)), s7, s8] ∧ TaskOk t.length a.length t ∧ (∃ rst, rest = rst.map hD ∧ (∀ h ∈ rst, HabOk h) ∧ t.length + rst.length = s.length) ∧ DeckOk (md + 2 + 100 * t.length) dk)
        ⟨dk2, _, _, _, [], NI.un, NI.un, NI.un, rfl, ⟨rfl, fun r hr => by cases hr⟩, ⟨s, rfl, hs.2.2, by simp⟩, hd2⟩ ?_ ?_
      · rintro x r env ⟨dk, s3, s7, s8, t, n3, n7, n8, rfl, ht, ⟨rst, hr, hrk, hrl⟩, hdk⟩
        match rst, hr, hrk, hrl with
        | one :: rst, hr, hrk, hrl =>
          injection hr with hx hr'
          subst hx hr'
          have k1 := hrk one (List.mem_cons_self ..)
          simp only [List.length_cons] at hrl
          have htl : t.length < 16777216 := by omega
          refine WS.asg1 [.io dk, .sh (sD s), .sh (sD a), .sh (hD one), .sh (.int u), .sh (.int w), .ow (.lst (t.map tI)), s7, s8] (by simp only [S0, S1, S2, S3, S4, S5, S6, S7, S8, S9, S10, S11, S12, S13, S14, S15, S16, S17, SD0, SD1, List.map_cons, List.map_nil, List.map_append, List.length_append, Int.reduceLT, Int.reduceLE, Int.reduceGT, Int.reduceGE, Int.reduceAdd, Int.reduceSub, Int.reduceNeg, Int.reduceToNat, Int.reduceEq, Int.reduceMul, Int.reduceNe, Nat.reduceLeDiff, Nat.reduceLT, Nat.reduceAdd, Nat.reduceSub, Nat.reduceEqDiff, Int.cast_ofNat_Int, reduceCtorEq, asK_ni n3]) ?_
          -- the first row
          refine WS.cutN 1 (fun env => ∃ (dk : D) (s8 : Sl) (vs : List Int), NI s8 ∧ env = [.io dk, .sh (sD s), .sh (sD a), .sh (hD one), .sh (.int u), .sh (.int w), .ow (.lst (t.map tI)), .ow (.lst (vs.map D.int)), s8] ∧ vs.length = a.length ∧ (∀ v ∈ vs, 0 ≤ v ∧ v ≤ 9) ∧ DeckOk (md + 2 + 100 * t.length + 4) dk) ?_ ?_
          · simp only [S0, S1, S2, S3, S4, S5, S6, S7, S8, S9, S10, S11, S12, S13, S14, S15, S16, S17, SD0, SD1, List.map_cons, List.map_nil, List.map_append, List.length_append, Int.reduceLT, Int.reduceLE, Int.reduceGT, Int.reduceGE, Int.reduceAdd, Int.reduceSub, Int.reduceNeg, Int.reduceToNat, Int.reduceEq, Int.reduceMul, Int.reduceNe, Nat.reduceLeDiff, Nat.reduceLT, Nat.reduceAdd, Nat.reduceSub, Nat.reduceEqDiff, Int.cast_ofNat_Int, reduceCtorEq, wA]
            refine (WR.compL (P := fun r => ∃ (dk : D) (s8 : Sl) (vs : List Int), NI s8 ∧ r = (vs.map D.int, [.io dk, .sh (sD s), .sh (sD a), .sh (hD one), .sh (.int u), .sh (.int w), .ow (.lst (t.map tI)), s7, s8]) ∧ vs.length = a.length ∧ (∀ v ∈ vs, 0 ≤ v ∧ v ≤ 9) ∧ DeckOk (md + 2 + 100 * t.length + 4) dk)
              (I := fun rest env acc => ∃ (dk : D) (s8 : Sl) (vs : List Int), NI s8 ∧ env = [.io dk, .sh (sD s), .sh (sD a), .sh (hD one), .sh (.int u), .sh (.int w), .ow (.lst (t.map tI)), s7, s8] ∧ acc = vs.map D.int ∧ vs.length + rest.length = a.length ∧ (∀ v ∈ vs, 0 ≤ v ∧ v ≤ 9) ∧ DeckOk (md + 2 + 100 * t.length + vs.length) dk) ⟨dk, _, [], n8, rfl, rfl, by simp, fun v hv => (by cases hv), hdk⟩ ?_ ?_).imp ?_ (fun _ _ z => z)
            · rintro y r' env acc ⟨dk, s8, vs, n8, rfl, rfl, hl, hv, hdk⟩
              simp only [List.length_cons] at hl
              have hvl : vs.length < 16777216 := by omega
              obtain ⟨z, dk', e3, z0, z1, hdk'⟩ := pick_ok (k := k + 2) (size := 3) hdk (by omega) (by omega) (by omega)
              by_cases q : w = 0
              · simp only [S0, S1, S2, S3, S4, S5, S6, S7, S8, S9, S10, S11, S12, S13, S14, S15, S16, S17, SD0, SD1, List.map_cons, List.map_nil, List.map_append, List.length_append, Int.reduceLT, Int.reduceLE, Int.reduceGT, Int.reduceGE, Int.reduceAdd, Int.reduceSub, Int.reduceNeg, Int.reduceToNat, Int.reduceEq, Int.reduceMul, Int.reduceNe, Nat.reduceLeDiff, Nat.reduceLT, Nat.reduceAdd, Nat.reduceSub, Nat.reduceEqDiff, Int.cast_ofNat_Int, reduceCtorEq, q, e3, List.length_map, hvl]
                refine ⟨dk', _, vs ++ [z], ?_, rfl, by simp, by simp; omega, fun v hv' => ?_, by rw [List.length_append]; exact hdk'⟩
                · cases s8 <;> first | exact NI.un | exact NI.sh
                · rcases List.mem_append.mp hv' with h | h
                  · exact hv v h
                  · simp only [List.mem_singleton] at h; omega
              · simp only [S0, S1, S2, S3, S4, S5, S6, S7, S8, S9, S10, S11, S12, S13, S14, S15, S16, S17, SD0, SD1, List.map_cons, List.map_nil, List.map_append, List.length_append, Int.reduceLT, Int.reduceLE, Int.reduceGT, Int.reduceGE, Int.reduceAdd, Int.reduceSub, Int.reduceNeg, Int.reduceToNat, Int.reduceEq, Int.reduceMul, Int.reduceNe, Nat.reduceLeDiff, Nat.reduceLT, Nat.reduceAdd, Nat.reduceSub, Nat.reduceEqDiff, Int.cast_ofNat_Int, reduceCtorEq, q, List.length_map, hvl]
                refine ⟨dk, _, vs ++ [u], ?_, rfl, by simp, by simp; omega, fun v hv' => ?_, by rw [List.length_append]; exact hdk.mono (by omega)⟩
                · cases s8 <;> first | exact NI.un | exact NI.sh
                · rcases List.mem_append.mp hv' with h | h
                  · exact hv v h
                  · simp only [List.mem_singleton] at h; omega
            · rintro env acc ⟨dk, s8, vs, n8, rfl, rfl, hl, hv, hdk⟩
              simp only [List.length_nil] at hl
              exact ⟨dk, s8, vs, n8, rfl, by omega, hv, hdk.mono (by omega)⟩
            · rintro ⟨ds, env⟩ ⟨dk, s8, vs, n8, h, hl, hv, hdk⟩
              cases h
              simp only [S0, S1, S2, S3, S4, S5, S6, S7, S8, S9, S10, S11, S12, S13, S14, S15, S16, S17, SD0, SD1, List.map_cons, List.map_nil, List.map_append, List.length_append, Int.reduceLT, Int.reduceLE, Int.reduceGT, Int.reduceGE, Int.reduceAdd, Int.reduceSub, Int.reduceNeg, Int.reduceToNat, Int.reduceEq, Int.reduceMul, Int.reduceNe, Nat.reduceLeDiff, Nat.reduceLT, Nat.reduceAdd, Nat.reduceSub, Nat.reduceEqDiff, Int.cast_ofNat_Int, reduceCtorEq, asK_ni n7]
              exact ⟨dk, _, vs, n8, rfl, hl, hv, hdk⟩
          · rintro env ⟨dk, s8, vs, n8, rfl, hl, hv, hdk⟩
            -- what is told
            refine WS.cutN 1 (fun env => ∃ (dk : D) (s8 : Sl) (vs : List Int), NI s8 ∧ env = [.io dk, .sh (sD s), .sh (sD a), .sh (hD one), .sh (.int u), .sh (.int w), .ow (.lst (t.map tI)), .ow (.lst (vs.map D.int)), s8] ∧ vs.length = a.length ∧ (∀ v ∈ vs, 0 ≤ v ∧ v ≤ 9) ∧ DeckOk (md + 2 + 100 * t.length + 100) dk) ?_ ?_
            · by_cases q : w = 2
              · subst q
                simp only [S0, S1, S2, S3, S4, S5, S6, S7, S8, S9, S10, S11, S12, S13, S14, S15, S16, S17, SD0, SD1, List.map_cons, List.map_nil, List.map_append, List.length_append, Int.reduceLT, Int.reduceLE, Int.reduceGT, Int.reduceGE, Int.reduceAdd, Int.reduceSub, Int.reduceNeg, Int.reduceToNat, Int.reduceEq, Int.reduceMul, Int.reduceNe, Nat.reduceLeDiff, Nat.reduceLT, Nat.reduceAdd, Nat.reduceSub, Nat.reduceEqDiff, Int.cast_ofNat_Int, reduceCtorEq, wA]
                refine (WR.compL (P := fun r => ∃ (dk : D) (s8 : Sl) (us : List Int), NI s8 ∧ r = (us.map D.int, [.io dk, .sh (sD s), .sh (sD a), .sh (hD one), .sh (.int u), .sh (.int 2), .ow (.lst (t.map tI)), .ow (.lst (vs.map D.int)), s8]) ∧ us.length = a.length ∧ (∀ v ∈ us, 0 ≤ v ∧ v ≤ 9) ∧ DeckOk (md + 2 + 100 * t.length + 100) dk)
                  (I := fun rest env acc => ∃ (dk : D) (s8 : Sl) (us : List Int), NI s8 ∧ env = [.io dk, .sh (sD s), .sh (sD a), .sh (hD one), .sh (.int u), .sh (.int 2), .ow (.lst (t.map tI)), .ow (.lst (vs.map D.int)), s8] ∧ acc = us.map D.int ∧ us.length + rest.length = a.length ∧ (∃ rst, rest = rst.map hD ∧ ∀ h ∈ rst, HabOk h) ∧ (∀ v ∈ us, 0 ≤ v ∧ v ≤ 9) ∧ DeckOk (md + 2 + 100 * t.length + 4 + 24 * us.length) dk) ⟨dk, _, [], n8, rfl, rfl, by simp, ⟨a, rfl, ha.2.2⟩, fun v hv => (by cases hv), hdk⟩ ?_ ?_).imp ?_ (fun _ _ z => z)
                · rintro y r' env acc ⟨dk, s8, us, n8, rfl, rfl, hl, ⟨rst, hr, hrk⟩, hv, hdk⟩
                  match rst, hr, hrk with
                  | other :: rst, hr, hrk =>
                    injection hr with hx hr'
                    subst hx hr'
                    have k2 := hrk other (List.mem_cons_self ..)
                    simp only [List.length_cons] at hl
                    have hvl : us.length < 16777216 := by omega
                    obtain ⟨dk', e3, hdk'⟩ := at_end_fx (k := k) hdk (by omega) k1 k2
                    rw [eD_eq] at e3
                    have le := an0_le k1 k2
                    obtain ⟨z, hz⟩ : ∃ z : Int, z = (if an0 one other > 0 then an0 one other else 0) := ⟨_, rfl⟩
                    have hz2 : 0 ≤ z ∧ z ≤ 9 := by rw [hz]; split <;> omega
                    simp only [S0, S1, S2, S3, S4, S5, S6, S7, S8, S9, S10, S11, S12, S13, S14, S15, S16, S17, SD0, SD1, List.map_cons, List.map_nil, List.map_append, List.length_append, Int.reduceLT, Int.reduceLE, Int.reduceGT, Int.reduceGE, Int.reduceAdd, Int.reduceSub, Int.reduceNeg, Int.reduceToNat, Int.reduceEq, Int.reduceMul, Int.reduceNe, Nat.reduceLeDiff, Nat.reduceLT, Nat.reduceAdd, Nat.reduceSub, Nat.reduceEqDiff, Int.cast_ofNat_Int, reduceCtorEq, e3, List.length_map, hvl, ← hz]
                    refine ⟨dk', _, us ++ [z], ?_, rfl, by simp, by simp at hl ⊢; omega, ⟨rst, rfl, fun h hh => hrk h (List.mem_cons_of_mem _ hh)⟩, fun v hv' => ?_, by rw [List.length_append]; exact hdk'.mono (by simp; omega)⟩
                    · cases s8 <;> first | exact NI.un | exact NI.sh
                    · rcases List.mem_append.mp hv' with h | h
                      · exact hv v h
                      · simp only [List.mem_singleton] at h; omega
                · rintro env acc ⟨dk, s8, us, n8, rfl, rfl, hl, _, hv, hdk⟩
                  simp only [List.length_nil] at hl
                  exact ⟨dk, s8, us, n8, rfl, by omega, hv, hdk.mono (by omega)⟩
                · rintro ⟨ds, env⟩ ⟨dk, s8, us, n8, h, hl, hv, hdk⟩
                  cases h
                  simp only [S0, S1, S2, S3, S4, S5, S6, S7, S8, S9, S10, S11, S12, S13, S14, S15, S16, S17, SD0, SD1, List.map_cons, List.map_nil, List.map_append, List.length_append, Int.reduceLT, Int.reduceLE, Int.reduceGT, Int.reduceGE, Int.reduceAdd, Int.reduceSub, Int.reduceNeg, Int.reduceToNat, Int.reduceEq, Int.reduceMul, Int.reduceNe, Nat.reduceLeDiff, Nat.reduceLT, Nat.reduceAdd, Nat.reduceSub, Nat.reduceEqDiff, Int.cast_ofNat_Int, reduceCtorEq]
                  exact ⟨dk, _, us, n8, rfl, hl, hv, hdk⟩
              · simp only [S0, S1, S2, S3, S4, S5, S6, S7, S8, S9, S10, S11, S12, S13, S14, S15, S16, S17, SD0, SD1, List.map_cons, List.map_nil, List.map_append, List.length_append, Int.reduceLT, Int.reduceLE, Int.reduceGT, Int.reduceGE, Int.reduceAdd, Int.reduceSub, Int.reduceNeg, Int.reduceToNat, Int.reduceEq, Int.reduceMul, Int.reduceNe, Nat.reduceLeDiff, Nat.reduceLT, Nat.reduceAdd, Nat.reduceSub, Nat.reduceEqDiff, Int.cast_ofNat_Int, reduceCtorEq, q]
                exact ⟨dk, _, vs, n8, rfl, hl, hv, hdk.mono (by omega)⟩
            · rintro env ⟨dk, s8, vs, n8, rfl, hl, hv, hdk⟩
              simp only [S0, S1, S2, S3, S4, S5, S6, S7, S8, S9, S10, S11, S12, S13, S14, S15, S16, S17, SD0, SD1, List.map_cons, List.map_nil, List.map_append, List.length_append, Int.reduceLT, Int.reduceLE, Int.reduceGT, Int.reduceGE, Int.reduceAdd, Int.reduceSub, Int.reduceNeg, Int.reduceToNat, Int.reduceEq, Int.reduceMul, Int.reduceNe, Nat.reduceLeDiff, Nat.reduceLT, Nat.reduceAdd, Nat.reduceSub, Nat.reduceEqDiff, Int.cast_ofNat_Int, reduceCtorEq, List.length_map, htl]
              refine ⟨dk, _, _, _, t ++ [vs], NI.sh, NI.ow, n8, by rw [List.map_append]; rfl, ⟨rfl, fun r hr => ?_⟩, ⟨rst, rfl, fun h hh => hrk h (List.mem_cons_of_mem _ hh), by simp; omega⟩, by rw [List.length_append]; exact hdk.mono (by simp; omega)⟩
              rcases List.mem_append.mp hr with h | h
              · exact ht.2 r h
              · simp only [List.mem_singleton] at h
                subst h
                exact ⟨hl, hv⟩
      · rintro env ⟨dk, s3, s7, s8, t, n3, n7, n8, rfl, ht, ⟨rst, hr, hrk, hrl⟩, hdk⟩
        match rst, hr, hrl with
        | [], _, hrl =>
          simp only [List.length_nil, Nat.add_zero] at hrl
          simp only [S0, S1, S2, S3, S4, S5, S6, S7, S8, S9, S10, S11, S12, S13, S14, S15, S16, S17, SD0, SD1, List.map_cons, List.map_nil, List.map_append, List.length_append, Int.reduceLT, Int.reduceLE, Int.reduceGT, Int.reduceGE, Int.reduceAdd, Int.reduceSub, Int.reduceNeg, Int.reduceToNat, Int.reduceEq, Int.reduceMul, Int.reduceNe, Nat.reduceLeDiff, Nat.reduceLT, Nat.reduceAdd, Nat.reduceSub, Nat.reduceEqDiff, Int.cast_ofNat_Int, reduceCtorEq]
          rw [hrl] at ht hdk
          exact ⟨dk, _, _, _, t, rfl, ht, hdk.mono (by omega)⟩
    · rintro env ⟨dk, s3, s7, s8, t, rfl, ht, hdk⟩
      simp only [S0, S1, S2, S3, S4, S5, S6, S7, S8, S9, S10, S11, S12, S13, S14, S15, S16, S17, SD0, SD1, List.map_cons, List.map_nil, List.map_append, List.length_append, Int.reduceLT, Int.reduceLE, Int.reduceGT, Int.reduceGE, Int.reduceAdd, Int.reduceSub, Int.reduceNeg, Int.reduceToNat, Int.reduceEq, Int.reduceMul, Int.reduceNe, Nat.reduceLeDiff, Nat.reduceLT, Nat.reduceAdd, Nat.reduceSub, Nat.reduceEqDiff, Int.cast_ofNat_Int, reduceCtorEq]
      exact ⟨dk, rfl, t, rfl, ht, hdk⟩
  obtain ⟨v, fr, d', e, rfl, t, rfl, ht, h3⟩ := key
  exact ⟨t, d', e, ht, h3⟩
theorem ints_map (l : List Int) : D.ints? (l.map D.int) = some l := by
  unfold D.ints?
  induction l with
  | nil => rfl
  | cons b l ih => rw [List.map_cons, List.mapM_cons, ih]; rfl
theorem law_good_ok {k md : Nat} {dk : D} {s a : Side} {t : Task} (hd : DeckOk md dk) (hm : md + 500 ≤ 2 ^ 38) (hs : SideOk s) (ha : SideOk a) (ht : TaskOk s.length a.length t) : ∃ dk', EV (k + 6) f__law_good [dk, sD s, sD a, tD t] = .ok (.bl true) false (some dk') ∧ DeckOk (md + 500) dk' := by
  have key : ∃ v fr d', EV (k + 6) f__law_good [dk, sD s, sD a, tD t] = .ok v fr (some d') ∧ v = .bl true ∧ fr = false ∧ DeckOk (md + 500) d' := by
    refine runF_io (fd := c__law_good) (P := fun v fr d' => v = .bl true ∧ fr = false ∧ DeckOk (md + 500) d') rfl rfl ?_
    show WS (exs (EV (k + 5)) _ c__law_good.body [.io dk, .sh (sD s), .sh (sD a), .sh (tD t), .un, .un, .un, .un, .un]) _ _ _
    unfold c__law_good
    have hsl := hs.2.1
    have hal := ha.2.1
    obtain ⟨dk1, e1, hd1⟩ := law_mistake_ok (k := k + 1) hd (by omega) hs ha ht
    obtain ⟨dk2, e2, hd2⟩ := law_alike_ok (k := k + 1) hd1 (by omega) hs ha ht
    have e3 := mistake_ok (k := k) hs ha ht
    have e4 := are_right_ok (k := k) hs ha ht
    have e5 := alike_runs_ok (k := k) hs ha ht
    have pm := misD_pl s a t
    have pa := alkD_pl s a t
    have e6 : EV (k + 5) f__law_same [.lst [misD s a t, .bl (misD s a t).isNon], .lst [misD s a t, .bl (misD s a t).isNon]] = .ok (.bl true) false none := same_ok (L := 12) (n := 2) (PlN.lst (by show 2 ≤ 12; decide) fun x hx => by
      simp only [List.not_mem_nil, List.mem_cons, or_false] at hx
      rcases hx with rfl | rfl
      · exact pm
      · exact PlN.bl) (by omega) (by omega)
    have e7 : EV (k + 5) f__law_same [alkD s a t, alkD s a t] = .ok (.bl true) false none := same_ok pa (by omega) (by omega)
    refine WS.cutN 4 (fun env => env = [.io dk2, .sh (sD s), .sh (sD a), .sh (tD t), .sh (.lst [misD s a t, .bl (misD s a t).isNon]), .un, .un, .sh (misD s a t), .sh (alkD s a t)]) (by simp only [S0, S1, S2, S3, S4, S5, S6, S7, S8, S9, S10, S11, S12, S13, S14, S15, S16, S17, SD0, SD1, List.map_cons, List.map_nil, List.map_append, List.length_append, Int.reduceLT, Int.reduceLE, Int.reduceGT, Int.reduceGE, Int.reduceAdd, Int.reduceSub, Int.reduceNeg, Int.reduceToNat, Int.reduceEq, Int.reduceMul, Int.reduceNe, Nat.reduceLeDiff, Nat.reduceLT, Nat.reduceAdd, Nat.reduceSub, Nat.reduceEqDiff, Int.cast_ofNat_Int, reduceCtorEq, e1, e2, e3, e4, e5, e6, e7]) ?_
    rintro env rfl
    have wT : (tD t).walk? = some (t.map tI) := rfl
    have flen : t.flatten.length ≤ 16 := by
      have : ∀ (l : Task), (∀ r ∈ l, r.length = a.length) → l.flatten.length = l.length * a.length := by
        intro l
        induction l with
        | nil => intro _; simp
        | cons r l ih =>
          intro h
          rw [List.flatten_cons, List.length_append, ih fun x hx => h x (List.mem_cons_of_mem _ hx), h r (List.mem_cons_self ..), List.length_cons, Nat.succ_mul]
          omega
      rw [this t fun r hr => (ht.2 r hr).1, ht.1]
      exact Nat.le_trans (Nat.mul_le_mul hsl hal) (by decide)
    refine WS.cutN 2 (fun env => ∃ s6, env = [.io dk2, .sh (sD s), .sh (sD a), .sh (tD t), .sh (.lst [misD s a t, .bl (misD s a t).isNon]), .ow (.lst (t.flatten.map D.int)), s6, .sh (misD s a t), .sh (alkD s a t)]) ?_ ?_
    · simp only [S0, S1, S2, S3, S4, S5, S6, S7, S8, S9, S10, S11, S12, S13, S14, S15, S16, S17, SD0, SD1, List.map_cons, List.map_nil, List.map_append, List.length_append, Int.reduceLT, Int.reduceLE, Int.reduceGT, Int.reduceGE, Int.reduceAdd, Int.reduceSub, Int.reduceNeg, Int.reduceToNat, Int.reduceEq, Int.reduceMul, Int.reduceNe, Nat.reduceLeDiff, Nat.reduceLT, Nat.reduceAdd, Nat.reduceSub, Nat.reduceEqDiff, Int.cast_ofNat_Int, reduceCtorEq, wT]
      refine WS.forL (fun rest env => ∃ s6 es, NI s6 ∧ env = [.io dk2, .sh (sD s), .sh (sD a), .sh (tD t), .sh (.lst [misD s a t, .bl (misD s a t).isNon]), .ow (.lst (es.map D.int)), s6, .sh (misD s a t), .sh (alkD s a t)] ∧ ∃ done rst, t = done ++ rst ∧ rest = rst.map tI ∧ es = done.flatten) ⟨_, [], NI.un, rfl, [], t, rfl, rfl, rfl⟩ ?_ ?_
      · rintro x r env ⟨s6, es, n6, rfl, done, rst, hl, hr, rfl⟩
        match rst, hr with
        | w :: rst, hr =>
          injection hr with hx hr'
          subst hx hr'
          have hz : done.flatten.length + w.length ≤ 16777216 := by
            rw [hl, List.flatten_append, List.flatten_cons, List.length_append, List.length_append] at flen
            omega
          simp only [S0, S1, S2, S3, S4, S5, S6, S7, S8, S9, S10, S11, S12, S13, S14, S15, S16, S17, SD0, SD1, List.map_cons, List.map_nil, List.map_append, List.length_append, Int.reduceLT, Int.reduceLE, Int.reduceGT, Int.reduceGE, Int.reduceAdd, Int.reduceSub, Int.reduceNeg, Int.reduceToNat, Int.reduceEq, Int.reduceMul, Int.reduceNe, Nat.reduceLeDiff, Nat.reduceLT, Nat.reduceAdd, Nat.reduceSub, Nat.reduceEqDiff, Int.cast_ofNat_Int, reduceCtorEq, asK_ni n6, tI, List.length_map, hz]
          exact ⟨_, done.flatten ++ w, NI.sh, by rw [List.map_append], done ++ [w], rst, by rw [hl]; simp, rfl, by simp⟩
      · rintro env ⟨s6, es, n6, rfl, done, rst, hl, hr, rfl⟩
        match rst, hr with
        | [], _ =>
          rw [List.append_nil] at hl
          subst hl
          simp only [S0, S1, S2, S3, S4, S5, S6, S7, S8, S9, S10, S11, S12, S13, S14, S15, S16, S17, SD0, SD1, List.map_cons, List.map_nil, List.map_append, List.length_append, Int.reduceLT, Int.reduceLE, Int.reduceGT, Int.reduceGE, Int.reduceAdd, Int.reduceSub, Int.reduceNeg, Int.reduceToNat, Int.reduceEq, Int.reduceMul, Int.reduceNe, Nat.reduceLeDiff, Nat.reduceLT, Nat.reduceAdd, Nat.reduceSub, Nat.reduceEqDiff, Int.cast_ofNat_Int, reduceCtorEq]
          exact ⟨_, rfl⟩
    · rintro env ⟨s6, rfl⟩
      have el : lsetD (.lst (t.flatten.map D.int)) = some (.int (PyProof.Rows.firstMet (fun i => t.flatten.getD i 0) t.flatten.length).length) := by
        unfold lsetD
        dsimp only
        rw [ints_map]
        dsimp only
        rw [if_pos (by omega)]
      rcases judged hs ha ht with h | ⟨h1, h2⟩
      · have h : ((PyProof.Rows.firstMet (fun i => t.flatten.getD i 0) t.flatten.length).length : Int) < 2 := by omega
        simp only [S0, S1, S2, S3, S4, S5, S6, S7, S8, S9, S10, S11, S12, S13, S14, S15, S16, S17, SD0, SD1, List.map_cons, List.map_nil, List.map_append, List.length_append, Int.reduceLT, Int.reduceLE, Int.reduceGT, Int.reduceGE, Int.reduceAdd, Int.reduceSub, Int.reduceNeg, Int.reduceToNat, Int.reduceEq, Int.reduceMul, Int.reduceNe, Nat.reduceLeDiff, Nat.reduceLT, Nat.reduceAdd, Nat.reduceSub, Nat.reduceEqDiff, Int.cast_ofNat_Int, reduceCtorEq, el, h]
        exact ⟨dk2, rfl, hd2.mono (by omega)⟩
      · by_cases h : ((PyProof.Rows.firstMet (fun i => t.flatten.getD i 0) t.flatten.length).length : Int) < 2
        · simp only [S0, S1, S2, S3, S4, S5, S6, S7, S8, S9, S10, S11, S12, S13, S14, S15, S16, S17, SD0, SD1, List.map_cons, List.map_nil, List.map_append, List.length_append, Int.reduceLT, Int.reduceLE, Int.reduceGT, Int.reduceGE, Int.reduceAdd, Int.reduceSub, Int.reduceNeg, Int.reduceToNat, Int.reduceEq, Int.reduceMul, Int.reduceNe, Nat.reduceLeDiff, Nat.reduceLT, Nat.reduceAdd, Nat.reduceSub, Nat.reduceEqDiff, Int.cast_ofNat_Int, reduceCtorEq, el, h]
          exact ⟨dk2, rfl, hd2.mono (by omega)⟩
        · simp only [S0, S1, S2, S3, S4, S5, S6, S7, S8, S9, S10, S11, S12, S13, S14, S15, S16, S17, SD0, SD1, List.map_cons, List.map_nil, List.map_append, List.length_append, Int.reduceLT, Int.reduceLE, Int.reduceGT, Int.reduceGE, Int.reduceAdd, Int.reduceSub, Int.reduceNeg, Int.reduceToNat, Int.reduceEq, Int.reduceMul, Int.reduceNe, Nat.reduceLeDiff, Nat.reduceLT, Nat.reduceAdd, Nat.reduceSub, Nat.reduceEqDiff, Int.cast_ofNat_Int, reduceCtorEq, el, h, h1, h2]
          exact ⟨dk2, rfl, hd2.mono (by omega)⟩
  obtain ⟨v, fr, d', e, rfl, rfl, h3⟩ := key
  exact ⟨d', e, h3⟩
end Cor.L07

set_option Elab.async false
set_option linter.all false
set_option maxRecDepth 100000
set_option maxHeartbeats 4000000
/-! M07g: the law. -/
namespace Cor.L07
open Cor
open PySem (Str)
def dF : D := .tup [.tup [.int 0, .int (-1)], .tup [.int 0, .int 0]]
def dG : D := .tup [.tup [.int 1, .int 1]]
def dE : D := .tup [.tup [.int 1, .int (-1)], .tup [.int 2, .int (-1)], .tup [.int 3, .int 3]]
def dB : D := .tup [.tup [.int 0, .int 0], .tup [.int 0, .int 1]]
theorem fin_ok' (s0 s1 s3 s4 s5 s9 s10 s11 s12 s13 s14 s15 s16 : Sl) : rtOf (exs (EV 39) 1000000 (c_law.body.drop 3) [s0, s1, .sh dB, s3, s4, s5, .sh dF, .sh dG, .sh dE, s9, s10, s11, s12, s13, s14, s15, s16]) = some (.bl true, false) := by kernel_rfl
theorem habs14 {k md : Nat} {dk : D} (hd : DeckOk md dk) (hm : md + 64 ≤ 2 ^ 38) {xs : List D} (hx : xs.length ≤ 4) {s0 s1 s2 s4 s5 s6 s7 s8 s9 s10 s11 s12 s13 s14 s15 s16 : Sl} (nj : NI s14) :
    WR (compL (asgT (.name 14)) (evTs (EV (k + 3)) []) (ev (EV (k + 3)) (.cio f__law_a_habit 3 [])) [14] xs [s0, s1, s2, .ow dk, s4, s5, s6, s7, s8, s9, s10, s11, s12, s13, s14, s15, s16] [])
      (fun r => ∃ (dk' : D) (sj : Sl) (hs : List Hab), NI sj ∧ r = (hs.map hD, [s0, s1, s2, .ow dk', s4, s5, s6, s7, s8, s9, s10, s11, s12, s13, sj, s15, s16]) ∧ hs.length = xs.length ∧ (∀ h ∈ hs, HabOk h) ∧ DeckOk (md + 64) dk') (fun _ _ => False) := by
  refine WR.compL (I := fun rest env acc => ∃ (dk : D) (sj : Sl) (hs : List Hab), NI sj ∧ env = [s0, s1, s2, .ow dk, s4, s5, s6, s7, s8, s9, s10, s11, s12, s13, sj, s15, s16] ∧ acc = hs.map hD ∧ hs.length + rest.length = xs.length ∧ (∀ h ∈ hs, HabOk h) ∧ DeckOk (md + 16 * hs.length) dk) ⟨dk, _, [], nj, rfl, rfl, by simp, fun h hh => (by cases hh), hd⟩ ?_ ?_
  · rintro y r' env acc ⟨dk, sj, hs, nj, rfl, rfl, hl, hv, hdk⟩
    simp only [List.length_cons] at hl
    have hvl : hs.length < 16777216 := by omega
    obtain ⟨h, dk', e, hk, hdk'⟩ := a_habit_ok (k := k) hdk (by omega)
    simp only [S0, S1, S2, S3, S4, S5, S6, S7, S8, S9, S10, S11, S12, S13, S14, S15, S16, S17, SD0, SD1, List.map_cons, List.map_nil, List.map_append, List.length_append, Int.reduceLT, Int.reduceLE, Int.reduceGT, Int.reduceGE, Int.reduceAdd, Int.reduceSub, Int.reduceNeg, Int.reduceToNat, Int.reduceEq, Int.reduceMul, Int.reduceNe, Nat.reduceLeDiff, Nat.reduceLT, Nat.reduceAdd, Nat.reduceSub, Nat.reduceEqDiff, Int.cast_ofNat_Int, reduceCtorEq, e, List.length_map, hvl]
    refine ⟨dk', _, hs ++ [h], ?_, rfl, by simp, by simp; omega, fun x hx => ?_, by rw [List.length_append]; exact hdk'.mono (by simp; omega)⟩
    · cases sj <;> first | exact NI.un | exact NI.sh
    · rcases List.mem_append.mp hx with z | z
      · exact hv x z
      · simp only [List.mem_singleton] at z
        subst z
        exact hk
  · rintro env acc ⟨dk, sj, hs, nj, rfl, rfl, hl, hv, hdk⟩
    simp only [List.length_nil] at hl
    exact ⟨dk, sj, hs, nj, rfl, by omega, hv, hdk.mono (by omega)⟩
theorem habs15 {k md : Nat} {dk : D} (hd : DeckOk md dk) (hm : md + 64 ≤ 2 ^ 38) {xs : List D} (hx : xs.length ≤ 4) {s0 s1 s2 s4 s5 s6 s7 s8 s9 s10 s11 s12 s13 s14 s15 s16 : Sl} (nj : NI s15) :
    WR (compL (asgT (.name 15)) (evTs (EV (k + 3)) []) (ev (EV (k + 3)) (.cio f__law_a_habit 3 [])) [15] xs [s0, s1, s2, .ow dk, s4, s5, s6, s7, s8, s9, s10, s11, s12, s13, s14, s15, s16] [])
      (fun r => ∃ (dk' : D) (sj : Sl) (hs : List Hab), NI sj ∧ r = (hs.map hD, [s0, s1, s2, .ow dk', s4, s5, s6, s7, s8, s9, s10, s11, s12, s13, s14, sj, s16]) ∧ hs.length = xs.length ∧ (∀ h ∈ hs, HabOk h) ∧ DeckOk (md + 64) dk') (fun _ _ => False) := by
  refine WR.compL (I := fun rest env acc => ∃ (dk : D) (sj : Sl) (hs : List Hab), NI sj ∧ env = [s0, s1, s2, .ow dk, s4, s5, s6, s7, s8, s9, s10, s11, s12, s13, s14, sj, s16] ∧ acc = hs.map hD ∧ hs.length + rest.length = xs.length ∧ (∀ h ∈ hs, HabOk h) ∧ DeckOk (md + 16 * hs.length) dk) ⟨dk, _, [], nj, rfl, rfl, by simp, fun h hh => (by cases hh), hd⟩ ?_ ?_
  · rintro y r' env acc ⟨dk, sj, hs, nj, rfl, rfl, hl, hv, hdk⟩
    simp only [List.length_cons] at hl
    have hvl : hs.length < 16777216 := by omega
    obtain ⟨h, dk', e, hk, hdk'⟩ := a_habit_ok (k := k) hdk (by omega)
    simp only [S0, S1, S2, S3, S4, S5, S6, S7, S8, S9, S10, S11, S12, S13, S14, S15, S16, S17, SD0, SD1, List.map_cons, List.map_nil, List.map_append, List.length_append, Int.reduceLT, Int.reduceLE, Int.reduceGT, Int.reduceGE, Int.reduceAdd, Int.reduceSub, Int.reduceNeg, Int.reduceToNat, Int.reduceEq, Int.reduceMul, Int.reduceNe, Nat.reduceLeDiff, Nat.reduceLT, Nat.reduceAdd, Nat.reduceSub, Nat.reduceEqDiff, Int.cast_ofNat_Int, reduceCtorEq, e, List.length_map, hvl]
    refine ⟨dk', _, hs ++ [h], ?_, rfl, by simp, by simp; omega, fun x hx => ?_, by rw [List.length_append]; exact hdk'.mono (by simp; omega)⟩
    · cases sj <;> first | exact NI.un | exact NI.sh
    · rcases List.mem_append.mp hx with z | z
      · exact hv x z
      · simp only [List.mem_singleton] at z
        subst z
        exact hk
  · rintro env acc ⟨dk, sj, hs, nj, rfl, rfl, hl, hv, hdk⟩
    simp only [List.length_nil] at hl
    exact ⟨dk, sj, hs, nj, rfl, by omega, hv, hdk.mono (by omega)⟩
/-- what is no side -/
def badS (d : D) : Prop := PlN 20 3 d ∧ sideB d = false
def badT (m n : Nat) (d : D) : Prop := PlN 20 3 d ∧ taskB m n d = false
theorem mem_rep {l : List D} {k : Int} {x : D} (h : x ∈ repL l k) : x ∈ l := by
  unfold repL at h
  obtain ⟨r, hr, hx⟩ := List.mem_flatten.mp h
  rw [(List.mem_replicate.mp hr).2] at hx
  exact hx
theorem len_rep {l : List D} : (repL l 5).length = 5 * l.length := by
  unfold repL
  show ((List.replicate 5 l).flatten).length = _
  simp [List.replicate_succ]
  omega
theorem habit_int {i : Int} : habitB (.int i) = false := rfl
theorem side_hab {h : Hab} (hk : HabOk h) : sideB (hD h) = false := by
  have hne : h ≠ [] := fun z => by have := hk.1; rw [z] at this; simp at this
  match h, hne with
  | p :: r, _ =>
    show (_ && (habitB (pD p) && _)) = false
    have : habitB (pD p) = false := by
      cases p
      rfl
    rw [this]
    simp
theorem bad_sides {s : Side} (hs : SideOk s) {h0 : Hab} (hk : HabOk h0) : ∀ x ∈ [D.non, .tup [], hD h0, .lst (s.map hD), .tup (repL (s.map hD) 5), .tup [.tup []]], badS x := by
  have hsl := hs.2.1
  intro x hx
  simp only [List.mem_cons, List.not_mem_nil, or_false] at hx
  rcases hx with rfl | rfl | rfl | rfl | rfl | rfl
  · exact ⟨PlN.non, rfl⟩
  · exact ⟨plnB_ok rfl, rfl⟩
  · exact ⟨(pl_hD hk.2.1).mono (by omega) (by omega), side_hab hk⟩
  · exact ⟨PlN.lst (by rw [List.length_map]; omega) fun x hx => by
      obtain ⟨h, hh, rfl⟩ := List.mem_map.mp hx
      exact (pl_hD (hs.2.2 h hh).2.1).mono (by omega) (by omega), rfl⟩
  · refine ⟨PlN.tup (by rw [len_rep, List.length_map]; omega) fun x hx => ?_, ?_⟩
    · obtain ⟨h, hh, rfl⟩ := List.mem_map.mp (mem_rep hx)
      exact (pl_hD (hs.2.2 h hh).2.1).mono (by omega) (by omega)
    · show (decide (1 ≤ (repL (s.map hD) 5).length ∧ (repL (s.map hD) 5).length ≤ 4) && _) = false
      rw [len_rep, List.length_map, decide_eq_false (by have := hs.1; omega)]
      rfl
  · exact ⟨plnB_ok rfl, rfl⟩
def wide (t : Task) : D := .tup (t.map fun r => .tup (r.map D.int ++ [.int 0]))
theorem bad_tasks {s a : Side} {t : Task} (hs : SideOk s) (ha : SideOk a) (ht : TaskOk s.length a.length t) : ∀ x ∈ [D.non, .tup [], .tup (t.map tI ++ [.tup [.int 0]]), .lst (t.map tI), wide t, .tup [.tup [.int 10]]], badT s.length a.length x := by
  have hsl := hs.2.1
  have hal := ha.2.1
  have h1 := hs.1
  have h2 := ha.1
  have rows : ∀ r ∈ t, PlN 20 2 (tI r) := fun r hr => PlN.tup (n := 1) (by rw [List.length_map, (ht.2 r hr).1]; omega) fun x hx => by
    obtain ⟨v, _, rfl⟩ := List.mem_map.mp hx
    exact PlN.int
  intro x hx
  simp only [List.mem_cons, List.not_mem_nil, or_false] at hx
  rcases hx with rfl | rfl | rfl | rfl | rfl | rfl
  · exact ⟨PlN.non, rfl⟩
  · refine ⟨plnB_ok rfl, ?_⟩
    show (decide (0 = s.length) && _) = false
    rw [decide_eq_false (by omega)]
    rfl
  · refine ⟨PlN.tup (by rw [List.length_append, List.length_map, ht.1]; show s.length + 1 ≤ 20; omega) fun x hx => ?_, ?_⟩
    · rcases List.mem_append.mp hx with z | z
      · obtain ⟨r, hr, rfl⟩ := List.mem_map.mp z
        exact rows r hr
      · simp only [List.mem_singleton] at z
        subst z
        exact plnB_ok rfl
    · show (decide ((t.map tI ++ [D.tup [.int 0]]).length = s.length) && _) = false
      rw [List.length_append, List.length_map, ht.1, decide_eq_false (by simp)]
      rfl
  · exact ⟨PlN.lst (by rw [List.length_map, ht.1]; omega) fun x hx => by
      obtain ⟨r, hr, rfl⟩ := List.mem_map.mp hx
      exact rows r hr, rfl⟩
  · refine ⟨PlN.tup (by rw [List.length_map, ht.1]; omega) fun x hx => ?_, ?_⟩
    · obtain ⟨r, hr, rfl⟩ := List.mem_map.mp hx
      refine PlN.tup (n := 1) (by rw [List.length_append, List.length_map, (ht.2 r hr).1]; show a.length + 1 ≤ 20; omega) fun x hx => ?_
      rcases List.mem_append.mp hx with z | z
      · obtain ⟨v, _, rfl⟩ := List.mem_map.mp z
        exact PlN.int
      · simp only [List.mem_singleton] at z
        subst z
        exact PlN.int
    · have hne : t ≠ [] := fun z => by have := ht.1; rw [z] at this; simp at this; omega
      match t, hne, ht with
      | r :: t, _, ht =>
        show (_ && ((decide ((r.map D.int ++ [D.int 0]).length = a.length) && _) && _)) = false
        have e : (r.map D.int ++ [D.int 0]).length = a.length + 1 := by
          rw [List.length_append, List.length_map, (ht.2 r (List.mem_cons_self ..)).1]
          rfl
        have e2 : ¬ (r.map D.int ++ [D.int 0]).length = a.length := by omega
        rw [decide_eq_false e2]
        simp
  · refine ⟨plnB_ok rfl, ?_⟩
    show (_ && ((_ && (false && _)) && _)) = false
    simp
theorem law_ok (ns : List Int) (hl : ns.length ≤ 63) : EV 40 f_law [.lst (ns.map D.int)] = .ok (.bl true) false none := by
  refine runF_eq (fd := c_law) rfl rfl ?_
  show WS (exs (EV 39) 1000000 c_law.body [.sh (.lst (ns.map D.int)), .un, .un, .un, .un, .un, .un, .un, .un, .un, .un, .un, .un, .un, .un, .un, .un]) _ _ _
  refine WS.cutN 3 (fun env => ∃ s0 s1 s3 s4 s5 s9 s10 s11 s12 s13 s14 s15 s16, env = [s0, s1, .sh dB, s3, s4, s5, .sh dF, .sh dG, .sh dE, s9, s10, s11, s12, s13, s14, s15, s16]) ?_ ?_
  · unfold c_law
    have hlen : 1 + ns.length ≤ 16777216 := by omega
    refine WS.cutN 1 (fun env => ∃ s1 s3 s4 s5 s9 s10 s11 s12 s13 s14 s15 s16, env = [.sh (.lst (ns.map D.int)), s1, .un, s3, s4, s5, .un, .un, .un, s9, s10, s11, s12, s13, s14, s15, s16]) ?_ ?_
    · simp only [S0, S1, S2, S3, S4, S5, S6, S7, S8, S9, S10, S11, S12, S13, S14, S15, S16, S17, SD0, SD1, List.map_cons, List.map_nil, List.map_append, List.length_append, Int.reduceLT, Int.reduceLE, Int.reduceGT, Int.reduceGE, Int.reduceAdd, Int.reduceSub, Int.reduceNeg, Int.reduceToNat, Int.reduceEq, Int.reduceMul, Int.reduceNe, Nat.reduceLeDiff, Nat.reduceLT, Nat.reduceAdd, Nat.reduceSub, Nat.reduceEqDiff, Int.cast_ofNat_Int, reduceCtorEq, List.length_map, hlen]
      refine WS.forL (fun rest env => ∃ s1 s3 s4 s5 s9 s10 s11 s12 s13 s14 s15 s16, NI s1 ∧ NI s3 ∧ NI s4 ∧ NI s5 ∧ NI s9 ∧ NI s10 ∧ NI s11 ∧ NI s12 ∧ NI s13 ∧ NI s14 ∧ NI s15 ∧ NI s16 ∧ env = [.sh (.lst (ns.map D.int)), s1, .un, s3, s4, s5, .un, .un, .un, s9, s10, s11, s12, s13, s14, s15, s16] ∧ ∀ x ∈ rest, ∃ c, x = .int c) ⟨_, _, _, _, _, _, _, _, _, _, _, _, NI.un, NI.un, NI.un, NI.un, NI.un, NI.un, NI.un, NI.un, NI.un, NI.un, NI.un, NI.un, rfl, fun x hx => ?_⟩ ?_ ?_
      · rcases List.mem_cons.mp hx with rfl | hx
        · exact ⟨0, rfl⟩
        · obtain ⟨c, _, rfl⟩ := List.mem_map.mp (List.mem_of_mem_take hx)
          exact ⟨c, rfl⟩
      · rintro x r env ⟨s1, s3, s4, s5, s9, s10, s11, s12, s13, s14, s15, s16, n1, n3, n4, n5, n9, n10, n11, n12, n13, n14, n15, n16, rfl, hx⟩
        obtain ⟨c, rfl⟩ := hx x (List.mem_cons_self ..)
        obtain ⟨dk0, e0, hd0⟩ := deck_ok (k := 38) (c := c) (t := 7)
        have e0 : EV 39 f__law_deck [.int c, .int 7] = .ok dk0 true none := e0
        refine WS.asg1 [.sh (.lst (ns.map D.int)), .sh (.int c), .un, s3, s4, s5, .un, .un, .un, s9, s10, s11, s12, s13, s14, s15, s16] (by simp only [S0, S1, S2, S3, S4, S5, S6, S7, S8, S9, S10, S11, S12, S13, S14, S15, S16, S17, SD0, SD1, List.map_cons, List.map_nil, List.map_append, List.length_append, Int.reduceLT, Int.reduceLE, Int.reduceGT, Int.reduceGE, Int.reduceAdd, Int.reduceSub, Int.reduceNeg, Int.reduceToNat, Int.reduceEq, Int.reduceMul, Int.reduceNe, Nat.reduceLeDiff, Nat.reduceLT, Nat.reduceAdd, Nat.reduceSub, Nat.reduceEqDiff, Int.cast_ofNat_Int, reduceCtorEq, asK_ni n1]) ?_
        refine WS.cutN 2 (fun env => ∃ (dk : D) (s4 s5 s12 s13 s14 s15 s16 : Sl) (s a : Side) (t : Task), NI s4 ∧ NI s5 ∧ NI s12 ∧ NI s13 ∧ NI s14 ∧ NI s15 ∧ NI s16 ∧ SideOk s ∧ SideOk a ∧ TaskOk s.length a.length t ∧ env = [.sh (.lst (ns.map D.int)), .sh (.int c), .un, .ow dk, s4, s5, .un, .un, .un, .sh (sD s), .sh (sD a), .sh (tD t), s12, s13, s14, s15, s16]) ?_ ?_
        · simp only [S0, S1, S2, S3, S4, S5, S6, S7, S8, S9, S10, S11, S12, S13, S14, S15, S16, S17, SD0, SD1, List.map_cons, List.map_nil, List.map_append, List.length_append, Int.reduceLT, Int.reduceLE, Int.reduceGT, Int.reduceGE, Int.reduceAdd, Int.reduceSub, Int.reduceNeg, Int.reduceToNat, Int.reduceEq, Int.reduceMul, Int.reduceNe, Nat.reduceLeDiff, Nat.reduceLT, Nat.reduceAdd, Nat.reduceSub, Nat.reduceEqDiff, Int.cast_ofNat_Int, reduceCtorEq, e0, asK_ni n3]
          refine WS.forL (fun rest env => ∃ (dk : D) (s4 s5 s9 s10 s11 s12 s13 s14 s15 s16 : Sl), NI s4 ∧ NI s5 ∧ NI s9 ∧ NI s10 ∧ NI s11 ∧ NI s12 ∧ NI s13 ∧ NI s14 ∧ NI s15 ∧ NI s16 ∧ env = [.sh (.lst (ns.map D.int)), .sh (.int c), .un, .ow dk, s4, s5, .un, .un, .un, s9, s10, s11, s12, s13, s14, s15, s16] ∧ rest.length ≤ 6 ∧ DeckOk (7 + 2000 * (6 - rest.length)) dk ∧ (rest.length < 6 → ∃ s a t, s9 = .sh (sD s) ∧ s10 = .sh (sD a) ∧ s11 = .sh (tD t) ∧ SideOk s ∧ SideOk a ∧ TaskOk s.length a.length t))
            ⟨dk0, _, _, _, _, _, _, _, _, _, _, n4, n5, n9, n10, n11, n12, n13, n14, n15, n16, rfl, by simp, by simpa using hd0, fun z => by simp at z⟩ ?_ ?_
          · rintro x r env ⟨dk, s4, s5, s9, s10, s11, s12, s13, s14, s15, s16, n4, n5, n9, n10, n11, n12, n13, n14, n15, n16, rfl, hr, hdk, _⟩
            simp only [List.length_cons] at hr hdk
            refine WS.asg1 [.sh (.lst (ns.map D.int)), .sh (.int c), .un, .ow dk, .sh x, s5, .un, .un, .un, s9, s10, s11, s12, s13, s14, s15, s16] (by simp only [S0, S1, S2, S3, S4, S5, S6, S7, S8, S9, S10, S11, S12, S13, S14, S15, S16, S17, SD0, SD1, List.map_cons, List.map_nil, List.map_append, List.length_append, Int.reduceLT, Int.reduceLE, Int.reduceGT, Int.reduceGE, Int.reduceAdd, Int.reduceSub, Int.reduceNeg, Int.reduceToNat, Int.reduceEq, Int.reduceMul, Int.reduceNe, Nat.reduceLeDiff, Nat.reduceLT, Nat.reduceAdd, Nat.reduceSub, Nat.reduceEqDiff, Int.cast_ofNat_Int, reduceCtorEq, asK_ni n4]) ?_
            obtain ⟨p, dk1, e1, p0, p1, hd1⟩ := pick_ok (k := 38) (size := 4) hdk (by omega) (by omega) (by omega)
            have hp : -1000000 ≤ 1 + p ∧ 1 + p ≤ 1000000 := by omega
            refine WS.cutN 1 (fun env => ∃ (dk : D) (s14 : Sl) (s : Side), NI s14 ∧ SideOk s ∧ env = [.sh (.lst (ns.map D.int)), .sh (.int c), .un, .ow dk, .sh x, s5, .un, .un, .un, .sh (sD s), s10, s11, s12, s13, s14, s15, s16] ∧ DeckOk (7 + 2000 * (6 - (r.length + 1)) + 65) dk) ?_ ?_
            · simp only [S0, S1, S2, S3, S4, S5, S6, S7, S8, S9, S10, S11, S12, S13, S14, S15, S16, S17, SD0, SD1, List.map_cons, List.map_nil, List.map_append, List.length_append, Int.reduceLT, Int.reduceLE, Int.reduceGT, Int.reduceGE, Int.reduceAdd, Int.reduceSub, Int.reduceNeg, Int.reduceToNat, Int.reduceEq, Int.reduceMul, Int.reduceNe, Nat.reduceLeDiff, Nat.reduceLT, Nat.reduceAdd, Nat.reduceSub, Nat.reduceEqDiff, Int.cast_ofNat_Int, reduceCtorEq, e1, hp]
              refine (habs14 (k := 36) hd1 (by omega) (by rw [List.length_map, List.length_range]; omega) n14).imp ?_ (fun _ _ z => z)
              rintro ⟨ds, env⟩ ⟨dk', sj, hs, nj, h, h2, h3, h4⟩
              cases h
              simp only [S0, S1, S2, S3, S4, S5, S6, S7, S8, S9, S10, S11, S12, S13, S14, S15, S16, S17, SD0, SD1, List.map_cons, List.map_nil, List.map_append, List.length_append, Int.reduceLT, Int.reduceLE, Int.reduceGT, Int.reduceGE, Int.reduceAdd, Int.reduceSub, Int.reduceNeg, Int.reduceToNat, Int.reduceEq, Int.reduceMul, Int.reduceNe, Nat.reduceLeDiff, Nat.reduceLT, Nat.reduceAdd, Nat.reduceSub, Nat.reduceEqDiff, Int.cast_ofNat_Int, reduceCtorEq, asK_ni n9]
              exact ⟨dk', sj, hs, nj, ⟨by rw [h2, List.length_map, List.length_range]; omega, by rw [h2, List.length_map, List.length_range]; omega, h3⟩, rfl, h4⟩
            rintro env ⟨dk2, s14, s, n14, hs, rfl, hd2⟩
            obtain ⟨q, dk3, e3, q0, q1, hd3⟩ := pick_ok (k := 38) (size := 4) hd2 (by omega) (by omega) (by omega)
            have hq : -1000000 ≤ 1 + q ∧ 1 + q ≤ 1000000 := by omega
            refine WS.cutN 1 (fun env => ∃ (dk : D) (s15 : Sl) (a : Side), NI s15 ∧ SideOk a ∧ env = [.sh (.lst (ns.map D.int)), .sh (.int c), .un, .ow dk, .sh x, s5, .un, .un, .un, .sh (sD s), .sh (sD a), s11, s12, s13, s14, s15, s16] ∧ DeckOk (7 + 2000 * (6 - (r.length + 1)) + 130) dk) ?_ ?_
            · simp only [S0, S1, S2, S3, S4, S5, S6, S7, S8, S9, S10, S11, S12, S13, S14, S15, S16, S17, SD0, SD1, List.map_cons, List.map_nil, List.map_append, List.length_append, Int.reduceLT, Int.reduceLE, Int.reduceGT, Int.reduceGE, Int.reduceAdd, Int.reduceSub, Int.reduceNeg, Int.reduceToNat, Int.reduceEq, Int.reduceMul, Int.reduceNe, Nat.reduceLeDiff, Nat.reduceLT, Nat.reduceAdd, Nat.reduceSub, Nat.reduceEqDiff, Int.cast_ofNat_Int, reduceCtorEq, e3, hq]
              refine (habs15 (k := 36) hd3 (by omega) (by rw [List.length_map, List.length_range]; omega) n15).imp ?_ (fun _ _ z => z)
              rintro ⟨ds, env⟩ ⟨dk', sj, hs, nj, h, h2, h3, h4⟩
              cases h
              simp only [S0, S1, S2, S3, S4, S5, S6, S7, S8, S9, S10, S11, S12, S13, S14, S15, S16, S17, SD0, SD1, List.map_cons, List.map_nil, List.map_append, List.length_append, Int.reduceLT, Int.reduceLE, Int.reduceGT, Int.reduceGE, Int.reduceAdd, Int.reduceSub, Int.reduceNeg, Int.reduceToNat, Int.reduceEq, Int.reduceMul, Int.reduceNe, Nat.reduceLeDiff, Nat.reduceLT, Nat.reduceAdd, Nat.reduceSub, Nat.reduceEqDiff, Int.cast_ofNat_Int, reduceCtorEq, asK_ni n10]
              exact ⟨dk', sj, hs, nj, ⟨by rw [h2, List.length_map, List.length_range]; omega, by rw [h2, List.length_map, List.length_range]; omega, h3⟩, rfl, h4⟩
            rintro env ⟨dk4, s15, a, n15, ha, rfl, hd4⟩
            obtain ⟨t, dk5, e5, ht, hd5⟩ := a_task_ok (k := 35) hd4 (by omega) hs ha
            obtain ⟨dk6, e6, hd6⟩ := law_good_ok (k := 33) hd5 (by omega) hs ha ht
            simp only [S0, S1, S2, S3, S4, S5, S6, S7, S8, S9, S10, S11, S12, S13, S14, S15, S16, S17, SD0, SD1, List.map_cons, List.map_nil, List.map_append, List.length_append, Int.reduceLT, Int.reduceLE, Int.reduceGT, Int.reduceGE, Int.reduceAdd, Int.reduceSub, Int.reduceNeg, Int.reduceToNat, Int.reduceEq, Int.reduceMul, Int.reduceNe, Nat.reduceLeDiff, Nat.reduceLT, Nat.reduceAdd, Nat.reduceSub, Nat.reduceEqDiff, Int.cast_ofNat_Int, reduceCtorEq, e5, e6, asK_ni n11]
            exact ⟨dk6, _, _, _, _, _, _, _, _, _, _, NI.sh, n5, NI.sh, NI.sh, NI.sh, n12, n13, n14, n15, n16, rfl, by omega, hd6.mono (by omega), fun _ => ⟨s, a, t, rfl, rfl, rfl, hs, ha, ht⟩⟩
          · rintro env ⟨dk, s4, s5, s9, s10, s11, s12, s13, s14, s15, s16, n4, n5, n9, n10, n11, n12, n13, n14, n15, n16, rfl, _, _, h⟩
            obtain ⟨s, a, t, rfl, rfl, rfl, hs, ha, ht⟩ := h (by simp)
            simp only [S0, S1, S2, S3, S4, S5, S6, S7, S8, S9, S10, S11, S12, S13, S14, S15, S16, S17, SD0, SD1, List.map_cons, List.map_nil, List.map_append, List.length_append, Int.reduceLT, Int.reduceLE, Int.reduceGT, Int.reduceGE, Int.reduceAdd, Int.reduceSub, Int.reduceNeg, Int.reduceToNat, Int.reduceEq, Int.reduceMul, Int.reduceNe, Nat.reduceLeDiff, Nat.reduceLT, Nat.reduceAdd, Nat.reduceSub, Nat.reduceEqDiff, Int.cast_ofNat_Int, reduceCtorEq]
            exact ⟨dk, _, _, _, _, _, _, _, s, a, t, n4, n5, n12, n13, n14, n15, n16, hs, ha, ht, rfl⟩
        · rintro env ⟨dk, s4, s5, s12, s13, s14, s15, s16, s, a, t, n4, n5, n12, n13, n14, n15, n16, hs, ha, ht, rfl⟩
          have ks : kin "InvalidSide" = some ("side +" : Str) := by decide +kernel
          have kt : kin "InvalidTask" = some ("task +" : Str) := by decide +kernel
          have os : (D.str "side +").ok = true := by decide +kernel
          have ot : (D.str "task +").ok = true := by decide +kernel
          have cs : cmpD .ne (.str "side +") (.str "side +") = some false := by rw [c_ne os os, eqD_refl os]; rfl
          have ct : cmpD .ne (.str "task +") (.str "task +") = some false := by rw [c_ne ot ot, eqD_refl ot]; rfl
          have hsl := hs.2.1
          have hal := ha.2.1
          have hs1 := hs.1
          obtain ⟨h0, g1, g2, _⟩ := side_get hs (i := 0) (by omega)
          have at0 : atI (s.map hD) 0 = some (hD h0) := atI_nat (i := 0) (by rw [List.getElem?_map, g1]; rfl)
          have m1 : 0 < s.length := by omega
          have m2 : s.length ≤ 1000 := by omega
          have tl : t.length + 1 ≤ 16777216 := by rw [ht.1]; omega
          simp only [S0, S1, S2, S3, S4, S5, S6, S7, S8, S9, S10, S11, S12, S13, S14, S15, S16, S17, SD0, SD1, List.map_cons, List.map_nil, List.map_append, List.length_append, Int.reduceLT, Int.reduceLE, Int.reduceGT, Int.reduceGE, Int.reduceAdd, Int.reduceSub, Int.reduceNeg, Int.reduceToNat, Int.reduceEq, Int.reduceMul, Int.reduceNe, Nat.reduceLeDiff, Nat.reduceLT, Nat.reduceAdd, Nat.reduceSub, Nat.reduceEqDiff, Int.cast_ofNat_Int, reduceCtorEq]
          refine WS.forL (fun rest env => ∃ (s5 s12 s13 s16 : Sl), NI s5 ∧ NI s12 ∧ NI s13 ∧ NI s16 ∧ env = [.sh (.lst (ns.map D.int)), .sh (.int c), .un, .ow dk, s4, s5, .un, .un, .un, .sh (sD s), .sh (sD a), .sh (tD t), s12, s13, s14, s15, s16] ∧ ∀ x ∈ rest, ∃ f, x = .fn f ∧ (f = f_are_right ∨ f = f_mistake ∨ f = f_alike_runs)) ⟨_, _, _, _, n5, n12, n13, n16, rfl, fun z hz => ?_⟩ ?_ ?_
          · simp only [List.mem_cons, List.not_mem_nil, or_false] at hz
            rcases hz with rfl | rfl | rfl
            · exact ⟨_, rfl, .inl rfl⟩
            · exact ⟨_, rfl, .inr (.inl rfl)⟩
            · exact ⟨_, rfl, .inr (.inr rfl)⟩
          · rintro z r' env ⟨s5, s12, s13, s16, n5, n12, n13, n16, rfl, hz⟩
            obtain ⟨f, rfl, hf⟩ := hz z (List.mem_cons_self ..)
            refine WS.asg1 [.sh (.lst (ns.map D.int)), .sh (.int c), .un, .ow dk, s4, .sh (.fn f), .un, .un, .un, .sh (sD s), .sh (sD a), .sh (tD t), s12, s13, s14, s15, s16] (by simp only [S0, S1, S2, S3, S4, S5, S6, S7, S8, S9, S10, S11, S12, S13, S14, S15, S16, S17, SD0, SD1, List.map_cons, List.map_nil, List.map_append, List.length_append, Int.reduceLT, Int.reduceLE, Int.reduceGT, Int.reduceGE, Int.reduceAdd, Int.reduceSub, Int.reduceNeg, Int.reduceToNat, Int.reduceEq, Int.reduceMul, Int.reduceNe, Nat.reduceLeDiff, Nat.reduceLT, Nat.reduceAdd, Nat.reduceSub, Nat.reduceEqDiff, Int.cast_ofNat_Int, reduceCtorEq, asK_ni n5]) ?_
            refine WS.cutN 1 (fun env => ∃ s12, NI s12 ∧ env = [.sh (.lst (ns.map D.int)), .sh (.int c), .un, .ow dk, s4, .sh (.fn f), .un, .un, .un, .sh (sD s), .sh (sD a), .sh (tD t), s12, s13, s14, s15, s16]) ?_ ?_
            · simp only [S0, S1, S2, S3, S4, S5, S6, S7, S8, S9, S10, S11, S12, S13, S14, S15, S16, S17, SD0, SD1, List.map_cons, List.map_nil, List.map_append, List.length_append, Int.reduceLT, Int.reduceLE, Int.reduceGT, Int.reduceGE, Int.reduceAdd, Int.reduceSub, Int.reduceNeg, Int.reduceToNat, Int.reduceEq, Int.reduceMul, Int.reduceNe, Nat.reduceLeDiff, Nat.reduceLT, Nat.reduceAdd, Nat.reduceSub, Nat.reduceEqDiff, Int.cast_ofNat_Int, reduceCtorEq, sD, at0, List.length_map, m1, m2]
              refine WS.forL (fun rest env => ∃ s12, NI s12 ∧ env = [.sh (.lst (ns.map D.int)), .sh (.int c), .un, .ow dk, s4, .sh (.fn f), .un, .un, .un, .sh (sD s), .sh (sD a), .sh (tD t), s12, s13, s14, s15, s16] ∧ ∀ x ∈ rest, badS x) ⟨_, n12, rfl, fun z hz => bad_sides hs g2 z hz⟩ ?_ ?_
              · rintro z r'' env ⟨s12, n12, rfl, hz⟩
                obtain ⟨pz, bz⟩ := hz z (List.mem_cons_self ..)
                have ps : PlN 20 3 (sD s) := (pl_sD hs).mono (by omega) (by omega)
                have b1 := three_bad (need_all_side (k := 34) (d3 := .non) pz (PlN.non (n := 3)) (by omega) (.inl bz)) f hf
                have b2 := three_bad (need_all_side (k := 34) (d3 := .non) ps pz (by omega) (.inr bz)) f hf
                simp only [S0, S1, S2, S3, S4, S5, S6, S7, S8, S9, S10, S11, S12, S13, S14, S15, S16, S17, SD0, SD1, List.map_cons, List.map_nil, List.map_append, List.length_append, Int.reduceLT, Int.reduceLE, Int.reduceGT, Int.reduceGE, Int.reduceAdd, Int.reduceSub, Int.reduceNeg, Int.reduceToNat, Int.reduceEq, Int.reduceMul, Int.reduceNe, Nat.reduceLeDiff, Nat.reduceLT, Nat.reduceAdd, Nat.reduceSub, Nat.reduceEqDiff, Int.cast_ofNat_Int, reduceCtorEq, asK_ni n12, b1, b2, ks, cs]
                exact ⟨_, NI.sh, rfl, fun w hw => hz w (List.mem_cons_of_mem _ hw)⟩
              · rintro env ⟨s12, n12, rfl, _⟩
                simp only [S0, S1, S2, S3, S4, S5, S6, S7, S8, S9, S10, S11, S12, S13, S14, S15, S16, S17, SD0, SD1, List.map_cons, List.map_nil, List.map_append, List.length_append, Int.reduceLT, Int.reduceLE, Int.reduceGT, Int.reduceGE, Int.reduceAdd, Int.reduceSub, Int.reduceNeg, Int.reduceToNat, Int.reduceEq, Int.reduceMul, Int.reduceNe, Nat.reduceLeDiff, Nat.reduceLT, Nat.reduceAdd, Nat.reduceSub, Nat.reduceEqDiff, Int.cast_ofNat_Int, reduceCtorEq]
                exact ⟨_, n12, rfl⟩
            rintro env ⟨s12, n12, rfl⟩
            refine WS.cutN 1 (fun env => ∃ s16, NI s16 ∧ env = [.sh (.lst (ns.map D.int)), .sh (.int c), .un, .ow dk, s4, .sh (.fn f), .un, .un, .un, .sh (sD s), .sh (sD a), .sh (tD t), s12, .sh (wide t), s14, s15, s16]) ?_ ?_
            · have wT : (tD t).walk? = some (t.map tI) := rfl
              simp only [S0, S1, S2, S3, S4, S5, S6, S7, S8, S9, S10, S11, S12, S13, S14, S15, S16, S17, SD0, SD1, List.map_cons, List.map_nil, List.map_append, List.length_append, Int.reduceLT, Int.reduceLE, Int.reduceGT, Int.reduceGE, Int.reduceAdd, Int.reduceSub, Int.reduceNeg, Int.reduceToNat, Int.reduceEq, Int.reduceMul, Int.reduceNe, Nat.reduceLeDiff, Nat.reduceLT, Nat.reduceAdd, Nat.reduceSub, Nat.reduceEqDiff, Int.cast_ofNat_Int, reduceCtorEq, wT]
              refine (WR.compL (P := fun r => ∃ s16, NI s16 ∧ r = (t.map (fun r => D.tup (r.map D.int ++ [.int 0])), [.sh (.lst (ns.map D.int)), .sh (.int c), .un, .ow dk, s4, .sh (.fn f), .un, .un, .un, .sh (sD s), .sh (sD a), .sh (tD t), s12, s13, s14, s15, s16])) (I := fun rest env acc => ∃ s16, NI s16 ∧ env = [.sh (.lst (ns.map D.int)), .sh (.int c), .un, .ow dk, s4, .sh (.fn f), .un, .un, .un, .sh (sD s), .sh (sD a), .sh (tD t), s12, s13, s14, s15, s16] ∧ ∃ done rst, t = done ++ rst ∧ rest = rst.map tI ∧ acc = done.map fun r => D.tup (r.map D.int ++ [.int 0])) ⟨_, n16, rfl, [], t, rfl, rfl, rfl⟩ ?_ ?_).imp ?_ (fun _ _ z => z)
              · rintro y r'' env acc ⟨s16, n16, rfl, done, rst, hl', hr', rfl⟩
                match rst, hr' with
                | w :: rst, hr' =>
                  injection hr' with hx' hr''
                  subst hx' hr''
                  have hw := (ht.2 w (by rw [hl']; simp)).1
                  have z1 : w.length + 1 ≤ 16777216 := by omega
                  have z2 : done.length < 16777216 := by
                    have := ht.1
                    rw [hl', List.length_append] at this
                    omega
                  simp only [S0, S1, S2, S3, S4, S5, S6, S7, S8, S9, S10, S11, S12, S13, S14, S15, S16, S17, SD0, SD1, List.map_cons, List.map_nil, List.map_append, List.length_append, Int.reduceLT, Int.reduceLE, Int.reduceGT, Int.reduceGE, Int.reduceAdd, Int.reduceSub, Int.reduceNeg, Int.reduceToNat, Int.reduceEq, Int.reduceMul, Int.reduceNe, Nat.reduceLeDiff, Nat.reduceLT, Nat.reduceAdd, Nat.reduceSub, Nat.reduceEqDiff, Int.cast_ofNat_Int, reduceCtorEq, tI, List.length_map, z1, z2]
                  refine ⟨_, ?_, rfl, done ++ [w], rst, by rw [hl']; simp, rfl, by simp⟩
                  cases s16 <;> first | exact NI.un | exact NI.sh
              · rintro env acc ⟨s16, n16, rfl, done, rst, hl', hr', rfl⟩
                match rst, hr' with
                | [], _ =>
                  rw [List.append_nil] at hl'
                  subst hl'
                  exact ⟨_, n16, rfl⟩
              · rintro ⟨ds, env⟩ ⟨s16, n16, h⟩
                cases h
                simp only [S0, S1, S2, S3, S4, S5, S6, S7, S8, S9, S10, S11, S12, S13, S14, S15, S16, S17, SD0, SD1, List.map_cons, List.map_nil, List.map_append, List.length_append, Int.reduceLT, Int.reduceLE, Int.reduceGT, Int.reduceGE, Int.reduceAdd, Int.reduceSub, Int.reduceNeg, Int.reduceToNat, Int.reduceEq, Int.reduceMul, Int.reduceNe, Nat.reduceLeDiff, Nat.reduceLT, Nat.reduceAdd, Nat.reduceSub, Nat.reduceEqDiff, Int.cast_ofNat_Int, reduceCtorEq, asK_ni n13]
                exact ⟨_, n16, rfl⟩
            rintro env ⟨s16, n16, rfl⟩
            simp only [S0, S1, S2, S3, S4, S5, S6, S7, S8, S9, S10, S11, S12, S13, S14, S15, S16, S17, SD0, SD1, List.map_cons, List.map_nil, List.map_append, List.length_append, Int.reduceLT, Int.reduceLE, Int.reduceGT, Int.reduceGE, Int.reduceAdd, Int.reduceSub, Int.reduceNeg, Int.reduceToNat, Int.reduceEq, Int.reduceMul, Int.reduceNe, Nat.reduceLeDiff, Nat.reduceLT, Nat.reduceAdd, Nat.reduceSub, Nat.reduceEqDiff, Int.cast_ofNat_Int, reduceCtorEq, tD, List.length_map, tl]
            refine WS.forL (fun rest env => ∃ s12, NI s12 ∧ env = [.sh (.lst (ns.map D.int)), .sh (.int c), .un, .ow dk, s4, .sh (.fn f), .un, .un, .un, .sh (sD s), .sh (sD a), .sh (tD t), s12, .sh (wide t), s14, s15, s16] ∧ ∀ x ∈ rest, badT s.length a.length x) ⟨_, n12, rfl, fun z hz => bad_tasks hs ha ht z hz⟩ ?_ ?_
            · rintro z r'' env ⟨s12, n12, rfl, hz⟩
              obtain ⟨pz, bz⟩ := hz z (List.mem_cons_self ..)
              have b1 := three_bad (need_all_task (k := 34) hs ha pz (by omega) bz) f hf
              simp only [S0, S1, S2, S3, S4, S5, S6, S7, S8, S9, S10, S11, S12, S13, S14, S15, S16, S17, SD0, SD1, List.map_cons, List.map_nil, List.map_append, List.length_append, Int.reduceLT, Int.reduceLE, Int.reduceGT, Int.reduceGE, Int.reduceAdd, Int.reduceSub, Int.reduceNeg, Int.reduceToNat, Int.reduceEq, Int.reduceMul, Int.reduceNe, Nat.reduceLeDiff, Nat.reduceLT, Nat.reduceAdd, Nat.reduceSub, Nat.reduceEqDiff, Int.cast_ofNat_Int, reduceCtorEq, asK_ni n12, b1, kt, ct]
              exact ⟨_, NI.sh, rfl, fun w hw => hz w (List.mem_cons_of_mem _ hw)⟩
            · rintro env ⟨s12, n12, rfl, _⟩
              simp only [S0, S1, S2, S3, S4, S5, S6, S7, S8, S9, S10, S11, S12, S13, S14, S15, S16, S17, SD0, SD1, List.map_cons, List.map_nil, List.map_append, List.length_append, Int.reduceLT, Int.reduceLE, Int.reduceGT, Int.reduceGE, Int.reduceAdd, Int.reduceSub, Int.reduceNeg, Int.reduceToNat, Int.reduceEq, Int.reduceMul, Int.reduceNe, Nat.reduceLeDiff, Nat.reduceLT, Nat.reduceAdd, Nat.reduceSub, Nat.reduceEqDiff, Int.cast_ofNat_Int, reduceCtorEq]
              exact ⟨_, _, _, _, NI.sh, n12, NI.sh, n16, rfl, fun w hw => hz w (List.mem_cons_of_mem _ hw)⟩
          · rintro env ⟨s5, s12, s13, s16, n5, n12, n13, n16, rfl, _⟩
            simp only [S0, S1, S2, S3, S4, S5, S6, S7, S8, S9, S10, S11, S12, S13, S14, S15, S16, S17, SD0, SD1, List.map_cons, List.map_nil, List.map_append, List.length_append, Int.reduceLT, Int.reduceLE, Int.reduceGT, Int.reduceGE, Int.reduceAdd, Int.reduceSub, Int.reduceNeg, Int.reduceToNat, Int.reduceEq, Int.reduceMul, Int.reduceNe, Nat.reduceLeDiff, Nat.reduceLT, Nat.reduceAdd, Nat.reduceSub, Nat.reduceEqDiff, Int.cast_ofNat_Int, reduceCtorEq]
            exact ⟨_, _, _, _, _, _, _, _, _, _, _, _, NI.sh, NI.ow, n4, n5, NI.sh, NI.sh, NI.sh, n12, n13, n14, n15, n16, rfl, fun w hw => hx w (List.mem_cons_of_mem _ hw)⟩
      · rintro env ⟨s1, s3, s4, s5, s9, s10, s11, s12, s13, s14, s15, s16, n1, n3, n4, n5, n9, n10, n11, n12, n13, n14, n15, n16, rfl, hx⟩
        simp only [S0, S1, S2, S3, S4, S5, S6, S7, S8, S9, S10, S11, S12, S13, S14, S15, S16, S17, SD0, SD1, List.map_cons, List.map_nil, List.map_append, List.length_append, Int.reduceLT, Int.reduceLE, Int.reduceGT, Int.reduceGE, Int.reduceAdd, Int.reduceSub, Int.reduceNeg, Int.reduceToNat, Int.reduceEq, Int.reduceMul, Int.reduceNe, Nat.reduceLeDiff, Nat.reduceLT, Nat.reduceAdd, Nat.reduceSub, Nat.reduceEqDiff, Int.cast_ofNat_Int, reduceCtorEq]
        exact ⟨_, _, _, _, _, _, _, _, _, _, _, _, rfl⟩
    · rintro env ⟨s1, s3, s4, s5, s9, s10, s11, s12, s13, s14, s15, s16, rfl⟩
      simp only [S0, S1, S2, S3, S4, S5, S6, S7, S8, S9, S10, S11, S12, S13, S14, S15, S16, S17, SD0, SD1, List.map_cons, List.map_nil, List.map_append, List.length_append, Int.reduceLT, Int.reduceLE, Int.reduceGT, Int.reduceGE, Int.reduceAdd, Int.reduceSub, Int.reduceNeg, Int.reduceToNat, Int.reduceEq, Int.reduceMul, Int.reduceNe, Nat.reduceLeDiff, Nat.reduceLT, Nat.reduceAdd, Nat.reduceSub, Nat.reduceEqDiff, Int.cast_ofNat_Int, reduceCtorEq]
      exact ⟨_, _, _, _, _, _, _, _, _, _, _, _, _, rfl⟩
  · rintro env ⟨s0, s1, s3, s4, s5, s9, s10, s11, s12, s13, s14, s15, s16, rfl⟩
    exact WS.rtOf (fin_ok' s0 s1 s3 s4 s5 s9 s10 s11 s12 s13 s14 s15 s16)
end Cor.L07

set_option Elab.async false
set_option linter.all false
set_option maxRecDepth 100000
set_option maxHeartbeats 4000000
namespace Cor.L07
open PySem PySem.Spec L2 Cor
open PyProof.Rows hiding St
open L2H (HotC Hot1 PinOk RoomH cxH inv_startH)

def N_kin : List Str := ["_law_e", "_law_sorts", "_law_labels", "_law_label", "_law_good_here"]
theorem nd_kin : N_kin.Nodup := by decide +kernel
theorem kin_body {P : Program} {w : World} {K : PySem.W.Frag} {mg : Str → Option Value} {base : Heap} {f : Addr} {cdv : Value} {A : Around} {outer : List PySem.Env} {s : Shared} {H : Hp} {a D : Addr} {oe : Obj} {b : Nat → Bool} (hot : Hot1 A (a, oe)) (hz : Zc (.ref D) none oe) (hf : ∃ vs, oe.data = .fields vs) (F : KinF K mg D b) :
    PSs (cxH cx0 P w K mg base N_kin "_law_kin" (defScope (top 38)) f cdv A outer s H e0x (a, oe)) (defBody (top 38)) (tKin K a b) := by
  have hp : (a, oe) ∈ (cxH cx0 P w K mg base N_kin "_law_kin" (defScope (top 38)) f cdv A outer s H e0x (a, oe)).pn := List.mem_singleton.mpr rfl
  have hc : HotC (cxH cx0 P w K mg base N_kin "_law_kin" (defScope (top 38)) f cdv A outer s H e0x (a, oe)) := ⟨(a, oe), hot, hp⟩
  have I : ∀ (j : Nat) (x : Str) (p1 p2 p3 p4 : Pos), kinNames[j]? = some x → Gl (cxH cx0 P w K mg base N_kin "_law_kin" (defScope (top 38)) f cdv A outer s H e0x (a, oe)) x → (x == ("__debug__" : Str)) = false →
      PE (cxH cx0 P w K mg base N_kin "_law_kin" (defScope (top 38)) f cdv A outer s H e0x (a, oe)) (.Call (.Name "isinstance" p1) [.Name "_law_e" p2, .Name x p3] [] p4) (tIs a (b j)) := fun j x p1 p2 p3 p4 hx hg hd => by
    obtain ⟨C, h1, h2⟩ := F.cl j x hx
    exact pe_isK (c := .ref C) (cv := .ref C) hp F.exc hz hf rfl F.isn (pv 0) (pe_glob hg h1 rfl hd) rfl (fun u r => r) h2
  have IV : ∀ (p1 p2 p3 p4 : Pos), PE (cxH cx0 P w K mg base N_kin "_law_kin" (defScope (top 38)) f cdv A outer s H e0x (a, oe)) (.Call (.Name "isinstance" p1) [.Name "_law_e" p2, .Name "ValueError" p3] [] p4) (tIs a (b 15)) := fun p1 p2 p3 p4 =>
    pe_isK (c := .ty "ValueError") (cv := .type "ValueError") hp F.exc hz hf rfl F.isn (pv 0) (pe_bltn rfl F.ve.1 (by decide +kernel) rfl) rfl (fun u r => r) F.ve.2
  exact pss_cons (ps_set (i := 1) nd_kin rfl (.inl rfl) (pe_lst (pa_cons (I 0 _ _ _ _ _ rfl rfl (by decide +kernel)) (pa_cons (I 1 _ _ _ _ _ rfl rfl (by decide +kernel)) (pa_cons (I 2 _ _ _ _ _ rfl rfl (by decide +kernel)) pa_nil)))))
    (pss_cons (ps_set (i := 1) nd_kin rfl (.inl rfl) (pe_op op_cat (pv 1) (pe_lst (pa_cons (I 3 _ _ _ _ _ rfl rfl (by decide +kernel)) (pa_cons (I 4 _ _ _ _ _ rfl rfl (by decide +kernel)) (pa_cons (I 5 _ _ _ _ _ rfl rfl (by decide +kernel)) pa_nil))))))
    (pss_cons (ps_set (i := 1) nd_kin rfl (.inl rfl) (pe_op op_cat (pv 1) (pe_lst (pa_cons (I 6 _ _ _ _ _ rfl rfl (by decide +kernel)) (pa_cons (I 7 _ _ _ _ _ rfl rfl (by decide +kernel)) (pa_cons (I 8 _ _ _ _ _ rfl rfl (by decide +kernel)) pa_nil))))))
    (pss_cons (ps_set (i := 1) nd_kin rfl (.inl rfl) (pe_op op_cat (pv 1) (pe_lst (pa_cons (I 9 _ _ _ _ _ rfl rfl (by decide +kernel)) (pa_cons (I 10 _ _ _ _ _ rfl rfl (by decide +kernel)) (pa_cons (I 11 _ _ _ _ _ rfl rfl (by decide +kernel)) pa_nil))))))
    (pss_cons (ps_set (i := 1) nd_kin rfl (.inl rfl) (pe_op op_cat (pv 1) (pe_lst (pa_cons (I 12 _ _ _ _ _ rfl rfl (by decide +kernel)) (pa_cons (I 13 _ _ _ _ _ rfl rfl (by decide +kernel)) (pa_cons (I 14 _ _ _ _ _ rfl rfl (by decide +kernel)) pa_nil))))))
    (pss_cons (ps_expr (pe_bm (name := "append") PySem.F.plainAttrs_list PySem.F.slot_list_append PySem.F.type_list_append mt_append (pv 1) (pa_cons (IV _ _ _ _) pa_nil)))
    (pss_cons (ps_set (i := 2) nd_kin rfl (.inl rfl) pe_str)
    (pss_one (ps_ret (pe_join pe_str (pe_lcH (own := [("_law_label", 3), ("_law_good_here", 4)]) hc nd_kin (pi_zpH rfl F.zp (pa_cons (pe_split (pv 2) pe_str) (pa_cons (pv 1) pa_nil)) rfl rfl) (blkOk_by (by show blkC N_kin (defScope (top 38)) _ _ = true; decide +kernel))
      (fun s H C cl fp => pg_tupH (hot_blk hc) (pgs_cons (pg_name (i := 3) nd_kin rfl (.inl rfl)) (pgs_cons (pg_name (i := 4) nd_kin rfl (.inl rfl)) pgs_nil)) rfl rfl)
      (fun s H C cl fp => pts_one (pt_truth (pv 4) fun _ => rfl)) (fun s H C cl fp => pv 3) (fun _ => rfl)))))))))))
def N_try : List Str := ["_law_call_so", "_law_found", "_law_e"]
theorem nd_try : N_try.Nodup := by decide +kernel
theorem try_gives {X : Cx} {g fK TM CE : Addr} {cdg oc dV kV doc pm cdv ct : Value} {an od : Option Addr} {osl : Array (Option Value)} {q : Str}
    (lk : X.K.lookup fK = some ⟨oc, od, .func (PySem.W.fnOf "_law_kin" "_law_kin" (defArgs (top 38)) (defBody (top 38)) (defScope (top 38)) dV kV doc pm an cdv ct), osl⟩) (hcd : PySem.W.codeIn X.K cdv "_law_kin" = true) (hm : X.mg "_law_kin" = some (.ref fK)) (hk : PySem.W.keepIn X.K (.ref fK) = true)
    (hb : L2.Binds X.K (PySem.W.fnOf "_law_kin" "_law_kin" (defArgs (top 38)) (defBody (top 38)) (defScope (top 38)) dV kV doc pm an cdv ct) ["_law_e"] []) (hTM : X.mg "TooMany" = some (.ref TM)) (hCE : X.mg "ComingError" = some (.ref CE)) :
    GivesToN X N_try "_law_try" (defScope (top 39)) g cdg (defBody (top 39)) "_law_call_so" q (TTry X.K X.mg TM CE) := by
  intro f c' s H Q tl act hc h hr
  have SK : FnScope N_kin ["_law_e"] (defScope (top 38)) := ⟨rfl, rfl, rfl, by decide +kernel, rfl, by decide +kernel, by decide +kernel⟩
  refine ⟨_, pss_cons (ps_set (i := 1) nd_try rfl (.inl rfl) pe_non) (pss_cons (ps_try_many_as (X := (cxOf C8.CX0 X.prog X.w X.K X.mg X.base N_try "_law_try" (defScope (top 39)) g cdg X.A X.stack s H C8.E0).nox) (i := 2) (n := "_law_e") (Wout := fun _ _ _ _ => False)
      (l := [(.ref TM, fun _ _ _ => tNever), (.ref CE, tsKin X.K X.mg)])
      (tb := fun W Z σ H => ∃ Ech : XK, (∀ cls d H', Ech cls d H' → W cls d σ H') ∧ σ[0]? = some (some (.ref f)) ∧ H c' = some (LamX.CodeO c' q) ∧ tl Ech H fun v H' => [V.str "told", v].length ≤ sizeLine ∧ NewT H' [.str "told", v] fun x H'' => Z.nx (σ.set 1 (some x)) H'')
      rfl rfl nd_try rfl rfl (fun u s' ⟨a, B, sI, pins, σ, H, cls, d, e, I, nb, up, sky, na, os, ag, w⟩ => w.elim) (fun W pn xe tk _ => ?_)
      (.cons ⟨rfl, by decide +kernel, .inl hTM⟩ (fun a oe cls d pn _ _ => pss_never) (.cons ⟨rfl, by decide +kernel, .inl hCE⟩ (fun a oe cls d pn hz hf => ?_) .nil))) (pss_one (ps_ret (pv 1)))), ?_⟩
  · refine ⟨fun pins s' σ H' Z I h' => ?_⟩
    obtain ⟨Ech, hW, h1, h2, h3⟩ := h'
    exact (pss_one (ps_set (X := (cxOf C8.CX0 X.prog X.w X.K X.mg X.base N_try "_law_try" (defScope (top 39)) g cdg X.A X.stack s H C8.E0).tr pn xe) (i := 1) nd_try rfl (.inl rfl) (pe_tupF (pa_cons pe_str (pa_cons (act W pn xe Ech _ _ tk) pa_nil))))).run pins s' σ H' Z I ⟨h1, h2, hW, h3⟩
  · refine pss_one (ps_set (i := 1) nd_try rfl (.inl rfl) (pe_callHot (X := (cxOf C8.CX0 X.prog X.w X.K X.mg X.base N_try "_law_try" (defScope (top 39)) g cdg X.A X.stack s H C8.E0).nox.suite a ((a, oe) :: pn)) (k := 0) (pp := (a, oe)) (sp := fun vs H Q => ∃ D b, vs = [.ref a] ∧ cls = .ref D ∧ d = none ∧ KinF X.K X.mg D b ∧ ∀ H', Ex0 H H' → Q (.str (kinStr b)) H') ?_ (List.mem_cons_self ..) lk hcd SK ?_ rfl hm hk hb (fun vs H Q ⟨D, b, e, _⟩ => by rw [e]; rfl) (fun s H vs Q _ ⟨D, b, e1, e2, e3, F, hQ⟩ => ?_) (pa_cons (pv 2) pa_nil) (by decide +kernel) rfl rfl))
    · obtain ⟨vs, hv⟩ := hf
      exact ⟨rfl, vs, hv, hz.2.2 vs hv⟩
    · exact ⟨hr.dp, hr.un⟩
    · subst e1 e2 e3
      exact ⟨_, kin_body (by obtain ⟨vs, hv⟩ := hf; exact ⟨rfl, vs, hv, hz.2.2 vs hv⟩) hz.zc hf F, tKin_read rfl hQ⟩
  · refine ⟨ETry X.K X.mg TM CE Q, fun cls d H' ⟨D, b, e1, e2, F, x1, x2, hQ⟩ => ⟨false, x1, fun z => (nomatch z), fun _ => ⟨true, x2, fun _ a na => ⟨.ref a, rfl, D, b, rfl, e1, e2, F, fun H'' e => ⟨_, rfl, hQ H'' e⟩⟩, fun z => (nomatch z)⟩⟩, rfl, hc, h _ fun x H' q => ⟨x, rfl, q⟩⟩

/-! ### the head -/
def dd (x : Str) (i : Nat) : He.DefD := ⟨(x, none), x, x, defArgs (top i), defBody (top i), defScope (top i), [], []⟩
def fn : List He.DefD := [dd "is_within" 18, dd "has_items" 19, dd "is_habit_value" 21, dd "is_side" 22, dd "is_task" 23, dd "need_all" 24, dd "pair_at" 25, dd "ends_of" 26, dd "first_mistake" 27, dd "came_to" 28, dd "are_right" 29, dd "mistake" 30, dd "alike_runs" 31, dd "_law_deck" 33, dd "_law_pick" 34, dd "_law_one" 35, dd "_law_sort" 36, dd "_law_same" 37, dd "_law_kin" 38, dd "_law_try" 39, dd "_law_a_habit" 40, dd "_law_at_end" 41, dd "_law_mistake" 42, dd "_law_alike" 43, dd "_law_a_task" 44, dd "_law_good" 45, dd "law" 46]
def faG : List He.Fa := [.glo "is_within", .glo "has_items", .glo "is_habit_value", .glo "is_side", .glo "is_task", .glo "need_all", .glo "pair_at", .glo "ends_of", .glo "first_mistake", .glo "came_to", .glo "are_right", .glo "mistake", .glo "alike_runs", .glo "_law_deck", .glo "_law_pick", .glo "_law_one", .glo "_law_sort", .glo "_law_same", .glo "_law_kin", .glo "_law_try", .glo "_law_a_habit", .glo "_law_at_end", .glo "_law_mistake", .glo "_law_alike", .glo "_law_a_task", .glo "_law_good", .glo "law"]
def faI : List He.Fa := []
def fa : List He.Fa := freeNames.map He.Fa.free ++ (gloNames.map He.Fa.glo ++ (excNames.map He.Fa.exc ++ (faG ++ faI)))
def tf : List He.Defn := [("law", none)]
def tabs (K : PySem.W.Frag) : List (Addr × Str) := [((He.cT K ("law", none)).2, "law.<locals>.<lambda>")]
abbrev Rlaw := PySem.Challenge.rw_onlycoming_k07_whole_sides_and_tasks
abbrev R : PySem.W.OpenRow := PySem.W.OpenLaw.row Rlaw
abbrev hk : PySem.W.Hook := He.hookX 4 fa fn [] tf exB
def ob (s : PySem.W.SharedT) : He.AlX := He.obsX 4 fa fn [] tf exB (HandSHeadRun.getT s)
theorem ob_eq (s : PySem.W.SharedT) : ob s = hk.obs s.abs := He.obsX_eq (HandSHeadRun.getT_eq s)
def loose : List Str := (["ComingError", "InvalidWeb", "InvalidLine", "InvalidNode", "InvalidWalk", "InvalidNumbers", "InvalidNumber", "InvalidHabit", "InvalidSide", "InvalidTask", "InvalidMachines", "InvalidFacts", "InvalidText", "Done", "NothingToUndo", "TooMany", "is_within", "has_items", "is_habit_value", "is_side", "is_task", "need_all", "pair_at", "ends_of", "first_mistake", "came_to", "are_right", "mistake", "alike_runs", "_law_deck"] : List Str) ++ (["_law_pick", "_law_one", "_law_sort", "_law_same", "_law_kin", "_law_try", "_law_a_habit", "_law_at_end", "_law_mistake", "_law_alike", "_law_a_task", "_law_good"] : List Str)
set_option maxHeartbeats 0 in
theorem run (w : World) : HandSHeadRun.RunEq R (PySem.W.view R.prog [46]) hk ob 6000 loose w := by
  intro os
  kernel_rfl
section
variable {P : Program} {w : World} {K : PySem.W.Frag} {h : Heap} {mg : Str → Option Value} {base : Heap}
abbrev G (K : PySem.W.Frag) : Gx := gxOf t tabs K
def KD : Nat := 40
def NF : Nat := 1000000
theorem fact_of (c : He.SaysD fa fn K) {f : He.Fa} (h : f ∈ fa) : f.ok K = true := c.facts h
theorem mfree (X : K.In h) (GX : h.Ns mainGlobals mg) (c : He.SaysD fa fn K) : ∀ x ∈ freeNames, mg x = none := fun x hx => He.free_ok X GX (c.facts (List.mem_append_left _ (List.mem_map_of_mem hx)))
theorem mglo (X : K.In h) (GX : h.Ns mainGlobals mg) (c : He.SaysD fa fn K) : ∀ x ∈ gloNames, mg x = some (.ref (He.ga K x)) := fun x hx => He.glo_ok X GX (c.facts (List.mem_append_right _ (List.mem_append_left _ (List.mem_map_of_mem hx))))
theorem mexc (c : He.SaysD fa fn K) : ∀ x ∈ excNames, (He.Fa.exc x).ok K = true := fun x hx => c.facts (List.mem_append_right _ (List.mem_append_right _ (List.mem_append_left _ (List.mem_map_of_mem hx))))
theorem mdef (X : K.In h) (GX : h.Ns mainGlobals mg) (c : He.SaysD fa fn K) {f : He.Fa} (i : Nat) (e : faG[i]? = some f) : f.ok K = true := c.facts (List.mem_append_right _ (List.mem_append_right _ (List.mem_append_right _ (List.mem_append_left _ (List.mem_of_getElem? e)))))
theorem mint (X : K.In h) (GX : h.Ns mainGlobals mg) (c : He.SaysD fa fn K) {f : He.Fa} (i : Nat) (e : faI[i]? = some f) : f.ok K = true := c.facts (List.mem_append_right _ (List.mem_append_right _ (List.mem_append_right _ (List.mem_append_right _ (List.mem_of_getElem? e)))))
theorem tryw (X : K.In h) (GX : h.Ns mainGlobals mg) (c : He.SaysD fa fn K) (ex : exB K = true) : TryW (G K) mg := by
  obtain ⟨fdT, FT⟩ := c.def_ 19 (d := dd "_law_try" 39) rfl
  obtain ⟨fdK, FK⟩ := c.def_ 18 (d := dd "_law_kin" 38) rfl
  have bT : L2.Binds K fdT ["_law_call_so"] [] := FT.bindsN fun _ _ _ _ _ _ us hl => match us, hl with | [_], _ => rfl
  have bK : L2.Binds K fdK ["_law_e"] [] := FK.bindsN fun _ _ _ _ _ _ us hl => match us, hl with | [_], _ => rfl
  have mT := He.glo_ok X GX (mdef X GX c (f := .glo "_law_try") 19 rfl)
  have mK := He.glo_ok X GX (mdef X GX c (f := .glo "_law_kin") 18 rfl)
  obtain ⟨oc, od, dV, kV, doc, pm, an, cdv, ct, osl, rfl, lk, hcd, _, _⟩ := FT.ex
  obtain ⟨oc2, od2, dV2, kV2, doc2, pm2, an2, cdv2, ct2, osl2, rfl, lk2, hcd2, _, _⟩ := FK.ex
  have ST : FnScope N_try ["_law_call_so"] (defScope (top 39)) := ⟨rfl, rfl, rfl, by decide +kernel, rfl, by decide +kernel, by decide +kernel⟩
  refine ⟨_, He.ga K "TooMany", He.ga K "ComingError", oc, dV, kV, doc, pm, cdv, ct, an, od, osl, _, _, _, N_try, mT, FT.kp, lk, hcd, bT, ST, rfl, .inl rfl, fun X' q e1 e2 => ?_, tryF_of ex (mglo X GX c) (mfree X GX c)⟩
  exact try_gives (by rw [e1]; exact lk2) (by rw [e1]; exact hcd2) (by rw [e2]; exact mK) (by rw [e1]; exact FK.kp) (by rw [e1]; exact bK) (by rw [e2]; exact mglo X GX c _ (by decide +kernel)) (by rw [e2]; exact mglo X GX c _ (by decide +kernel))

theorem scF_is_within : FnScope N_is_within ["value", "low", "high"] (defScope (top 18)) := ⟨rfl, rfl, rfl, by decide +kernel, rfl, by decide +kernel, by decide +kernel⟩
theorem ok_is_within {fd : FuncData} (F : FunD K "is_within" "is_within" (defArgs (top 18)) (defBody (top 18)) (defScope (top 18)) [] [] (He.ga K "is_within") fd) {k : Nat} (Wd : Wld (G K) t P w mg base (evC T NF k) k) : FnOk P w K mg base (L2N.CX P w) (3 * (k + 1)) (He.ga K "is_within") fd (["value", "low", "high"] : List Str) (spF (G K) (evC T NF (k + 1)) 0 3 false) := by
  exact def_ok (g := G K) (t := t) F scF_is_within (T := T) rfl k_is_within rfl rfl Wd fun z => nomatch z
theorem fn_is_within (X : K.In h) (GX : h.Ns mainGlobals mg) (c : He.SaysD fa fn K) : ∃ a, (false = false → (G K).fa 0 = some a) ∧ mg "is_within" = some (.ref a) ∧ PySem.W.keepIn K (.ref a) = true ∧
    ∃ (fd : FuncData) (ps : List Str), L2.Binds K fd ps [] ∧ ∀ k, Wld (G K) t P w mg base (evC T NF k) k → FnOk P w K mg base (L2N.CX P w) (3 * (k + 1)) a fd ps (spF (G K) (evC T NF (k + 1)) 0 3 false) := by
  obtain ⟨fd, F⟩ := c.def_ 0 (d := dd "is_within" 18) rfl
  exact ⟨_, (fun _ => rfl), He.glo_ok X GX (mdef X GX c (f := .glo "is_within") 0 rfl), F.kp, fd, (["value", "low", "high"] : List Str), FunD.bindsN (ps := (["value", "low", "high"] : List Str)) F fun _ _ _ _ _ _ us hl => match us, hl with | [_, _, _], _ => rfl, fun k Wd => ok_is_within F Wd⟩
theorem scF_has_items : FnScope N_has_items ["value", "low", "high"] (defScope (top 19)) := ⟨rfl, rfl, rfl, by decide +kernel, rfl, by decide +kernel, by decide +kernel⟩
theorem ok_has_items {fd : FuncData} (F : FunD K "has_items" "has_items" (defArgs (top 19)) (defBody (top 19)) (defScope (top 19)) [] [] (He.ga K "has_items") fd) {k : Nat} (Wd : Wld (G K) t P w mg base (evC T NF k) k) : FnOk P w K mg base (L2N.CX P w) (3 * (k + 1)) (He.ga K "has_items") fd (["value", "low", "high"] : List Str) (spF (G K) (evC T NF (k + 1)) 1 3 false) := by
  exact def_ok (g := G K) (t := t) F scF_has_items (T := T) rfl k_has_items rfl rfl Wd fun z => nomatch z
theorem fn_has_items (X : K.In h) (GX : h.Ns mainGlobals mg) (c : He.SaysD fa fn K) : ∃ a, (false = false → (G K).fa 1 = some a) ∧ mg "has_items" = some (.ref a) ∧ PySem.W.keepIn K (.ref a) = true ∧
    ∃ (fd : FuncData) (ps : List Str), L2.Binds K fd ps [] ∧ ∀ k, Wld (G K) t P w mg base (evC T NF k) k → FnOk P w K mg base (L2N.CX P w) (3 * (k + 1)) a fd ps (spF (G K) (evC T NF (k + 1)) 1 3 false) := by
  obtain ⟨fd, F⟩ := c.def_ 1 (d := dd "has_items" 19) rfl
  exact ⟨_, (fun _ => rfl), He.glo_ok X GX (mdef X GX c (f := .glo "has_items") 1 rfl), F.kp, fd, (["value", "low", "high"] : List Str), FunD.bindsN (ps := (["value", "low", "high"] : List Str)) F fun _ _ _ _ _ _ us hl => match us, hl with | [_, _, _], _ => rfl, fun k Wd => ok_has_items F Wd⟩
theorem scF_is_habit_value : FnScope N_is_habit_value ["value"] (defScope (top 21)) := ⟨rfl, rfl, rfl, by decide +kernel, rfl, by decide +kernel, by decide +kernel⟩
theorem ok_is_habit_value {fd : FuncData} (F : FunD K "is_habit_value" "is_habit_value" (defArgs (top 21)) (defBody (top 21)) (defScope (top 21)) [] [] (He.ga K "is_habit_value") fd) {k : Nat} (Wd : Wld (G K) t P w mg base (evC T NF k) k) : FnOk P w K mg base (L2N.CX P w) (3 * (k + 1)) (He.ga K "is_habit_value") fd (["value"] : List Str) (spF (G K) (evC T NF (k + 1)) 2 1 false) := by
  exact def_ok (g := G K) (t := t) F scF_is_habit_value (T := T) rfl k_is_habit_value rfl rfl Wd fun z => nomatch z
theorem fn_is_habit_value (X : K.In h) (GX : h.Ns mainGlobals mg) (c : He.SaysD fa fn K) : ∃ a, (false = false → (G K).fa 2 = some a) ∧ mg "is_habit_value" = some (.ref a) ∧ PySem.W.keepIn K (.ref a) = true ∧
    ∃ (fd : FuncData) (ps : List Str), L2.Binds K fd ps [] ∧ ∀ k, Wld (G K) t P w mg base (evC T NF k) k → FnOk P w K mg base (L2N.CX P w) (3 * (k + 1)) a fd ps (spF (G K) (evC T NF (k + 1)) 2 1 false) := by
  obtain ⟨fd, F⟩ := c.def_ 2 (d := dd "is_habit_value" 21) rfl
  exact ⟨_, (fun _ => rfl), He.glo_ok X GX (mdef X GX c (f := .glo "is_habit_value") 2 rfl), F.kp, fd, (["value"] : List Str), FunD.bindsN (ps := (["value"] : List Str)) F fun _ _ _ _ _ _ us hl => match us, hl with | [_], _ => rfl, fun k Wd => ok_is_habit_value F Wd⟩
theorem scF_is_side : FnScope N_is_side ["value"] (defScope (top 22)) := ⟨rfl, rfl, rfl, by decide +kernel, rfl, by decide +kernel, by decide +kernel⟩
theorem ok_is_side {fd : FuncData} (F : FunD K "is_side" "is_side" (defArgs (top 22)) (defBody (top 22)) (defScope (top 22)) [] [] (He.ga K "is_side") fd) {k : Nat} (Wd : Wld (G K) t P w mg base (evC T NF k) k) : FnOk P w K mg base (L2N.CX P w) (3 * (k + 1)) (He.ga K "is_side") fd (["value"] : List Str) (spF (G K) (evC T NF (k + 1)) 3 1 false) := by
  exact def_ok (g := G K) (t := t) F scF_is_side (T := T) rfl k_is_side rfl rfl Wd fun z => nomatch z
theorem fn_is_side (X : K.In h) (GX : h.Ns mainGlobals mg) (c : He.SaysD fa fn K) : ∃ a, (false = false → (G K).fa 3 = some a) ∧ mg "is_side" = some (.ref a) ∧ PySem.W.keepIn K (.ref a) = true ∧
    ∃ (fd : FuncData) (ps : List Str), L2.Binds K fd ps [] ∧ ∀ k, Wld (G K) t P w mg base (evC T NF k) k → FnOk P w K mg base (L2N.CX P w) (3 * (k + 1)) a fd ps (spF (G K) (evC T NF (k + 1)) 3 1 false) := by
  obtain ⟨fd, F⟩ := c.def_ 3 (d := dd "is_side" 22) rfl
  exact ⟨_, (fun _ => rfl), He.glo_ok X GX (mdef X GX c (f := .glo "is_side") 3 rfl), F.kp, fd, (["value"] : List Str), FunD.bindsN (ps := (["value"] : List Str)) F fun _ _ _ _ _ _ us hl => match us, hl with | [_], _ => rfl, fun k Wd => ok_is_side F Wd⟩
theorem scF_is_task : FnScope N_is_task ["side", "against", "value"] (defScope (top 23)) := ⟨rfl, rfl, rfl, by decide +kernel, rfl, by decide +kernel, by decide +kernel⟩
theorem ok_is_task {fd : FuncData} (F : FunD K "is_task" "is_task" (defArgs (top 23)) (defBody (top 23)) (defScope (top 23)) [] [] (He.ga K "is_task") fd) {k : Nat} (Wd : Wld (G K) t P w mg base (evC T NF k) k) : FnOk P w K mg base (L2N.CX P w) (3 * (k + 1)) (He.ga K "is_task") fd (["side", "against", "value"] : List Str) (spF (G K) (evC T NF (k + 1)) 4 3 false) := by
  exact def_ok (g := G K) (t := t) F scF_is_task (T := T) rfl k_is_task rfl rfl Wd fun z => nomatch z
theorem fn_is_task (X : K.In h) (GX : h.Ns mainGlobals mg) (c : He.SaysD fa fn K) : ∃ a, (false = false → (G K).fa 4 = some a) ∧ mg "is_task" = some (.ref a) ∧ PySem.W.keepIn K (.ref a) = true ∧
    ∃ (fd : FuncData) (ps : List Str), L2.Binds K fd ps [] ∧ ∀ k, Wld (G K) t P w mg base (evC T NF k) k → FnOk P w K mg base (L2N.CX P w) (3 * (k + 1)) a fd ps (spF (G K) (evC T NF (k + 1)) 4 3 false) := by
  obtain ⟨fd, F⟩ := c.def_ 4 (d := dd "is_task" 23) rfl
  exact ⟨_, (fun _ => rfl), He.glo_ok X GX (mdef X GX c (f := .glo "is_task") 4 rfl), F.kp, fd, (["side", "against", "value"] : List Str), FunD.bindsN (ps := (["side", "against", "value"] : List Str)) F fun _ _ _ _ _ _ us hl => match us, hl with | [_, _, _], _ => rfl, fun k Wd => ok_is_task F Wd⟩
theorem scF_need_all : FnScope N_need_all ["side", "against", "task"] (defScope (top 24)) := ⟨rfl, rfl, rfl, by decide +kernel, rfl, by decide +kernel, by decide +kernel⟩
theorem ok_need_all {fd : FuncData} (F : FunD K "need_all" "need_all" (defArgs (top 24)) (defBody (top 24)) (defScope (top 24)) [] [] (He.ga K "need_all") fd) {k : Nat} (Wd : Wld (G K) t P w mg base (evC T NF k) k) : FnOk P w K mg base (L2N.CX P w) (3 * (k + 1)) (He.ga K "need_all") fd (["side", "against", "task"] : List Str) (spF (G K) (evC T NF (k + 1)) 5 3 false) := by
  exact def_ok (g := G K) (t := t) F scF_need_all (T := T) rfl k_need_all rfl rfl Wd fun z => nomatch z
theorem fn_need_all (X : K.In h) (GX : h.Ns mainGlobals mg) (c : He.SaysD fa fn K) : ∃ a, (false = false → (G K).fa 5 = some a) ∧ mg "need_all" = some (.ref a) ∧ PySem.W.keepIn K (.ref a) = true ∧
    ∃ (fd : FuncData) (ps : List Str), L2.Binds K fd ps [] ∧ ∀ k, Wld (G K) t P w mg base (evC T NF k) k → FnOk P w K mg base (L2N.CX P w) (3 * (k + 1)) a fd ps (spF (G K) (evC T NF (k + 1)) 5 3 false) := by
  obtain ⟨fd, F⟩ := c.def_ 5 (d := dd "need_all" 24) rfl
  exact ⟨_, (fun _ => rfl), He.glo_ok X GX (mdef X GX c (f := .glo "need_all") 5 rfl), F.kp, fd, (["side", "against", "task"] : List Str), FunD.bindsN (ps := (["side", "against", "task"] : List Str)) F fun _ _ _ _ _ _ us hl => match us, hl with | [_, _, _], _ => rfl, fun k Wd => ok_need_all F Wd⟩
theorem scF_pair_at : FnScope N_pair_at ["habit", "came"] (defScope (top 25)) := ⟨rfl, rfl, rfl, by decide +kernel, rfl, by decide +kernel, by decide +kernel⟩
theorem ok_pair_at {fd : FuncData} (F : FunD K "pair_at" "pair_at" (defArgs (top 25)) (defBody (top 25)) (defScope (top 25)) [] [] (He.ga K "pair_at") fd) {k : Nat} (Wd : Wld (G K) t P w mg base (evC T NF k) k) : FnOk P w K mg base (L2N.CX P w) (3 * (k + 1)) (He.ga K "pair_at") fd (["habit", "came"] : List Str) (spF (G K) (evC T NF (k + 1)) 6 2 false) := by
  exact def_ok (g := G K) (t := t) F scF_pair_at (T := T) rfl k_pair_at rfl rfl Wd fun z => nomatch z
theorem fn_pair_at (X : K.In h) (GX : h.Ns mainGlobals mg) (c : He.SaysD fa fn K) : ∃ a, (false = false → (G K).fa 6 = some a) ∧ mg "pair_at" = some (.ref a) ∧ PySem.W.keepIn K (.ref a) = true ∧
    ∃ (fd : FuncData) (ps : List Str), L2.Binds K fd ps [] ∧ ∀ k, Wld (G K) t P w mg base (evC T NF k) k → FnOk P w K mg base (L2N.CX P w) (3 * (k + 1)) a fd ps (spF (G K) (evC T NF (k + 1)) 6 2 false) := by
  obtain ⟨fd, F⟩ := c.def_ 6 (d := dd "pair_at" 25) rfl
  exact ⟨_, (fun _ => rfl), He.glo_ok X GX (mdef X GX c (f := .glo "pair_at") 6 rfl), F.kp, fd, (["habit", "came"] : List Str), FunD.bindsN (ps := (["habit", "came"] : List Str)) F fun _ _ _ _ _ _ us hl => match us, hl with | [_, _], _ => rfl, fun k Wd => ok_pair_at F Wd⟩
theorem scF_ends_of : FnScope N_ends_of ["one", "other"] (defScope (top 26)) := ⟨rfl, rfl, rfl, by decide +kernel, rfl, by decide +kernel, by decide +kernel⟩
theorem ok_ends_of {fd : FuncData} (F : FunD K "ends_of" "ends_of" (defArgs (top 26)) (defBody (top 26)) (defScope (top 26)) [] [] (He.ga K "ends_of") fd) {k : Nat} (Wd : Wld (G K) t P w mg base (evC T NF k) k) : FnOk P w K mg base (L2N.CX P w) (3 * (k + 1)) (He.ga K "ends_of") fd (["one", "other"] : List Str) (spF (G K) (evC T NF (k + 1)) 7 2 false) := by
  exact def_ok (g := G K) (t := t) F scF_ends_of (T := T) rfl k_ends_of rfl rfl Wd fun z => nomatch z
theorem fn_ends_of (X : K.In h) (GX : h.Ns mainGlobals mg) (c : He.SaysD fa fn K) : ∃ a, (false = false → (G K).fa 7 = some a) ∧ mg "ends_of" = some (.ref a) ∧ PySem.W.keepIn K (.ref a) = true ∧
    ∃ (fd : FuncData) (ps : List Str), L2.Binds K fd ps [] ∧ ∀ k, Wld (G K) t P w mg base (evC T NF k) k → FnOk P w K mg base (L2N.CX P w) (3 * (k + 1)) a fd ps (spF (G K) (evC T NF (k + 1)) 7 2 false) := by
  obtain ⟨fd, F⟩ := c.def_ 7 (d := dd "ends_of" 26) rfl
  exact ⟨_, (fun _ => rfl), He.glo_ok X GX (mdef X GX c (f := .glo "ends_of") 7 rfl), F.kp, fd, (["one", "other"] : List Str), FunD.bindsN (ps := (["one", "other"] : List Str)) F fun _ _ _ _ _ _ us hl => match us, hl with | [_, _], _ => rfl, fun k Wd => ok_ends_of F Wd⟩
theorem scF_first_mistake : FnScope N_first_mistake ["side", "against", "task"] (defScope (top 27)) := ⟨rfl, rfl, rfl, by decide +kernel, rfl, by decide +kernel, by decide +kernel⟩
theorem ok_first_mistake {fd : FuncData} (F : FunD K "first_mistake" "first_mistake" (defArgs (top 27)) (defBody (top 27)) (defScope (top 27)) [] [] (He.ga K "first_mistake") fd) {k : Nat} (Wd : Wld (G K) t P w mg base (evC T NF k) k) : FnOk P w K mg base (L2N.CX P w) (3 * (k + 1)) (He.ga K "first_mistake") fd (["side", "against", "task"] : List Str) (spF (G K) (evC T NF (k + 1)) 8 3 false) := by
  exact def_ok (g := G K) (t := t) F scF_first_mistake (T := T) rfl k_first_mistake rfl rfl Wd fun z => nomatch z
theorem fn_first_mistake (X : K.In h) (GX : h.Ns mainGlobals mg) (c : He.SaysD fa fn K) : ∃ a, (false = false → (G K).fa 8 = some a) ∧ mg "first_mistake" = some (.ref a) ∧ PySem.W.keepIn K (.ref a) = true ∧
    ∃ (fd : FuncData) (ps : List Str), L2.Binds K fd ps [] ∧ ∀ k, Wld (G K) t P w mg base (evC T NF k) k → FnOk P w K mg base (L2N.CX P w) (3 * (k + 1)) a fd ps (spF (G K) (evC T NF (k + 1)) 8 3 false) := by
  obtain ⟨fd, F⟩ := c.def_ 8 (d := dd "first_mistake" 27) rfl
  exact ⟨_, (fun _ => rfl), He.glo_ok X GX (mdef X GX c (f := .glo "first_mistake") 8 rfl), F.kp, fd, (["side", "against", "task"] : List Str), FunD.bindsN (ps := (["side", "against", "task"] : List Str)) F fun _ _ _ _ _ _ us hl => match us, hl with | [_, _, _], _ => rfl, fun k Wd => ok_first_mistake F Wd⟩
theorem scF_came_to : FnScope N_came_to ["side", "against", "end", "own", "far"] (defScope (top 28)) := ⟨rfl, rfl, rfl, by decide +kernel, rfl, by decide +kernel, by decide +kernel⟩
theorem ok_came_to {fd : FuncData} (F : FunD K "came_to" "came_to" (defArgs (top 28)) (defBody (top 28)) (defScope (top 28)) [] [] (He.ga K "came_to") fd) {k : Nat} (Wd : Wld (G K) t P w mg base (evC T NF k) k) : FnOk P w K mg base (L2N.CX P w) (3 * (k + 1)) (He.ga K "came_to") fd (["side", "against", "end", "own", "far"] : List Str) (spF (G K) (evC T NF (k + 1)) 9 5 false) := by
  exact def_ok (g := G K) (t := t) F scF_came_to (T := T) rfl k_came_to rfl rfl Wd fun z => nomatch z
theorem fn_came_to (X : K.In h) (GX : h.Ns mainGlobals mg) (c : He.SaysD fa fn K) : ∃ a, (false = false → (G K).fa 9 = some a) ∧ mg "came_to" = some (.ref a) ∧ PySem.W.keepIn K (.ref a) = true ∧
    ∃ (fd : FuncData) (ps : List Str), L2.Binds K fd ps [] ∧ ∀ k, Wld (G K) t P w mg base (evC T NF k) k → FnOk P w K mg base (L2N.CX P w) (3 * (k + 1)) a fd ps (spF (G K) (evC T NF (k + 1)) 9 5 false) := by
  obtain ⟨fd, F⟩ := c.def_ 9 (d := dd "came_to" 28) rfl
  exact ⟨_, (fun _ => rfl), He.glo_ok X GX (mdef X GX c (f := .glo "came_to") 9 rfl), F.kp, fd, (["side", "against", "end", "own", "far"] : List Str), FunD.bindsN (ps := (["side", "against", "end", "own", "far"] : List Str)) F fun _ _ _ _ _ _ us hl => match us, hl with | [_, _, _, _, _], _ => rfl, fun k Wd => ok_came_to F Wd⟩
theorem scF_are_right : FnScope N_are_right ["side", "against", "task"] (defScope (top 29)) := ⟨rfl, rfl, rfl, by decide +kernel, rfl, by decide +kernel, by decide +kernel⟩
theorem ok_are_right {fd : FuncData} (F : FunD K "are_right" "are_right" (defArgs (top 29)) (defBody (top 29)) (defScope (top 29)) [] [] (He.ga K "are_right") fd) {k : Nat} (Wd : Wld (G K) t P w mg base (evC T NF k) k) : FnOk P w K mg base (L2N.CX P w) (3 * (k + 1)) (He.ga K "are_right") fd (["side", "against", "task"] : List Str) (spF (G K) (evC T NF (k + 1)) 10 3 false) := by
  exact def_ok (g := G K) (t := t) F scF_are_right (T := T) rfl k_are_right rfl rfl Wd fun z => nomatch z
theorem fn_are_right (X : K.In h) (GX : h.Ns mainGlobals mg) (c : He.SaysD fa fn K) : ∃ a, (false = false → (G K).fa 10 = some a) ∧ mg "are_right" = some (.ref a) ∧ PySem.W.keepIn K (.ref a) = true ∧
    ∃ (fd : FuncData) (ps : List Str), L2.Binds K fd ps [] ∧ ∀ k, Wld (G K) t P w mg base (evC T NF k) k → FnOk P w K mg base (L2N.CX P w) (3 * (k + 1)) a fd ps (spF (G K) (evC T NF (k + 1)) 10 3 false) := by
  obtain ⟨fd, F⟩ := c.def_ 10 (d := dd "are_right" 29) rfl
  exact ⟨_, (fun _ => rfl), He.glo_ok X GX (mdef X GX c (f := .glo "are_right") 10 rfl), F.kp, fd, (["side", "against", "task"] : List Str), FunD.bindsN (ps := (["side", "against", "task"] : List Str)) F fun _ _ _ _ _ _ us hl => match us, hl with | [_, _, _], _ => rfl, fun k Wd => ok_are_right F Wd⟩
theorem scF_mistake : FnScope N_mistake ["side", "against", "task"] (defScope (top 30)) := ⟨rfl, rfl, rfl, by decide +kernel, rfl, by decide +kernel, by decide +kernel⟩
theorem ok_mistake {fd : FuncData} (F : FunD K "mistake" "mistake" (defArgs (top 30)) (defBody (top 30)) (defScope (top 30)) [] [] (He.ga K "mistake") fd) {k : Nat} (Wd : Wld (G K) t P w mg base (evC T NF k) k) : FnOk P w K mg base (L2N.CX P w) (3 * (k + 1)) (He.ga K "mistake") fd (["side", "against", "task"] : List Str) (spF (G K) (evC T NF (k + 1)) 11 3 false) := by
  exact def_ok (g := G K) (t := t) F scF_mistake (T := T) rfl k_mistake rfl rfl Wd fun z => nomatch z
theorem fn_mistake (X : K.In h) (GX : h.Ns mainGlobals mg) (c : He.SaysD fa fn K) : ∃ a, (false = false → (G K).fa 11 = some a) ∧ mg "mistake" = some (.ref a) ∧ PySem.W.keepIn K (.ref a) = true ∧
    ∃ (fd : FuncData) (ps : List Str), L2.Binds K fd ps [] ∧ ∀ k, Wld (G K) t P w mg base (evC T NF k) k → FnOk P w K mg base (L2N.CX P w) (3 * (k + 1)) a fd ps (spF (G K) (evC T NF (k + 1)) 11 3 false) := by
  obtain ⟨fd, F⟩ := c.def_ 11 (d := dd "mistake" 30) rfl
  exact ⟨_, (fun _ => rfl), He.glo_ok X GX (mdef X GX c (f := .glo "mistake") 11 rfl), F.kp, fd, (["side", "against", "task"] : List Str), FunD.bindsN (ps := (["side", "against", "task"] : List Str)) F fun _ _ _ _ _ _ us hl => match us, hl with | [_, _, _], _ => rfl, fun k Wd => ok_mistake F Wd⟩
theorem scF_alike_runs : FnScope N_alike_runs ["side", "against", "task"] (defScope (top 31)) := ⟨rfl, rfl, rfl, by decide +kernel, rfl, by decide +kernel, by decide +kernel⟩
theorem ok_alike_runs {fd : FuncData} (F : FunD K "alike_runs" "alike_runs" (defArgs (top 31)) (defBody (top 31)) (defScope (top 31)) [] [] (He.ga K "alike_runs") fd) {k : Nat} (Wd : Wld (G K) t P w mg base (evC T NF k) k) : FnOk P w K mg base (L2N.CX P w) (3 * (k + 1)) (He.ga K "alike_runs") fd (["side", "against", "task"] : List Str) (spF (G K) (evC T NF (k + 1)) 12 3 false) := by
  exact def_ok (g := G K) (t := t) F scF_alike_runs (T := T) rfl k_alike_runs rfl rfl Wd fun z => nomatch z
theorem fn_alike_runs (X : K.In h) (GX : h.Ns mainGlobals mg) (c : He.SaysD fa fn K) : ∃ a, (false = false → (G K).fa 12 = some a) ∧ mg "alike_runs" = some (.ref a) ∧ PySem.W.keepIn K (.ref a) = true ∧
    ∃ (fd : FuncData) (ps : List Str), L2.Binds K fd ps [] ∧ ∀ k, Wld (G K) t P w mg base (evC T NF k) k → FnOk P w K mg base (L2N.CX P w) (3 * (k + 1)) a fd ps (spF (G K) (evC T NF (k + 1)) 12 3 false) := by
  obtain ⟨fd, F⟩ := c.def_ 12 (d := dd "alike_runs" 31) rfl
  exact ⟨_, (fun _ => rfl), He.glo_ok X GX (mdef X GX c (f := .glo "alike_runs") 12 rfl), F.kp, fd, (["side", "against", "task"] : List Str), FunD.bindsN (ps := (["side", "against", "task"] : List Str)) F fun _ _ _ _ _ _ us hl => match us, hl with | [_, _, _], _ => rfl, fun k Wd => ok_alike_runs F Wd⟩
theorem scF__law_deck : FnScope N__law_deck ["_law_cell", "_law_turn"] (defScope (top 33)) := ⟨rfl, rfl, rfl, by decide +kernel, rfl, by decide +kernel, by decide +kernel⟩
theorem ok__law_deck {fd : FuncData} (F : FunD K "_law_deck" "_law_deck" (defArgs (top 33)) (defBody (top 33)) (defScope (top 33)) [] [] (He.ga K "_law_deck") fd) {k : Nat} (Wd : Wld (G K) t P w mg base (evC T NF k) k) : FnOk P w K mg base (L2N.CX P w) (3 * (k + 1)) (He.ga K "_law_deck") fd (["_law_cell", "_law_turn"] : List Str) (spF (G K) (evC T NF (k + 1)) 13 2 false) := by
  exact def_ok (g := G K) (t := t) F scF__law_deck (T := T) rfl k__law_deck rfl rfl Wd fun z => nomatch z
theorem fn__law_deck (X : K.In h) (GX : h.Ns mainGlobals mg) (c : He.SaysD fa fn K) : ∃ a, (false = false → (G K).fa 13 = some a) ∧ mg "_law_deck" = some (.ref a) ∧ PySem.W.keepIn K (.ref a) = true ∧
    ∃ (fd : FuncData) (ps : List Str), L2.Binds K fd ps [] ∧ ∀ k, Wld (G K) t P w mg base (evC T NF k) k → FnOk P w K mg base (L2N.CX P w) (3 * (k + 1)) a fd ps (spF (G K) (evC T NF (k + 1)) 13 2 false) := by
  obtain ⟨fd, F⟩ := c.def_ 13 (d := dd "_law_deck" 33) rfl
  exact ⟨_, (fun _ => rfl), He.glo_ok X GX (mdef X GX c (f := .glo "_law_deck") 13 rfl), F.kp, fd, (["_law_cell", "_law_turn"] : List Str), FunD.bindsN (ps := (["_law_cell", "_law_turn"] : List Str)) F fun _ _ _ _ _ _ us hl => match us, hl with | [_, _], _ => rfl, fun k Wd => ok__law_deck F Wd⟩
theorem scF__law_pick : FnScope N__law_pick ["_law_deck_here", "_law_size"] (defScope (top 34)) := ⟨rfl, rfl, rfl, by decide +kernel, rfl, by decide +kernel, by decide +kernel⟩
theorem ok__law_pick {fd : FuncData} (F : FunD K "_law_pick" "_law_pick" (defArgs (top 34)) (defBody (top 34)) (defScope (top 34)) [] [] (He.ga K "_law_pick") fd) {k : Nat} (Wd : Wld (G K) t P w mg base (evC T NF k) k) : FnOk P w K mg base (L2N.CX P w) (3 * (k + 1)) (He.ga K "_law_pick") fd (["_law_deck_here", "_law_size"] : List Str) (spF (G K) (evC T NF (k + 1)) 14 2 true) := by
  exact def_ok (g := G K) (t := t) F scF__law_pick (T := T) rfl k__law_pick rfl rfl Wd fun z => nomatch z
theorem fn__law_pick (X : K.In h) (GX : h.Ns mainGlobals mg) (c : He.SaysD fa fn K) : ∃ a, (true = false → (G K).fa 14 = some a) ∧ mg "_law_pick" = some (.ref a) ∧ PySem.W.keepIn K (.ref a) = true ∧
    ∃ (fd : FuncData) (ps : List Str), L2.Binds K fd ps [] ∧ ∀ k, Wld (G K) t P w mg base (evC T NF k) k → FnOk P w K mg base (L2N.CX P w) (3 * (k + 1)) a fd ps (spF (G K) (evC T NF (k + 1)) 14 2 true) := by
  obtain ⟨fd, F⟩ := c.def_ 14 (d := dd "_law_pick" 34) rfl
  exact ⟨_, (fun z => (nomatch z)), He.glo_ok X GX (mdef X GX c (f := .glo "_law_pick") 14 rfl), F.kp, fd, (["_law_deck_here", "_law_size"] : List Str), FunD.bindsN (ps := (["_law_deck_here", "_law_size"] : List Str)) F fun _ _ _ _ _ _ us hl => match us, hl with | [_, _], _ => rfl, fun k Wd => ok__law_pick F Wd⟩
theorem scF__law_one : FnScope N__law_one ["_law_deck_here", "_law_some"] (defScope (top 35)) := ⟨rfl, rfl, rfl, by decide +kernel, rfl, by decide +kernel, by decide +kernel⟩
theorem ok__law_one {fd : FuncData} (F : FunD K "_law_one" "_law_one" (defArgs (top 35)) (defBody (top 35)) (defScope (top 35)) [] [] (He.ga K "_law_one") fd) {k : Nat} (Wd : Wld (G K) t P w mg base (evC T NF k) k) : FnOk P w K mg base (L2N.CX P w) (3 * (k + 1)) (He.ga K "_law_one") fd (["_law_deck_here", "_law_some"] : List Str) (spF (G K) (evC T NF (k + 1)) 15 2 true) := by
  exact def_ok (g := G K) (t := t) F scF__law_one (T := T) rfl k__law_one rfl rfl Wd fun z => nomatch z
theorem fn__law_one (X : K.In h) (GX : h.Ns mainGlobals mg) (c : He.SaysD fa fn K) : ∃ a, (true = false → (G K).fa 15 = some a) ∧ mg "_law_one" = some (.ref a) ∧ PySem.W.keepIn K (.ref a) = true ∧
    ∃ (fd : FuncData) (ps : List Str), L2.Binds K fd ps [] ∧ ∀ k, Wld (G K) t P w mg base (evC T NF k) k → FnOk P w K mg base (L2N.CX P w) (3 * (k + 1)) a fd ps (spF (G K) (evC T NF (k + 1)) 15 2 true) := by
  obtain ⟨fd, F⟩ := c.def_ 15 (d := dd "_law_one" 35) rfl
  exact ⟨_, (fun z => (nomatch z)), He.glo_ok X GX (mdef X GX c (f := .glo "_law_one") 15 rfl), F.kp, fd, (["_law_deck_here", "_law_some"] : List Str), FunD.bindsN (ps := (["_law_deck_here", "_law_some"] : List Str)) F fun _ _ _ _ _ _ us hl => match us, hl with | [_, _], _ => rfl, fun k Wd => ok__law_one F Wd⟩
theorem scF__law_sort : FnScope N__law_sort ["_law_thing"] (defScope (top 36)) := ⟨rfl, rfl, rfl, by decide +kernel, rfl, by decide +kernel, by decide +kernel⟩
theorem ok__law_sort {fd : FuncData} (F : FunD K "_law_sort" "_law_sort" (defArgs (top 36)) (defBody (top 36)) (defScope (top 36)) [] [] (He.ga K "_law_sort") fd) {k : Nat} (Wd : Wld (G K) t P w mg base (evC T NF k) k) : FnOk P w K mg base (L2N.CX P w) (3 * (k + 1)) (He.ga K "_law_sort") fd (["_law_thing"] : List Str) (spF (G K) (evC T NF (k + 1)) 16 1 false) := by
  exact def_ok (g := G K) (t := t) F scF__law_sort (T := T) rfl k__law_sort rfl rfl Wd fun z => nomatch z
theorem fn__law_sort (X : K.In h) (GX : h.Ns mainGlobals mg) (c : He.SaysD fa fn K) : ∃ a, (false = false → (G K).fa 16 = some a) ∧ mg "_law_sort" = some (.ref a) ∧ PySem.W.keepIn K (.ref a) = true ∧
    ∃ (fd : FuncData) (ps : List Str), L2.Binds K fd ps [] ∧ ∀ k, Wld (G K) t P w mg base (evC T NF k) k → FnOk P w K mg base (L2N.CX P w) (3 * (k + 1)) a fd ps (spF (G K) (evC T NF (k + 1)) 16 1 false) := by
  obtain ⟨fd, F⟩ := c.def_ 16 (d := dd "_law_sort" 36) rfl
  exact ⟨_, (fun _ => rfl), He.glo_ok X GX (mdef X GX c (f := .glo "_law_sort") 16 rfl), F.kp, fd, (["_law_thing"] : List Str), FunD.bindsN (ps := (["_law_thing"] : List Str)) F fun _ _ _ _ _ _ us hl => match us, hl with | [_], _ => rfl, fun k Wd => ok__law_sort F Wd⟩
theorem scF__law_same : FnScope N__law_same ["_law_told", "_law_due"] (defScope (top 37)) := ⟨rfl, rfl, rfl, by decide +kernel, rfl, by decide +kernel, by decide +kernel⟩
theorem ok__law_same {fd : FuncData} (F : FunD K "_law_same" "_law_same" (defArgs (top 37)) (defBody (top 37)) (defScope (top 37)) [] [] (He.ga K "_law_same") fd) {k : Nat} (Wd : Wld (G K) t P w mg base (evC T NF k) k) : FnOk P w K mg base (L2N.CX P w) (3 * (k + 1)) (He.ga K "_law_same") fd (["_law_told", "_law_due"] : List Str) (spF (G K) (evC T NF (k + 1)) 17 2 false) := by
  exact def_ok (g := G K) (t := t) F scF__law_same (T := T) rfl k__law_same rfl rfl Wd fun z => nomatch z
theorem fn__law_same (X : K.In h) (GX : h.Ns mainGlobals mg) (c : He.SaysD fa fn K) : ∃ a, (false = false → (G K).fa 17 = some a) ∧ mg "_law_same" = some (.ref a) ∧ PySem.W.keepIn K (.ref a) = true ∧
    ∃ (fd : FuncData) (ps : List Str), L2.Binds K fd ps [] ∧ ∀ k, Wld (G K) t P w mg base (evC T NF k) k → FnOk P w K mg base (L2N.CX P w) (3 * (k + 1)) a fd ps (spF (G K) (evC T NF (k + 1)) 17 2 false) := by
  obtain ⟨fd, F⟩ := c.def_ 17 (d := dd "_law_same" 37) rfl
  exact ⟨_, (fun _ => rfl), He.glo_ok X GX (mdef X GX c (f := .glo "_law_same") 17 rfl), F.kp, fd, (["_law_told", "_law_due"] : List Str), FunD.bindsN (ps := (["_law_told", "_law_due"] : List Str)) F fun _ _ _ _ _ _ us hl => match us, hl with | [_, _], _ => rfl, fun k Wd => ok__law_same F Wd⟩
theorem scF__law_a_habit : FnScope N__law_a_habit ["_law_deck_here"] (defScope (top 40)) := ⟨rfl, rfl, rfl, by decide +kernel, rfl, by decide +kernel, by decide +kernel⟩
theorem ok__law_a_habit {fd : FuncData} (F : FunD K "_law_a_habit" "_law_a_habit" (defArgs (top 40)) (defBody (top 40)) (defScope (top 40)) [] [] (He.ga K "_law_a_habit") fd) {k : Nat} (Wd : Wld (G K) t P w mg base (evC T NF k) k) : FnOk P w K mg base (L2N.CX P w) (3 * (k + 1)) (He.ga K "_law_a_habit") fd (["_law_deck_here"] : List Str) (spF (G K) (evC T NF (k + 1)) 18 1 true) := by
  exact def_ok (g := G K) (t := t) F scF__law_a_habit (T := T) rfl k__law_a_habit rfl rfl Wd fun z => nomatch z
theorem fn__law_a_habit (X : K.In h) (GX : h.Ns mainGlobals mg) (c : He.SaysD fa fn K) : ∃ a, (true = false → (G K).fa 18 = some a) ∧ mg "_law_a_habit" = some (.ref a) ∧ PySem.W.keepIn K (.ref a) = true ∧
    ∃ (fd : FuncData) (ps : List Str), L2.Binds K fd ps [] ∧ ∀ k, Wld (G K) t P w mg base (evC T NF k) k → FnOk P w K mg base (L2N.CX P w) (3 * (k + 1)) a fd ps (spF (G K) (evC T NF (k + 1)) 18 1 true) := by
  obtain ⟨fd, F⟩ := c.def_ 20 (d := dd "_law_a_habit" 40) rfl
  exact ⟨_, (fun z => (nomatch z)), He.glo_ok X GX (mdef X GX c (f := .glo "_law_a_habit") 20 rfl), F.kp, fd, (["_law_deck_here"] : List Str), FunD.bindsN (ps := (["_law_deck_here"] : List Str)) F fun _ _ _ _ _ _ us hl => match us, hl with | [_], _ => rfl, fun k Wd => ok__law_a_habit F Wd⟩
theorem scF__law_at_end : FnScope N__law_at_end ["_law_deck_here", "_law_one_here", "_law_other"] (defScope (top 41)) := ⟨rfl, rfl, rfl, by decide +kernel, rfl, by decide +kernel, by decide +kernel⟩
theorem ok__law_at_end {fd : FuncData} (F : FunD K "_law_at_end" "_law_at_end" (defArgs (top 41)) (defBody (top 41)) (defScope (top 41)) [] [] (He.ga K "_law_at_end") fd) {k : Nat} (Wd : Wld (G K) t P w mg base (evC T NF k) k) : FnOk P w K mg base (L2N.CX P w) (3 * (k + 1)) (He.ga K "_law_at_end") fd (["_law_deck_here", "_law_one_here", "_law_other"] : List Str) (spF (G K) (evC T NF (k + 1)) 19 3 true) := by
  exact def_ok (g := G K) (t := t) F scF__law_at_end (T := T) rfl k__law_at_end rfl rfl Wd fun z => nomatch z
theorem fn__law_at_end (X : K.In h) (GX : h.Ns mainGlobals mg) (c : He.SaysD fa fn K) : ∃ a, (true = false → (G K).fa 19 = some a) ∧ mg "_law_at_end" = some (.ref a) ∧ PySem.W.keepIn K (.ref a) = true ∧
    ∃ (fd : FuncData) (ps : List Str), L2.Binds K fd ps [] ∧ ∀ k, Wld (G K) t P w mg base (evC T NF k) k → FnOk P w K mg base (L2N.CX P w) (3 * (k + 1)) a fd ps (spF (G K) (evC T NF (k + 1)) 19 3 true) := by
  obtain ⟨fd, F⟩ := c.def_ 21 (d := dd "_law_at_end" 41) rfl
  exact ⟨_, (fun z => (nomatch z)), He.glo_ok X GX (mdef X GX c (f := .glo "_law_at_end") 21 rfl), F.kp, fd, (["_law_deck_here", "_law_one_here", "_law_other"] : List Str), FunD.bindsN (ps := (["_law_deck_here", "_law_one_here", "_law_other"] : List Str)) F fun _ _ _ _ _ _ us hl => match us, hl with | [_, _, _], _ => rfl, fun k Wd => ok__law_at_end F Wd⟩
theorem scF__law_mistake : FnScope N__law_mistake ["_law_deck_here", "_law_side", "_law_against", "_law_task_so"] (defScope (top 42)) := ⟨rfl, rfl, rfl, by decide +kernel, rfl, by decide +kernel, by decide +kernel⟩
theorem ok__law_mistake {fd : FuncData} (F : FunD K "_law_mistake" "_law_mistake" (defArgs (top 42)) (defBody (top 42)) (defScope (top 42)) [] [] (He.ga K "_law_mistake") fd) {k : Nat} (Wd : Wld (G K) t P w mg base (evC T NF k) k) : FnOk P w K mg base (L2N.CX P w) (3 * (k + 1)) (He.ga K "_law_mistake") fd (["_law_deck_here", "_law_side", "_law_against", "_law_task_so"] : List Str) (spF (G K) (evC T NF (k + 1)) 20 4 true) := by
  exact def_ok (g := G K) (t := t) F scF__law_mistake (T := T) rfl k__law_mistake rfl rfl Wd fun z => nomatch z
theorem fn__law_mistake (X : K.In h) (GX : h.Ns mainGlobals mg) (c : He.SaysD fa fn K) : ∃ a, (true = false → (G K).fa 20 = some a) ∧ mg "_law_mistake" = some (.ref a) ∧ PySem.W.keepIn K (.ref a) = true ∧
    ∃ (fd : FuncData) (ps : List Str), L2.Binds K fd ps [] ∧ ∀ k, Wld (G K) t P w mg base (evC T NF k) k → FnOk P w K mg base (L2N.CX P w) (3 * (k + 1)) a fd ps (spF (G K) (evC T NF (k + 1)) 20 4 true) := by
  obtain ⟨fd, F⟩ := c.def_ 22 (d := dd "_law_mistake" 42) rfl
  exact ⟨_, (fun z => (nomatch z)), He.glo_ok X GX (mdef X GX c (f := .glo "_law_mistake") 22 rfl), F.kp, fd, (["_law_deck_here", "_law_side", "_law_against", "_law_task_so"] : List Str), FunD.bindsN (ps := (["_law_deck_here", "_law_side", "_law_against", "_law_task_so"] : List Str)) F fun _ _ _ _ _ _ us hl => match us, hl with | [_, _, _, _], _ => rfl, fun k Wd => ok__law_mistake F Wd⟩
theorem scF__law_alike : FnScope N__law_alike ["_law_deck_here", "_law_side", "_law_against", "_law_task_so"] (defScope (top 43)) := ⟨rfl, rfl, rfl, by decide +kernel, rfl, by decide +kernel, by decide +kernel⟩
theorem ok__law_alike {fd : FuncData} (F : FunD K "_law_alike" "_law_alike" (defArgs (top 43)) (defBody (top 43)) (defScope (top 43)) [] [] (He.ga K "_law_alike") fd) {k : Nat} (Wd : Wld (G K) t P w mg base (evC T NF k) k) : FnOk P w K mg base (L2N.CX P w) (3 * (k + 1)) (He.ga K "_law_alike") fd (["_law_deck_here", "_law_side", "_law_against", "_law_task_so"] : List Str) (spF (G K) (evC T NF (k + 1)) 21 4 true) := by
  exact def_ok (g := G K) (t := t) F scF__law_alike (T := T) rfl k__law_alike rfl rfl Wd fun z => nomatch z
theorem fn__law_alike (X : K.In h) (GX : h.Ns mainGlobals mg) (c : He.SaysD fa fn K) : ∃ a, (true = false → (G K).fa 21 = some a) ∧ mg "_law_alike" = some (.ref a) ∧ PySem.W.keepIn K (.ref a) = true ∧
    ∃ (fd : FuncData) (ps : List Str), L2.Binds K fd ps [] ∧ ∀ k, Wld (G K) t P w mg base (evC T NF k) k → FnOk P w K mg base (L2N.CX P w) (3 * (k + 1)) a fd ps (spF (G K) (evC T NF (k + 1)) 21 4 true) := by
  obtain ⟨fd, F⟩ := c.def_ 23 (d := dd "_law_alike" 43) rfl
  exact ⟨_, (fun z => (nomatch z)), He.glo_ok X GX (mdef X GX c (f := .glo "_law_alike") 23 rfl), F.kp, fd, (["_law_deck_here", "_law_side", "_law_against", "_law_task_so"] : List Str), FunD.bindsN (ps := (["_law_deck_here", "_law_side", "_law_against", "_law_task_so"] : List Str)) F fun _ _ _ _ _ _ us hl => match us, hl with | [_, _, _, _], _ => rfl, fun k Wd => ok__law_alike F Wd⟩
theorem scF__law_a_task : FnScope N__law_a_task ["_law_deck_here", "_law_side", "_law_against"] (defScope (top 44)) := ⟨rfl, rfl, rfl, by decide +kernel, rfl, by decide +kernel, by decide +kernel⟩
theorem ok__law_a_task {fd : FuncData} (F : FunD K "_law_a_task" "_law_a_task" (defArgs (top 44)) (defBody (top 44)) (defScope (top 44)) [] [] (He.ga K "_law_a_task") fd) {k : Nat} (Wd : Wld (G K) t P w mg base (evC T NF k) k) : FnOk P w K mg base (L2N.CX P w) (3 * (k + 1)) (He.ga K "_law_a_task") fd (["_law_deck_here", "_law_side", "_law_against"] : List Str) (spF (G K) (evC T NF (k + 1)) 22 3 true) := by
  exact def_ok (g := G K) (t := t) F scF__law_a_task (T := T) rfl k__law_a_task rfl rfl Wd fun z => nomatch z
theorem fn__law_a_task (X : K.In h) (GX : h.Ns mainGlobals mg) (c : He.SaysD fa fn K) : ∃ a, (true = false → (G K).fa 22 = some a) ∧ mg "_law_a_task" = some (.ref a) ∧ PySem.W.keepIn K (.ref a) = true ∧
    ∃ (fd : FuncData) (ps : List Str), L2.Binds K fd ps [] ∧ ∀ k, Wld (G K) t P w mg base (evC T NF k) k → FnOk P w K mg base (L2N.CX P w) (3 * (k + 1)) a fd ps (spF (G K) (evC T NF (k + 1)) 22 3 true) := by
  obtain ⟨fd, F⟩ := c.def_ 24 (d := dd "_law_a_task" 44) rfl
  exact ⟨_, (fun z => (nomatch z)), He.glo_ok X GX (mdef X GX c (f := .glo "_law_a_task") 24 rfl), F.kp, fd, (["_law_deck_here", "_law_side", "_law_against"] : List Str), FunD.bindsN (ps := (["_law_deck_here", "_law_side", "_law_against"] : List Str)) F fun _ _ _ _ _ _ us hl => match us, hl with | [_, _, _], _ => rfl, fun k Wd => ok__law_a_task F Wd⟩
theorem scF__law_good : FnScope N__law_good ["_law_deck_here", "_law_side", "_law_against", "_law_task_so"] (defScope (top 45)) := ⟨rfl, rfl, rfl, by decide +kernel, rfl, by decide +kernel, by decide +kernel⟩
theorem ok__law_good {fd : FuncData} (F : FunD K "_law_good" "_law_good" (defArgs (top 45)) (defBody (top 45)) (defScope (top 45)) [] [] (He.ga K "_law_good") fd) {k : Nat} (Wd : Wld (G K) t P w mg base (evC T NF k) k) : FnOk P w K mg base (L2N.CX P w) (3 * (k + 1)) (He.ga K "_law_good") fd (["_law_deck_here", "_law_side", "_law_against", "_law_task_so"] : List Str) (spF (G K) (evC T NF (k + 1)) 23 4 true) := by
  exact def_ok (g := G K) (t := t) F scF__law_good (T := T) rfl k__law_good rfl rfl Wd fun z => nomatch z
theorem fn__law_good (X : K.In h) (GX : h.Ns mainGlobals mg) (c : He.SaysD fa fn K) : ∃ a, (true = false → (G K).fa 23 = some a) ∧ mg "_law_good" = some (.ref a) ∧ PySem.W.keepIn K (.ref a) = true ∧
    ∃ (fd : FuncData) (ps : List Str), L2.Binds K fd ps [] ∧ ∀ k, Wld (G K) t P w mg base (evC T NF k) k → FnOk P w K mg base (L2N.CX P w) (3 * (k + 1)) a fd ps (spF (G K) (evC T NF (k + 1)) 23 4 true) := by
  obtain ⟨fd, F⟩ := c.def_ 25 (d := dd "_law_good" 45) rfl
  exact ⟨_, (fun z => (nomatch z)), He.glo_ok X GX (mdef X GX c (f := .glo "_law_good") 25 rfl), F.kp, fd, (["_law_deck_here", "_law_side", "_law_against", "_law_task_so"] : List Str), FunD.bindsN (ps := (["_law_deck_here", "_law_side", "_law_against", "_law_task_so"] : List Str)) F fun _ _ _ _ _ _ us hl => match us, hl with | [_, _, _, _], _ => rfl, fun k Wd => ok__law_good F Wd⟩
theorem scF_law : FnScope N_law ["_law_script"] (defScope (top 46)) := ⟨rfl, rfl, rfl, by decide +kernel, rfl, by decide +kernel, by decide +kernel⟩
theorem ok_law {fd : FuncData} (X : K.In h) (GX : h.Ns mainGlobals mg) (c : He.SaysD fa fn K) (ex : exB K = true) (TB : ∀ p ∈ tf, LamX.TabB base mg (He.cT K p).1 (He.cT K p).2) (F : FunD K "law" "law" (defArgs (top 46)) (defBody (top 46)) (defScope (top 46)) [] [] (He.ga K "law") fd) {k : Nat} (Wd : Wld (G K) t P w mg base (evC T NF k) k) : FnOk P w K mg base (L2N.CX P w) (3 * (k + 1)) (He.ga K "law") fd (["_law_script"] : List Str) (spF (G K) (evC T NF (k + 1)) 24 1 false) := by
  refine def_ok (g := G K) (t := tl) F scF_law (T := T) rfl k_law rfl rfl ⟨Wd.bl, Wd.nums, Wd.fnb, Wd.fns, Wd.exc⟩ fun _ X' W e1 e2 e3 e4 e5 e6 e7 hr => ?_
  have hcd : fd.code = .ref (He.cT K ("law", none)).1 := by
    obtain ⟨oc, od, dV, kV, doc, pm, an, cdv, ct, osl, rfl, lk, hcd, _, _⟩ := F.ex
    obtain ⟨cc, rfl⟩ := He.codeIn_ref hcd
    have := He.codeOf_eq (p := ("law", none)) lk rfl
    show Value.ref cc = .ref (He.codeOf K ("law", none))
    rw [this]
  exact lam_rule (tryw X GX c ex) e3 e4 (by rw [e5, e4]; exact TB ("law", none) (by decide +kernel)) (e7.trans hcd) (by rw [e6]; exact List.mem_cons_self) (fun p hp _ => by
    rw [e6]
    have hp : p ∈ tabs K := hp
    unfold tabs at hp
    rw [List.mem_singleton] at hp
    rw [hp]
    rfl) hr
theorem fn_law (X : K.In h) (GX : h.Ns mainGlobals mg) (c : He.SaysD fa fn K) (ex : exB K = true) (TB : ∀ p ∈ tf, LamX.TabB base mg (He.cT K p).1 (He.cT K p).2) : ∃ a, (false = false → (G K).fa 24 = some a) ∧ mg "law" = some (.ref a) ∧ PySem.W.keepIn K (.ref a) = true ∧
    ∃ (fd : FuncData) (ps : List Str), L2.Binds K fd ps [] ∧ ∀ k, Wld (G K) t P w mg base (evC T NF k) k → FnOk P w K mg base (L2N.CX P w) (3 * (k + 1)) a fd ps (spF (G K) (evC T NF (k + 1)) 24 1 false) := by
  obtain ⟨fd, F⟩ := c.def_ 26 (d := dd "law" 46) rfl
  exact ⟨_, (fun _ => rfl), He.glo_ok X GX (mdef X GX c (f := .glo "law") 26 rfl), F.kp, fd, (["_law_script"] : List Str), FunD.bindsN (ps := (["_law_script"] : List Str)) F fun _ _ _ _ _ _ us hl => match us, hl with | [_], _ => rfl, fun k Wd => ok_law X GX c ex TB F Wd⟩
theorem top_ok (X : K.In h) (GX : h.Ns mainGlobals mg) (c : He.SaysD fa fn K) (ex : exB K = true) (TB : ∀ p ∈ tf, LamX.TabB base mg (He.cT K p).1 (He.cT K p).2) : Top (G K) t P w mg base T NF where
  bl := fun x hx => mfree X GX c x (List.mem_append_left _ hx)
  nums := fun x n e => by
    have hm := PySem.mem_of_lookup e
    cases hm
  fnb := gx_fnb fun s hs => by
    have hs : s ∈ t.sig := hs
    have key : ∀ s ∈ t.sig, (He.Fa.glo s.1).ok K = true := by
      have q : ∀ s ∈ t.sig, ∃ i : Nat, faG[i]? = some (He.Fa.glo s.1) := by
        simp only [t, List.mem_cons, List.not_mem_nil, or_false, forall_eq_or_imp, forall_eq]
        exact ⟨⟨0, rfl⟩, ⟨1, rfl⟩, ⟨2, rfl⟩, ⟨3, rfl⟩, ⟨4, rfl⟩, ⟨5, rfl⟩, ⟨6, rfl⟩, ⟨7, rfl⟩, ⟨8, rfl⟩, ⟨9, rfl⟩, ⟨10, rfl⟩, ⟨11, rfl⟩, ⟨12, rfl⟩, ⟨13, rfl⟩, ⟨14, rfl⟩, ⟨15, rfl⟩, ⟨16, rfl⟩, ⟨17, rfl⟩, ⟨20, rfl⟩, ⟨21, rfl⟩, ⟨22, rfl⟩, ⟨23, rfl⟩, ⟨24, rfl⟩, ⟨25, rfl⟩, ⟨26, rfl⟩⟩
      intro s hs
      obtain ⟨i, e⟩ := q s hs
      exact mdef X GX c i e
    exact He.glo_ok X GX (key s hs)
  fns := fun i x np io e => by
    match i, e with
    | 0, e =>
      cases e
      obtain ⟨a, h1, h2, h3, fd, ps, h4, h5⟩ := fn_is_within (P := P) (w := w) (base := base) X GX c
      exact ⟨a, h1, h2, h3, fd, ps, h4, h5⟩
    | 1, e =>
      cases e
      obtain ⟨a, h1, h2, h3, fd, ps, h4, h5⟩ := fn_has_items (P := P) (w := w) (base := base) X GX c
      exact ⟨a, h1, h2, h3, fd, ps, h4, h5⟩
    | 2, e =>
      cases e
      obtain ⟨a, h1, h2, h3, fd, ps, h4, h5⟩ := fn_is_habit_value (P := P) (w := w) (base := base) X GX c
      exact ⟨a, h1, h2, h3, fd, ps, h4, h5⟩
    | 3, e =>
      cases e
      obtain ⟨a, h1, h2, h3, fd, ps, h4, h5⟩ := fn_is_side (P := P) (w := w) (base := base) X GX c
      exact ⟨a, h1, h2, h3, fd, ps, h4, h5⟩
    | 4, e =>
      cases e
      obtain ⟨a, h1, h2, h3, fd, ps, h4, h5⟩ := fn_is_task (P := P) (w := w) (base := base) X GX c
      exact ⟨a, h1, h2, h3, fd, ps, h4, h5⟩
    | 5, e =>
      cases e
      obtain ⟨a, h1, h2, h3, fd, ps, h4, h5⟩ := fn_need_all (P := P) (w := w) (base := base) X GX c
      exact ⟨a, h1, h2, h3, fd, ps, h4, h5⟩
    | 6, e =>
      cases e
      obtain ⟨a, h1, h2, h3, fd, ps, h4, h5⟩ := fn_pair_at (P := P) (w := w) (base := base) X GX c
      exact ⟨a, h1, h2, h3, fd, ps, h4, h5⟩
    | 7, e =>
      cases e
      obtain ⟨a, h1, h2, h3, fd, ps, h4, h5⟩ := fn_ends_of (P := P) (w := w) (base := base) X GX c
      exact ⟨a, h1, h2, h3, fd, ps, h4, h5⟩
    | 8, e =>
      cases e
      obtain ⟨a, h1, h2, h3, fd, ps, h4, h5⟩ := fn_first_mistake (P := P) (w := w) (base := base) X GX c
      exact ⟨a, h1, h2, h3, fd, ps, h4, h5⟩
    | 9, e =>
      cases e
      obtain ⟨a, h1, h2, h3, fd, ps, h4, h5⟩ := fn_came_to (P := P) (w := w) (base := base) X GX c
      exact ⟨a, h1, h2, h3, fd, ps, h4, h5⟩
    | 10, e =>
      cases e
      obtain ⟨a, h1, h2, h3, fd, ps, h4, h5⟩ := fn_are_right (P := P) (w := w) (base := base) X GX c
      exact ⟨a, h1, h2, h3, fd, ps, h4, h5⟩
    | 11, e =>
      cases e
      obtain ⟨a, h1, h2, h3, fd, ps, h4, h5⟩ := fn_mistake (P := P) (w := w) (base := base) X GX c
      exact ⟨a, h1, h2, h3, fd, ps, h4, h5⟩
    | 12, e =>
      cases e
      obtain ⟨a, h1, h2, h3, fd, ps, h4, h5⟩ := fn_alike_runs (P := P) (w := w) (base := base) X GX c
      exact ⟨a, h1, h2, h3, fd, ps, h4, h5⟩
    | 13, e =>
      cases e
      obtain ⟨a, h1, h2, h3, fd, ps, h4, h5⟩ := fn__law_deck (P := P) (w := w) (base := base) X GX c
      exact ⟨a, h1, h2, h3, fd, ps, h4, h5⟩
    | 14, e =>
      cases e
      obtain ⟨a, h1, h2, h3, fd, ps, h4, h5⟩ := fn__law_pick (P := P) (w := w) (base := base) X GX c
      exact ⟨a, h1, h2, h3, fd, ps, h4, h5⟩
    | 15, e =>
      cases e
      obtain ⟨a, h1, h2, h3, fd, ps, h4, h5⟩ := fn__law_one (P := P) (w := w) (base := base) X GX c
      exact ⟨a, h1, h2, h3, fd, ps, h4, h5⟩
    | 16, e =>
      cases e
      obtain ⟨a, h1, h2, h3, fd, ps, h4, h5⟩ := fn__law_sort (P := P) (w := w) (base := base) X GX c
      exact ⟨a, h1, h2, h3, fd, ps, h4, h5⟩
    | 17, e =>
      cases e
      obtain ⟨a, h1, h2, h3, fd, ps, h4, h5⟩ := fn__law_same (P := P) (w := w) (base := base) X GX c
      exact ⟨a, h1, h2, h3, fd, ps, h4, h5⟩
    | 18, e =>
      cases e
      obtain ⟨a, h1, h2, h3, fd, ps, h4, h5⟩ := fn__law_a_habit (P := P) (w := w) (base := base) X GX c
      exact ⟨a, h1, h2, h3, fd, ps, h4, h5⟩
    | 19, e =>
      cases e
      obtain ⟨a, h1, h2, h3, fd, ps, h4, h5⟩ := fn__law_at_end (P := P) (w := w) (base := base) X GX c
      exact ⟨a, h1, h2, h3, fd, ps, h4, h5⟩
    | 20, e =>
      cases e
      obtain ⟨a, h1, h2, h3, fd, ps, h4, h5⟩ := fn__law_mistake (P := P) (w := w) (base := base) X GX c
      exact ⟨a, h1, h2, h3, fd, ps, h4, h5⟩
    | 21, e =>
      cases e
      obtain ⟨a, h1, h2, h3, fd, ps, h4, h5⟩ := fn__law_alike (P := P) (w := w) (base := base) X GX c
      exact ⟨a, h1, h2, h3, fd, ps, h4, h5⟩
    | 22, e =>
      cases e
      obtain ⟨a, h1, h2, h3, fd, ps, h4, h5⟩ := fn__law_a_task (P := P) (w := w) (base := base) X GX c
      exact ⟨a, h1, h2, h3, fd, ps, h4, h5⟩
    | 23, e =>
      cases e
      obtain ⟨a, h1, h2, h3, fd, ps, h4, h5⟩ := fn__law_good (P := P) (w := w) (base := base) X GX c
      exact ⟨a, h1, h2, h3, fd, ps, h4, h5⟩
    | 24, e =>
      cases e
      obtain ⟨a, h1, h2, h3, fd, ps, h4, h5⟩ := fn_law (P := P) (w := w) (base := base) X GX c ex TB
      exact ⟨a, h1, h2, h3, fd, ps, h4, h5⟩
  exc := fun x hx => by
    have hx : x ∈ excNames := hx
    obtain ⟨h1, h2, h3, h4⟩ := He.exc_ok (mexc c x hx)
    exact ⟨He.ga K x, He.veBase, "ValueError", _, _, PySem.F.excBase_ValueError, h1, mglo X GX c x (List.mem_append_left _ hx), h2, h3, h4, if_pos hx⟩
end
open PySem.W PySem.Calls in
theorem law_end (ev : ∀ ns : List Int, ns.length ≤ 63 → evC T NF KD 24 [.lst (ns.map D.int)] = .ok (.bl true) false none) : Rlaw.Holds := by
  w_on; o_law
  refine HandSHeadRun.head_any (r := OpenLaw.row Rlaw) (q := view (OpenLaw.row Rlaw).prog [46]) (H := hk) (ob := ob) (M := 6000) (loose := loose) (d := HandSHeadRun.topDef (OpenLaw.row Rlaw).prog 46) (kwd := []) ob_eq
    (by kernel_rfl) (fun s => by kernel_rfl) run (by kernel_rfl) (by kernel_rfl) (by kernel_rfl) (by rfl) (by first | assumption | decide +kernel) (by decide +kernel) ⟨rfl, rfl, rfl, rfl, rfl, by decide +kernel⟩ ?hw ?hc
  case hw => w_witness2
  case hc =>
    refine LamX.walk_ofTsE (l := Rlaw) (n := 63) (k := 3 * KD) (x := "_law_script") (CX := fun w => L2N.CX Rlaw.prog w) rfl (by decide) (by kernel_rfl) ⟨rfl, by decide, by decide⟩ ?F (fun w H s e s' ⟨_, _, _, _, _, _, _, _, _, _, _, _, z⟩ => z)
    intro w mg fa' h Y GX hmg0
    obtain ⟨K, KX, c⟩ := Y
    have hmg : mg ("law" : PySem.Str) = some (.ref fa') := by
      have e : (HandSHeadRun.topDef (OpenLaw.row Rlaw).prog 46).name = ("law" : PySem.Str) := by kernel_rfl
      rw [← e]
      exact hmg0
    have cd := c.t.d
    have ex := c.more
    obtain ⟨fdL, FL⟩ := cd.def_ 26 (d := dd "law" 46) rfl
    have bL := FunD.bindsA (ps := ["_law_script"]) FL fun _ _ _ _ _ _ us hl => match us, hl with | [_], _ => rfl
    have mL := He.glo_ok KX GX (mdef KX GX cd (f := .glo "law") 26 rfl)
    have ea : fa' = He.ga K "law" := by
      rw [hmg] at mL
      cases mL
      rfl
    refine ⟨K, KX, fdL, tf.map (He.cT K), spF (G K) (evC T NF KD) 24 1 false, fun p hp => ?_, fun p hp => ?_, fun p hp => ?_, fun s u => bL s [u] rfl, fun H a ns hl _ hT hS => ?_, fun base hb hn TB => ?_⟩
    · obtain ⟨q, hq, rfl⟩ := List.mem_map.mp hp
      exact c.empty q hq
    · obtain ⟨q, hq, rfl⟩ := List.mem_map.mp hp
      exact c.out q hq
    · obtain ⟨q, hq, rfl⟩ := List.mem_map.mp hp
      exact PySem.W.codeHd_of_K KX (c.hd q hq)
    · refine law_sp (ev ns hl) (by unfold exB at ex; exact (Bool.and_eq_true_iff.mp ex).1) (fun p hp => ?_) hS
      have hp : p ∈ tabs K := hp
      unfold tabs at hp
      simp only [List.mem_cons, List.not_mem_nil, or_false] at hp
      subst hp
      · exact hT (He.cT K (("law", none) : He.Defn)) (List.mem_map_of_mem (a := (("law", none) : He.Defn)) (by decide +kernel))
    · have TB' : ∀ p ∈ tf, LamX.TabB base mg (He.cT K p).1 (He.cT K p).2 := fun p hp => TB _ (List.mem_map_of_mem hp)
      subst ea
      exact ok_law (k := 39) hb hn cd ex TB' FL (wld_all (top_ok (P := Rlaw.prog) (w := w) (base := base) hb hn cd ex TB') 39)
end Cor.L07

theorem PySem.Challenge.cw_onlycoming_k07_whole_sides_and_tasks_holds : PySem.Challenge.rw_onlycoming_k07_whole_sides_and_tasks.Holds :=
  Cor.L07.law_end fun ns hl => Cor.L07.law_ok ns hl
